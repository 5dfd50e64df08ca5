/- The pure statement of the law FnExactInfluenceOf: what the law computes, as a function over numbers and lists, answers true for every input. No conditions beyond the ranges of Go's int. -/
import Derived.Test.YtchcjlkbpmkajaaPFnExactInfluenceOfx5
set_option linter.unusedVariables false
set_option linter.unusedSimpArgs false
namespace Go.Proofs.Ytchcjlkbpmkajaa.Pure
open Go.RowKit Go.Proofs.YtchcjlkbpmkajaaW.PrintWords Go.Proofs.YtchcjlkbpmkajaaW.PrintLast Go.Proofs.Ytchcjlkbpmkajaa.PFnExactInfluenceOf

theorem wrap_id {x : Int} (h0 : -9223372036854775808 ≤ x) (h1 : x ≤ 9223372036854775807) : wrap64 x = x := by
  unfold wrap64
  omega
theorem wf64 {x : Int} (h : (Lit.int .i64 x).wf = true) : -9223372036854775808 ≤ x ∧ x ≤ 9223372036854775807 := by
  simp [Lit.wf, IntKind.min, IntKind.max, IntKind.signed, IntKind.bits] at h
  omega
theorem l1In_eq (a b c : Int) : spec_l1In.f a b c = some (decide (b ≤ a ∧ a ≤ c)) := by
  unfold spec_l1In.f
  split <;> simp_all
  omega
theorem within_eq (a b c : Int) : impl_within.f a b c = some (decide (b ≤ a ∧ a ≤ c)) := by
  unfold impl_within.f
  split <;> simp_all
  omega
def BeamOk (a b c : Int) : Prop := 1 ≤ a ∧ a ≤ 60 ∧ 0 ≤ b ∧ b < c ∧ c ≤ a
instance (a b c : Int) : Decidable (BeamOk a b c) := by unfold BeamOk; infer_instance
theorem l6Beam_eq (a b c : Int) : spec_l6Beam.f a b c = some (decide (BeamOk a b c)) := by
  unfold spec_l6Beam.f
  simp only [l1In_eq, Option.bind_some]
  by_cases h1 : 1 ≤ a ∧ a ≤ 60
  · rw [if_pos (decide_eq_true h1), wrap_id (x := a - 1) (by omega) (by omega)]
    by_cases h2 : 0 ≤ b ∧ b ≤ a - 1
    · rw [if_pos (decide_eq_true h2), wrap_id (x := b + 1) (by omega) (by omega)]
      congr 1
      exact decide_eq_decide.2 ⟨fun h => ⟨h1.1, h1.2, h2.1, by omega, h.2⟩, fun h => ⟨by have := h.2.2.2.1; omega, h.2.2.2.2⟩⟩
    · rw [if_neg (by simpa using h2)]
      congr 1
      exact (decide_eq_false (fun h => h2 ⟨h.2.2.1, by have := h.2.2.2.1; have := h.2.2.2.2; omega⟩)).symm
  · rw [if_neg (by simpa using h1)]
    congr 1
    exact (decide_eq_false (fun h => h1 ⟨h.1, h.2.1⟩)).symm
theorem IsBeam_eq (a b c : Int) : impl_IsBeam.f a b c = some (decide (BeamOk a b c)) := by
  unfold impl_IsBeam.f
  simp only [within_eq, Option.bind_some]
  by_cases h1 : 1 ≤ a ∧ a ≤ 60
  · rw [if_pos (decide_eq_true h1)]
    by_cases h2 : 0 ≤ b
    · rw [if_pos h2]
      by_cases h3 : b < c
      · rw [if_pos h3]
        congr 1
        exact decide_eq_decide.2 ⟨fun h => ⟨h1.1, h1.2, h2, h3, h⟩, fun h => h.2.2.2.2⟩
      · rw [if_neg h3]
        congr 1
        exact (decide_eq_false (fun h => h3 h.2.2.2.1)).symm
    · rw [if_neg h2]
      congr 1
      exact (decide_eq_false (fun h => h2 h.2.2.1)).symm
  · rw [if_neg (by simpa using h1)]
    congr 1
    exact (decide_eq_false (fun h => h1 ⟨h.1, h.2.1⟩)).symm
theorem snocI {α : Type} (p : List α) (x : α) (h : p.length < 9223372036854775807) : wrap64 ((p.length : Int) + 1) = ((p ++ [x]).length : Int) := by
  rw [wrap_id (by omega) (by omega)]
  simp
theorem sz_id (n : Nat) (h : n ≤ 9223372036854775807) : wrap64 (1048576 - (n : Int)) = 1048576 - (n : Int) := wrap_id (by omega) (by omega)
theorem set_rep {α : Type} (q : List α) (z y : α) (n : Nat) : (q ++ List.replicate (n + 1) z).set q.length y = (q ++ [y]) ++ List.replicate n z := by
  rw [List.set_append_right _ _ (Nat.le_refl _), Nat.sub_self]
  simp [List.replicate_succ]
theorem rdL (p s : List S57) (x : S57) : rd_T57 (p ++ x :: s) ((p.length : Int)) = x := by
  simp [rd_T57]
theorem w_per (x y : Int) : wrap64 (x + 18446744073709551616 * y) = wrap64 x := by
  unfold wrap64
  omega
theorem w_rep (a : Int) : ∃ q, wrap64 a = a + 18446744073709551616 * q := ⟨-((a + 9223372036854775808) / 18446744073709551616), by unfold wrap64; omega⟩
theorem w_w (a : Int) : wrap64 (wrap64 a) = wrap64 a := by
  obtain ⟨q, h⟩ := w_rep a
  rw [show wrap64 (wrap64 a) = wrap64 (a + 18446744073709551616 * q) from by rw [← h], w_per]
theorem w_add_l (a b : Int) : wrap64 (wrap64 a + b) = wrap64 (a + b) := by
  obtain ⟨q, h⟩ := w_rep a
  rw [h, show a + 18446744073709551616 * q + b = (a + b) + 18446744073709551616 * q from by omega, w_per]
theorem w_add_r (a b : Int) : wrap64 (a + wrap64 b) = wrap64 (a + b) := by rw [Int.add_comm, w_add_l, Int.add_comm]
theorem w_neg (a : Int) : wrap64 (-wrap64 a) = wrap64 (-a) := by
  obtain ⟨q, h⟩ := w_rep a
  rw [h, show -(a + 18446744073709551616 * q) = -a + 18446744073709551616 * (-q) from by omega, w_per]
theorem w_sub_l (a b : Int) : wrap64 (wrap64 a - b) = wrap64 (a - b) := by rw [Int.sub_eq_add_neg, w_add_l, ← Int.sub_eq_add_neg]
theorem w_sub_r (a b : Int) : wrap64 (a - wrap64 b) = wrap64 (a - b) := by
  obtain ⟨q, h⟩ := w_rep b
  rw [h, show a - (b + 18446744073709551616 * q) = (a - b) + 18446744073709551616 * (-q) from by omega, w_per]
theorem w_mul_l (a b : Int) : wrap64 (wrap64 a * b) = wrap64 (a * b) := by
  obtain ⟨q, h⟩ := w_rep a
  rw [h, Int.add_mul, Int.mul_assoc, w_per]
theorem w_mul_r (a b : Int) : wrap64 (a * wrap64 b) = wrap64 (a * b) := by rw [Int.mul_comm, w_mul_l, Int.mul_comm]
theorem w_zero : wrap64 0 = 0 := by simp [wrap64]
def Mom (p : Int) : List S57 → Int
  | [] => 0
  | x :: s => x.f1 * (x.f0 - p) + Mom p s
theorem l2Moment_l0 (m : Int) : ∀ (s p : List S57) (a : Int) (k : Nat), (p ++ s).length < 4611686018427387904 → s.length < k →
    spec_l2Moment.l0 k (p ++ s) m (wrap64 a) (p.length : Int) = some (wrap64 (a + Mom m s)) := by
  intro s
  induction s with
  | nil =>
    intro p a k hl hk
    obtain ⟨k, rfl⟩ : ∃ m, k = m + 1 := ⟨k - 1, by simp at hk; omega⟩
    simp only [spec_l2Moment.l0]
    rw [if_neg (by simp)]
    simp [Mom]
  | cons x s ih =>
    intro p a k hl hk
    obtain ⟨k, rfl⟩ : ∃ m, k = m + 1 := ⟨k - 1, by simp at hk; omega⟩
    simp only [spec_l2Moment.l0]
    rw [if_pos (by simp; omega), if_pos (by omega), rdL, snocI p x (by simp at hl; omega), List.append_cons p x s, w_mul_r, w_add_l, w_add_r]
    rw [ih (p ++ [x]) _ k (by simpa using hl) (by simp at hk; omega)]
    simp only [Mom]
    rw [Int.add_assoc]
theorem l2Moment_eq (l : List S57) (m : Int) (k : Nat) (hl : l.length < 4611686018427387904) (hk : l.length < k) : spec_l2Moment.f k l m = some (wrap64 (Mom m l)) := by
  have e := l2Moment_l0 m l [] 0 k (by simpa using hl) hk
  rw [Int.zero_add, w_zero] at e
  exact e
theorem momentAbout_l0 (m : Int) : ∀ (s p : List S57) (a : Int) (k : Nat), (p ++ s).length < 4611686018427387904 → s.length < k →
    impl_momentAbout.l0 k m (wrap64 a) (p ++ s) ((p ++ s).length : Int) (p.length : Int) = some (wrap64 (a + Mom m s)) := by
  intro s
  induction s with
  | nil =>
    intro p a k hl hk
    obtain ⟨k, rfl⟩ : ∃ m, k = m + 1 := ⟨k - 1, by simp at hk; omega⟩
    simp only [impl_momentAbout.l0]
    rw [if_neg (by simp)]
    simp [Mom]
  | cons x s ih =>
    intro p a k hl hk
    obtain ⟨k, rfl⟩ : ∃ m, k = m + 1 := ⟨k - 1, by simp at hk; omega⟩
    simp only [impl_momentAbout.l0]
    rw [if_pos (by simp; omega), if_pos (by omega), if_pos (by simp; omega), rdL, snocI p x (by simp at hl; omega), List.append_cons p x s, w_mul_r, w_add_l, w_add_r]
    rw [ih (p ++ [x]) _ k (by simpa using hl) (by simp at hk; omega)]
    simp only [Mom]
    rw [Int.add_assoc]
theorem momentAbout_eq (l : List S57) (m : Int) (k : Nat) (hl : l.length < 4611686018427387904) (hk : l.length < k) : impl_momentAbout.f k l m = some (wrap64 (Mom m l)) := by
  have e := momentAbout_l0 m l [] 0 k (by simpa using hl) hk
  rw [Int.zero_add, w_zero] at e
  exact e
theorem rd_map (F : List Int) (i : Int) (h0 : 0 ≤ i) (h1 : i < F.length) : rd (F.map wrap64) i = wrap64 (F.getD i.toNat 0) := by
  have h2 : i.toNat < F.length := by omega
  simp [rd, List.getD_eq_getElem?_getD, List.getElem?_map, List.getElem?_eq_getElem h2]
/-- The sum of the first p numbers; and the sum of these sums. -/
def sumP (F : List Int) : Nat → Int
  | 0 => 0
  | p + 1 => sumP F p + F.getD p 0
def sumW (F : List Int) : Nat → Int
  | 0 => 0
  | p + 1 => sumW F p + sumP F (p + 1)
theorem getD_set (F : List Int) (a p : Nat) (v : Int) (ha : a < F.length) : (F.set a v).getD p 0 = if a = p then v else F.getD p 0 := by
  simp only [List.getD_eq_getElem?_getD, List.getElem?_set]
  by_cases h : a = p
  · subst h
    simp [ha]
  · simp [h]
theorem sumP_set (F : List Int) (a : Nat) (v : Int) (ha : a < F.length) (p : Nat) : sumP (F.set a v) p = sumP F p + (if a < p then v - F.getD a 0 else 0) := by
  induction p with
  | zero => simp [sumP]
  | succ p ih =>
    simp only [sumP, ih, getD_set F a p v ha]
    by_cases h : a = p
    · subst h
      rw [if_neg (by omega), if_pos rfl, if_pos (by omega)]
      omega
    · rw [if_neg h]
      by_cases h2 : a < p
      · rw [if_pos h2, if_pos (by omega)]
        omega
      · rw [if_neg h2, if_neg (by omega)]
        omega
def posp (x : Int) : Int := if x < 0 then 0 else x
theorem sumW_set (F : List Int) (a : Nat) (v : Int) (ha : a < F.length) (p : Nat) : sumW (F.set a v) p = sumW F p + (v - F.getD a 0) * posp ((p : Int) - a) := by
  induction p with
  | zero =>
    have : posp (((0 : Nat) : Int) - a) = 0 := by unfold posp; split <;> omega
    rw [this]
    simp [sumW]
  | succ p ih =>
    simp only [sumW, ih, sumP_set F a v ha]
    by_cases h : a < p + 1
    · rw [if_pos h]
      have e1 : posp ((p : Int) - a) = p - a := by unfold posp; rw [if_neg (by omega)]
      have e2 : posp (((p + 1 : Nat) : Int) - a) = p - a + 1 := by unfold posp; rw [if_neg (by omega)]; omega
      rw [e1, e2, Int.mul_add, Int.mul_one]
      omega
    · rw [if_neg h]
      have e1 : posp ((p : Int) - a) = 0 := by unfold posp; split <;> omega
      have e2 : posp (((p + 1 : Nat) : Int) - a) = 0 := by unfold posp; split <;> omega
      rw [e1, e2]
      simp
theorem sumP_rep (n p : Nat) : sumP (List.replicate n 0) p = 0 := by
  induction p with
  | zero => rfl
  | succ p ih =>
    simp only [sumP, ih]
    by_cases h : p < n <;> simp [List.getD_eq_getElem?_getD, List.getElem?_replicate, h]
theorem sumW_rep (n p : Nat) : sumW (List.replicate n 0) p = 0 := by
  induction p with
  | zero => rfl
  | succ p ih => simp only [sumW, ih, sumP_rep]; rfl
theorem range_rd (f : Nat → Int) (n : Nat) (i : Nat) (h : i < n) : rd ((List.range n).map f) (i : Int) = f i := by
  simp [rd, List.getD_eq_getElem?_getD, List.getElem?_map, List.getElem?_range h]
theorem range_snoc (f : Nat → Int) (n : Nat) : (List.range n).map f ++ [f n] = (List.range (n + 1)).map f := by
  rw [List.range_succ, List.map_append]
  rfl
def bendS (g p : Int) : List S57 → Int
  | [] => 0
  | x :: s => g * (x.f1 * posp (p - x.f0)) + bendS g p s
/-- The bend at a place, times the span. -/
def Bend (l r p : Int) (row : List S57) : Int := -Mom r row * posp (p - l) + Mom l row * posp (p - r) - bendS (r - l) p row
def inPlace (x : S57) : Prop := 0 ≤ x.f0 ∧ x.f0 ≤ 60
theorem mx_posp (x : Int) : mx x 0 = posp x := by
  unfold mx posp
  rfl
theorem bendAt_l0 (a0 a1 a2 q : Int) (hq : 0 ≤ q ∧ q ≤ 60) : ∀ (s p : List S57) (a : Int) (k : Nat), (∀ x ∈ s, inPlace x) → (p ++ s).length < 4611686018427387904 → s.length < k →
    impl_Beam_bendAt.l0 k q (wrap64 a) (p ++ s) ((p ++ s).length : Int) (p.length : Int) a0 a1 a2 = some (wrap64 (a - bendS (a2 - a1) q s)) := by
  intro s
  induction s with
  | nil =>
    intro p a k hs hl hk
    obtain ⟨k, rfl⟩ : ∃ m, k = m + 1 := ⟨k - 1, by simp at hk; omega⟩
    simp only [impl_Beam_bendAt.l0]
    rw [if_neg (by simp)]
    simp [bendS]
  | cons x s ih =>
    intro p a k hs hl hk
    obtain ⟨k, rfl⟩ : ∃ m, k = m + 1 := ⟨k - 1, by simp at hk; omega⟩
    have hx : inPlace x := hs x (by simp)
    unfold inPlace at hx
    simp only [impl_Beam_bendAt.l0, impl_Beam_span.f, Option.bind_some]
    rw [if_pos (by simp; omega), if_pos (by omega), if_pos (by simp; omega), rdL, snocI p x (by simp at hl; omega), List.append_cons p x s, w_mul_l, Int.mul_assoc, w_mul_l, wrap_id (x := q - x.f0) (by omega) (by omega), mx_posp, w_sub_l, w_sub_r]
    rw [ih (p ++ [x]) _ k (fun y hy => hs y (by simp [hy])) (by simpa using hl) (by simp at hk; omega)]
    simp only [bendS]
    congr 2
    omega
theorem bendAt_eq (a0 a1 a2 q : Int) (l : List S57) (k : Nat) (h1 : 0 ≤ a1 ∧ a1 ≤ 60) (h2 : 0 ≤ a2 ∧ a2 ≤ 60) (hq : 0 ≤ q ∧ q ≤ 60) (hs : ∀ x ∈ l, inPlace x) (hl : l.length < 4611686018427387904) (hk : l.length < k) :
    impl_Beam_bendAt.f k a0 a1 a2 l q = some (wrap64 (Bend a1 a2 q l)) := by
  unfold impl_Beam_bendAt.f impl_Beam_supports.f
  rw [momentAbout_eq _ _ _ hl hk, momentAbout_eq _ _ _ hl hk]
  simp only [Option.bind_some]
  rw [wrap_id (x := q - a1) (by omega) (by omega), wrap_id (x := q - a2) (by omega) (by omega), mx_posp, mx_posp, w_neg, w_mul_l, w_mul_l, w_add_l, w_add_r]
  exact bendAt_l0 a0 a1 a2 q hq l [] _ k hs (by simpa using hl) hk
/-! the other way: by forces, shears and sums -/
def forcesL (g : Int) : List Int → List S57 → List Int
  | F, [] => F
  | F, x :: s => forcesL g (F.set x.f0.toNat (F.getD x.f0.toNat 0 - g * x.f1)) s
theorem forcesL_length (g : Int) : ∀ (s : List S57) (F : List Int), (forcesL g F s).length = F.length := by
  intro s
  induction s with
  | nil => intro F; rfl
  | cons x s ih => intro F; simp [forcesL, ih]
theorem l6Forces_l0 (a0 a1 a2 : Int) : ∀ (s p : List S57) (F : List Int) (k : Nat), (∀ x ∈ s, 0 ≤ x.f0 ∧ x.f0 < F.length) → (p ++ s).length < 4611686018427387904 → s.length < k →
    spec_l6Forces.l0 k (p ++ s) (F.map wrap64) (p.length : Int) a0 a1 a2 = some ((forcesL (a2 - a1) F s).map wrap64) := by
  intro s
  induction s with
  | nil =>
    intro p F k hs hl hk
    obtain ⟨k, rfl⟩ : ∃ m, k = m + 1 := ⟨k - 1, by simp at hk; omega⟩
    simp only [spec_l6Forces.l0]
    rw [if_neg (by simp)]
    simp [forcesL]
  | cons x s ih =>
    intro p F k hs hl hk
    obtain ⟨k, rfl⟩ : ∃ m, k = m + 1 := ⟨k - 1, by simp at hk; omega⟩
    have hx := hs x (by simp)
    simp only [spec_l6Forces.l0]
    rw [if_pos (by simp; omega), if_pos (by omega), rdL, if_pos hx.1, if_pos (by simpa using hx.2), snocI p x (by simp at hl; omega), List.append_cons p x s, rd_map _ _ hx.1 hx.2, w_mul_l, w_sub_l, w_sub_r, ← List.map_set]
    rw [ih (p ++ [x]) _ k (fun y hy => by simpa using hs y (by simp [hy])) (by simpa using hl) (by simp at hk; omega)]
    simp only [forcesL]
def forces0 (n : Nat) (l r : Int) (row : List S57) : List Int := ((List.replicate n (0 : Int)).set l.toNat (-Mom r row)).set r.toNat (Mom l row)
theorem l6Forces_eq (a0 a1 a2 : Int) (l : List S57) (k : Nat) (hb : BeamOk a0 a1 a2) (hs : ∀ x ∈ l, 0 ≤ x.f0 ∧ x.f0 ≤ a0) (hl : l.length < 4611686018427387904) (hk : l.length < k) :
    spec_l6Forces.f k a0 a1 a2 l = some ((forcesL (a2 - a1) (forces0 (a0 + 1).toNat a1 a2 l) l).map wrap64) := by
  unfold BeamOk at hb
  unfold spec_l6Forces.f
  rw [wrap_id (x := a0 + 1) (by omega) (by omega), if_pos (by omega), if_pos (by omega), l2Moment_eq _ _ _ hl hk, l2Moment_eq _ _ _ hl hk]
  simp only [Option.bind_some]
  rw [if_pos (by omega), if_pos (by simp; omega), if_pos (by omega), if_pos (by simp; omega), w_neg]
  have e : ((List.replicate (a0 + 1).toNat (0 : Int)).set a1.toNat (wrap64 (-Mom a2 l))).set a2.toNat (wrap64 (Mom a1 l)) = (forces0 (a0 + 1).toNat a1 a2 l).map wrap64 := by
    unfold forces0
    rw [List.map_set, List.map_set, List.map_replicate, w_zero]
  rw [e]
  exact l6Forces_l0 a0 a1 a2 l [] _ k (fun x hx => ⟨(hs x hx).1, by have := hs x hx; simp [forces0]; omega⟩) (by simpa using hl) hk
def shL (F : List Int) (n : Nat) : List Int := (List.range n).map (fun q => wrap64 (sumP F (q + 1)))
def bdL (F : List Int) (n : Nat) : List Int := (List.range n).map (fun q => wrap64 (sumW F q))
theorem l6Shears_l0 (F : List Int) (a1 a2 : Int) : ∀ (d p k : Nat), p + d < F.length → F.length ≤ 100 → d < k →
    spec_l6Shears.l0 k (shL F p) (wrap64 (sumP F p)) (F.map wrap64) (p : Int) ((p + d : Nat) : Int) a1 a2 = some (shL F (p + d)) := by
  intro d
  induction d with
  | zero =>
    intro p k hp hf hk
    obtain ⟨k, rfl⟩ : ∃ m, k = m + 1 := ⟨k - 1, by omega⟩
    simp only [spec_l6Shears.l0]
    rw [if_neg (by simp)]
    rfl
  | succ d ih =>
    intro p k hp hf hk
    obtain ⟨k, rfl⟩ : ∃ m, k = m + 1 := ⟨k - 1, by omega⟩
    simp only [spec_l6Shears.l0]
    rw [if_pos (by omega), if_pos (by omega), if_pos (by simp; omega), if_pos (by simp [shL]; omega), rd_map _ _ (by omega) (by omega), w_add_l, w_add_r, wrap_id (x := (p : Int) + 1) (by omega) (by omega)]
    have e : shL F p ++ [wrap64 (sumP F p + F.getD ((p : Int)).toNat 0)] = shL F (p + 1) := range_snoc (fun q => wrap64 (sumP F (q + 1))) p
    rw [e]
    have h := ih (p + 1) k (by omega) hf (by omega)
    rw [show p + 1 + d = p + (d + 1) from by omega] at h
    exact h
theorem l6Bends_l0 (F : List Int) : ∀ (d p k : Nat), p + d ≤ 100 → d < k →
    spec_l6Bends.l0 k (bdL F (p + 1)) (shL F (p + d)) (p : Int) = some (bdL F (p + d + 1)) := by
  intro d
  induction d with
  | zero =>
    intro p k hp hk
    obtain ⟨k, rfl⟩ : ∃ m, k = m + 1 := ⟨k - 1, by omega⟩
    simp only [spec_l6Bends.l0]
    rw [if_neg (by simp [shL])]
  | succ d ih =>
    intro p k hp hk
    obtain ⟨k, rfl⟩ : ∃ m, k = m + 1 := ⟨k - 1, by omega⟩
    simp only [spec_l6Bends.l0]
    rw [if_pos (by simp [shL]; omega), if_pos (by omega), if_pos (by simp [bdL]; omega), if_pos (by simp [bdL]; omega), wrap_id (x := (p : Int) + 1) (by omega) (by omega)]
    have e1 : rd (bdL F (p + 1)) (p : Int) = wrap64 (sumW F p) := range_rd _ _ _ (by omega)
    have e2 : rd (shL F (p + (d + 1))) (p : Int) = wrap64 (sumP F (p + 1)) := range_rd _ _ _ (by omega)
    rw [e1, e2, w_add_l, w_add_r]
    have e : bdL F (p + 1) ++ [wrap64 (sumW F p + sumP F (p + 1))] = bdL F (p + 1 + 1) := range_snoc (fun q => wrap64 (sumW F q)) (p + 1)
    rw [e]
    have h := ih (p + 1) k (by omega) (by omega)
    rw [show p + 1 + d = p + (d + 1) from by omega] at h
    exact h
/-- The forces on a beam with a row. -/
def forces (a0 a1 a2 : Int) (l : List S57) : List Int := forcesL (a2 - a1) (forces0 (a0 + 1).toNat a1 a2 l) l
theorem forces_length (a0 a1 a2 : Int) (l : List S57) : (forces a0 a1 a2 l).length = (a0 + 1).toNat := by simp [forces, forcesL_length, forces0]
theorem l6Shears_eq (a0 a1 a2 : Int) (l : List S57) (k : Nat) (hb : BeamOk a0 a1 a2) (hs : ∀ x ∈ l, 0 ≤ x.f0 ∧ x.f0 ≤ a0) (hl : l.length < 4611686018427387904) (hk : l.length + 100 < k) :
    spec_l6Shears.f k a0 a1 a2 l = some (shL (forces a0 a1 a2 l) a0.toNat) := by
  have hf := forces_length a0 a1 a2 l
  unfold spec_l6Shears.f
  rw [l6Forces_eq a0 a1 a2 l k hb hs hl (by omega), Option.bind_some]
  unfold BeamOk at hb
  have h := l6Shears_l0 (forces a0 a1 a2 l) a1 a2 a0.toNat 0 k (by omega) (by omega) (by omega)
  rw [show ((0 + a0.toNat : Nat) : Int) = a0 from by omega, Nat.zero_add] at h
  rw [← h]
  simp only [sumP, w_zero, forces]
  rfl
theorem l6Bends_eq (a0 a1 a2 : Int) (l : List S57) (k : Nat) (hb : BeamOk a0 a1 a2) (hs : ∀ x ∈ l, 0 ≤ x.f0 ∧ x.f0 ≤ a0) (hl : l.length < 4611686018427387904) (hk : l.length + 100 < k) :
    spec_l6Bends.f k a0 a1 a2 l = some (bdL (forces a0 a1 a2 l) (a0.toNat + 1)) := by
  unfold spec_l6Bends.f
  rw [l6Shears_eq a0 a1 a2 l k hb hs hl hk, Option.bind_some]
  unfold BeamOk at hb
  have h := l6Bends_l0 (forces a0 a1 a2 l) a0.toNat 0 k (by omega) (by omega)
  have e : bdL (forces a0 a1 a2 l) 1 = [0] := by simp [bdL, sumW, w_zero]
  simp only [Nat.zero_add, e] at h
  exact h
theorem sumW_forcesL (g : Int) (p : Nat) : ∀ (s : List S57) (F : List Int), (∀ x ∈ s, 0 ≤ x.f0 ∧ x.f0 < F.length) → sumW (forcesL g F s) p = sumW F p - bendS g p s := by
  intro s
  induction s with
  | nil => intro F _; simp [forcesL, bendS]
  | cons x s ih =>
    intro F hs
    have hx := hs x (by simp)
    simp only [forcesL, bendS]
    rw [ih _ (fun y hy => by simpa using hs y (by simp [hy])), sumW_set F _ _ (by omega)]
    rw [show ((x.f0.toNat : Nat) : Int) = x.f0 from by omega, show F.getD x.f0.toNat 0 - g * x.f1 - F.getD x.f0.toNat 0 = -(g * x.f1) from by omega, Int.neg_mul, Int.mul_assoc]
    omega
theorem sumW_forces (a0 a1 a2 : Int) (l : List S57) (p : Nat) (hb : BeamOk a0 a1 a2) (hs : ∀ x ∈ l, 0 ≤ x.f0 ∧ x.f0 ≤ a0) : sumW (forces a0 a1 a2 l) p = Bend a1 a2 p l := by
  unfold BeamOk at hb
  unfold forces Bend
  rw [sumW_forcesL _ _ _ _ (fun x hx => ⟨(hs x hx).1, by have := hs x hx; simp [forces0]; omega⟩)]
  unfold forces0
  rw [sumW_set _ _ _ (by simp; omega), sumW_set _ _ _ (by simp; omega), sumW_rep, getD_set _ _ _ _ (by simp; omega), if_neg (by omega)]
  have z : ∀ j, (List.replicate (a0 + 1).toNat (0 : Int)).getD j 0 = 0 := fun j => by
    by_cases h : j < (a0 + 1).toNat <;> simp [List.getD_eq_getElem?_getD, List.getElem?_replicate, h]
  rw [z, z, show ((a1.toNat : Nat) : Int) = a1 from by omega, show ((a2.toNat : Nat) : Int) = a2 from by omega]
  simp
/-- What the two ways tell of the bend at a place. -/
theorem bends_rd (a0 a1 a2 q : Int) (l : List S57) (hb : BeamOk a0 a1 a2) (hs : ∀ x ∈ l, 0 ≤ x.f0 ∧ x.f0 ≤ a0) (hq : 0 ≤ q ∧ q ≤ a0) :
    rd (bdL (forces a0 a1 a2 l) (a0.toNat + 1)) q = wrap64 (Bend a1 a2 q l) := by
  have h := range_rd (fun q => wrap64 (sumW (forces a0 a1 a2 l) q)) (a0.toNat + 1) q.toNat (by omega)
  rw [show ((q.toNat : Nat) : Int) = q from by omega] at h
  unfold bdL
  rw [h, sumW_forces a0 a1 a2 l q.toNat hb hs, show ((q.toNat : Nat) : Int) = q from by omega]
theorem bdL_length (F : List Int) (n : Nat) : (bdL F n).length = n := by simp [bdL]
theorem isOnBeam_eq (a b c p : Int) : impl_isOnBeam.f a b c p = some (decide (BeamOk a b c ∧ 0 ≤ p ∧ p ≤ a)) := by
  unfold impl_isOnBeam.f
  rw [IsBeam_eq, Option.bind_some]
  by_cases h : BeamOk a b c
  · rw [if_pos (decide_eq_true h), within_eq, Option.bind_some]
    simp [h]
  · rw [if_neg (by simpa using h)]
    simp [h]
theorem rdI (p s : List Int) (x : Int) : rd (p ++ x :: s) ((p.length : Int)) = x := by
  simp [rd]
theorem eqIntS_l0 : ∀ (s p : List Int) (k : Nat), (p ++ s).length < 4611686018427387904 → s.length < k → laws_eqIntS.l0 k (p ++ s) (p ++ s) (p.length : Int) = some true := by
  intro s
  induction s with
  | nil =>
    intro p k hl hk
    obtain ⟨k, rfl⟩ : ∃ m, k = m + 1 := ⟨k - 1, by simp at hk; omega⟩
    simp only [laws_eqIntS.l0]
    rw [if_neg (by simp)]
  | cons x s ih =>
    intro p k hl hk
    obtain ⟨k, rfl⟩ : ∃ m, k = m + 1 := ⟨k - 1, by simp at hk; omega⟩
    simp only [laws_eqIntS.l0]
    rw [if_pos (by simp; omega), if_pos (by omega), if_pos (by simp; omega), if_pos trivial, snocI p x (by simp at hl; omega)]
    have e := ih (p ++ [x]) k (by simpa using hl) (by simp at hk; omega)
    rw [List.append_assoc] at e
    exact e
theorem eqIntS_refl (l : List Int) (k : Nat) (hl : l.length < 4611686018427387904) (hk : l.length < k) : laws_eqIntS.f k l l = some true := by
  unfold laws_eqIntS.f
  rw [if_pos rfl]
  exact eqIntS_l0 l [] k (by simpa using hl) hk
def seqI : Int → Nat → List Int
  | _, 0 => []
  | m, n + 1 => m :: seqI (m + 1) n
theorem markIntS_l0 : ∀ (s p : List Int) (m : Int) (k : Nat), (p ++ s).length < 1073741824 → 0 ≤ m → m + s.length < 4294967296 → s.length < k →
    laws_markIntS.l0 k (p ++ s) m (p.length : Int) = some (m + s.length, p ++ seqI m s.length) := by
  intro s
  induction s with
  | nil =>
    intro p m k hl h0 h1 hk
    obtain ⟨k, rfl⟩ : ∃ j, k = j + 1 := ⟨k - 1, by simp at hk; omega⟩
    simp only [laws_markIntS.l0]
    rw [if_neg (by simp)]
    simp [seqI]
  | cons x s ih =>
    intro p m k hl h0 h1 hk
    obtain ⟨k, rfl⟩ : ∃ j, k = j + 1 := ⟨k - 1, by simp at hk; omega⟩
    simp only [laws_markIntS.l0]
    simp only [List.length_cons, Int.natCast_add, Int.natCast_one, List.length_append] at h1 hl hk
    rw [if_pos (by simp; omega), if_pos (by omega)]
    simp only [Int.toNat_natCast, List.set_append_right _ _ (Nat.le_refl _), Nat.sub_self, List.set_cons_zero]
    rw [snocI p x (by omega), wrap_id (x := m + 1) (by omega) (by omega), List.append_cons]
    rw [show ((p ++ [x]).length : Int) = ((p ++ [m]).length : Int) from by simp]
    rw [ih (p ++ [m]) (m + 1) k (by simp; omega) (by omega) (by omega) (by omega)]
    simp [seqI]
    omega
theorem heldIntS_l0 : ∀ (n : Nat) (p : List Int) (m : Int) (k : Nat), p.length + n < 1073741824 → 0 ≤ m → m + n < 4294967296 → n < k →
    laws_heldIntS.l0 k (p ++ seqI m n) m (p.length : Int) = some (m + n) := by
  intro n
  induction n with
  | zero =>
    intro p m k hl h0 h1 hk
    obtain ⟨k, rfl⟩ : ∃ j, k = j + 1 := ⟨k - 1, by omega⟩
    simp only [laws_heldIntS.l0]
    rw [if_neg (by simp [seqI])]
    simp
  | succ n ih =>
    intro p m k hl h0 h1 hk
    obtain ⟨k, rfl⟩ : ∃ j, k = j + 1 := ⟨k - 1, by omega⟩
    rw [show seqI m (n + 1) = m :: seqI (m + 1) n from rfl]
    simp only [laws_heldIntS.l0]
    rw [if_pos (by simp; omega), if_pos (by omega), rdI, if_pos rfl, wrap_id (x := m + 1) (by omega) (by omega), snocI p m (by omega), List.append_cons]
    rw [ih (p ++ [m]) (m + 1) k (by simp; omega) (by omega) (by omega) (by omega)]
    congr 1
    omega
theorem markIntS_eq (l : List Int) (m : Int) (k : Nat) (hl : l.length < 1073741824) (h0 : 0 ≤ m) (h1 : m + l.length < 4294967296) (hk : l.length < k) : laws_markIntS.f k l m = some (m + l.length, seqI m l.length) :=
  markIntS_l0 l [] m k (by simpa using hl) h0 h1 hk
theorem heldIntS_eq (n : Nat) (m : Int) (k : Nat) (hl : n < 1073741824) (h0 : 0 ≤ m) (h1 : m + n < 4294967296) (hk : n < k) : laws_heldIntS.f k (seqI m n) m = some (m + n) :=
  heldIntS_l0 n [] m k (by simpa using hl) h0 h1 hk
theorem bne_refl (b : Bool) : (b != b) = false := by cases b <;> rfl
def inflL (a0 a1 a2 q : Int) (n : Nat) : List Int := (List.range n).map (fun (x : Nat) => wrap64 (Bend a1 a2 q [⟨(x : Int), 1⟩]))
theorem l6Influence_l0 (a0 a1 a2 q : Int) (hb : BeamOk a0 a1 a2) (hq : 0 ≤ q ∧ q ≤ a0) : ∀ (d x k : Nat), ((x + d : Nat) : Int) = a0 + 1 → d + 200 < k →
    spec_l6Influence.l0 k q (inflL a0 a1 a2 q x) (x : Int) a0 a1 a2 = some (inflL a0 a1 a2 q (x + d)) := by
  have hb' := hb
  unfold BeamOk at hb'
  intro d
  induction d with
  | zero =>
    intro x k hx hk
    obtain ⟨k, rfl⟩ : ∃ m, k = m + 1 := ⟨k - 1, by omega⟩
    simp only [spec_l6Influence.l0]
    rw [if_neg (by omega)]
    rfl
  | succ d ih =>
    intro x k hx hk
    obtain ⟨k, rfl⟩ : ∃ m, k = m + 1 := ⟨k - 1, by omega⟩
    have hs : ∀ y ∈ [(⟨(x : Int), 1⟩ : S57)], 0 ≤ y.f0 ∧ y.f0 ≤ a0 := by
      intro y hy
      simp at hy
      subst hy
      simp
      omega
    simp only [spec_l6Influence.l0]
    rw [if_pos (by omega), l6Bends_eq a0 a1 a2 _ k hb hs (by simp) (by simp; omega), Option.bind_some, if_pos hq.1, if_pos (by rw [bdL_length]; omega), if_pos (by simp [inflL]; omega), bends_rd a0 a1 a2 q _ hb hs hq, wrap_id (x := (x : Int) + 1) (by omega) (by omega)]
    have e : inflL a0 a1 a2 q x ++ [wrap64 (Bend a1 a2 q [⟨(x : Int), 1⟩])] = inflL a0 a1 a2 q (x + 1) := range_snoc (fun (x : Nat) => wrap64 (Bend a1 a2 q [⟨(x : Int), 1⟩])) x
    rw [e]
    have h := ih (x + 1) k (by omega) (by omega)
    rw [show x + 1 + d = x + (d + 1) from by omega] at h
    exact h
theorem impl_l0 (a0 a1 a2 q : Int) (hb : BeamOk a0 a1 a2) (hq : 0 ≤ q ∧ q ≤ a0) : ∀ (d x k : Nat), ((x + d : Nat) : Int) = a0 + 1 → d + 200 < k →
    impl_InfluenceOf.l0 k q (inflL a0 a1 a2 q x) (a0 + 1) (x : Int) a0 a1 a2 = some (inflL a0 a1 a2 q (x + d), true) := by
  have hb' := hb
  unfold BeamOk at hb'
  intro d
  induction d with
  | zero =>
    intro x k hx hk
    obtain ⟨k, rfl⟩ : ∃ m, k = m + 1 := ⟨k - 1, by omega⟩
    simp only [impl_InfluenceOf.l0]
    rw [if_neg (by omega)]
    rfl
  | succ d ih =>
    intro x k hx hk
    obtain ⟨k, rfl⟩ : ∃ m, k = m + 1 := ⟨k - 1, by omega⟩
    have hs : ∀ y ∈ [(⟨(x : Int), 1⟩ : S57)], inPlace y := by
      intro y hy
      simp at hy
      subst hy
      unfold inPlace
      simp
      omega
    simp only [impl_InfluenceOf.l0]
    rw [if_pos (by omega), bendAt_eq a0 a1 a2 q _ k (by omega) (by omega) (by omega) hs (by simp) (by simp; omega), Option.bind_some, if_pos (by simp [inflL]; omega), wrap_id (x := (x : Int) + 1) (by omega) (by omega)]
    have e : inflL a0 a1 a2 q x ++ [wrap64 (Bend a1 a2 q [⟨(x : Int), 1⟩])] = inflL a0 a1 a2 q (x + 1) := range_snoc (fun (x : Nat) => wrap64 (Bend a1 a2 q [⟨(x : Int), 1⟩])) x
    rw [e]
    have h := ih (x + 1) k (by omega) (by omega)
    rw [show x + 1 + d = x + (d + 1) from by omega] at h
    exact h
theorem both (a0 a1 a2 q : Int) : ∃ r : List Int × Bool, r.1.length ≤ 100 ∧ ∀ k, 1000 ≤ k → spec_InfluenceOf.f k a0 a1 a2 q = some r ∧ impl_InfluenceOf.f k a0 a1 a2 q = some r := by
  by_cases hb : BeamOk a0 a1 a2
  · by_cases hq : 0 ≤ q ∧ q ≤ a0
    · have hb' := hb
      unfold BeamOk at hb'
      refine ⟨(inflL a0 a1 a2 q (a0 + 1).toNat, true), by simp [inflL]; omega, fun k hk => ?_⟩
      have h1 := l6Influence_l0 a0 a1 a2 q hb hq (a0 + 1).toNat 0 k (by omega) (by omega)
      have h2 := impl_l0 a0 a1 a2 q hb hq (a0 + 1).toNat 0 k (by omega) (by omega)
      rw [Nat.zero_add] at h1 h2
      unfold spec_InfluenceOf.f impl_InfluenceOf.f spec_l6Influence.f
      rw [l6Beam_eq, l1In_eq, isOnBeam_eq, wrap_id (x := a0 + 1) (by omega) (by omega)]
      simp only [hb, hq, decide_true, and_self, Option.bind_some, if_true]
      exact ⟨by rw [show ([] : List Int) = inflL a0 a1 a2 q 0 from rfl, show (0 : Int) = ((0 : Nat) : Int) from rfl, h1]; rfl, h2⟩
    · refine ⟨([], false), by simp, fun k hk => ?_⟩
      unfold spec_InfluenceOf.f impl_InfluenceOf.f
      rw [l6Beam_eq, l1In_eq, isOnBeam_eq]
      simp [hb, hq]
  · refine ⟨([], false), by simp, fun k hk => ?_⟩
    unfold spec_InfluenceOf.f impl_InfluenceOf.f
    rw [l6Beam_eq, isOnBeam_eq]
    simp [hb]
theorem FnExactInfluenceOf : ∀ (a0_0 : Int) (a0_1 : Int) (a0_2 : Int) (a1 : Int), ((Lit.int .i64 a0_0).wf = true) → ((Lit.int .i64 a0_1).wf = true) → ((Lit.int .i64 a0_2).wf = true) → ((Lit.int .i64 a1).wf = true) → ∃ k, laws_FnExactInfluenceOf.f k a0_0 a0_1 a0_2 a1 = some true := by
  intro a b c q _ _ _ _
  refine ⟨2002, ?_⟩
  obtain ⟨r, hl, hr⟩ := both a b c q
  have hs := fun k hk => (hr k hk).1
  have hi := fun k hk => (hr k hk).2
  have n1 : ¬ ((1 : Int) + (r.1.length : Nat) < 0) := by omega
  generalize hN : r.1.length = N at n1 hl
  have hm : ∀ k, 200 ≤ k → laws_markIntS.f k r.1 1 = some ((1 : Int) + (N : Int), seqI 1 N) := fun k hk => by rw [← hN]; exact markIntS_eq r.1 1 k (by omega) (by omega) (by omega) (by omega)
  have hh : ∀ k, 200 ≤ k → laws_heldIntS.f k (seqI 1 N) 1 = some ((1 : Int) + (N : Int)) := fun k hk => heldIntS_eq N 1 k (by omega) (by omega) (by omega) (by omega)
  simp (disch := omega) only [laws_FnExactInfluenceOf.f, laws_FnExactInfluenceOf.j0, laws_FnExactInfluenceOf.j1, laws_toBeam.f, hs, hi, eqIntS_refl, hm, hh, n1, Option.bind_some, bne_refl, if_true, Bool.false_eq_true, if_false]

end Go.Proofs.Ytchcjlkbpmkajaa.Pure

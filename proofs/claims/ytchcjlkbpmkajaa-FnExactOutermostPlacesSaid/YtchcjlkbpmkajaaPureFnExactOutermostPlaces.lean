/- The pure statement of the law FnExactOutermostPlaces: what the law computes, as a function over numbers and lists, answers true for every input. No conditions beyond the ranges of Go's int. -/
import Derived.Test.YtchcjlkbpmkajaaPFnExactOutermostPlacesx5
set_option linter.unusedVariables false
set_option linter.unusedSimpArgs false
namespace Go.Proofs.Ytchcjlkbpmkajaa.Pure
open Go.RowKit Go.Proofs.YtchcjlkbpmkajaaW.PrintWords Go.Proofs.YtchcjlkbpmkajaaW.PrintLast Go.Proofs.Ytchcjlkbpmkajaa.PFnExactOutermostPlaces

theorem wrap_id {x : Int} (h0 : -9223372036854775808 ≤ x) (h1 : x ≤ 9223372036854775807) : wrap64 x = x := by
  unfold wrap64
  omega
theorem wf64 {x : Int} (h : (Lit.int .i64 x).wf = true) : -9223372036854775808 ≤ x ∧ x ≤ 9223372036854775807 := by
  simp [Lit.wf, IntKind.min, IntKind.max, IntKind.signed, IntKind.bits] at h
  omega
theorem l1In_eq (a b c : Int) : spec_l1In.f a b c = some (decide (b ≤ a ∧ a ≤ c)) := by
  unfold spec_l1In.f
  split <;> simp_all
  omega
theorem within_eq (a b c : Int) : impl_within.f a b c = some (decide (b ≤ a ∧ a ≤ c)) := by
  unfold impl_within.f
  split <;> simp_all
  omega
def BeamOk (a b c : Int) : Prop := 1 ≤ a ∧ a ≤ 60 ∧ 0 ≤ b ∧ b < c ∧ c ≤ a
instance (a b c : Int) : Decidable (BeamOk a b c) := by unfold BeamOk; infer_instance
theorem l6Beam_eq (a b c : Int) : spec_l6Beam.f a b c = some (decide (BeamOk a b c)) := by
  unfold spec_l6Beam.f
  simp only [l1In_eq, Option.bind_some]
  by_cases h1 : 1 ≤ a ∧ a ≤ 60
  · rw [if_pos (decide_eq_true h1), wrap_id (x := a - 1) (by omega) (by omega)]
    by_cases h2 : 0 ≤ b ∧ b ≤ a - 1
    · rw [if_pos (decide_eq_true h2), wrap_id (x := b + 1) (by omega) (by omega)]
      congr 1
      exact decide_eq_decide.2 ⟨fun h => ⟨h1.1, h1.2, h2.1, by omega, h.2⟩, fun h => ⟨by have := h.2.2.2.1; omega, h.2.2.2.2⟩⟩
    · rw [if_neg (by simpa using h2)]
      congr 1
      exact (decide_eq_false (fun h => h2 ⟨h.2.2.1, by have := h.2.2.2.1; have := h.2.2.2.2; omega⟩)).symm
  · rw [if_neg (by simpa using h1)]
    congr 1
    exact (decide_eq_false (fun h => h1 ⟨h.1, h.2.1⟩)).symm
theorem IsBeam_eq (a b c : Int) : impl_IsBeam.f a b c = some (decide (BeamOk a b c)) := by
  unfold impl_IsBeam.f
  simp only [within_eq, Option.bind_some]
  by_cases h1 : 1 ≤ a ∧ a ≤ 60
  · rw [if_pos (decide_eq_true h1)]
    by_cases h2 : 0 ≤ b
    · rw [if_pos h2]
      by_cases h3 : b < c
      · rw [if_pos h3]
        congr 1
        exact decide_eq_decide.2 ⟨fun h => ⟨h1.1, h1.2, h2, h3, h⟩, fun h => h.2.2.2.2⟩
      · rw [if_neg h3]
        congr 1
        exact (decide_eq_false (fun h => h3 h.2.2.2.1)).symm
    · rw [if_neg h2]
      congr 1
      exact (decide_eq_false (fun h => h2 h.2.2.1)).symm
  · rw [if_neg (by simpa using h1)]
    congr 1
    exact (decide_eq_false (fun h => h1 ⟨h.1, h.2.1⟩)).symm
theorem snocI {α : Type} (p : List α) (x : α) (h : p.length < 9223372036854775807) : wrap64 ((p.length : Int) + 1) = ((p ++ [x]).length : Int) := by
  rw [wrap_id (by omega) (by omega)]
  simp
theorem sz_id (n : Nat) (h : n ≤ 9223372036854775807) : wrap64 (1048576 - (n : Int)) = 1048576 - (n : Int) := wrap_id (by omega) (by omega)
theorem set_rep {α : Type} (q : List α) (z y : α) (n : Nat) : (q ++ List.replicate (n + 1) z).set q.length y = (q ++ [y]) ++ List.replicate n z := by
  rw [List.set_append_right _ _ (Nat.le_refl _), Nat.sub_self]
  simp [List.replicate_succ]
theorem rdL (p s : List S57) (x : S57) : rd_T57 (p ++ x :: s) ((p.length : Int)) = x := by
  simp [rd_T57]
theorem l2In_eq (a : Int) : spec_l2In.f a = some (decide (0 ≤ a ∧ a ≤ 60)) := by simp only [spec_l2In.f, l1In_eq, Option.bind_some]
theorem isPlace_eq (a : Int) : impl_isPlace.f a = some (decide (0 ≤ a ∧ a ≤ 60)) := by simp only [impl_isPlace.f, within_eq, Option.bind_some]
theorem isWeight_eq (a : Int) : impl_isWeight.f a = some (decide (1 ≤ a ∧ a ≤ 99)) := by simp only [impl_isWeight.f, within_eq, Option.bind_some]
def okL (x : S57) : Bool := decide (0 ≤ x.f0 ∧ x.f0 ≤ 60) && decide (1 ≤ x.f1 ∧ x.f1 ≤ 99)
def rowB (l : List S57) : Bool := decide ((l.length : Int) ≤ 12) && l.all okL
def inB (a : Int) (l : List S57) : Bool := l.all (fun x => decide (x.f0 ≤ a))
def onB (a0 a1 a2 : Int) (l : List S57) : Bool := decide (BeamOk a0 a1 a2) && (rowB l && inB a0 l)
theorem l2Row_l0 : ∀ (s p : List S57) (k : Nat), (p ++ s).length < 4611686018427387904 → 2 * s.length + 2 < k → spec_l2Row.l0 k (p ++ s) (p.length : Int) = some (decide (((p ++ s).length : Int) ≤ 12) && s.all okL) := by
  intro s
  induction s with
  | nil =>
    intro p k hl hk
    obtain ⟨k, rfl⟩ : ∃ m, k = m + 2 := ⟨k - 2, by omega⟩
    simp only [spec_l2Row.l0, spec_l2Row.j1]
    rw [if_neg (by simp)]
    simp
  | cons x s ih =>
    intro p k hl hk
    simp only [List.length_cons] at hk
    obtain ⟨k, rfl⟩ : ∃ m, k = m + 2 := ⟨k - 2, by omega⟩
    have d1 : (p.length : Int) < ((p ++ x :: s).length : Int) := by simp; omega
    have d0 : 0 ≤ (p.length : Int) := by omega
    simp only [spec_l2Row.l0, spec_l2Row.j1, d1, if_true]
    by_cases c : (p.length : Int) ≤ 12
    · rw [if_pos (decide_eq_true c), if_pos d0, rdL, l2In_eq, Option.bind_some, l1In_eq, Option.bind_some, snocI p x (by simp at hl; omega), List.append_cons p x s, ih (p ++ [x]) k (by simpa using hl) (by omega)]
      simp only [List.all_cons, okL]
      by_cases h1 : 0 ≤ x.f0 ∧ x.f0 ≤ 60 <;> by_cases h2 : 1 ≤ x.f1 ∧ x.f1 ≤ 99 <;> simp [h1, h2]
    · rw [if_neg (by simpa using c)]
      have e : ¬ (((p ++ x :: s).length : Int) ≤ 12) := by simp; omega
      rw [decide_eq_false e, Bool.false_and]
theorem l2Row_eq (l : List S57) (k : Nat) (hl : l.length < 4611686018427387904) (hk : 2 * l.length + 2 < k) : spec_l2Row.f k l = some (rowB l) := by
  unfold spec_l2Row.f rowB
  exact l2Row_l0 l [] k hl hk
theorem isRow1_eq (a b : Int) : impl_IsRow_1.f a b = some (!(okL ⟨a, b⟩)) := by
  unfold impl_IsRow_1.f okL
  rw [isPlace_eq, Option.bind_some, isWeight_eq, Option.bind_some]
  by_cases h1 : 0 ≤ a ∧ a ≤ 60 <;> simp [h1]
theorem row_l0 : ∀ (s p : List S57) (k : Nat), (p ++ s).length < 1000 → s.length < k → ∃ r, impl_Load_84.l0 k (p ++ s) ((p ++ s).length : Int) (p.length : Int) = some r ∧ decide (r ≥ 0) = !(s.all okL) := by
  intro s
  induction s with
  | nil =>
    intro p k hl hk
    obtain ⟨k, rfl⟩ : ∃ m, k = m + 1 := ⟨k - 1, by omega⟩
    simp only [impl_Load_84.l0]
    rw [if_neg (by simp)]
    exact ⟨-1, rfl, by simp⟩
  | cons x s ih =>
    intro p k hl hk
    simp only [List.length_cons] at hk
    obtain ⟨k, rfl⟩ : ∃ m, k = m + 1 := ⟨k - 1, by omega⟩
    simp only [impl_Load_84.l0]
    rw [if_pos (by simp; omega), if_pos (by omega), if_pos (by simp; omega), rdL, isRow1_eq, Option.bind_some]
    by_cases hx : okL x = true
    · have hx2 : okL ⟨x.f0, x.f1⟩ = true := hx
      rw [hx2, if_neg (by decide), snocI p x (by simp at hl; omega), List.append_cons p x s]
      obtain ⟨r, h1, h2⟩ := ih (p ++ [x]) k (by simpa using hl) (by omega)
      exact ⟨r, h1, by rw [h2]; simp [hx]⟩
    · rw [Bool.not_eq_true] at hx
      have hx2 : okL ⟨x.f0, x.f1⟩ = false := hx
      rw [hx2, if_pos (by decide)]
      exact ⟨_, rfl, by simp [hx]⟩
theorem IsRow_eq (l : List S57) (k : Nat) (hk : 20 ≤ k) : impl_IsRow.f k l = some (rowB l) := by
  unfold impl_IsRow.f rowB
  by_cases h : (l.length : Int) > 12
  · rw [if_pos h, decide_eq_false (by omega), Bool.false_and]
  · rw [if_neg h, decide_eq_true (by omega), Bool.true_and]
    unfold impl_Load_75.f impl_Load_84.f
    obtain ⟨r, h1, h2⟩ := row_l0 l [] k (by simp only [List.nil_append]; omega) (by omega)
    have h3 : impl_Load_84.l0 k l (l.length : Int) 0 = some r := h1
    rw [h3, Option.bind_some, h2, Option.bind_some, Bool.not_not]
theorem on_l0 (a0 a1 a2 : Int) : ∀ (s p : List S57) (k : Nat), (p ++ s).length < 1000 → s.length < k → ∃ r, slices_IndexFunc_on.l0 k (p ++ s) ((p ++ s).length : Int) (p.length : Int) a0 a1 a2 = some r ∧ decide (r ≥ 0) = !(inB a0 s) := by
  intro s
  induction s with
  | nil =>
    intro p k hl hk
    obtain ⟨k, rfl⟩ : ∃ m, k = m + 1 := ⟨k - 1, by omega⟩
    simp only [slices_IndexFunc_on.l0]
    rw [if_neg (by simp)]
    exact ⟨-1, rfl, by simp [inB]⟩
  | cons x s ih =>
    intro p k hl hk
    simp only [List.length_cons] at hk
    obtain ⟨k, rfl⟩ : ∃ m, k = m + 1 := ⟨k - 1, by omega⟩
    simp only [slices_IndexFunc_on.l0, impl_isOn_1_on.f]
    rw [if_pos (by simp; omega), if_pos (by omega), if_pos (by simp; omega), rdL, Option.bind_some]
    by_cases hx : x.f0 > a0
    · rw [if_pos (decide_eq_true hx)]
      exact ⟨_, rfl, by simp [inB]; omega⟩
    · rw [if_neg (by simpa using hx), snocI p x (by simp at hl; omega), List.append_cons p x s]
      obtain ⟨r, h1, h2⟩ := ih (p ++ [x]) k (by simpa using hl) (by omega)
      have h3 : x.f0 ≤ a0 := by omega
      exact ⟨r, h1, by rw [h2]; simp [inB, h3]⟩
theorem rowB_len {l : List S57} (h : rowB l = true) : l.length ≤ 12 := by
  simp only [rowB, Bool.and_eq_true, decide_eq_true_eq] at h
  omega
theorem isOn_eq (a0 a1 a2 : Int) (l : List S57) (k : Nat) (hk : 50 ≤ k) : impl_isOn.f k a0 a1 a2 l = some (onB a0 a1 a2 l) := by
  unfold impl_isOn.f onB
  rw [IsBeam_eq, Option.bind_some, IsRow_eq l k (by omega), Option.bind_some]
  by_cases h1 : BeamOk a0 a1 a2
  · rw [if_pos (decide_eq_true h1), decide_eq_true h1, Bool.true_and]
    by_cases h2 : rowB l = true
    · have hl := rowB_len h2
      rw [if_pos h2, h2, Bool.true_and]
      unfold slices_ContainsFunc_on.f slices_IndexFunc_on.f
      obtain ⟨r, h3, h4⟩ := on_l0 a0 a1 a2 l [] k (by simp only [List.nil_append]; omega) (by omega)
      have h5 : slices_IndexFunc_on.l0 k l (l.length : Int) 0 a0 a1 a2 = some r := h3
      rw [h5, Option.bind_some, h4, Option.bind_some, Bool.not_not]
    · rw [if_neg h2]
      rw [Bool.not_eq_true] at h2
      rw [h2, Bool.false_and]
  · rw [if_neg (by simpa using h1), decide_eq_false h1, Bool.false_and]
theorem l6On_l0 (a0 a1 a2 : Int) : ∀ (s p : List S57) (k : Nat), (p ++ s).length < 1000 → s.length < k → spec_l6On.l0 k (p ++ s) (p.length : Int) a0 a1 a2 = some (inB a0 s) := by
  intro s
  induction s with
  | nil =>
    intro p k hl hk
    obtain ⟨k, rfl⟩ : ∃ m, k = m + 1 := ⟨k - 1, by omega⟩
    simp only [spec_l6On.l0]
    rw [if_neg (by simp)]
    rfl
  | cons x s ih =>
    intro p k hl hk
    simp only [List.length_cons] at hk
    obtain ⟨k, rfl⟩ : ∃ m, k = m + 1 := ⟨k - 1, by omega⟩
    simp only [spec_l6On.l0]
    rw [if_pos (by simp; omega), if_pos (by omega), rdL]
    by_cases hx : x.f0 > a0
    · rw [if_pos hx]
      have h3 : ¬ x.f0 ≤ a0 := by omega
      simp [inB, h3]
    · rw [if_neg hx, snocI p x (by simp at hl; omega), List.append_cons p x s, ih (p ++ [x]) k (by simpa using hl) (by omega)]
      have h3 : x.f0 ≤ a0 := by omega
      simp [inB, h3]
theorem l6On_eq (a0 a1 a2 : Int) (l : List S57) (k : Nat) (hl : l.length < 4611686018427387904) (hk : 2 * l.length + 50 < k) : spec_l6On.f k a0 a1 a2 l = some (onB a0 a1 a2 l) := by
  obtain ⟨k, rfl⟩ : ∃ m, k = m + 1 := ⟨k - 1, by omega⟩
  unfold spec_l6On.f onB
  rw [l6Beam_eq, Option.bind_some, l2Row_eq l (k + 1) hl (by omega), Option.bind_some]
  simp only [spec_l6On.j0]
  by_cases h1 : BeamOk a0 a1 a2
  · by_cases h2 : rowB l = true
    · have hl := rowB_len h2
      have e := l6On_l0 a0 a1 a2 l [] k (by simp only [List.nil_append]; omega) (by omega)
      simp only [List.nil_append, List.length_nil, Int.natCast_zero] at e
      simp [h1, h2, e]
    · rw [Bool.not_eq_true] at h2
      simp [h1, h2]
  · simp [h1]
/-- What a row on a beam is. -/
structure OOk (a0 a1 a2 : Int) (l : List S57) : Prop where
  beam : BeamOk a0 a1 a2
  len : l.length ≤ 12
  place : ∀ x ∈ l, 0 ≤ x.f0 ∧ x.f0 ≤ a0
  load : ∀ x ∈ l, okL x = true
theorem onB_ok {a0 a1 a2 : Int} {l : List S57} (h : onB a0 a1 a2 l = true) : OOk a0 a1 a2 l := by
  simp only [onB, rowB, inB, Bool.and_eq_true, decide_eq_true_eq, List.all_eq_true] at h
  refine ⟨h.1, by omega, fun x hx => ?_, h.2.1.2⟩
  have h1 := h.2.1.2 x hx
  have h2 := h.2.2 x hx
  simp only [okL, Bool.and_eq_true, decide_eq_true_eq] at h1
  omega
theorem w_per (x y : Int) : wrap64 (x + 18446744073709551616 * y) = wrap64 x := by
  unfold wrap64
  omega
theorem w_rep (a : Int) : ∃ q, wrap64 a = a + 18446744073709551616 * q := ⟨-((a + 9223372036854775808) / 18446744073709551616), by unfold wrap64; omega⟩
theorem w_w (a : Int) : wrap64 (wrap64 a) = wrap64 a := by
  obtain ⟨q, h⟩ := w_rep a
  rw [show wrap64 (wrap64 a) = wrap64 (a + 18446744073709551616 * q) from by rw [← h], w_per]
theorem w_add_l (a b : Int) : wrap64 (wrap64 a + b) = wrap64 (a + b) := by
  obtain ⟨q, h⟩ := w_rep a
  rw [h, show a + 18446744073709551616 * q + b = (a + b) + 18446744073709551616 * q from by omega, w_per]
theorem w_add_r (a b : Int) : wrap64 (a + wrap64 b) = wrap64 (a + b) := by rw [Int.add_comm, w_add_l, Int.add_comm]
theorem w_neg (a : Int) : wrap64 (-wrap64 a) = wrap64 (-a) := by
  obtain ⟨q, h⟩ := w_rep a
  rw [h, show -(a + 18446744073709551616 * q) = -a + 18446744073709551616 * (-q) from by omega, w_per]
theorem w_sub_l (a b : Int) : wrap64 (wrap64 a - b) = wrap64 (a - b) := by rw [Int.sub_eq_add_neg, w_add_l, ← Int.sub_eq_add_neg]
theorem w_sub_r (a b : Int) : wrap64 (a - wrap64 b) = wrap64 (a - b) := by
  obtain ⟨q, h⟩ := w_rep b
  rw [h, show a - (b + 18446744073709551616 * q) = (a - b) + 18446744073709551616 * (-q) from by omega, w_per]
theorem w_mul_l (a b : Int) : wrap64 (wrap64 a * b) = wrap64 (a * b) := by
  obtain ⟨q, h⟩ := w_rep a
  rw [h, Int.add_mul, Int.mul_assoc, w_per]
theorem w_mul_r (a b : Int) : wrap64 (a * wrap64 b) = wrap64 (a * b) := by rw [Int.mul_comm, w_mul_l, Int.mul_comm]
theorem w_zero : wrap64 0 = 0 := by simp [wrap64]
def Mom (p : Int) : List S57 → Int
  | [] => 0
  | x :: s => x.f1 * (x.f0 - p) + Mom p s
theorem l2Moment_l0 (m : Int) : ∀ (s p : List S57) (a : Int) (k : Nat), (p ++ s).length < 4611686018427387904 → s.length < k →
    spec_l2Moment.l0 k (p ++ s) m (wrap64 a) (p.length : Int) = some (wrap64 (a + Mom m s)) := by
  intro s
  induction s with
  | nil =>
    intro p a k hl hk
    obtain ⟨k, rfl⟩ : ∃ m, k = m + 1 := ⟨k - 1, by simp at hk; omega⟩
    simp only [spec_l2Moment.l0]
    rw [if_neg (by simp)]
    simp [Mom]
  | cons x s ih =>
    intro p a k hl hk
    obtain ⟨k, rfl⟩ : ∃ m, k = m + 1 := ⟨k - 1, by simp at hk; omega⟩
    simp only [spec_l2Moment.l0]
    rw [if_pos (by simp; omega), if_pos (by omega), rdL, snocI p x (by simp at hl; omega), List.append_cons p x s, w_mul_r, w_add_l, w_add_r]
    rw [ih (p ++ [x]) _ k (by simpa using hl) (by simp at hk; omega)]
    simp only [Mom]
    rw [Int.add_assoc]
theorem l2Moment_eq (l : List S57) (m : Int) (k : Nat) (hl : l.length < 4611686018427387904) (hk : l.length < k) : spec_l2Moment.f k l m = some (wrap64 (Mom m l)) := by
  have e := l2Moment_l0 m l [] 0 k (by simpa using hl) hk
  rw [Int.zero_add, w_zero] at e
  exact e
theorem momentAbout_l0 (m : Int) : ∀ (s p : List S57) (a : Int) (k : Nat), (p ++ s).length < 4611686018427387904 → s.length < k →
    impl_momentAbout.l0 k m (wrap64 a) (p ++ s) ((p ++ s).length : Int) (p.length : Int) = some (wrap64 (a + Mom m s)) := by
  intro s
  induction s with
  | nil =>
    intro p a k hl hk
    obtain ⟨k, rfl⟩ : ∃ m, k = m + 1 := ⟨k - 1, by simp at hk; omega⟩
    simp only [impl_momentAbout.l0]
    rw [if_neg (by simp)]
    simp [Mom]
  | cons x s ih =>
    intro p a k hl hk
    obtain ⟨k, rfl⟩ : ∃ m, k = m + 1 := ⟨k - 1, by simp at hk; omega⟩
    simp only [impl_momentAbout.l0]
    rw [if_pos (by simp; omega), if_pos (by omega), if_pos (by simp; omega), rdL, snocI p x (by simp at hl; omega), List.append_cons p x s, w_mul_r, w_add_l, w_add_r]
    rw [ih (p ++ [x]) _ k (by simpa using hl) (by simp at hk; omega)]
    simp only [Mom]
    rw [Int.add_assoc]
theorem momentAbout_eq (l : List S57) (m : Int) (k : Nat) (hl : l.length < 4611686018427387904) (hk : l.length < k) : impl_momentAbout.f k l m = some (wrap64 (Mom m l)) := by
  have e := momentAbout_l0 m l [] 0 k (by simpa using hl) hk
  rw [Int.zero_add, w_zero] at e
  exact e
theorem eqLoad_refl (a b : Int) : laws_eqLoad.f a b a b = some true := by simp [laws_eqLoad.f]
theorem eqLoadS_l0 : ∀ (s p : List S57) (k : Nat), (p ++ s).length < 4611686018427387904 → s.length < k → laws_eqLoadS.l0 k (p ++ s) (p ++ s) (p.length : Int) = some true := by
  intro s
  induction s with
  | nil =>
    intro p k hl hk
    obtain ⟨k, rfl⟩ : ∃ m, k = m + 1 := ⟨k - 1, by simp at hk; omega⟩
    simp only [laws_eqLoadS.l0]
    rw [if_neg (by simp)]
  | cons x s ih =>
    intro p k hl hk
    obtain ⟨k, rfl⟩ : ∃ m, k = m + 1 := ⟨k - 1, by simp at hk; omega⟩
    simp only [laws_eqLoadS.l0]
    rw [if_pos (by simp; omega), if_pos (by omega), if_pos (by simp; omega), rdL, eqLoad_refl, Option.bind_some, if_pos rfl, snocI p x (by simp at hl; omega)]
    have e := ih (p ++ [x]) k (by simpa using hl) (by simp at hk; omega)
    rw [List.append_assoc] at e
    exact e
theorem eqLoadS_refl (l : List S57) (k : Nat) (hl : l.length < 4611686018427387904) (hk : l.length < k) : laws_eqLoadS.f k l l = some true := by
  unfold laws_eqLoadS.f
  rw [if_pos rfl]
  exact eqLoadS_l0 l [] k (by simpa using hl) hk
theorem rdLL (p s : List S59) (x : S59) : rd_T59 (p ++ x :: s) ((p.length : Int)) = x := by
  simp [rd_T59]
def cvL (x : S59) : S57 := ⟨x.f0, x.f1⟩
theorem toLoadS_l0 : ∀ (s p : List S59) (q : List S57) (k : Nat), p.length = q.length → (p ++ s).length < 4611686018427387904 → s.length < k →
    laws_toLoadS.l0 k (p ++ s) (q ++ List.replicate s.length z57) (p.length : Int) = some (q ++ s.map cvL) := by
  intro s
  induction s with
  | nil =>
    intro p q k hpq hl hk
    obtain ⟨k, rfl⟩ : ∃ m, k = m + 1 := ⟨k - 1, by simp at hk; omega⟩
    simp only [laws_toLoadS.l0]
    rw [if_neg (by simp)]
    simp
  | cons x s ih =>
    intro p q k hpq hl hk
    obtain ⟨k, rfl⟩ : ∃ m, k = m + 1 := ⟨k - 1, by simp at hk; omega⟩
    simp only [laws_toLoadS.l0, laws_toLoad.f, Option.bind_some]
    rw [if_pos (by simp; omega), if_pos (by omega), if_pos (by simp; omega), rdLL, snocI p x (by simp at hl; omega)]
    rw [show (((p.length : Nat) : Int)).toNat = q.length from by omega, List.length_cons, set_rep, List.append_cons p x s, ih (p ++ [x]) _ k (by simp [hpq]) (by simpa using hl) (by simp at hk; omega)]
    simp [cvL]
theorem toLoadS_eq (l : List S59) (k : Nat) (hl : l.length ≤ 1048576) (hk : l.length < k) : laws_toLoadS.f k l = some (l.map cvL) := by
  unfold laws_toLoadS.f
  rw [if_pos (by omega), if_pos (by omega)]
  exact toLoadS_l0 l [] [] k rfl (by simp; omega) hk
theorem szLoadS_eq (l : List S59) (h : l.length ≤ 9223372036854775807) : laws_szLoadS.f l 1048576 = some (if 1048576 < l.length then -1 else 1048576 - (l.length : Int)) := by
  unfold laws_szLoadS.f
  rw [sz_id _ h]
  by_cases hh : 1048576 < l.length
  · rw [if_pos (by omega), if_pos hh]
  · rw [if_neg (by omega), if_neg hh]
theorem bne_refl (b : Bool) : (b != b) = false := by cases b <;> rfl
def sideL (a1 a2 : Int) (l : List S57) : Int := if wrap64 (Mom a1 l) < 0 then -1 else if wrap64 (Mom a2 l) > 0 then 1 else 0
theorem side_spec (a1 a2 : Int) (l : List S57) (k : Nat) (hl : l.length < 1000) (hk : 1000 ≤ k) : spec_l2Side.f k l a1 a2 = some (sideL a1 a2 l) := by
  unfold spec_l2Side.f sideL
  rw [l2Moment_eq l a1 k (by omega) (by omega), l2Moment_eq l a2 k (by omega) (by omega), Option.bind_some, Option.bind_some]
  split
  · rfl
  · split <;> rfl
theorem side_impl (a1 a2 : Int) (l : List S57) (k : Nat) (hl : l.length < 1000) (hk : 1000 ≤ k) : impl_tipSide.f k l a1 a2 = some (sideL a1 a2 l) := by
  unfold impl_tipSide.f sideL
  rw [momentAbout_eq l a1 k (by omega) (by omega), momentAbout_eq l a2 k (by omega) (by omega), Option.bind_some, Option.bind_some]
  split
  · rfl
  · split <;> rfl
theorem with_spec (l : List S57) (x w : Int) (hl : l.length < 1000) : spec_l2With.f l x w = some (l ++ [⟨x, w⟩]) := by
  unfold spec_l2With.f
  rw [Option.bind_some, if_pos (by simp; omega), Option.bind_some, if_pos (by simp; omega)]
  rfl
theorem stands_eq (a1 a2 x w : Int) (l : List S57) (k : Nat) (hl : l.length < 900) (hk : 1000 ≤ k) : impl_standsWith.f k l a1 a2 x w = some (sideL a1 a2 (l ++ [⟨x, w⟩]) == 0) := by
  unfold impl_standsWith.f impl_Load_79.f
  rw [Option.bind_some, if_pos (by simp; omega), Option.bind_some, if_pos (by simp; omega)]
  have e := side_impl a1 a2 (l ++ [⟨x, w⟩]) k (by simp; omega) hk
  simp only [List.nil_append]
  rw [e]
  rfl
theorem out_l0 (a0 a1 a2 w : Int) (l : List S57) (hl : l.length < 900) (ha : 0 ≤ a0 ∧ a0 ≤ 1000) : ∀ (d x : Nat) (p q : Int), ((x + d : Nat) : Int) = a0 + 1 → ∃ r : Int × Int × Bool, ∀ k, 1001 + d ≤ k →
    spec_OutermostPlaces.l0 k l w p q (x : Int) a0 a1 a2 = some r ∧ impl_OutermostPlaces.l0 k l w p q (a0 + 1) (x : Int) a0 a1 a2 = some r := by
  intro d
  induction d with
  | zero =>
    intro x p q hx
    refine ⟨if p < 0 then (0, 0, false) else (p, q, true), fun k hk => ?_⟩
    obtain ⟨k, rfl⟩ : ∃ m, k = m + 1 := ⟨k - 1, by omega⟩
    simp only [spec_OutermostPlaces.l0, impl_OutermostPlaces.l0]
    rw [if_neg (show ¬ (x : Int) ≤ a0 by omega), if_neg (show ¬ (x : Int) < a0 + 1 by omega)]
    by_cases c : p < 0 <;> simp [c]
  | succ d ih =>
    intro x p q hx
    have w1 := wrap_id (x := (x : Int) + 1) (by omega) (by omega)
    have c1 : (x : Int) ≤ a0 := by omega
    have c2 : (x : Int) < a0 + 1 := by omega
    by_cases hs : sideL a1 a2 (l ++ [⟨(x : Int), w⟩]) = 0
    · have hs2 : (sideL a1 a2 (l ++ [⟨(x : Int), w⟩]) == 0) = true := by simpa using hs
      by_cases hp : p < 0
      · obtain ⟨r, hr⟩ := ih (x + 1) x x (by omega)
        refine ⟨r, fun k hk => ?_⟩
        obtain ⟨k, rfl⟩ : ∃ m, k = m + 1 := ⟨k - 1, by omega⟩
        have e := side_spec a1 a2 (l ++ [⟨(x : Int), w⟩]) k (by simp; omega) (by omega)
        simp (disch := omega) only [spec_OutermostPlaces.l0, impl_OutermostPlaces.l0, c1, c2, with_spec, e, stands_eq, hs, hs2, hp, w1, Option.bind_some, if_true]
        simpa using hr k (by omega)
      · obtain ⟨r, hr⟩ := ih (x + 1) p x (by omega)
        refine ⟨r, fun k hk => ?_⟩
        obtain ⟨k, rfl⟩ : ∃ m, k = m + 1 := ⟨k - 1, by omega⟩
        have e := side_spec a1 a2 (l ++ [⟨(x : Int), w⟩]) k (by simp; omega) (by omega)
        simp (disch := omega) only [spec_OutermostPlaces.l0, impl_OutermostPlaces.l0, c1, c2, with_spec, e, stands_eq, hs, hs2, hp, w1, Option.bind_some, if_true, if_false]
        simpa using hr k (by omega)
    · have hs2 : (sideL a1 a2 (l ++ [⟨(x : Int), w⟩]) == 0) = false := by simpa using hs
      obtain ⟨r, hr⟩ := ih (x + 1) p q (by omega)
      refine ⟨r, fun k hk => ?_⟩
      obtain ⟨k, rfl⟩ : ∃ m, k = m + 1 := ⟨k - 1, by omega⟩
      have e := side_spec a1 a2 (l ++ [⟨(x : Int), w⟩]) k (by simp; omega) (by omega)
      simp (disch := omega) only [spec_OutermostPlaces.l0, impl_OutermostPlaces.l0, c1, c2, with_spec, e, stands_eq, hs, hs2, w1, Option.bind_some, if_true, if_false, Bool.false_eq_true]
      simpa using hr k (by omega)
theorem both (a0 a1 a2 : Int) (l : List S57) (w : Int) (hl : l.length ≤ 1048576) : ∃ r : Int × Int × Bool, ∀ k, 1200 + 2 * l.length ≤ k → spec_OutermostPlaces.f k a0 a1 a2 l w = some r ∧ impl_OutermostPlaces.f k a0 a1 a2 l w = some r := by
  by_cases h : onB a0 a1 a2 l = true
  · have ok := onB_ok h
    have b := ok.beam
    have o := ok.len
    unfold BeamOk at b
    by_cases h12 : (l.length : Int) = 12
    · refine ⟨(0, 0, false), fun k hk => ?_⟩
      obtain ⟨k, rfl⟩ : ∃ m, k = m + 1 := ⟨k - 1, by omega⟩
      simp (disch := omega) only [spec_OutermostPlaces.f, impl_OutermostPlaces.f, spec_OutermostPlaces.j0, impl_OutermostPlaces.j0, l6On_eq, isOn_eq, h, h12, if_true, Option.bind_some, and_self]
    · by_cases hw : 1 ≤ w ∧ w ≤ 99
      · obtain ⟨r, hr⟩ := out_l0 a0 a1 a2 w l (by omega) (by omega) (a0.toNat + 1) 0 (-1) (-1) (by omega)
        refine ⟨r, fun k hk => ?_⟩
        obtain ⟨k, rfl⟩ : ∃ m, k = m + 1 := ⟨k - 1, by omega⟩
        have w1 := wrap_id (x := a0 + 1) (by omega) (by omega)
        simp (disch := omega) only [spec_OutermostPlaces.f, impl_OutermostPlaces.f, spec_OutermostPlaces.j0, impl_OutermostPlaces.j0, l6On_eq, isOn_eq, h, h12, l1In_eq, isWeight_eq, hw, w1, and_self, decide_true, Bool.not_true, Bool.false_eq_true, if_true, if_false, Option.bind_some]
        exact hr k (by omega)
      · refine ⟨(0, 0, false), fun k hk => ?_⟩
        obtain ⟨k, rfl⟩ : ∃ m, k = m + 1 := ⟨k - 1, by omega⟩
        simp (disch := omega) only [spec_OutermostPlaces.f, impl_OutermostPlaces.f, spec_OutermostPlaces.j0, impl_OutermostPlaces.j0, l6On_eq, isOn_eq, h, h12, l1In_eq, isWeight_eq, hw, decide_false, Bool.not_false, if_true, if_false, Option.bind_some, and_self]
  · refine ⟨(0, 0, false), fun k hk => ?_⟩
    obtain ⟨k, rfl⟩ : ∃ m, k = m + 1 := ⟨k - 1, by omega⟩
    simp (disch := omega) only [spec_OutermostPlaces.f, impl_OutermostPlaces.f, spec_OutermostPlaces.j0, impl_OutermostPlaces.j0, l6On_eq, isOn_eq, h, Option.bind_some, if_true, if_false, and_self, Bool.false_eq_true]
theorem FnExactOutermostPlaces : ∀ (a0_0 : Int) (a0_1 : Int) (a0_2 : Int) (l1 : List (S59)) (a2 : Int), ((Lit.int .i64 a0_0).wf = true) → ((Lit.int .i64 a0_1).wf = true) → ((Lit.int .i64 a0_2).wf = true) → (l1.length ≤ 9223372036854775807) → (∀ x_ ∈ l1, ((Lit.int .i64 x_.f0).wf = true) ∧ ((Lit.int .i64 x_.f1).wf = true)) → ((Lit.int .i64 a2).wf = true) → ∃ k, laws_FnExactOutermostPlaces.f k a0_0 a0_1 a0_2 l1 a2 = some true := by
  intro a b c l w _ _ _ hl _ _
  refine ⟨2000 + 2 * l.length + 6, ?_⟩
  have hsz := szLoadS_eq l hl
  by_cases hb : 1048576 < l.length
  · rw [if_pos hb] at hsz
    unfold laws_FnExactOutermostPlaces.f
    rw [hsz, Option.bind_some, if_pos (by decide)]
  rw [if_neg hb] at hsz
  have n0 : ¬ ((1048576 : Int) - (l.length : Nat) < 0) := by omega
  have h3 : (l.map cvL).length = l.length := by simp
  obtain ⟨r, hr⟩ := both a b c (l.map cvL) w (by omega)
  rw [h3] at hr
  have hs := fun k hk => (hr k hk).1
  have hi := fun k hk => (hr k hk).2
  simp (maxSteps := 4000000) (disch := omega) only [laws_FnExactOutermostPlaces.f, laws_toBeam.f, hsz, n0, toLoadS_eq, hs, hi, Option.bind_some, bne_refl, if_true, Bool.false_eq_true, if_false]
  have he : ∀ k, 10 + l.length ≤ k → laws_eqLoadS.f k (l.map cvL) (l.map cvL) = some true := fun k hk => eqLoadS_refl _ k (by omega) (by omega)
  simp (maxSteps := 4000000) (disch := omega) only [laws_FnExactOutermostPlaces.j0, toLoadS_eq, he, Option.bind_some, bne_refl, if_true, Bool.false_eq_true, if_false]

end Go.Proofs.Ytchcjlkbpmkajaa.Pure

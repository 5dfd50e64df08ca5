/- The pure statement of the law FnExactEdgePile: what the law computes, as a function over numbers and lists, answers true for every input. No conditions beyond the ranges of Go's int. -/
import Derived.Test.YtnnpfekgapikfaaPFnExactEdgePilex5
set_option linter.unusedVariables false
set_option linter.unusedSimpArgs false
namespace Go.Proofs.Ytnnpfekgapikfaa.Pure
open Go.RowKit Go.Proofs.YtnnpfekgapikfaaW.PrintWords Go.Proofs.YtnnpfekgapikfaaW.PrintLast Go.Proofs.Ytnnpfekgapikfaa.PFnExactEdgePile

theorem wrap_id {x : Int} (h0 : -9223372036854775808 ≤ x) (h1 : x ≤ 9223372036854775807) : wrap64 x = x := by
  unfold wrap64
  omega
theorem wf64 {x : Int} (h : (Lit.int .i64 x).wf = true) : -9223372036854775808 ≤ x ∧ x ≤ 9223372036854775807 := by
  simp [Lit.wf, IntKind.min, IntKind.max, IntKind.signed, IntKind.bits] at h
  omega
theorem l1In_eq (a b c : Int) : spec_l1In.f a b c = some (decide (b ≤ a ∧ a ≤ c)) := by
  unfold spec_l1In.f
  split <;> simp_all
  omega
theorem within_eq (a b c : Int) : impl_within.f a b c = some (decide (b ≤ a ∧ a ≤ c)) := by
  unfold impl_within.f
  split <;> simp_all
  omega
theorem snocI {α : Type} (p : List α) (x : α) (h : p.length < 9223372036854775807) : wrap64 ((p.length : Int) + 1) = ((p ++ [x]).length : Int) := by
  rw [wrap_id (by omega) (by omega)]
  simp
theorem sz_id (n : Nat) (h : n ≤ 9223372036854775807) : wrap64 (1048576 - (n : Int)) = 1048576 - (n : Int) := wrap_id (by omega) (by omega)
theorem set_rep {α : Type} (q : List α) (z y : α) (n : Nat) : (q ++ List.replicate (n + 1) z).set q.length y = (q ++ [y]) ++ List.replicate n z := by
  rw [List.set_append_right _ _ (Nat.le_refl _), Nat.sub_self]
  simp [List.replicate_succ]
theorem rdI (p s : List Int) (x : Int) : rd (p ++ x :: s) ((p.length : Int)) = x := by
  simp [rd]
def okP (l w : Int) : Bool := decide (-99 ≤ l ∧ l ≤ 99) && decide (1 ≤ w ∧ w ≤ 99)
def allP : List Int → List Int → Bool
  | l :: ls, w :: ws => okP l w && allP ls ws
  | _, _ => true
def pileB (a : Int) (ls ws : List Int) : Bool := decide (1 ≤ a ∧ a ≤ 24) && (decide (1 ≤ (ls.length : Int) ∧ (ls.length : Int) ≤ 8) && (decide (ws.length = ls.length) && allP ls ws))
theorem isLeft_eq (a : Int) : impl_isLeft.f a = some (decide (-99 ≤ a ∧ a ≤ 99)) := by simp only [impl_isLeft.f, within_eq, Option.bind_some]
theorem isWeight_eq (a : Int) : impl_isWeight.f a = some (decide (1 ≤ a ∧ a ≤ 99)) := by simp only [impl_isWeight.f, within_eq, Option.bind_some]
theorem isWide_eq (a : Int) : impl_isWide.f a = some (decide (1 ≤ a ∧ a ≤ 24)) := by simp only [impl_isWide.f, within_eq, Option.bind_some]
theorem l4Pile_l0 (a : Int) : ∀ (s t p q : List Int) (k : Nat), p.length = q.length → s.length = t.length → (p ++ s).length < 4611686018427387904 → s.length < k →
    spec_l4Pile.l0 k ((p ++ s).length : Int) (p.length : Int) a (p ++ s) (q ++ t) = some (allP s t) := by
  intro s
  induction s with
  | nil =>
    intro t p q k hpq hst hl hk
    obtain ⟨k, rfl⟩ : ∃ m, k = m + 1 := ⟨k - 1, by simp at hk; omega⟩
    simp only [spec_l4Pile.l0]
    rw [if_neg (by simp)]
    simp [allP]
  | cons x s ih =>
    intro t p q k hpq hst hl hk
    obtain ⟨k, rfl⟩ : ∃ m, k = m + 1 := ⟨k - 1, by simp at hk; omega⟩
    cases t with
    | nil => simp at hst
    | cons y t =>
      have e : rd (q ++ y :: t) (p.length : Int) = y := by rw [hpq]; exact rdI q t y
      simp only [spec_l4Pile.l0]
      rw [if_pos (by simp; omega), if_pos (by omega), if_pos (by simp; omega), if_pos (by rw [hpq]; simp; omega), rdI, e, l1In_eq, Option.bind_some, l1In_eq, Option.bind_some, snocI p x (by simp at hl; omega), List.append_cons p x s, List.append_cons q y t]
      rw [ih t (p ++ [x]) (q ++ [y]) k (by simp [hpq]) (by simpa using hst) (by simpa using hl) (by simp at hk; omega)]
      simp only [allP, okP]
      by_cases h1 : -99 ≤ x ∧ x ≤ 99 <;> by_cases h2 : 1 ≤ y ∧ y ≤ 99 <;> simp [h1, h2]
theorem IsPile_l0 (a : Int) : ∀ (s t p q : List Int) (k : Nat), p.length = q.length → s.length = t.length → (p ++ s).length < 4611686018427387904 → s.length < k →
    impl_IsPile.l0 k (p ++ s) ((p ++ s).length : Int) (p.length : Int) a (p ++ s) (q ++ t) = some (allP s t) := by
  intro s
  induction s with
  | nil =>
    intro t p q k hpq hst hl hk
    obtain ⟨k, rfl⟩ : ∃ m, k = m + 1 := ⟨k - 1, by simp at hk; omega⟩
    simp only [impl_IsPile.l0]
    rw [if_neg (by simp)]
    simp [allP]
  | cons x s ih =>
    intro t p q k hpq hst hl hk
    obtain ⟨k, rfl⟩ : ∃ m, k = m + 1 := ⟨k - 1, by simp at hk; omega⟩
    cases t with
    | nil => simp at hst
    | cons y t =>
      have e : rd (q ++ y :: t) (p.length : Int) = y := by rw [hpq]; exact rdI q t y
      simp only [impl_IsPile.l0]
      rw [if_pos (by simp; omega), if_pos (by omega), if_pos (by simp; omega), if_pos (by rw [hpq]; simp; omega), rdI, e, isLeft_eq, Option.bind_some, isWeight_eq, Option.bind_some, snocI p x (by simp at hl; omega), List.append_cons p x s, List.append_cons q y t]
      rw [ih t (p ++ [x]) (q ++ [y]) k (by simp [hpq]) (by simpa using hst) (by simpa using hl) (by simp at hk; omega)]
      simp only [allP, okP]
      by_cases h1 : -99 ≤ x ∧ x ≤ 99 <;> by_cases h2 : 1 ≤ y ∧ y ≤ 99 <;> simp [h1, h2]
theorem l4Pile_eq (a : Int) (ls ws : List Int) (k : Nat) (hk : 10 ≤ k) : spec_l4Pile.f k a ls ws = some (pileB a ls ws) := by
  obtain ⟨k, rfl⟩ : ∃ m, k = m + 1 := ⟨k - 1, by omega⟩
  unfold spec_l4Pile.f pileB
  rw [l1In_eq, l1In_eq, Option.bind_some, Option.bind_some]
  by_cases h1 : 1 ≤ a ∧ a ≤ 24
  · by_cases h2 : 1 ≤ (ls.length : Int) ∧ (ls.length : Int) ≤ 8
    · by_cases h3 : ws.length = ls.length
      · have h := l4Pile_l0 a ls ws [] [] k rfl h3.symm (by simp; omega) (by omega)
        simp only [List.nil_append, List.length_nil] at h
        simp only [h1, h2, h3, and_self, decide_true, if_true, spec_l4Pile.j0, bne_self_eq_false, Bool.false_eq_true, if_false, Bool.true_and]
        exact h
      · have h4 : ((ws.length : Int) != (ls.length : Int)) = true := by simp; omega
        simp only [h1, h2, h3, h4, and_self, decide_true, decide_false, if_true, spec_l4Pile.j0, Bool.true_and, Bool.false_and]
    · simp only [h1, h2, and_self, decide_true, decide_false, if_true, spec_l4Pile.j0, Bool.true_and, Bool.false_and, Bool.false_eq_true, if_false]
  · simp only [h1, decide_false, spec_l4Pile.j0, Bool.false_and, Bool.false_eq_true, if_false, if_true]
theorem IsPile_eq (a : Int) (ls ws : List Int) (k : Nat) (hk : 10 ≤ k) : impl_IsPile.f k a ls ws = some (pileB a ls ws) := by
  obtain ⟨k, rfl⟩ : ∃ m, k = m + 1 := ⟨k - 1, by omega⟩
  unfold impl_IsPile.f pileB
  rw [isWide_eq, within_eq, Option.bind_some, Option.bind_some]
  by_cases h1 : 1 ≤ a ∧ a ≤ 24
  · by_cases h2 : 1 ≤ (ls.length : Int) ∧ (ls.length : Int) ≤ 8
    · by_cases h3 : ws.length = ls.length
      · have h := IsPile_l0 a ls ws [] [] k rfl h3.symm (by simp; omega) (by omega)
        simp only [List.nil_append, List.length_nil] at h
        simp only [h1, h2, h3, and_self, decide_true, if_true, impl_IsPile.j0, bne_self_eq_false, Bool.false_eq_true, if_false, Bool.true_and]
        exact h
      · have h4 : ((ws.length : Int) != (ls.length : Int)) = true := by simp; omega
        simp only [h1, h2, h3, h4, and_self, decide_true, decide_false, if_true, impl_IsPile.j0, Bool.true_and, Bool.false_and]
    · simp only [h1, h2, and_self, decide_true, decide_false, if_true, impl_IsPile.j0, Bool.true_and, Bool.false_and, Bool.false_eq_true, if_false]
  · simp only [h1, decide_false, impl_IsPile.j0, Bool.false_and, Bool.false_eq_true, if_false, if_true]
/-- What a valid pile is. -/
structure POk (a : Int) (ls ws : List Int) : Prop where
  wide : 1 ≤ a ∧ a ≤ 24
  len : 1 ≤ ls.length ∧ ls.length ≤ 8
  same : ws.length = ls.length
  all : allP ls ws = true
theorem pileB_ok {a : Int} {ls ws : List Int} (h : pileB a ls ws = true) : POk a ls ws := by
  simp only [pileB, Bool.and_eq_true, decide_eq_true_eq] at h
  exact ⟨h.1, by omega, h.2.2.1, h.2.2.2⟩
theorem pileB_of {a : Int} {ls ws : List Int} (h : POk a ls ws) : pileB a ls ws = true := by
  simp only [pileB, Bool.and_eq_true, decide_eq_true_eq]
  exact ⟨h.wide, by have := h.len; omega, h.same, h.all⟩
def keptR (a : Int) (ls ws : List Int) : Int × List Int × List Int × Bool := if pileB a ls ws then (a, ls, ws, true) else (0, [], [], false)
theorem keptR_len (a : Int) (ls ws : List Int) : (keptR a ls ws).2.1.length ≤ 100 ∧ (keptR a ls ws).2.2.1.length ≤ 100 := by
  unfold keptR
  by_cases h : pileB a ls ws = true
  · have ok := pileB_ok h
    have o1 := ok.len
    have o2 := ok.same
    rw [if_pos h]
    simp only
    omega
  · rw [if_neg h]
    simp
theorem Clone_eq (l : List Int) (h : l.length < 17592186044416) : slices_Clone_int_int.f l = some l := by
  unfold slices_Clone_int_int.f
  rw [Option.bind_some, if_pos (by simpa using h)]
  rfl
theorem Pile_moved_l0 (d a : Int) (t : List Int) : ∀ (s p : List Int) (k : Nat), (p ++ s).length < 1048577 → s.length < k →
    impl_Pile_moved.l0 k d (p ++ s) ((p ++ s).length : Int) (p.length : Int) a (p.map (fun x => wrap64 (x + d))) t = some (a, (p ++ s).map (fun x => wrap64 (x + d)), t) := by
  intro s
  induction s with
  | nil =>
    intro p k hl hk
    obtain ⟨k, rfl⟩ : ∃ m, k = m + 1 := ⟨k - 1, by simp at hk; omega⟩
    simp only [impl_Pile_moved.l0]
    rw [if_neg (by simp)]
    simp
  | cons x s ih =>
    intro p k hl hk
    obtain ⟨k, rfl⟩ : ∃ m, k = m + 1 := ⟨k - 1, by simp at hk; omega⟩
    simp only [impl_Pile_moved.l0]
    rw [if_pos (by simp; omega), if_pos (by omega), if_pos (by simp; omega), if_pos (by simp at hl ⊢; omega), rdI, snocI p x (by simp at hl; omega), List.append_cons p x s]
    have e := ih (p ++ [x]) k (by simpa using hl) (by simp at hk; omega)
    rw [List.map_append] at e
    exact e
theorem Pile_moved_eq (d a : Int) (s t : List Int) (k : Nat) (h1 : s.length < 1048577) (h2 : t.length < 1048577) (hk : s.length < k) : impl_Pile_moved.f k a s t d = some (a, s.map (fun x => wrap64 (x + d)), t) := by
  unfold impl_Pile_moved.f
  rw [Clone_eq t (by omega), Option.bind_some]
  exact Pile_moved_l0 d a t s [] k h1 hk
theorem allP_drop : ∀ (i : Nat) (s t : List Int), s.length = t.length → allP s t = true → allP (s.drop i) (t.drop i) = true := by
  intro i
  induction i with
  | zero => intro s t _ h; simpa using h
  | succ i ih =>
    intro s t hst h
    cases s with
    | nil => simp [allP]
    | cons x s =>
      cases t with
      | nil => simp at hst
      | cons y t =>
        simp only [allP, Bool.and_eq_true] at h
        simpa using ih s t (by simpa using hst) h.2
theorem allP_rd : ∀ (i : Nat) (s t : List Int), s.length = t.length → allP s t = true → i < s.length → -99 ≤ rd s i ∧ rd s i ≤ 99 := by
  intro i
  induction i with
  | zero =>
    intro s t hst h hi
    cases s with
    | nil => simp at hi
    | cons x s =>
      cases t with
      | nil => simp at hst
      | cons y t =>
        simp only [allP, okP, Bool.and_eq_true, decide_eq_true_eq] at h
        simpa [rd] using h.1.1
  | succ i ih =>
    intro s t hst h hi
    cases s with
    | nil => simp at hi
    | cons x s =>
      cases t with
      | nil => simp at hst
      | cons y t =>
        simp only [allP, Bool.and_eq_true] at h
        have := ih s t (by simpa using hst) h.2 (by simpa using hi)
        simpa [rd] using this
theorem w_per (x y : Int) : wrap64 (x + 18446744073709551616 * y) = wrap64 x := by
  unfold wrap64
  omega
theorem w_rep (a : Int) : ∃ q, wrap64 a = a + 18446744073709551616 * q := ⟨-((a + 9223372036854775808) / 18446744073709551616), by unfold wrap64; omega⟩
theorem w_w (a : Int) : wrap64 (wrap64 a) = wrap64 a := by
  obtain ⟨q, h⟩ := w_rep a
  rw [show wrap64 (wrap64 a) = wrap64 (a + 18446744073709551616 * q) from by rw [← h], w_per]
theorem w_add_l (a b : Int) : wrap64 (wrap64 a + b) = wrap64 (a + b) := by
  obtain ⟨q, h⟩ := w_rep a
  rw [h, show a + 18446744073709551616 * q + b = (a + b) + 18446744073709551616 * q from by omega, w_per]
theorem w_add_r (a b : Int) : wrap64 (a + wrap64 b) = wrap64 (a + b) := by rw [Int.add_comm, w_add_l, Int.add_comm]
theorem w_neg (a : Int) : wrap64 (-wrap64 a) = wrap64 (-a) := by
  obtain ⟨q, h⟩ := w_rep a
  rw [h, show -(a + 18446744073709551616 * q) = -a + 18446744073709551616 * (-q) from by omega, w_per]
theorem w_sub_l (a b : Int) : wrap64 (wrap64 a - b) = wrap64 (a - b) := by rw [Int.sub_eq_add_neg, w_add_l, ← Int.sub_eq_add_neg]
theorem w_sub_r (a b : Int) : wrap64 (a - wrap64 b) = wrap64 (a - b) := by
  obtain ⟨q, h⟩ := w_rep b
  rw [h, show a - (b + 18446744073709551616 * q) = (a - b) + 18446744073709551616 * (-q) from by omega, w_per]
theorem w_mul_l (a b : Int) : wrap64 (wrap64 a * b) = wrap64 (a * b) := by
  obtain ⟨q, h⟩ := w_rep a
  rw [h, Int.add_mul, Int.mul_assoc, w_per]
theorem w_mul_r (a b : Int) : wrap64 (a * wrap64 b) = wrap64 (a * b) := by rw [Int.mul_comm, w_mul_l, Int.mul_comm]
theorem w_zero : wrap64 0 = 0 := by simp [wrap64]
def US (a : Int) : List Int → List Int → Int
  | l :: ls, w :: ws => w * (2 * l + a) + US a ls ws
  | _, _ => 0
def UW : List Int → Int
  | [] => 0
  | w :: ws => w + UW ws
theorem l4Upper_l0 (a : Int) : ∀ (s t p q : List Int) (A B : Int) (k : Nat), p.length = q.length → s.length = t.length → (p ++ s).length < 4611686018427387904 → s.length < k →
    spec_l4Upper.l0 k (wrap64 A) (wrap64 B) (p.length : Int) a (p ++ s) (q ++ t) = some (wrap64 (A + US a s t), wrap64 (B + UW t)) := by
  intro s
  induction s with
  | nil =>
    intro t p q A B k hpq hst hl hk
    obtain ⟨k, rfl⟩ : ∃ m, k = m + 1 := ⟨k - 1, by simp at hk; omega⟩
    have : t = [] := List.eq_nil_of_length_eq_zero (by simpa using hst.symm)
    subst this
    simp only [spec_l4Upper.l0]
    rw [if_neg (by simp)]
    simp [US, UW]
  | cons x s ih =>
    intro t p q A B k hpq hst hl hk
    obtain ⟨k, rfl⟩ : ∃ m, k = m + 1 := ⟨k - 1, by simp at hk; omega⟩
    cases t with
    | nil => simp at hst
    | cons y t =>
      have e : rd (q ++ y :: t) (p.length : Int) = y := by rw [hpq]; exact rdI q t y
      simp only [spec_l4Upper.l0]
      rw [if_pos (by simp; omega), if_pos (by omega), if_pos (by rw [hpq]; simp; omega), rdI, e, snocI p x (by simp at hl; omega), List.append_cons p x s, List.append_cons q y t, w_add_l (2 * x), w_mul_r, w_add_l, w_add_r, w_add_l]
      rw [ih t (p ++ [x]) (q ++ [y]) _ _ k (by simp [hpq]) (by simpa using hst) (by simpa using hl) (by simp at hk; omega)]
      simp only [US, UW, Int.add_assoc]
theorem Pile_centre_l0 (a : Int) : ∀ (s t p q : List Int) (A B : Int) (k : Nat), p.length = q.length → s.length = t.length → (p ++ s).length < 4611686018427387904 → s.length < k →
    impl_Pile_centre.l0 k (wrap64 A) (wrap64 B) (p.length : Int) a (p ++ s) (q ++ t) = some (wrap64 (A + US a s t), wrap64 (B + 2 * UW t)) := by
  intro s
  induction s with
  | nil =>
    intro t p q A B k hpq hst hl hk
    obtain ⟨k, rfl⟩ : ∃ m, k = m + 1 := ⟨k - 1, by simp at hk; omega⟩
    have : t = [] := List.eq_nil_of_length_eq_zero (by simpa using hst.symm)
    subst this
    simp only [impl_Pile_centre.l0]
    rw [if_neg (by simp)]
    simp [US, UW]
  | cons x s ih =>
    intro t p q A B k hpq hst hl hk
    obtain ⟨k, rfl⟩ : ∃ m, k = m + 1 := ⟨k - 1, by simp at hk; omega⟩
    cases t with
    | nil => simp at hst
    | cons y t =>
      have e : rd (q ++ y :: t) (p.length : Int) = y := by rw [hpq]; exact rdI q t y
      simp only [impl_Pile_centre.l0]
      rw [if_pos (by simp; omega), if_pos (by omega), if_pos (by rw [hpq]; simp; omega), rdI, e, snocI p x (by simp at hl; omega), List.append_cons p x s, List.append_cons q y t, w_add_l (2 * x), w_mul_r, w_add_l, w_add_r, w_add_l, w_add_r]
      rw [ih t (p ++ [x]) (q ++ [y]) _ _ k (by simp [hpq]) (by simpa using hst) (by simpa using hl) (by simp at hk; omega)]
      simp only [US, UW, Int.add_assoc, Int.mul_add]
theorem US_bound (a : Int) (ha : 1 ≤ a ∧ a ≤ 24) : ∀ (s t : List Int), s.length = t.length → allP s t = true →
    -21978 * (s.length : Int) ≤ US a s t ∧ US a s t ≤ 21978 * (s.length : Int) ∧ (s.length : Int) ≤ UW t ∧ UW t ≤ 99 * (s.length : Int) := by
  intro s
  induction s with
  | nil =>
    intro t ht _
    have : t = [] := List.eq_nil_of_length_eq_zero (by simpa using ht.symm)
    subst this
    simp [US, UW]
  | cons x s ih =>
    intro t ht h
    cases t with
    | nil => simp at ht
    | cons y t =>
      simp only [allP, okP, Bool.and_eq_true, decide_eq_true_eq] at h
      have := ih t (by simpa using ht) h.2
      have m1 : y * (2 * x + a) ≤ y * 222 := Int.mul_le_mul_of_nonneg_left (by omega) (by omega)
      have m2 : y * (-222) ≤ y * (2 * x + a) := Int.mul_le_mul_of_nonneg_left (by omega) (by omega)
      simp only [US, UW, List.length_cons, Int.natCast_add, Int.natCast_one]
      omega
/-- The sums of an upper part, and the contact. -/
def uS (a : Int) (ls ws : List Int) (i : Nat) : Int := US a (ls.drop i) (ws.drop i)
def uW (ws : List Int) (i : Nat) : Int := UW (ws.drop i)
theorem u_bound {a : Int} {ls ws : List Int} (h : POk a ls ws) (i : Nat) (hi : i < ls.length) : -175824 ≤ uS a ls ws i ∧ uS a ls ws i ≤ 175824 ∧ 1 ≤ uW ws i ∧ uW ws i ≤ 792 := by
  have h1 := h.len
  have h2 := h.same
  have b := US_bound a h.wide (ls.drop i) (ws.drop i) (by simp; omega) (allP_drop i ls ws h.same.symm h.all)
  simp only [List.length_drop] at b
  unfold uS uW
  omega
theorem l4Upper_eq {a : Int} {ls ws : List Int} (h : POk a ls ws) (i : Nat) (hi : i < ls.length) (k : Nat) (hk : 10 ≤ k) : spec_l4Upper.f k a ls ws (i : Int) = some (uS a ls ws i, uW ws i) := by
  have h1 := h.len
  have h2 := h.same
  have b := u_bound h i hi
  have e := l4Upper_l0 a (ls.drop i) (ws.drop i) (ls.take i) (ws.take i) 0 0 k (by simp; omega) (by simp; omega) (by simp; omega) (by simp; omega)
  rw [List.take_append_drop, List.take_append_drop, w_zero, show (ls.take i).length = i from by simp; omega, Int.zero_add, Int.zero_add] at e
  unfold spec_l4Upper.f
  rw [e]
  unfold uS uW at b ⊢
  rw [wrap_id (by omega) (by omega), wrap_id (by omega) (by omega)]
theorem Pile_centre_eq {a : Int} {ls ws : List Int} (h : POk a ls ws) (i : Nat) (hi : i < ls.length) (k : Nat) (hk : 10 ≤ k) : impl_Pile_centre.f k a ls ws (i : Int) = some (uS a ls ws i, 2 * uW ws i) := by
  have h1 := h.len
  have h2 := h.same
  have b := u_bound h i hi
  have e := Pile_centre_l0 a (ls.drop i) (ws.drop i) (ls.take i) (ws.take i) 0 0 k (by simp; omega) (by simp; omega) (by simp; omega) (by simp; omega)
  rw [List.take_append_drop, List.take_append_drop, w_zero, show (ls.take i).length = i from by simp; omega, Int.zero_add, Int.zero_add] at e
  unfold impl_Pile_centre.f
  rw [e]
  unfold uS uW at b ⊢
  rw [wrap_id (by omega) (by omega), wrap_id (by omega) (by omega)]
theorem eqIntS_l0 : ∀ (s p : List Int) (k : Nat), (p ++ s).length < 4611686018427387904 → s.length < k → laws_eqIntS.l0 k (p ++ s) (p ++ s) (p.length : Int) = some true := by
  intro s
  induction s with
  | nil =>
    intro p k hl hk
    obtain ⟨k, rfl⟩ : ∃ m, k = m + 1 := ⟨k - 1, by simp at hk; omega⟩
    simp only [laws_eqIntS.l0]
    rw [if_neg (by simp)]
  | cons x s ih =>
    intro p k hl hk
    obtain ⟨k, rfl⟩ : ∃ m, k = m + 1 := ⟨k - 1, by simp at hk; omega⟩
    simp only [laws_eqIntS.l0]
    rw [if_pos (by simp; omega), if_pos (by omega), if_pos (by simp; omega), if_pos trivial, snocI p x (by simp at hl; omega)]
    have e := ih (p ++ [x]) k (by simpa using hl) (by simp at hk; omega)
    rw [List.append_assoc] at e
    exact e
theorem eqIntS_refl (l : List Int) (k : Nat) (hl : l.length < 4611686018427387904) (hk : l.length < k) : laws_eqIntS.f k l l = some true := by
  unfold laws_eqIntS.f
  rw [if_pos rfl]
  exact eqIntS_l0 l [] k (by simpa using hl) hk
theorem eqPile_refl (a : Int) (l1 l2 : List Int) (k : Nat) (h1 : l1.length < 4611686018427387904) (h2 : l2.length < 4611686018427387904) (hk1 : l1.length < k) (hk2 : l2.length < k) : laws_eqPile.f k a l1 l2 a l1 l2 = some true := by
  unfold laws_eqPile.f
  rw [if_pos rfl, eqIntS_refl l1 k h1 hk1, Option.bind_some, if_pos rfl, eqIntS_refl l2 k h2 hk2]
  rfl
def seqI : Int → Nat → List Int
  | _, 0 => []
  | m, n + 1 => m :: seqI (m + 1) n
theorem markIntS_l0 : ∀ (s p : List Int) (m : Int) (k : Nat), (p ++ s).length < 1073741824 → 0 ≤ m → m + s.length < 4294967296 → s.length < k →
    laws_markIntS.l0 k (p ++ s) m (p.length : Int) = some (m + s.length, p ++ seqI m s.length) := by
  intro s
  induction s with
  | nil =>
    intro p m k hl h0 h1 hk
    obtain ⟨k, rfl⟩ : ∃ j, k = j + 1 := ⟨k - 1, by simp at hk; omega⟩
    simp only [laws_markIntS.l0]
    rw [if_neg (by simp)]
    simp [seqI]
  | cons x s ih =>
    intro p m k hl h0 h1 hk
    obtain ⟨k, rfl⟩ : ∃ j, k = j + 1 := ⟨k - 1, by simp at hk; omega⟩
    simp only [laws_markIntS.l0]
    simp only [List.length_cons, Int.natCast_add, Int.natCast_one, List.length_append] at h1 hl hk
    rw [if_pos (by simp; omega), if_pos (by omega)]
    simp only [Int.toNat_natCast, List.set_append_right _ _ (Nat.le_refl _), Nat.sub_self, List.set_cons_zero]
    rw [snocI p x (by omega), wrap_id (x := m + 1) (by omega) (by omega), List.append_cons]
    rw [show ((p ++ [x]).length : Int) = ((p ++ [m]).length : Int) from by simp]
    rw [ih (p ++ [m]) (m + 1) k (by simp; omega) (by omega) (by omega) (by omega)]
    simp [seqI]
    omega
theorem heldIntS_l0 : ∀ (n : Nat) (p : List Int) (m : Int) (k : Nat), p.length + n < 1073741824 → 0 ≤ m → m + n < 4294967296 → n < k →
    laws_heldIntS.l0 k (p ++ seqI m n) m (p.length : Int) = some (m + n) := by
  intro n
  induction n with
  | zero =>
    intro p m k hl h0 h1 hk
    obtain ⟨k, rfl⟩ : ∃ j, k = j + 1 := ⟨k - 1, by omega⟩
    simp only [laws_heldIntS.l0]
    rw [if_neg (by simp [seqI])]
    simp
  | succ n ih =>
    intro p m k hl h0 h1 hk
    obtain ⟨k, rfl⟩ : ∃ j, k = j + 1 := ⟨k - 1, by omega⟩
    rw [show seqI m (n + 1) = m :: seqI (m + 1) n from rfl]
    simp only [laws_heldIntS.l0]
    rw [if_pos (by simp; omega), if_pos (by omega), rdI, if_pos rfl, wrap_id (x := m + 1) (by omega) (by omega), snocI p m (by omega), List.append_cons]
    rw [ih (p ++ [m]) (m + 1) k (by simp; omega) (by omega) (by omega) (by omega)]
    congr 1
    omega
theorem markIntS_eq (l : List Int) (m : Int) (k : Nat) (hl : l.length < 1073741824) (h0 : 0 ≤ m) (h1 : m + l.length < 4294967296) (hk : l.length < k) : laws_markIntS.f k l m = some (m + l.length, seqI m l.length) :=
  markIntS_l0 l [] m k (by simpa using hl) h0 h1 hk
theorem heldIntS_eq (n : Nat) (m : Int) (k : Nat) (hl : n < 1073741824) (h0 : 0 ≤ m) (h1 : m + n < 4294967296) (hk : n < k) : laws_heldIntS.f k (seqI m n) m = some (m + n) :=
  heldIntS_l0 n [] m k (by simpa using hl) h0 h1 hk
theorem markPile_eq (a : Int) (l1 l2 : List Int) (k : Nat) (h1 : l1.length + l2.length ≤ 1048576) (hk1 : l1.length < k) (hk2 : l2.length < k) :
    laws_markPile.f k a l1 l2 1 = some (1 + (l1.length : Int) + (l2.length : Int), seqI 1 l1.length, seqI (1 + (l1.length : Int)) l2.length) := by
  unfold laws_markPile.f
  rw [markIntS_eq l1 1 k (by omega) (by omega) (by omega) hk1, Option.bind_some, markIntS_eq l2 _ k (by omega) (by omega) (by omega) hk2]
  rfl
theorem heldPile_eq (a : Int) (n1 n2 : Nat) (k : Nat) (h1 : n1 + n2 ≤ 1048576) (hk1 : n1 < k) (hk2 : n2 < k) :
    laws_heldPile.f k a (seqI 1 n1) (seqI (1 + (n1 : Int)) n2) 1 = some (1 + (n1 : Int) + (n2 : Int)) := by
  unfold laws_heldPile.f
  rw [heldIntS_eq n1 1 k (by omega) (by omega) (by omega) hk1, Option.bind_some, if_neg (by omega), heldIntS_eq n2 _ k (by omega) (by omega) (by omega) hk2, Option.bind_some, if_neg (by omega)]
theorem bne_refl (b : Bool) : (b != b) = false := by cases b <;> rfl
/-- n bricks of weight 1. -/
def ones (n : Nat) : List Int := List.replicate n 1
theorem UW_ones (n : Nat) : UW (ones n) = n := by
  unfold ones
  induction n with
  | zero => rfl
  | succ n ih =>
    rw [List.replicate_succ]
    simp only [UW, ih]
    omega
theorem US_map (a d : Int) : ∀ (ls : List Int), US a (ls.map (· + d)) (ones ls.length) = US a ls (ones ls.length) + 2 * (ls.length : Int) * d := by
  intro ls
  induction ls with
  | nil => simp [US, ones]
  | cons x ls ih =>
    simp only [ones, List.length_cons, List.replicate_succ, List.map_cons, US] at ih ⊢
    rw [ih]
    have e : (2 * ((ls.length + 1 : Nat) : Int)) * d = 2 * (ls.length : Int) * d + 2 * d := by
      rw [show (2 * ((ls.length + 1 : Nat) : Int)) = 2 * (ls.length : Int) + 2 from by omega, Int.add_mul]
    rw [e]
    omega
theorem ones_snoc (n : Nat) : ones n ++ [1] = ones (n + 1) := by
  unfold ones
  rw [List.replicate_succ']
theorem rd_zero (x : Int) (l : List Int) : rd (x :: l) 0 = x := rfl
theorem rd_one (x y : Int) (l : List Int) : rd (x :: y :: l) 1 = y := rfl
theorem Down_eq (a b : Int) (h : 1 ≤ b) (hb : b ≤ 1000) (h1 : -1000000 ≤ a) (h2 : a ≤ 1000000) : spec_l4Down.f a b = some (a / b) := by
  unfold spec_l4Down.f
  by_cases h0 : a < 0
  · rw [if_pos h0, if_neg (by omega), wrap_id (x := -a) (by omega) (by omega), wrap_id (x := -a + b) (by omega) (by omega), wrap_id (x := -a + b - 1) (by omega) (by omega), Int.tdiv_eq_ediv_of_nonneg (by omega)]
    have q1 : 0 ≤ (-a + b - 1) / b := Int.ediv_nonneg (by omega) (by omega)
    have q2 : (-a + b - 1) / b ≤ -a + b - 1 := Int.ediv_le_self _ (by omega)
    rw [wrap_id (x := (-a + b - 1) / b) (by omega) (by omega), wrap_id (by omega) (by omega)]
    congr 1
    have e1 := Int.mul_ediv_add_emod (-a + b - 1) b
    have e2 := Int.emod_nonneg (-a + b - 1) (show b ≠ 0 by omega)
    have e3 := Int.emod_lt_of_pos (-a + b - 1) (show 0 < b by omega)
    symm
    have e4 : b * (-((-a + b - 1) / b)) = -(b * ((-a + b - 1) / b)) := by rw [Int.mul_neg]
    have hd : a / b = -((-a + b - 1) / b) := by
      refine (Int.ediv_eq_iff_of_pos (show 0 < b by omega)).mpr ⟨?_, ?_⟩
      · rw [Int.mul_comm, e4]; omega
      · rw [Int.mul_comm, e4]; omega
    exact hd
  · rw [if_neg h0, if_neg (by omega), Int.tdiv_eq_ediv_of_nonneg (by omega)]
    have q1 : 0 ≤ a / b := Int.ediv_nonneg (by omega) (by omega)
    have q2 : a / b ≤ a := Int.ediv_le_self _ (by omega)
    rw [wrap_id (by omega) (by omega)]
theorem l4Sizes_eq (a n : Int) : spec_l4Sizes.f a n = some (decide (1 ≤ a ∧ a ≤ 24) && decide (1 ≤ n ∧ n ≤ 8)) := by
  unfold spec_l4Sizes.f
  rw [l1In_eq, Option.bind_some, l1In_eq, Option.bind_some]
  cases decide (1 ≤ a ∧ a ≤ 24) <;> simp
theorem isSize_eq (a n : Int) : impl_isSize.f a n = some (decide (1 ≤ a ∧ a ≤ 24) && decide (1 ≤ n ∧ n ≤ 8)) := by
  unfold impl_isSize.f
  rw [isWide_eq, Option.bind_some, within_eq, Option.bind_some]
  cases decide (1 ≤ a ∧ a ≤ 24) <;> simp
/-- The sum of the pile of equal weights, and its lowest left end. -/
def SS (a : Int) (ls : List Int) : Int := US a ls (ones ls.length)
structure Ed (a x : Int) (l : List Int) : Prop where
  wide : 1 ≤ a ∧ a ≤ 24
  len : l.length + 1 ≤ 8
  lo : 2 * ((l.length : Int) + 1) * x ≤ SS a (x :: l)
  hi : SS a (x :: l) ≤ 2 * ((l.length : Int) + 1) * (x + a)
  low : -24 * ((l.length : Int) + 1) ≤ x ∧ x ≤ 0
  each : ∀ y ∈ x :: l, -200 ≤ y ∧ y ≤ 200
theorem mulN {n : Int} {x : Int} (hn : 1 ≤ n) (hn8 : n ≤ 8) (hx : -400 ≤ x) (hy : x ≤ 400) : -6400 ≤ 2 * n * x ∧ 2 * n * x ≤ 6400 := by
  have : n = 1 ∨ n = 2 ∨ n = 3 ∨ n = 4 ∨ n = 5 ∨ n = 6 ∨ n = 7 ∨ n = 8 := by omega
  rcases this with rfl | rfl | rfl | rfl | rfl | rfl | rfl | rfl <;> omega
theorem Ed.bound {a x : Int} {l : List Int} (h : Ed a x l) : -6400 ≤ SS a (x :: l) ∧ SS a (x :: l) ≤ 6400 := by
  have h1 := h.wide
  have h2 := h.len
  have h3 := h.low
  have h4 := h.lo
  have h5 := h.hi
  have b1 := mulN (n := (l.length : Int) + 1) (x := x) (by omega) (by omega) (by omega) (by omega)
  have b2 := mulN (n := (l.length : Int) + 1) (x := x + a) (by omega) (by omega) (by omega) (by omega)
  omega
/-- The next brick's place. -/
def nx (a x : Int) (l : List Int) : Int := -(-(SS a (x :: l)) / (2 * ((l.length : Int) + 1))) - a
theorem div_iff {s n q : Int} (hn : 0 < n) : q ≤ -s / n ↔ n * q ≤ -s := by rw [Int.le_ediv_iff_mul_le hn, Int.mul_comm]
theorem nx_iff {a x : Int} {l : List Int} (y : Int) : nx a x l ≤ y ↔ SS a (x :: l) ≤ 2 * ((l.length : Int) + 1) * (y + a) := by
  have hn : 0 < 2 * ((l.length : Int) + 1) := by omega
  have := div_iff (s := SS a (x :: l)) (q := -(y + a)) hn
  rw [Int.mul_neg] at this
  unfold nx
  omega
theorem nx_le {a x : Int} {l : List Int} (h : Ed a x l) : nx a x l ≤ x := (nx_iff x).mpr h.hi
theorem nx_ge {a x : Int} {l : List Int} (h : Ed a x l) : x - a ≤ nx a x l := by
  have h1 := (nx_iff (a := a) (x := x) (l := l) (nx a x l)).mp (Int.le_refl _)
  have h2 := h.lo
  have hn : 0 < 2 * ((l.length : Int) + 1) := by omega
  have := Int.le_of_mul_le_mul_left (Int.le_trans h2 h1) hn
  omega
theorem nx_mul {a x : Int} {l : List Int} (h : Ed a x l) : 2 * ((l.length : Int) + 1) * nx a x l ≤ SS a (x :: l) := by
  have hn : 0 < 2 * ((l.length : Int) + 1) := by omega
  have hw := h.wide
  by_cases hc : SS a (x :: l) ≤ 2 * ((l.length : Int) + 1) * ((nx a x l - 1) + a)
  · have := (nx_iff (a := a) (x := x) (l := l) (nx a x l - 1)).mpr hc
    omega
  · have : 2 * ((l.length : Int) + 1) * nx a x l ≤ 2 * ((l.length : Int) + 1) * ((nx a x l - 1) + a) := Int.mul_le_mul_of_nonneg_left (by omega) (by omega)
    omega
theorem SS_cons (a y : Int) (l : List Int) : SS a (y :: l) = (2 * y + a) + SS a l := by
  unfold SS ones
  rw [List.length_cons, List.replicate_succ]
  simp only [US]
  omega
theorem Ed.next {a x : Int} {l : List Int} (h : Ed a x l) (h7 : l.length + 2 ≤ 8) : Ed a (nx a x l) (x :: l) := by
  have g1 := nx_le h
  have g2 := nx_ge h
  have g3 := nx_mul h
  have g4 := (nx_iff (a := a) (x := x) (l := l) (nx a x l)).mp (Int.le_refl _)
  have hw := h.wide
  have hl := h.low
  refine ⟨hw, by simpa using h7, ?_, ?_, ?_, ?_⟩
  · rw [SS_cons, List.length_cons]
    have e : 2 * (((l.length + 1 : Nat) : Int) + 1) * nx a x l = 2 * ((l.length : Int) + 1) * nx a x l + 2 * nx a x l := by
      rw [show 2 * (((l.length + 1 : Nat) : Int) + 1) = 2 * ((l.length : Int) + 1) + 2 from by omega, Int.add_mul]
    omega
  · rw [SS_cons, List.length_cons]
    have e : 2 * (((l.length + 1 : Nat) : Int) + 1) * (nx a x l + a) = 2 * ((l.length : Int) + 1) * (nx a x l + a) + 2 * (nx a x l + a) := by
      rw [show 2 * (((l.length + 1 : Nat) : Int) + 1) = 2 * ((l.length : Int) + 1) + 2 from by omega, Int.add_mul]
    omega
  · rw [List.length_cons]
    omega
  · intro y hy
    rcases List.mem_cons.mp hy with rfl | hy
    · omega
    · exact h.each y hy
theorem upper0 {a x : Int} {l : List Int} (h : Ed a x l) (k : Nat) (hk : 10 ≤ k) : spec_l4Upper.f k a (x :: l) (ones (l.length + 1)) 0 = some (SS a (x :: l), (l.length : Int) + 1) := by
  have h2 := h.len
  have b := h.bound
  have e := l4Upper_l0 a (x :: l) (ones (l.length + 1)) [] [] 0 0 k rfl (by simp [ones]) (by simp; omega) (by simp; omega)
  rw [List.nil_append, List.nil_append, w_zero, Int.zero_add, Int.zero_add, UW_ones, show US a (x :: l) (ones (l.length + 1)) = SS a (x :: l) from rfl] at e
  unfold spec_l4Upper.f
  simp only [List.length_nil, Int.natCast_zero] at e
  rw [e, wrap_id (by omega) (by omega), wrap_id (by omega) (by omega)]
  simp
theorem centre0 {a x : Int} {l : List Int} (S : Int) (hS : SS a (x :: l) = S) (b : -1000000 ≤ S ∧ S ≤ 1000000) (h2 : l.length + 1 ≤ 8) (k : Nat) (hk : 10 ≤ k) : impl_Pile_centre.f k a (x :: l) (ones (l.length + 1)) 0 = some (S, 2 * ((l.length : Int) + 1)) := by
  have e := Pile_centre_l0 a (x :: l) (ones (l.length + 1)) [] [] 0 0 k rfl (by simp [ones]) (by simp; omega) (by simp; omega)
  rw [List.nil_append, List.nil_append, w_zero, Int.zero_add, Int.zero_add, UW_ones, show US a (x :: l) (ones (l.length + 1)) = S from hS] at e
  unfold impl_Pile_centre.f
  simp only [List.length_nil, Int.natCast_zero] at e
  rw [e, wrap_id (by omega) (by omega), wrap_id (by omega) (by omega)]
  simp
theorem centre1 {a x : Int} {l : List Int} (y : Int) (h : Ed a x l) (k : Nat) (hk : 10 ≤ k) : impl_Pile_centre.f k a (y :: x :: l) (ones (l.length + 2)) 1 = some (SS a (x :: l), 2 * ((l.length : Int) + 1)) := by
  have h2 := h.len
  have b := h.bound
  have e := Pile_centre_l0 a (x :: l) (ones (l.length + 1)) [y] [1] 0 0 k rfl (by simp [ones]) (by simp; omega) (by simp; omega)
  rw [w_zero, Int.zero_add, Int.zero_add, UW_ones, show US a (x :: l) (ones (l.length + 1)) = SS a (x :: l) from rfl] at e
  unfold impl_Pile_centre.f
  rw [show ones (l.length + 2) = [1] ++ ones (l.length + 1) from rfl, show y :: x :: l = [y] ++ x :: l from rfl]
  simp only [List.length_cons, List.length_nil] at e
  refine Eq.trans e ?_
  rw [wrap_id (by omega) (by omega), wrap_id (by omega) (by omega)]
  simp
theorem holds1 {a x : Int} {l : List Int} (y : Int) (h : Ed a x l) (hy : y ≤ x) (hy2 : -400 ≤ y) (k : Nat) (hk : 10 ≤ k) : impl_Pile_holds.f k a (y :: x :: l) (ones (l.length + 2)) 1 = some (decide (nx a x l ≤ y)) := by
  have h1 := h.wide
  have h2 := h.len
  have h3 := h.low
  have b1 := mulN (n := (l.length : Int) + 1) (x := x) (by omega) (by omega) (by omega) (by omega)
  have b2 := mulN (n := (l.length : Int) + 1) (x := y + a) (by omega) (by omega) (by omega) (by omega)
  unfold impl_Pile_holds.f impl_Pile_contact.f
  rw [if_neg (by omega), if_pos (by omega), if_pos (by simp; omega), show wrap64 (1 - 1) = 0 from by simp [wrap64], if_pos (by omega), if_pos (by simp; omega), rd_zero, rd_one, Option.bind_some, centre1 y h k hk, Option.bind_some]
  have m1 : mx x y = x := by unfold mx; split <;> omega
  have m2 : mn x y = y := by unfold mn; split <;> omega
  simp only [m1, m2]
  rw [wrap_id (x := y + a) (by omega) (by omega), Int.mul_comm x, Int.mul_comm (y + a), wrap_id (x := 2 * ((l.length : Int) + 1) * x) (by omega) (by omega), wrap_id (x := 2 * ((l.length : Int) + 1) * (y + a)) (by omega) (by omega), if_pos h.lo]
  congr 1
  exact decide_eq_decide.mpr (nx_iff y).symm
theorem concat2 (y : Int) (l : List Int) (h : l.length ≤ 8) (k : Nat) (hk : 10 ≤ k) : slices_Concat_int_int.f k [[y], l] = some (y :: l) := by
  obtain ⟨k, rfl⟩ : ∃ m, k = m + 6 := ⟨k - 6, by omega⟩
  unfold slices_Concat_int_int.f
  have e0 : wrap64 (0 + (([y] : List Int).length : Int)) = 1 := by simp [wrap64]
  have e1 : wrap64 (1 + (l.length : Int)) = 1 + (l.length : Int) := wrap_id (by omega) (by omega)
  have r0 : rd_L1 [[y], l] 0 = [y] := rfl
  have r1 : rd_L1 [[y], l] 1 = l := rfl
  have s0 : wrap64 (0 + 1) = 1 := by simp [wrap64]
  have s1 : wrap64 (1 + 1) = 2 := by simp [wrap64]
  simp only [slices_Concat_int_int.l0, r0, e0, s0]
  rw [if_pos (by simp), if_pos (by omega), if_pos (by simp), if_neg (by omega)]
  rw [if_pos (by simp), if_pos (by omega), if_pos (by simp), r1, e1, if_neg (by omega), s1, if_neg (by simp)]
  unfold slices_Grow_int_int.f
  rw [if_pos ⟨rfl, by omega, by omega⟩, Option.bind_some]
  simp only [slices_Concat_int_int.l1, r0, s0]
  rw [if_pos (by simp), if_pos (by omega), if_pos (by simp), if_pos (by simp)]
  rw [if_pos (by simp), if_pos (by omega), if_pos (by simp), r1, if_pos (by simp; omega), s1, if_neg (by simp)]
  rfl
theorem impl_l1 {a x : Int} {l : List Int} (h : Ed a x l) (h7 : l.length + 2 ≤ 8) (n : Int) : ∀ (d : Nat) (k : Nat), (d : Int) ≤ nx a x l - (x - a) → 100 ≤ k →
    impl_EdgePile.l1 (k + d + 1) a n (nx a x l - d) a (x :: l) (ones (l.length + 2)) = impl_EdgePile.l0 k a n a (nx a x l :: x :: l) (ones (l.length + 2)) := by
  have g1 := nx_le h
  have g2 := nx_ge h
  have hw := h.wide
  have hl := h.low
  have h2 := h.len
  intro d
  induction d with
  | zero =>
    intro k hd hk
    simp only [impl_EdgePile.l1, Int.natCast_zero, Int.sub_zero]
    rw [concat2 _ _ (by simp; omega) _ (by omega), Option.bind_some, holds1 _ h g1 (by omega) _ (by omega), Option.bind_some, if_pos (by simp)]
  | succ d ih =>
    intro k hd hk
    simp only [impl_EdgePile.l1]
    rw [concat2 _ _ (by simp; omega) _ (by omega), Option.bind_some, holds1 _ h (by omega) (by omega) _ (by omega), Option.bind_some, if_neg (by simp; omega), wrap_id (by omega) (by omega), show nx a x l - ((d + 1 : Nat) : Int) + 1 = nx a x l - d from by omega]
    exact ih k (by omega) hk
theorem SS_map (a d : Int) (l : List Int) : SS a (l.map (· + d)) = SS a l + 2 * (l.length : Int) * d := by
  unfold SS
  rw [List.length_map]
  exact US_map a d l
theorem holds0 {a x : Int} {l : List Int} (h : Ed a x l) (d : Int) (hd : d ≤ -x) (hd2 : -x - a - 1 ≤ d) (k : Nat) (hk : 10 ≤ k) : impl_Pile_holds.f k a ((x :: l).map (· + d)) (ones (l.length + 1)) 0 = some (decide (d ≤ -(SS a (x :: l)) / (2 * ((l.length : Int) + 1)))) := by
  have h1 := h.wide
  have h2 := h.len
  have h3 := h.low
  have hb := h.bound
  have hlo := h.lo
  have hhi := h.hi
  have hn : 0 < 2 * ((l.length : Int) + 1) := by omega
  have e := SS_map a d (x :: l)
  rw [List.length_cons, show ((l.length + 1 : Nat) : Int) = (l.length : Int) + 1 from by omega] at e
  have b0 := mulN (n := (l.length : Int) + 1) (x := d) (by omega) (by omega) (by omega) (by omega)
  have b1 := mulN (n := (l.length : Int) + 1) (x := x + d) (by omega) (by omega) (by omega) (by omega)
  have f1 : 2 * ((l.length : Int) + 1) * (x + d) = 2 * ((l.length : Int) + 1) * x + 2 * ((l.length : Int) + 1) * d := Int.mul_add _ _ _
  have f2 : 2 * ((l.length : Int) + 1) * (x + d + a) = 2 * ((l.length : Int) + 1) * (x + a) + 2 * ((l.length : Int) + 1) * d := by rw [← Int.mul_add]; congr 1; omega
  rw [List.map_cons] at e ⊢
  have hc := centre0 (a := a) (x := x + d) (l := l.map (· + d)) _ e (by omega) (by simpa using h2) k hk
  rw [List.length_map] at hc
  unfold impl_Pile_holds.f impl_Pile_contact.f
  rw [if_pos rfl, if_pos (by simp), rd_zero, Option.bind_some, hc, Option.bind_some]
  simp only []
  rw [wrap_id (x := x + d + a) (by omega) (by omega), Int.mul_comm (x + d), Int.mul_comm (mn (x + d + a) 0), wrap_id (x := 2 * ((l.length : Int) + 1) * (x + d)) (by omega) (by omega), if_pos (by omega)]
  congr 1
  have key := div_iff (s := SS a (x :: l)) (q := d) hn
  by_cases hc : x + d + a ≤ 0
  · have m : mn (x + d + a) 0 = x + d + a := by unfold mn; split <;> omega
    have b3 := mulN (n := (l.length : Int) + 1) (x := x + d + a) (by omega) (by omega) (by omega) (by omega)
    rw [m, wrap_id (by omega) (by omega)]
    refine decide_eq_decide.mpr ⟨fun _ => key.mpr ?_, fun _ => by omega⟩
    have : 2 * ((l.length : Int) + 1) * (x + d + a) ≤ 2 * ((l.length : Int) + 1) * 0 := Int.mul_le_mul_of_nonneg_left hc (by omega)
    rw [Int.mul_zero] at this
    omega
  · have m : mn (x + d + a) 0 = 0 := by unfold mn; split <;> omega
    rw [m, Int.mul_zero, w_zero]
    exact decide_eq_decide.mpr ⟨fun _ => key.mpr (by omega), fun hh => by have := key.mp hh; omega⟩
/-- How far the pile is moved. -/
def by_ (a x : Int) (l : List Int) : Int := -(SS a (x :: l)) / (2 * ((l.length : Int) + 1))
theorem by_le {a x : Int} {l : List Int} (h : Ed a x l) : by_ a x l ≤ -x := by
  have hn : 0 < 2 * ((l.length : Int) + 1) := by omega
  have h4 := h.lo
  have key := (div_iff (s := SS a (x :: l)) (q := by_ a x l) hn).mp (Int.le_refl _)
  have : 2 * ((l.length : Int) + 1) * by_ a x l ≤ 2 * ((l.length : Int) + 1) * (-x) := by rw [Int.mul_neg]; omega
  exact Int.le_of_mul_le_mul_left this hn
theorem by_ge {a x : Int} {l : List Int} (h : Ed a x l) : -x - a ≤ by_ a x l := by
  have hn : 0 < 2 * ((l.length : Int) + 1) := by omega
  have h4 := h.hi
  refine (div_iff (s := SS a (x :: l)) (q := -x - a) hn).mpr ?_
  rw [show -x - a = -(x + a) from by omega, Int.mul_neg]
  omega
theorem map_wrap (d : Int) : ∀ (l : List Int), (∀ y ∈ l, -200 ≤ y ∧ y ≤ 200) → -400 ≤ d → d ≤ 400 → l.map (fun x => wrap64 (x + d)) = l.map (· + d) := by
  intro l h h1 h2
  refine List.map_congr_left fun y hy => ?_
  have := h y hy
  exact wrap_id (by omega) (by omega)
/-- What comes of it. -/
def endR (a x : Int) (l : List Int) : Int × List Int × List Int × Bool := keptR a ((x :: l).map (· + by_ a x l)) (ones (l.length + 1))
theorem impl_l2 {a x : Int} {l : List Int} (h : Ed a x l) : ∀ (d : Nat) (k : Nat), by_ a x l + (d : Int) ≤ -x → 100 ≤ k →
    impl_EdgePile.l2 (k + d + 1) (by_ a x l + d) a (x :: l) (ones (l.length + 1)) = some (endR a x l) := by
  have g1 := by_le h
  have g2 := by_ge h
  have hw := h.wide
  have hl := h.low
  have h2 := h.len
  intro d
  induction d with
  | zero =>
    intro k hd hk
    simp only [impl_EdgePile.l2, Int.natCast_zero, Int.add_zero]
    rw [Pile_moved_eq _ _ _ _ _ (by simp; omega) (by simp [ones]; omega) (by simp; omega), Option.bind_some, map_wrap _ _ h.each (by omega) (by omega), holds0 h _ (by omega) (by omega) _ (by omega), Option.bind_some]
    rw [if_pos (by simp [by_]), IsPile_eq _ _ _ _ (by omega), Option.bind_some]
    unfold endR keptR
    simp only []
    split <;> rfl
  | succ d ih =>
    intro k hd hk
    simp only [impl_EdgePile.l2]
    rw [Pile_moved_eq _ _ _ _ _ (by simp; omega) (by simp [ones]; omega) (by simp; omega), Option.bind_some, map_wrap _ _ h.each (by omega) (by omega), holds0 h _ (by omega) (by omega) _ (by omega), Option.bind_some]
    rw [if_neg (by simp only [decide_eq_true_eq]; unfold by_ at *; omega), wrap_id (by omega) (by omega), show by_ a x l + ((d + 1 : Nat) : Int) - 1 = by_ a x l + d from by omega]
    exact ih k (by omega) hk
theorem spec_l1 {a : Int} (d : Int) (ws : List Int) (hd : -400 ≤ d ∧ d ≤ 400) (n : Nat) (hn : n ≤ 8) : ∀ (s p : List Int) (k : Nat), (∀ y ∈ s, -200 ≤ y ∧ y ≤ 200) → p.length + s.length = n → s.length + 20 ≤ k →
    spec_EdgePile.l1 k (n : Int) d (p.length : Int) a (p ++ s) ws = some (keptR a (p ++ s.map (· + d)) ws) := by
  intro s
  induction s with
  | nil =>
    intro p k _ hp hk
    obtain ⟨k, rfl⟩ : ∃ m, k = m + 1 := ⟨k - 1, by omega⟩
    simp only [spec_EdgePile.l1, List.length_nil, Nat.add_zero] at hp ⊢
    rw [if_neg (by omega), l4Pile_eq _ _ _ _ (by simp at hk; omega), Option.bind_some]
    unfold keptR
    simp only [List.map_nil]
    split <;> rfl
  | cons y s ih =>
    intro p k hs hp hk
    obtain ⟨k, rfl⟩ : ∃ m, k = m + 1 := ⟨k - 1, by omega⟩
    have hy := hs y List.mem_cons_self
    simp only [List.length_cons] at hp hk
    simp only [spec_EdgePile.l1]
    rw [if_pos (by omega), if_pos (by omega), if_pos (by simp; omega), rdI, snocI p (y + d) (by omega), wrap_id (x := y + d) (by omega) (by omega)]
    have e : (p ++ y :: s).set ((p.length : Int)).toNat (y + d) = (p ++ [y + d]) ++ s := by
      rw [show ((p.length : Int)).toNat = p.length from by omega, List.set_append_right _ _ (Nat.le_refl _), Nat.sub_self]
      simp
    rw [e, ih (p ++ [y + d]) k (fun z hz => hs z (List.mem_cons_of_mem _ hz)) (by simp; omega) (by omega)]
    simp
theorem both_go (a : Int) (n : Nat) (hn : n ≤ 8) : ∀ (m : Nat) (x : Int) (l : List Int), Ed a x l → l.length + 1 + m = n → ∃ r : Int × List Int × List Int × Bool, r.2.1.length ≤ 100 ∧ r.2.2.1.length ≤ 100 ∧
    ∀ k, 200 + 60 * m ≤ k → spec_EdgePile.l0 k a (n : Int) ((l.length : Int) + 1) a (x :: l) (ones (l.length + 1)) = some r ∧ impl_EdgePile.l0 k a (n : Int) a (x :: l) (ones (l.length + 1)) = some r := by
  intro m
  induction m with
  | zero =>
    intro x l h hm
    have g1 := by_le h
    have g2 := by_ge h
    have hw := h.wide
    have hl := h.low
    have h2 := h.len
    have hb := h.bound
    have hr := keptR_len a ((x :: l).map (· + by_ a x l)) (ones (l.length + 1))
    refine ⟨endR a x l, hr.1, hr.2, fun k hk => ?_⟩
    obtain ⟨k, rfl⟩ : ∃ q, k = q + 1 := ⟨k - 1, by omega⟩
    constructor
    · simp only [spec_EdgePile.l0]
      rw [if_neg (by omega), upper0 h k (by omega), Option.bind_some]
      simp only []
      rw [wrap_id (x := 2 * ((l.length : Int) + 1)) (by omega) (by omega), wrap_id (x := -(SS a (x :: l))) (by omega) (by omega), Down_eq _ _ (by omega) (by omega) (by omega) (by omega), Option.bind_some]
      have e := spec_l1 (a := a) (by_ a x l) (ones (l.length + 1)) (by omega) n hn (x :: l) [] k h.each (by simp; omega) (by simp; omega)
      show spec_EdgePile.l1 k (n : Int) (by_ a x l) 0 a (x :: l) (ones (l.length + 1)) = some (keptR a ((x :: l).map (· + by_ a x l)) (ones (l.length + 1)))
      simpa using e
    · simp only [impl_EdgePile.l0]
      rw [if_neg (by simp; omega), if_pos (by simp), rd_zero, wrap_id (x := -x) (by omega) (by omega)]
      obtain ⟨d, hd⟩ := Int.eq_ofNat_of_zero_le (show 0 ≤ -x - by_ a x l by omega)
      have e := impl_l2 h d (k - d - 1) (by omega) (by omega)
      rw [show k - d - 1 + d + 1 = k from by omega, show by_ a x l + (d : Int) = -x from by omega] at e
      exact e
  | succ m ih =>
    intro x l h hm
    have g1 := nx_le h
    have g2 := nx_ge h
    have hw := h.wide
    have hl := h.low
    have h2 := h.len
    have hb := h.bound
    obtain ⟨r, r1, r2, hr⟩ := ih (nx a x l) (x :: l) (h.next (by omega)) (by simp; omega)
    refine ⟨r, r1, r2, fun k hk => ?_⟩
    obtain ⟨k, rfl⟩ : ∃ q, k = q + 1 := ⟨k - 1, by omega⟩
    simp only [List.length_cons] at hr
    constructor
    · simp only [spec_EdgePile.l0]
      rw [if_pos (by omega), upper0 h k (by omega), Option.bind_some]
      simp only []
      rw [wrap_id (x := 2 * ((l.length : Int) + 1)) (by omega) (by omega), wrap_id (x := -(SS a (x :: l))) (by omega) (by omega), Down_eq _ _ (by omega) (by omega) (by omega) (by omega), Option.bind_some, Option.bind_some]
      have w1 : wrap64 (-(-(SS a (x :: l)) / (2 * ((l.length : Int) + 1)))) = nx a x l + a := by
        rw [wrap_id] <;> unfold nx at * <;> omega
      rw [w1, show nx a x l + a - a = nx a x l from by omega, wrap_id (x := nx a x l) (by omega) (by omega), if_pos (by simp; omega), if_pos (by simp [ones]; omega), ones_snoc, wrap_id (x := (l.length : Int) + 1 + 1) (by omega) (by omega)]
      exact (hr k (by omega)).1
    · simp only [impl_EdgePile.l0]
      rw [if_pos (by simp; omega), if_pos (by simp [ones]; omega), if_pos (by simp), rd_zero, ones_snoc, wrap_id (x := x - a) (by omega) (by omega)]
      obtain ⟨d, hd⟩ := Int.eq_ofNat_of_zero_le (show 0 ≤ nx a x l - (x - a) by omega)
      have e := impl_l1 h (by omega) (n : Int) d (k - d - 1) (by omega) (by omega)
      rw [show k - d - 1 + d + 1 = k from by omega, show nx a x l - (d : Int) = x - a from by omega] at e
      refine Eq.trans e ?_
      exact (hr (k - d - 1) (by omega)).2
theorem Ed_start (a : Int) (h : 1 ≤ a ∧ a ≤ 24) : Ed a 0 [] := by
  refine ⟨h, by simp, ?_, ?_, by simp, ?_⟩
  · simp [SS, US, ones]
    omega
  · simp [SS, US, ones]
    omega
  · intro y hy
    simp at hy
    omega
theorem both (a n : Int) : ∃ r : Int × List Int × List Int × Bool, r.2.1.length ≤ 100 ∧ r.2.2.1.length ≤ 100 ∧ ∀ k, 1000 ≤ k → spec_EdgePile.f k a n = some r ∧ impl_EdgePile.f k a n = some r := by
  by_cases h1 : 1 ≤ a ∧ a ≤ 24
  · by_cases h2 : 1 ≤ n ∧ n ≤ 8
    · obtain ⟨m, rfl⟩ := Int.eq_ofNat_of_zero_le (show 0 ≤ n by omega)
      obtain ⟨r, r1, r2, hr⟩ := both_go a m (by omega) (m - 1) 0 [] (Ed_start a h1) (by simp; omega)
      refine ⟨r, r1, r2, fun k hk => ?_⟩
      have := hr k (by omega)
      unfold spec_EdgePile.f impl_EdgePile.f
      rw [l4Sizes_eq, isSize_eq, Option.bind_some, Option.bind_some]
      simp only [h1, h2, decide_true, and_self, Bool.and_true, if_true]
      exact this
    · refine ⟨(0, [], [], false), by simp, by simp, fun k hk => ?_⟩
      unfold spec_EdgePile.f impl_EdgePile.f
      rw [l4Sizes_eq, isSize_eq, Option.bind_some, Option.bind_some]
      simp only [h2, decide_false, Bool.and_false, Bool.false_eq_true, if_false, and_self]
  · refine ⟨(0, [], [], false), by simp, by simp, fun k hk => ?_⟩
    unfold spec_EdgePile.f impl_EdgePile.f
    rw [l4Sizes_eq, isSize_eq, Option.bind_some, Option.bind_some]
    simp only [h1, decide_false, Bool.false_and, Bool.false_eq_true, if_false, and_self]
theorem FnExactEdgePile : laws_FnExactEdgePile.Pure := by
  intro a n _ _
  refine ⟨3000, ?_⟩
  obtain ⟨r, hr1, hr2, hr⟩ := both a n
  have hs := fun k hk => (hr k hk).1
  have hi := fun k hk => (hr k hk).2
  have n1 : ¬ ((1 : Int) + (r.2.1.length : Int) + (r.2.2.1.length : Int) < 0) := by omega
  have hm : ∀ k, 200 ≤ k → laws_markPile.f k r.1 r.2.1 r.2.2.1 1 = some (1 + (r.2.1.length : Int) + (r.2.2.1.length : Int), seqI 1 r.2.1.length, seqI (1 + (r.2.1.length : Int)) r.2.2.1.length) := fun k hk => markPile_eq r.1 r.2.1 r.2.2.1 k (by omega) (by omega) (by omega)
  have hh : ∀ k, 200 ≤ k → laws_heldPile.f k r.1 (seqI 1 r.2.1.length) (seqI (1 + (r.2.1.length : Int)) r.2.2.1.length) 1 = some (1 + (r.2.1.length : Int) + (r.2.2.1.length : Int)) := fun k hk => heldPile_eq r.1 r.2.1.length r.2.2.1.length k (by omega) (by omega) (by omega)
  have he : ∀ k, 200 ≤ k → laws_eqPile.f k r.1 r.2.1 r.2.2.1 r.1 r.2.1 r.2.2.1 = some true := fun k hk => eqPile_refl r.1 r.2.1 r.2.2.1 k (by omega) (by omega) (by omega) (by omega)
  simp (maxSteps := 4000000) (disch := omega) only [laws_FnExactEdgePile.f, hs, hi, he, Option.bind_some, bne_refl, if_true, if_false]
  simp (maxSteps := 4000000) (disch := omega) only [laws_FnExactEdgePile.j0, hm, hh, n1, hi, he, Option.bind_some, bne_refl, if_true, if_false, Bool.false_eq_true]
  simp (maxSteps := 4000000) (disch := omega) only [laws_FnExactEdgePile.j1, hh, n1, Option.bind_some, if_true, if_false, Bool.false_eq_true]

end Go.Proofs.Ytnnpfekgapikfaa.Pure

/- The pure statement of the law FnExactMostShift: what the law computes, as a function over numbers and lists, answers true for every input. No conditions beyond the ranges of Go's int. -/
import Derived.Test.YtigijeedekjeiaaPFnExactMostShiftx6
set_option linter.unusedVariables false
set_option linter.unusedSimpArgs false
namespace Go.Proofs.Ytigijeedekjeiaa.Pure
open Go.RowKit Go.Proofs.YtigijeedekjeiaaW.PrintWords Go.Proofs.YtigijeedekjeiaaW.PrintLast Go.Proofs.Ytigijeedekjeiaa.PFnExactMostShift

theorem wrap_id {x : Int} (h0 : -9223372036854775808 ≤ x) (h1 : x ≤ 9223372036854775807) : wrap64 x = x := by
  unfold wrap64
  omega
theorem wf64 {x : Int} (h : (Lit.int .i64 x).wf = true) : -9223372036854775808 ≤ x ∧ x ≤ 9223372036854775807 := by
  simp [Lit.wf, IntKind.min, IntKind.max, IntKind.signed, IntKind.bits] at h
  omega
theorem l1In_eq (a b c : Int) : spec_l1In.f a b c = some (decide (b ≤ a ∧ a ≤ c)) := by
  unfold spec_l1In.f
  split <;> simp_all
  omega
theorem within_eq (a b c : Int) : impl_within.f a b c = some (decide (b ≤ a ∧ a ≤ c)) := by
  unfold impl_within.f
  split <;> simp_all
  omega
theorem snocI {α : Type} (p : List α) (x : α) (h : p.length < 9223372036854775807) : wrap64 ((p.length : Int) + 1) = ((p ++ [x]).length : Int) := by
  rw [wrap_id (by omega) (by omega)]
  simp
theorem sz_id (n : Nat) (h : n ≤ 9223372036854775807) : wrap64 (1048576 - (n : Int)) = 1048576 - (n : Int) := wrap_id (by omega) (by omega)
theorem set_rep {α : Type} (q : List α) (z y : α) (n : Nat) : (q ++ List.replicate (n + 1) z).set q.length y = (q ++ [y]) ++ List.replicate n z := by
  rw [List.set_append_right _ _ (Nat.le_refl _), Nat.sub_self]
  simp [List.replicate_succ]
theorem rdI (p s : List Int) (x : Int) : rd (p ++ x :: s) ((p.length : Int)) = x := by
  simp [rd]
theorem eqIntS_l0 : ∀ (s p : List Int) (k : Nat), (p ++ s).length < 4611686018427387904 → s.length < k → laws_eqIntS.l0 k (p ++ s) (p ++ s) (p.length : Int) = some true := by
  intro s
  induction s with
  | nil =>
    intro p k hl hk
    obtain ⟨k, rfl⟩ : ∃ m, k = m + 1 := ⟨k - 1, by simp at hk; omega⟩
    simp only [laws_eqIntS.l0]
    rw [if_neg (by simp)]
  | cons x s ih =>
    intro p k hl hk
    obtain ⟨k, rfl⟩ : ∃ m, k = m + 1 := ⟨k - 1, by simp at hk; omega⟩
    simp only [laws_eqIntS.l0]
    rw [if_pos (by simp; omega), if_pos (by omega), if_pos (by simp; omega), if_pos trivial, snocI p x (by simp at hl; omega)]
    have e := ih (p ++ [x]) k (by simpa using hl) (by simp at hk; omega)
    rw [List.append_assoc] at e
    exact e
theorem eqIntS_refl (l : List Int) (k : Nat) (hl : l.length < 4611686018427387904) (hk : l.length < k) : laws_eqIntS.f k l l = some true := by
  unfold laws_eqIntS.f
  rw [if_pos rfl]
  exact eqIntS_l0 l [] k (by simpa using hl) hk
def okP (l w : Int) : Bool := decide (-99 ≤ l ∧ l ≤ 99) && decide (1 ≤ w ∧ w ≤ 99)
def allP : List Int → List Int → Bool
  | l :: ls, w :: ws => okP l w && allP ls ws
  | _, _ => true
def pileB (a : Int) (ls ws : List Int) : Bool := decide (1 ≤ a ∧ a ≤ 24) && (decide (1 ≤ (ls.length : Int) ∧ (ls.length : Int) ≤ 8) && (decide (ws.length = ls.length) && allP ls ws))
theorem isLeft_eq (a : Int) : impl_isLeft.f a = some (decide (-99 ≤ a ∧ a ≤ 99)) := by simp only [impl_isLeft.f, within_eq, Option.bind_some]
theorem isWeight_eq (a : Int) : impl_isWeight.f a = some (decide (1 ≤ a ∧ a ≤ 99)) := by simp only [impl_isWeight.f, within_eq, Option.bind_some]
theorem isWide_eq (a : Int) : impl_isWide.f a = some (decide (1 ≤ a ∧ a ≤ 24)) := by simp only [impl_isWide.f, within_eq, Option.bind_some]
theorem l4Pile_l0 (a : Int) : ∀ (s t p q : List Int) (k : Nat), p.length = q.length → s.length = t.length → (p ++ s).length < 4611686018427387904 → s.length < k →
    spec_l4Pile.l0 k ((p ++ s).length : Int) (p.length : Int) a (p ++ s) (q ++ t) = some (allP s t) := by
  intro s
  induction s with
  | nil =>
    intro t p q k hpq hst hl hk
    obtain ⟨k, rfl⟩ : ∃ m, k = m + 1 := ⟨k - 1, by simp at hk; omega⟩
    simp only [spec_l4Pile.l0]
    rw [if_neg (by simp)]
    simp [allP]
  | cons x s ih =>
    intro t p q k hpq hst hl hk
    obtain ⟨k, rfl⟩ : ∃ m, k = m + 1 := ⟨k - 1, by simp at hk; omega⟩
    cases t with
    | nil => simp at hst
    | cons y t =>
      have e : rd (q ++ y :: t) (p.length : Int) = y := by rw [hpq]; exact rdI q t y
      simp only [spec_l4Pile.l0]
      rw [if_pos (by simp; omega), if_pos (by omega), if_pos (by simp; omega), if_pos (by rw [hpq]; simp; omega), rdI, e, l1In_eq, Option.bind_some, l1In_eq, Option.bind_some, snocI p x (by simp at hl; omega), List.append_cons p x s, List.append_cons q y t]
      rw [ih t (p ++ [x]) (q ++ [y]) k (by simp [hpq]) (by simpa using hst) (by simpa using hl) (by simp at hk; omega)]
      simp only [allP, okP]
      by_cases h1 : -99 ≤ x ∧ x ≤ 99 <;> by_cases h2 : 1 ≤ y ∧ y ≤ 99 <;> simp [h1, h2]
theorem IsPile_l0 (a : Int) : ∀ (s t p q : List Int) (k : Nat), p.length = q.length → s.length = t.length → (p ++ s).length < 4611686018427387904 → s.length < k →
    impl_IsPile.l0 k (p ++ s) ((p ++ s).length : Int) (p.length : Int) a (p ++ s) (q ++ t) = some (allP s t) := by
  intro s
  induction s with
  | nil =>
    intro t p q k hpq hst hl hk
    obtain ⟨k, rfl⟩ : ∃ m, k = m + 1 := ⟨k - 1, by simp at hk; omega⟩
    simp only [impl_IsPile.l0]
    rw [if_neg (by simp)]
    simp [allP]
  | cons x s ih =>
    intro t p q k hpq hst hl hk
    obtain ⟨k, rfl⟩ : ∃ m, k = m + 1 := ⟨k - 1, by simp at hk; omega⟩
    cases t with
    | nil => simp at hst
    | cons y t =>
      have e : rd (q ++ y :: t) (p.length : Int) = y := by rw [hpq]; exact rdI q t y
      simp only [impl_IsPile.l0]
      rw [if_pos (by simp; omega), if_pos (by omega), if_pos (by simp; omega), if_pos (by rw [hpq]; simp; omega), rdI, e, isLeft_eq, Option.bind_some, isWeight_eq, Option.bind_some, snocI p x (by simp at hl; omega), List.append_cons p x s, List.append_cons q y t]
      rw [ih t (p ++ [x]) (q ++ [y]) k (by simp [hpq]) (by simpa using hst) (by simpa using hl) (by simp at hk; omega)]
      simp only [allP, okP]
      by_cases h1 : -99 ≤ x ∧ x ≤ 99 <;> by_cases h2 : 1 ≤ y ∧ y ≤ 99 <;> simp [h1, h2]
theorem l4Pile_eq (a : Int) (ls ws : List Int) (k : Nat) (hk : 10 ≤ k) : spec_l4Pile.f k a ls ws = some (pileB a ls ws) := by
  obtain ⟨k, rfl⟩ : ∃ m, k = m + 1 := ⟨k - 1, by omega⟩
  unfold spec_l4Pile.f pileB
  rw [l1In_eq, l1In_eq, Option.bind_some, Option.bind_some]
  by_cases h1 : 1 ≤ a ∧ a ≤ 24
  · by_cases h2 : 1 ≤ (ls.length : Int) ∧ (ls.length : Int) ≤ 8
    · by_cases h3 : ws.length = ls.length
      · have h := l4Pile_l0 a ls ws [] [] k rfl h3.symm (by simp; omega) (by omega)
        simp only [List.nil_append, List.length_nil] at h
        simp only [h1, h2, h3, and_self, decide_true, if_true, spec_l4Pile.j0, bne_self_eq_false, Bool.false_eq_true, if_false, Bool.true_and]
        exact h
      · have h4 : ((ws.length : Int) != (ls.length : Int)) = true := by simp; omega
        simp only [h1, h2, h3, h4, and_self, decide_true, decide_false, if_true, spec_l4Pile.j0, Bool.true_and, Bool.false_and]
    · simp only [h1, h2, and_self, decide_true, decide_false, if_true, spec_l4Pile.j0, Bool.true_and, Bool.false_and, Bool.false_eq_true, if_false]
  · simp only [h1, decide_false, spec_l4Pile.j0, Bool.false_and, Bool.false_eq_true, if_false, if_true]
theorem IsPile_eq (a : Int) (ls ws : List Int) (k : Nat) (hk : 10 ≤ k) : impl_IsPile.f k a ls ws = some (pileB a ls ws) := by
  obtain ⟨k, rfl⟩ : ∃ m, k = m + 1 := ⟨k - 1, by omega⟩
  unfold impl_IsPile.f pileB
  rw [isWide_eq, within_eq, Option.bind_some, Option.bind_some]
  by_cases h1 : 1 ≤ a ∧ a ≤ 24
  · by_cases h2 : 1 ≤ (ls.length : Int) ∧ (ls.length : Int) ≤ 8
    · by_cases h3 : ws.length = ls.length
      · have h := IsPile_l0 a ls ws [] [] k rfl h3.symm (by simp; omega) (by omega)
        simp only [List.nil_append, List.length_nil] at h
        simp only [h1, h2, h3, and_self, decide_true, if_true, impl_IsPile.j0, bne_self_eq_false, Bool.false_eq_true, if_false, Bool.true_and]
        exact h
      · have h4 : ((ws.length : Int) != (ls.length : Int)) = true := by simp; omega
        simp only [h1, h2, h3, h4, and_self, decide_true, decide_false, if_true, impl_IsPile.j0, Bool.true_and, Bool.false_and]
    · simp only [h1, h2, and_self, decide_true, decide_false, if_true, impl_IsPile.j0, Bool.true_and, Bool.false_and, Bool.false_eq_true, if_false]
  · simp only [h1, decide_false, impl_IsPile.j0, Bool.false_and, Bool.false_eq_true, if_false, if_true]
/-- What a valid pile is. -/
structure POk (a : Int) (ls ws : List Int) : Prop where
  wide : 1 ≤ a ∧ a ≤ 24
  len : 1 ≤ ls.length ∧ ls.length ≤ 8
  same : ws.length = ls.length
  all : allP ls ws = true
theorem pileB_ok {a : Int} {ls ws : List Int} (h : pileB a ls ws = true) : POk a ls ws := by
  simp only [pileB, Bool.and_eq_true, decide_eq_true_eq] at h
  exact ⟨h.1, by omega, h.2.2.1, h.2.2.2⟩
theorem pileB_of {a : Int} {ls ws : List Int} (h : POk a ls ws) : pileB a ls ws = true := by
  simp only [pileB, Bool.and_eq_true, decide_eq_true_eq]
  exact ⟨h.wide, by have := h.len; omega, h.same, h.all⟩
theorem allP_drop : ∀ (i : Nat) (s t : List Int), s.length = t.length → allP s t = true → allP (s.drop i) (t.drop i) = true := by
  intro i
  induction i with
  | zero => intro s t _ h; simpa using h
  | succ i ih =>
    intro s t hst h
    cases s with
    | nil => simp [allP]
    | cons x s =>
      cases t with
      | nil => simp at hst
      | cons y t =>
        simp only [allP, Bool.and_eq_true] at h
        simpa using ih s t (by simpa using hst) h.2
theorem allP_rd : ∀ (i : Nat) (s t : List Int), s.length = t.length → allP s t = true → i < s.length → -99 ≤ rd s i ∧ rd s i ≤ 99 := by
  intro i
  induction i with
  | zero =>
    intro s t hst h hi
    cases s with
    | nil => simp at hi
    | cons x s =>
      cases t with
      | nil => simp at hst
      | cons y t =>
        simp only [allP, okP, Bool.and_eq_true, decide_eq_true_eq] at h
        simpa [rd] using h.1.1
  | succ i ih =>
    intro s t hst h hi
    cases s with
    | nil => simp at hi
    | cons x s =>
      cases t with
      | nil => simp at hst
      | cons y t =>
        simp only [allP, Bool.and_eq_true] at h
        have := ih s t (by simpa using hst) h.2 (by simpa using hi)
        simpa [rd] using this
theorem w_per (x y : Int) : wrap64 (x + 18446744073709551616 * y) = wrap64 x := by
  unfold wrap64
  omega
theorem w_rep (a : Int) : ∃ q, wrap64 a = a + 18446744073709551616 * q := ⟨-((a + 9223372036854775808) / 18446744073709551616), by unfold wrap64; omega⟩
theorem w_w (a : Int) : wrap64 (wrap64 a) = wrap64 a := by
  obtain ⟨q, h⟩ := w_rep a
  rw [show wrap64 (wrap64 a) = wrap64 (a + 18446744073709551616 * q) from by rw [← h], w_per]
theorem w_add_l (a b : Int) : wrap64 (wrap64 a + b) = wrap64 (a + b) := by
  obtain ⟨q, h⟩ := w_rep a
  rw [h, show a + 18446744073709551616 * q + b = (a + b) + 18446744073709551616 * q from by omega, w_per]
theorem w_add_r (a b : Int) : wrap64 (a + wrap64 b) = wrap64 (a + b) := by rw [Int.add_comm, w_add_l, Int.add_comm]
theorem w_neg (a : Int) : wrap64 (-wrap64 a) = wrap64 (-a) := by
  obtain ⟨q, h⟩ := w_rep a
  rw [h, show -(a + 18446744073709551616 * q) = -a + 18446744073709551616 * (-q) from by omega, w_per]
theorem w_sub_l (a b : Int) : wrap64 (wrap64 a - b) = wrap64 (a - b) := by rw [Int.sub_eq_add_neg, w_add_l, ← Int.sub_eq_add_neg]
theorem w_sub_r (a b : Int) : wrap64 (a - wrap64 b) = wrap64 (a - b) := by
  obtain ⟨q, h⟩ := w_rep b
  rw [h, show a - (b + 18446744073709551616 * q) = (a - b) + 18446744073709551616 * (-q) from by omega, w_per]
theorem w_mul_l (a b : Int) : wrap64 (wrap64 a * b) = wrap64 (a * b) := by
  obtain ⟨q, h⟩ := w_rep a
  rw [h, Int.add_mul, Int.mul_assoc, w_per]
theorem w_mul_r (a b : Int) : wrap64 (a * wrap64 b) = wrap64 (a * b) := by rw [Int.mul_comm, w_mul_l, Int.mul_comm]
theorem w_zero : wrap64 0 = 0 := by simp [wrap64]
def US (a : Int) : List Int → List Int → Int
  | l :: ls, w :: ws => w * (2 * l + a) + US a ls ws
  | _, _ => 0
def UW : List Int → Int
  | [] => 0
  | w :: ws => w + UW ws
theorem l4Upper_l0 (a : Int) : ∀ (s t p q : List Int) (A B : Int) (k : Nat), p.length = q.length → s.length = t.length → (p ++ s).length < 4611686018427387904 → s.length < k →
    spec_l4Upper.l0 k (wrap64 A) (wrap64 B) (p.length : Int) a (p ++ s) (q ++ t) = some (wrap64 (A + US a s t), wrap64 (B + UW t)) := by
  intro s
  induction s with
  | nil =>
    intro t p q A B k hpq hst hl hk
    obtain ⟨k, rfl⟩ : ∃ m, k = m + 1 := ⟨k - 1, by simp at hk; omega⟩
    have : t = [] := List.eq_nil_of_length_eq_zero (by simpa using hst.symm)
    subst this
    simp only [spec_l4Upper.l0]
    rw [if_neg (by simp)]
    simp [US, UW]
  | cons x s ih =>
    intro t p q A B k hpq hst hl hk
    obtain ⟨k, rfl⟩ : ∃ m, k = m + 1 := ⟨k - 1, by simp at hk; omega⟩
    cases t with
    | nil => simp at hst
    | cons y t =>
      have e : rd (q ++ y :: t) (p.length : Int) = y := by rw [hpq]; exact rdI q t y
      simp only [spec_l4Upper.l0]
      rw [if_pos (by simp; omega), if_pos (by omega), if_pos (by rw [hpq]; simp; omega), rdI, e, snocI p x (by simp at hl; omega), List.append_cons p x s, List.append_cons q y t, w_add_l (2 * x), w_mul_r, w_add_l, w_add_r, w_add_l]
      rw [ih t (p ++ [x]) (q ++ [y]) _ _ k (by simp [hpq]) (by simpa using hst) (by simpa using hl) (by simp at hk; omega)]
      simp only [US, UW, Int.add_assoc]
theorem Pile_centre_l0 (a : Int) : ∀ (s t p q : List Int) (A B : Int) (k : Nat), p.length = q.length → s.length = t.length → (p ++ s).length < 4611686018427387904 → s.length < k →
    impl_Pile_centre.l0 k (wrap64 A) (wrap64 B) (p.length : Int) a (p ++ s) (q ++ t) = some (wrap64 (A + US a s t), wrap64 (B + 2 * UW t)) := by
  intro s
  induction s with
  | nil =>
    intro t p q A B k hpq hst hl hk
    obtain ⟨k, rfl⟩ : ∃ m, k = m + 1 := ⟨k - 1, by simp at hk; omega⟩
    have : t = [] := List.eq_nil_of_length_eq_zero (by simpa using hst.symm)
    subst this
    simp only [impl_Pile_centre.l0]
    rw [if_neg (by simp)]
    simp [US, UW]
  | cons x s ih =>
    intro t p q A B k hpq hst hl hk
    obtain ⟨k, rfl⟩ : ∃ m, k = m + 1 := ⟨k - 1, by simp at hk; omega⟩
    cases t with
    | nil => simp at hst
    | cons y t =>
      have e : rd (q ++ y :: t) (p.length : Int) = y := by rw [hpq]; exact rdI q t y
      simp only [impl_Pile_centre.l0]
      rw [if_pos (by simp; omega), if_pos (by omega), if_pos (by rw [hpq]; simp; omega), rdI, e, snocI p x (by simp at hl; omega), List.append_cons p x s, List.append_cons q y t, w_add_l (2 * x), w_mul_r, w_add_l, w_add_r, w_add_l, w_add_r]
      rw [ih t (p ++ [x]) (q ++ [y]) _ _ k (by simp [hpq]) (by simpa using hst) (by simpa using hl) (by simp at hk; omega)]
      simp only [US, UW, Int.add_assoc, Int.mul_add]
theorem US_bound (a : Int) (ha : 1 ≤ a ∧ a ≤ 24) : ∀ (s t : List Int), s.length = t.length → allP s t = true →
    -21978 * (s.length : Int) ≤ US a s t ∧ US a s t ≤ 21978 * (s.length : Int) ∧ (s.length : Int) ≤ UW t ∧ UW t ≤ 99 * (s.length : Int) := by
  intro s
  induction s with
  | nil =>
    intro t ht _
    have : t = [] := List.eq_nil_of_length_eq_zero (by simpa using ht.symm)
    subst this
    simp [US, UW]
  | cons x s ih =>
    intro t ht h
    cases t with
    | nil => simp at ht
    | cons y t =>
      simp only [allP, okP, Bool.and_eq_true, decide_eq_true_eq] at h
      have := ih t (by simpa using ht) h.2
      have m1 : y * (2 * x + a) ≤ y * 222 := Int.mul_le_mul_of_nonneg_left (by omega) (by omega)
      have m2 : y * (-222) ≤ y * (2 * x + a) := Int.mul_le_mul_of_nonneg_left (by omega) (by omega)
      simp only [US, UW, List.length_cons, Int.natCast_add, Int.natCast_one]
      omega
/-- The sums of an upper part, and the contact. -/
def uS (a : Int) (ls ws : List Int) (i : Nat) : Int := US a (ls.drop i) (ws.drop i)
def uW (ws : List Int) (i : Nat) : Int := UW (ws.drop i)
theorem u_bound {a : Int} {ls ws : List Int} (h : POk a ls ws) (i : Nat) (hi : i < ls.length) : -175824 ≤ uS a ls ws i ∧ uS a ls ws i ≤ 175824 ∧ 1 ≤ uW ws i ∧ uW ws i ≤ 792 := by
  have h1 := h.len
  have h2 := h.same
  have b := US_bound a h.wide (ls.drop i) (ws.drop i) (by simp; omega) (allP_drop i ls ws h.same.symm h.all)
  simp only [List.length_drop] at b
  unfold uS uW
  omega
theorem l4Upper_eq {a : Int} {ls ws : List Int} (h : POk a ls ws) (i : Nat) (hi : i < ls.length) (k : Nat) (hk : 10 ≤ k) : spec_l4Upper.f k a ls ws (i : Int) = some (uS a ls ws i, uW ws i) := by
  have h1 := h.len
  have h2 := h.same
  have b := u_bound h i hi
  have e := l4Upper_l0 a (ls.drop i) (ws.drop i) (ls.take i) (ws.take i) 0 0 k (by simp; omega) (by simp; omega) (by simp; omega) (by simp; omega)
  rw [List.take_append_drop, List.take_append_drop, w_zero, show (ls.take i).length = i from by simp; omega, Int.zero_add, Int.zero_add] at e
  unfold spec_l4Upper.f
  rw [e]
  unfold uS uW at b ⊢
  rw [wrap_id (by omega) (by omega), wrap_id (by omega) (by omega)]
theorem Pile_centre_eq {a : Int} {ls ws : List Int} (h : POk a ls ws) (i : Nat) (hi : i < ls.length) (k : Nat) (hk : 10 ≤ k) : impl_Pile_centre.f k a ls ws (i : Int) = some (uS a ls ws i, 2 * uW ws i) := by
  have h1 := h.len
  have h2 := h.same
  have b := u_bound h i hi
  have e := Pile_centre_l0 a (ls.drop i) (ws.drop i) (ls.take i) (ws.take i) 0 0 k (by simp; omega) (by simp; omega) (by simp; omega) (by simp; omega)
  rw [List.take_append_drop, List.take_append_drop, w_zero, show (ls.take i).length = i from by simp; omega, Int.zero_add, Int.zero_add] at e
  unfold impl_Pile_centre.f
  rw [e]
  unfold uS uW at b ⊢
  rw [wrap_id (by omega) (by omega), wrap_id (by omega) (by omega)]
def cL (ls : List Int) (i : Nat) : Int := if i = 0 then rd ls 0 else mx (rd ls i) (rd ls ((i : Int) - 1))
def cH (a : Int) (ls : List Int) (i : Nat) : Int := if i = 0 then mn (rd ls 0 + a) 0 else mn (rd ls i) (rd ls ((i : Int) - 1)) + a
theorem c_bound {a : Int} {ls ws : List Int} (h : POk a ls ws) (i : Nat) (hi : i < ls.length) : -99 ≤ cL ls i ∧ cL ls i ≤ 99 ∧ -99 ≤ cH a ls i ∧ cH a ls i ≤ 123 := by
  have hw := h.wide
  have r1 := allP_rd i ls ws h.same.symm h.all hi
  unfold cL cH
  by_cases h0 : i = 0
  · subst h0
    simp only [if_true, Int.natCast_zero] at *
    unfold mn
    split <;> omega
  · have r2 := allP_rd (i - 1) ls ws h.same.symm h.all (by omega)
    rw [show (((i - 1 : Nat)) : Int) = (i : Int) - 1 from by omega] at r2
    rw [if_neg h0, if_neg h0]
    unfold mx mn
    (repeat' split) <;> omega
theorem l4Contact_eq {a : Int} {ls ws : List Int} (h : POk a ls ws) (i : Nat) (hi : i < ls.length) : spec_l4Contact.f a ls ws (i : Int) = some (cL ls i, cH a ls i) := by
  have hw := h.wide
  have h1 := h.len
  have r1 := allP_rd i ls ws h.same.symm h.all hi
  unfold spec_l4Contact.f cL cH
  rw [if_pos (by omega), if_pos (by omega)]
  by_cases h0 : i = 0
  · subst h0
    simp only [if_true, Int.natCast_zero] at *
    rw [wrap_id (x := rd ls 0 + a) (by omega) (by omega)]
    unfold spec_l1Least.f mn
    (repeat' split) <;> first | rfl | omega | (simp; omega)
  · have r2 := allP_rd (i - 1) ls ws h.same.symm h.all (by omega)
    rw [show (((i - 1 : Nat)) : Int) = (i : Int) - 1 from by omega] at r2
    rw [if_neg (by omega), wrap_id (x := (i : Int) - 1) (by omega) (by omega), if_pos (by omega), if_pos (by omega), wrap_id (x := rd ls i + a) (by omega) (by omega), wrap_id (x := rd ls ((i : Int) - 1) + a) (by omega) (by omega), if_neg h0, if_neg h0]
    unfold spec_l1Least.f spec_l1Most.f mx mn
    (repeat' split) <;> first | rfl | omega | (simp; omega)
theorem Pile_contact_eq {a : Int} {ls ws : List Int} (h : POk a ls ws) (i : Nat) (hi : i < ls.length) : impl_Pile_contact.f a ls ws (i : Int) = some (cL ls i, cH a ls i) := by
  have hw := h.wide
  have h1 := h.len
  have r1 := allP_rd i ls ws h.same.symm h.all hi
  unfold impl_Pile_contact.f cL cH
  by_cases h0 : i = 0
  · subst h0
    simp only [if_true, Int.natCast_zero] at *
    rw [if_pos (by omega), wrap_id (x := rd ls 0 + a) (by omega) (by omega)]
  · have r2 := allP_rd (i - 1) ls ws h.same.symm h.all (by omega)
    rw [show (((i - 1 : Nat)) : Int) = (i : Int) - 1 from by omega] at r2
    have m : -99 ≤ mn (rd ls i) (rd ls ((i : Int) - 1)) ∧ mn (rd ls i) (rd ls ((i : Int) - 1)) ≤ 99 := by
      unfold mn
      split <;> omega
    rw [if_neg (by omega), if_pos (by omega), if_pos (by omega), wrap_id (x := (i : Int) - 1) (by omega) (by omega), if_pos (by omega), if_pos (by omega), wrap_id (x := mn (rd ls i) (rd ls ((i : Int) - 1)) + a) (by omega) (by omega), if_neg h0, if_neg h0]
def holdsB (a : Int) (ls ws : List Int) (i : Nat) : Bool := decide (cL ls i * (2 * uW ws i) ≤ uS a ls ws i) && decide (uS a ls ws i ≤ cH a ls i * (2 * uW ws i))
theorem prod_bound {c w : Int} (hc : -99 ≤ c ∧ c ≤ 123) (hw : 1 ≤ w ∧ w ≤ 792) : -156816 ≤ c * (2 * w) ∧ c * (2 * w) ≤ 194832 := by
  have m1 : c * (2 * w) ≤ 123 * (2 * w) := Int.mul_le_mul_of_nonneg_right hc.2 (by omega)
  have m2 : -99 * (2 * w) ≤ c * (2 * w) := Int.mul_le_mul_of_nonneg_right hc.1 (by omega)
  omega
theorem Pile_holds_eq {a : Int} {ls ws : List Int} (h : POk a ls ws) (i : Nat) (hi : i < ls.length) (k : Nat) (hk : 10 ≤ k) : impl_Pile_holds.f k a ls ws (i : Int) = some (holdsB a ls ws i) := by
  have b := u_bound h i hi
  have c := c_bound h i hi
  have p1 := prod_bound (c := cL ls i) (w := uW ws i) (by omega) (by omega)
  have p2 := prod_bound (c := cH a ls i) (w := uW ws i) (by omega) (by omega)
  unfold impl_Pile_holds.f
  rw [Pile_contact_eq h i hi, Pile_centre_eq h i hi k hk]
  simp only [Option.bind_some]
  rw [wrap_id (x := cL ls i * (2 * uW ws i)) (by omega) (by omega), wrap_id (x := cH a ls i * (2 * uW ws i)) (by omega) (by omega)]
  unfold holdsB
  by_cases h1 : cL ls i * (2 * uW ws i) ≤ uS a ls ws i <;> simp [h1]
theorem l4Holds_eq {a : Int} {ls ws : List Int} (h : POk a ls ws) (i : Nat) (hi : i < ls.length) (k : Nat) (hk : 10 ≤ k) : spec_l4Holds.f k a ls ws (i : Int) = some (holdsB a ls ws i) := by
  have b := u_bound h i hi
  have c := c_bound h i hi
  have p1 := prod_bound (c := cL ls i) (w := uW ws i) (by omega) (by omega)
  have p2 := prod_bound (c := cH a ls i) (w := uW ws i) (by omega) (by omega)
  unfold spec_l4Holds.f
  rw [l4Contact_eq h i hi, l4Upper_eq h i hi k hk]
  simp only [Option.bind_some]
  rw [wrap_id (x := 2 * uW ws i) (by omega) (by omega), Int.mul_comm (2 * uW ws i) (cL ls i), Int.mul_comm (2 * uW ws i) (cH a ls i), wrap_id (x := cL ls i * (2 * uW ws i)) (by omega) (by omega), wrap_id (x := cH a ls i * (2 * uW ws i)) (by omega) (by omega)]
  unfold holdsB
  by_cases h1 : cL ls i ≤ cH a ls i
  · rw [if_pos h1]
    by_cases h2 : cL ls i * (2 * uW ws i) ≤ uS a ls ws i <;> simp [h2]
  · rw [if_neg h1]
    have m : cH a ls i * (2 * uW ws i) < cL ls i * (2 * uW ws i) := Int.mul_lt_mul_of_pos_right (by omega) (by omega)
    by_cases h2 : cL ls i * (2 * uW ws i) ≤ uS a ls ws i
    · have h3 : ¬ uS a ls ws i ≤ cH a ls i * (2 * uW ws i) := by omega
      simp [h2, h3]
    · simp [h2]
/-- The highest brick below a number that does not hold, or -1. -/
def looseN (a : Int) (ls ws : List Int) : Nat → Int
  | 0 => -1
  | i + 1 => if holdsB a ls ws i then looseN a ls ws i else (i : Int)
theorem looseN_bound (a : Int) (ls ws : List Int) (i : Nat) : -1 ≤ looseN a ls ws i ∧ looseN a ls ws i < (i : Int) := by
  induction i with
  | zero => simp [looseN]
  | succ i ih =>
    unfold looseN
    split <;> omega
theorem l4Loose_l0 {a : Int} {ls ws : List Int} (h : POk a ls ws) : ∀ (i k : Nat), i ≤ ls.length → i + 12 ≤ k → spec_l4Loose.l0 k ((i : Int) - 1) a ls ws = some (looseN a ls ws i) := by
  have h1 := h.len
  intro i
  induction i with
  | zero =>
    intro k hi hk
    obtain ⟨k, rfl⟩ : ∃ m, k = m + 1 := ⟨k - 1, by omega⟩
    simp only [spec_l4Loose.l0]
    rw [if_neg (by omega)]
    rfl
  | succ i ih =>
    intro k hi hk
    obtain ⟨k, rfl⟩ : ∃ m, k = m + 1 := ⟨k - 1, by omega⟩
    simp only [spec_l4Loose.l0, looseN]
    rw [if_pos (by omega), show ((i + 1 : Nat) : Int) - 1 = (i : Int) from by omega, l4Holds_eq h i (by omega) k (by omega), Option.bind_some, wrap_id (x := (i : Int) - 1) (by omega) (by omega), ih k (by omega) (by omega)]
    by_cases hh : holdsB a ls ws i = true <;> simp [hh]
theorem l4Loose_eq {a : Int} {ls ws : List Int} (h : POk a ls ws) (k : Nat) (hk : 20 ≤ k) : spec_l4Loose.f k a ls ws = some (looseN a ls ws ls.length) := by
  have h1 := h.len
  unfold spec_l4Loose.f
  rw [wrap_id (x := (ls.length : Int) - 1) (by omega) (by omega)]
  exact l4Loose_l0 h ls.length k (Nat.le_refl _) (by omega)
theorem highestLoose_l0 {a : Int} {ls ws : List Int} (h : POk a ls ws) : ∀ (i k : Nat), i ≤ ls.length → i + 12 ≤ k → impl_Pile_highestLoose.l0 k ((i : Int) - 1) a ls ws = some (looseN a ls ws i) := by
  have h1 := h.len
  intro i
  induction i with
  | zero =>
    intro k hi hk
    obtain ⟨k, rfl⟩ : ∃ m, k = m + 1 := ⟨k - 1, by omega⟩
    simp only [impl_Pile_highestLoose.l0]
    rw [if_neg (by omega)]
    rfl
  | succ i ih =>
    intro k hi hk
    obtain ⟨k, rfl⟩ : ∃ m, k = m + 1 := ⟨k - 1, by omega⟩
    simp only [impl_Pile_highestLoose.l0, looseN]
    rw [if_pos (by omega), show ((i + 1 : Nat) : Int) - 1 = (i : Int) from by omega, Pile_holds_eq h i (by omega) k (by omega), Option.bind_some, wrap_id (x := (i : Int) - 1) (by omega) (by omega), ih k (by omega) (by omega)]
    by_cases hh : holdsB a ls ws i = true <;> simp [hh]
theorem highestLoose_eq {a : Int} {ls ws : List Int} (h : POk a ls ws) (k : Nat) (hk : 20 ≤ k) : impl_Pile_highestLoose.f k a ls ws = some (looseN a ls ws ls.length) := by
  have h1 := h.len
  unfold impl_Pile_highestLoose.f
  rw [wrap_id (x := (ls.length : Int) - 1) (by omega) (by omega)]
  exact highestLoose_l0 h ls.length k (Nat.le_refl _) (by omega)
theorem l1Own_eq (l : List Int) (h : l.length < 17592186044416) : spec_l1Own.f l = some l := by
  unfold spec_l1Own.f
  rw [Option.bind_some, if_pos (by simpa using h)]
  rfl
theorem Clone_eq (l : List Int) (h : l.length < 17592186044416) : slices_Clone_int_int.f l = some l := by
  unfold slices_Clone_int_int.f
  rw [Option.bind_some, if_pos (by simpa using h)]
  rfl
theorem l4Moved_l0 (d a : Int) (t : List Int) : ∀ (s p : List Int) (k : Nat), (p ++ s).length < 1048577 → s.length < k →
    spec_l4Moved.l0 k d (p.length : Int) a (p ++ s) t a (p.map (fun x => wrap64 (x + d))) t = some (a, (p ++ s).map (fun x => wrap64 (x + d)), t) := by
  intro s
  induction s with
  | nil =>
    intro p k hl hk
    obtain ⟨k, rfl⟩ : ∃ m, k = m + 1 := ⟨k - 1, by simp at hk; omega⟩
    simp only [spec_l4Moved.l0]
    rw [if_neg (by simp)]
    simp
  | cons x s ih =>
    intro p k hl hk
    obtain ⟨k, rfl⟩ : ∃ m, k = m + 1 := ⟨k - 1, by simp at hk; omega⟩
    simp only [spec_l4Moved.l0]
    rw [if_pos (by simp; omega), if_pos (by omega), if_pos (by simp at hl ⊢; omega), rdI, snocI p x (by simp at hl; omega), List.append_cons p x s]
    have e := ih (p ++ [x]) k (by simpa using hl) (by simp at hk; omega)
    rw [List.map_append] at e
    exact e
theorem l4Moved_eq (d a : Int) (s t : List Int) (k : Nat) (h1 : s.length < 1048577) (h2 : t.length < 1048577) (hk : s.length < k) : spec_l4Moved.f k a s t d = some (a, s.map (fun x => wrap64 (x + d)), t) := by
  unfold spec_l4Moved.f
  rw [l1Own_eq t (by omega), Option.bind_some]
  exact l4Moved_l0 d a t s [] k h1 hk
theorem Pile_moved_l0 (d a : Int) (t : List Int) : ∀ (s p : List Int) (k : Nat), (p ++ s).length < 1048577 → s.length < k →
    impl_Pile_moved.l0 k d (p ++ s) ((p ++ s).length : Int) (p.length : Int) a (p.map (fun x => wrap64 (x + d))) t = some (a, (p ++ s).map (fun x => wrap64 (x + d)), t) := by
  intro s
  induction s with
  | nil =>
    intro p k hl hk
    obtain ⟨k, rfl⟩ : ∃ m, k = m + 1 := ⟨k - 1, by simp at hk; omega⟩
    simp only [impl_Pile_moved.l0]
    rw [if_neg (by simp)]
    simp
  | cons x s ih =>
    intro p k hl hk
    obtain ⟨k, rfl⟩ : ∃ m, k = m + 1 := ⟨k - 1, by simp at hk; omega⟩
    simp only [impl_Pile_moved.l0]
    rw [if_pos (by simp; omega), if_pos (by omega), if_pos (by simp; omega), if_pos (by simp at hl ⊢; omega), rdI, snocI p x (by simp at hl; omega), List.append_cons p x s]
    have e := ih (p ++ [x]) k (by simpa using hl) (by simp at hk; omega)
    rw [List.map_append] at e
    exact e
theorem Pile_moved_eq (d a : Int) (s t : List Int) (k : Nat) (h1 : s.length < 1048577) (h2 : t.length < 1048577) (hk : s.length < k) : impl_Pile_moved.f k a s t d = some (a, s.map (fun x => wrap64 (x + d)), t) := by
  unfold impl_Pile_moved.f
  rw [Clone_eq t (by omega), Option.bind_some]
  exact Pile_moved_l0 d a t s [] k h1 hk
theorem toIntS_l0 : ∀ (s p q : List Int) (k : Nat), p.length = q.length → (p ++ s).length < 4611686018427387904 → s.length < k →
    laws_toIntS.l0 k (p ++ s) (q ++ List.replicate s.length 0) (p.length : Int) = some (q ++ s) := by
  intro s
  induction s with
  | nil =>
    intro p q k hpq hl hk
    obtain ⟨k, rfl⟩ : ∃ m, k = m + 1 := ⟨k - 1, by simp at hk; omega⟩
    simp only [laws_toIntS.l0]
    rw [if_neg (by simp)]
    simp
  | cons x s ih =>
    intro p q k hpq hl hk
    obtain ⟨k, rfl⟩ : ∃ m, k = m + 1 := ⟨k - 1, by simp at hk; omega⟩
    simp only [laws_toIntS.l0]
    rw [if_pos (by simp; omega), if_pos (by omega), if_pos (by simp; omega), rdI, snocI p x (by simp at hl; omega)]
    rw [show (((p.length : Nat) : Int)).toNat = q.length from by omega, List.length_cons, set_rep, List.append_cons p x s, ih (p ++ [x]) _ k (by simp [hpq]) (by simpa using hl) (by simp at hk; omega)]
    simp
theorem toIntS_eq (l : List Int) (k : Nat) (hl : l.length ≤ 1048576) (hk : l.length < k) : laws_toIntS.f k l = some l := by
  unfold laws_toIntS.f
  rw [if_pos (by omega), if_pos (by omega)]
  exact toIntS_l0 l [] [] k rfl (by simp; omega) hk
theorem toPile_eq (a : Int) (l1 l2 : List Int) (k : Nat) (h1 : l1.length ≤ 1048576) (h2 : l2.length ≤ 1048576) (hk : l1.length < k) (hk2 : l2.length < k) : laws_toPile.f k a l1 l2 = some (a, l1, l2) := by
  unfold laws_toPile.f
  rw [toIntS_eq l1 k h1 hk, toIntS_eq l2 k h2 hk2]
  rfl
theorem szPile_eq (a : Int) (l1 l2 : List Int) (h1 : l1.length ≤ 9223372036854775807) (h2 : l2.length ≤ 9223372036854775807) :
    laws_szPile.f a l1 l2 1048576 = some (if l1.length + l2.length ≤ 1048576 then 1048576 - (l1.length : Int) - (l2.length : Int) else -1) := by
  unfold laws_szPile.f laws_szIntS.f
  rw [sz_id _ h1]
  by_cases c1 : 1048576 < l1.length
  · rw [if_pos (by omega), Option.bind_some, if_pos (by decide), if_neg (by omega)]
  · rw [if_neg (by omega), Option.bind_some, if_neg (by omega), wrap_id (x := 1048576 - (l1.length : Int) - (l2.length : Int)) (by omega) (by omega)]
    by_cases c2 : l1.length + l2.length ≤ 1048576
    · rw [if_neg (by omega), Option.bind_some, if_neg (by omega), if_pos c2]
    · rw [if_pos (by omega), Option.bind_some, if_pos (by decide), if_neg c2]
theorem eqPile_refl (a : Int) (l1 l2 : List Int) (k : Nat) (h1 : l1.length < 4611686018427387904) (h2 : l2.length < 4611686018427387904) (hk1 : l1.length < k) (hk2 : l2.length < k) : laws_eqPile.f k a l1 l2 a l1 l2 = some true := by
  unfold laws_eqPile.f
  rw [if_pos rfl, eqIntS_refl l1 k h1 hk1, Option.bind_some, if_pos rfl, eqIntS_refl l2 k h2 hk2]
  rfl
theorem bne_refl (b : Bool) : (b != b) = false := by cases b <;> rfl
theorem same_l0 (a : Int) (ls ws : List Int) (hb : ls.length + ws.length ≤ 1048576) : ∀ (n : Nat) (x : Int), x = (n : Int) - 100 → x ≤ 99 → ∃ r : Int × Bool, ∀ k, 30 + n + ls.length + ws.length ≤ k → spec_MostShift.l0 k x a ls ws = some r ∧ impl_MostShift.l0 k x a ls ws = some r := by
  intro n
  induction n with
  | zero =>
    intro x hx hx2
    refine ⟨(0, false), fun k hk => ?_⟩
    obtain ⟨k, rfl⟩ : ∃ m, k = m + 1 := ⟨k - 1, by omega⟩
    simp only [spec_MostShift.l0, impl_MostShift.l0]
    rw [if_neg (by omega), if_neg (by omega)]
    exact ⟨rfl, rfl⟩
  | succ n ih =>
    intro x hx hx2
    obtain ⟨r, hr⟩ := ih (x - 1) (by omega) (by omega)
    have w := wrap_id (x := x - 1) (by omega) (by omega)
    have hx3 : x ≥ -99 := by omega
    by_cases h : pileB a (ls.map (fun y => wrap64 (y + x))) ws = true
    · have ok := pileB_ok h
      have e1 := fun k hk => l4Loose_eq ok k hk
      have e2 := fun k hk => highestLoose_eq ok k hk
      by_cases hz : looseN a (ls.map (fun y => wrap64 (y + x))) ws (ls.map (fun y => wrap64 (y + x))).length < 0
      · refine ⟨(x, true), fun k hk => ?_⟩
        obtain ⟨k, rfl⟩ : ∃ m, k = m + 1 := ⟨k - 1, by omega⟩
        simp (disch := omega) only [spec_MostShift.l0, impl_MostShift.l0, hx3, l4Moved_eq, Pile_moved_eq, l4Pile_eq, IsPile_eq, h, e1, e2, hz, Option.bind_some, if_true, and_self]
      · refine ⟨r, fun k hk => ?_⟩
        obtain ⟨k, rfl⟩ : ∃ m, k = m + 1 := ⟨k - 1, by omega⟩
        simp (disch := omega) only [spec_MostShift.l0, impl_MostShift.l0, hx3, l4Moved_eq, Pile_moved_eq, l4Pile_eq, IsPile_eq, h, e1, e2, hz, w, Option.bind_some, if_true, if_false]
        exact hr k (by omega)
    · refine ⟨r, fun k hk => ?_⟩
      obtain ⟨k, rfl⟩ : ∃ m, k = m + 1 := ⟨k - 1, by omega⟩
      simp (disch := omega) only [spec_MostShift.l0, impl_MostShift.l0, hx3, l4Moved_eq, Pile_moved_eq, l4Pile_eq, IsPile_eq, h, w, Option.bind_some, if_true, if_false, Bool.false_eq_true]
      exact hr k (by omega)
theorem both (a : Int) (ls ws : List Int) (hb : ls.length + ws.length ≤ 1048576) : ∃ r : Int × Bool, ∀ k, 1000 + ls.length + ws.length ≤ k → spec_MostShift.f k a ls ws = some r ∧ impl_MostShift.f k a ls ws = some r := by
  by_cases h : pileB a ls ws = true
  · obtain ⟨r, hr⟩ := same_l0 a ls ws hb 199 99 (by omega) (by omega)
    refine ⟨r, fun k hk => ?_⟩
    simp (disch := omega) only [spec_MostShift.f, impl_MostShift.f, l4Pile_eq, IsPile_eq, h, Option.bind_some, if_true]
    exact hr k (by omega)
  · refine ⟨(0, false), fun k hk => ?_⟩
    simp (disch := omega) only [spec_MostShift.f, impl_MostShift.f, l4Pile_eq, IsPile_eq, h, Option.bind_some, if_false, and_self, Bool.false_eq_true]
theorem FnExactMostShift : ∀ (a0_0 : Int) (l0_1 : List Int) (l0_2 : List Int), ((Lit.int .i64 a0_0).wf = true) → (l0_1.length ≤ 9223372036854775807) → (∀ x_ ∈ l0_1, (Lit.int .i64 x_).wf = true) → (l0_2.length ≤ 9223372036854775807) → (∀ x_ ∈ l0_2, (Lit.int .i64 x_).wf = true) → ∃ k, laws_FnExactMostShift.f k a0_0 l0_1 l0_2 = some true := by
  intro a ls ws _ h1 _ h2 _
  refine ⟨2000 + ls.length + ws.length + 6, ?_⟩
  have hsz := szPile_eq a ls ws h1 h2
  by_cases hb : ls.length + ws.length ≤ 1048576
  · rw [if_pos hb] at hsz
    have n0 : ¬ ((1048576 : Int) - (ls.length : Int) - (ws.length : Int) < 0) := by omega
    obtain ⟨r, hr⟩ := both a ls ws hb
    have hs := fun k hk => (hr k hk).1
    have hi := fun k hk => (hr k hk).2
    simp (maxSteps := 4000000) (disch := omega) only [laws_FnExactMostShift.f, hsz, n0, toPile_eq, hs, hi, Option.bind_some, bne_refl, if_true, if_false, Bool.false_eq_true]
    simp (maxSteps := 4000000) (disch := omega) only [laws_FnExactMostShift.j0, toPile_eq, eqPile_refl, Option.bind_some, if_true, if_false, Bool.false_eq_true]
  · rw [if_neg hb] at hsz
    unfold laws_FnExactMostShift.f
    rw [hsz, Option.bind_some, if_pos (by decide)]

end Go.Proofs.Ytigijeedekjeiaa.Pure

/- The pure statement of the law FnExactUpperCentre: what the law computes, as a function over numbers and lists, answers true for every input. No conditions beyond the ranges of Go's int. -/
import Derived.Test.YtigijeedekjeiaaPFnExactUpperCentrex4
set_option linter.unusedVariables false
set_option linter.unusedSimpArgs false
namespace Go.Proofs.Ytigijeedekjeiaa.Pure
open Go.RowKit Go.Proofs.YtigijeedekjeiaaW.PrintWords Go.Proofs.YtigijeedekjeiaaW.PrintLast Go.Proofs.Ytigijeedekjeiaa.PFnExactUpperCentre

theorem wrap_id {x : Int} (h0 : -9223372036854775808 ≤ x) (h1 : x ≤ 9223372036854775807) : wrap64 x = x := by
  unfold wrap64
  omega
theorem wf64 {x : Int} (h : (Lit.int .i64 x).wf = true) : -9223372036854775808 ≤ x ∧ x ≤ 9223372036854775807 := by
  simp [Lit.wf, IntKind.min, IntKind.max, IntKind.signed, IntKind.bits] at h
  omega
theorem l1In_eq (a b c : Int) : spec_l1In.f a b c = some (decide (b ≤ a ∧ a ≤ c)) := by
  unfold spec_l1In.f
  split <;> simp_all
  omega
theorem within_eq (a b c : Int) : impl_within.f a b c = some (decide (b ≤ a ∧ a ≤ c)) := by
  unfold impl_within.f
  split <;> simp_all
  omega
theorem snocI {α : Type} (p : List α) (x : α) (h : p.length < 9223372036854775807) : wrap64 ((p.length : Int) + 1) = ((p ++ [x]).length : Int) := by
  rw [wrap_id (by omega) (by omega)]
  simp
theorem sz_id (n : Nat) (h : n ≤ 9223372036854775807) : wrap64 (1048576 - (n : Int)) = 1048576 - (n : Int) := wrap_id (by omega) (by omega)
theorem set_rep {α : Type} (q : List α) (z y : α) (n : Nat) : (q ++ List.replicate (n + 1) z).set q.length y = (q ++ [y]) ++ List.replicate n z := by
  rw [List.set_append_right _ _ (Nat.le_refl _), Nat.sub_self]
  simp [List.replicate_succ]
theorem rdI (p s : List Int) (x : Int) : rd (p ++ x :: s) ((p.length : Int)) = x := by
  simp [rd]
theorem eqIntS_l0 : ∀ (s p : List Int) (k : Nat), (p ++ s).length < 4611686018427387904 → s.length < k → laws_eqIntS.l0 k (p ++ s) (p ++ s) (p.length : Int) = some true := by
  intro s
  induction s with
  | nil =>
    intro p k hl hk
    obtain ⟨k, rfl⟩ : ∃ m, k = m + 1 := ⟨k - 1, by simp at hk; omega⟩
    simp only [laws_eqIntS.l0]
    rw [if_neg (by simp)]
  | cons x s ih =>
    intro p k hl hk
    obtain ⟨k, rfl⟩ : ∃ m, k = m + 1 := ⟨k - 1, by simp at hk; omega⟩
    simp only [laws_eqIntS.l0]
    rw [if_pos (by simp; omega), if_pos (by omega), if_pos (by simp; omega), if_pos trivial, snocI p x (by simp at hl; omega)]
    have e := ih (p ++ [x]) k (by simpa using hl) (by simp at hk; omega)
    rw [List.append_assoc] at e
    exact e
theorem eqIntS_refl (l : List Int) (k : Nat) (hl : l.length < 4611686018427387904) (hk : l.length < k) : laws_eqIntS.f k l l = some true := by
  unfold laws_eqIntS.f
  rw [if_pos rfl]
  exact eqIntS_l0 l [] k (by simpa using hl) hk
def okP (l w : Int) : Bool := decide (-99 ≤ l ∧ l ≤ 99) && decide (1 ≤ w ∧ w ≤ 99)
def allP : List Int → List Int → Bool
  | l :: ls, w :: ws => okP l w && allP ls ws
  | _, _ => true
def pileB (a : Int) (ls ws : List Int) : Bool := decide (1 ≤ a ∧ a ≤ 24) && (decide (1 ≤ (ls.length : Int) ∧ (ls.length : Int) ≤ 8) && (decide (ws.length = ls.length) && allP ls ws))
theorem isLeft_eq (a : Int) : impl_isLeft.f a = some (decide (-99 ≤ a ∧ a ≤ 99)) := by simp only [impl_isLeft.f, within_eq, Option.bind_some]
theorem isWeight_eq (a : Int) : impl_isWeight.f a = some (decide (1 ≤ a ∧ a ≤ 99)) := by simp only [impl_isWeight.f, within_eq, Option.bind_some]
theorem isWide_eq (a : Int) : impl_isWide.f a = some (decide (1 ≤ a ∧ a ≤ 24)) := by simp only [impl_isWide.f, within_eq, Option.bind_some]
theorem l4Pile_l0 (a : Int) : ∀ (s t p q : List Int) (k : Nat), p.length = q.length → s.length = t.length → (p ++ s).length < 4611686018427387904 → s.length < k →
    spec_l4Pile.l0 k ((p ++ s).length : Int) (p.length : Int) a (p ++ s) (q ++ t) = some (allP s t) := by
  intro s
  induction s with
  | nil =>
    intro t p q k hpq hst hl hk
    obtain ⟨k, rfl⟩ : ∃ m, k = m + 1 := ⟨k - 1, by simp at hk; omega⟩
    simp only [spec_l4Pile.l0]
    rw [if_neg (by simp)]
    simp [allP]
  | cons x s ih =>
    intro t p q k hpq hst hl hk
    obtain ⟨k, rfl⟩ : ∃ m, k = m + 1 := ⟨k - 1, by simp at hk; omega⟩
    cases t with
    | nil => simp at hst
    | cons y t =>
      have e : rd (q ++ y :: t) (p.length : Int) = y := by rw [hpq]; exact rdI q t y
      simp only [spec_l4Pile.l0]
      rw [if_pos (by simp; omega), if_pos (by omega), if_pos (by simp; omega), if_pos (by rw [hpq]; simp; omega), rdI, e, l1In_eq, Option.bind_some, l1In_eq, Option.bind_some, snocI p x (by simp at hl; omega), List.append_cons p x s, List.append_cons q y t]
      rw [ih t (p ++ [x]) (q ++ [y]) k (by simp [hpq]) (by simpa using hst) (by simpa using hl) (by simp at hk; omega)]
      simp only [allP, okP]
      by_cases h1 : -99 ≤ x ∧ x ≤ 99 <;> by_cases h2 : 1 ≤ y ∧ y ≤ 99 <;> simp [h1, h2]
theorem IsPile_l0 (a : Int) : ∀ (s t p q : List Int) (k : Nat), p.length = q.length → s.length = t.length → (p ++ s).length < 4611686018427387904 → s.length < k →
    impl_IsPile.l0 k (p ++ s) ((p ++ s).length : Int) (p.length : Int) a (p ++ s) (q ++ t) = some (allP s t) := by
  intro s
  induction s with
  | nil =>
    intro t p q k hpq hst hl hk
    obtain ⟨k, rfl⟩ : ∃ m, k = m + 1 := ⟨k - 1, by simp at hk; omega⟩
    simp only [impl_IsPile.l0]
    rw [if_neg (by simp)]
    simp [allP]
  | cons x s ih =>
    intro t p q k hpq hst hl hk
    obtain ⟨k, rfl⟩ : ∃ m, k = m + 1 := ⟨k - 1, by simp at hk; omega⟩
    cases t with
    | nil => simp at hst
    | cons y t =>
      have e : rd (q ++ y :: t) (p.length : Int) = y := by rw [hpq]; exact rdI q t y
      simp only [impl_IsPile.l0]
      rw [if_pos (by simp; omega), if_pos (by omega), if_pos (by simp; omega), if_pos (by rw [hpq]; simp; omega), rdI, e, isLeft_eq, Option.bind_some, isWeight_eq, Option.bind_some, snocI p x (by simp at hl; omega), List.append_cons p x s, List.append_cons q y t]
      rw [ih t (p ++ [x]) (q ++ [y]) k (by simp [hpq]) (by simpa using hst) (by simpa using hl) (by simp at hk; omega)]
      simp only [allP, okP]
      by_cases h1 : -99 ≤ x ∧ x ≤ 99 <;> by_cases h2 : 1 ≤ y ∧ y ≤ 99 <;> simp [h1, h2]
theorem l4Pile_eq (a : Int) (ls ws : List Int) (k : Nat) (hk : 10 ≤ k) : spec_l4Pile.f k a ls ws = some (pileB a ls ws) := by
  obtain ⟨k, rfl⟩ : ∃ m, k = m + 1 := ⟨k - 1, by omega⟩
  unfold spec_l4Pile.f pileB
  rw [l1In_eq, l1In_eq, Option.bind_some, Option.bind_some]
  by_cases h1 : 1 ≤ a ∧ a ≤ 24
  · by_cases h2 : 1 ≤ (ls.length : Int) ∧ (ls.length : Int) ≤ 8
    · by_cases h3 : ws.length = ls.length
      · have h := l4Pile_l0 a ls ws [] [] k rfl h3.symm (by simp; omega) (by omega)
        simp only [List.nil_append, List.length_nil] at h
        simp only [h1, h2, h3, and_self, decide_true, if_true, spec_l4Pile.j0, bne_self_eq_false, Bool.false_eq_true, if_false, Bool.true_and]
        exact h
      · have h4 : ((ws.length : Int) != (ls.length : Int)) = true := by simp; omega
        simp only [h1, h2, h3, h4, and_self, decide_true, decide_false, if_true, spec_l4Pile.j0, Bool.true_and, Bool.false_and]
    · simp only [h1, h2, and_self, decide_true, decide_false, if_true, spec_l4Pile.j0, Bool.true_and, Bool.false_and, Bool.false_eq_true, if_false]
  · simp only [h1, decide_false, spec_l4Pile.j0, Bool.false_and, Bool.false_eq_true, if_false, if_true]
theorem IsPile_eq (a : Int) (ls ws : List Int) (k : Nat) (hk : 10 ≤ k) : impl_IsPile.f k a ls ws = some (pileB a ls ws) := by
  obtain ⟨k, rfl⟩ : ∃ m, k = m + 1 := ⟨k - 1, by omega⟩
  unfold impl_IsPile.f pileB
  rw [isWide_eq, within_eq, Option.bind_some, Option.bind_some]
  by_cases h1 : 1 ≤ a ∧ a ≤ 24
  · by_cases h2 : 1 ≤ (ls.length : Int) ∧ (ls.length : Int) ≤ 8
    · by_cases h3 : ws.length = ls.length
      · have h := IsPile_l0 a ls ws [] [] k rfl h3.symm (by simp; omega) (by omega)
        simp only [List.nil_append, List.length_nil] at h
        simp only [h1, h2, h3, and_self, decide_true, if_true, impl_IsPile.j0, bne_self_eq_false, Bool.false_eq_true, if_false, Bool.true_and]
        exact h
      · have h4 : ((ws.length : Int) != (ls.length : Int)) = true := by simp; omega
        simp only [h1, h2, h3, h4, and_self, decide_true, decide_false, if_true, impl_IsPile.j0, Bool.true_and, Bool.false_and]
    · simp only [h1, h2, and_self, decide_true, decide_false, if_true, impl_IsPile.j0, Bool.true_and, Bool.false_and, Bool.false_eq_true, if_false]
  · simp only [h1, decide_false, impl_IsPile.j0, Bool.false_and, Bool.false_eq_true, if_false, if_true]
/-- What a valid pile is. -/
structure POk (a : Int) (ls ws : List Int) : Prop where
  wide : 1 ≤ a ∧ a ≤ 24
  len : 1 ≤ ls.length ∧ ls.length ≤ 8
  same : ws.length = ls.length
  all : allP ls ws = true
theorem pileB_ok {a : Int} {ls ws : List Int} (h : pileB a ls ws = true) : POk a ls ws := by
  simp only [pileB, Bool.and_eq_true, decide_eq_true_eq] at h
  exact ⟨h.1, by omega, h.2.2.1, h.2.2.2⟩
theorem pileB_of {a : Int} {ls ws : List Int} (h : POk a ls ws) : pileB a ls ws = true := by
  simp only [pileB, Bool.and_eq_true, decide_eq_true_eq]
  exact ⟨h.wide, by have := h.len; omega, h.same, h.all⟩
def brickB (a : Int) (ls ws : List Int) (i : Int) : Bool := pileB a ls ws && decide (0 ≤ i ∧ i ≤ (ls.length : Int) - 1)
theorem l4Brick_eq (a : Int) (ls ws : List Int) (i : Int) (k : Nat) (hk : 10 ≤ k) : spec_l4Brick.f k a ls ws i = some (brickB a ls ws i) := by
  unfold spec_l4Brick.f brickB
  rw [l4Pile_eq a ls ws k hk, Option.bind_some]
  by_cases h : pileB a ls ws = true
  · have ok := (pileB_ok h).len
    rw [if_pos h, wrap_id (x := (ls.length : Int) - 1) (by omega) (by omega), l1In_eq, h]
    rfl
  · rw [if_neg h]
    simp [h]
theorem isBrick_eq (a : Int) (ls ws : List Int) (i : Int) (k : Nat) (hk : 10 ≤ k) : impl_isBrick.f k a ls ws i = some (brickB a ls ws i) := by
  unfold impl_isBrick.f brickB
  rw [IsPile_eq a ls ws k hk, Option.bind_some]
  by_cases h : pileB a ls ws = true
  · have ok := (pileB_ok h).len
    rw [if_pos h, wrap_id (x := (ls.length : Int) - 1) (by omega) (by omega), within_eq, h]
    rfl
  · rw [if_neg h]
    simp [h]
theorem brick_ok {a : Int} {ls ws : List Int} {i : Int} (h : brickB a ls ws i = true) : POk a ls ws ∧ ∃ n : Nat, i = (n : Int) ∧ n < ls.length := by
  simp only [brickB, Bool.and_eq_true, decide_eq_true_eq] at h
  exact ⟨pileB_ok h.1, i.toNat, by omega, by omega⟩
theorem allP_drop : ∀ (i : Nat) (s t : List Int), s.length = t.length → allP s t = true → allP (s.drop i) (t.drop i) = true := by
  intro i
  induction i with
  | zero => intro s t _ h; simpa using h
  | succ i ih =>
    intro s t hst h
    cases s with
    | nil => simp [allP]
    | cons x s =>
      cases t with
      | nil => simp at hst
      | cons y t =>
        simp only [allP, Bool.and_eq_true] at h
        simpa using ih s t (by simpa using hst) h.2
theorem allP_rd : ∀ (i : Nat) (s t : List Int), s.length = t.length → allP s t = true → i < s.length → -99 ≤ rd s i ∧ rd s i ≤ 99 := by
  intro i
  induction i with
  | zero =>
    intro s t hst h hi
    cases s with
    | nil => simp at hi
    | cons x s =>
      cases t with
      | nil => simp at hst
      | cons y t =>
        simp only [allP, okP, Bool.and_eq_true, decide_eq_true_eq] at h
        simpa [rd] using h.1.1
  | succ i ih =>
    intro s t hst h hi
    cases s with
    | nil => simp at hi
    | cons x s =>
      cases t with
      | nil => simp at hst
      | cons y t =>
        simp only [allP, Bool.and_eq_true] at h
        have := ih s t (by simpa using hst) h.2 (by simpa using hi)
        simpa [rd] using this
theorem w_per (x y : Int) : wrap64 (x + 18446744073709551616 * y) = wrap64 x := by
  unfold wrap64
  omega
theorem w_rep (a : Int) : ∃ q, wrap64 a = a + 18446744073709551616 * q := ⟨-((a + 9223372036854775808) / 18446744073709551616), by unfold wrap64; omega⟩
theorem w_w (a : Int) : wrap64 (wrap64 a) = wrap64 a := by
  obtain ⟨q, h⟩ := w_rep a
  rw [show wrap64 (wrap64 a) = wrap64 (a + 18446744073709551616 * q) from by rw [← h], w_per]
theorem w_add_l (a b : Int) : wrap64 (wrap64 a + b) = wrap64 (a + b) := by
  obtain ⟨q, h⟩ := w_rep a
  rw [h, show a + 18446744073709551616 * q + b = (a + b) + 18446744073709551616 * q from by omega, w_per]
theorem w_add_r (a b : Int) : wrap64 (a + wrap64 b) = wrap64 (a + b) := by rw [Int.add_comm, w_add_l, Int.add_comm]
theorem w_neg (a : Int) : wrap64 (-wrap64 a) = wrap64 (-a) := by
  obtain ⟨q, h⟩ := w_rep a
  rw [h, show -(a + 18446744073709551616 * q) = -a + 18446744073709551616 * (-q) from by omega, w_per]
theorem w_sub_l (a b : Int) : wrap64 (wrap64 a - b) = wrap64 (a - b) := by rw [Int.sub_eq_add_neg, w_add_l, ← Int.sub_eq_add_neg]
theorem w_sub_r (a b : Int) : wrap64 (a - wrap64 b) = wrap64 (a - b) := by
  obtain ⟨q, h⟩ := w_rep b
  rw [h, show a - (b + 18446744073709551616 * q) = (a - b) + 18446744073709551616 * (-q) from by omega, w_per]
theorem w_mul_l (a b : Int) : wrap64 (wrap64 a * b) = wrap64 (a * b) := by
  obtain ⟨q, h⟩ := w_rep a
  rw [h, Int.add_mul, Int.mul_assoc, w_per]
theorem w_mul_r (a b : Int) : wrap64 (a * wrap64 b) = wrap64 (a * b) := by rw [Int.mul_comm, w_mul_l, Int.mul_comm]
theorem w_zero : wrap64 0 = 0 := by simp [wrap64]
def US (a : Int) : List Int → List Int → Int
  | l :: ls, w :: ws => w * (2 * l + a) + US a ls ws
  | _, _ => 0
def UW : List Int → Int
  | [] => 0
  | w :: ws => w + UW ws
theorem l4Upper_l0 (a : Int) : ∀ (s t p q : List Int) (A B : Int) (k : Nat), p.length = q.length → s.length = t.length → (p ++ s).length < 4611686018427387904 → s.length < k →
    spec_l4Upper.l0 k (wrap64 A) (wrap64 B) (p.length : Int) a (p ++ s) (q ++ t) = some (wrap64 (A + US a s t), wrap64 (B + UW t)) := by
  intro s
  induction s with
  | nil =>
    intro t p q A B k hpq hst hl hk
    obtain ⟨k, rfl⟩ : ∃ m, k = m + 1 := ⟨k - 1, by simp at hk; omega⟩
    have : t = [] := List.eq_nil_of_length_eq_zero (by simpa using hst.symm)
    subst this
    simp only [spec_l4Upper.l0]
    rw [if_neg (by simp)]
    simp [US, UW]
  | cons x s ih =>
    intro t p q A B k hpq hst hl hk
    obtain ⟨k, rfl⟩ : ∃ m, k = m + 1 := ⟨k - 1, by simp at hk; omega⟩
    cases t with
    | nil => simp at hst
    | cons y t =>
      have e : rd (q ++ y :: t) (p.length : Int) = y := by rw [hpq]; exact rdI q t y
      simp only [spec_l4Upper.l0]
      rw [if_pos (by simp; omega), if_pos (by omega), if_pos (by rw [hpq]; simp; omega), rdI, e, snocI p x (by simp at hl; omega), List.append_cons p x s, List.append_cons q y t, w_add_l (2 * x), w_mul_r, w_add_l, w_add_r, w_add_l]
      rw [ih t (p ++ [x]) (q ++ [y]) _ _ k (by simp [hpq]) (by simpa using hst) (by simpa using hl) (by simp at hk; omega)]
      simp only [US, UW, Int.add_assoc]
theorem Pile_centre_l0 (a : Int) : ∀ (s t p q : List Int) (A B : Int) (k : Nat), p.length = q.length → s.length = t.length → (p ++ s).length < 4611686018427387904 → s.length < k →
    impl_Pile_centre.l0 k (wrap64 A) (wrap64 B) (p.length : Int) a (p ++ s) (q ++ t) = some (wrap64 (A + US a s t), wrap64 (B + 2 * UW t)) := by
  intro s
  induction s with
  | nil =>
    intro t p q A B k hpq hst hl hk
    obtain ⟨k, rfl⟩ : ∃ m, k = m + 1 := ⟨k - 1, by simp at hk; omega⟩
    have : t = [] := List.eq_nil_of_length_eq_zero (by simpa using hst.symm)
    subst this
    simp only [impl_Pile_centre.l0]
    rw [if_neg (by simp)]
    simp [US, UW]
  | cons x s ih =>
    intro t p q A B k hpq hst hl hk
    obtain ⟨k, rfl⟩ : ∃ m, k = m + 1 := ⟨k - 1, by simp at hk; omega⟩
    cases t with
    | nil => simp at hst
    | cons y t =>
      have e : rd (q ++ y :: t) (p.length : Int) = y := by rw [hpq]; exact rdI q t y
      simp only [impl_Pile_centre.l0]
      rw [if_pos (by simp; omega), if_pos (by omega), if_pos (by rw [hpq]; simp; omega), rdI, e, snocI p x (by simp at hl; omega), List.append_cons p x s, List.append_cons q y t, w_add_l (2 * x), w_mul_r, w_add_l, w_add_r, w_add_l, w_add_r]
      rw [ih t (p ++ [x]) (q ++ [y]) _ _ k (by simp [hpq]) (by simpa using hst) (by simpa using hl) (by simp at hk; omega)]
      simp only [US, UW, Int.add_assoc, Int.mul_add]
theorem US_bound (a : Int) (ha : 1 ≤ a ∧ a ≤ 24) : ∀ (s t : List Int), s.length = t.length → allP s t = true →
    -21978 * (s.length : Int) ≤ US a s t ∧ US a s t ≤ 21978 * (s.length : Int) ∧ (s.length : Int) ≤ UW t ∧ UW t ≤ 99 * (s.length : Int) := by
  intro s
  induction s with
  | nil =>
    intro t ht _
    have : t = [] := List.eq_nil_of_length_eq_zero (by simpa using ht.symm)
    subst this
    simp [US, UW]
  | cons x s ih =>
    intro t ht h
    cases t with
    | nil => simp at ht
    | cons y t =>
      simp only [allP, okP, Bool.and_eq_true, decide_eq_true_eq] at h
      have := ih t (by simpa using ht) h.2
      have m1 : y * (2 * x + a) ≤ y * 222 := Int.mul_le_mul_of_nonneg_left (by omega) (by omega)
      have m2 : y * (-222) ≤ y * (2 * x + a) := Int.mul_le_mul_of_nonneg_left (by omega) (by omega)
      simp only [US, UW, List.length_cons, Int.natCast_add, Int.natCast_one]
      omega
/-- The sums of an upper part, and the contact. -/
def uS (a : Int) (ls ws : List Int) (i : Nat) : Int := US a (ls.drop i) (ws.drop i)
def uW (ws : List Int) (i : Nat) : Int := UW (ws.drop i)
theorem u_bound {a : Int} {ls ws : List Int} (h : POk a ls ws) (i : Nat) (hi : i < ls.length) : -175824 ≤ uS a ls ws i ∧ uS a ls ws i ≤ 175824 ∧ 1 ≤ uW ws i ∧ uW ws i ≤ 792 := by
  have h1 := h.len
  have h2 := h.same
  have b := US_bound a h.wide (ls.drop i) (ws.drop i) (by simp; omega) (allP_drop i ls ws h.same.symm h.all)
  simp only [List.length_drop] at b
  unfold uS uW
  omega
theorem l4Upper_eq {a : Int} {ls ws : List Int} (h : POk a ls ws) (i : Nat) (hi : i < ls.length) (k : Nat) (hk : 10 ≤ k) : spec_l4Upper.f k a ls ws (i : Int) = some (uS a ls ws i, uW ws i) := by
  have h1 := h.len
  have h2 := h.same
  have b := u_bound h i hi
  have e := l4Upper_l0 a (ls.drop i) (ws.drop i) (ls.take i) (ws.take i) 0 0 k (by simp; omega) (by simp; omega) (by simp; omega) (by simp; omega)
  rw [List.take_append_drop, List.take_append_drop, w_zero, show (ls.take i).length = i from by simp; omega, Int.zero_add, Int.zero_add] at e
  unfold spec_l4Upper.f
  rw [e]
  unfold uS uW at b ⊢
  rw [wrap_id (by omega) (by omega), wrap_id (by omega) (by omega)]
theorem Pile_centre_eq {a : Int} {ls ws : List Int} (h : POk a ls ws) (i : Nat) (hi : i < ls.length) (k : Nat) (hk : 10 ≤ k) : impl_Pile_centre.f k a ls ws (i : Int) = some (uS a ls ws i, 2 * uW ws i) := by
  have h1 := h.len
  have h2 := h.same
  have b := u_bound h i hi
  have e := Pile_centre_l0 a (ls.drop i) (ws.drop i) (ls.take i) (ws.take i) 0 0 k (by simp; omega) (by simp; omega) (by simp; omega) (by simp; omega)
  rw [List.take_append_drop, List.take_append_drop, w_zero, show (ls.take i).length = i from by simp; omega, Int.zero_add, Int.zero_add] at e
  unfold impl_Pile_centre.f
  rw [e]
  unfold uS uW at b ⊢
  rw [wrap_id (by omega) (by omega), wrap_id (by omega) (by omega)]
theorem gcd_same (k : Nat) : ∀ a b, impl_divisor.l0 k a b = spec_l2Gcd.l0 k a b := by
  induction k with
  | zero => intro a b; rfl
  | succ k ih =>
    intro a b
    simp only [impl_divisor.l0, spec_l2Gcd.l0, ih]
theorem gcd_eq : ∀ (k a b : Nat), b < k → spec_l2Gcd.l0 k (a : Int) (b : Int) = some ((Nat.gcd a b : Nat) : Int) := by
  intro k
  induction k with
  | zero => intro a b h; omega
  | succ k ih =>
    intro a b h
    simp only [spec_l2Gcd.l0]
    by_cases hb : b = 0
    · subst hb
      rw [if_neg (by simp)]
      simp
    · rw [if_pos (by omega), if_neg (by omega)]
      rw [show Int.tmod (a : Int) (b : Int) = ((a % b : Nat) : Int) from by simp [Int.tmod]]
      rw [ih b (a % b) (by have := Nat.mod_lt a (Nat.pos_of_ne_zero hb); omega), Nat.gcd_comm b, ← Nat.gcd_rec, Nat.gcd_comm]
def gd (a b : Int) : Int := ((Nat.gcd a.natAbs b.natAbs : Nat) : Int)
theorem gd_pos {a b : Int} (h : 0 < b) : 0 < gd a b := by
  have := Nat.gcd_pos_of_pos_right a.natAbs (show 0 < b.natAbs by omega)
  unfold gd
  omega
theorem gd_dvd (a b : Int) : gd a b ∣ a ∧ gd a b ∣ b := by
  unfold gd
  exact ⟨Int.ofNat_dvd_left.2 (Nat.gcd_dvd_left _ _), Int.ofNat_dvd_left.2 (Nat.gcd_dvd_right _ _)⟩
/-- The fraction a / b in lowest terms. -/
def cut (a b : Int) : Int × Int := (a / gd a b, b / gd a b)
theorem cut_abs {a b : Int} (h : 0 < b) : (cut a b).1.natAbs ≤ a.natAbs ∧ 0 < (cut a b).2 ∧ (cut a b).2 ≤ b := by
  have hp := gd_pos (a := a) h
  obtain ⟨⟨x, hx⟩, ⟨y, hy⟩⟩ := gd_dvd a b
  unfold cut
  generalize gd a b = g at *
  subst hx hy
  simp only
  rw [Int.mul_ediv_cancel_left _ (by omega), Int.mul_ediv_cancel_left _ (by omega)]
  have hy : 0 < y := by
    rcases Int.lt_or_le 0 y with hy | hy
    · exact hy
    · have := Int.mul_nonpos_of_nonneg_of_nonpos (Int.le_of_lt hp) hy
      omega
  refine ⟨?_, hy, ?_⟩
  · rw [Int.natAbs_mul]
    have : 1 ≤ g.natAbs := by omega
    exact Nat.le_mul_of_pos_left _ this
  · have := Int.mul_le_mul_of_nonneg_right (show 1 ≤ g by omega) (Int.le_of_lt hy)
    omega
theorem cut_nonneg {a b : Int} (h : 0 < b) (ha : 0 ≤ a) : 0 ≤ (cut a b).1 := Int.ediv_nonneg ha (Int.le_of_lt (gd_pos h))
theorem cut_pos {a b : Int} (h : 0 < b) (ha : 0 < a) : 0 < (cut a b).1 := by
  have hp := gd_pos (a := a) h
  obtain ⟨x, hx⟩ := (gd_dvd a b).1
  show 0 < a / gd a b
  generalize gd a b = g at *
  subst hx
  rw [Int.mul_ediv_cancel_left _ (by omega)]
  rcases Int.lt_or_le 0 x with hy | hy
  · exact hy
  · have := Int.mul_nonpos_of_nonneg_of_nonpos (Int.le_of_lt hp) hy
    omega
theorem l2Cut_eq (k : Nat) (a b : Int) (hb : 0 < b) (hB : b ≤ 4611686018427387904) (ha : -4611686018427387904 ≤ a ∧ a ≤ 4611686018427387904) (hk : b.toNat < k) : spec_l2Cut.f k a b = some (cut a b) := by
  unfold spec_l2Cut.f spec_l1Most.f spec_l2Gcd.f
  rw [wrap_id (x := -a) (by omega) (by omega)]
  have e : (if a > -a then some a else some (-a)) = some ((a.natAbs : Nat) : Int) := by
    split <;> (congr 1; omega)
  rw [e, Option.bind_some]
  have hb2 : b = ((b.natAbs : Nat) : Int) := by omega
  have hc := cut_abs (a := a) hb
  have hp := gd_pos (a := a) hb
  have hd := gd_dvd a b
  rw [show spec_l2Gcd.l0 k (a.natAbs : Int) b = some (gd a b) from by
    unfold gd
    rw [← gcd_eq k a.natAbs b.natAbs (by omega), ← hb2]]
  rw [Option.bind_some, if_neg (by omega)]
  unfold cut at hc ⊢
  simp only at hc
  rw [Int.tdiv_eq_ediv_of_dvd hd.1, Int.tdiv_eq_ediv_of_dvd hd.2, wrap_id (by omega) (by omega), wrap_id (by omega) (by omega)]
theorem fraction_same (k : Nat) (a b : Int) : impl_fraction.f k a b = spec_l2Cut.f k a b := by
  unfold impl_fraction.f spec_l2Cut.f impl_divisor.f spec_l2Gcd.f
  have e : spec_l1Most.f a (wrap64 (-a)) = some (mx a (wrap64 (-a))) := by
    unfold spec_l1Most.f mx
    (repeat' split) <;> (first | rfl | omega | (congr 1; omega))
  rw [e, Option.bind_some, gcd_same]
theorem toIntS_l0 : ∀ (s p q : List Int) (k : Nat), p.length = q.length → (p ++ s).length < 4611686018427387904 → s.length < k →
    laws_toIntS.l0 k (p ++ s) (q ++ List.replicate s.length 0) (p.length : Int) = some (q ++ s) := by
  intro s
  induction s with
  | nil =>
    intro p q k hpq hl hk
    obtain ⟨k, rfl⟩ : ∃ m, k = m + 1 := ⟨k - 1, by simp at hk; omega⟩
    simp only [laws_toIntS.l0]
    rw [if_neg (by simp)]
    simp
  | cons x s ih =>
    intro p q k hpq hl hk
    obtain ⟨k, rfl⟩ : ∃ m, k = m + 1 := ⟨k - 1, by simp at hk; omega⟩
    simp only [laws_toIntS.l0]
    rw [if_pos (by simp; omega), if_pos (by omega), if_pos (by simp; omega), rdI, snocI p x (by simp at hl; omega)]
    rw [show (((p.length : Nat) : Int)).toNat = q.length from by omega, List.length_cons, set_rep, List.append_cons p x s, ih (p ++ [x]) _ k (by simp [hpq]) (by simpa using hl) (by simp at hk; omega)]
    simp
theorem toIntS_eq (l : List Int) (k : Nat) (hl : l.length ≤ 1048576) (hk : l.length < k) : laws_toIntS.f k l = some l := by
  unfold laws_toIntS.f
  rw [if_pos (by omega), if_pos (by omega)]
  exact toIntS_l0 l [] [] k rfl (by simp; omega) hk
theorem toPile_eq (a : Int) (l1 l2 : List Int) (k : Nat) (h1 : l1.length ≤ 1048576) (h2 : l2.length ≤ 1048576) (hk : l1.length < k) (hk2 : l2.length < k) : laws_toPile.f k a l1 l2 = some (a, l1, l2) := by
  unfold laws_toPile.f
  rw [toIntS_eq l1 k h1 hk, toIntS_eq l2 k h2 hk2]
  rfl
theorem szPile_eq (a : Int) (l1 l2 : List Int) (h1 : l1.length ≤ 9223372036854775807) (h2 : l2.length ≤ 9223372036854775807) :
    laws_szPile.f a l1 l2 1048576 = some (if l1.length + l2.length ≤ 1048576 then 1048576 - (l1.length : Int) - (l2.length : Int) else -1) := by
  unfold laws_szPile.f laws_szIntS.f
  rw [sz_id _ h1]
  by_cases c1 : 1048576 < l1.length
  · rw [if_pos (by omega), Option.bind_some, if_pos (by decide), if_neg (by omega)]
  · rw [if_neg (by omega), Option.bind_some, if_neg (by omega), wrap_id (x := 1048576 - (l1.length : Int) - (l2.length : Int)) (by omega) (by omega)]
    by_cases c2 : l1.length + l2.length ≤ 1048576
    · rw [if_neg (by omega), Option.bind_some, if_neg (by omega), if_pos c2]
    · rw [if_pos (by omega), Option.bind_some, if_pos (by decide), if_neg c2]
theorem eqPile_refl (a : Int) (l1 l2 : List Int) (k : Nat) (h1 : l1.length < 4611686018427387904) (h2 : l2.length < 4611686018427387904) (hk1 : l1.length < k) (hk2 : l2.length < k) : laws_eqPile.f k a l1 l2 a l1 l2 = some true := by
  unfold laws_eqPile.f
  rw [if_pos rfl, eqIntS_refl l1 k h1 hk1, Option.bind_some, if_pos rfl, eqIntS_refl l2 k h2 hk2]
  rfl
theorem bne_refl (b : Bool) : (b != b) = false := by cases b <;> rfl
theorem eqIntA2_refl (k : Nat) (a b : Int) (hk : 3 ≤ k) : laws_eqIntA2.f k a b a b = some true := by
  obtain ⟨k, rfl⟩ : ∃ m, k = m + 3 := ⟨k - 3, by omega⟩
  unfold laws_eqIntA2.f
  have w1 : wrap64 (0 + 1) = 1 := wrap_id (by omega) (by omega)
  have w2 : wrap64 (1 + 1) = 2 := wrap_id (by omega) (by omega)
  simp only [laws_eqIntA2.l0, w1, w2]
  simp
theorem both (a : Int) (ls ws : List Int) (i : Int) (hb : ls.length + ws.length ≤ 1048576) : ∃ r : Int × Int × Bool, ∀ k, 1700 + ls.length + ws.length ≤ k → spec_UpperCentre.f k a ls ws i = some r ∧ impl_UpperCentre.f k a ls ws i = some r := by
  by_cases h : brickB a ls ws i = true
  · obtain ⟨ok, n, rfl, hn⟩ := brick_ok h
    have b := u_bound ok n hn
    refine ⟨((cut (uS a ls ws n) (2 * uW ws n)).1, (cut (uS a ls ws n) (2 * uW ws n)).2, true), fun k hk => ?_⟩
    have c := l2Cut_eq k (uS a ls ws n) (2 * uW ws n) (by omega) (by omega) (by omega) (by omega)
    have w := wrap_id (x := 2 * uW ws n) (by omega) (by omega)
    simp (disch := omega) only [spec_UpperCentre.f, impl_UpperCentre.f, l4Brick_eq, isBrick_eq, h, l4Upper_eq ok n hn, Pile_centre_eq ok n hn, fraction_same, w, c, Option.bind_some, if_true, and_self]
  · refine ⟨(0, 0, false), fun k hk => ?_⟩
    simp (disch := omega) only [spec_UpperCentre.f, impl_UpperCentre.f, l4Brick_eq, isBrick_eq, h, Option.bind_some, if_false, and_self, Bool.false_eq_true]
theorem FnExactUpperCentre : ∀ (a0_0 : Int) (l0_1 : List Int) (l0_2 : List Int) (a1 : Int), ((Lit.int .i64 a0_0).wf = true) → (l0_1.length ≤ 9223372036854775807) → (∀ x_ ∈ l0_1, (Lit.int .i64 x_).wf = true) → (l0_2.length ≤ 9223372036854775807) → (∀ x_ ∈ l0_2, (Lit.int .i64 x_).wf = true) → ((Lit.int .i64 a1).wf = true) → ∃ k, laws_FnExactUpperCentre.f k a0_0 l0_1 l0_2 a1 = some true := by
  intro a ls ws i _ h1 _ h2 _ _
  refine ⟨2000 + ls.length + ws.length + 6, ?_⟩
  have hsz := szPile_eq a ls ws h1 h2
  by_cases hb : ls.length + ws.length ≤ 1048576
  · rw [if_pos hb] at hsz
    have n0 : ¬ ((1048576 : Int) - (ls.length : Int) - (ws.length : Int) < 0) := by omega
    obtain ⟨r, hr⟩ := both a ls ws i hb
    have hs := fun k hk => (hr k hk).1
    have hi := fun k hk => (hr k hk).2
    simp (maxSteps := 4000000) (disch := omega) only [laws_FnExactUpperCentre.f, hsz, n0, toPile_eq, hs, hi, eqIntA2_refl, Option.bind_some, bne_refl, if_true, if_false, Bool.false_eq_true]
    simp (maxSteps := 4000000) (disch := omega) only [laws_FnExactUpperCentre.j0, toPile_eq, eqPile_refl, Option.bind_some, if_true, if_false, Bool.false_eq_true]
  · rw [if_neg hb] at hsz
    unfold laws_FnExactUpperCentre.f
    rw [hsz, Option.bind_some, if_pos (by decide)]

end Go.Proofs.Ytigijeedekjeiaa.Pure

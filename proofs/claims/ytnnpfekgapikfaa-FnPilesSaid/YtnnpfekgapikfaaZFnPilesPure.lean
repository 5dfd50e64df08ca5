import Derived.Test.YtnnpfekgapikfaaZFnPilesx10
set_option linter.unusedVariables false
set_option linter.unusedSimpArgs false
namespace Go.Proofs.Ytnnpfekgapikfaa.Pure
open Go.RowKit Go.Proofs.YtnnpfekgapikfaaW.PrintWords Go.Proofs.YtnnpfekgapikfaaW.PrintLast Go.Proofs.Ytnnpfekgapikfaa.PFnPiles
theorem wrap_id {x : Int} (h0 : -9223372036854775808 ≤ x) (h1 : x ≤ 9223372036854775807) : wrap64 x = x := by
  unfold wrap64
  omega
theorem wf64 {x : Int} (h : (Lit.int .i64 x).wf = true) : -9223372036854775808 ≤ x ∧ x ≤ 9223372036854775807 := by
  simp [Lit.wf, IntKind.min, IntKind.max, IntKind.signed, IntKind.bits] at h
  omega
theorem l1In_eq (a b c : Int) : spec_l1In.f a b c = some (decide (b ≤ a ∧ a ≤ c)) := by
  unfold spec_l1In.f
  split <;> simp_all
  omega
theorem within_eq (a b c : Int) : impl_within.f a b c = some (decide (b ≤ a ∧ a ≤ c)) := by
  unfold impl_within.f
  split <;> simp_all
  omega
theorem snocI {α : Type} (p : List α) (x : α) (h : p.length < 9223372036854775807) : wrap64 ((p.length : Int) + 1) = ((p ++ [x]).length : Int) := by
  rw [wrap_id (by omega) (by omega)]
  simp
theorem sz_id (n : Nat) (h : n ≤ 9223372036854775807) : wrap64 (1048576 - (n : Int)) = 1048576 - (n : Int) := wrap_id (by omega) (by omega)
theorem set_rep {α : Type} (q : List α) (z y : α) (n : Nat) : (q ++ List.replicate (n + 1) z).set q.length y = (q ++ [y]) ++ List.replicate n z := by
  rw [List.set_append_right _ _ (Nat.le_refl _), Nat.sub_self]
  simp [List.replicate_succ]
theorem rdI (p s : List Int) (x : Int) : rd (p ++ x :: s) ((p.length : Int)) = x := by
  simp [rd]
def okP (l w : Int) : Bool := decide (-99 ≤ l ∧ l ≤ 99) && decide (1 ≤ w ∧ w ≤ 99)
def allP : List Int → List Int → Bool
  | l :: ls, w :: ws => okP l w && allP ls ws
  | _, _ => true
def pileB (a : Int) (ls ws : List Int) : Bool := decide (1 ≤ a ∧ a ≤ 24) && (decide (1 ≤ (ls.length : Int) ∧ (ls.length : Int) ≤ 8) && (decide (ws.length = ls.length) && allP ls ws))
theorem isLeft_eq (a : Int) : impl_isLeft.f a = some (decide (-99 ≤ a ∧ a ≤ 99)) := by simp only [impl_isLeft.f, within_eq, Option.bind_some]
theorem isWeight_eq (a : Int) : impl_isWeight.f a = some (decide (1 ≤ a ∧ a ≤ 99)) := by simp only [impl_isWeight.f, within_eq, Option.bind_some]
theorem isWide_eq (a : Int) : impl_isWide.f a = some (decide (1 ≤ a ∧ a ≤ 24)) := by simp only [impl_isWide.f, within_eq, Option.bind_some]
theorem l4Pile_l0 (a : Int) : ∀ (s t p q : List Int) (k : Nat), p.length = q.length → s.length = t.length → (p ++ s).length < 4611686018427387904 → s.length < k →
    spec_l4Pile.l0 k ((p ++ s).length : Int) (p.length : Int) a (p ++ s) (q ++ t) = some (allP s t) := by
  intro s
  induction s with
  | nil =>
    intro t p q k hpq hst hl hk
    obtain ⟨k, rfl⟩ : ∃ m, k = m + 1 := ⟨k - 1, by simp at hk; omega⟩
    simp only [spec_l4Pile.l0]
    rw [if_neg (by simp)]
    simp [allP]
  | cons x s ih =>
    intro t p q k hpq hst hl hk
    obtain ⟨k, rfl⟩ : ∃ m, k = m + 1 := ⟨k - 1, by simp at hk; omega⟩
    cases t with
    | nil => simp at hst
    | cons y t =>
      have e : rd (q ++ y :: t) (p.length : Int) = y := by rw [hpq]; exact rdI q t y
      simp only [spec_l4Pile.l0]
      rw [if_pos (by simp; omega), if_pos (by omega), if_pos (by simp; omega), if_pos (by rw [hpq]; simp; omega), rdI, e, l1In_eq, Option.bind_some, l1In_eq, Option.bind_some, snocI p x (by simp at hl; omega), List.append_cons p x s, List.append_cons q y t]
      rw [ih t (p ++ [x]) (q ++ [y]) k (by simp [hpq]) (by simpa using hst) (by simpa using hl) (by simp at hk; omega)]
      simp only [allP, okP]
      by_cases h1 : -99 ≤ x ∧ x ≤ 99 <;> by_cases h2 : 1 ≤ y ∧ y ≤ 99 <;> simp [h1, h2]
theorem IsPile_l0 (a : Int) : ∀ (s t p q : List Int) (k : Nat), p.length = q.length → s.length = t.length → (p ++ s).length < 4611686018427387904 → s.length < k →
    impl_IsPile.l0 k (p ++ s) ((p ++ s).length : Int) (p.length : Int) a (p ++ s) (q ++ t) = some (allP s t) := by
  intro s
  induction s with
  | nil =>
    intro t p q k hpq hst hl hk
    obtain ⟨k, rfl⟩ : ∃ m, k = m + 1 := ⟨k - 1, by simp at hk; omega⟩
    simp only [impl_IsPile.l0]
    rw [if_neg (by simp)]
    simp [allP]
  | cons x s ih =>
    intro t p q k hpq hst hl hk
    obtain ⟨k, rfl⟩ : ∃ m, k = m + 1 := ⟨k - 1, by simp at hk; omega⟩
    cases t with
    | nil => simp at hst
    | cons y t =>
      have e : rd (q ++ y :: t) (p.length : Int) = y := by rw [hpq]; exact rdI q t y
      simp only [impl_IsPile.l0]
      rw [if_pos (by simp; omega), if_pos (by omega), if_pos (by simp; omega), if_pos (by rw [hpq]; simp; omega), rdI, e, isLeft_eq, Option.bind_some, isWeight_eq, Option.bind_some, snocI p x (by simp at hl; omega), List.append_cons p x s, List.append_cons q y t]
      rw [ih t (p ++ [x]) (q ++ [y]) k (by simp [hpq]) (by simpa using hst) (by simpa using hl) (by simp at hk; omega)]
      simp only [allP, okP]
      by_cases h1 : -99 ≤ x ∧ x ≤ 99 <;> by_cases h2 : 1 ≤ y ∧ y ≤ 99 <;> simp [h1, h2]
theorem l4Pile_eq (a : Int) (ls ws : List Int) (k : Nat) (hk : 10 ≤ k) : spec_l4Pile.f k a ls ws = some (pileB a ls ws) := by
  obtain ⟨k, rfl⟩ : ∃ m, k = m + 1 := ⟨k - 1, by omega⟩
  unfold spec_l4Pile.f pileB
  rw [l1In_eq, l1In_eq, Option.bind_some, Option.bind_some]
  by_cases h1 : 1 ≤ a ∧ a ≤ 24
  · by_cases h2 : 1 ≤ (ls.length : Int) ∧ (ls.length : Int) ≤ 8
    · by_cases h3 : ws.length = ls.length
      · have h := l4Pile_l0 a ls ws [] [] k rfl h3.symm (by simp; omega) (by omega)
        simp only [List.nil_append, List.length_nil] at h
        simp only [h1, h2, h3, and_self, decide_true, if_true, spec_l4Pile.j0, bne_self_eq_false, Bool.false_eq_true, if_false, Bool.true_and]
        exact h
      · have h4 : ((ws.length : Int) != (ls.length : Int)) = true := by simp; omega
        simp only [h1, h2, h3, h4, and_self, decide_true, decide_false, if_true, spec_l4Pile.j0, Bool.true_and, Bool.false_and]
    · simp only [h1, h2, and_self, decide_true, decide_false, if_true, spec_l4Pile.j0, Bool.true_and, Bool.false_and, Bool.false_eq_true, if_false]
  · simp only [h1, decide_false, spec_l4Pile.j0, Bool.false_and, Bool.false_eq_true, if_false, if_true]
theorem IsPile_eq (a : Int) (ls ws : List Int) (k : Nat) (hk : 10 ≤ k) : impl_IsPile.f k a ls ws = some (pileB a ls ws) := by
  obtain ⟨k, rfl⟩ : ∃ m, k = m + 1 := ⟨k - 1, by omega⟩
  unfold impl_IsPile.f pileB
  rw [isWide_eq, within_eq, Option.bind_some, Option.bind_some]
  by_cases h1 : 1 ≤ a ∧ a ≤ 24
  · by_cases h2 : 1 ≤ (ls.length : Int) ∧ (ls.length : Int) ≤ 8
    · by_cases h3 : ws.length = ls.length
      · have h := IsPile_l0 a ls ws [] [] k rfl h3.symm (by simp; omega) (by omega)
        simp only [List.nil_append, List.length_nil] at h
        simp only [h1, h2, h3, and_self, decide_true, if_true, impl_IsPile.j0, bne_self_eq_false, Bool.false_eq_true, if_false, Bool.true_and]
        exact h
      · have h4 : ((ws.length : Int) != (ls.length : Int)) = true := by simp; omega
        simp only [h1, h2, h3, h4, and_self, decide_true, decide_false, if_true, impl_IsPile.j0, Bool.true_and, Bool.false_and]
    · simp only [h1, h2, and_self, decide_true, decide_false, if_true, impl_IsPile.j0, Bool.true_and, Bool.false_and, Bool.false_eq_true, if_false]
  · simp only [h1, decide_false, impl_IsPile.j0, Bool.false_and, Bool.false_eq_true, if_false, if_true]
structure POk (a : Int) (ls ws : List Int) : Prop where
  wide : 1 ≤ a ∧ a ≤ 24
  len : 1 ≤ ls.length ∧ ls.length ≤ 8
  same : ws.length = ls.length
  all : allP ls ws = true
theorem pileB_ok {a : Int} {ls ws : List Int} (h : pileB a ls ws = true) : POk a ls ws := by
  simp only [pileB, Bool.and_eq_true, decide_eq_true_eq] at h
  exact ⟨h.1, by omega, h.2.2.1, h.2.2.2⟩
theorem pileB_of {a : Int} {ls ws : List Int} (h : POk a ls ws) : pileB a ls ws = true := by
  simp only [pileB, Bool.and_eq_true, decide_eq_true_eq]
  exact ⟨h.wide, by have := h.len; omega, h.same, h.all⟩
def brickB (a : Int) (ls ws : List Int) (i : Int) : Bool := pileB a ls ws && decide (0 ≤ i ∧ i ≤ (ls.length : Int) - 1)
theorem l4Brick_eq (a : Int) (ls ws : List Int) (i : Int) (k : Nat) (hk : 10 ≤ k) : spec_l4Brick.f k a ls ws i = some (brickB a ls ws i) := by
  unfold spec_l4Brick.f brickB
  rw [l4Pile_eq a ls ws k hk, Option.bind_some]
  by_cases h : pileB a ls ws = true
  · have ok := (pileB_ok h).len
    rw [if_pos h, wrap_id (x := (ls.length : Int) - 1) (by omega) (by omega), l1In_eq, h]
    rfl
  · rw [if_neg h]
    simp [h]
theorem isBrick_eq (a : Int) (ls ws : List Int) (i : Int) (k : Nat) (hk : 10 ≤ k) : impl_isBrick.f k a ls ws i = some (brickB a ls ws i) := by
  unfold impl_isBrick.f brickB
  rw [IsPile_eq a ls ws k hk, Option.bind_some]
  by_cases h : pileB a ls ws = true
  · have ok := (pileB_ok h).len
    rw [if_pos h, wrap_id (x := (ls.length : Int) - 1) (by omega) (by omega), within_eq, h]
    rfl
  · rw [if_neg h]
    simp [h]
theorem brick_ok {a : Int} {ls ws : List Int} {i : Int} (h : brickB a ls ws i = true) : POk a ls ws ∧ ∃ n : Nat, i = (n : Int) ∧ n < ls.length := by
  simp only [brickB, Bool.and_eq_true, decide_eq_true_eq] at h
  exact ⟨pileB_ok h.1, i.toNat, by omega, by omega⟩
theorem allP_drop : ∀ (i : Nat) (s t : List Int), s.length = t.length → allP s t = true → allP (s.drop i) (t.drop i) = true := by
  intro i
  induction i with
  | zero => intro s t _ h; simpa using h
  | succ i ih =>
    intro s t hst h
    cases s with
    | nil => simp [allP]
    | cons x s =>
      cases t with
      | nil => simp at hst
      | cons y t =>
        simp only [allP, Bool.and_eq_true] at h
        simpa using ih s t (by simpa using hst) h.2
theorem allP_rd : ∀ (i : Nat) (s t : List Int), s.length = t.length → allP s t = true → i < s.length → -99 ≤ rd s i ∧ rd s i ≤ 99 := by
  intro i
  induction i with
  | zero =>
    intro s t hst h hi
    cases s with
    | nil => simp at hi
    | cons x s =>
      cases t with
      | nil => simp at hst
      | cons y t =>
        simp only [allP, okP, Bool.and_eq_true, decide_eq_true_eq] at h
        simpa [rd] using h.1.1
  | succ i ih =>
    intro s t hst h hi
    cases s with
    | nil => simp at hi
    | cons x s =>
      cases t with
      | nil => simp at hst
      | cons y t =>
        simp only [allP, Bool.and_eq_true] at h
        have := ih s t (by simpa using hst) h.2 (by simpa using hi)
        simpa [rd] using this
theorem w_per (x y : Int) : wrap64 (x + 18446744073709551616 * y) = wrap64 x := by
  unfold wrap64
  omega
theorem w_rep (a : Int) : ∃ q, wrap64 a = a + 18446744073709551616 * q := ⟨-((a + 9223372036854775808) / 18446744073709551616), by unfold wrap64; omega⟩
theorem w_w (a : Int) : wrap64 (wrap64 a) = wrap64 a := by
  obtain ⟨q, h⟩ := w_rep a
  rw [show wrap64 (wrap64 a) = wrap64 (a + 18446744073709551616 * q) from by rw [← h], w_per]
theorem w_add_l (a b : Int) : wrap64 (wrap64 a + b) = wrap64 (a + b) := by
  obtain ⟨q, h⟩ := w_rep a
  rw [h, show a + 18446744073709551616 * q + b = (a + b) + 18446744073709551616 * q from by omega, w_per]
theorem w_add_r (a b : Int) : wrap64 (a + wrap64 b) = wrap64 (a + b) := by rw [Int.add_comm, w_add_l, Int.add_comm]
theorem w_neg (a : Int) : wrap64 (-wrap64 a) = wrap64 (-a) := by
  obtain ⟨q, h⟩ := w_rep a
  rw [h, show -(a + 18446744073709551616 * q) = -a + 18446744073709551616 * (-q) from by omega, w_per]
theorem w_sub_l (a b : Int) : wrap64 (wrap64 a - b) = wrap64 (a - b) := by rw [Int.sub_eq_add_neg, w_add_l, ← Int.sub_eq_add_neg]
theorem w_sub_r (a b : Int) : wrap64 (a - wrap64 b) = wrap64 (a - b) := by
  obtain ⟨q, h⟩ := w_rep b
  rw [h, show a - (b + 18446744073709551616 * q) = (a - b) + 18446744073709551616 * (-q) from by omega, w_per]
theorem w_mul_l (a b : Int) : wrap64 (wrap64 a * b) = wrap64 (a * b) := by
  obtain ⟨q, h⟩ := w_rep a
  rw [h, Int.add_mul, Int.mul_assoc, w_per]
theorem w_mul_r (a b : Int) : wrap64 (a * wrap64 b) = wrap64 (a * b) := by rw [Int.mul_comm, w_mul_l, Int.mul_comm]
theorem w_zero : wrap64 0 = 0 := by simp [wrap64]
def US (a : Int) : List Int → List Int → Int
  | l :: ls, w :: ws => w * (2 * l + a) + US a ls ws
  | _, _ => 0
def UW : List Int → Int
  | [] => 0
  | w :: ws => w + UW ws
theorem l4Upper_l0 (a : Int) : ∀ (s t p q : List Int) (A B : Int) (k : Nat), p.length = q.length → s.length = t.length → (p ++ s).length < 4611686018427387904 → s.length < k →
    spec_l4Upper.l0 k (wrap64 A) (wrap64 B) (p.length : Int) a (p ++ s) (q ++ t) = some (wrap64 (A + US a s t), wrap64 (B + UW t)) := by
  intro s
  induction s with
  | nil =>
    intro t p q A B k hpq hst hl hk
    obtain ⟨k, rfl⟩ : ∃ m, k = m + 1 := ⟨k - 1, by simp at hk; omega⟩
    have : t = [] := List.eq_nil_of_length_eq_zero (by simpa using hst.symm)
    subst this
    simp only [spec_l4Upper.l0]
    rw [if_neg (by simp)]
    simp [US, UW]
  | cons x s ih =>
    intro t p q A B k hpq hst hl hk
    obtain ⟨k, rfl⟩ : ∃ m, k = m + 1 := ⟨k - 1, by simp at hk; omega⟩
    cases t with
    | nil => simp at hst
    | cons y t =>
      have e : rd (q ++ y :: t) (p.length : Int) = y := by rw [hpq]; exact rdI q t y
      simp only [spec_l4Upper.l0]
      rw [if_pos (by simp; omega), if_pos (by omega), if_pos (by rw [hpq]; simp; omega), rdI, e, snocI p x (by simp at hl; omega), List.append_cons p x s, List.append_cons q y t, w_add_l (2 * x), w_mul_r, w_add_l, w_add_r, w_add_l]
      rw [ih t (p ++ [x]) (q ++ [y]) _ _ k (by simp [hpq]) (by simpa using hst) (by simpa using hl) (by simp at hk; omega)]
      simp only [US, UW, Int.add_assoc]
theorem Pile_centre_l0 (a : Int) : ∀ (s t p q : List Int) (A B : Int) (k : Nat), p.length = q.length → s.length = t.length → (p ++ s).length < 4611686018427387904 → s.length < k →
    impl_Pile_centre.l0 k (wrap64 A) (wrap64 B) (p.length : Int) a (p ++ s) (q ++ t) = some (wrap64 (A + US a s t), wrap64 (B + 2 * UW t)) := by
  intro s
  induction s with
  | nil =>
    intro t p q A B k hpq hst hl hk
    obtain ⟨k, rfl⟩ : ∃ m, k = m + 1 := ⟨k - 1, by simp at hk; omega⟩
    have : t = [] := List.eq_nil_of_length_eq_zero (by simpa using hst.symm)
    subst this
    simp only [impl_Pile_centre.l0]
    rw [if_neg (by simp)]
    simp [US, UW]
  | cons x s ih =>
    intro t p q A B k hpq hst hl hk
    obtain ⟨k, rfl⟩ : ∃ m, k = m + 1 := ⟨k - 1, by simp at hk; omega⟩
    cases t with
    | nil => simp at hst
    | cons y t =>
      have e : rd (q ++ y :: t) (p.length : Int) = y := by rw [hpq]; exact rdI q t y
      simp only [impl_Pile_centre.l0]
      rw [if_pos (by simp; omega), if_pos (by omega), if_pos (by rw [hpq]; simp; omega), rdI, e, snocI p x (by simp at hl; omega), List.append_cons p x s, List.append_cons q y t, w_add_l (2 * x), w_mul_r, w_add_l, w_add_r, w_add_l, w_add_r]
      rw [ih t (p ++ [x]) (q ++ [y]) _ _ k (by simp [hpq]) (by simpa using hst) (by simpa using hl) (by simp at hk; omega)]
      simp only [US, UW, Int.add_assoc, Int.mul_add]
theorem US_bound (a : Int) (ha : 1 ≤ a ∧ a ≤ 24) : ∀ (s t : List Int), s.length = t.length → allP s t = true →
    -21978 * (s.length : Int) ≤ US a s t ∧ US a s t ≤ 21978 * (s.length : Int) ∧ (s.length : Int) ≤ UW t ∧ UW t ≤ 99 * (s.length : Int) := by
  intro s
  induction s with
  | nil =>
    intro t ht _
    have : t = [] := List.eq_nil_of_length_eq_zero (by simpa using ht.symm)
    subst this
    simp [US, UW]
  | cons x s ih =>
    intro t ht h
    cases t with
    | nil => simp at ht
    | cons y t =>
      simp only [allP, okP, Bool.and_eq_true, decide_eq_true_eq] at h
      have := ih t (by simpa using ht) h.2
      have m1 : y * (2 * x + a) ≤ y * 222 := Int.mul_le_mul_of_nonneg_left (by omega) (by omega)
      have m2 : y * (-222) ≤ y * (2 * x + a) := Int.mul_le_mul_of_nonneg_left (by omega) (by omega)
      simp only [US, UW, List.length_cons, Int.natCast_add, Int.natCast_one]
      omega
def uS (a : Int) (ls ws : List Int) (i : Nat) : Int := US a (ls.drop i) (ws.drop i)
def uW (ws : List Int) (i : Nat) : Int := UW (ws.drop i)
theorem u_bound {a : Int} {ls ws : List Int} (h : POk a ls ws) (i : Nat) (hi : i < ls.length) : -175824 ≤ uS a ls ws i ∧ uS a ls ws i ≤ 175824 ∧ 1 ≤ uW ws i ∧ uW ws i ≤ 792 := by
  have h1 := h.len
  have h2 := h.same
  have b := US_bound a h.wide (ls.drop i) (ws.drop i) (by simp; omega) (allP_drop i ls ws h.same.symm h.all)
  simp only [List.length_drop] at b
  unfold uS uW
  omega
theorem l4Upper_eq {a : Int} {ls ws : List Int} (h : POk a ls ws) (i : Nat) (hi : i < ls.length) (k : Nat) (hk : 10 ≤ k) : spec_l4Upper.f k a ls ws (i : Int) = some (uS a ls ws i, uW ws i) := by
  have h1 := h.len
  have h2 := h.same
  have b := u_bound h i hi
  have e := l4Upper_l0 a (ls.drop i) (ws.drop i) (ls.take i) (ws.take i) 0 0 k (by simp; omega) (by simp; omega) (by simp; omega) (by simp; omega)
  rw [List.take_append_drop, List.take_append_drop, w_zero, show (ls.take i).length = i from by simp; omega, Int.zero_add, Int.zero_add] at e
  unfold spec_l4Upper.f
  rw [e]
  unfold uS uW at b ⊢
  rw [wrap_id (by omega) (by omega), wrap_id (by omega) (by omega)]
theorem Pile_centre_eq {a : Int} {ls ws : List Int} (h : POk a ls ws) (i : Nat) (hi : i < ls.length) (k : Nat) (hk : 10 ≤ k) : impl_Pile_centre.f k a ls ws (i : Int) = some (uS a ls ws i, 2 * uW ws i) := by
  have h1 := h.len
  have h2 := h.same
  have b := u_bound h i hi
  have e := Pile_centre_l0 a (ls.drop i) (ws.drop i) (ls.take i) (ws.take i) 0 0 k (by simp; omega) (by simp; omega) (by simp; omega) (by simp; omega)
  rw [List.take_append_drop, List.take_append_drop, w_zero, show (ls.take i).length = i from by simp; omega, Int.zero_add, Int.zero_add] at e
  unfold impl_Pile_centre.f
  rw [e]
  unfold uS uW at b ⊢
  rw [wrap_id (by omega) (by omega), wrap_id (by omega) (by omega)]
def cL (ls : List Int) (i : Nat) : Int := if i = 0 then rd ls 0 else mx (rd ls i) (rd ls ((i : Int) - 1))
def cH (a : Int) (ls : List Int) (i : Nat) : Int := if i = 0 then mn (rd ls 0 + a) 0 else mn (rd ls i) (rd ls ((i : Int) - 1)) + a
theorem c_bound {a : Int} {ls ws : List Int} (h : POk a ls ws) (i : Nat) (hi : i < ls.length) : -99 ≤ cL ls i ∧ cL ls i ≤ 99 ∧ -99 ≤ cH a ls i ∧ cH a ls i ≤ 123 := by
  have hw := h.wide
  have r1 := allP_rd i ls ws h.same.symm h.all hi
  unfold cL cH
  by_cases h0 : i = 0
  · subst h0
    simp only [if_true, Int.natCast_zero] at *
    unfold mn
    split <;> omega
  · have r2 := allP_rd (i - 1) ls ws h.same.symm h.all (by omega)
    rw [show (((i - 1 : Nat)) : Int) = (i : Int) - 1 from by omega] at r2
    rw [if_neg h0, if_neg h0]
    unfold mx mn
    (repeat' split) <;> omega
theorem l4Contact_eq {a : Int} {ls ws : List Int} (h : POk a ls ws) (i : Nat) (hi : i < ls.length) : spec_l4Contact.f a ls ws (i : Int) = some (cL ls i, cH a ls i) := by
  have hw := h.wide
  have h1 := h.len
  have r1 := allP_rd i ls ws h.same.symm h.all hi
  unfold spec_l4Contact.f cL cH
  rw [if_pos (by omega), if_pos (by omega)]
  by_cases h0 : i = 0
  · subst h0
    simp only [if_true, Int.natCast_zero] at *
    rw [wrap_id (x := rd ls 0 + a) (by omega) (by omega)]
    unfold spec_l1Least.f mn
    (repeat' split) <;> first | rfl | omega | (simp; omega)
  · have r2 := allP_rd (i - 1) ls ws h.same.symm h.all (by omega)
    rw [show (((i - 1 : Nat)) : Int) = (i : Int) - 1 from by omega] at r2
    rw [if_neg (by omega), wrap_id (x := (i : Int) - 1) (by omega) (by omega), if_pos (by omega), if_pos (by omega), wrap_id (x := rd ls i + a) (by omega) (by omega), wrap_id (x := rd ls ((i : Int) - 1) + a) (by omega) (by omega), if_neg h0, if_neg h0]
    unfold spec_l1Least.f spec_l1Most.f mx mn
    (repeat' split) <;> first | rfl | omega | (simp; omega)
theorem Pile_contact_eq {a : Int} {ls ws : List Int} (h : POk a ls ws) (i : Nat) (hi : i < ls.length) : impl_Pile_contact.f a ls ws (i : Int) = some (cL ls i, cH a ls i) := by
  have hw := h.wide
  have h1 := h.len
  have r1 := allP_rd i ls ws h.same.symm h.all hi
  unfold impl_Pile_contact.f cL cH
  by_cases h0 : i = 0
  · subst h0
    simp only [if_true, Int.natCast_zero] at *
    rw [if_pos (by omega), wrap_id (x := rd ls 0 + a) (by omega) (by omega)]
  · have r2 := allP_rd (i - 1) ls ws h.same.symm h.all (by omega)
    rw [show (((i - 1 : Nat)) : Int) = (i : Int) - 1 from by omega] at r2
    have m : -99 ≤ mn (rd ls i) (rd ls ((i : Int) - 1)) ∧ mn (rd ls i) (rd ls ((i : Int) - 1)) ≤ 99 := by
      unfold mn
      split <;> omega
    rw [if_neg (by omega), if_pos (by omega), if_pos (by omega), wrap_id (x := (i : Int) - 1) (by omega) (by omega), if_pos (by omega), if_pos (by omega), wrap_id (x := mn (rd ls i) (rd ls ((i : Int) - 1)) + a) (by omega) (by omega), if_neg h0, if_neg h0]
def holdsB (a : Int) (ls ws : List Int) (i : Nat) : Bool := decide (cL ls i * (2 * uW ws i) ≤ uS a ls ws i) && decide (uS a ls ws i ≤ cH a ls i * (2 * uW ws i))
theorem prod_bound {c w : Int} (hc : -99 ≤ c ∧ c ≤ 123) (hw : 1 ≤ w ∧ w ≤ 792) : -156816 ≤ c * (2 * w) ∧ c * (2 * w) ≤ 194832 := by
  have m1 : c * (2 * w) ≤ 123 * (2 * w) := Int.mul_le_mul_of_nonneg_right hc.2 (by omega)
  have m2 : -99 * (2 * w) ≤ c * (2 * w) := Int.mul_le_mul_of_nonneg_right hc.1 (by omega)
  omega
theorem Pile_holds_eq {a : Int} {ls ws : List Int} (h : POk a ls ws) (i : Nat) (hi : i < ls.length) (k : Nat) (hk : 10 ≤ k) : impl_Pile_holds.f k a ls ws (i : Int) = some (holdsB a ls ws i) := by
  have b := u_bound h i hi
  have c := c_bound h i hi
  have p1 := prod_bound (c := cL ls i) (w := uW ws i) (by omega) (by omega)
  have p2 := prod_bound (c := cH a ls i) (w := uW ws i) (by omega) (by omega)
  unfold impl_Pile_holds.f
  rw [Pile_contact_eq h i hi, Pile_centre_eq h i hi k hk]
  simp only [Option.bind_some]
  rw [wrap_id (x := cL ls i * (2 * uW ws i)) (by omega) (by omega), wrap_id (x := cH a ls i * (2 * uW ws i)) (by omega) (by omega)]
  unfold holdsB
  by_cases h1 : cL ls i * (2 * uW ws i) ≤ uS a ls ws i <;> simp [h1]
theorem l4Holds_eq {a : Int} {ls ws : List Int} (h : POk a ls ws) (i : Nat) (hi : i < ls.length) (k : Nat) (hk : 10 ≤ k) : spec_l4Holds.f k a ls ws (i : Int) = some (holdsB a ls ws i) := by
  have b := u_bound h i hi
  have c := c_bound h i hi
  have p1 := prod_bound (c := cL ls i) (w := uW ws i) (by omega) (by omega)
  have p2 := prod_bound (c := cH a ls i) (w := uW ws i) (by omega) (by omega)
  unfold spec_l4Holds.f
  rw [l4Contact_eq h i hi, l4Upper_eq h i hi k hk]
  simp only [Option.bind_some]
  rw [wrap_id (x := 2 * uW ws i) (by omega) (by omega), Int.mul_comm (2 * uW ws i) (cL ls i), Int.mul_comm (2 * uW ws i) (cH a ls i), wrap_id (x := cL ls i * (2 * uW ws i)) (by omega) (by omega), wrap_id (x := cH a ls i * (2 * uW ws i)) (by omega) (by omega)]
  unfold holdsB
  by_cases h1 : cL ls i ≤ cH a ls i
  · rw [if_pos h1]
    by_cases h2 : cL ls i * (2 * uW ws i) ≤ uS a ls ws i <;> simp [h2]
  · rw [if_neg h1]
    have m : cH a ls i * (2 * uW ws i) < cL ls i * (2 * uW ws i) := Int.mul_lt_mul_of_pos_right (by omega) (by omega)
    by_cases h2 : cL ls i * (2 * uW ws i) ≤ uS a ls ws i
    · have h3 : ¬ uS a ls ws i ≤ cH a ls i * (2 * uW ws i) := by omega
      simp [h2, h3]
    · simp [h2]
def looseN (a : Int) (ls ws : List Int) : Nat → Int
  | 0 => -1
  | i + 1 => if holdsB a ls ws i then looseN a ls ws i else (i : Int)
theorem looseN_bound (a : Int) (ls ws : List Int) (i : Nat) : -1 ≤ looseN a ls ws i ∧ looseN a ls ws i < (i : Int) := by
  induction i with
  | zero => simp [looseN]
  | succ i ih =>
    unfold looseN
    split <;> omega
theorem l4Loose_l0 {a : Int} {ls ws : List Int} (h : POk a ls ws) : ∀ (i k : Nat), i ≤ ls.length → i + 12 ≤ k → spec_l4Loose.l0 k ((i : Int) - 1) a ls ws = some (looseN a ls ws i) := by
  have h1 := h.len
  intro i
  induction i with
  | zero =>
    intro k hi hk
    obtain ⟨k, rfl⟩ : ∃ m, k = m + 1 := ⟨k - 1, by omega⟩
    simp only [spec_l4Loose.l0]
    rw [if_neg (by omega)]
    rfl
  | succ i ih =>
    intro k hi hk
    obtain ⟨k, rfl⟩ : ∃ m, k = m + 1 := ⟨k - 1, by omega⟩
    simp only [spec_l4Loose.l0, looseN]
    rw [if_pos (by omega), show ((i + 1 : Nat) : Int) - 1 = (i : Int) from by omega, l4Holds_eq h i (by omega) k (by omega), Option.bind_some, wrap_id (x := (i : Int) - 1) (by omega) (by omega), ih k (by omega) (by omega)]
    by_cases hh : holdsB a ls ws i = true <;> simp [hh]
theorem l4Loose_eq {a : Int} {ls ws : List Int} (h : POk a ls ws) (k : Nat) (hk : 20 ≤ k) : spec_l4Loose.f k a ls ws = some (looseN a ls ws ls.length) := by
  have h1 := h.len
  unfold spec_l4Loose.f
  rw [wrap_id (x := (ls.length : Int) - 1) (by omega) (by omega)]
  exact l4Loose_l0 h ls.length k (Nat.le_refl _) (by omega)
theorem highestLoose_l0 {a : Int} {ls ws : List Int} (h : POk a ls ws) : ∀ (i k : Nat), i ≤ ls.length → i + 12 ≤ k → impl_Pile_highestLoose.l0 k ((i : Int) - 1) a ls ws = some (looseN a ls ws i) := by
  have h1 := h.len
  intro i
  induction i with
  | zero =>
    intro k hi hk
    obtain ⟨k, rfl⟩ : ∃ m, k = m + 1 := ⟨k - 1, by omega⟩
    simp only [impl_Pile_highestLoose.l0]
    rw [if_neg (by omega)]
    rfl
  | succ i ih =>
    intro k hi hk
    obtain ⟨k, rfl⟩ : ∃ m, k = m + 1 := ⟨k - 1, by omega⟩
    simp only [impl_Pile_highestLoose.l0, looseN]
    rw [if_pos (by omega), show ((i + 1 : Nat) : Int) - 1 = (i : Int) from by omega, Pile_holds_eq h i (by omega) k (by omega), Option.bind_some, wrap_id (x := (i : Int) - 1) (by omega) (by omega), ih k (by omega) (by omega)]
    by_cases hh : holdsB a ls ws i = true <;> simp [hh]
theorem highestLoose_eq {a : Int} {ls ws : List Int} (h : POk a ls ws) (k : Nat) (hk : 20 ≤ k) : impl_Pile_highestLoose.f k a ls ws = some (looseN a ls ws ls.length) := by
  have h1 := h.len
  unfold impl_Pile_highestLoose.f
  rw [wrap_id (x := (ls.length : Int) - 1) (by omega) (by omega)]
  exact highestLoose_l0 h ls.length k (Nat.le_refl _) (by omega)
theorem gcd_same (k : Nat) : ∀ a b, impl_divisor.l0 k a b = spec_l2Gcd.l0 k a b := by
  induction k with
  | zero => intro a b; rfl
  | succ k ih =>
    intro a b
    simp only [impl_divisor.l0, spec_l2Gcd.l0, ih]
theorem gcd_eq : ∀ (k a b : Nat), b < k → spec_l2Gcd.l0 k (a : Int) (b : Int) = some ((Nat.gcd a b : Nat) : Int) := by
  intro k
  induction k with
  | zero => intro a b h; omega
  | succ k ih =>
    intro a b h
    simp only [spec_l2Gcd.l0]
    by_cases hb : b = 0
    · subst hb
      rw [if_neg (by simp)]
      simp
    · rw [if_pos (by omega), if_neg (by omega)]
      rw [show Int.tmod (a : Int) (b : Int) = ((a % b : Nat) : Int) from by simp [Int.tmod]]
      rw [ih b (a % b) (by have := Nat.mod_lt a (Nat.pos_of_ne_zero hb); omega), Nat.gcd_comm b, ← Nat.gcd_rec, Nat.gcd_comm]
def gd (a b : Int) : Int := ((Nat.gcd a.natAbs b.natAbs : Nat) : Int)
theorem gd_pos {a b : Int} (h : 0 < b) : 0 < gd a b := by
  have := Nat.gcd_pos_of_pos_right a.natAbs (show 0 < b.natAbs by omega)
  unfold gd
  omega
theorem gd_dvd (a b : Int) : gd a b ∣ a ∧ gd a b ∣ b := by
  unfold gd
  exact ⟨Int.ofNat_dvd_left.2 (Nat.gcd_dvd_left _ _), Int.ofNat_dvd_left.2 (Nat.gcd_dvd_right _ _)⟩
def cut (a b : Int) : Int × Int := (a / gd a b, b / gd a b)
theorem cut_abs {a b : Int} (h : 0 < b) : (cut a b).1.natAbs ≤ a.natAbs ∧ 0 < (cut a b).2 ∧ (cut a b).2 ≤ b := by
  have hp := gd_pos (a := a) h
  obtain ⟨⟨x, hx⟩, ⟨y, hy⟩⟩ := gd_dvd a b
  unfold cut
  generalize gd a b = g at *
  subst hx hy
  simp only
  rw [Int.mul_ediv_cancel_left _ (by omega), Int.mul_ediv_cancel_left _ (by omega)]
  have hy : 0 < y := by
    rcases Int.lt_or_le 0 y with hy | hy
    · exact hy
    · have := Int.mul_nonpos_of_nonneg_of_nonpos (Int.le_of_lt hp) hy
      omega
  refine ⟨?_, hy, ?_⟩
  · rw [Int.natAbs_mul]
    have : 1 ≤ g.natAbs := by omega
    exact Nat.le_mul_of_pos_left _ this
  · have := Int.mul_le_mul_of_nonneg_right (show 1 ≤ g by omega) (Int.le_of_lt hy)
    omega
theorem cut_nonneg {a b : Int} (h : 0 < b) (ha : 0 ≤ a) : 0 ≤ (cut a b).1 := Int.ediv_nonneg ha (Int.le_of_lt (gd_pos h))
theorem cut_pos {a b : Int} (h : 0 < b) (ha : 0 < a) : 0 < (cut a b).1 := by
  have hp := gd_pos (a := a) h
  obtain ⟨x, hx⟩ := (gd_dvd a b).1
  show 0 < a / gd a b
  generalize gd a b = g at *
  subst hx
  rw [Int.mul_ediv_cancel_left _ (by omega)]
  rcases Int.lt_or_le 0 x with hy | hy
  · exact hy
  · have := Int.mul_nonpos_of_nonneg_of_nonpos (Int.le_of_lt hp) hy
    omega
theorem l2Cut_eq (k : Nat) (a b : Int) (hb : 0 < b) (hB : b ≤ 4611686018427387904) (ha : -4611686018427387904 ≤ a ∧ a ≤ 4611686018427387904) (hk : b.toNat < k) : spec_l2Cut.f k a b = some (cut a b) := by
  unfold spec_l2Cut.f spec_l1Most.f spec_l2Gcd.f
  rw [wrap_id (x := -a) (by omega) (by omega)]
  have e : (if a > -a then some a else some (-a)) = some ((a.natAbs : Nat) : Int) := by
    split <;> (congr 1; omega)
  rw [e, Option.bind_some]
  have hb2 : b = ((b.natAbs : Nat) : Int) := by omega
  have hc := cut_abs (a := a) hb
  have hp := gd_pos (a := a) hb
  have hd := gd_dvd a b
  rw [show spec_l2Gcd.l0 k (a.natAbs : Int) b = some (gd a b) from by
    unfold gd
    rw [← gcd_eq k a.natAbs b.natAbs (by omega), ← hb2]]
  rw [Option.bind_some, if_neg (by omega)]
  unfold cut at hc ⊢
  simp only at hc
  rw [Int.tdiv_eq_ediv_of_dvd hd.1, Int.tdiv_eq_ediv_of_dvd hd.2, wrap_id (by omega) (by omega), wrap_id (by omega) (by omega)]
theorem fraction_same (k : Nat) (a b : Int) : impl_fraction.f k a b = spec_l2Cut.f k a b := by
  unfold impl_fraction.f spec_l2Cut.f impl_divisor.f spec_l2Gcd.f
  have e : spec_l1Most.f a (wrap64 (-a)) = some (mx a (wrap64 (-a))) := by
    unfold spec_l1Most.f mx
    (repeat' split) <;> (first | rfl | omega | (congr 1; omega))
  rw [e, Option.bind_some, gcd_same]
def keptR (a : Int) (ls ws : List Int) : Int × List Int × List Int × Bool := if pileB a ls ws then (a, ls, ws, true) else (0, [], [], false)
theorem keptR_len (a : Int) (ls ws : List Int) : (keptR a ls ws).2.1.length ≤ 100 ∧ (keptR a ls ws).2.2.1.length ≤ 100 := by
  unfold keptR
  by_cases h : pileB a ls ws = true
  · have ok := pileB_ok h
    have o1 := ok.len
    have o2 := ok.same
    rw [if_pos h]
    simp only
    omega
  · rw [if_neg h]
    simp
theorem l4Kept_eq (a : Int) (ls ws : List Int) (k : Nat) (hk : 10 ≤ k) : spec_l4Kept.f k a ls ws = some (keptR a ls ws) := by
  unfold spec_l4Kept.f keptR
  rw [l4Pile_eq a ls ws k hk, Option.bind_some]
  by_cases h : pileB a ls ws = true <;> simp [h]
theorem validPile_eq (a : Int) (ls ws : List Int) (k : Nat) (hk : 10 ≤ k) : impl_validPile.f k a ls ws = some (keptR a ls ws) := by
  unfold impl_validPile.f keptR
  rw [IsPile_eq a ls ws k hk, Option.bind_some]
  by_cases h : pileB a ls ws = true <;> simp [h]
theorem Clone_eq (l : List Int) (h : l.length < 17592186044416) : slices_Clone_int_int.f l = some l := by
  unfold slices_Clone_int_int.f
  rw [Option.bind_some, if_pos (by simpa using h)]
  rfl
theorem l1Own_eq (l : List Int) (h : l.length < 17592186044416) : spec_l1Own.f l = some l := by
  unfold spec_l1Own.f
  rw [Option.bind_some, if_pos (by simpa using h)]
  rfl
theorem Pile_moved_l0 (d a : Int) (t : List Int) : ∀ (s p : List Int) (k : Nat), (p ++ s).length < 1048577 → s.length < k →
    impl_Pile_moved.l0 k d (p ++ s) ((p ++ s).length : Int) (p.length : Int) a (p.map (fun x => wrap64 (x + d))) t = some (a, (p ++ s).map (fun x => wrap64 (x + d)), t) := by
  intro s
  induction s with
  | nil =>
    intro p k hl hk
    obtain ⟨k, rfl⟩ : ∃ m, k = m + 1 := ⟨k - 1, by simp at hk; omega⟩
    simp only [impl_Pile_moved.l0]
    rw [if_neg (by simp)]
    simp
  | cons x s ih =>
    intro p k hl hk
    obtain ⟨k, rfl⟩ : ∃ m, k = m + 1 := ⟨k - 1, by simp at hk; omega⟩
    simp only [impl_Pile_moved.l0]
    rw [if_pos (by simp; omega), if_pos (by omega), if_pos (by simp; omega), if_pos (by simp at hl ⊢; omega), rdI, snocI p x (by simp at hl; omega), List.append_cons p x s]
    have e := ih (p ++ [x]) k (by simpa using hl) (by simp at hk; omega)
    rw [List.map_append] at e
    exact e
theorem Pile_moved_eq (d a : Int) (s t : List Int) (k : Nat) (h1 : s.length < 1048577) (h2 : t.length < 1048577) (hk : s.length < k) : impl_Pile_moved.f k a s t d = some (a, s.map (fun x => wrap64 (x + d)), t) := by
  unfold impl_Pile_moved.f
  rw [Clone_eq t (by omega), Option.bind_some]
  exact Pile_moved_l0 d a t s [] k h1 hk
theorem l4Moved_l0 (d a : Int) (t : List Int) : ∀ (s p : List Int) (k : Nat), (p ++ s).length < 1048577 → s.length < k →
    spec_l4Moved.l0 k d (p.length : Int) a (p ++ s) t a (p.map (fun x => wrap64 (x + d))) t = some (a, (p ++ s).map (fun x => wrap64 (x + d)), t) := by
  intro s
  induction s with
  | nil =>
    intro p k hl hk
    obtain ⟨k, rfl⟩ : ∃ m, k = m + 1 := ⟨k - 1, by simp at hk; omega⟩
    simp only [spec_l4Moved.l0]
    rw [if_neg (by simp)]
    simp
  | cons x s ih =>
    intro p k hl hk
    obtain ⟨k, rfl⟩ : ∃ m, k = m + 1 := ⟨k - 1, by simp at hk; omega⟩
    simp only [spec_l4Moved.l0]
    rw [if_pos (by simp; omega), if_pos (by omega), if_pos (by simp at hl ⊢; omega), rdI, snocI p x (by simp at hl; omega), List.append_cons p x s]
    have e := ih (p ++ [x]) k (by simpa using hl) (by simp at hk; omega)
    rw [List.map_append] at e
    exact e
theorem l4Moved_eq (d a : Int) (s t : List Int) (k : Nat) (h1 : s.length < 1048577) (h2 : t.length < 1048577) (hk : s.length < k) : spec_l4Moved.f k a s t d = some (a, s.map (fun x => wrap64 (x + d)), t) := by
  unfold spec_l4Moved.f
  rw [l1Own_eq t (by omega), Option.bind_some]
  exact l4Moved_l0 d a t s [] k h1 hk
def OverhangOf_big (a m : Int) : List Int → Int
  | [] => m
  | x :: s => OverhangOf_big a (mx m (x + a)) s
theorem OverhangOf_spec_l0 (a : Int) (ws : List Int) (ha : 1 ≤ a ∧ a ≤ 24) : ∀ (s p : List Int) (m : Int) (k : Nat), (∀ x ∈ s, -99 ≤ x ∧ x ≤ 99) → (p ++ s).length < 1048577 → s.length < k →
    spec_OverhangOf.l0 k m (p.length : Int) a (p ++ s) ws = some (OverhangOf_big a m s, true) := by
  intro s
  induction s with
  | nil =>
    intro p m k hs hl hk
    obtain ⟨k, rfl⟩ : ∃ n, k = n + 1 := ⟨k - 1, by simp at hk; omega⟩
    simp only [spec_OverhangOf.l0]
    rw [if_neg (by simp)]
    rfl
  | cons x s ih =>
    intro p m k hs hl hk
    obtain ⟨k, rfl⟩ : ∃ n, k = n + 1 := ⟨k - 1, by simp at hk; omega⟩
    have hx := hs x (by simp)
    have hm : spec_l1Most.f m (x + a) = some (mx m (x + a)) := by
      unfold spec_l1Most.f mx
      (repeat' split) <;> (first | rfl | omega | (congr 1; omega))
    simp only [spec_OverhangOf.l0]
    rw [if_pos (by simp; omega), if_pos (by omega), rdI, wrap_id (x := x + a) (by omega) (by omega), hm, Option.bind_some, snocI p x (by simp at hl; omega), List.append_cons p x s]
    exact ih (p ++ [x]) _ k (fun y hy => hs y (by simp [hy])) (by simpa using hl) (by simp at hk; omega)
theorem OverhangOf_Max_l0 (a : Int) (ha : 1 ≤ a ∧ a ≤ 24) : ∀ (s p : List Int) (m z : Int) (k : Nat), z = mx 0 (m + a) → (∀ x ∈ s, -99 ≤ x ∧ x ≤ 99) → -99 ≤ m ∧ m ≤ 99 → (p ++ s).length < 1048577 → s.length < k →
    ∃ r, slices_Max_int_int.l0 k (p ++ s) m (p.length : Int) = some r ∧ OverhangOf_big a z s = mx 0 (wrap64 (r + a)) := by
  intro s
  induction s with
  | nil =>
    intro p m z k hz hs hm hl hk
    obtain ⟨k, rfl⟩ : ∃ n, k = n + 1 := ⟨k - 1, by simp at hk; omega⟩
    simp only [slices_Max_int_int.l0]
    rw [if_neg (by simp)]
    exact ⟨m, rfl, by rw [wrap_id (by omega) (by omega)]; exact hz⟩
  | cons x s ih =>
    intro p m z k hz hs hm hl hk
    obtain ⟨k, rfl⟩ : ∃ n, k = n + 1 := ⟨k - 1, by simp at hk; omega⟩
    have hx := hs x (by simp)
    simp only [slices_Max_int_int.l0]
    rw [if_pos (by simp; omega), if_pos (by omega), rdI, snocI p x (by simp at hl; omega), List.append_cons p x s]
    exact ih (p ++ [x]) (mx m x) (mx z (x + a)) k (by subst hz; unfold mx; (repeat' split) <;> omega) (fun y hy => hs y (by simp [hy])) (by unfold mx; split <;> omega) (by simpa using hl) (by simp at hk; omega)
theorem OverhangOf_allP_mem : ∀ (s t : List Int), s.length = t.length → allP s t = true → ∀ x ∈ s, -99 ≤ x ∧ x ≤ 99 := by
  intro s
  induction s with
  | nil => intro t _ _ x hx; simp at hx
  | cons y s ih =>
    intro t ht h x hx
    cases t with
    | nil => simp at ht
    | cons w t =>
      simp only [allP, okP, Bool.and_eq_true, decide_eq_true_eq] at h
      rcases List.mem_cons.1 hx with e | e
      · rw [e]
        exact h.1.1
      · exact ih t (by simpa using ht) h.2 x e
theorem OverhangOf_both (a : Int) (ls ws : List Int) (hb : ls.length + ws.length ≤ 1048576) : ∃ r : Int × Bool, ∀ k, 1000 + ls.length + ws.length ≤ k → spec_OverhangOf.f k a ls ws = some r ∧ impl_OverhangOf.f k a ls ws = some r := by
  by_cases h : pileB a ls ws = true
  · have ok := pileB_ok h
    have o1 := ok.len
    have hm := OverhangOf_allP_mem ls ws ok.same.symm ok.all
    cases ls with
    | nil => simp at o1
    | cons x s =>
      refine ⟨(OverhangOf_big a 0 (x :: s), true), fun k hk => ?_⟩
      have hx := hm x (by simp)
      have e1 := OverhangOf_spec_l0 a ws ok.wide (x :: s) [] 0 k hm (by simp only [List.nil_append]; omega) (by omega)
      obtain ⟨r, e2, e3⟩ := OverhangOf_Max_l0 a ok.wide s [x] x (mx 0 (x + a)) k rfl (fun y hy => hm y (by simp [hy])) hx (by simp only [List.length_append, List.length_cons, List.length_nil] at hb ⊢; omega) (by simp at hk; omega)
      have e4 : slices_Max_int_int.f k (x :: s) = some r := by
        unfold slices_Max_int_int.f
        rw [if_neg (by simp only [List.length_cons]; omega), if_pos (by simp only [List.length_cons]; omega)]
        exact e2
      simp (disch := omega) only [spec_OverhangOf.f, impl_OverhangOf.f, l4Pile_eq, IsPile_eq, h, e4, Option.bind_some, if_true]
      exact ⟨e1, by rw [← e3]; rfl⟩
  · refine ⟨(0, false), fun k hk => ?_⟩
    simp (disch := omega) only [spec_OverhangOf.f, impl_OverhangOf.f, l4Pile_eq, IsPile_eq, h, Option.bind_some, if_false, and_self, Bool.false_eq_true]
def MirrorPile_mir (z x : Int) : Int := wrap64 (wrap64 (2 * z) - x)
theorem MirrorPile_spec_l0 (a z : Int) (u t : List Int) (hu : u.length < 1048577) (hz : rd u 0 = z) : ∀ (s p : List Int) (k : Nat), u = p ++ s → s.length + 20 < k →
    spec_MirrorPile.l0 k (p.length : Int) a u t a (p.map (MirrorPile_mir z)) t = some (keptR a (u.map (MirrorPile_mir z)) t) := by
  intro s
  induction s with
  | nil =>
    intro p k hp hk
    obtain ⟨k, rfl⟩ : ∃ m, k = m + 1 := ⟨k - 1, by simp at hk; omega⟩
    subst hp
    simp only [spec_MirrorPile.l0]
    rw [if_neg (by simp), List.append_nil, l4Kept_eq _ _ _ k (by simp at hk; omega)]
    rfl
  | cons x s ih =>
    intro p k hp hk
    obtain ⟨k, rfl⟩ : ∃ m, k = m + 1 := ⟨k - 1, by simp at hk; omega⟩
    have hl : u.length = p.length + s.length + 1 := by rw [hp]; simp; omega
    have hr : rd u (p.length : Int) = x := by rw [hp]; exact rdI p s x
    simp only [spec_MirrorPile.l0]
    rw [if_pos (by omega), if_pos (by omega), if_pos (by omega), if_pos (by simp; omega), hz, hr, snocI p x (by omega)]
    have e := ih (p ++ [x]) k (by rw [hp]; simp) (by simp at hk; omega)
    rw [List.map_append] at e
    exact e
theorem MirrorPile_impl_l0 (a z : Int) (u t : List Int) (hu : u.length < 1048577) (hz : rd u 0 = z) : ∀ (s p : List Int) (k : Nat), u = p ++ s → s.length + 20 < k →
    impl_MirrorPile.l0 k u (u.length : Int) (p.length : Int) a u t a (p.map (MirrorPile_mir z)) t = some (keptR a (u.map (MirrorPile_mir z)) t) := by
  intro s
  induction s with
  | nil =>
    intro p k hp hk
    obtain ⟨k, rfl⟩ : ∃ m, k = m + 1 := ⟨k - 1, by simp at hk; omega⟩
    subst hp
    simp only [impl_MirrorPile.l0]
    rw [if_neg (by simp), List.append_nil, validPile_eq _ _ _ k (by simp at hk; omega)]
    rfl
  | cons x s ih =>
    intro p k hp hk
    obtain ⟨k, rfl⟩ : ∃ m, k = m + 1 := ⟨k - 1, by simp at hk; omega⟩
    have hl : u.length = p.length + s.length + 1 := by rw [hp]; simp; omega
    have hr : rd u (p.length : Int) = x := by rw [hp]; exact rdI p s x
    simp only [impl_MirrorPile.l0]
    rw [if_pos (by omega), if_pos (by omega), if_pos (by omega), if_pos (by omega), if_pos (by simp; omega), hz, hr, snocI p x (by omega)]
    have e := ih (p ++ [x]) k (by rw [hp]; simp) (by simp at hk; omega)
    rw [List.map_append] at e
    exact e
theorem MirrorPile_both (a : Int) (ls ws : List Int) (hb : ls.length + ws.length ≤ 1048576) : ∃ r : Int × List Int × List Int × Bool, r.2.1.length ≤ 100 ∧ r.2.2.1.length ≤ 100 ∧ ∀ k, 1000 + ls.length + ws.length ≤ k → spec_MirrorPile.f k a ls ws = some r ∧ impl_MirrorPile.f k a ls ws = some r := by
  by_cases h : pileB a ls ws = true
  · have ok := pileB_ok h
    have n := keptR_len a (ls.map (MirrorPile_mir (rd ls 0))) ws
    refine ⟨keptR a (ls.map (MirrorPile_mir (rd ls 0))) ws, n.1, n.2, fun k hk => ?_⟩
    have e1 := MirrorPile_spec_l0 a (rd ls 0) ls ws (by omega) rfl ls [] k rfl (by omega)
    have e2 := MirrorPile_impl_l0 a (rd ls 0) ls ws (by omega) rfl ls [] k rfl (by omega)
    simp only [List.length_nil, List.map_nil, Int.natCast_zero] at e1 e2
    simp (disch := omega) only [spec_MirrorPile.f, impl_MirrorPile.f, l4Pile_eq, IsPile_eq, h, l1Own_eq, Clone_eq, Option.bind_some, if_true]
    exact ⟨e1, e2⟩
  · refine ⟨(0, [], [], false), by simp, by simp, fun k hk => ?_⟩
    simp (disch := omega) only [spec_MirrorPile.f, impl_MirrorPile.f, l4Pile_eq, IsPile_eq, h, Option.bind_some, if_false, and_self, Bool.false_eq_true]
theorem u64_ok (x : Int) : 0 ≤ IntKind.u64.wrap x ∧ IntKind.u64.wrap x < 18446744073709551616 := by
  simp [IntKind.wrap, IntKind.bits, IntKind.signed]
  omega
theorem wraps_u64 (n : Int) (h0 : 0 ≤ n) (h1 : n < 2 ^ 64) : IntKind.u64.wrap n = n := by
  simp [IntKind.wrap, IntKind.bits, IntKind.signed]
  omega
theorem and255 (x : Int) (h0 : 0 ≤ x) (h1 : x < 18446744073709551616) : 0 ≤ Go.bits .and .u64 x 255 ∧ Go.bits .and .u64 x 255 ≤ 255 := by
  have e : Go.bits .and .u64 x 255 = x % 256 := Go.bits_mask .u64 64 (by decide) wraps_u64 8 (by decide) x h0 h1
  rw [e]
  omega
theorem rnd_ok (x : Int) : 0 ≤ wrap64 (Go.bits .and .u64 (IntKind.u64.wrap x / 1099511627776) 255) ∧ wrap64 (Go.bits .and .u64 (IntKind.u64.wrap x / 1099511627776) 255) ≤ 255 := by
  have h := u64_ok x
  have b := and255 (IntKind.u64.wrap x / 1099511627776) (by omega) (by omega)
  rw [wrap_id (by omega) (by omega)]
  exact b
def Bytes (C : List Int) : Prop := ∀ x ∈ C, 0 ≤ x ∧ x ≤ 255
theorem bytes_of {C : List Int} (h : ∀ x ∈ C, (Lit.int .u8 x).wf = true) : Bytes C := fun x hx => by
  have := h x hx
  simp [Lit.wf, IntKind.min, IntKind.max, IntKind.signed, IntKind.bits] at this
  omega
theorem next_ok {C : List Int} (hC : Bytes C) (p s : Int) (h0 : 0 ≤ p) (h1 : p ≤ 1000000000) : ∃ b s', spec_l1Cur_next.f C p s = some (b, p + 1, s') ∧ 0 ≤ b ∧ b ≤ 255 := by
  unfold spec_l1Cur_next.f
  rw [wrap_id (x := p + 1) (by omega) (by omega)]
  by_cases c : p < (C.length : Int)
  · have hm : rd C p ∈ C := by
      have hl : p.toNat < C.length := by omega
      simp only [rd]
      rw [List.getD_eq_getElem?_getD, List.getElem?_eq_getElem hl]
      exact List.getElem_mem hl
    have hb := hC _ hm
    rw [if_pos c, if_pos h0, if_pos (by omega), wrap_id (x := rd C p) (by omega) (by omega)]
    exact ⟨_, _, rfl, hb⟩
  · rw [if_neg c]
    by_cases c2 : p + 1 ≤ (C.length : Int)
    · omega
    · rw [if_neg c2]
      exact ⟨_, _, rfl, rnd_ok _⟩
theorem pick_ok {C : List Int} (hC : Bytes C) (p s n : Int) (h0 : 0 ≤ p) (h1 : p ≤ 1000000000) (hn : n ≤ 200) : ∃ x p' s', spec_l1Cur_pick.f C p s n = some (x, p', s') ∧ p ≤ p' ∧ p' ≤ p + 1 ∧ 0 ≤ x ∧ (x < n ∨ x = 0) := by
  unfold spec_l1Cur_pick.f
  by_cases c : n ≤ 1
  · rw [if_pos c]
    exact ⟨0, p, s, rfl, by omega, by omega, by omega, Or.inr rfl⟩
  · obtain ⟨b, s', e, b0, b1⟩ := next_ok hC p s h0 h1
    rw [if_neg c, e, Option.bind_some, if_neg (by omega), if_neg (by omega)]
    have m0 := Int.tmod_nonneg n b0
    have m1 := Int.tmod_lt_of_pos b (show 0 < n by omega)
    exact ⟨Int.tmod b n, p + 1, s', rfl, by omega, by omega, m0, Or.inl m1⟩
theorem among_ok {C : List Int} (hC : Bytes C) (p s : Int) (l : List Int) (h0 : 0 ≤ p) (h1 : p ≤ 1000000000) (hl : 1 ≤ l.length ∧ l.length ≤ 200) : ∃ x p' s', spec_l1Cur_among.f C p s l = some (x, p', s') ∧ p ≤ p' ∧ p' ≤ p + 1 ∧ x ∈ l := by
  unfold spec_l1Cur_among.f
  obtain ⟨x, p', s', e, a1, a2, a3, a4⟩ := pick_ok hC p s (l.length : Int) h0 h1 (by omega)
  rw [e, Option.bind_some, if_pos a3, if_pos (by omega)]
  refine ⟨_, _, _, rfl, a1, a2, ?_⟩
  have hx : x.toNat < l.length := by omega
  simp only [rd]
  rw [List.getD_eq_getElem?_getD, List.getElem?_eq_getElem hx]
  exact List.getElem_mem hx
theorem one_ok {C : List Int} (hC : Bytes C) (p s n : Int) (h0 : 0 ≤ p) (h1 : p ≤ 1000000000) (hn : n ≤ 200) : ∃ (b : Bool) (p' s' : Int), spec_l1Cur_one.f C p s n = some (b, p', s') ∧ p ≤ p' ∧ p' ≤ p + 1 := by
  unfold spec_l1Cur_one.f
  obtain ⟨x, p', s', e, a1, a2, _⟩ := pick_ok hC p s n h0 h1 hn
  rw [e, Option.bind_some]
  exact ⟨_, _, _, rfl, a1, a2⟩
theorem pile_l1 (left : Int) (C : List Int) (p s a : Int) : ∀ (d : Nat) (L W : List Int) (k : Nat), L.length + d = 9 ∨ (d = 0 ∧ 9 ≤ L.length ∧ L.length ≤ 10) → W.length ≤ 10 + L.length → d < k → ∃ L' W', spec_l1Cur_pile.l1 k left C p s a L W = some (a, L', W', p, s) ∧ L'.length ≤ 10 ∧ W'.length ≤ 30 := by
  intro d
  induction d with
  | zero =>
    intro L W k hL hW hk
    obtain ⟨k, rfl⟩ : ∃ m, k = m + 1 := ⟨k - 1, by omega⟩
    simp only [spec_l1Cur_pile.l1]
    rw [if_neg (by omega)]
    exact ⟨L, W, rfl, by omega, by omega⟩
  | succ d ih =>
    intro L W k hL hW hk
    obtain ⟨k, rfl⟩ : ∃ m, k = m + 1 := ⟨k - 1, by omega⟩
    simp only [spec_l1Cur_pile.l1]
    rw [if_pos (by omega), if_pos (by omega), if_pos (by omega)]
    exact ih (L ++ [left]) (W ++ [1]) k (by simp; omega) (by simp; omega) (by omega)
theorem pile_l0 {C : List Int} (hC : Bytes C) (n : Nat) (hn : 1 ≤ n ∧ n ≤ 8) (firm : Bool) (a : Int) (ha : 1 ≤ a ∧ a ≤ 24) : ∀ (d i : Nat) (p s left : Int) (L W : List Int), i + d = n → L.length = i → W.length = i → 0 ≤ p → p + 5 * d ≤ 1000000 →
    ∃ a' L' W' p' s', L'.length ≤ 10 ∧ W'.length ≤ 30 ∧ p ≤ p' ∧ p' ≤ p + 5 * d + 10 ∧ ∀ k, d + 30 < k → spec_l1Cur_pile.l0 k (n : Int) firm left (i : Int) C p s a L W = some (a', L', W', p', s') := by
  intro d
  induction d with
  | zero =>
    intro i p s left L W hi hL hW h0 h1
    obtain ⟨x, p1, s1, e, b1, b2, b3, b4⟩ := pick_ok hC p s 50 h0 (by omega) (by omega)
    have fin : ∀ r : Int × List Int × List Int × Int × Int, (∀ k, 30 < k + 1 → (if x = 0 then ((spec_l1Cur_among.f C p1 s1 (([0, 25, (-1)] : List Int))).bind fun bt162 => (some (bt162.1, L, W, bt162.2.1, bt162.2.2))) else (if x = 1 then ((spec_l1Cur_pick.f C p1 s1 (n : Int)).bind fun bt165 => ((spec_l1Cur_among.f C bt165.2.1 bt165.2.2 (([99, 100, (-100), 4611686018427387904] : List Int))).bind fun bt171 => (if 0 ≤ bt165.1 then (if bt165.1 < (L.length : Int) then (some (a, (L.set (bt165.1 : Int).toNat bt171.1), W, bt171.2.1, bt171.2.2)) else (none)) else (none)))) else (if x = 2 then ((spec_l1Cur_pick.f C p1 s1 (n : Int)).bind fun bt175 => ((spec_l1Cur_among.f C bt175.2.1 bt175.2.2 (([0, 99, 100, (-1)] : List Int))).bind fun bt181 => (if 0 ≤ bt175.1 then (if bt175.1 < (W.length : Int) then (some (a, L, (W.set (bt175.1 : Int).toNat bt181.1), bt181.2.1, bt181.2.2)) else (none)) else (none)))) else (if x = 3 then (if W.length < 17592186044416 then (some (a, L, (W ++ [1]), p1, s1)) else (none)) else (if x = 4 then (spec_l1Cur_pile.l1 k left C p1 s1 a L W) else (some (a, L, W, p1, s1))))))) = some r) → ∀ k, 30 < k → spec_l1Cur_pile.l0 k (n : Int) firm left (i : Int) C p s a L W = some r := by
      intro r hr k hk
      obtain ⟨k, rfl⟩ : ∃ m, k = m + 1 := ⟨k - 1, by omega⟩
      simp only [spec_l1Cur_pile.l0]
      rw [if_neg (by omega), e, Option.bind_some]
      exact hr k hk
    by_cases x0 : x = 0
    · obtain ⟨y, p2, s2, e2, c1, c2, c3⟩ := among_ok hC p1 s1 [0, 25, (-1)] (by omega) (by omega) (by simp)
      refine ⟨y, L, W, p2, s2, by omega, by omega, by omega, by omega, fun k hk => fin _ (fun k _ => ?_) k (by omega)⟩
      rw [if_pos x0, e2, Option.bind_some]
    by_cases x1 : x = 1
    · obtain ⟨y, p2, s2, e2, c1, c2, c3, c4⟩ := pick_ok hC p1 s1 (n : Int) (by omega) (by omega) (by omega)
      obtain ⟨z, p3, s3, e3, d1, d2, d3⟩ := among_ok hC p2 s2 [99, 100, (-100), 4611686018427387904] (by omega) (by omega) (by simp)
      refine ⟨a, L.set y.toNat z, W, p3, s3, by simp; omega, by omega, by omega, by omega, fun k hk => fin _ (fun k _ => ?_) k (by omega)⟩
      rw [if_neg x0, if_pos x1, e2, Option.bind_some, e3, Option.bind_some, if_pos c3, if_pos (by omega)]
    by_cases x2 : x = 2
    · obtain ⟨y, p2, s2, e2, c1, c2, c3, c4⟩ := pick_ok hC p1 s1 (n : Int) (by omega) (by omega) (by omega)
      obtain ⟨z, p3, s3, e3, d1, d2, d3⟩ := among_ok hC p2 s2 [0, 99, 100, (-1)] (by omega) (by omega) (by simp)
      refine ⟨a, L, W.set y.toNat z, p3, s3, by omega, by simp; omega, by omega, by omega, fun k hk => fin _ (fun k _ => ?_) k (by omega)⟩
      rw [if_neg x0, if_neg x1, if_pos x2, e2, Option.bind_some, e3, Option.bind_some, if_pos c3, if_pos (by omega)]
    by_cases x3 : x = 3
    · refine ⟨a, L, W ++ [1], p1, s1, by omega, by simp; omega, by omega, by omega, fun k hk => fin _ (fun k _ => ?_) k (by omega)⟩
      rw [if_neg x0, if_neg x1, if_neg x2, if_pos x3, if_pos (by omega)]
    by_cases x4 : x = 4
    · obtain ⟨L', W', _, l1, l2⟩ := pile_l1 left C p1 s1 a (9 - L.length) L W 100 (by omega) (by omega) (by omega)
      have all : ∀ k, 20 < k → ∃ L2 W2, spec_l1Cur_pile.l1 k left C p1 s1 a L W = some (a, L2, W2, p1, s1) ∧ L2.length ≤ 10 ∧ W2.length ≤ 30 := fun k hk => pile_l1 left C p1 s1 a (9 - L.length) L W k (by omega) (by omega) (by omega)
      have same : ∀ (d : Nat) (L W : List Int) (j k : Nat), L.length + d = 9 → d < j → d < k → spec_l1Cur_pile.l1 j left C p1 s1 a L W = spec_l1Cur_pile.l1 k left C p1 s1 a L W := by
        intro d
        induction d with
        | zero =>
          intro L W j k hL hj hk
          obtain ⟨j, rfl⟩ : ∃ m, j = m + 1 := ⟨j - 1, by omega⟩
          obtain ⟨k, rfl⟩ : ∃ m, k = m + 1 := ⟨k - 1, by omega⟩
          simp only [spec_l1Cur_pile.l1]
          rw [if_neg (by omega), if_neg (by omega)]
        | succ d ih =>
          intro L W j k hL hj hk
          obtain ⟨j, rfl⟩ : ∃ m, j = m + 1 := ⟨j - 1, by omega⟩
          obtain ⟨k, rfl⟩ : ∃ m, k = m + 1 := ⟨k - 1, by omega⟩
          simp only [spec_l1Cur_pile.l1]
          by_cases h9 : ((L.length : Int)) < 9
          · simp only [if_pos h9]
            by_cases hw : W.length < 17592186044416
            · by_cases hl : L.length < 17592186044416
              · simp only [if_pos hw, if_pos hl]
                exact ih _ _ j k (by simp only [List.length_append, List.length_cons, List.length_nil]; omega) (by omega) (by omega)
              · omega
            · simp only [if_neg hw]
          · omega
      obtain ⟨L2, W2, e2, l3, l4⟩ := all 100 (by omega)
      refine ⟨a, L2, W2, p1, s1, l3, l4, by omega, by omega, fun k hk => fin _ (fun k hk => ?_) k (by omega)⟩
      rw [if_neg x0, if_neg x1, if_neg x2, if_neg x3, if_pos x4, same (9 - L.length) L W k 100 (by omega) (by omega) (by omega)]
      exact e2
    · refine ⟨a, L, W, p1, s1, by omega, by omega, by omega, by omega, fun k hk => fin _ (fun k _ => ?_) k (by omega)⟩
      rw [if_neg x0, if_neg x1, if_neg x2, if_neg x3, if_neg x4]
  | succ d ih =>
    intro i p s left L W hi hL hW h0 h1
    obtain ⟨x, p1, s1, e1, a1, a2, a3⟩ := among_ok hC p s [1, 1, 4, 20] h0 (by omega) (by simp)
    have hx : x ≤ 20 := by simp at a3; omega
    obtain ⟨y, p2, s2, e2, b1, b2, b3⟩ := pick_ok hC p1 s1 x (by omega) (by omega) (by omega)
    have step : ∀ k, spec_l1Cur_pile.l0 (k + 1) (n : Int) firm left (i : Int) C p s a L W = (if firm = true then ((spec_l1Cur_pick.f C p2 s2 3).bind fun bt150 => (spec_l1Cur_pile.l0 k (n : Int) firm (wrap64 ((wrap64 (left + bt150.1)) - 1)) (wrap64 ((i : Int) + 1)) C bt150.2.1 bt150.2.2 a (L ++ [left]) (W ++ [wrap64 (1 + y)]))) else ((spec_l1Cur_pick.f C p2 s2 (wrap64 ((wrap64 (2 * a)) + 3))).bind fun bt153 => (spec_l1Cur_pile.l0 k (n : Int) firm (wrap64 ((wrap64 ((wrap64 (left + bt153.1)) - a)) - 1)) (wrap64 ((i : Int) + 1)) C bt153.2.1 bt153.2.2 a (L ++ [left]) (W ++ [wrap64 (1 + y)])))) := by
      intro k
      simp only [spec_l1Cur_pile.l0]
      rw [if_pos (by omega), if_pos (by omega), Option.bind_some, e1, Option.bind_some, e2, Option.bind_some, if_pos (by omega), Option.bind_some]
    have wi : wrap64 ((i : Int) + 1) = ((i + 1 : Nat) : Int) := by rw [wrap_id (by omega) (by omega)]; omega
    have w3 : wrap64 (wrap64 (2 * a) + 3) = 2 * a + 3 := by rw [wrap_id (x := 2 * a) (by omega) (by omega), wrap_id (by omega) (by omega)]
    cases firm with
    | true =>
      obtain ⟨z, p3, s3, e3, c1, c2, c3⟩ := pick_ok hC p2 s2 3 (by omega) (by omega) (by omega)
      obtain ⟨a', L', W', p', s', l1, l2, l3, l4, l5⟩ := ih (i + 1) p3 s3 (wrap64 ((wrap64 (left + z)) - 1)) (L ++ [left]) (W ++ [wrap64 (1 + y)]) (by omega) (by simp; omega) (by simp; omega) (by omega) (by omega)
      refine ⟨a', L', W', p', s', l1, l2, by omega, by omega, fun k hk => ?_⟩
      obtain ⟨k, rfl⟩ : ∃ m, k = m + 1 := ⟨k - 1, by omega⟩
      rw [step, if_pos rfl, e3, Option.bind_some, wi]
      exact l5 k (by omega)
    | false =>
      obtain ⟨z, p3, s3, e3, c1, c2, c3⟩ := pick_ok hC p2 s2 (2 * a + 3) (by omega) (by omega) (by omega)
      obtain ⟨a', L', W', p', s', l1, l2, l3, l4, l5⟩ := ih (i + 1) p3 s3 (wrap64 ((wrap64 ((wrap64 (left + z)) - a)) - 1)) (L ++ [left]) (W ++ [wrap64 (1 + y)]) (by omega) (by simp; omega) (by simp; omega) (by omega) (by omega)
      refine ⟨a', L', W', p', s', l1, l2, by omega, by omega, fun k hk => ?_⟩
      obtain ⟨k, rfl⟩ : ∃ m, k = m + 1 := ⟨k - 1, by omega⟩
      rw [step, if_neg (by decide), w3, e3, Option.bind_some, wi]
      exact l5 k (by omega)
theorem pile_draw {C : List Int} (hC : Bytes C) : ∃ a L W p s, L.length ≤ 10 ∧ W.length ≤ 30 ∧ 0 ≤ p ∧ p ≤ 1000 ∧ ∀ k, 100 < k → spec_l1Cur_pile.f k C 0 0 = some (a, L, W, p, s) := by
  obtain ⟨w, p1, s1, e1, a1, a2, a3⟩ := among_ok hC 0 0 [4, 6, 8, 3, 1, 2, 12, 24] (by omega) (by omega) (by simp)
  obtain ⟨n, p2, s2, e2, b1, b2, b3⟩ := among_ok hC p1 s1 [3, 2, 4, 1, 5, 8] (by omega) (by omega) (by simp)
  obtain ⟨f, p3, s3, e3, c1, c2⟩ := one_ok hC p2 s2 3 (by omega) (by omega) (by omega)
  have hw : 1 ≤ w ∧ w ≤ 24 := by simp at a3; omega
  have hn : 1 ≤ n ∧ n ≤ 8 := by simp at b3; omega
  have wd : wrap64 (wrap64 (Int.tdiv w 2) + 1) ≤ 200 := by
    rw [Int.tdiv_eq_ediv_of_nonneg (by omega), wrap_id (x := w / 2) (by omega) (by omega), wrap_id (by omega) (by omega)]
    omega
  obtain ⟨x, p4, s4, e4, d1, d2, d3⟩ := pick_ok hC p3 s3 _ (by omega) (by omega) wd
  obtain ⟨n, rfl⟩ : ∃ m : Nat, n = (m : Int) := ⟨n.toNat, by omega⟩
  obtain ⟨a', L', W', p', s', l1, l2, l3, l4, l5⟩ := pile_l0 hC n ⟨by omega, by omega⟩ (!f) w hw n 0 p4 s4 (wrap64 (wrap64 (-w) + x)) [] [] (by omega) rfl rfl (by omega) (by omega)
  refine ⟨a', L', W', p', s', l1, l2, by omega, by omega, fun k hk => ?_⟩
  unfold spec_l1Cur_pile.f
  rw [e1, Option.bind_some, e2, Option.bind_some, e3, Option.bind_some, e4, Option.bind_some]
  exact l5 k (by omega)
theorem rInts_refl : ∀ (s p : List Int) (k : Nat), (p ++ s).length ≤ 1000000 → s.length < k → laws_rInts.l0 k (p ++ s) (p ++ s) (p.length : Int) = some true := by
  intro s
  induction s with
  | nil =>
    intro p k hl hk
    obtain ⟨k, rfl⟩ : ∃ m, k = m + 1 := ⟨k - 1, by simp at hk; omega⟩
    simp only [laws_rInts.l0]
    rw [if_neg (by simp)]
  | cons x s ih =>
    intro p k hl hk
    obtain ⟨k, rfl⟩ : ∃ m, k = m + 1 := ⟨k - 1, by simp at hk; omega⟩
    simp only [laws_rInts.l0]
    rw [if_pos (by simp; omega), if_pos (by omega), if_pos (by simp; omega), if_pos trivial, snocI p x (by simp at hl; omega), List.append_cons p x s]
    exact ih (p ++ [x]) k (by simpa using hl) (by simp at hk; omega)
theorem rPile_refl (a : Int) (ls ws : List Int) (k : Nat) (h1 : ls.length ≤ 100000) (h2 : ws.length ≤ 100000) (hk : 200000 ≤ k) : laws_rPile.f k a ls ws a ls ws = some true := by
  have e1 : laws_rInts.f k ls ls = some true := by
    unfold laws_rInts.f
    rw [if_pos rfl]
    exact rInts_refl ls [] k (by simp; omega) (by omega)
  have e2 : laws_rInts.f k ws ws = some true := by
    unfold laws_rInts.f
    rw [if_pos rfl]
    exact rInts_refl ws [] k (by simp; omega) (by omega)
  unfold laws_rPile.f
  rw [if_pos rfl, e1, Option.bind_some, if_pos rfl, e2]
  rfl
theorem rd_map (f : Int → Int) : ∀ (ls : List Int) (n : Nat), n < ls.length → rd (ls.map f) (n : Int) = f (rd ls (n : Int)) := by
  intro ls n hn
  simp only [rd, Int.toNat_natCast]
  rw [List.getD_eq_getElem?_getD, List.getD_eq_getElem?_getD, List.getElem?_map, List.getElem?_eq_getElem hn]
  rfl
theorem US_shift (a d : Int) : ∀ s t : List Int, s.length = t.length → US a (s.map (fun x => x + d)) t = US a s t + d * (2 * UW t) := by
  intro s
  induction s with
  | nil =>
    intro t h
    cases t with
    | nil => simp [US, UW]
    | cons y t => simp at h
  | cons x s ih =>
    intro t h
    cases t with
    | nil => simp at h
    | cons y t =>
      simp only [List.map_cons, US, UW]
      rw [ih t (by simpa using h)]
      rw [show y * (2 * (x + d) + a) = y * (2 * x + a) + d * (2 * y) from by
        rw [show 2 * (x + d) + a = (2 * x + a) + 2 * d from by omega, Int.mul_add]
        congr 1
        rw [← Int.mul_assoc, ← Int.mul_assoc, Int.mul_comm y 2, Int.mul_comm d 2, Int.mul_assoc, Int.mul_assoc, Int.mul_comm y d]]
      have hd := Int.mul_add d (2 * y) (2 * UW t)
      rw [show 2 * (y + UW t) = 2 * y + 2 * UW t from by omega]
      omega
theorem mem_rd (ls : List Int) (n : Nat) (hn : n < ls.length) : rd ls (n : Int) ∈ ls := by
  simp only [rd, Int.toNat_natCast]
  rw [List.getD_eq_getElem?_getD, List.getElem?_eq_getElem hn]
  exact List.getElem_mem hn
theorem holds_shift {a : Int} {ls ws : List Int} (hs : ws.length = ls.length) (d : Int) (n : Nat) (h1 : 1 ≤ n) (hn : n < ls.length) : holdsB a (ls.map (fun x => x + d)) ws n = holdsB a ls ws n := by
  have r1 := rd_map (fun x => x + d) ls n hn
  have r2 := rd_map (fun x => x + d) ls (n - 1) (by omega)
  rw [show ((n - 1 : Nat) : Int) = (n : Int) - 1 from by omega] at r2
  have cl : cL (ls.map (fun x => x + d)) n = cL ls n + d := by
    unfold cL
    rw [if_neg (by omega), if_neg (by omega), r1, r2]
    unfold mx
    (repeat' split) <;> omega
  have ch : cH a (ls.map (fun x => x + d)) n = cH a ls n + d := by
    unfold cH
    rw [if_neg (by omega), if_neg (by omega), r1, r2]
    unfold mn
    (repeat' split) <;> omega
  have us : uS a (ls.map (fun x => x + d)) ws n = uS a ls ws n + d * (2 * uW ws n) := by
    unfold uS uW
    rw [← List.map_drop]
    exact US_shift a d _ _ (by simp [hs])
  unfold holdsB
  rw [cl, ch, us, Int.add_mul, Int.add_mul]
  generalize d * (2 * uW ws n) = D
  generalize cL ls n * (2 * uW ws n) = X
  generalize cH a ls n * (2 * uW ws n) = Y
  congr 1
  · exact decide_eq_decide.2 (by omega)
  · exact decide_eq_decide.2 (by omega)
theorem keptR_ok {a : Int} {ls ws : List Int} (h : (keptR a ls ws).2.2.2 = true) : POk a ls ws ∧ keptR a ls ws = (a, ls, ws, true) := by
  unfold keptR at h ⊢
  by_cases hp : pileB a ls ws = true
  · rw [if_pos hp]
    exact ⟨pileB_ok hp, rfl⟩
  · rw [if_neg hp] at h
    cases h
theorem bne_refl (b : Bool) : (b != b) = false := by cases b <;> rfl
theorem brick_draw {C : List Int} (hC : Bytes C) (p s a : Int) (L W : List Int) (h0 : 0 ≤ p) (h1 : p ≤ 1000000) (hL : L.length ≤ 100) : ∃ i p' s', spec_l1Cur_brick.f C p s a L W = some (i, p', s') := by
  unfold spec_l1Cur_brick.f
  obtain ⟨b, p1, s1, e1, a1, a2⟩ := one_ok hC p s 20 h0 (by omega) (by omega)
  rw [e1, Option.bind_some]
  cases b with
  | true =>
    obtain ⟨x, p2, s2, e2, b1, b2, b3⟩ := among_ok hC p1 s1 [(-1), (L.length : Int), 4611686018427387904] (by omega) (by omega) (by simp)
    rw [if_pos rfl, e2, Option.bind_some]
    exact ⟨_, _, _, rfl⟩
  | false =>
    have e : spec_l1Most.f (L.length : Int) 1 = some (mx (L.length : Int) 1) := by
      unfold spec_l1Most.f mx
      (repeat' split) <;> (first | rfl | omega | (congr 1; omega))
    obtain ⟨x, p2, s2, e2, b1, b2, b3⟩ := pick_ok hC p1 s1 (mx (L.length : Int) 1) (by omega) (by omega) (by unfold mx; split <;> omega)
    rw [if_neg Bool.false_ne_true, e, Option.bind_some, e2, Option.bind_some]
    exact ⟨_, _, _, rfl⟩
def firmB (a : Int) (ls ws : List Int) : Bool := pileB a ls ws && decide (looseN a ls ws ls.length < 0)
theorem firm_eq (a : Int) (ls ws : List Int) (k : Nat) (hk : 1000 ≤ k) : spec_StandsFirm.f k a ls ws = some (firmB a ls ws, pileB a ls ws) ∧ impl_StandsFirm.f k a ls ws = some (firmB a ls ws, pileB a ls ws) := by
  unfold firmB
  by_cases h : pileB a ls ws = true
  · have ok := pileB_ok h
    simp (disch := omega) only [spec_StandsFirm.f, impl_StandsFirm.f, l4Pile_eq, IsPile_eq, h, l4Loose_eq ok, highestLoose_eq ok, Option.bind_some, if_true, and_self, Bool.true_and]
  · rw [Bool.not_eq_true] at h
    simp (disch := omega) only [spec_StandsFirm.f, impl_StandsFirm.f, l4Pile_eq, IsPile_eq, h, Option.bind_some, if_false, and_self, Bool.false_eq_true, Bool.false_and]
def looseR (a : Int) (ls ws : List Int) : Int × Bool := if pileB a ls ws = true then (if looseN a ls ws ls.length < 0 then (0, false) else (looseN a ls ws ls.length, true)) else (0, false)
theorem loose_eq (a : Int) (ls ws : List Int) (k : Nat) (hk : 1000 ≤ k) : spec_HighestLoose.f k a ls ws = some (looseR a ls ws) ∧ impl_HighestLoose.f k a ls ws = some (looseR a ls ws) := by
  unfold looseR
  by_cases h : pileB a ls ws = true
  · have ok := pileB_ok h
    simp (disch := omega) only [spec_HighestLoose.f, impl_HighestLoose.f, l4Pile_eq, IsPile_eq, h, l4Loose_eq ok, highestLoose_eq ok, Option.bind_some, if_true, and_self]
    split <;> rfl
  · simp (disch := omega) only [spec_HighestLoose.f, impl_HighestLoose.f, l4Pile_eq, IsPile_eq, h, Option.bind_some, if_false, and_self, Bool.false_eq_true]
theorem over_eq (a : Int) (ls ws : List Int) (hb : ls.length + ws.length ≤ 1000) : ∃ x : Int, ∀ k, 3000 ≤ k → spec_OverhangOf.f k a ls ws = some (x, pileB a ls ws) ∧ impl_OverhangOf.f k a ls ws = some (x, pileB a ls ws) := by
  obtain ⟨r, hr⟩ := OverhangOf_both a ls ws (by omega)
  obtain ⟨h1, h2⟩ := hr 3000 (by omega)
  have e : r.2 = pileB a ls ws := by
    unfold spec_OverhangOf.f at h1
    rw [l4Pile_eq a ls ws _ (by omega), Option.bind_some] at h1
    by_cases h : pileB a ls ws = true
    · rw [if_pos h] at h1
      rw [h]
      revert h1
      generalize (3000 : Nat) = K
      have : ∀ (K : Nat) (i m : Int), spec_OverhangOf.l0 K i m a ls ws = some r → r.2 = true := by
        intro K
        induction K with
        | zero => intro i m h; simp [spec_OverhangOf.l0] at h
        | succ K ih =>
          intro i m h
          simp only [spec_OverhangOf.l0] at h
          split at h
          · split at h
            · cases hq : spec_l1Most.f i (wrap64 (rd ls m + a)) with
              | none => rw [hq] at h; cases h
              | some y => rw [hq, Option.bind_some] at h; exact ih _ _ h
            · cases h
          · cases h
            rfl
      exact this K _ _
    · rw [if_neg h] at h1
      cases h1
      rw [Bool.not_eq_true] at h
      exact h.symm
  refine ⟨r.1, fun k hk => ?_⟩
  rw [← e]
  exact hr k (by omega)
def mirR (a : Int) (ls ws : List Int) : Int × List Int × List Int × Bool := if pileB a ls ws = true then keptR a (ls.map (MirrorPile_mir (rd ls 0))) ws else (0, [], [], false)
theorem mirror_eq (a : Int) (ls ws : List Int) (hb : ls.length + ws.length ≤ 1000) (k : Nat) (hk : 3000 ≤ k) : spec_MirrorPile.f k a ls ws = some (mirR a ls ws) ∧ impl_MirrorPile.f k a ls ws = some (mirR a ls ws) := by
  unfold mirR
  by_cases h : pileB a ls ws = true
  · have e1 := MirrorPile_spec_l0 a (rd ls 0) ls ws (by omega) rfl ls [] k rfl (by omega)
    have e2 := MirrorPile_impl_l0 a (rd ls 0) ls ws (by omega) rfl ls [] k rfl (by omega)
    simp only [List.length_nil, List.map_nil, Int.natCast_zero] at e1 e2
    rw [if_pos h]
    simp (disch := omega) only [spec_MirrorPile.f, impl_MirrorPile.f, l4Pile_eq, IsPile_eq, h, l1Own_eq, Clone_eq, Option.bind_some, if_true]
    exact ⟨e1, e2⟩
  · simp (disch := omega) only [spec_MirrorPile.f, impl_MirrorPile.f, l4Pile_eq, IsPile_eq, h, Option.bind_some, if_false, and_self, Bool.false_eq_true]
def holdR (a : Int) (ls ws : List Int) (i : Int) : Bool × Bool := if brickB a ls ws i = true then (holdsB a ls ws i.toNat, true) else (false, false)
theorem hold_eq (a : Int) (ls ws : List Int) (i : Int) (k : Nat) (hk : 1000 ≤ k) : spec_HoldsBrick.f k a ls ws i = some (holdR a ls ws i) ∧ impl_HoldsBrick.f k a ls ws i = some (holdR a ls ws i) := by
  unfold holdR
  by_cases h : brickB a ls ws i = true
  · obtain ⟨ok, n, rfl, hn⟩ := brick_ok h
    rw [Int.toNat_natCast]
    simp (disch := omega) only [spec_HoldsBrick.f, impl_HoldsBrick.f, l4Brick_eq, isBrick_eq, h, l4Holds_eq ok n hn, Pile_holds_eq ok n hn, Option.bind_some, if_true, and_self]
  · simp (disch := omega) only [spec_HoldsBrick.f, impl_HoldsBrick.f, l4Brick_eq, isBrick_eq, h, Option.bind_some, if_false, and_self, Bool.false_eq_true]
theorem brick_of {a : Int} {ls ws : List Int} (ok : POk a ls ws) (n : Nat) (hn : n < ls.length) : brickB a ls ws (n : Int) = true := by
  unfold brickB
  rw [pileB_of ok, decide_eq_true (by omega)]
  rfl
theorem hold_at {a : Int} {ls ws : List Int} (ok : POk a ls ws) (n : Nat) (hn : n < ls.length) (k : Nat) (hk : 1000 ≤ k) : impl_HoldsBrick.f k a ls ws (n : Int) = some (holdsB a ls ws n, true) := by
  rw [(hold_eq a ls ws n k hk).2]
  unfold holdR
  rw [if_pos (brick_of ok n hn), Int.toNat_natCast]
def contR (a : Int) (ls ws : List Int) (i : Int) : Int × Int × Bool := if brickB a ls ws i = true then (if cL ls i.toNat > cH a ls i.toNat then (0, 0, false) else (cL ls i.toNat, cH a ls i.toNat, true)) else (0, 0, false)
theorem cont_eq (a : Int) (ls ws : List Int) (i : Int) (k : Nat) (hk : 1000 ≤ k) : spec_ContactOf.f k a ls ws i = some (contR a ls ws i) ∧ impl_ContactOf.f k a ls ws i = some (contR a ls ws i) := by
  unfold contR
  by_cases h : brickB a ls ws i = true
  · obtain ⟨ok, n, rfl, hn⟩ := brick_ok h
    rw [Int.toNat_natCast]
    simp (disch := omega) only [spec_ContactOf.f, impl_ContactOf.f, l4Brick_eq, isBrick_eq, h, l4Contact_eq ok n hn, Pile_contact_eq ok n hn, Option.bind_some, if_true, and_self]
    split <;> rfl
  · simp (disch := omega) only [spec_ContactOf.f, impl_ContactOf.f, l4Brick_eq, isBrick_eq, h, Option.bind_some, if_false, and_self, Bool.false_eq_true]
def centR (a : Int) (ls ws : List Int) (i : Int) : Int × Int × Bool := if brickB a ls ws i = true then ((cut (uS a ls ws i.toNat) (2 * uW ws i.toNat)).1, (cut (uS a ls ws i.toNat) (2 * uW ws i.toNat)).2, true) else (0, 0, false)
theorem cent_eq (a : Int) (ls ws : List Int) (i : Int) (k : Nat) (hk : 3000 ≤ k) : spec_UpperCentre.f k a ls ws i = some (centR a ls ws i) ∧ impl_UpperCentre.f k a ls ws i = some (centR a ls ws i) := by
  unfold centR
  by_cases h : brickB a ls ws i = true
  · obtain ⟨ok, n, rfl, hn⟩ := brick_ok h
    have b := u_bound ok n hn
    rw [Int.toNat_natCast]
    have c := l2Cut_eq k (uS a ls ws n) (2 * uW ws n) (by omega) (by omega) (by omega) (by omega)
    have w := wrap_id (x := 2 * uW ws n) (by omega) (by omega)
    simp (disch := omega) only [spec_UpperCentre.f, impl_UpperCentre.f, l4Brick_eq, isBrick_eq, h, l4Upper_eq ok n hn, Pile_centre_eq ok n hn, fraction_same, w, c, Option.bind_some, if_true, and_self]
  · simp (disch := omega) only [spec_UpperCentre.f, impl_UpperCentre.f, l4Brick_eq, isBrick_eq, h, Option.bind_some, if_false, and_self, Bool.false_eq_true]
def shiftR (a : Int) (ls ws : List Int) (d : Int) : Int × List Int × List Int × Bool := if pileB a ls ws = true then (if -99 ≤ d ∧ d ≤ 99 then keptR a (ls.map (fun x => wrap64 (x + d))) ws else (0, [], [], false)) else (0, [], [], false)
theorem shift_eq (a : Int) (ls ws : List Int) (d : Int) (hb : ls.length + ws.length ≤ 1000) (k : Nat) (hk : 3000 ≤ k) : spec_ShiftPile.f k a ls ws d = some (shiftR a ls ws d) ∧ impl_ShiftPile.f k a ls ws d = some (shiftR a ls ws d) := by
  unfold shiftR
  obtain ⟨k, rfl⟩ : ∃ m, k = m + 1 := ⟨k - 1, by omega⟩
  by_cases h : pileB a ls ws = true
  · by_cases hd : -99 ≤ d ∧ d ≤ 99
    · simp (disch := omega) only [spec_ShiftPile.f, impl_ShiftPile.f, spec_ShiftPile.j0, impl_ShiftPile.j0, l4Pile_eq, IsPile_eq, h, hd, l1In_eq, isLeft_eq, l4Moved_eq, Pile_moved_eq, l4Kept_eq, validPile_eq, Option.bind_some, if_true, and_self, decide_true, Bool.not_true, Bool.false_eq_true, if_false]
    · simp (disch := omega) only [spec_ShiftPile.f, impl_ShiftPile.f, spec_ShiftPile.j0, impl_ShiftPile.j0, l4Pile_eq, IsPile_eq, h, hd, l1In_eq, isLeft_eq, Option.bind_some, if_true, if_false, and_self, decide_false, Bool.not_false]
  · simp (disch := omega) only [spec_ShiftPile.f, impl_ShiftPile.f, spec_ShiftPile.j0, impl_ShiftPile.j0, l4Pile_eq, IsPile_eq, h, Option.bind_some, if_false, and_self, Bool.false_eq_true, if_true]
theorem US_mirror (a z : Int) : ∀ s t : List Int, s.length = t.length → US a (s.map (fun x => 2 * z - x)) t = (2 * z + a) * (2 * UW t) - US a s t := by
  intro s
  induction s with
  | nil =>
    intro t h
    cases t with
    | nil => simp [US, UW]
    | cons y t => simp at h
  | cons x s ih =>
    intro t h
    cases t with
    | nil => simp at h
    | cons y t =>
      simp only [List.map_cons, US, UW]
      rw [ih t (by simpa using h)]
      rw [show y * (2 * (2 * z - x) + a) = (2 * z + a) * (2 * y) - y * (2 * x + a) from by
        rw [show 2 * (2 * z - x) + a = 2 * (2 * z + a) - (2 * x + a) from by omega, Int.mul_sub]
        congr 1
        rw [Int.mul_comm y, Int.mul_assoc, Int.mul_comm 2, Int.mul_assoc, Int.mul_comm y 2]]
      have hd := Int.mul_add (2 * z + a) (2 * y) (2 * UW t)
      rw [show 2 * (y + UW t) = 2 * y + 2 * UW t from by omega]
      omega
theorem lefts {a : Int} {ls ws : List Int} (ok : POk a ls ws) : ∀ x ∈ ls, -99 ≤ x ∧ x ≤ 99 := OverhangOf_allP_mem ls ws ok.same.symm ok.all
theorem holds_mirror {a : Int} {ls ws : List Int} (hs : ws.length = ls.length) (z : Int) (n : Nat) (h1 : 1 ≤ n) (hn : n < ls.length) : holdsB a (ls.map (fun x => 2 * z - x)) ws n = holdsB a ls ws n := by
  have r1 := rd_map (fun x => 2 * z - x) ls n hn
  have r2 := rd_map (fun x => 2 * z - x) ls (n - 1) (by omega)
  rw [show ((n - 1 : Nat) : Int) = (n : Int) - 1 from by omega] at r2
  have cl : cL (ls.map (fun x => 2 * z - x)) n = (2 * z + a) - cH a ls n := by
    unfold cL cH
    rw [if_neg (by omega), if_neg (by omega), r1, r2]
    unfold mx mn
    (repeat' split) <;> omega
  have ch : cH a (ls.map (fun x => 2 * z - x)) n = (2 * z + a) - cL ls n := by
    unfold cL cH
    rw [if_neg (by omega), if_neg (by omega), r1, r2]
    unfold mx mn
    (repeat' split) <;> omega
  have us : uS a (ls.map (fun x => 2 * z - x)) ws n = (2 * z + a) * (2 * uW ws n) - uS a ls ws n := by
    unfold uS uW
    rw [← List.map_drop]
    exact US_mirror a z _ _ (by simp [hs])
  unfold holdsB
  rw [cl, ch, us, Int.sub_mul, Int.sub_mul]
  generalize (2 * z + a) * (2 * uW ws n) = D
  generalize cL ls n * (2 * uW ws n) = X
  generalize cH a ls n * (2 * uW ws n) = Y
  rw [Bool.and_comm]
  congr 1
  · exact decide_eq_decide.2 (by omega)
  · exact decide_eq_decide.2 (by omega)
def Alike (a : Int) (ls ws : List Int) (b : Int) (ms vs : List Int) : Prop := POk a ls ws ∧ POk b ms vs ∧ ms.length = ls.length ∧ ∀ n : Nat, 1 ≤ n → n < ls.length → holdsB a ls ws n = holdsB b ms vs n
theorem shift_alike {a : Int} {ls ws : List Int} {d : Int} (h : (shiftR a ls ws d).2.2.2 = true) : Alike a ls ws (shiftR a ls ws d).1 (shiftR a ls ws d).2.1 (shiftR a ls ws d).2.2.1 := by
  unfold shiftR at h ⊢
  by_cases hp : pileB a ls ws = true
  · rw [if_pos hp] at h ⊢
    have ok := pileB_ok hp
    by_cases hd : -99 ≤ d ∧ d ≤ 99
    · rw [if_pos hd] at h ⊢
      have hl := lefts ok
      have e : ls.map (fun x => wrap64 (x + d)) = ls.map (fun x => x + d) := List.map_congr_left (fun x hx => wrap_id (by have := hl x hx; omega) (by have := hl x hx; omega))
      rw [e] at h ⊢
      obtain ⟨o2, e2⟩ := keptR_ok h
      rw [e2]
      exact ⟨ok, o2, by simp, fun n h1 hn => (holds_shift ok.same d n h1 hn).symm⟩
    · rw [if_neg hd] at h
      cases h
  · rw [if_neg hp] at h
    cases h
theorem mirror_alike {a : Int} {ls ws : List Int} (h : (mirR a ls ws).2.2.2 = true) : Alike a ls ws (mirR a ls ws).1 (mirR a ls ws).2.1 (mirR a ls ws).2.2.1 := by
  unfold mirR at h ⊢
  by_cases hp : pileB a ls ws = true
  · rw [if_pos hp] at h ⊢
    have ok := pileB_ok hp
    have hl := lefts ok
    have o1 := ok.len
    have hz := hl _ (mem_rd ls 0 (by omega))
    simp only [Int.natCast_zero] at hz
    have e : ls.map (MirrorPile_mir (rd ls 0)) = ls.map (fun x => 2 * rd ls 0 - x) := List.map_congr_left (fun x hx => by
      have := hl x hx
      unfold MirrorPile_mir
      rw [wrap_id (x := 2 * rd ls 0) (by omega) (by omega), wrap_id (by omega) (by omega)])
    rw [e] at h ⊢
    obtain ⟨o2, e2⟩ := keptR_ok h
    rw [e2]
    exact ⟨ok, o2, by simp, fun n h1 hn => (holds_mirror ok.same (rd ls 0) n h1 hn).symm⟩
  · rw [if_neg hp] at h
    cases h
theorem l2_ok {a : Int} {ls ws : List Int} (ok : POk a ls ws) : ∀ (d i K : Nat), i + d = ls.length → d + 2000 < K →
    laws_FnPiles.l2 K (firmB a ls ws) (looseR a ls ws).1 (looseN a ls ws i) (i : Int) a ls ws = some true := by
  have o1 := ok.len
  have hp := pileB_of ok
  intro d
  induction d with
  | zero =>
    intro i K hi hK
    obtain ⟨K, rfl⟩ : ∃ m, K = m + 1 := ⟨K - 1, by omega⟩
    have e : i = ls.length := by omega
    subst e
    simp only [laws_FnPiles.l2]
    rw [if_neg (by omega)]
    unfold firmB looseR
    rw [hp]
    by_cases c : looseN a ls ws ls.length < 0
    · rw [decide_eq_true c]
      rfl
    · rw [decide_eq_false c, if_pos rfl, if_neg c]
      simp
  | succ d ih =>
    intro i K hi hK
    obtain ⟨K, rfl⟩ : ∃ m, K = m + 1 := ⟨K - 1, by omega⟩
    have e := ih (i + 1) K (by omega) (by omega)
    have wi : wrap64 ((i : Int) + 1) = ((i + 1 : Nat) : Int) := by rw [wrap_id (by omega) (by omega)]; omega
    simp only [laws_FnPiles.l2]
    rw [if_pos (by omega), hold_at ok i (by omega) K (by omega), Option.bind_some, if_pos rfl, wi]
    simp only [looseN] at e
    by_cases c : holdsB a ls ws i = true
    · rw [if_pos c] at e ⊢
      exact e
    · rw [if_neg c] at e ⊢
      exact e
theorem j6_ok (a : Int) (ls ws : List Int) (K : Nat) (hK : 3000 < K) (hb : ls.length ≤ 100) : laws_FnPiles.j6 K (firmB a ls ws) (pileB a ls ws) (looseR a ls ws).1 a ls ws = some true := by
  obtain ⟨K, rfl⟩ : ∃ m, K = m + 1 := ⟨K - 1, by omega⟩
  simp only [laws_FnPiles.j6]
  by_cases h : pileB a ls ws = true
  · rw [if_pos h]
    exact l2_ok (pileB_ok h) ls.length 0 K (by omega) (by omega)
  · rw [if_neg h]
theorem l1_ok {a : Int} {ls ws : List Int} {b : Int} {ms vs : List Int} (al : Alike a ls ws b ms vs) : ∀ (d i K : Nat), i + d = ls.length → 1 ≤ i → d + 4000 < K →
    laws_FnPiles.l1 K (firmB a ls ws) (pileB a ls ws) (looseR a ls ws).1 (i : Int) a ls ws b ms vs = some true := by
  obtain ⟨ok, ok2, hl, hh⟩ := al
  have o1 := ok.len
  intro d
  induction d with
  | zero =>
    intro i K hi h1 hK
    obtain ⟨K, rfl⟩ : ∃ m, K = m + 1 := ⟨K - 1, by omega⟩
    simp only [laws_FnPiles.l1]
    rw [if_neg (by omega)]
    exact j6_ok a ls ws K (by omega) (by omega)
  | succ d ih =>
    intro i K hi h1 hK
    obtain ⟨K, rfl⟩ : ∃ m, K = m + 1 := ⟨K - 1, by omega⟩
    have e := ih (i + 1) K (by omega) (by omega) (by omega)
    have wi : wrap64 ((i : Int) + 1) = ((i + 1 : Nat) : Int) := by rw [wrap_id (by omega) (by omega)]; omega
    simp only [laws_FnPiles.l1]
    rw [if_pos (by omega), hold_at ok i (by omega) K (by omega), Option.bind_some, hold_at ok2 i (by omega) K (by omega), Option.bind_some, if_pos rfl, if_pos rfl, hh i h1 (by omega), bne_refl, if_neg (by decide), wi]
    exact e
theorem j4_ok (a : Int) (ls ws : List Int) (three : Bool) (b : Int) (ms vs : List Int) (hb : ls.length ≤ 100) (al : three = true → Alike a ls ws b ms vs) (K : Nat) (hK : 6000 < K) : laws_FnPiles.j4 K (firmB a ls ws) (pileB a ls ws) (looseR a ls ws).1 three a ls ws b ms vs = some true := by
  obtain ⟨K, rfl⟩ : ∃ m, K = m + 1 := ⟨K - 1, by omega⟩
  simp only [laws_FnPiles.j4]
  by_cases h : three = true
  · have o1 := (al h).1.len
    rw [if_pos h]
    exact l1_ok (al h) (ls.length - 1) 1 K (by omega) (by omega) (by omega)
  · rw [if_neg h]
    exact j6_ok a ls ws K (by omega) hb
theorem l0_ok {a : Int} {ls ws : List Int} {b : Int} {ms vs : List Int} (x : Int) (xs ys : List Int) (three : Bool) (c : Int) (ns us : List Int) (hb : xs.length ≤ 100) (al3 : three = true → Alike x xs ys c ns us) (al : Alike a ls ws b ms vs) : ∀ (d i K : Nat), i + d = ls.length → 1 ≤ i → d + 8000 < K →
    laws_FnPiles.l0 K (firmB x xs ys) (pileB x xs ys) (looseR x xs ys).1 three (i : Int) x xs ys c ns us a ls ws b ms vs = some true := by
  obtain ⟨ok, ok2, hl, hh⟩ := al
  have o1 := ok.len
  intro d
  induction d with
  | zero =>
    intro i K hi h1 hK
    obtain ⟨K, rfl⟩ : ∃ m, K = m + 1 := ⟨K - 1, by omega⟩
    simp only [laws_FnPiles.l0]
    rw [if_neg (by omega)]
    exact j4_ok x xs ys three c ns us hb al3 K (by omega)
  | succ d ih =>
    intro i K hi h1 hK
    obtain ⟨K, rfl⟩ : ∃ m, K = m + 1 := ⟨K - 1, by omega⟩
    have e := ih (i + 1) K (by omega) (by omega) (by omega)
    have wi : wrap64 ((i : Int) + 1) = ((i + 1 : Nat) : Int) := by rw [wrap_id (by omega) (by omega)]; omega
    simp only [laws_FnPiles.l0]
    rw [if_pos (by omega), hold_at ok i (by omega) K (by omega), Option.bind_some, hold_at ok2 i (by omega) K (by omega), Option.bind_some, if_pos rfl, if_pos rfl, hh i h1 (by omega), bne_refl, if_neg (by decide), wi]
    exact e
theorem cut_div {x y : Int} (hy : 0 < y) : ∃ g : Int, 0 < g ∧ (cut x y).1 * g = x ∧ (cut x y).2 * g = y :=
  ⟨gd x y, gd_pos hy, Int.ediv_mul_cancel (gd_dvd x y).1, Int.ediv_mul_cancel (gd_dvd x y).2⟩
theorem le_scale {x y g : Int} (hg : 0 < g) : x * g ≤ y * g ↔ x ≤ y := ⟨fun h => Int.le_of_mul_le_mul_right h hg, fun h => Int.mul_le_mul_of_nonneg_right h (Int.le_of_lt hg)⟩
theorem told {a : Int} {ls ws : List Int} (ok : POk a ls ws) (n : Nat) (hn : n < ls.length) :
    (if (cut (uS a ls ws n) (2 * uW ws n)).1 ≥ wrap64 (cL ls n * (cut (uS a ls ws n) (2 * uW ws n)).2) then (holdsB a ls ws n != decide ((cut (uS a ls ws n) (2 * uW ws n)).1 ≤ wrap64 (cH a ls n * (cut (uS a ls ws n) (2 * uW ws n)).2))) else (holdsB a ls ws n != false)) = false := by
  have b := u_bound ok n hn
  have cb := c_bound ok n hn
  obtain ⟨g, g0, e1, e2⟩ := cut_div (x := uS a ls ws n) (y := 2 * uW ws n) (by omega)
  have ca := cut_abs (a := uS a ls ws n) (b := 2 * uW ws n) (by omega)
  generalize (cut (uS a ls ws n) (2 * uW ws n)).1 = c0 at *
  generalize (cut (uS a ls ws n) (2 * uW ws n)).2 = c1 at *
  have m : ∀ c : Int, -99 ≤ c ∧ c ≤ 123 → wrap64 (c * c1) = c * c1 := fun c hc => by
    have h1 : c * c1 ≤ 123 * c1 := Int.mul_le_mul_of_nonneg_right hc.2 (by omega)
    have h2 : -99 * c1 ≤ c * c1 := Int.mul_le_mul_of_nonneg_right hc.1 (by omega)
    exact wrap_id (by omega) (by omega)
  rw [m _ ⟨by omega, by omega⟩, m _ ⟨by omega, by omega⟩]
  have h1 : cL ls n * (2 * uW ws n) ≤ uS a ls ws n ↔ cL ls n * c1 ≤ c0 := by
    rw [← e1, ← e2, ← Int.mul_assoc]
    exact le_scale g0
  have h2 : uS a ls ws n ≤ cH a ls n * (2 * uW ws n) ↔ c0 ≤ cH a ls n * c1 := by
    rw [← e1, ← e2, ← Int.mul_assoc]
    exact le_scale g0
  unfold holdsB
  by_cases x1 : cL ls n * c1 ≤ c0
  · rw [if_pos x1, decide_eq_true (h1.2 x1), Bool.true_and]
    by_cases x2 : c0 ≤ cH a ls n * c1
    · rw [decide_eq_true x2, decide_eq_true (h2.2 x2)]
      rfl
    · rw [decide_eq_false x2, decide_eq_false (fun h => x2 (h2.1 h))]
      rfl
  · rw [if_neg x1, decide_eq_false (fun h => x1 (h1.1 h))]
    rfl
theorem holds_contact {a : Int} {ls ws : List Int} (ok : POk a ls ws) (n : Nat) (hn : n < ls.length) (h : holdsB a ls ws n = true) : ¬ cL ls n > cH a ls n := by
  have b := u_bound ok n hn
  unfold holdsB at h
  simp only [Bool.and_eq_true, decide_eq_true_eq] at h
  have h2 := Int.le_trans h.1 h.2
  have := (le_scale (show 0 < 2 * uW ws n by omega)).1 h2
  omega
theorem FnPiles : laws_FnPiles.Pure := by
  intro C hC1 _ hC3
  have hC := bytes_of hC3
  by_cases big : (C.length : Int) > 65536
  · refine ⟨0, ?_⟩
    unfold laws_FnPiles.f laws_rBig.f
    rw [Option.bind_some, decide_eq_true big, if_pos rfl]
  · obtain ⟨a, L, W, p, s, l1, l2, p0, p1, hd⟩ := pile_draw hC
    obtain ⟨i, p', s', hbk⟩ := brick_draw hC p s a L W p0 (by omega) (by omega)
    obtain ⟨dd, p2, s2, hsh, _, _, _⟩ := among_ok hC p s [1, (-1), 3, (-5), 40, 99, (-99), 100, 0] p0 (by omega) (by simp)
    obtain ⟨x, hov⟩ := over_eq a L W (by omega)
    have hkl := keptR_len a (L.map (MirrorPile_mir (rd L 0))) W
    have ml : (mirR a L W).2.1.length ≤ 100 ∧ (mirR a L W).2.2.1.length ≤ 100 := by
      unfold mirR
      split
      · exact hkl
      · simp
    have hks := keptR_len a (L.map (fun x => wrap64 (x + dd))) W
    have sl : (shiftR a L W dd).2.1.length ≤ 100 ∧ (shiftR a L W dd).2.2.1.length ≤ 100 := by
      unfold shiftR
      split
      · split
        · exact hks
        · simp
      · simp
    refine ⟨300003, ?_⟩
    have d1 : ∀ k, 100 < k → spec_DrawIsPile.f k C = some (a, L, W) := fun k hk => by
      unfold spec_DrawIsPile.f
      rw [hd k hk, Option.bind_some]
    have d2 : ∀ k, 100 < k → spec_DrawStandsFirm.f k C = some (a, L, W) := fun k hk => by
      unfold spec_DrawStandsFirm.f
      rw [d1 k hk, Option.bind_some]
    have d3 : ∀ k, 100 < k → spec_DrawHoldsBrick.f k C = some (a, L, W, i) := fun k hk => by
      unfold spec_DrawHoldsBrick.f spec_DrawContactOf.f
      rw [hd k hk, Option.bind_some, hbk, Option.bind_some, Option.bind_some]
    have d4 : ∀ k, 100 < k → spec_DrawShiftPile.f k C = some (a, L, W, dd) := fun k hk => by
      unfold spec_DrawShiftPile.f
      rw [hd k hk, Option.bind_some, hsh, Option.bind_some]
    have J2 : ∀ K, 250000 < K → laws_FnPiles.j2 K C (firmB a L W) (pileB a L W) (looseR a L W).1 (mirR a L W).2.2.2 false a L W (mirR a L W).1 (mirR a L W).2.1 (mirR a L W).2.2.1 = some true := by
      intro K hK
      obtain ⟨K, rfl⟩ : ∃ m, K = m + 1 := ⟨K - 1, by omega⟩
      simp only [laws_FnPiles.j2]
      rw [if_neg (by decide), d4 K (by omega), Option.bind_some, (shift_eq a L W dd (by omega) K (by omega)).2, Option.bind_some, (shift_eq a L W dd (by omega) K (by omega)).1, Option.bind_some, bne_refl, if_neg (by decide), rPile_refl _ _ _ K (by omega) (by omega) (by omega), Option.bind_some, if_pos rfl]
      by_cases h7 : (shiftR a L W dd).2.2.2 = true
      · have al := shift_alike h7
        have o1 := al.1.len
        rw [if_pos h7]
        exact l0_ok a L W (mirR a L W).2.2.2 (mirR a L W).1 (mirR a L W).2.1 (mirR a L W).2.2.1 (by omega) (fun h => mirror_alike h) al (L.length - 1) 1 K (by omega) (by omega) (by omega)
      · rw [if_neg h7]
        exact j4_ok a L W _ _ _ _ (by omega) (fun h => mirror_alike h) K (by omega)
    have J1 : ∀ K, 250002 < K → laws_FnPiles.j1 K C (firmB a L W) (pileB a L W) (looseR a L W).1 (mirR a L W).2.2.2 i (holdR a L W i).1 (holdR a L W i).2 (contR a L W i).1 (contR a L W i).2.1 (contR a L W i).2.2 false a L W (mirR a L W).1 (mirR a L W).2.1 (mirR a L W).2.2.1 a L W = some true := by
      intro K hK
      obtain ⟨K, rfl⟩ : ∃ m, K = m + 1 := ⟨K - 1, by omega⟩
      simp only [laws_FnPiles.j1]
      rw [if_neg (by decide), (cent_eq a L W i K (by omega)).2, Option.bind_some, (cent_eq a L W i K (by omega)).1, Option.bind_some, if_pos rfl, if_pos rfl, bne_refl, if_neg (by decide)]
      by_cases hbr : brickB a L W i = true
      · obtain ⟨ok, n, rfl, hn⟩ := brick_ok hbr
        have e1 : holdR a L W (n : Int) = (holdsB a L W n, true) := by unfold holdR; rw [if_pos hbr, Int.toNat_natCast]
        have e2 : centR a L W (n : Int) = ((cut (uS a L W n) (2 * uW W n)).1, (cut (uS a L W n) (2 * uW W n)).2, true) := by unfold centR; rw [if_pos hbr, Int.toNat_natCast]
        rw [e1, e2]
        simp only
        rw [bne_refl, if_neg (by decide)]
        by_cases hc : cL L n > cH a L n
        · have e3 : contR a L W (n : Int) = (0, 0, false) := by unfold contR; rw [if_pos hbr, Int.toNat_natCast, if_pos hc]
          rw [e3]
          simp only
          rw [if_neg (by decide)]
          exact J2 K (by omega)
        · have e3 : contR a L W (n : Int) = (cL L n, cH a L n, true) := by unfold contR; rw [if_pos hbr, Int.toNat_natCast, if_neg hc]
          rw [e3]
          simp only [if_true]
          have td := told ok n hn
          by_cases hge : (cut (uS a L W n) (2 * uW W n)).1 ≥ wrap64 (cL L n * (cut (uS a L W n) (2 * uW W n)).2)
          · rw [if_pos hge] at td ⊢
            rw [td]
            exact J2 K (by omega)
          · rw [if_neg hge] at td ⊢
            rw [td]
            exact J2 K (by omega)
      · have e1 : holdR a L W i = (false, false) := by unfold holdR; rw [if_neg hbr]
        have e2 : centR a L W i = (0, 0, false) := by unfold centR; rw [if_neg hbr]
        have e3 : contR a L W i = (0, 0, false) := by unfold contR; rw [if_neg hbr]
        rw [e1, e2, e3]
        simp only
        rw [bne_refl, if_neg (by decide), if_neg (by decide)]
        exact J2 K (by omega)
    have J0 : laws_FnPiles.j0 300003 C (firmB a L W) (pileB a L W) (looseR a L W).1 false a L W = some true := by
      simp only [laws_FnPiles.j0]
      rw [if_neg (by decide), (hov 300002 (by omega)).2, Option.bind_some, (hov 300002 (by omega)).1, Option.bind_some, if_pos rfl, bne_refl, if_neg (by decide), if_neg (by decide)]
      rw [(mirror_eq a L W (by omega) 300002 (by omega)).2, Option.bind_some, (mirror_eq a L W (by omega) 300002 (by omega)).1, Option.bind_some, bne_refl, if_neg (by decide), rPile_refl _ _ _ 300002 (by omega) (by omega) (by omega), Option.bind_some, if_pos rfl]
      rw [d3 300002 (by omega), Option.bind_some, (hold_eq a L W i 300002 (by omega)).2, Option.bind_some, (hold_eq a L W i 300002 (by omega)).1, Option.bind_some, bne_refl, if_neg (by decide), bne_refl, if_neg (by decide)]
      rw [(cont_eq a L W i 300002 (by omega)).2, Option.bind_some, (cont_eq a L W i 300002 (by omega)).1, Option.bind_some, if_pos rfl, if_pos rfl, bne_refl, if_neg (by decide)]
      have J := J1 300002 (by omega)
      by_cases hh : (holdR a L W i).1 = true
      · have five : (contR a L W i).2.2 = true := by
          unfold holdR at hh
          by_cases hbr : brickB a L W i = true
          · obtain ⟨ok, n, rfl, hn⟩ := brick_ok hbr
            rw [if_pos hbr, Int.toNat_natCast] at hh
            unfold contR
            rw [if_pos hbr, Int.toNat_natCast, if_neg (holds_contact ok n hn hh)]
          · rw [if_neg hbr] at hh
            cases hh
        rw [if_pos hh, show (!(contR a L W i).2.2) = false from by rw [five]; rfl]
        exact J
      · rw [if_neg hh]
        exact J
    unfold laws_FnPiles.f laws_rBig.f
    rw [Option.bind_some, decide_eq_false big, if_neg (by decide), d2 300003 (by omega), Option.bind_some, (firm_eq a L W 300003 (by omega)).2, Option.bind_some, (firm_eq a L W 300003 (by omega)).1, Option.bind_some, bne_refl, if_neg (by decide), bne_refl, if_neg (by decide), IsPile_eq a L W 300003 (by omega), Option.bind_some, bne_refl, if_neg (by decide)]
    rw [(loose_eq a L W 300003 (by omega)).2, Option.bind_some, (loose_eq a L W 300003 (by omega)).1, Option.bind_some, if_pos rfl, bne_refl, if_neg (by decide)]
    by_cases h : pileB a L W = true
    · rw [if_pos h]
      have e : ((looseR a L W).2 != (!(firmB a L W))) = false := by
        unfold looseR firmB
        rw [h, if_pos rfl]
        by_cases c : looseN a L W L.length < 0
        · rw [if_pos c, decide_eq_true c]
          rfl
        · rw [if_neg c, decide_eq_false c]
          rfl
      rw [e]
      exact J0
    · rw [if_neg h]
      have e : ((looseR a L W).2 != false) = false := by
        unfold looseR
        rw [if_neg h]
        rfl
      rw [e]
      exact J0
end Go.Proofs.Ytnnpfekgapikfaa.Pure

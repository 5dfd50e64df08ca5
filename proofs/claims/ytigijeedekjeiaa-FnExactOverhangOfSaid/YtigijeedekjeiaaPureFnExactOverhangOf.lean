/- The pure statement of the law FnExactOverhangOf: what the law computes, as a function over numbers and lists, answers true for every input. No conditions beyond the ranges of Go's int. -/
import Derived.Test.YtigijeedekjeiaaPFnExactOverhangOfx3
set_option linter.unusedVariables false
set_option linter.unusedSimpArgs false
namespace Go.Proofs.Ytigijeedekjeiaa.Pure
open Go.RowKit Go.Proofs.YtigijeedekjeiaaW.PrintWords Go.Proofs.YtigijeedekjeiaaW.PrintLast Go.Proofs.Ytigijeedekjeiaa.PFnExactOverhangOf

theorem wrap_id {x : Int} (h0 : -9223372036854775808 ≤ x) (h1 : x ≤ 9223372036854775807) : wrap64 x = x := by
  unfold wrap64
  omega
theorem wf64 {x : Int} (h : (Lit.int .i64 x).wf = true) : -9223372036854775808 ≤ x ∧ x ≤ 9223372036854775807 := by
  simp [Lit.wf, IntKind.min, IntKind.max, IntKind.signed, IntKind.bits] at h
  omega
theorem l1In_eq (a b c : Int) : spec_l1In.f a b c = some (decide (b ≤ a ∧ a ≤ c)) := by
  unfold spec_l1In.f
  split <;> simp_all
  omega
theorem within_eq (a b c : Int) : impl_within.f a b c = some (decide (b ≤ a ∧ a ≤ c)) := by
  unfold impl_within.f
  split <;> simp_all
  omega
theorem snocI {α : Type} (p : List α) (x : α) (h : p.length < 9223372036854775807) : wrap64 ((p.length : Int) + 1) = ((p ++ [x]).length : Int) := by
  rw [wrap_id (by omega) (by omega)]
  simp
theorem sz_id (n : Nat) (h : n ≤ 9223372036854775807) : wrap64 (1048576 - (n : Int)) = 1048576 - (n : Int) := wrap_id (by omega) (by omega)
theorem set_rep {α : Type} (q : List α) (z y : α) (n : Nat) : (q ++ List.replicate (n + 1) z).set q.length y = (q ++ [y]) ++ List.replicate n z := by
  rw [List.set_append_right _ _ (Nat.le_refl _), Nat.sub_self]
  simp [List.replicate_succ]
theorem rdI (p s : List Int) (x : Int) : rd (p ++ x :: s) ((p.length : Int)) = x := by
  simp [rd]
theorem eqIntS_l0 : ∀ (s p : List Int) (k : Nat), (p ++ s).length < 4611686018427387904 → s.length < k → laws_eqIntS.l0 k (p ++ s) (p ++ s) (p.length : Int) = some true := by
  intro s
  induction s with
  | nil =>
    intro p k hl hk
    obtain ⟨k, rfl⟩ : ∃ m, k = m + 1 := ⟨k - 1, by simp at hk; omega⟩
    simp only [laws_eqIntS.l0]
    rw [if_neg (by simp)]
  | cons x s ih =>
    intro p k hl hk
    obtain ⟨k, rfl⟩ : ∃ m, k = m + 1 := ⟨k - 1, by simp at hk; omega⟩
    simp only [laws_eqIntS.l0]
    rw [if_pos (by simp; omega), if_pos (by omega), if_pos (by simp; omega), if_pos trivial, snocI p x (by simp at hl; omega)]
    have e := ih (p ++ [x]) k (by simpa using hl) (by simp at hk; omega)
    rw [List.append_assoc] at e
    exact e
theorem eqIntS_refl (l : List Int) (k : Nat) (hl : l.length < 4611686018427387904) (hk : l.length < k) : laws_eqIntS.f k l l = some true := by
  unfold laws_eqIntS.f
  rw [if_pos rfl]
  exact eqIntS_l0 l [] k (by simpa using hl) hk
def okP (l w : Int) : Bool := decide (-99 ≤ l ∧ l ≤ 99) && decide (1 ≤ w ∧ w ≤ 99)
def allP : List Int → List Int → Bool
  | l :: ls, w :: ws => okP l w && allP ls ws
  | _, _ => true
def pileB (a : Int) (ls ws : List Int) : Bool := decide (1 ≤ a ∧ a ≤ 24) && (decide (1 ≤ (ls.length : Int) ∧ (ls.length : Int) ≤ 8) && (decide (ws.length = ls.length) && allP ls ws))
theorem isLeft_eq (a : Int) : impl_isLeft.f a = some (decide (-99 ≤ a ∧ a ≤ 99)) := by simp only [impl_isLeft.f, within_eq, Option.bind_some]
theorem isWeight_eq (a : Int) : impl_isWeight.f a = some (decide (1 ≤ a ∧ a ≤ 99)) := by simp only [impl_isWeight.f, within_eq, Option.bind_some]
theorem isWide_eq (a : Int) : impl_isWide.f a = some (decide (1 ≤ a ∧ a ≤ 24)) := by simp only [impl_isWide.f, within_eq, Option.bind_some]
theorem l4Pile_l0 (a : Int) : ∀ (s t p q : List Int) (k : Nat), p.length = q.length → s.length = t.length → (p ++ s).length < 4611686018427387904 → s.length < k →
    spec_l4Pile.l0 k ((p ++ s).length : Int) (p.length : Int) a (p ++ s) (q ++ t) = some (allP s t) := by
  intro s
  induction s with
  | nil =>
    intro t p q k hpq hst hl hk
    obtain ⟨k, rfl⟩ : ∃ m, k = m + 1 := ⟨k - 1, by simp at hk; omega⟩
    simp only [spec_l4Pile.l0]
    rw [if_neg (by simp)]
    simp [allP]
  | cons x s ih =>
    intro t p q k hpq hst hl hk
    obtain ⟨k, rfl⟩ : ∃ m, k = m + 1 := ⟨k - 1, by simp at hk; omega⟩
    cases t with
    | nil => simp at hst
    | cons y t =>
      have e : rd (q ++ y :: t) (p.length : Int) = y := by rw [hpq]; exact rdI q t y
      simp only [spec_l4Pile.l0]
      rw [if_pos (by simp; omega), if_pos (by omega), if_pos (by simp; omega), if_pos (by rw [hpq]; simp; omega), rdI, e, l1In_eq, Option.bind_some, l1In_eq, Option.bind_some, snocI p x (by simp at hl; omega), List.append_cons p x s, List.append_cons q y t]
      rw [ih t (p ++ [x]) (q ++ [y]) k (by simp [hpq]) (by simpa using hst) (by simpa using hl) (by simp at hk; omega)]
      simp only [allP, okP]
      by_cases h1 : -99 ≤ x ∧ x ≤ 99 <;> by_cases h2 : 1 ≤ y ∧ y ≤ 99 <;> simp [h1, h2]
theorem IsPile_l0 (a : Int) : ∀ (s t p q : List Int) (k : Nat), p.length = q.length → s.length = t.length → (p ++ s).length < 4611686018427387904 → s.length < k →
    impl_IsPile.l0 k (p ++ s) ((p ++ s).length : Int) (p.length : Int) a (p ++ s) (q ++ t) = some (allP s t) := by
  intro s
  induction s with
  | nil =>
    intro t p q k hpq hst hl hk
    obtain ⟨k, rfl⟩ : ∃ m, k = m + 1 := ⟨k - 1, by simp at hk; omega⟩
    simp only [impl_IsPile.l0]
    rw [if_neg (by simp)]
    simp [allP]
  | cons x s ih =>
    intro t p q k hpq hst hl hk
    obtain ⟨k, rfl⟩ : ∃ m, k = m + 1 := ⟨k - 1, by simp at hk; omega⟩
    cases t with
    | nil => simp at hst
    | cons y t =>
      have e : rd (q ++ y :: t) (p.length : Int) = y := by rw [hpq]; exact rdI q t y
      simp only [impl_IsPile.l0]
      rw [if_pos (by simp; omega), if_pos (by omega), if_pos (by simp; omega), if_pos (by rw [hpq]; simp; omega), rdI, e, isLeft_eq, Option.bind_some, isWeight_eq, Option.bind_some, snocI p x (by simp at hl; omega), List.append_cons p x s, List.append_cons q y t]
      rw [ih t (p ++ [x]) (q ++ [y]) k (by simp [hpq]) (by simpa using hst) (by simpa using hl) (by simp at hk; omega)]
      simp only [allP, okP]
      by_cases h1 : -99 ≤ x ∧ x ≤ 99 <;> by_cases h2 : 1 ≤ y ∧ y ≤ 99 <;> simp [h1, h2]
theorem l4Pile_eq (a : Int) (ls ws : List Int) (k : Nat) (hk : 10 ≤ k) : spec_l4Pile.f k a ls ws = some (pileB a ls ws) := by
  obtain ⟨k, rfl⟩ : ∃ m, k = m + 1 := ⟨k - 1, by omega⟩
  unfold spec_l4Pile.f pileB
  rw [l1In_eq, l1In_eq, Option.bind_some, Option.bind_some]
  by_cases h1 : 1 ≤ a ∧ a ≤ 24
  · by_cases h2 : 1 ≤ (ls.length : Int) ∧ (ls.length : Int) ≤ 8
    · by_cases h3 : ws.length = ls.length
      · have h := l4Pile_l0 a ls ws [] [] k rfl h3.symm (by simp; omega) (by omega)
        simp only [List.nil_append, List.length_nil] at h
        simp only [h1, h2, h3, and_self, decide_true, if_true, spec_l4Pile.j0, bne_self_eq_false, Bool.false_eq_true, if_false, Bool.true_and]
        exact h
      · have h4 : ((ws.length : Int) != (ls.length : Int)) = true := by simp; omega
        simp only [h1, h2, h3, h4, and_self, decide_true, decide_false, if_true, spec_l4Pile.j0, Bool.true_and, Bool.false_and]
    · simp only [h1, h2, and_self, decide_true, decide_false, if_true, spec_l4Pile.j0, Bool.true_and, Bool.false_and, Bool.false_eq_true, if_false]
  · simp only [h1, decide_false, spec_l4Pile.j0, Bool.false_and, Bool.false_eq_true, if_false, if_true]
theorem IsPile_eq (a : Int) (ls ws : List Int) (k : Nat) (hk : 10 ≤ k) : impl_IsPile.f k a ls ws = some (pileB a ls ws) := by
  obtain ⟨k, rfl⟩ : ∃ m, k = m + 1 := ⟨k - 1, by omega⟩
  unfold impl_IsPile.f pileB
  rw [isWide_eq, within_eq, Option.bind_some, Option.bind_some]
  by_cases h1 : 1 ≤ a ∧ a ≤ 24
  · by_cases h2 : 1 ≤ (ls.length : Int) ∧ (ls.length : Int) ≤ 8
    · by_cases h3 : ws.length = ls.length
      · have h := IsPile_l0 a ls ws [] [] k rfl h3.symm (by simp; omega) (by omega)
        simp only [List.nil_append, List.length_nil] at h
        simp only [h1, h2, h3, and_self, decide_true, if_true, impl_IsPile.j0, bne_self_eq_false, Bool.false_eq_true, if_false, Bool.true_and]
        exact h
      · have h4 : ((ws.length : Int) != (ls.length : Int)) = true := by simp; omega
        simp only [h1, h2, h3, h4, and_self, decide_true, decide_false, if_true, impl_IsPile.j0, Bool.true_and, Bool.false_and]
    · simp only [h1, h2, and_self, decide_true, decide_false, if_true, impl_IsPile.j0, Bool.true_and, Bool.false_and, Bool.false_eq_true, if_false]
  · simp only [h1, decide_false, impl_IsPile.j0, Bool.false_and, Bool.false_eq_true, if_false, if_true]
/-- What a valid pile is. -/
structure POk (a : Int) (ls ws : List Int) : Prop where
  wide : 1 ≤ a ∧ a ≤ 24
  len : 1 ≤ ls.length ∧ ls.length ≤ 8
  same : ws.length = ls.length
  all : allP ls ws = true
theorem pileB_ok {a : Int} {ls ws : List Int} (h : pileB a ls ws = true) : POk a ls ws := by
  simp only [pileB, Bool.and_eq_true, decide_eq_true_eq] at h
  exact ⟨h.1, by omega, h.2.2.1, h.2.2.2⟩
theorem pileB_of {a : Int} {ls ws : List Int} (h : POk a ls ws) : pileB a ls ws = true := by
  simp only [pileB, Bool.and_eq_true, decide_eq_true_eq]
  exact ⟨h.wide, by have := h.len; omega, h.same, h.all⟩
theorem toIntS_l0 : ∀ (s p q : List Int) (k : Nat), p.length = q.length → (p ++ s).length < 4611686018427387904 → s.length < k →
    laws_toIntS.l0 k (p ++ s) (q ++ List.replicate s.length 0) (p.length : Int) = some (q ++ s) := by
  intro s
  induction s with
  | nil =>
    intro p q k hpq hl hk
    obtain ⟨k, rfl⟩ : ∃ m, k = m + 1 := ⟨k - 1, by simp at hk; omega⟩
    simp only [laws_toIntS.l0]
    rw [if_neg (by simp)]
    simp
  | cons x s ih =>
    intro p q k hpq hl hk
    obtain ⟨k, rfl⟩ : ∃ m, k = m + 1 := ⟨k - 1, by simp at hk; omega⟩
    simp only [laws_toIntS.l0]
    rw [if_pos (by simp; omega), if_pos (by omega), if_pos (by simp; omega), rdI, snocI p x (by simp at hl; omega)]
    rw [show (((p.length : Nat) : Int)).toNat = q.length from by omega, List.length_cons, set_rep, List.append_cons p x s, ih (p ++ [x]) _ k (by simp [hpq]) (by simpa using hl) (by simp at hk; omega)]
    simp
theorem toIntS_eq (l : List Int) (k : Nat) (hl : l.length ≤ 1048576) (hk : l.length < k) : laws_toIntS.f k l = some l := by
  unfold laws_toIntS.f
  rw [if_pos (by omega), if_pos (by omega)]
  exact toIntS_l0 l [] [] k rfl (by simp; omega) hk
theorem toPile_eq (a : Int) (l1 l2 : List Int) (k : Nat) (h1 : l1.length ≤ 1048576) (h2 : l2.length ≤ 1048576) (hk : l1.length < k) (hk2 : l2.length < k) : laws_toPile.f k a l1 l2 = some (a, l1, l2) := by
  unfold laws_toPile.f
  rw [toIntS_eq l1 k h1 hk, toIntS_eq l2 k h2 hk2]
  rfl
theorem szPile_eq (a : Int) (l1 l2 : List Int) (h1 : l1.length ≤ 9223372036854775807) (h2 : l2.length ≤ 9223372036854775807) :
    laws_szPile.f a l1 l2 1048576 = some (if l1.length + l2.length ≤ 1048576 then 1048576 - (l1.length : Int) - (l2.length : Int) else -1) := by
  unfold laws_szPile.f laws_szIntS.f
  rw [sz_id _ h1]
  by_cases c1 : 1048576 < l1.length
  · rw [if_pos (by omega), Option.bind_some, if_pos (by decide), if_neg (by omega)]
  · rw [if_neg (by omega), Option.bind_some, if_neg (by omega), wrap_id (x := 1048576 - (l1.length : Int) - (l2.length : Int)) (by omega) (by omega)]
    by_cases c2 : l1.length + l2.length ≤ 1048576
    · rw [if_neg (by omega), Option.bind_some, if_neg (by omega), if_pos c2]
    · rw [if_pos (by omega), Option.bind_some, if_pos (by decide), if_neg c2]
theorem eqPile_refl (a : Int) (l1 l2 : List Int) (k : Nat) (h1 : l1.length < 4611686018427387904) (h2 : l2.length < 4611686018427387904) (hk1 : l1.length < k) (hk2 : l2.length < k) : laws_eqPile.f k a l1 l2 a l1 l2 = some true := by
  unfold laws_eqPile.f
  rw [if_pos rfl, eqIntS_refl l1 k h1 hk1, Option.bind_some, if_pos rfl, eqIntS_refl l2 k h2 hk2]
  rfl
theorem bne_refl (b : Bool) : (b != b) = false := by cases b <;> rfl
def big (a m : Int) : List Int → Int
  | [] => m
  | x :: s => big a (mx m (x + a)) s
theorem spec_l0 (a : Int) (ws : List Int) (ha : 1 ≤ a ∧ a ≤ 24) : ∀ (s p : List Int) (m : Int) (k : Nat), (∀ x ∈ s, -99 ≤ x ∧ x ≤ 99) → (p ++ s).length < 1048577 → s.length < k →
    spec_OverhangOf.l0 k m (p.length : Int) a (p ++ s) ws = some (big a m s, true) := by
  intro s
  induction s with
  | nil =>
    intro p m k hs hl hk
    obtain ⟨k, rfl⟩ : ∃ n, k = n + 1 := ⟨k - 1, by simp at hk; omega⟩
    simp only [spec_OverhangOf.l0]
    rw [if_neg (by simp)]
    rfl
  | cons x s ih =>
    intro p m k hs hl hk
    obtain ⟨k, rfl⟩ : ∃ n, k = n + 1 := ⟨k - 1, by simp at hk; omega⟩
    have hx := hs x (by simp)
    have hm : spec_l1Most.f m (x + a) = some (mx m (x + a)) := by
      unfold spec_l1Most.f mx
      (repeat' split) <;> (first | rfl | omega | (congr 1; omega))
    simp only [spec_OverhangOf.l0]
    rw [if_pos (by simp; omega), if_pos (by omega), rdI, wrap_id (x := x + a) (by omega) (by omega), hm, Option.bind_some, snocI p x (by simp at hl; omega), List.append_cons p x s]
    exact ih (p ++ [x]) _ k (fun y hy => hs y (by simp [hy])) (by simpa using hl) (by simp at hk; omega)
theorem Max_l0 (a : Int) (ha : 1 ≤ a ∧ a ≤ 24) : ∀ (s p : List Int) (m z : Int) (k : Nat), z = mx 0 (m + a) → (∀ x ∈ s, -99 ≤ x ∧ x ≤ 99) → -99 ≤ m ∧ m ≤ 99 → (p ++ s).length < 1048577 → s.length < k →
    ∃ r, slices_Max_int_int.l0 k (p ++ s) m (p.length : Int) = some r ∧ big a z s = mx 0 (wrap64 (r + a)) := by
  intro s
  induction s with
  | nil =>
    intro p m z k hz hs hm hl hk
    obtain ⟨k, rfl⟩ : ∃ n, k = n + 1 := ⟨k - 1, by simp at hk; omega⟩
    simp only [slices_Max_int_int.l0]
    rw [if_neg (by simp)]
    exact ⟨m, rfl, by rw [wrap_id (by omega) (by omega)]; exact hz⟩
  | cons x s ih =>
    intro p m z k hz hs hm hl hk
    obtain ⟨k, rfl⟩ : ∃ n, k = n + 1 := ⟨k - 1, by simp at hk; omega⟩
    have hx := hs x (by simp)
    simp only [slices_Max_int_int.l0]
    rw [if_pos (by simp; omega), if_pos (by omega), rdI, snocI p x (by simp at hl; omega), List.append_cons p x s]
    exact ih (p ++ [x]) (mx m x) (mx z (x + a)) k (by subst hz; unfold mx; (repeat' split) <;> omega) (fun y hy => hs y (by simp [hy])) (by unfold mx; split <;> omega) (by simpa using hl) (by simp at hk; omega)
theorem allP_mem : ∀ (s t : List Int), s.length = t.length → allP s t = true → ∀ x ∈ s, -99 ≤ x ∧ x ≤ 99 := by
  intro s
  induction s with
  | nil => intro t _ _ x hx; simp at hx
  | cons y s ih =>
    intro t ht h x hx
    cases t with
    | nil => simp at ht
    | cons w t =>
      simp only [allP, okP, Bool.and_eq_true, decide_eq_true_eq] at h
      rcases List.mem_cons.1 hx with e | e
      · rw [e]
        exact h.1.1
      · exact ih t (by simpa using ht) h.2 x e
theorem both (a : Int) (ls ws : List Int) (hb : ls.length + ws.length ≤ 1048576) : ∃ r : Int × Bool, ∀ k, 1000 + ls.length + ws.length ≤ k → spec_OverhangOf.f k a ls ws = some r ∧ impl_OverhangOf.f k a ls ws = some r := by
  by_cases h : pileB a ls ws = true
  · have ok := pileB_ok h
    have o1 := ok.len
    have hm := allP_mem ls ws ok.same.symm ok.all
    cases ls with
    | nil => simp at o1
    | cons x s =>
      refine ⟨(big a 0 (x :: s), true), fun k hk => ?_⟩
      have hx := hm x (by simp)
      have e1 := spec_l0 a ws ok.wide (x :: s) [] 0 k hm (by simp only [List.nil_append]; omega) (by omega)
      obtain ⟨r, e2, e3⟩ := Max_l0 a ok.wide s [x] x (mx 0 (x + a)) k rfl (fun y hy => hm y (by simp [hy])) hx (by simp only [List.length_append, List.length_cons, List.length_nil] at hb ⊢; omega) (by simp at hk; omega)
      have e4 : slices_Max_int_int.f k (x :: s) = some r := by
        unfold slices_Max_int_int.f
        rw [if_neg (by simp only [List.length_cons]; omega), if_pos (by simp only [List.length_cons]; omega)]
        exact e2
      simp (disch := omega) only [spec_OverhangOf.f, impl_OverhangOf.f, l4Pile_eq, IsPile_eq, h, e4, Option.bind_some, if_true]
      exact ⟨e1, by rw [← e3]; rfl⟩
  · refine ⟨(0, false), fun k hk => ?_⟩
    simp (disch := omega) only [spec_OverhangOf.f, impl_OverhangOf.f, l4Pile_eq, IsPile_eq, h, Option.bind_some, if_false, and_self, Bool.false_eq_true]
theorem FnExactOverhangOf : ∀ (a0_0 : Int) (l0_1 : List Int) (l0_2 : List Int), ((Lit.int .i64 a0_0).wf = true) → (l0_1.length ≤ 9223372036854775807) → (∀ x_ ∈ l0_1, (Lit.int .i64 x_).wf = true) → (l0_2.length ≤ 9223372036854775807) → (∀ x_ ∈ l0_2, (Lit.int .i64 x_).wf = true) → ∃ k, laws_FnExactOverhangOf.f k a0_0 l0_1 l0_2 = some true := by
  intro a ls ws _ h1 _ h2 _
  refine ⟨2000 + ls.length + ws.length + 6, ?_⟩
  have hsz := szPile_eq a ls ws h1 h2
  by_cases hb : ls.length + ws.length ≤ 1048576
  · rw [if_pos hb] at hsz
    have n0 : ¬ ((1048576 : Int) - (ls.length : Int) - (ws.length : Int) < 0) := by omega
    obtain ⟨r, hr⟩ := both a ls ws hb
    have hs := fun k hk => (hr k hk).1
    have hi := fun k hk => (hr k hk).2
    simp (maxSteps := 4000000) (disch := omega) only [laws_FnExactOverhangOf.f, hsz, n0, toPile_eq, hs, hi, Option.bind_some, bne_refl, if_true, if_false, Bool.false_eq_true]
    simp (maxSteps := 4000000) (disch := omega) only [laws_FnExactOverhangOf.j0, toPile_eq, eqPile_refl, Option.bind_some, if_true, if_false, Bool.false_eq_true]
  · rw [if_neg hb] at hsz
    unfold laws_FnExactOverhangOf.f
    rw [hsz, Option.bind_some, if_pos (by decide)]

end Go.Proofs.Ytigijeedekjeiaa.Pure

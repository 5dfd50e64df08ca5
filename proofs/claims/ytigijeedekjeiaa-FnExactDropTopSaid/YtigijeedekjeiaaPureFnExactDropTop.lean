/- The pure statement of the law FnExactDropTop: what the law computes, as a function over numbers and lists, answers true for every input. No conditions beyond the ranges of Go's int. -/
import Derived.Test.YtigijeedekjeiaaPFnExactDropTopx5
set_option linter.unusedVariables false
set_option linter.unusedSimpArgs false
namespace Go.Proofs.Ytigijeedekjeiaa.Pure
open Go.RowKit Go.Proofs.YtigijeedekjeiaaW.PrintWords Go.Proofs.YtigijeedekjeiaaW.PrintLast Go.Proofs.Ytigijeedekjeiaa.PFnExactDropTop

theorem wrap_id {x : Int} (h0 : -9223372036854775808 ≤ x) (h1 : x ≤ 9223372036854775807) : wrap64 x = x := by
  unfold wrap64
  omega
theorem wf64 {x : Int} (h : (Lit.int .i64 x).wf = true) : -9223372036854775808 ≤ x ∧ x ≤ 9223372036854775807 := by
  simp [Lit.wf, IntKind.min, IntKind.max, IntKind.signed, IntKind.bits] at h
  omega
theorem l1In_eq (a b c : Int) : spec_l1In.f a b c = some (decide (b ≤ a ∧ a ≤ c)) := by
  unfold spec_l1In.f
  split <;> simp_all
  omega
theorem within_eq (a b c : Int) : impl_within.f a b c = some (decide (b ≤ a ∧ a ≤ c)) := by
  unfold impl_within.f
  split <;> simp_all
  omega
theorem l1Own_eq (l : List Int) (h : l.length < 17592186044416) : spec_l1Own.f l = some l := by
  unfold spec_l1Own.f
  rw [Option.bind_some, if_pos (by simpa using h)]
  rfl
theorem Clone_eq (l : List Int) (h : l.length < 17592186044416) : slices_Clone_int_int.f l = some l := by
  unfold slices_Clone_int_int.f
  rw [Option.bind_some, if_pos (by simpa using h)]
  rfl
theorem snocI {α : Type} (p : List α) (x : α) (h : p.length < 9223372036854775807) : wrap64 ((p.length : Int) + 1) = ((p ++ [x]).length : Int) := by
  rw [wrap_id (by omega) (by omega)]
  simp
theorem sz_id (n : Nat) (h : n ≤ 9223372036854775807) : wrap64 (1048576 - (n : Int)) = 1048576 - (n : Int) := wrap_id (by omega) (by omega)
theorem set_rep {α : Type} (q : List α) (z y : α) (n : Nat) : (q ++ List.replicate (n + 1) z).set q.length y = (q ++ [y]) ++ List.replicate n z := by
  rw [List.set_append_right _ _ (Nat.le_refl _), Nat.sub_self]
  simp [List.replicate_succ]
theorem rdI (p s : List Int) (x : Int) : rd (p ++ x :: s) ((p.length : Int)) = x := by
  simp [rd]
theorem eqIntS_l0 : ∀ (s p : List Int) (k : Nat), (p ++ s).length < 4611686018427387904 → s.length < k → laws_eqIntS.l0 k (p ++ s) (p ++ s) (p.length : Int) = some true := by
  intro s
  induction s with
  | nil =>
    intro p k hl hk
    obtain ⟨k, rfl⟩ : ∃ m, k = m + 1 := ⟨k - 1, by simp at hk; omega⟩
    simp only [laws_eqIntS.l0]
    rw [if_neg (by simp)]
  | cons x s ih =>
    intro p k hl hk
    obtain ⟨k, rfl⟩ : ∃ m, k = m + 1 := ⟨k - 1, by simp at hk; omega⟩
    simp only [laws_eqIntS.l0]
    rw [if_pos (by simp; omega), if_pos (by omega), if_pos (by simp; omega), if_pos trivial, snocI p x (by simp at hl; omega)]
    have e := ih (p ++ [x]) k (by simpa using hl) (by simp at hk; omega)
    rw [List.append_assoc] at e
    exact e
theorem eqIntS_refl (l : List Int) (k : Nat) (hl : l.length < 4611686018427387904) (hk : l.length < k) : laws_eqIntS.f k l l = some true := by
  unfold laws_eqIntS.f
  rw [if_pos rfl]
  exact eqIntS_l0 l [] k (by simpa using hl) hk
def okP (l w : Int) : Bool := decide (-99 ≤ l ∧ l ≤ 99) && decide (1 ≤ w ∧ w ≤ 99)
def allP : List Int → List Int → Bool
  | l :: ls, w :: ws => okP l w && allP ls ws
  | _, _ => true
def pileB (a : Int) (ls ws : List Int) : Bool := decide (1 ≤ a ∧ a ≤ 24) && (decide (1 ≤ (ls.length : Int) ∧ (ls.length : Int) ≤ 8) && (decide (ws.length = ls.length) && allP ls ws))
theorem isLeft_eq (a : Int) : impl_isLeft.f a = some (decide (-99 ≤ a ∧ a ≤ 99)) := by simp only [impl_isLeft.f, within_eq, Option.bind_some]
theorem isWeight_eq (a : Int) : impl_isWeight.f a = some (decide (1 ≤ a ∧ a ≤ 99)) := by simp only [impl_isWeight.f, within_eq, Option.bind_some]
theorem isWide_eq (a : Int) : impl_isWide.f a = some (decide (1 ≤ a ∧ a ≤ 24)) := by simp only [impl_isWide.f, within_eq, Option.bind_some]
theorem l4Pile_l0 (a : Int) : ∀ (s t p q : List Int) (k : Nat), p.length = q.length → s.length = t.length → (p ++ s).length < 4611686018427387904 → s.length < k →
    spec_l4Pile.l0 k ((p ++ s).length : Int) (p.length : Int) a (p ++ s) (q ++ t) = some (allP s t) := by
  intro s
  induction s with
  | nil =>
    intro t p q k hpq hst hl hk
    obtain ⟨k, rfl⟩ : ∃ m, k = m + 1 := ⟨k - 1, by simp at hk; omega⟩
    simp only [spec_l4Pile.l0]
    rw [if_neg (by simp)]
    simp [allP]
  | cons x s ih =>
    intro t p q k hpq hst hl hk
    obtain ⟨k, rfl⟩ : ∃ m, k = m + 1 := ⟨k - 1, by simp at hk; omega⟩
    cases t with
    | nil => simp at hst
    | cons y t =>
      have e : rd (q ++ y :: t) (p.length : Int) = y := by rw [hpq]; exact rdI q t y
      simp only [spec_l4Pile.l0]
      rw [if_pos (by simp; omega), if_pos (by omega), if_pos (by simp; omega), if_pos (by rw [hpq]; simp; omega), rdI, e, l1In_eq, Option.bind_some, l1In_eq, Option.bind_some, snocI p x (by simp at hl; omega), List.append_cons p x s, List.append_cons q y t]
      rw [ih t (p ++ [x]) (q ++ [y]) k (by simp [hpq]) (by simpa using hst) (by simpa using hl) (by simp at hk; omega)]
      simp only [allP, okP]
      by_cases h1 : -99 ≤ x ∧ x ≤ 99 <;> by_cases h2 : 1 ≤ y ∧ y ≤ 99 <;> simp [h1, h2]
theorem IsPile_l0 (a : Int) : ∀ (s t p q : List Int) (k : Nat), p.length = q.length → s.length = t.length → (p ++ s).length < 4611686018427387904 → s.length < k →
    impl_IsPile.l0 k (p ++ s) ((p ++ s).length : Int) (p.length : Int) a (p ++ s) (q ++ t) = some (allP s t) := by
  intro s
  induction s with
  | nil =>
    intro t p q k hpq hst hl hk
    obtain ⟨k, rfl⟩ : ∃ m, k = m + 1 := ⟨k - 1, by simp at hk; omega⟩
    simp only [impl_IsPile.l0]
    rw [if_neg (by simp)]
    simp [allP]
  | cons x s ih =>
    intro t p q k hpq hst hl hk
    obtain ⟨k, rfl⟩ : ∃ m, k = m + 1 := ⟨k - 1, by simp at hk; omega⟩
    cases t with
    | nil => simp at hst
    | cons y t =>
      have e : rd (q ++ y :: t) (p.length : Int) = y := by rw [hpq]; exact rdI q t y
      simp only [impl_IsPile.l0]
      rw [if_pos (by simp; omega), if_pos (by omega), if_pos (by simp; omega), if_pos (by rw [hpq]; simp; omega), rdI, e, isLeft_eq, Option.bind_some, isWeight_eq, Option.bind_some, snocI p x (by simp at hl; omega), List.append_cons p x s, List.append_cons q y t]
      rw [ih t (p ++ [x]) (q ++ [y]) k (by simp [hpq]) (by simpa using hst) (by simpa using hl) (by simp at hk; omega)]
      simp only [allP, okP]
      by_cases h1 : -99 ≤ x ∧ x ≤ 99 <;> by_cases h2 : 1 ≤ y ∧ y ≤ 99 <;> simp [h1, h2]
theorem l4Pile_eq (a : Int) (ls ws : List Int) (k : Nat) (hk : 10 ≤ k) : spec_l4Pile.f k a ls ws = some (pileB a ls ws) := by
  obtain ⟨k, rfl⟩ : ∃ m, k = m + 1 := ⟨k - 1, by omega⟩
  unfold spec_l4Pile.f pileB
  rw [l1In_eq, l1In_eq, Option.bind_some, Option.bind_some]
  by_cases h1 : 1 ≤ a ∧ a ≤ 24
  · by_cases h2 : 1 ≤ (ls.length : Int) ∧ (ls.length : Int) ≤ 8
    · by_cases h3 : ws.length = ls.length
      · have h := l4Pile_l0 a ls ws [] [] k rfl h3.symm (by simp; omega) (by omega)
        simp only [List.nil_append, List.length_nil] at h
        simp only [h1, h2, h3, and_self, decide_true, if_true, spec_l4Pile.j0, bne_self_eq_false, Bool.false_eq_true, if_false, Bool.true_and]
        exact h
      · have h4 : ((ws.length : Int) != (ls.length : Int)) = true := by simp; omega
        simp only [h1, h2, h3, h4, and_self, decide_true, decide_false, if_true, spec_l4Pile.j0, Bool.true_and, Bool.false_and]
    · simp only [h1, h2, and_self, decide_true, decide_false, if_true, spec_l4Pile.j0, Bool.true_and, Bool.false_and, Bool.false_eq_true, if_false]
  · simp only [h1, decide_false, spec_l4Pile.j0, Bool.false_and, Bool.false_eq_true, if_false, if_true]
theorem IsPile_eq (a : Int) (ls ws : List Int) (k : Nat) (hk : 10 ≤ k) : impl_IsPile.f k a ls ws = some (pileB a ls ws) := by
  obtain ⟨k, rfl⟩ : ∃ m, k = m + 1 := ⟨k - 1, by omega⟩
  unfold impl_IsPile.f pileB
  rw [isWide_eq, within_eq, Option.bind_some, Option.bind_some]
  by_cases h1 : 1 ≤ a ∧ a ≤ 24
  · by_cases h2 : 1 ≤ (ls.length : Int) ∧ (ls.length : Int) ≤ 8
    · by_cases h3 : ws.length = ls.length
      · have h := IsPile_l0 a ls ws [] [] k rfl h3.symm (by simp; omega) (by omega)
        simp only [List.nil_append, List.length_nil] at h
        simp only [h1, h2, h3, and_self, decide_true, if_true, impl_IsPile.j0, bne_self_eq_false, Bool.false_eq_true, if_false, Bool.true_and]
        exact h
      · have h4 : ((ws.length : Int) != (ls.length : Int)) = true := by simp; omega
        simp only [h1, h2, h3, h4, and_self, decide_true, decide_false, if_true, impl_IsPile.j0, Bool.true_and, Bool.false_and]
    · simp only [h1, h2, and_self, decide_true, decide_false, if_true, impl_IsPile.j0, Bool.true_and, Bool.false_and, Bool.false_eq_true, if_false]
  · simp only [h1, decide_false, impl_IsPile.j0, Bool.false_and, Bool.false_eq_true, if_false, if_true]
/-- What a valid pile is. -/
structure POk (a : Int) (ls ws : List Int) : Prop where
  wide : 1 ≤ a ∧ a ≤ 24
  len : 1 ≤ ls.length ∧ ls.length ≤ 8
  same : ws.length = ls.length
  all : allP ls ws = true
theorem pileB_ok {a : Int} {ls ws : List Int} (h : pileB a ls ws = true) : POk a ls ws := by
  simp only [pileB, Bool.and_eq_true, decide_eq_true_eq] at h
  exact ⟨h.1, by omega, h.2.2.1, h.2.2.2⟩
theorem pileB_of {a : Int} {ls ws : List Int} (h : POk a ls ws) : pileB a ls ws = true := by
  simp only [pileB, Bool.and_eq_true, decide_eq_true_eq]
  exact ⟨h.wide, by have := h.len; omega, h.same, h.all⟩
theorem toIntS_l0 : ∀ (s p q : List Int) (k : Nat), p.length = q.length → (p ++ s).length < 4611686018427387904 → s.length < k →
    laws_toIntS.l0 k (p ++ s) (q ++ List.replicate s.length 0) (p.length : Int) = some (q ++ s) := by
  intro s
  induction s with
  | nil =>
    intro p q k hpq hl hk
    obtain ⟨k, rfl⟩ : ∃ m, k = m + 1 := ⟨k - 1, by simp at hk; omega⟩
    simp only [laws_toIntS.l0]
    rw [if_neg (by simp)]
    simp
  | cons x s ih =>
    intro p q k hpq hl hk
    obtain ⟨k, rfl⟩ : ∃ m, k = m + 1 := ⟨k - 1, by simp at hk; omega⟩
    simp only [laws_toIntS.l0]
    rw [if_pos (by simp; omega), if_pos (by omega), if_pos (by simp; omega), rdI, snocI p x (by simp at hl; omega)]
    rw [show (((p.length : Nat) : Int)).toNat = q.length from by omega, List.length_cons, set_rep, List.append_cons p x s, ih (p ++ [x]) _ k (by simp [hpq]) (by simpa using hl) (by simp at hk; omega)]
    simp
theorem toIntS_eq (l : List Int) (k : Nat) (hl : l.length ≤ 1048576) (hk : l.length < k) : laws_toIntS.f k l = some l := by
  unfold laws_toIntS.f
  rw [if_pos (by omega), if_pos (by omega)]
  exact toIntS_l0 l [] [] k rfl (by simp; omega) hk
theorem toPile_eq (a : Int) (l1 l2 : List Int) (k : Nat) (h1 : l1.length ≤ 1048576) (h2 : l2.length ≤ 1048576) (hk : l1.length < k) (hk2 : l2.length < k) : laws_toPile.f k a l1 l2 = some (a, l1, l2) := by
  unfold laws_toPile.f
  rw [toIntS_eq l1 k h1 hk, toIntS_eq l2 k h2 hk2]
  rfl
theorem szPile_eq (a : Int) (l1 l2 : List Int) (h1 : l1.length ≤ 9223372036854775807) (h2 : l2.length ≤ 9223372036854775807) :
    laws_szPile.f a l1 l2 1048576 = some (if l1.length + l2.length ≤ 1048576 then 1048576 - (l1.length : Int) - (l2.length : Int) else -1) := by
  unfold laws_szPile.f laws_szIntS.f
  rw [sz_id _ h1]
  by_cases c1 : 1048576 < l1.length
  · rw [if_pos (by omega), Option.bind_some, if_pos (by decide), if_neg (by omega)]
  · rw [if_neg (by omega), Option.bind_some, if_neg (by omega), wrap_id (x := 1048576 - (l1.length : Int) - (l2.length : Int)) (by omega) (by omega)]
    by_cases c2 : l1.length + l2.length ≤ 1048576
    · rw [if_neg (by omega), Option.bind_some, if_neg (by omega), if_pos c2]
    · rw [if_pos (by omega), Option.bind_some, if_pos (by decide), if_neg c2]
theorem eqPile_refl (a : Int) (l1 l2 : List Int) (k : Nat) (h1 : l1.length < 4611686018427387904) (h2 : l2.length < 4611686018427387904) (hk1 : l1.length < k) (hk2 : l2.length < k) : laws_eqPile.f k a l1 l2 a l1 l2 = some true := by
  unfold laws_eqPile.f
  rw [if_pos rfl, eqIntS_refl l1 k h1 hk1, Option.bind_some, if_pos rfl, eqIntS_refl l2 k h2 hk2]
  rfl
def seqI : Int → Nat → List Int
  | _, 0 => []
  | m, n + 1 => m :: seqI (m + 1) n
theorem markIntS_l0 : ∀ (s p : List Int) (m : Int) (k : Nat), (p ++ s).length < 1073741824 → 0 ≤ m → m + s.length < 4294967296 → s.length < k →
    laws_markIntS.l0 k (p ++ s) m (p.length : Int) = some (m + s.length, p ++ seqI m s.length) := by
  intro s
  induction s with
  | nil =>
    intro p m k hl h0 h1 hk
    obtain ⟨k, rfl⟩ : ∃ j, k = j + 1 := ⟨k - 1, by simp at hk; omega⟩
    simp only [laws_markIntS.l0]
    rw [if_neg (by simp)]
    simp [seqI]
  | cons x s ih =>
    intro p m k hl h0 h1 hk
    obtain ⟨k, rfl⟩ : ∃ j, k = j + 1 := ⟨k - 1, by simp at hk; omega⟩
    simp only [laws_markIntS.l0]
    simp only [List.length_cons, Int.natCast_add, Int.natCast_one, List.length_append] at h1 hl hk
    rw [if_pos (by simp; omega), if_pos (by omega)]
    simp only [Int.toNat_natCast, List.set_append_right _ _ (Nat.le_refl _), Nat.sub_self, List.set_cons_zero]
    rw [snocI p x (by omega), wrap_id (x := m + 1) (by omega) (by omega), List.append_cons]
    rw [show ((p ++ [x]).length : Int) = ((p ++ [m]).length : Int) from by simp]
    rw [ih (p ++ [m]) (m + 1) k (by simp; omega) (by omega) (by omega) (by omega)]
    simp [seqI]
    omega
theorem heldIntS_l0 : ∀ (n : Nat) (p : List Int) (m : Int) (k : Nat), p.length + n < 1073741824 → 0 ≤ m → m + n < 4294967296 → n < k →
    laws_heldIntS.l0 k (p ++ seqI m n) m (p.length : Int) = some (m + n) := by
  intro n
  induction n with
  | zero =>
    intro p m k hl h0 h1 hk
    obtain ⟨k, rfl⟩ : ∃ j, k = j + 1 := ⟨k - 1, by omega⟩
    simp only [laws_heldIntS.l0]
    rw [if_neg (by simp [seqI])]
    simp
  | succ n ih =>
    intro p m k hl h0 h1 hk
    obtain ⟨k, rfl⟩ : ∃ j, k = j + 1 := ⟨k - 1, by omega⟩
    rw [show seqI m (n + 1) = m :: seqI (m + 1) n from rfl]
    simp only [laws_heldIntS.l0]
    rw [if_pos (by simp; omega), if_pos (by omega), rdI, if_pos rfl, wrap_id (x := m + 1) (by omega) (by omega), snocI p m (by omega), List.append_cons]
    rw [ih (p ++ [m]) (m + 1) k (by simp; omega) (by omega) (by omega) (by omega)]
    congr 1
    omega
theorem markIntS_eq (l : List Int) (m : Int) (k : Nat) (hl : l.length < 1073741824) (h0 : 0 ≤ m) (h1 : m + l.length < 4294967296) (hk : l.length < k) : laws_markIntS.f k l m = some (m + l.length, seqI m l.length) :=
  markIntS_l0 l [] m k (by simpa using hl) h0 h1 hk
theorem heldIntS_eq (n : Nat) (m : Int) (k : Nat) (hl : n < 1073741824) (h0 : 0 ≤ m) (h1 : m + n < 4294967296) (hk : n < k) : laws_heldIntS.f k (seqI m n) m = some (m + n) :=
  heldIntS_l0 n [] m k (by simpa using hl) h0 h1 hk
theorem markPile_eq (a : Int) (l1 l2 : List Int) (k : Nat) (h1 : l1.length + l2.length ≤ 1048576) (hk1 : l1.length < k) (hk2 : l2.length < k) :
    laws_markPile.f k a l1 l2 1 = some (1 + (l1.length : Int) + (l2.length : Int), seqI 1 l1.length, seqI (1 + (l1.length : Int)) l2.length) := by
  unfold laws_markPile.f
  rw [markIntS_eq l1 1 k (by omega) (by omega) (by omega) hk1, Option.bind_some, markIntS_eq l2 _ k (by omega) (by omega) (by omega) hk2]
  rfl
theorem heldPile_eq (a : Int) (n1 n2 : Nat) (k : Nat) (h1 : n1 + n2 ≤ 1048576) (hk1 : n1 < k) (hk2 : n2 < k) :
    laws_heldPile.f k a (seqI 1 n1) (seqI (1 + (n1 : Int)) n2) 1 = some (1 + (n1 : Int) + (n2 : Int)) := by
  unfold laws_heldPile.f
  rw [heldIntS_eq n1 1 k (by omega) (by omega) (by omega) hk1, Option.bind_some, if_neg (by omega), heldIntS_eq n2 _ k (by omega) (by omega) (by omega) hk2, Option.bind_some, if_neg (by omega)]
theorem bne_refl (b : Bool) : (b != b) = false := by cases b <;> rfl
theorem both (a : Int) (ls ws : List Int) (hb : ls.length + ws.length ≤ 1048576) : ∃ r : Int × List Int × List Int × Bool, r.2.1.length ≤ 100 ∧ r.2.2.1.length ≤ 100 ∧ ∀ k, 1000 + ls.length + ws.length ≤ k → spec_DropTop.f k a ls ws = some r ∧ impl_DropTop.f k a ls ws = some r := by
  by_cases h : pileB a ls ws = true
  · have ok := pileB_ok h
    have o1 := ok.len
    have o2 := ok.same
    have w := wrap_id (x := (ls.length : Int) - 1) (by omega) (by omega)
    by_cases h1 : ls.length = 1
    · refine ⟨(0, [], [], false), by simp, by simp, fun k hk => ?_⟩
      obtain ⟨k, rfl⟩ : ∃ m, k = m + 1 := ⟨k - 1, by omega⟩
      have e1 : ((ls.length : Int) == 1) = true := by simp [h1]
      have e2 : ((ls.length : Int) - 1 == 0) = true := by simp [h1]
      simp (disch := omega) only [spec_DropTop.f, impl_DropTop.f, spec_DropTop.j0, impl_DropTop.j0, l4Pile_eq, IsPile_eq, h, w, e1, e2, Option.bind_some, if_true, and_self]
    · refine ⟨(a, ls.take ((ls.length : Int) - 1).toNat, ws.take ((ls.length : Int) - 1).toNat, true), by simp; omega, by simp; omega, fun k hk => ?_⟩
      obtain ⟨k, rfl⟩ : ∃ m, k = m + 1 := ⟨k - 1, by omega⟩
      have e1 : ((ls.length : Int) == 1) = false := by simp; omega
      have e2 : ((ls.length : Int) - 1 == 0) = false := by simp; omega
      have b0 : 0 ≤ (ls.length : Int) - 1 := by omega
      have b1 : (ls.length : Int) - 1 ≤ (ls.length : Int) := by omega
      have b2 : (ls.length : Int) - 1 ≤ (ws.length : Int) := by omega
      have g1 : (ls.take ((ls.length : Int) - 1).toNat).length < 17592186044416 := by simp; omega
      have g2 : (ws.take ((ls.length : Int) - 1).toNat).length < 17592186044416 := by simp; omega
      simp (disch := omega) only [spec_DropTop.f, impl_DropTop.f, spec_DropTop.j0, impl_DropTop.j0, l4Pile_eq, IsPile_eq, h, w, e1, e2, b0, b1, b2, l1Own_eq _ g1, l1Own_eq _ g2, Clone_eq _ g1, Clone_eq _ g2, Option.bind_some, if_true, and_self, Bool.false_eq_true, if_false]
  · refine ⟨(0, [], [], false), by simp, by simp, fun k hk => ?_⟩
    obtain ⟨k, rfl⟩ : ∃ m, k = m + 1 := ⟨k - 1, by omega⟩
    simp (disch := omega) only [spec_DropTop.f, impl_DropTop.f, spec_DropTop.j0, impl_DropTop.j0, l4Pile_eq, IsPile_eq, h, Option.bind_some, if_false, and_self, Bool.false_eq_true, if_true]
theorem FnExactDropTop : ∀ (a0_0 : Int) (l0_1 : List Int) (l0_2 : List Int), ((Lit.int .i64 a0_0).wf = true) → (l0_1.length ≤ 9223372036854775807) → (∀ x_ ∈ l0_1, (Lit.int .i64 x_).wf = true) → (l0_2.length ≤ 9223372036854775807) → (∀ x_ ∈ l0_2, (Lit.int .i64 x_).wf = true) → ∃ k, laws_FnExactDropTop.f k a0_0 l0_1 l0_2 = some true := by
  intro a ls ws _ h1 _ h2 _
  refine ⟨2000 + ls.length + ws.length + 6, ?_⟩
  have hsz := szPile_eq a ls ws h1 h2
  by_cases hb : ls.length + ws.length ≤ 1048576
  · rw [if_pos hb] at hsz
    have n0 : ¬ ((1048576 : Int) - (ls.length : Int) - (ws.length : Int) < 0) := by omega
    obtain ⟨r, hr1, hr2, hr⟩ := both a ls ws hb
    have hs := fun k hk => (hr k hk).1
    have hi := fun k hk => (hr k hk).2
    have n1 : ¬ ((1 : Int) + (r.2.1.length : Int) + (r.2.2.1.length : Int) < 0) := by omega
    have n2 : ¬ ((1 : Int) + (ls.length : Int) + (ws.length : Int) < 0) := by omega
    have hm2 : ∀ k, 200 + ls.length + ws.length ≤ k → laws_markPile.f k a ls ws 1 = some (1 + (ls.length : Int) + (ws.length : Int), seqI 1 ls.length, seqI (1 + (ls.length : Int)) ws.length) := fun k hk => markPile_eq a ls ws k hb (by omega) (by omega)
    have hm : ∀ k, 200 ≤ k → laws_markPile.f k r.1 r.2.1 r.2.2.1 1 = some (1 + (r.2.1.length : Int) + (r.2.2.1.length : Int), seqI 1 r.2.1.length, seqI (1 + (r.2.1.length : Int)) r.2.2.1.length) := fun k hk => markPile_eq r.1 r.2.1 r.2.2.1 k (by omega) (by omega) (by omega)
    have hh : ∀ k, 200 ≤ k → laws_heldPile.f k r.1 (seqI 1 r.2.1.length) (seqI (1 + (r.2.1.length : Int)) r.2.2.1.length) 1 = some (1 + (r.2.1.length : Int) + (r.2.2.1.length : Int)) := fun k hk => heldPile_eq r.1 r.2.1.length r.2.2.1.length k (by omega) (by omega) (by omega)
    simp (maxSteps := 4000000) (disch := omega) only [laws_FnExactDropTop.f, hsz, n0, toPile_eq, hs, hi, eqPile_refl, Option.bind_some, bne_refl, if_true, if_false]
    simp (maxSteps := 4000000) (disch := omega) only [laws_FnExactDropTop.j0, toPile_eq, eqPile_refl, hm2, n2, Option.bind_some, bne_refl, if_true, if_false, Bool.false_eq_true]
    simp (maxSteps := 4000000) (disch := omega) only [laws_FnExactDropTop.j1, toPile_eq, hi, eqPile_refl, hm, hh, n1, Option.bind_some, bne_refl, if_true, if_false, Bool.false_eq_true]
    simp (maxSteps := 4000000) (disch := omega) only [laws_FnExactDropTop.j2, hh, n1, Option.bind_some, if_true, if_false, Bool.false_eq_true]
  · rw [if_neg hb] at hsz
    unfold laws_FnExactDropTop.f
    rw [hsz, Option.bind_some, if_pos (by decide)]

end Go.Proofs.Ytigijeedekjeiaa.Pure

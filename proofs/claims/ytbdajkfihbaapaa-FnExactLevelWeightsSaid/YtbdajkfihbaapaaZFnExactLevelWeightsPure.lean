/- The pure statement of the law FnExactLevelWeights: what the law computes, as a function over numbers and lists, answers true for every input. No conditions beyond the ranges of Go's int. -/
import Derived.Test.YtbdajkfihbaapaaZFnExactLevelWeightsx12
set_option linter.unusedVariables false
set_option linter.unusedSimpArgs false
namespace Go.Proofs.Ytbdajkfihbaapaa.Pure
open Go.RowKit Go.Proofs.YtbdajkfihbaapaaW.PrintWords Go.Proofs.YtbdajkfihbaapaaW.PrintLast Go.Proofs.Ytbdajkfihbaapaa.PFnExactLevelWeights

theorem wrap_id {x : Int} (h0 : -9223372036854775808 ≤ x) (h1 : x ≤ 9223372036854775807) : wrap64 x = x := by
  unfold wrap64
  omega
theorem wf64 {x : Int} (h : (Lit.int .i64 x).wf = true) : -9223372036854775808 ≤ x ∧ x ≤ 9223372036854775807 := by
  simp [Lit.wf, IntKind.min, IntKind.max, IntKind.signed, IntKind.bits] at h
  omega
theorem l1In_eq (a b c : Int) : spec_l1In.f a b c = some (decide (b ≤ a ∧ a ≤ c)) := by
  unfold spec_l1In.f
  split <;> simp_all
  omega
theorem within_eq (a b c : Int) : impl_within.f a b c = some (decide (b ≤ a ∧ a ≤ c)) := by
  unfold impl_within.f
  split <;> simp_all
  omega
theorem snocI {α : Type} (p : List α) (x : α) (h : p.length < 9223372036854775807) : wrap64 ((p.length : Int) + 1) = ((p ++ [x]).length : Int) := by
  rw [wrap_id (by omega) (by omega)]
  simp
theorem sz_id (n : Nat) (h : n ≤ 9223372036854775807) : wrap64 (1048576 - (n : Int)) = 1048576 - (n : Int) := wrap_id (by omega) (by omega)
theorem set_rep {α : Type} (q : List α) (z y : α) (n : Nat) : (q ++ List.replicate (n + 1) z).set q.length y = (q ++ [y]) ++ List.replicate n z := by
  rw [List.set_append_right _ _ (Nat.le_refl _), Nat.sub_self]
  simp [List.replicate_succ]
abbrev R := S58
theorem rdT (p s : List R) (x : R) : rd_T58 (p ++ x :: s) ((p.length : Int)) = x := by
  simp [rd_T58]
def Wf (h : Int) : Prop := -9223372036854775808 ≤ h ∧ h ≤ 9223372036854775807
def WfR (l : List R) : Prop := ∀ x ∈ l, Wf x.f0 ∧ Wf x.f1
def armOk (a : Int) : Bool := decide (1 ≤ a ∧ a ≤ 12)
def leafOk (h : Int) : Bool := decide (1 ≤ h ∧ h ≤ 99)
def endOk (i n h : Int) : Bool := leafOk h || decide (i + 1 ≤ -h ∧ -h ≤ n - 1)
def bump (T : List Int) (h : Int) : List Int := if h < 0 then T.set (-h).toNat (wrap64 (rd T (-h) + 1)) else T
def allOne (T : List Int) : Bool := T.all (fun t => decide (t = 1))
def gS (n : Int) : Int → List R → List R → List Int → Bool
  | i, a :: us, h :: hs, T => (armOk a.f0 && endOk i n h.f0) && ((armOk a.f1 && endOk i n h.f1) && gS n (i + 1) us hs (bump (bump T h.f0) h.f1))
  | _, _, _, T => allOne T
def seeOk (i n : Int) (B : List Bool) (h : Int) : Bool := leafOk h || (decide (i + 1 ≤ -h ∧ -h ≤ n - 1) && !(rdOf false B (-h)))
def mark (B : List Bool) (h : Int) : List Bool := if h < 0 then B.set (-h).toNat true else B
def gI (n : Int) : Int → List R → List R → List Bool → Bool
  | i, a :: us, h :: hs, B => (armOk a.f0 && armOk a.f1) && (seeOk i n B h.f0 && (seeOk i n (mark B h.f0) h.f1 && gI n (i + 1) us hs (mark (mark B h.f0) h.f1)))
  | _, _, _, B => (B.drop 1).all id
theorem bump_length (T : List Int) (h : Int) : (bump T h).length = T.length := by unfold bump; split <;> simp
theorem mark_length (B : List Bool) (h : Int) : (mark B h).length = B.length := by unfold mark; split <;> simp
/-- A rod that hangs twice spoils a mobile. -/
def big (m : Int) (T : List Int) : Prop := ∃ j, 2 ≤ T.getD j 0 ∧ T.getD j 0 ≤ m
theorem big_bump {m : Int} {T : List Int} (h : Int) (hm : m ≤ 1000000) (hb : big m T) : big (m + 1) (bump T h) := by
  obtain ⟨j, h1, h2⟩ := hb
  refine ⟨j, ?_⟩
  unfold bump
  by_cases h0 : h < 0
  · rw [if_pos h0]
    by_cases hj : (-h).toNat = j
    · have hl : j < T.length := by
        rcases Nat.lt_or_ge j T.length with hl | hl
        · exact hl
        · rw [List.getD_eq_getElem?_getD, List.getElem?_eq_none hl] at h1
          simp at h1
      have e : (T.set (-h).toNat (wrap64 (rd T (-h) + 1))).getD j 0 = T.getD j 0 + 1 := by
        rw [List.getD_eq_getElem?_getD, List.getElem?_set, if_pos hj, if_pos (by omega)]
        simp only [rd, hj, Option.getD_some]
        exact wrap_id (by omega) (by omega)
      rw [e]
      omega
    · have e : (T.set (-h).toNat (wrap64 (rd T (-h) + 1))).getD j 0 = T.getD j 0 := by
        rw [List.getD_eq_getElem?_getD, List.getElem?_set, if_neg hj, List.getD_eq_getElem?_getD]
      rw [e]
      omega
  · rw [if_neg h0]
    omega
theorem big_one {m : Int} {T : List Int} (hb : big m T) : allOne T = false := by
  obtain ⟨j, h1, h2⟩ := hb
  have hl : j < T.length := by
    rcases Nat.lt_or_ge j T.length with hl | hl
    · exact hl
    · rw [List.getD_eq_getElem?_getD, List.getElem?_eq_none hl] at h1
      simp at h1
  rw [List.getD_eq_getElem?_getD, List.getElem?_eq_getElem hl] at h1
  unfold allOne
  rw [List.all_eq_false]
  refine ⟨T[j], List.getElem_mem hl, ?_⟩
  simp at h1 ⊢
  omega
theorem gS_big (n : Int) : ∀ (us hs : List R) (i m : Int) (T : List Int), m + 2 * us.length ≤ 1000000 → big m T → gS n i us hs T = false := by
  intro us
  induction us with
  | nil => intro hs i m T hm hb; unfold gS; exact big_one hb
  | cons a us ih =>
    intro hs i m T hm hb
    cases hs with
    | nil => unfold gS; exact big_one hb
    | cons h hs =>
      simp only [List.length_cons, Int.natCast_add, Int.natCast_one] at hm
      simp only [gS]
      rw [ih hs (i + 1) (m + 1 + 1) _ (by omega) (big_bump _ (by omega) (big_bump _ (by omega) hb))]
      simp
def tOf : List Bool → List Int
  | [] => []
  | _ :: bs => 1 :: bs.map (fun b => if b then 1 else 0)
theorem tOf_length (B : List Bool) : (tOf B).length = B.length := by cases B <;> simp [tOf]
theorem tOf_rd (B : List Bool) (j : Nat) (hj : j + 1 < B.length) : (tOf B).getD (j + 1) 0 = if B.getD (j + 1) false then 1 else 0 := by
  cases B with
  | nil => simp at hj
  | cons b bs =>
    simp only [List.length_cons] at hj
    have h2 : j < bs.length := by omega
    simp [tOf, List.getD_eq_getElem?_getD, List.getElem?_eq_getElem h2]
theorem bump_mark (B : List Bool) (i n h : Int) (hi : 0 ≤ i) (hn : n = B.length) (hs : seeOk i n B h = true) : bump (tOf B) h = tOf (mark B h) := by
  unfold bump mark
  by_cases h0 : h < 0
  · rw [if_pos h0, if_pos h0]
    simp only [seeOk, leafOk, Bool.or_eq_true, Bool.and_eq_true, decide_eq_true_eq, Bool.not_eq_true'] at hs
    rcases hs with hs | hs
    · omega
    · obtain ⟨j, hj⟩ : ∃ j : Nat, (-h).toNat = j + 1 := ⟨(-h).toNat - 1, by omega⟩
      have hl : j + 1 < B.length := by omega
      have e1 := tOf_rd B j hl
      have e2 : B.getD (j + 1) false = false := by rw [← hj]; exact hs.2
      rw [e2] at e1
      simp only [rd, hj]
      rw [e1]
      rw [show wrap64 ((if false = true then (1 : Int) else 0) + 1) = 1 from wrap_id (by simp) (by simp)]
      cases B with
      | nil => simp at hl
      | cons b bs => simp [tOf, List.set_cons_succ, List.map_set]
  · rw [if_neg h0, if_neg h0]
theorem big_of (B : List Bool) (i n h : Int) (hi : 0 ≤ i) (hn : n = B.length) (he : endOk i n h = true) (hs : seeOk i n B h = false) : big 2 (bump (tOf B) h) := by
  simp only [seeOk, endOk, Bool.or_eq_true, Bool.or_eq_false_iff] at hs he
  rw [hs.1] at he
  simp only [Bool.false_eq_true, false_or, decide_eq_true_eq] at he
  have hb : rdOf false B (-h) = true := by simpa [he] using hs.2
  obtain ⟨j, hj⟩ : ∃ j : Nat, (-h).toNat = j + 1 := ⟨(-h).toNat - 1, by omega⟩
  have hl : j + 1 < B.length := by omega
  have e1 := tOf_rd B j hl
  have e2 : B.getD (j + 1) false = true := by rw [← hj]; exact hb
  rw [e2, if_pos rfl] at e1
  refine ⟨j + 1, ?_⟩
  unfold bump
  rw [if_pos (by omega)]
  simp only [rd, hj]
  rw [e1, List.getD_eq_getElem?_getD, List.getElem?_set, if_pos rfl, if_pos (by rw [tOf_length]; exact hl)]
  rw [show wrap64 (1 + 1) = 2 from wrap_id (by omega) (by omega)]
  simp
theorem see_end {i n : Int} {B : List Bool} {h : Int} (hs : seeOk i n B h = true) : endOk i n h = true := by
  unfold seeOk at hs
  unfold endOk
  revert hs
  cases leafOk h <;> simp
  intro h1 h2 _
  exact ⟨h1, h2⟩
theorem gS_gI (n : Int) : ∀ (us hs : List R) (i : Int) (B : List Bool), 0 ≤ i → n = B.length → 1 ≤ n → us.length ≤ 1000 → gS n i us hs (tOf B) = gI n i us hs B := by
  intro us
  have base : ∀ B : List Bool, n = B.length → 1 ≤ n → allOne (tOf B) = (B.drop 1).all id := by
    intro B h1 h2
    cases B with
    | nil => simp at h1; omega
    | cons b bs =>
      simp only [allOne, tOf, List.all_cons, decide_true, Bool.true_and, List.all_map, List.drop_succ_cons, List.drop_zero]
      congr 1
      funext x
      cases x <;> simp
  induction us with
  | nil => intro hs i B hi hn h1 _; unfold gS gI; exact base B hn h1
  | cons a us ih =>
    intro hs i B hi hn h1 hl
    simp only [List.length_cons] at hl
    cases hs with
    | nil => unfold gS gI; exact base B hn h1
    | cons h hs =>
      simp only [gS, gI]
      by_cases c0 : armOk a.f0 = true
      · by_cases c1 : armOk a.f1 = true
        · by_cases s0 : seeOk i n B h.f0 = true
          · have b0 := bump_mark B i n h.f0 hi hn s0
            have hn2 : n = (mark B h.f0).length := by rw [mark_length]; exact hn
            by_cases s1 : seeOk i n (mark B h.f0) h.f1 = true
            · have b1 := bump_mark (mark B h.f0) i n h.f1 hi hn2 s1
              rw [c0, c1, s0, s1, see_end s0, see_end s1, b0, b1, ih hs (i + 1) _ (by omega) (by rw [mark_length]; exact hn2) h1 (by omega)]
              simp
            · rw [Bool.not_eq_true] at s1
              rw [s1]
              by_cases e1 : endOk i n h.f1 = true
              · have g := big_of (mark B h.f0) i n h.f1 hi hn2 e1 s1
                rw [b0, gS_big n us hs (i + 1) 2 _ (by omega) g]
                simp
              · rw [Bool.not_eq_true] at e1
                rw [e1]
                simp
          · rw [Bool.not_eq_true] at s0
            rw [s0]
            by_cases e0 : endOk i n h.f0 = true
            · have g := big_of B i n h.f0 hi hn e0 s0
              rw [gS_big n us hs (i + 1) 3 _ (by omega) (big_bump _ (by omega) g)]
              simp
            · rw [Bool.not_eq_true] at e0
              rw [e0]
              simp
        · rw [Bool.not_eq_true] at c1
          rw [c1]
          simp
      · rw [Bool.not_eq_true] at c0
        rw [c0]
        simp
theorem arm_spec (x : Int) : spec_l1In.f x 1 12 = some (armOk x) := l1In_eq x 1 12
theorem l5End_eq (i n h : Int) (hi : 0 ≤ i ∧ i ≤ 100) (hn : 0 ≤ n ∧ n ≤ 100) (hw : Wf h) : spec_l5End.f i h n = some (endOk i n h) := by
  unfold Wf at hw
  unfold spec_l5End.f endOk leafOk
  rw [l1In_eq, Option.bind_some, l1In_eq]
  by_cases h1 : 1 ≤ h ∧ h ≤ 99
  · simp [h1]
  · rw [decide_eq_false h1, if_neg (by simp), Option.bind_some, Bool.false_or, wrap_id (x := i + 1) (by omega) (by omega), wrap_id (x := n - 1) (by omega) (by omega)]
    by_cases h2 : i + 1 ≤ -h ∧ -h ≤ n - 1
    · rw [wrap_id (x := -h) (by omega) (by omega)]
      have h3 : h < 0 := by omega
      simp [h2, h3]
    · have h3 : ¬ (i + 1 ≤ wrap64 (-h) ∧ wrap64 (-h) ≤ n - 1) := by
        unfold wrap64
        omega
      rw [decide_eq_false h3, decide_eq_false h2, if_neg (by simp)]
theorem child {i n h : Int} (he : endOk i n h = true) (h0 : h < 0) : i + 1 ≤ -h ∧ -h ≤ n - 1 := by
  simp only [endOk, leafOk, Bool.or_eq_true, decide_eq_true_eq] at he
  omega
theorem s_l1_0 (n i : Int) (T : List Int) (A H : List R) (a h : R) (k : Nat) (hA : rd_T58 A i = a) (hH : rd_T58 H i = h) (c0 : 0 ≤ i) (c1 : i < A.length) (c2 : i < H.length) (hi : i ≤ 100) (hn : 0 ≤ n ∧ n ≤ 100) (hT : (T.length : Int) = n) (hw : Wf h.f0) :
    spec_l5Good.l1 (k + 2) n T i 0 A H = if (armOk a.f0 && endOk i n h.f0) = true then spec_l5Good.l1 k n (bump T h.f0) i 1 A H else some false := by
  have e := l5End_eq i n h.f0 ⟨c0, hi⟩ hn hw
  have w1 : wrap64 (0 + 1) = 1 := wrap_id (by omega) (by omega)
  by_cases h1 : armOk a.f0 = true
  · by_cases h2 : endOk i n h.f0 = true
    · by_cases h3 : h.f0 < 0
      · have ch := child h2 h3
        have w := wrap_id (x := -h.f0) (by omega) (by omega)
        have r0 : 0 ≤ -h.f0 := by omega
        have r1 : -h.f0 < (T.length : Int) := by omega
        rw [show spec_l5Good.l1 (k + 2) n T i 0 A H = spec_l5Good.j3 (k + 1) n T i 0 (!true) A H from by simp only [spec_l5Good.l1, c0, c1, c2, hA, hH, arm_spec, e, h1, h2, Option.bind_some, if_true, Int.reduceLT]]
        simp only [spec_l5Good.j3, c0, c2, hH, h1, h2, h3, w, r0, r1, w1, bump, Bool.and_self, Bool.not_true, Bool.false_eq_true, if_true, if_false]
      · rw [show spec_l5Good.l1 (k + 2) n T i 0 A H = spec_l5Good.j3 (k + 1) n T i 0 (!true) A H from by simp only [spec_l5Good.l1, c0, c1, c2, hA, hH, arm_spec, e, h1, h2, Option.bind_some, if_true, Int.reduceLT]]
        simp only [spec_l5Good.j3, c0, c2, hH, h1, h2, h3, w1, bump, Bool.and_self, Bool.not_true, Bool.false_eq_true, if_true, if_false]
    · rw [Bool.not_eq_true] at h2
      rw [show spec_l5Good.l1 (k + 2) n T i 0 A H = spec_l5Good.j3 (k + 1) n T i 0 (!false) A H from by simp only [spec_l5Good.l1, c0, c1, c2, hA, hH, arm_spec, e, h1, h2, Option.bind_some, if_true, Int.reduceLT]]
      simp only [spec_l5Good.j3, h1, h2, Bool.and_false, Bool.not_false, Bool.false_eq_true, if_true, if_false]
  · rw [Bool.not_eq_true] at h1
    rw [show spec_l5Good.l1 (k + 2) n T i 0 A H = spec_l5Good.j3 (k + 1) n T i 0 true A H from by simp only [spec_l5Good.l1, c0, c1, hA, arm_spec, h1, Option.bind_some, if_true, if_false, Bool.false_eq_true, Int.reduceLT]]
    simp only [spec_l5Good.j3, h1, Bool.false_and, Bool.false_eq_true, if_true, if_false]
theorem s_l1_1 (n i : Int) (T : List Int) (A H : List R) (a h : R) (k : Nat) (hA : rd_T58 A i = a) (hH : rd_T58 H i = h) (c0 : 0 ≤ i) (c1 : i < A.length) (c2 : i < H.length) (hi : i ≤ 100) (hn : 0 ≤ n ∧ n ≤ 100) (hT : (T.length : Int) = n) (hw : Wf h.f1) :
    spec_l5Good.l1 (k + 2) n T i 1 A H = if (armOk a.f1 && endOk i n h.f1) = true then spec_l5Good.l1 k n (bump T h.f1) i 2 A H else some false := by
  have e := l5End_eq i n h.f1 ⟨c0, hi⟩ hn hw
  have w1 : wrap64 (1 + 1) = 2 := wrap_id (by omega) (by omega)
  have q : ¬ ((1 : Int) = 0) := by omega
  by_cases h1 : armOk a.f1 = true
  · by_cases h2 : endOk i n h.f1 = true
    · by_cases h3 : h.f1 < 0
      · have ch := child h2 h3
        have w := wrap_id (x := -h.f1) (by omega) (by omega)
        have r0 : 0 ≤ -h.f1 := by omega
        have r1 : -h.f1 < (T.length : Int) := by omega
        rw [show spec_l5Good.l1 (k + 2) n T i 1 A H = spec_l5Good.j3 (k + 1) n T i 1 (!true) A H from by simp only [spec_l5Good.l1, c0, c1, c2, hA, hH, arm_spec, e, h1, h2, q, Option.bind_some, if_true, if_false, Int.reduceLT]]
        simp only [spec_l5Good.j3, c0, c2, hH, h1, h2, h3, w, r0, r1, w1, q, bump, Bool.and_self, Bool.not_true, Bool.false_eq_true, if_true, if_false]
      · rw [show spec_l5Good.l1 (k + 2) n T i 1 A H = spec_l5Good.j3 (k + 1) n T i 1 (!true) A H from by simp only [spec_l5Good.l1, c0, c1, c2, hA, hH, arm_spec, e, h1, h2, q, Option.bind_some, if_true, if_false, Int.reduceLT]]
        simp only [spec_l5Good.j3, c0, c2, hH, h1, h2, h3, w1, q, bump, Bool.and_self, Bool.not_true, Bool.false_eq_true, if_true, if_false]
    · rw [Bool.not_eq_true] at h2
      rw [show spec_l5Good.l1 (k + 2) n T i 1 A H = spec_l5Good.j3 (k + 1) n T i 1 (!false) A H from by simp only [spec_l5Good.l1, c0, c1, c2, hA, hH, arm_spec, e, h1, h2, q, Option.bind_some, if_true, if_false, Int.reduceLT]]
      simp only [spec_l5Good.j3, h1, h2, Bool.and_false, Bool.not_false, Bool.false_eq_true, if_true, if_false]
  · rw [Bool.not_eq_true] at h1
    rw [show spec_l5Good.l1 (k + 2) n T i 1 A H = spec_l5Good.j3 (k + 1) n T i 1 true A H from by simp only [spec_l5Good.l1, c0, c1, hA, arm_spec, h1, q, Option.bind_some, if_true, if_false, Bool.false_eq_true, Int.reduceLT]]
    simp only [spec_l5Good.j3, h1, Bool.false_and, Bool.false_eq_true, if_true, if_false]
theorem s_l2 (n : Int) : ∀ (s p : List Int) (k : Nat), ((p ++ s).length : Int) = n → n ≤ 100 → s.length < k → spec_l5Good.l2 k n (p ++ s) (p.length : Int) = some (allOne s) := by
  intro s
  induction s with
  | nil =>
    intro p k hn h1 hk
    obtain ⟨k, rfl⟩ : ∃ m, k = m + 1 := ⟨k - 1, by simp at hk; omega⟩
    simp only [spec_l5Good.l2]
    rw [if_neg (by simp at hn; omega)]
    rfl
  | cons x s ih =>
    intro p k hn h1 hk
    obtain ⟨k, rfl⟩ : ∃ m, k = m + 1 := ⟨k - 1, by simp at hk; omega⟩
    have hr : rd (p ++ x :: s) (p.length : Int) = x := by simp [rd]
    simp only [spec_l5Good.l2]
    rw [if_pos (by simp at hn; omega), if_pos (by omega), if_pos (by simp at hn ⊢; omega), hr, snocI p x (by simp at hn; omega), List.append_cons p x s, ih (p ++ [x]) k (by simpa using hn) h1 (by simp at hk; omega)]
    by_cases hx : x = 1 <;> simp [allOne, hx]
theorem s_l0 (n : Int) : ∀ (us hs : List R) (p q : List R) (T : List Int) (k : Nat), p.length = q.length → us.length = hs.length → ((p ++ us).length : Int) = n → n ≤ 6 → (T.length : Int) = n → WfR hs → 6 * us.length + 20 ≤ k →
    spec_l5Good.l0 k n T (p.length : Int) (p ++ us) (q ++ hs) = some (gS n (p.length : Int) us hs T) := by
  intro us
  induction us with
  | nil =>
    intro hs p q T k hpq hl hn h6 hT hw hk
    obtain ⟨k, rfl⟩ : ∃ m, k = m + 1 := ⟨k - 1, by omega⟩
    simp only [spec_l5Good.l0, gS]
    rw [if_neg (by simp at hn; omega)]
    exact s_l2 n T [] k hT (by omega) (by omega)
  | cons a us ih =>
    intro hs p q T k hpq hl hn h6 hT hw hk
    cases hs with
    | nil => simp at hl
    | cons h hs =>
      simp only [List.length_cons] at hk
      obtain ⟨k, rfl⟩ : ∃ m, k = m + 6 := ⟨k - 6, by omega⟩
      have hA := rdT p us a
      have hH : rd_T58 (q ++ h :: hs) (p.length : Int) = h := by rw [hpq]; exact rdT q hs h
      have hw0 := hw h (by simp)
      simp only [List.length_append, List.length_cons, Int.natCast_add, Int.natCast_one] at hn
      simp only [List.length_cons] at hl
      have d1 : (p.length : Int) < ((p ++ a :: us).length : Int) := by simp; omega
      have d2 : (p.length : Int) < ((q ++ h :: hs).length : Int) := by simp; omega
      have d3 : (p.length : Int) < n := by omega
      rw [show spec_l5Good.l0 (k + 6) n T (p.length : Int) (p ++ a :: us) (q ++ h :: hs) = spec_l5Good.l1 (k + 5) n T (p.length : Int) 0 (p ++ a :: us) (q ++ h :: hs) from by simp only [spec_l5Good.l0, d3, if_true]]
      rw [s_l1_0 n _ T _ _ a h (k + 3) hA hH (by omega) d1 d2 (by omega) (by omega) hT hw0.1]
      simp only [gS]
      by_cases g0 : (armOk a.f0 && endOk (p.length : Int) n h.f0) = true
      · rw [if_pos g0, g0, s_l1_1 n _ _ _ _ a h (k + 1) hA hH (by omega) d1 d2 (by omega) (by omega) (by rw [bump_length]; exact hT) hw0.2]
        by_cases g1 : (armOk a.f1 && endOk (p.length : Int) n h.f1) = true
        · rw [if_pos g1, g1]
          rw [show spec_l5Good.l1 (k + 1) n (bump (bump T h.f0) h.f1) (p.length : Int) 2 (p ++ a :: us) (q ++ h :: hs) = spec_l5Good.l0 k n (bump (bump T h.f0) h.f1) (wrap64 ((p.length : Int) + 1)) (p ++ a :: us) (q ++ h :: hs) from by simp only [spec_l5Good.l1, Int.reduceLT, if_false]]
          rw [snocI p a (by omega), List.append_cons p a us, List.append_cons q h hs]
          rw [ih hs (p ++ [a]) (q ++ [h]) _ k (by simp [hpq]) (by omega) (by simp; omega) h6 (by rw [bump_length, bump_length]; exact hT) (fun x hx => hw x (by simp [hx])) (by omega)]
          simp
        · rw [if_neg g1]
          rw [Bool.not_eq_true] at g1
          rw [g1]
          simp
      · rw [if_neg g0]
        rw [Bool.not_eq_true] at g0
        rw [g0]
        simp
theorem isArm_eq (a : Int) : impl_isArm.f a = some (armOk a) := by simp only [impl_isArm.f, within_eq, Option.bind_some, armOk]
theorem isLeaf_eq (a : Int) : impl_isWeight.f a = some (leafOk a) := by simp only [impl_isWeight.f, within_eq, Option.bind_some, leafOk]
theorem kid_eq (i n h : Int) (hi : 0 ≤ i ∧ i ≤ 100) (hn : 0 ≤ n ∧ n ≤ 100) : impl_within.f h (wrap64 (1 - n)) (wrap64 (wrap64 (-i) - 1)) = some (decide (i + 1 ≤ -h ∧ -h ≤ n - 1)) := by
  rw [within_eq, wrap_id (x := 1 - n) (by omega) (by omega), wrap_id (x := -i) (by omega) (by omega), wrap_id (x := -i - 1) (by omega) (by omega)]
  congr 1
  apply decide_eq_decide.2
  omega
theorem i_l1_0 (n i len : Int) (B : List Bool) (A L H : List R) (u v : Int) (k : Nat) (c0 : 0 ≤ i) (hi : i ≤ 100) (hn : 0 ≤ n ∧ n ≤ 100) (hB : (B.length : Int) = n) :
    impl_IsMobile.l1 (k + 1) n B i A len i 0 L H u v = if seeOk i n B u = true then impl_IsMobile.l1 k n (mark B u) i A len i 1 L H u v else some false := by
  have w1 : wrap64 (0 + 1) = 1 := wrap_id (by omega) (by omega)
  by_cases h1 : leafOk u = true
  · have h3 : ¬ u < 0 := by simp [leafOk] at h1; omega
    simp only [impl_IsMobile.l1, isLeaf_eq, h1, h3, w1, seeOk, mark, Bool.true_or, Option.bind_some, if_true, if_false, Int.reduceLT]
  · rw [Bool.not_eq_true] at h1
    by_cases h2 : i + 1 ≤ -u ∧ -u ≤ n - 1
    · have w := wrap_id (x := -u) (by omega) (by omega)
      have r0 : 0 ≤ -u := by omega
      have r1 : -u < (B.length : Int) := by omega
      have h3 : u < 0 := by omega
      cases hb : rdOf false B (-u) <;> simp only [impl_IsMobile.l1, isLeaf_eq, kid_eq i n u ⟨c0, hi⟩ hn, h1, h2, h3, hb, w, r0, r1, w1, seeOk, mark, Bool.false_or, Bool.true_and, Bool.not_true, Bool.not_false, and_self, decide_true, Option.bind_some, if_true, if_false, Bool.false_eq_true, Int.reduceLT]
    · simp only [impl_IsMobile.l1, isLeaf_eq, kid_eq i n u ⟨c0, hi⟩ hn, h1, h2, seeOk, Bool.false_or, Bool.false_and, decide_false, Option.bind_some, if_true, if_false, Bool.false_eq_true, Int.reduceLT]
theorem i_l1_1 (n i len : Int) (B : List Bool) (A L H : List R) (u v : Int) (k : Nat) (c0 : 0 ≤ i) (hi : i ≤ 100) (hn : 0 ≤ n ∧ n ≤ 100) (hB : (B.length : Int) = n) :
    impl_IsMobile.l1 (k + 1) n B i A len i 1 L H u v = if seeOk i n B v = true then impl_IsMobile.l1 k n (mark B v) i A len i 2 L H u v else some false := by
  have w1 : wrap64 (1 + 1) = 2 := wrap_id (by omega) (by omega)
  have q : ¬ ((1 : Int) = 0) := by omega
  by_cases h1 : leafOk v = true
  · have h3 : ¬ v < 0 := by simp [leafOk] at h1; omega
    simp only [impl_IsMobile.l1, isLeaf_eq, h1, h3, w1, q, seeOk, mark, Bool.true_or, Option.bind_some, if_true, if_false, Int.reduceLT]
  · rw [Bool.not_eq_true] at h1
    by_cases h2 : i + 1 ≤ -v ∧ -v ≤ n - 1
    · have w := wrap_id (x := -v) (by omega) (by omega)
      have r0 : 0 ≤ -v := by omega
      have r1 : -v < (B.length : Int) := by omega
      have h3 : v < 0 := by omega
      cases hb : rdOf false B (-v) <;> simp only [impl_IsMobile.l1, isLeaf_eq, kid_eq i n v ⟨c0, hi⟩ hn, h1, h2, h3, hb, w, r0, r1, w1, q, seeOk, mark, Bool.false_or, Bool.true_and, Bool.not_true, Bool.not_false, and_self, decide_true, Option.bind_some, if_true, if_false, Bool.false_eq_true, Int.reduceLT]
    · simp only [impl_IsMobile.l1, isLeaf_eq, kid_eq i n v ⟨c0, hi⟩ hn, h1, h2, q, seeOk, Bool.false_or, Bool.false_and, decide_false, Option.bind_some, if_true, if_false, Bool.false_eq_true, Int.reduceLT]
theorem Index_l0 : ∀ (s p : List Bool) (k : Nat), (p ++ s).length < 1000 → s.length < k → ∃ r, slices_Index_bool_bool.l0 k (p ++ s) false ((p ++ s).length : Int) (p.length : Int) = some r ∧ decide (r ≥ 0) = !(s.all id) := by
  intro s
  induction s with
  | nil =>
    intro p k hl hk
    obtain ⟨k, rfl⟩ : ∃ m, k = m + 1 := ⟨k - 1, by simp at hk; omega⟩
    simp only [slices_Index_bool_bool.l0]
    rw [if_neg (by simp)]
    exact ⟨-1, rfl, by simp⟩
  | cons x s ih =>
    intro p k hl hk
    obtain ⟨k, rfl⟩ : ∃ m, k = m + 1 := ⟨k - 1, by simp at hk; omega⟩
    have hr : rdOf false (p ++ x :: s) (p.length : Int) = x := by simp [rdOf]
    simp only [slices_Index_bool_bool.l0]
    rw [if_pos (by simp; omega), if_pos (by omega), if_pos (by simp; omega), hr]
    cases x with
    | false =>
      rw [if_pos (by decide)]
      exact ⟨_, rfl, by simp⟩
    | true =>
      rw [if_neg (by decide), snocI p true (by simp at hl; omega), List.append_cons p true s]
      obtain ⟨r, h1, h2⟩ := ih (p ++ [true]) k (by simpa using hl) (by simp at hk; omega)
      exact ⟨r, h1, by rw [h2]; simp⟩
theorem Contains_eq (l : List Bool) (k : Nat) (hl : l.length < 1000) (hk : l.length < k) : slices_Contains_bool_bool.f k l false = some (!(l.all id)) := by
  unfold slices_Contains_bool_bool.f slices_Index_bool_bool.f
  obtain ⟨r, h1, h2⟩ := Index_l0 l [] k hl hk
  have h3 : slices_Index_bool_bool.l0 k l false (l.length : Int) 0 = some r := h1
  rw [h3, Option.bind_some, h2]
theorem i_l0 (n : Int) : ∀ (us hs : List R) (p q : List R) (B : List Bool) (k : Nat), p.length = q.length → us.length = hs.length → ((p ++ us).length : Int) = n → 1 ≤ n → n ≤ 6 → (B.length : Int) = n → 6 * us.length + 20 ≤ k →
    impl_IsMobile.l0 k n B (p ++ us) n (p.length : Int) (p ++ us) (q ++ hs) = some (gI n (p.length : Int) us hs B) := by
  intro us
  induction us with
  | nil =>
    intro hs p q B k hpq hl hn h1 h6 hB hk
    obtain ⟨k, rfl⟩ : ∃ m, k = m + 1 := ⟨k - 1, by omega⟩
    simp only [impl_IsMobile.l0, gI]
    rw [if_neg (by simp at hn; omega), if_pos (by omega), Contains_eq _ k (by simp; omega) (by simp; omega)]
    simp
  | cons a us ih =>
    intro hs p q B k hpq hl hn h1 h6 hB hk
    cases hs with
    | nil => simp at hl
    | cons h hs =>
      simp only [List.length_cons] at hk
      obtain ⟨k, rfl⟩ : ∃ m, k = m + 6 := ⟨k - 6, by omega⟩
      have hA := rdT p us a
      have hH : rd_T58 (q ++ h :: hs) (p.length : Int) = h := by rw [hpq]; exact rdT q hs h
      simp only [List.length_append, List.length_cons, Int.natCast_add, Int.natCast_one] at hn
      simp only [List.length_cons] at hl
      have d0 : 0 ≤ (p.length : Int) := by omega
      have d1 : (p.length : Int) < ((p ++ a :: us).length : Int) := by simp; omega
      have d2 : (p.length : Int) < ((q ++ h :: hs).length : Int) := by simp; omega
      have d3 : (p.length : Int) < n := by omega
      simp only [gI]
      by_cases g0 : (armOk a.f0 && armOk a.f1) = true
      · have g0' := g0
        simp only [Bool.and_eq_true] at g0'
        rw [g0]
        rw [show impl_IsMobile.l0 (k + 6) n B (p ++ a :: us) n (p.length : Int) (p ++ a :: us) (q ++ h :: hs) = impl_IsMobile.l1 (k + 4) n B (p.length : Int) (p ++ a :: us) n (p.length : Int) 0 (p ++ a :: us) (q ++ h :: hs) h.f0 h.f1 from by simp only [impl_IsMobile.l0, impl_IsMobile.j2, hA, hH, isArm_eq, d0, d1, d2, d3, g0'.1, g0'.2, Bool.not_true, Option.bind_some, if_true, if_false, Bool.false_eq_true]]
        rw [i_l1_0 n _ n B _ _ _ _ _ (k + 3) d0 (by omega) (by omega) hB]
        by_cases s0 : seeOk (p.length : Int) n B h.f0 = true
        · rw [if_pos s0, s0, i_l1_1 n _ n _ _ _ _ _ _ (k + 2) d0 (by omega) (by omega) (by rw [mark_length]; exact hB)]
          by_cases s1 : seeOk (p.length : Int) n (mark B h.f0) h.f1 = true
          · rw [if_pos s1, s1]
            rw [show impl_IsMobile.l1 (k + 2) n (mark (mark B h.f0) h.f1) (p.length : Int) (p ++ a :: us) n (p.length : Int) 2 (p ++ a :: us) (q ++ h :: hs) h.f0 h.f1 = impl_IsMobile.l0 (k + 1) n (mark (mark B h.f0) h.f1) (p ++ a :: us) n (wrap64 ((p.length : Int) + 1)) (p ++ a :: us) (q ++ h :: hs) from by simp only [impl_IsMobile.l1, Int.reduceLT, if_false]]
            rw [snocI p a (by omega), List.append_cons p a us, List.append_cons q h hs]
            rw [ih hs (p ++ [a]) (q ++ [h]) _ (k + 1) (by simp [hpq]) (by omega) (by simp; omega) h1 h6 (by rw [mark_length, mark_length]; exact hB) (by omega)]
            simp
          · rw [if_neg s1]
            rw [Bool.not_eq_true] at s1
            rw [s1]
            simp
        · rw [if_neg s0]
          rw [Bool.not_eq_true] at s0
          rw [s0]
          simp
      · rw [Bool.not_eq_true] at g0
        rw [g0]
        cases x0 : armOk a.f0
        · simp only [impl_IsMobile.l0, impl_IsMobile.j2, hA, isArm_eq, d0, d1, d3, x0, Bool.false_and, Option.bind_some, if_true, if_false, Bool.false_eq_true]
        · rw [x0, Bool.true_and] at g0
          simp only [impl_IsMobile.l0, impl_IsMobile.j2, hA, isArm_eq, d0, d1, d3, x0, g0, Bool.not_false, Bool.false_and, Option.bind_some, if_true, if_false, Bool.false_eq_true]
/-- Whether a mobile is valid. -/
def good (A H : List R) : Bool := decide (1 ≤ (A.length : Int) ∧ (A.length : Int) ≤ 6) && (decide (H.length = A.length) && gI (A.length : Int) 0 A H (List.replicate A.length false))
theorem l5Good_eq (A H : List R) (k : Nat) (hw : WfR H) (hk : 100 ≤ k) : spec_l5Good.f k A H = some (good A H) := by
  obtain ⟨k, rfl⟩ : ∃ m, k = m + 1 := ⟨k - 1, by omega⟩
  unfold spec_l5Good.f good
  rw [l1In_eq, Option.bind_some]
  by_cases h1 : 1 ≤ (A.length : Int) ∧ (A.length : Int) ≤ 6
  · by_cases h2 : H.length = A.length
    · have e : ((H.length : Int) != (A.length : Int)) = false := by simp [h2]
      have r : ((A.length : Int)).toNat = A.length := by omega
      obtain ⟨n, hn⟩ : ∃ n, A.length = n + 1 := ⟨A.length - 1, by omega⟩
      have t : (List.replicate A.length (0 : Int)).set (0 : Int).toNat 1 = tOf (List.replicate A.length false) := by
        rw [hn]
        simp [List.replicate_succ, tOf]
      have b1 : 0 ≤ (A.length : Int) := by omega
      have b2 : A.length ≤ 35184372088832 := by omega
      have b3 : 0 < ((List.replicate A.length (0 : Int)).length : Int) := by simp; omega
      have g := s_l0 (A.length : Int) A H [] [] (tOf (List.replicate A.length false)) k rfl h2.symm rfl h1.2 (by rw [tOf_length]; simp) hw (by omega)
      simp only [List.nil_append, List.length_nil, Int.natCast_zero] at g
      simp only [h1, h2, and_self, decide_true, if_true, spec_l5Good.j0, e, Bool.false_eq_true, if_false, b1, r, b2, Option.bind_some, b3, t, g, Bool.true_and]
      rw [gS_gI _ A H 0 _ (by omega) (by simp) h1.1 (by omega)]
      simp
    · have e : ((H.length : Int) != (A.length : Int)) = true := by simp; omega
      simp only [h1, h2, and_self, decide_true, decide_false, if_true, spec_l5Good.j0, e, Bool.false_and, Bool.and_false]
  · simp only [h1, decide_false, Bool.false_eq_true, if_false, if_true, spec_l5Good.j0, Bool.false_and]
theorem IsMobile_eq (A H : List R) (k : Nat) (hk : 100 ≤ k) : impl_IsMobile.f k A H = some (good A H) := by
  obtain ⟨k, rfl⟩ : ∃ m, k = m + 1 := ⟨k - 1, by omega⟩
  unfold impl_IsMobile.f good
  rw [within_eq, Option.bind_some]
  by_cases h1 : 1 ≤ (A.length : Int) ∧ (A.length : Int) ≤ 6
  · by_cases h2 : H.length = A.length
    · have e : ((H.length : Int) != (A.length : Int)) = false := by simp [h2]
      have r : ((A.length : Int)).toNat = A.length := by omega
      have b1 : 0 ≤ (A.length : Int) := by omega
      have b2 : A.length ≤ 281474976710656 := by omega
      have g := i_l0 (A.length : Int) A H [] [] (List.replicate A.length false) k rfl h2.symm rfl h1.1 h1.2 (by simp) (by omega)
      simp only [List.nil_append, List.length_nil, Int.natCast_zero] at g
      simp only [h1, h2, and_self, decide_true, if_true, impl_IsMobile.j0, e, Bool.false_eq_true, if_false, b1, r, b2, g, Bool.true_and]
      simp
    · have e : ((H.length : Int) != (A.length : Int)) = true := by simp; omega
      simp only [h1, h2, and_self, decide_true, decide_false, if_true, impl_IsMobile.j0, e, Bool.false_and, Bool.and_false]
  · simp only [h1, decide_false, Bool.false_eq_true, if_false, if_true, impl_IsMobile.j0, Bool.false_and]
def nx (j : Nat) (h : Int) : Nat := if h > 0 then j + 1 else j
def cnt : List R → Nat
  | [] => 0
  | h :: hs => nx (nx 0 h.f0) h.f1 + cnt hs
theorem nx_add (j : Nat) (h : Int) : nx j h = j + nx 0 h := by
  unfold nx
  split <;> omega
/-- What a valid mobile is. -/
structure MOk (A H : List R) : Prop where
  len : 1 ≤ A.length ∧ A.length ≤ 6
  same : H.length = A.length
  arm : ∀ i : Nat, i < A.length → armOk (rd_T58 A i).f0 = true ∧ armOk (rd_T58 A i).f1 = true
  fin : ∀ i : Nat, i < A.length → endOk i A.length (rd_T58 H i).f0 = true ∧ endOk i A.length (rd_T58 H i).f1 = true
theorem rdT_cons (a : R) (us : List R) (i : Nat) : rd_T58 (a :: us) ((i + 1 : Nat) : Int) = rd_T58 us (i : Int) := by
  simp [rd_T58]
theorem rdT_zero (a : R) (us : List R) : rd_T58 (a :: us) ((0 : Nat) : Int) = a := by
  simp [rd_T58]
theorem gI_ok (n : Int) : ∀ (us hs : List R) (i : Int) (B : List Bool), us.length = hs.length → gI n i us hs B = true →
    ∀ j : Nat, j < us.length → (armOk (rd_T58 us j).f0 = true ∧ armOk (rd_T58 us j).f1 = true) ∧ (endOk (i + j) n (rd_T58 hs j).f0 = true ∧ endOk (i + j) n (rd_T58 hs j).f1 = true) := by
  intro us
  induction us with
  | nil => intro hs i B hl h j hj; simp at hj
  | cons a us ih =>
    intro hs i B hl h j hj
    cases hs with
    | nil => simp at hl
    | cons x hs =>
      simp only [gI, Bool.and_eq_true] at h
      cases j with
      | zero =>
        rw [rdT_zero, rdT_zero]
        simp only [Int.natCast_zero, Int.add_zero]
        exact ⟨h.1, see_end h.2.1, see_end h.2.2.1⟩
      | succ j =>
        rw [rdT_cons, rdT_cons]
        have e := ih hs (i + 1) _ (by simpa using hl) h.2.2.2 j (by simpa using hj)
        rw [show i + 1 + (j : Int) = i + ((j + 1 : Nat) : Int) from by omega] at e
        exact e
theorem good_ok {A H : List R} (h : good A H = true) : MOk A H := by
  simp only [good, Bool.and_eq_true, decide_eq_true_eq] at h
  have g := gI_ok (A.length : Int) A H 0 _ h.2.1.symm h.2.2
  exact ⟨by omega, h.2.1, fun i hi => (g i hi).1, fun i hi => by have := (g i hi).2; rw [Int.zero_add] at this; exact this⟩
def tc : List Bool → Nat
  | [] => 0
  | b :: bs => (if b then 1 else 0) + tc bs
theorem tc_set : ∀ (B : List Bool) (j : Nat), j < B.length → B.getD j false = false → tc (B.set j true) = tc B + 1 := by
  intro B
  induction B with
  | nil => intro j h; simp at h
  | cons b bs ih =>
    intro j h h0
    cases j with
    | zero =>
      simp at h0
      subst h0
      simp [tc]
      omega
    | succ j =>
      simp only [List.set_cons_succ, tc]
      rw [ih j (by simpa using h) (by simpa using h0)]
      omega
theorem tc_all : ∀ (B : List Bool), B.all id = true → tc B = B.length := by
  intro B
  induction B with
  | nil => intro _; rfl
  | cons b bs ih =>
    intro h
    simp only [List.all_cons, id, Bool.and_eq_true] at h
    simp only [tc, h.1, if_true, List.length_cons]
    rw [ih h.2]
    omega
theorem tc_rep (n : Nat) : tc (List.replicate n false) = 0 := by
  induction n with
  | zero => rfl
  | succ n ih => simp [List.replicate_succ, tc, ih]
theorem mark_step {i n h : Int} {B : List Bool} (hi : 0 ≤ i) (hn : n = B.length) (hs : seeOk i n B h = true) : (mark B h).headD false = B.headD false ∧ tc (mark B h) + nx 0 h = tc B + 1 := by
  simp only [seeOk, leafOk, Bool.or_eq_true, Bool.and_eq_true, decide_eq_true_eq, Bool.not_eq_true'] at hs
  unfold mark nx
  by_cases h0 : h < 0
  · rw [if_pos h0, if_neg (by omega)]
    rcases hs with hs | hs
    · omega
    · refine ⟨?_, ?_⟩
      · obtain ⟨j, hj⟩ : ∃ j : Nat, (-h).toNat = j + 1 := ⟨(-h).toNat - 1, by omega⟩
        rw [hj]
        cases B <;> simp
      · have e := tc_set B (-h).toNat (by omega) hs.2
        omega
  · rw [if_neg h0, if_pos (by omega)]
    exact ⟨rfl, by omega⟩
theorem gI_cnt (n : Int) : ∀ (us hs : List R) (i : Int) (B : List Bool), us.length = hs.length → gI n i us hs B = true → 0 ≤ i → n = B.length → 1 ≤ n → B.headD false = false → tc B + 2 * us.length + 1 = B.length + cnt hs := by
  intro us
  induction us with
  | nil =>
    intro hs i B hl h hi hn h1 hd
    have : hs = [] := List.eq_nil_of_length_eq_zero (by simpa using hl.symm)
    subst this
    unfold gI at h
    cases B with
    | nil => simp at hn; omega
    | cons b bs =>
      simp at hd
      subst hd
      have e := tc_all bs (by simpa using h)
      simp [tc, cnt, e]
  | cons a us ih =>
    intro hs i B hl h hi hn h1 hd
    cases hs with
    | nil => simp at hl
    | cons x hs =>
      simp only [gI, Bool.and_eq_true] at h
      obtain ⟨_, s0, s1, g⟩ := h
      obtain ⟨a1, a2⟩ := mark_step hi hn s0
      have hn2 : n = (mark B x.f0).length := by rw [mark_length]; exact hn
      obtain ⟨b1, b2⟩ := mark_step hi hn2 s1
      have e := ih hs (i + 1) _ (by simpa using hl) g (by omega) (by rw [mark_length]; exact hn2) h1 (by rw [b1, a1]; exact hd)
      rw [mark_length, mark_length] at e
      have n1 := nx_add (nx 0 x.f0) x.f1
      simp only [cnt, List.length_cons]
      omega
theorem good_cnt {A H : List R} (h : good A H = true) : cnt H = A.length + 1 := by
  have ok := good_ok h
  have o1 := ok.len
  have o2 := ok.same
  simp only [good, Bool.and_eq_true, decide_eq_true_eq] at h
  have e := gI_cnt (A.length : Int) A H 0 _ h.2.1.symm h.2.2 (by omega) (by simp) (by omega) (by
    obtain ⟨m, hm⟩ : ∃ m, A.length = m + 1 := ⟨A.length - 1, by omega⟩
    rw [hm]
    simp [List.replicate_succ])
  rw [tc_rep, List.length_replicate] at e
  omega
theorem gset {α : Type} (l : List α) (a j : Nat) (x d : α) : (l.set a x).getD j d = if a = j ∧ j < l.length then x else l.getD j d := by
  rw [List.getD_eq_getElem?_getD, List.getElem?_set, List.getD_eq_getElem?_getD]
  by_cases h : a = j
  · subst h
    by_cases h2 : a < l.length
    · rw [if_pos rfl, if_pos h2, if_pos ⟨rfl, h2⟩]
      rfl
    · rw [if_pos rfl, if_neg h2, if_neg (by omega), List.getElem?_eq_none (by omega)]
  · rw [if_neg h, if_neg (by omega)]
theorem see_kid {i n : Nat} {B : List Bool} {h : Int} (hs : seeOk (i : Int) (n : Int) B h = true) (h0 : h < 0) : (i : Int) + 1 ≤ -h ∧ -h ≤ (n : Int) - 1 ∧ B.getD (-h).toNat false = false := by
  simp only [seeOk, leafOk, Bool.or_eq_true, Bool.and_eq_true, decide_eq_true_eq, Bool.not_eq_true'] at hs
  rcases hs with hs | hs
  · omega
  · exact ⟨hs.1.1, hs.1.2, hs.2⟩
/-- A rod hangs already when its turn comes. -/
theorem gI_seen (n : Int) : ∀ (us hs : List R) (i : Nat) (B : List Bool), us.length = hs.length → gI n (i : Int) us hs B = true → ∀ j : Nat, 1 ≤ j → j ≤ i → j < B.length → B.getD j false = true := by
  intro us
  induction us with
  | nil =>
    intro hs i B hl h j h1 h2 h3
    unfold gI at h
    rw [List.all_eq_true] at h
    obtain ⟨j, rfl⟩ : ∃ m, j = m + 1 := ⟨j - 1, by omega⟩
    have := h (B[j + 1]) (by
      rw [List.mem_iff_getElem]
      exact ⟨j, by simp; omega, by simp [Nat.add_comm]⟩)
    rw [List.getD_eq_getElem?_getD, List.getElem?_eq_getElem h3]
    exact this
  | cons a us ih =>
    intro hs i B hl h j h1 h2 h3
    cases hs with
    | nil => simp at hl
    | cons x hs =>
      simp only [gI, Bool.and_eq_true] at h
      obtain ⟨_, s0, s1, g⟩ := h
      have e := ih hs (i + 1) _ (by simpa using hl) g j h1 (by omega) (by rw [mark_length, mark_length]; exact h3)
      have out : ∀ (C : List Bool) (y : Int), seeOk (i : Int) n C y = true → (mark C y).getD j false = true → C.getD j false = true := by
        intro C y hs hm
        unfold mark at hm
        by_cases h0 : y < 0
        · simp only [seeOk, leafOk, Bool.or_eq_true, Bool.and_eq_true, decide_eq_true_eq, Bool.not_eq_true'] at hs
          rw [if_pos h0, gset, if_neg (by omega)] at hm
          exact hm
        · rw [if_neg h0] at hm
          exact hm
      exact out B x.f0 s0 (out _ x.f1 s1 e)
theorem gcd_same (k : Nat) : ∀ a b, impl_divisor.l0 k a b = spec_l2Gcd.l0 k a b := by
  induction k with
  | zero => intro a b; rfl
  | succ k ih =>
    intro a b
    simp only [impl_divisor.l0, spec_l2Gcd.l0, ih]
theorem gcd_eq : ∀ (k a b : Nat), b < k → spec_l2Gcd.l0 k (a : Int) (b : Int) = some ((Nat.gcd a b : Nat) : Int) := by
  intro k
  induction k with
  | zero => intro a b h; omega
  | succ k ih =>
    intro a b h
    simp only [spec_l2Gcd.l0]
    by_cases hb : b = 0
    · subst hb
      rw [if_neg (by simp)]
      simp
    · rw [if_pos (by omega), if_neg (by omega)]
      rw [show Int.tmod (a : Int) (b : Int) = ((a % b : Nat) : Int) from by simp [Int.tmod]]
      rw [ih b (a % b) (by have := Nat.mod_lt a (Nat.pos_of_ne_zero hb); omega), Nat.gcd_comm b, ← Nat.gcd_rec, Nat.gcd_comm]
def gd (a b : Int) : Int := ((Nat.gcd a.natAbs b.natAbs : Nat) : Int)
theorem gd_pos {a b : Int} (h : 0 < b) : 0 < gd a b := by
  have := Nat.gcd_pos_of_pos_right a.natAbs (show 0 < b.natAbs by omega)
  unfold gd
  omega
theorem gd_dvd (a b : Int) : gd a b ∣ a ∧ gd a b ∣ b := by
  unfold gd
  exact ⟨Int.ofNat_dvd_left.2 (Nat.gcd_dvd_left _ _), Int.ofNat_dvd_left.2 (Nat.gcd_dvd_right _ _)⟩
/-- The fraction a / b in lowest terms. -/
def cut (a b : Int) : Int × Int := (a / gd a b, b / gd a b)
theorem cut_abs {a b : Int} (h : 0 < b) : (cut a b).1.natAbs ≤ a.natAbs ∧ 0 < (cut a b).2 ∧ (cut a b).2 ≤ b := by
  have hp := gd_pos (a := a) h
  obtain ⟨⟨x, hx⟩, ⟨y, hy⟩⟩ := gd_dvd a b
  unfold cut
  generalize gd a b = g at *
  subst hx hy
  simp only
  rw [Int.mul_ediv_cancel_left _ (by omega), Int.mul_ediv_cancel_left _ (by omega)]
  have hy : 0 < y := by
    rcases Int.lt_or_le 0 y with hy | hy
    · exact hy
    · have := Int.mul_nonpos_of_nonneg_of_nonpos (Int.le_of_lt hp) hy
      omega
  refine ⟨?_, hy, ?_⟩
  · rw [Int.natAbs_mul]
    have : 1 ≤ g.natAbs := by omega
    exact Nat.le_mul_of_pos_left _ this
  · have := Int.mul_le_mul_of_nonneg_right (show 1 ≤ g by omega) (Int.le_of_lt hy)
    omega
theorem cut_nonneg {a b : Int} (h : 0 < b) (ha : 0 ≤ a) : 0 ≤ (cut a b).1 := Int.ediv_nonneg ha (Int.le_of_lt (gd_pos h))
theorem cut_pos {a b : Int} (h : 0 < b) (ha : 0 < a) : 0 < (cut a b).1 := by
  have hp := gd_pos (a := a) h
  obtain ⟨x, hx⟩ := (gd_dvd a b).1
  show 0 < a / gd a b
  generalize gd a b = g at *
  subst hx
  rw [Int.mul_ediv_cancel_left _ (by omega)]
  rcases Int.lt_or_le 0 x with hy | hy
  · exact hy
  · have := Int.mul_nonpos_of_nonneg_of_nonpos (Int.le_of_lt hp) hy
    omega
theorem l2Cut_eq (k : Nat) (a b : Int) (hb : 0 < b) (hB : b ≤ 4611686018427387904) (ha : -4611686018427387904 ≤ a ∧ a ≤ 4611686018427387904) (hk : b.toNat < k) : spec_l2Cut.f k a b = some (cut a b) := by
  unfold spec_l2Cut.f spec_l1Most.f spec_l2Gcd.f
  rw [wrap_id (x := -a) (by omega) (by omega)]
  have e : (if a > -a then some a else some (-a)) = some ((a.natAbs : Nat) : Int) := by
    split <;> (congr 1; omega)
  rw [e, Option.bind_some]
  have hb2 : b = ((b.natAbs : Nat) : Int) := by omega
  have hc := cut_abs (a := a) hb
  have hp := gd_pos (a := a) hb
  have hd := gd_dvd a b
  rw [show spec_l2Gcd.l0 k (a.natAbs : Int) b = some (gd a b) from by
    unfold gd
    rw [← gcd_eq k a.natAbs b.natAbs (by omega), ← hb2]]
  rw [Option.bind_some, if_neg (by omega)]
  unfold cut at hc ⊢
  simp only at hc
  rw [Int.tdiv_eq_ediv_of_dvd hd.1, Int.tdiv_eq_ediv_of_dvd hd.2, wrap_id (by omega) (by omega), wrap_id (by omega) (by omega)]
theorem gd_mul (d x y : Int) (hd : 0 < d) : gd (d * x) (d * y) = d * gd x y := by
  unfold gd
  rw [Int.natAbs_mul, Int.natAbs_mul, Nat.gcd_mul_left, Int.natCast_mul]
  congr 1
  omega
def gA (l : List Int) (c : Int) : Int := l.foldl gd c
theorem gA_mul (d : Int) (hd : 0 < d) : ∀ (l : List Int) (c : Int), gA (l.map (fun x => d * x)) (d * c) = d * gA l c := by
  intro l
  induction l with
  | nil => intro c; rfl
  | cons x l ih =>
    intro c
    show gA (l.map (fun x => d * x)) (gd (d * c) (d * x)) = d * gA l (gd c x)
    rw [gd_mul _ _ _ hd, ih]
theorem gA_snoc (l : List Int) (c x : Int) : gA (l ++ [x]) c = gd (gA l c) x := by simp [gA, List.foldl_append]
theorem gA_pos : ∀ (l : List Int) (c : Int), (∀ x ∈ l, 0 < x) → 0 < c → 0 < gA l c := by
  intro l
  induction l with
  | nil => intro c _ h; exact h
  | cons x l ih =>
    intro c h hc
    exact ih (gd c x) (fun y hy => h y (by simp [hy])) (gd_pos (h x (by simp)))
theorem gd_zero {x : Int} (h : 0 < x) : gd 0 x = x := by
  unfold gd
  simp
  omega
theorem gA_pos0 (l : List Int) (h : ∀ x ∈ l, 0 < x) (hl : l ≠ []) : 0 < gA l 0 := by
  cases l with
  | nil => exact absurd rfl hl
  | cons x l =>
    exact gA_pos l (gd 0 x) (fun y hy => h y (by simp [hy])) (gd_pos (h x (by simp)))
/-- What a share and a part say of one leaf: top / bottom of the whole D is the part. -/
def Lk (D P t b : Int) : Prop := 0 < P ∧ P ≤ D ∧ 0 < t ∧ 0 < b ∧ b ∣ D ∧ t * D = b * P
theorem pos_of_mul {a b : Int} (ha : 0 < a) (h : 0 < a * b) : 0 < b := by
  rcases Int.lt_or_le 0 b with hb | hb
  · exact hb
  · have := Int.mul_nonpos_of_nonneg_of_nonpos (Int.le_of_lt ha) hb
    omega
theorem Lk.le {D P t b : Int} (h : Lk D P t b) : t ≤ b ∧ b ≤ D ∧ 0 < D := by
  obtain ⟨h1, h2, h3, h4, h5, h6⟩ := h
  have hD : 0 < D := by omega
  refine ⟨?_, Int.le_of_dvd hD h5, hD⟩
  have : t * D ≤ b * D := by
    rw [h6]
    exact Int.mul_le_mul_of_nonneg_left h2 (by omega)
  exact Int.le_of_mul_le_mul_right this hD
theorem cut_spec {x y : Int} (hx : 0 < x) (hy : 0 < y) : ∃ g : Int, 0 < g ∧ (cut x y).1 * g = x ∧ (cut x y).2 * g = y ∧ Nat.Coprime (cut x y).2.natAbs (cut x y).1.natAbs := by
  have hp := gd_pos (a := x) hy
  obtain ⟨⟨u, hu⟩, ⟨v, hv⟩⟩ := gd_dvd x y
  refine ⟨gd x y, hp, ?_, ?_, ?_⟩
  · show x / gd x y * gd x y = x
    exact Int.ediv_mul_cancel ⟨u, hu⟩
  · show y / gd x y * gd x y = y
    exact Int.ediv_mul_cancel ⟨v, hv⟩
  · have e1 : (cut x y).1 = u := by
      show x / gd x y = u
      generalize gd x y = g at *
      subst hu
      exact Int.mul_ediv_cancel_left _ (by omega)
    have e2 : (cut x y).2 = v := by
      show y / gd x y = v
      generalize gd x y = g at *
      subst hv
      exact Int.mul_ediv_cancel_left _ (by omega)
    rw [e1, e2]
    have hg : gd (gd x y * u) (gd x y * v) = gd x y * gd u v := gd_mul _ _ _ hp
    rw [← hu, ← hv] at hg
    have h1 : gd u v = 1 := by
      have : gd x y * gd u v = gd x y * 1 := by rw [← hg, Int.mul_one]
      exact (Int.mul_eq_mul_left_iff (by omega)).1 this
    unfold gd at h1
    rw [Nat.Coprime, Nat.gcd_comm]
    omega
theorem child_lk {D P t b s o R : Int} (h : Lk D P t b) (hs : 0 < s) (ho : 0 < o) (hos : o ≤ s) (hR : s * R ∣ P) :
    Lk D (P / s * o) (cut (t * o) (b * s)).1 (cut (t * o) (b * s)).2 ∧ R ∣ P / s * o := by
  have hle := h.le
  obtain ⟨h1, h2, h3, h4, h5, h6⟩ := h
  obtain ⟨q, hq⟩ := hR
  have hm : P / s = R * q := by
    rw [hq, Int.mul_assoc]
    exact Int.mul_ediv_cancel_left _ (by omega)
  rw [hm]
  have hP : P = s * (R * q) := by rw [hq, Int.mul_assoc]
  generalize hmm : R * q = m at *
  have m0 : 0 < m := pos_of_mul hs (by rw [← hP]; exact h1)
  obtain ⟨g, g0, gx, gy, co⟩ := cut_spec (x := t * o) (y := b * s) (Int.mul_pos h3 ho) (Int.mul_pos h4 hs)
  have t0 : 0 < (cut (t * o) (b * s)).1 := cut_pos (Int.mul_pos h4 hs) (Int.mul_pos h3 ho)
  have b0 : 0 < (cut (t * o) (b * s)).2 := (cut_abs (a := t * o) (Int.mul_pos h4 hs)).2.1
  generalize (cut (t * o) (b * s)).1 = t' at *
  generalize (cut (t * o) (b * s)).2 = b' at *
  have eq : t' * D = b' * (m * o) := by
    have : t' * D * g = b' * (m * o) * g := by
      rw [show t' * D * g = (t' * g) * D from by rw [Int.mul_assoc, Int.mul_comm D g, ← Int.mul_assoc], gx]
      rw [show b' * (m * o) * g = (b' * g) * (m * o) from by rw [Int.mul_assoc, Int.mul_comm (m * o) g, ← Int.mul_assoc], gy]
      rw [show t * o * D = (t * D) * o from by rw [Int.mul_assoc, Int.mul_comm o D, ← Int.mul_assoc], h6, hP]
      rw [Int.mul_assoc, Int.mul_assoc, Int.mul_assoc]
    exact Int.eq_of_mul_eq_mul_right (by omega) this
  refine ⟨⟨Int.mul_pos m0 ho, ?_, t0, b0, ?_, eq⟩, ?_⟩
  · have : m * o ≤ m * s := Int.mul_le_mul_of_nonneg_left hos (by omega)
    rw [Int.mul_comm m s, ← hP] at this
    omega
  · have d1 : b'.natAbs ∣ t'.natAbs * D.natAbs := by
      rw [← Int.natAbs_mul, eq, Int.natAbs_mul]
      exact ⟨_, rfl⟩
    exact Int.natAbs_dvd_natAbs.1 (Nat.Coprime.dvd_of_dvd_mul_left co d1)
  · exact ⟨q * o, by rw [← hmm, Int.mul_assoc]⟩
/-- The least common multiple, as it is counted. -/
theorem lcm_step {L b D : Int} (hL : 0 < L) (hb : 0 < b) (h1 : L ∣ D) (h2 : b ∣ D) : 0 < L / gd L b * b ∧ L / gd L b * b ∣ D ∧ L ∣ L / gd L b * b ∧ b ∣ L / gd L b * b := by
  have hp := gd_pos (a := L) hb
  have e : L / gd L b * b = ((Nat.lcm L.natAbs b.natAbs : Nat) : Int) := by
    unfold gd Nat.lcm
    have a1 : L = ((L.natAbs : Nat) : Int) := by omega
    have a2 : b = ((b.natAbs : Nat) : Int) := by omega
    generalize L.natAbs = l at *
    generalize b.natAbs = c at *
    subst a1 a2
    obtain ⟨x, hx⟩ := Nat.gcd_dvd_left l c
    have g0 : 0 < Nat.gcd l c := Nat.gcd_pos_of_pos_right _ (by omega)
    rw [show l * c / Nat.gcd l c = x * c from by
      conv => lhs; lhs; rw [hx, Nat.mul_assoc]
      exact Nat.mul_div_cancel_left _ g0]
    rw [← Int.natCast_ediv, show l / Nat.gcd l c = x from by
      conv => lhs; lhs; rw [hx]
      exact Nat.mul_div_cancel_left _ g0]
    simp
  have dl : L ∣ L / gd L b * b := by
    rw [e]
    exact Int.natAbs_dvd_natAbs.1 (by simpa using Nat.dvd_lcm_left L.natAbs b.natAbs)
  refine ⟨?_, ?_, dl, ⟨L / gd L b, by rw [Int.mul_comm]⟩⟩
  · obtain ⟨u, hu⟩ := (gd_dvd L b).1
    have : 0 < L / gd L b := by
      generalize gd L b = g at *
      subst hu
      rw [Int.mul_ediv_cancel_left _ (by omega)]
      exact pos_of_mul hp hL
    exact Int.mul_pos this hb
  · rw [e]
    exact Int.natAbs_dvd_natAbs.1 (by simpa using Nat.lcm_dvd (Int.natAbs_dvd_natAbs.2 h1) (Int.natAbs_dvd_natAbs.2 h2))
def qOf (L t b : Int) : Int := L / b * t
theorem qOf_lk {D P t b L : Int} (h : Lk D P t b) (hL : 0 < L) (hD : L ∣ D) (hb : b ∣ L) : D * qOf L t b = L * P ∧ 0 < qOf L t b ∧ qOf L t b ≤ D := by
  have hle := h.le
  obtain ⟨h1, h2, h3, h4, h5, h6⟩ := h
  obtain ⟨x, hx⟩ := hb
  have e : qOf L t b = x * t := by
    unfold qOf
    rw [hx, Int.mul_ediv_cancel_left _ (by omega)]
  have x0 : 0 < x := pos_of_mul h4 (by rw [← hx]; exact hL)
  have eq : D * (x * t) = L * P := by
    rw [show D * (x * t) = x * (t * D) from by rw [Int.mul_comm D, Int.mul_assoc], h6, hx]
    rw [← Int.mul_assoc, Int.mul_comm x b]
  rw [e]
  refine ⟨eq, Int.mul_pos x0 h3, ?_⟩
  have hLD := Int.le_of_dvd (by omega) hD
  have l1 : L * P ≤ D * P := Int.mul_le_mul_of_nonneg_right hLD (by omega)
  rw [← eq] at l1
  have := Int.le_of_mul_le_mul_left l1 (by omega)
  omega
/-- What is in one measure to another list, is the same in lowest terms. -/
theorem lowest {D L : Int} (hD : 0 < D) (hL : 0 < L) (P Q : List Int) (h : Q.map (fun x => D * x) = P.map (fun x => L * x)) : Q.map (fun x => x / gA Q 0) = P.map (fun x => x / gA P 0) := by
  have g1 := gA_mul D hD Q 0
  have g2 := gA_mul L hL P 0
  rw [Int.mul_zero] at g1 g2
  rw [h, g2] at g1
  have e1 : Q.map (fun x => x / gA Q 0) = (Q.map (fun x => D * x)).map (fun x => x / (D * gA Q 0)) := by
    rw [List.map_map]
    apply List.map_congr_left
    intro x _
    exact (Int.mul_ediv_mul_of_pos x (gA Q 0) hD).symm
  have e2 : P.map (fun x => x / gA P 0) = (P.map (fun x => L * x)).map (fun x => x / (L * gA P 0)) := by
    rw [List.map_map]
    apply List.map_congr_left
    intro x _
    exact (Int.mul_ediv_mul_of_pos x (gA P 0) hL).symm
  rw [e1, e2, h, g1]
theorem rdI (p s : List Int) (x : Int) : rd (p ++ x :: s) ((p.length : Int)) = x := by
  simp [rd]
theorem eqIntS_l0 : ∀ (s p : List Int) (k : Nat), (p ++ s).length < 4611686018427387904 → s.length < k → laws_eqIntS.l0 k (p ++ s) (p ++ s) (p.length : Int) = some true := by
  intro s
  induction s with
  | nil =>
    intro p k hl hk
    obtain ⟨k, rfl⟩ : ∃ m, k = m + 1 := ⟨k - 1, by simp at hk; omega⟩
    simp only [laws_eqIntS.l0]
    rw [if_neg (by simp)]
  | cons x s ih =>
    intro p k hl hk
    obtain ⟨k, rfl⟩ : ∃ m, k = m + 1 := ⟨k - 1, by simp at hk; omega⟩
    simp only [laws_eqIntS.l0]
    rw [if_pos (by simp; omega), if_pos (by omega), if_pos (by simp; omega), if_pos trivial, snocI p x (by simp at hl; omega)]
    have e := ih (p ++ [x]) k (by simpa using hl) (by simp at hk; omega)
    rw [List.append_assoc] at e
    exact e
theorem eqIntS_refl (l : List Int) (k : Nat) (hl : l.length < 4611686018427387904) (hk : l.length < k) : laws_eqIntS.f k l l = some true := by
  unfold laws_eqIntS.f
  rw [if_pos rfl]
  exact eqIntS_l0 l [] k (by simpa using hl) hk
def seqI : Int → Nat → List Int
  | _, 0 => []
  | m, n + 1 => m :: seqI (m + 1) n
theorem markIntS_l0 : ∀ (s p : List Int) (m : Int) (k : Nat), (p ++ s).length < 1073741824 → 0 ≤ m → m + s.length < 4294967296 → s.length < k →
    laws_markIntS.l0 k (p ++ s) m (p.length : Int) = some (m + s.length, p ++ seqI m s.length) := by
  intro s
  induction s with
  | nil =>
    intro p m k hl h0 h1 hk
    obtain ⟨k, rfl⟩ : ∃ j, k = j + 1 := ⟨k - 1, by simp at hk; omega⟩
    simp only [laws_markIntS.l0]
    rw [if_neg (by simp)]
    simp [seqI]
  | cons x s ih =>
    intro p m k hl h0 h1 hk
    obtain ⟨k, rfl⟩ : ∃ j, k = j + 1 := ⟨k - 1, by simp at hk; omega⟩
    simp only [laws_markIntS.l0]
    simp only [List.length_cons, Int.natCast_add, Int.natCast_one, List.length_append] at h1 hl hk
    rw [if_pos (by simp; omega), if_pos (by omega)]
    simp only [Int.toNat_natCast, List.set_append_right _ _ (Nat.le_refl _), Nat.sub_self, List.set_cons_zero]
    rw [snocI p x (by omega), wrap_id (x := m + 1) (by omega) (by omega), List.append_cons]
    rw [show ((p ++ [x]).length : Int) = ((p ++ [m]).length : Int) from by simp]
    rw [ih (p ++ [m]) (m + 1) k (by simp; omega) (by omega) (by omega) (by omega)]
    simp [seqI]
    omega
theorem heldIntS_l0 : ∀ (n : Nat) (p : List Int) (m : Int) (k : Nat), p.length + n < 1073741824 → 0 ≤ m → m + n < 4294967296 → n < k →
    laws_heldIntS.l0 k (p ++ seqI m n) m (p.length : Int) = some (m + n) := by
  intro n
  induction n with
  | zero =>
    intro p m k hl h0 h1 hk
    obtain ⟨k, rfl⟩ : ∃ j, k = j + 1 := ⟨k - 1, by omega⟩
    simp only [laws_heldIntS.l0]
    rw [if_neg (by simp [seqI])]
    simp
  | succ n ih =>
    intro p m k hl h0 h1 hk
    obtain ⟨k, rfl⟩ : ∃ j, k = j + 1 := ⟨k - 1, by omega⟩
    rw [show seqI m (n + 1) = m :: seqI (m + 1) n from rfl]
    simp only [laws_heldIntS.l0]
    rw [if_pos (by simp; omega), if_pos (by omega), rdI, if_pos rfl, wrap_id (x := m + 1) (by omega) (by omega), snocI p m (by omega), List.append_cons]
    rw [ih (p ++ [m]) (m + 1) k (by simp; omega) (by omega) (by omega) (by omega)]
    congr 1
    omega
theorem markIntS_eq (l : List Int) (m : Int) (k : Nat) (hl : l.length < 1073741824) (h0 : 0 ≤ m) (h1 : m + l.length < 4294967296) (hk : l.length < k) : laws_markIntS.f k l m = some (m + l.length, seqI m l.length) :=
  markIntS_l0 l [] m k (by simpa using hl) h0 h1 hk
theorem heldIntS_eq (n : Nat) (m : Int) (k : Nat) (hl : n < 1073741824) (h0 : 0 ≤ m) (h1 : m + n < 4294967296) (hk : n < k) : laws_heldIntS.f k (seqI m n) m = some (m + n) :=
  heldIntS_l0 n [] m k (by simpa using hl) h0 h1 hk
def wR (x : R) : Prop := ((Lit.int .i64 x.f0).wf = true) ∧ ((Lit.int .i64 x.f1).wf = true)
theorem wfR_of {l : List R} (h : ∀ x ∈ l, ((Lit.int .i64 x.f0).wf = true) ∧ ((Lit.int .i64 x.f1).wf = true)) : WfR l := fun x hx => ⟨wf64 (h x hx).1, wf64 (h x hx).2⟩
theorem toIntA2_eq (k : Nat) (a b : Int) (hk : 3 ≤ k) : laws_toIntA2.f k a b = some (a, b) := by
  obtain ⟨k, rfl⟩ : ∃ m, k = m + 3 := ⟨k - 3, by omega⟩
  have w1 : wrap64 (0 + 1) = 1 := wrap_id (by omega) (by omega)
  have w2 : wrap64 (1 + 1) = 2 := wrap_id (by omega) (by omega)
  unfold laws_toIntA2.f
  simp only [laws_toIntA2.l0, w1, w2]
  simp
theorem eqIntA2_refl (k : Nat) (a b : Int) (hk : 3 ≤ k) : laws_eqIntA2.f k a b a b = some true := by
  obtain ⟨k, rfl⟩ : ∃ m, k = m + 3 := ⟨k - 3, by omega⟩
  have w1 : wrap64 (0 + 1) = 1 := wrap_id (by omega) (by omega)
  have w2 : wrap64 (1 + 1) = 2 := wrap_id (by omega) (by omega)
  unfold laws_eqIntA2.f
  simp only [laws_eqIntA2.l0, w1, w2]
  simp
theorem toIntA2S_l0 : ∀ (s p q : List R) (k : Nat), p.length = q.length → (p ++ s).length < 4611686018427387904 → s.length + 4 < k →
    laws_toIntA2S.l0 k (p ++ s) (q ++ List.replicate s.length z58) (p.length : Int) = some (q ++ s) := by
  intro s
  induction s with
  | nil =>
    intro p q k hpq hl hk
    obtain ⟨k, rfl⟩ : ∃ m, k = m + 1 := ⟨k - 1, by simp at hk; omega⟩
    simp only [laws_toIntA2S.l0]
    rw [if_neg (by simp)]
    simp
  | cons x s ih =>
    intro p q k hpq hl hk
    obtain ⟨k, rfl⟩ : ∃ m, k = m + 1 := ⟨k - 1, by simp at hk; omega⟩
    simp only [laws_toIntA2S.l0]
    rw [if_pos (by simp; omega), if_pos (by omega), toIntA2_eq k _ _ (by simp at hk; omega), Option.bind_some, if_pos (by simp; omega), rdT, snocI p x (by simp at hl; omega)]
    rw [show (((p.length : Nat) : Int)).toNat = q.length from by omega, List.length_cons, set_rep, List.append_cons p x s, ih (p ++ [x]) _ k (by simp [hpq]) (by simpa using hl) (by simp at hk; omega)]
    simp
theorem toIntA2S_eq (l : List R) (k : Nat) (hl : l.length ≤ 1048576) (hk : l.length + 4 < k) : laws_toIntA2S.f k l = some l := by
  unfold laws_toIntA2S.f
  rw [if_pos (by omega), if_pos (by omega)]
  exact toIntA2S_l0 l [] [] k rfl (by simp; omega) hk
theorem toMobile_eq (k : Nat) (A H : List R) (h1 : A.length ≤ 1048576) (h2 : H.length ≤ 1048576) (hk : A.length + 4 < k) (hk2 : H.length + 4 < k) : laws_toMobile.f k A H = some (A, H) := by
  unfold laws_toMobile.f
  rw [toIntA2S_eq A k h1 hk, toIntA2S_eq H k h2 hk2]
  rfl
theorem eqIntA2S_l0 : ∀ (s p : List R) (k : Nat), (p ++ s).length < 4611686018427387904 → s.length + 4 < k → laws_eqIntA2S.l0 k (p ++ s) (p ++ s) (p.length : Int) = some true := by
  intro s
  induction s with
  | nil =>
    intro p k hl hk
    obtain ⟨k, rfl⟩ : ∃ m, k = m + 1 := ⟨k - 1, by simp at hk; omega⟩
    simp only [laws_eqIntA2S.l0]
    rw [if_neg (by simp)]
  | cons x s ih =>
    intro p k hl hk
    obtain ⟨k, rfl⟩ : ∃ m, k = m + 1 := ⟨k - 1, by simp at hk; omega⟩
    simp only [laws_eqIntA2S.l0]
    rw [if_pos (by simp; omega), if_pos (by omega), if_pos (by simp; omega), rdT, eqIntA2_refl k _ _ (by simp at hk; omega), Option.bind_some, if_pos rfl, snocI p x (by simp at hl; omega)]
    have e := ih (p ++ [x]) k (by simpa using hl) (by simp at hk; omega)
    rw [List.append_assoc] at e
    exact e
theorem eqIntA2S_refl (l : List R) (k : Nat) (hl : l.length < 4611686018427387904) (hk : l.length + 4 < k) : laws_eqIntA2S.f k l l = some true := by
  unfold laws_eqIntA2S.f
  rw [if_pos rfl]
  exact eqIntA2S_l0 l [] k (by simpa using hl) hk
theorem eqMobile_refl (k : Nat) (A H : List R) (h1 : A.length < 4611686018427387904) (h2 : H.length < 4611686018427387904) (hk : A.length + 4 < k) (hk2 : H.length + 4 < k) : laws_eqMobile.f k A H A H = some true := by
  unfold laws_eqMobile.f
  rw [eqIntA2S_refl A k h1 hk, Option.bind_some, if_pos rfl, eqIntA2S_refl H k h2 hk2]
  rfl
theorem szMobile_eq (A H : List R) (h1 : A.length ≤ 9223372036854775807) (h2 : H.length ≤ 9223372036854775807) :
    laws_szMobile.f A H 1048576 = some (if A.length + H.length ≤ 1048576 then 1048576 - (A.length : Int) - (H.length : Int) else -1) := by
  unfold laws_szMobile.f laws_szIntA2S.f
  rw [sz_id _ h1]
  by_cases c1 : 1048576 < A.length
  · rw [if_pos (by omega), Option.bind_some, if_pos (by decide), if_neg (by omega)]
  · rw [if_neg (by omega), Option.bind_some, if_neg (by omega), wrap_id (x := 1048576 - (A.length : Int) - (H.length : Int)) (by omega) (by omega)]
    by_cases c2 : A.length + H.length ≤ 1048576
    · rw [if_neg (by omega), Option.bind_some, if_neg (by omega), if_pos c2]
    · rw [if_pos (by omega), Option.bind_some, if_pos (by decide), if_neg c2]
theorem T_set_len (l : List R) (i : Nat) (x : R) : (l.set i x).length = l.length := by simp
/-- The marks of rows of pairs: from x on, two a row. -/
def seqT : Int → Nat → List R
  | _, 0 => []
  | x, n + 1 => ⟨x, x + 1⟩ :: seqT (x + 2) n
theorem seqT_length : ∀ (n : Nat) (x : Int), (seqT x n).length = n := by
  intro n
  induction n with
  | zero => intro x; rfl
  | succ n ih => intro x; simp [seqT, ih]
theorem mark_l0 : ∀ (s p : List R) (x : Int) (k : Nat), (p ++ s).length < 4611686018427387904 → 0 ≤ x → x + 2 * s.length < 4611686018427387904 → 4 * s.length + 4 < k →
    laws_markIntA2S.l0 k (p ++ s) x (p.length : Int) = some (x + 2 * (s.length : Int), p ++ seqT x s.length) := by
  intro s
  induction s with
  | nil =>
    intro p x k hl h0 h1 hk
    obtain ⟨k, rfl⟩ : ∃ m, k = m + 1 := ⟨k - 1, by omega⟩
    simp only [laws_markIntA2S.l0]
    rw [if_neg (by simp)]
    simp [seqT]
  | cons y s ih =>
    intro p x k hl h0 h1 hk
    simp only [List.length_cons, Int.natCast_add, Int.natCast_one] at h1 hk
    obtain ⟨k, rfl⟩ : ∃ m, k = m + 4 := ⟨k - 4, by omega⟩
    have w1 : wrap64 (0 + 1) = 1 := wrap_id (by omega) (by omega)
    have w2 : wrap64 (1 + 1) = 2 := wrap_id (by omega) (by omega)
    have x1 := wrap_id (x := x + 1) (by omega) (by omega)
    have x2 := wrap_id (x := x + 1 + 1) (by omega) (by omega)
    have d0 : 0 ≤ (p.length : Int) := by omega
    have q : ¬ ((1 : Int) = 0) := by omega
    have d1 : (p.length : Int) < ((p ++ y :: s).length : Int) := by simp; omega
    have s1 : ∀ z : R, (p ++ y :: s).set ((p.length : Int)).toNat z = p ++ z :: s := fun z => by rw [Int.toNat_natCast, List.set_append_right _ _ (Nat.le_refl _), Nat.sub_self]; rfl
    have d2 : ∀ z : R, (p.length : Int) < ((p ++ z :: s).length : Int) := fun z => by simp; omega
    have s2 : ∀ z z2 : R, (p ++ z :: s).set ((p.length : Int)).toNat z2 = p ++ z2 :: s := fun z z2 => by rw [Int.toNat_natCast, List.set_append_right _ _ (Nat.le_refl _), Nat.sub_self]; rfl
    simp only [laws_markIntA2S.l0, d1, if_true]
    rw [show laws_markIntA2S.l1 (k + 3) (p ++ y :: s) x (p.length : Int) 0 = laws_markIntA2S.l1 (k + 2) (p ++ ⟨x, y.f1⟩ :: s) (x + 1) (p.length : Int) 1 from by simp only [laws_markIntA2S.l1, d0, d1, s1, rdT, w1, x1, if_true, Int.reduceLT]]
    rw [show laws_markIntA2S.l1 (k + 2) (p ++ ⟨x, y.f1⟩ :: s) (x + 1) (p.length : Int) 1 = laws_markIntA2S.l1 (k + 1) (p ++ ⟨x, x + 1⟩ :: s) (x + 1 + 1) (p.length : Int) 2 from by simp only [laws_markIntA2S.l1, d0, d2, s2, rdT, w2, x2, q, if_true, if_false, Int.reduceLT]]
    rw [show laws_markIntA2S.l1 (k + 1) (p ++ ⟨x, x + 1⟩ :: s) (x + 1 + 1) (p.length : Int) 2 = laws_markIntA2S.l0 k (p ++ ⟨x, x + 1⟩ :: s) (x + 1 + 1) (wrap64 ((p.length : Int) + 1)) from by simp only [laws_markIntA2S.l1, if_false, Int.reduceLT]]
    rw [snocI p (⟨x, x + 1⟩ : R) (by simp at hl; omega), List.append_cons p (⟨x, x + 1⟩ : R) s, ih (p ++ [(⟨x, x + 1⟩ : R)]) (x + 1 + 1) k (by simpa using hl) (by omega) (by omega) (by omega)]
    congr 1
    rw [show x + 1 + 1 = x + 2 from by omega]
    simp [seqT]
    omega
theorem markIntA2S_eq (l : List R) (x : Int) (k : Nat) (hl : l.length < 4611686018427387904) (h0 : 0 ≤ x) (h1 : x + 2 * l.length < 4611686018427387904) (hk : 4 * l.length + 4 < k) : laws_markIntA2S.f k l x = some (x + 2 * (l.length : Int), seqT x l.length) := by
  unfold laws_markIntA2S.f
  exact mark_l0 l [] x k hl h0 h1 hk
theorem markMobile_eq (A H : List R) (k : Nat) (hb : A.length + H.length ≤ 1048576) (hk : 4 * A.length + 4 < k) (hk2 : 4 * H.length + 4 < k) : laws_markMobile.f k A H 1 = some (1 + 2 * (A.length : Int) + 2 * (H.length : Int), seqT 1 A.length, seqT (1 + 2 * (A.length : Int)) H.length) := by
  unfold laws_markMobile.f
  rw [markIntA2S_eq A 1 k (by omega) (by omega) (by omega) hk, Option.bind_some, markIntA2S_eq H _ k (by omega) (by omega) (by omega) hk2]
  rfl
theorem markMobile_some (A H : List R) (hb : A.length + H.length ≤ 1048576) : ∃ M : Int × List R × List R, ¬ M.1 < 0 ∧ ∀ k, 10 + 4 * A.length + 4 * H.length < k → laws_markMobile.f k A H 1 = some M :=
  ⟨(1 + 2 * (A.length : Int) + 2 * (H.length : Int), seqT 1 A.length, seqT (1 + 2 * (A.length : Int)) H.length), by simp only; omega, fun k hk => markMobile_eq A H k hb (by omega) (by omega)⟩
theorem bne_refl (b : Bool) : (b != b) = false := by cases b <;> rfl
abbrev F := S77
def Lf (D P : Int) (f : F) : Prop := Lk D P f.f0 f.f1
def Lks (D : Int) : List Int → List F → Prop
  | [], [] => True
  | p :: ps, f :: fs => Lf D p f ∧ Lks D ps fs
  | _, _ => False
theorem Lks.snoc {D p : Int} {f : F} : ∀ {ps : List Int} {fs : List F}, Lks D ps fs → Lf D p f → Lks D (ps ++ [p]) (fs ++ [f]) := by
  intro ps
  induction ps with
  | nil =>
    intro fs h hf
    cases fs with
    | nil => exact ⟨hf, trivial⟩
    | cons g gs => exact absurd h (by simp [Lks])
  | cons x ps ih =>
    intro fs h hf
    cases fs with
    | nil => exact absurd h (by simp [Lks])
    | cons g gs => exact ⟨h.1, ih h.2 hf⟩
def prodS : List R → Int
  | [] => 1
  | a :: us => (a.f0 + a.f1) * prodS us
def okA (us : List R) : Prop := ∀ a ∈ us, (1 ≤ a.f0 ∧ a.f0 ≤ 12) ∧ (1 ≤ a.f1 ∧ a.f1 ≤ 12)
def pw : Nat → Int
  | 0 => 1
  | n + 1 => 24 * pw n
theorem pw_le (n : Nat) (h : n ≤ 6) : pw n ≤ 191102976 := by
  have : n = 0 ∨ n = 1 ∨ n = 2 ∨ n = 3 ∨ n = 4 ∨ n = 5 ∨ n = 6 := by omega
  rcases this with rfl | rfl | rfl | rfl | rfl | rfl | rfl <;> simp [pw]
theorem prodS_pos : ∀ us : List R, okA us → 0 < prodS us ∧ prodS us ≤ pw us.length := by
  intro us
  induction us with
  | nil => intro _; simp [prodS, pw]
  | cons a us ih =>
    intro h
    obtain ⟨h1, h2⟩ := ih (fun x hx => h x (by simp [hx]))
    obtain ⟨h3, h4⟩ := h a (by simp)
    refine ⟨Int.mul_pos (by omega) h1, ?_⟩
    have m1 : (a.f0 + a.f1) * prodS us ≤ 24 * prodS us := Int.mul_le_mul_of_nonneg_right (by omega) (by omega)
    simp only [prodS, List.length_cons, pw]
    omega
theorem mulb {x y : Int} (hx : 0 < x ∧ x ≤ 191102976) (hy : 0 < y ∧ y ≤ 24) : 0 < x * y ∧ x * y ≤ 4586471424 := by
  refine ⟨Int.mul_pos hx.1 hy.1, ?_⟩
  have m1 : x * y ≤ x * 24 := Int.mul_le_mul_of_nonneg_left hy.2 (by omega)
  omega
def pushX (X : List Int) (h v : Int) : List Int := if h < 0 then X.set (-h).toNat v else X
def pushY (Y : List F) (h : Int) (c : Int × Int) : List F := if h < 0 then Y.set (-h).toNat ⟨c.1, c.2⟩ else Y
def pushP (O : List Int) (h v : Int) : List Int := if h < 0 then O else O ++ [v]
def pushF (O : List F) (h : Int) (c : Int × Int) : List F := if h < 0 then O else O ++ [⟨c.1, c.2⟩]
theorem pushX_length (X : List Int) (h v : Int) : (pushX X h v).length = X.length := by unfold pushX; split <;> simp
theorem pushY_length (Y : List F) (h : Int) (c : Int × Int) : (pushY Y h c).length = Y.length := by unfold pushY; split <;> simp
/-- What holds ahead of rod i: X, Y: the parts and the shares of the rods that hang; O, O': those of the leaves so far. -/
structure Sh (n : Nat) (D Q : Int) (i : Nat) (B : List Bool) (X : List Int) (Y : List F) (O : List Int) (O' : List F) : Prop where
  lB : B.length = n
  lX : X.length = n
  lY : Y.length = n
  rod : ∀ j : Nat, i ≤ j → j < n → (j = 0 ∨ B.getD j false = true) → Lf D (X.getD j 0) (Y.getD j z77) ∧ Q ∣ X.getD j 0
  leaf : Lks D O O'
theorem Sh.next {n i : Nat} {D s Q : Int} {B : List Bool} {X : List Int} {Y : List F} {O : List Int} {O' : List F} (o : Sh n D (s * Q) i B X Y O O') : Sh n D Q (i + 1) B X Y O O' :=
  ⟨o.lB, o.lX, o.lY, fun j hj hn hb => by
    obtain ⟨a, b⟩ := o.rod j (by omega) hn hb
    exact ⟨a, Int.dvd_trans ⟨s, Int.mul_comm s Q⟩ b⟩, o.leaf⟩
theorem Sh.push {n i : Nat} {D Q h v : Int} {c : Int × Int} {B : List Bool} {X : List Int} {Y : List F} {O : List Int} {O' : List F} (hs : seeOk (i : Int) (n : Int) B h = true) (o : Sh n D Q (i + 1) B X Y O O') (hv : Lk D v c.1 c.2) (hq : Q ∣ v) :
    Sh n D Q (i + 1) (mark B h) (pushX X h v) (pushY Y h c) (pushP O h v) (pushF O' h c) := by
  by_cases h0 : h < 0
  · obtain ⟨k1, k2, k3⟩ := see_kid hs h0
    have e1 := o.lX
    have e2 := o.lY
    have e3 := o.lB
    refine ⟨by rw [mark_length]; exact o.lB, by rw [pushX_length]; exact o.lX, by rw [pushY_length]; exact o.lY, ?_, ?_⟩
    · intro j hj hn hb
      unfold pushX pushY
      rw [if_pos h0, if_pos h0, gset, gset]
      by_cases ej : (-h).toNat = j
      · rw [if_pos ⟨ej, by omega⟩, if_pos ⟨ej, by omega⟩]
        exact ⟨hv, hq⟩
      · rw [if_neg (by omega), if_neg (by omega)]
        refine o.rod j hj hn ?_
        rcases hb with hb | hb
        · exact Or.inl hb
        · unfold mark at hb
          rw [if_pos h0, gset, if_neg (by omega)] at hb
          exact Or.inr hb
    · unfold pushP pushF
      rw [if_pos h0, if_pos h0]
      exact o.leaf
  · have b1 : mark B h = B := by unfold mark; rw [if_neg h0]
    have b2 : pushX X h v = X := by unfold pushX; rw [if_neg h0]
    have b3 : pushY Y h c = Y := by unfold pushY; rw [if_neg h0]
    have b4 : pushP O h v = O ++ [v] := by unfold pushP; rw [if_neg h0]
    have b5 : pushF O' h c = O' ++ [⟨c.1, c.2⟩] := by unfold pushF; rw [if_neg h0]
    rw [b1, b2, b3, b4, b5]
    exact ⟨o.lB, o.lX, o.lY, o.rod, o.leaf.snoc hv⟩
theorem Gcd_eq (k : Nat) (a b : Int) (ha : 0 ≤ a) (hb : 0 ≤ b) (hk : b.toNat < k) : spec_l2Gcd.f k a b = some (gd a b) := by
  unfold spec_l2Gcd.f gd
  have e := gcd_eq k a.natAbs b.natAbs (by omega)
  rw [← e]
  congr 1 <;> omega
theorem divisor_eq (k : Nat) (a b : Int) (ha : 0 ≤ a) (hb : 0 ≤ b) (hk : b.toNat < k) : impl_divisor.f k a b = some (gd a b) := by
  unfold impl_divisor.f
  rw [gcd_same]
  exact Gcd_eq k a b ha hb hk
theorem s_sh0 (Y O : List F) (i : Nat) (A H : List R) (a h : R) (f : F) (k : Nat) (hA : rd_T58 A (i : Int) = a) (hH : rd_T58 H (i : Int) = h) (hY : rd_T77 Y (i : Int) = f) (c1 : i < Y.length) (c2 : i < A.length) (c3 : i < H.length)
    (ht : 0 < f.f0 ∧ f.f0 ≤ 191102976) (hb : 0 < f.f1 ∧ f.f1 ≤ 191102976) (a0 : 1 ≤ a.f0 ∧ a.f0 ≤ 12) (a1 : 1 ≤ a.f1 ∧ a.f1 ≤ 12) (hk : 4586471424 < k) (hu : h.f0 < 0 → wrap64 (-h.f0) = -h.f0 ∧ -h.f0 < (Y.length : Int)) (hO : O.length ≤ 1000) :
    spec_l5Shares.l1 (k + 1) Y O (i : Int) 0 A H = spec_l5Shares.l1 k (pushY Y h.f0 (cut (f.f0 * a.f1) (f.f1 * (a.f0 + a.f1)))) (pushF O h.f0 (cut (f.f0 * a.f1) (f.f1 * (a.f0 + a.f1)))) (i : Int) 1 A H := by
  have w1 : wrap64 (0 + 1) = 1 := wrap_id (by omega) (by omega)
  have m1 := mulb ht (y := a.f1) ⟨by omega, by omega⟩
  have m2 := mulb hb (y := a.f0 + a.f1) ⟨by omega, by omega⟩
  simp only [spec_l5Shares.l1]
  rw [if_pos (by decide), if_pos (by omega), if_pos (by omega), if_pos (by omega), if_pos trivial, hA, hY, hH, wrap_id (x := a.f0 + a.f1) (by omega) (by omega), wrap_id (x := f.f0 * a.f1) (by omega) (by omega), wrap_id (x := f.f1 * (a.f0 + a.f1)) (by omega) (by omega)]
  rw [l2Cut_eq k _ _ m2.1 (by omega) (by omega) (by omega), Option.bind_some, if_pos (by omega), w1]
  unfold pushY pushF
  by_cases c : h.f0 < 0
  · obtain ⟨h1, h2⟩ := hu c
    rw [if_pos c, if_pos c, if_pos c, h1, if_pos (by omega), if_pos h2]
  · rw [if_neg c, if_neg c, if_neg c, if_pos (by omega)]
theorem s_sh1 (Y O : List F) (i : Nat) (A H : List R) (a h : R) (f : F) (k : Nat) (hA : rd_T58 A (i : Int) = a) (hH : rd_T58 H (i : Int) = h) (hY : rd_T77 Y (i : Int) = f) (c1 : i < Y.length) (c2 : i < A.length) (c3 : i < H.length)
    (ht : 0 < f.f0 ∧ f.f0 ≤ 191102976) (hb : 0 < f.f1 ∧ f.f1 ≤ 191102976) (a0 : 1 ≤ a.f0 ∧ a.f0 ≤ 12) (a1 : 1 ≤ a.f1 ∧ a.f1 ≤ 12) (hk : 4586471424 < k) (hu : h.f1 < 0 → wrap64 (-h.f1) = -h.f1 ∧ -h.f1 < (Y.length : Int)) (hO : O.length ≤ 1000) :
    spec_l5Shares.l1 (k + 1) Y O (i : Int) 1 A H = spec_l5Shares.l1 k (pushY Y h.f1 (cut (f.f0 * a.f0) (f.f1 * (a.f0 + a.f1)))) (pushF O h.f1 (cut (f.f0 * a.f0) (f.f1 * (a.f0 + a.f1)))) (i : Int) 2 A H := by
  have w2 : wrap64 (1 + 1) = 2 := wrap_id (by omega) (by omega)
  have m1 := mulb ht (y := a.f0) ⟨by omega, by omega⟩
  have m2 := mulb hb (y := a.f0 + a.f1) ⟨by omega, by omega⟩
  simp only [spec_l5Shares.l1]
  rw [if_pos (by decide), if_pos (by omega), if_pos (by omega), if_pos (by omega), if_neg (by decide), if_pos trivial, hA, hY, hH, wrap_id (x := a.f0 + a.f1) (by omega) (by omega), wrap_id (x := f.f0 * a.f0) (by omega) (by omega), wrap_id (x := f.f1 * (a.f0 + a.f1)) (by omega) (by omega)]
  rw [l2Cut_eq k _ _ m2.1 (by omega) (by omega) (by omega), Option.bind_some, if_pos (by omega), w2]
  unfold pushY pushF
  by_cases c : h.f1 < 0
  · obtain ⟨h1, h2⟩ := hu c
    rw [if_pos c, if_pos c, if_pos c, h1, if_pos (by omega), if_pos h2]
  · rw [if_neg c, if_neg c, if_neg c, if_pos (by omega)]
theorem gA_push (O : List Int) (h v : Int) : gA (pushP O h v) 0 = if h < 0 then gA O 0 else gd (gA O 0) v := by
  unfold pushP
  split
  · rfl
  · exact gA_snoc O 0 v
theorem gA_nonneg : ∀ (l : List Int) (c : Int), 0 ≤ c → 0 ≤ gA l c := by
  intro l
  induction l with
  | nil => intro c h; exact h
  | cons x l ih =>
    intro c h
    exact ih (gd c x) (by unfold gd; omega)
theorem i_lw0 (X O : List Int) (one : Int) (P : List R) (n i : Int) (A H : List R) (a0 a1 h0 h1 : Int) (k : Nat) (hv : 0 < one * a1 ∧ one * a1 ≤ 191102976) (hk : 4586471424 < k) (hu : h0 < 0 → wrap64 (-h0) = -h0 ∧ -h0 < (X.length : Int)) (hO : O.length ≤ 1000) :
    impl_levelWeights.l2 (k + 1) X O (gA O 0) one P n i 0 A H a0 a1 h0 h1 = impl_levelWeights.l2 k (pushX X h0 (one * a1)) (pushP O h0 (one * a1)) (gA (pushP O h0 (one * a1)) 0) one P n i 1 A H a0 a1 h0 h1 := by
  have w1 : wrap64 (0 + 1) = 1 := wrap_id (by omega) (by omega)
  have g0 := gA_nonneg O 0 (by omega)
  simp only [impl_levelWeights.l2]
  rw [if_pos (by decide), if_pos trivial, w1, wrap_id (x := one * a1) (by omega) (by omega), gA_push]
  unfold pushX pushP
  by_cases c : h0 < 0
  · obtain ⟨h1, h2⟩ := hu c
    rw [if_pos c, if_pos c, if_pos c, if_pos c, h1, if_pos (by omega), if_pos h2]
  · rw [if_neg c, if_neg c, if_neg c, if_neg c, if_pos (by omega), divisor_eq k _ _ g0 (by omega) (by omega), Option.bind_some]
theorem i_lw1 (X O : List Int) (one : Int) (P : List R) (n i : Int) (A H : List R) (a0 a1 h0 h1 : Int) (k : Nat) (hv : 0 < one * a0 ∧ one * a0 ≤ 191102976) (hk : 4586471424 < k) (hu : h1 < 0 → wrap64 (-h1) = -h1 ∧ -h1 < (X.length : Int)) (hO : O.length ≤ 1000) :
    impl_levelWeights.l2 (k + 1) X O (gA O 0) one P n i 1 A H a0 a1 h0 h1 = impl_levelWeights.l2 k (pushX X h1 (one * a0)) (pushP O h1 (one * a0)) (gA (pushP O h1 (one * a0)) 0) one P n i 2 A H a0 a1 h0 h1 := by
  have w2 : wrap64 (1 + 1) = 2 := wrap_id (by omega) (by omega)
  have g0 := gA_nonneg O 0 (by omega)
  simp only [impl_levelWeights.l2]
  rw [if_pos (by decide), if_neg (by decide), if_pos trivial, w2, wrap_id (x := one * a0) (by omega) (by omega), gA_push]
  unfold pushX pushP
  by_cases c : h1 < 0
  · obtain ⟨h1, h2⟩ := hu c
    rw [if_pos c, if_pos c, if_pos c, if_pos c, h1, if_pos (by omega), if_pos h2]
  · rw [if_neg c, if_neg c, if_neg c, if_neg c, if_pos (by omega), divisor_eq k _ _ g0 (by omega) (by omega), Option.bind_some]
theorem i_l3 (g : Int) : ∀ (s p : List Int) (K : Nat), (p ++ s).length ≤ 1000 → s.length < K → (∀ x ∈ s, 0 < x ∧ x ≤ 191102976) → (s ≠ [] → 0 < g) → impl_levelWeights.l3 K (p ++ s) g ((p ++ s).length : Int) (p.length : Int) = some (p ++ s.map (fun x => x / g)) := by
  intro s
  induction s with
  | nil =>
    intro p K hl hK hb hg
    obtain ⟨K, rfl⟩ : ∃ m, K = m + 1 := ⟨K - 1, by simp at hK; omega⟩
    simp only [impl_levelWeights.l3]
    rw [if_neg (by simp)]
    rfl
  | cons x s ih =>
    intro p K hl hK hb hg
    obtain ⟨K, rfl⟩ : ∃ m, K = m + 1 := ⟨K - 1, by simp at hK; omega⟩
    have g0 := hg (by simp)
    have x0 := hb x (by simp)
    have d0 : 0 ≤ x / g := Int.ediv_nonneg (by omega) (by omega)
    have d1 : x / g ≤ x := Int.ediv_le_self _ (by omega)
    have hn : ((p.length : Nat) : Int).toNat = p.length := by omega
    have hs : (p ++ x :: s).set p.length (x / g) = p ++ x / g :: s := by rw [List.set_append_right _ _ (Nat.le_refl _), Nat.sub_self, List.set_cons_zero]
    simp only [impl_levelWeights.l3]
    rw [if_pos (by simp; omega), if_pos (by omega), if_pos (by simp; omega), if_neg (by omega), rdI, Int.tdiv_eq_ediv_of_nonneg (by omega), wrap_id (x := x / g) (by omega) (by omega), hn, hs, wrap_id (x := (p.length : Int) + 1) (by omega) (by simp at hl; omega)]
    have e := ih (p ++ [x / g]) K (by simpa using hl) (by simp at hK; omega) (fun y hy => hb y (by simp [hy])) (fun _ => g0)
    rw [show ((p ++ [x / g] ++ s).length : Int) = ((p ++ x :: s).length : Int) from by simp, show ((p ++ [x / g]).length : Int) = (p.length : Int) + 1 from by simp, List.append_assoc] at e
    rw [show p ++ x / g :: s = p ++ ([x / g] ++ s) from by simp, e]
    simp
theorem pushP_length (O : List Int) (h v : Int) (hh : h < 0 ∨ 0 < h) : (pushP O h v).length = nx O.length h := by
  unfold pushP nx
  by_cases c : h < 0
  · rw [if_pos c, if_neg (by omega)]
  · rw [if_neg c, if_pos (by omega)]
    simp
theorem Lks.each {D : Int} : ∀ {ps : List Int} {fs : List F}, Lks D ps fs → ∀ x ∈ ps, 0 < x ∧ x ≤ D := by
  intro ps
  induction ps with
  | nil => intro fs h x hx; cases hx
  | cons y ps ih =>
    intro fs h x hx
    cases fs with
    | nil => exact absurd h (by simp [Lks])
    | cons g gs =>
      rcases List.mem_cons.1 hx with rfl | hx
      · exact ⟨h.1.1, h.1.2.1⟩
      · exact ih h.2 x hx
theorem pushY_at {n i : Nat} {B : List Bool} {Y : List F} {h : Int} {c : Int × Int} (hs : seeOk (i : Int) (n : Int) B h = true) : rd_T77 (pushY Y h c) (i : Int) = rd_T77 Y (i : Int) := by
  unfold pushY
  by_cases h0 : h < 0
  · obtain ⟨k1, k2, k3⟩ := see_kid hs h0
    rw [if_pos h0]
    show (Y.set (-h).toNat _).getD i z77 = Y.getD i z77
    rw [gset, if_neg (by omega)]
  · rw [if_neg h0]
theorem see_or {i n : Int} {B : List Bool} {h : Int} (hs : seeOk i n B h = true) (hi : 0 ≤ i) : h < 0 ∨ 0 < h := by
  simp only [seeOk, leafOk, Bool.or_eq_true, Bool.and_eq_true, decide_eq_true_eq] at hs
  omega
theorem run {A H : List R} (ok : MOk A H) {D : Int} (hD : 0 < D ∧ D ≤ 191102976) : ∀ (us hs pA q : List R) (i : Nat) (B : List Bool) (X : List Int) (Y : List F) (O : List Int) (O' : List F), us.length = hs.length → A = pA ++ us → pA.length = i → H = q ++ hs → q.length = i → okA us →
    gI (A.length : Int) (i : Int) us hs B = true → Sh A.length D (prodS us) i B X Y O O' → O.length ≤ 2 * i → O'.length ≤ 2 * i →
    ∃ (P : List Int) (Fs : List F), Lks D P Fs ∧ P.length = O.length + cnt hs ∧ Fs.length ≤ 2 * A.length ∧ ∀ k, 4 * us.length + 5000000000 < k → spec_l5Shares.l0 k Y O' (i : Int) A H = some Fs ∧ impl_levelWeights.l1 k X O (gA O 0) A (A.length : Int) (i : Int) A H = some (P.map (fun x => x / gA P 0)) := by
  have o1 := ok.len
  have o2 := ok.same
  intro us
  induction us with
  | nil =>
    intro hs pA q i B X Y O O' hl hA hpA hH hq hok hg o hO hO'
    have : hs = [] := List.eq_nil_of_length_eq_zero (by simpa using hl.symm)
    subst this
    have hi : i = A.length := by rw [hA, ← hpA]; simp
    refine ⟨O, O', o.leaf, by simp [cnt], by omega, fun k hk => ?_⟩
    obtain ⟨k, rfl⟩ : ∃ m, k = m + 1 := ⟨k - 1, by omega⟩
    have ea := o.leaf.each
    refine ⟨?_, ?_⟩
    · simp only [spec_l5Shares.l0]
      rw [if_neg (by omega)]
    · simp only [impl_levelWeights.l1]
      rw [if_neg (by omega)]
      have e := i_l3 (gA O 0) O [] k (by simp; omega) (by omega) (fun x hx => by have := ea x hx; omega) (fun hne => gA_pos0 O (fun x hx => (ea x hx).1) hne)
      simpa using e
  | cons a us ih =>
    intro hs pA q i B X Y O O' hl hA hpA hH hq hok hg o hO hO'
    cases hs with
    | nil => simp at hl
    | cons x hs =>
      have hlen : A.length = i + us.length + 1 := by rw [hA, ← hpA]; simp; omega
      have hxA : rd_T58 A (i : Int) = a := by rw [hA, ← hpA]; exact rdT pA us a
      have hxH : rd_T58 H (i : Int) = x := by rw [hH, ← hq]; exact rdT q hs x
      have known : i = 0 ∨ B.getD i false = true := by
        rcases Nat.eq_zero_or_pos i with h0 | h0
        · exact Or.inl h0
        · exact Or.inr (gI_seen (A.length : Int) (a :: us) (x :: hs) i B hl hg i h0 (Nat.le_refl _) (by have := o.lB; omega))
      simp only [gI, Bool.and_eq_true] at hg
      obtain ⟨_, s0, s1, g⟩ := hg
      obtain ⟨aa0, aa1⟩ := hok a (by simp)
      have hok2 : okA us := fun y hy => hok y (by simp [hy])
      have f := ok.fin i (by omega)
      rw [hxH] at f
      have ends : ∀ h : Int, endOk (i : Int) (A.length : Int) h = true → h < 0 → wrap64 (-h) = -h ∧ -h < (A.length : Int) := fun h he h0 => by
        have ch := child he h0
        exact ⟨wrap_id (by omega) (by omega), by omega⟩
      have lX := o.lX
      have lY := o.lY
      obtain ⟨lk, dv⟩ := o.rod i (Nat.le_refl _) (by omega) known
      have hle := Lk.le lk
      have hP1 := lk.1
      have hP2 := lk.2.1
      have ht0 := lk.2.2.1
      have hb0 := lk.2.2.2.1
      simp only [prodS] at dv o
      have ch1 := child_lk (o := a.f1) (R := prodS us) lk (show 0 < a.f0 + a.f1 by omega) (by omega) (by omega) dv
      have ch0 := child_lk (o := a.f0) (R := prodS us) lk (show 0 < a.f0 + a.f1 by omega) (by omega) (by omega) dv
      have o2 := (o.next).push s0 ch1.1 ch1.2
      have o3 := o2.push s1 ch0.1 ch0.2
      have hxX : rd X (i : Int) = X.getD i 0 := rfl
      have hxY : rd_T77 Y (i : Int) = Y.getD i z77 := rfl
      generalize X.getD i 0 = P at *
      generalize Y.getD i z77 = fr at *
      have l1 := pushP_length O x.f0 (P / (a.f0 + a.f1) * a.f1) (see_or s0 (by omega))
      have l2 := pushP_length (pushP O x.f0 (P / (a.f0 + a.f1) * a.f1)) x.f1 (P / (a.f0 + a.f1) * a.f0) (see_or s1 (by omega))
      rw [l1] at l2
      have n1 := nx_add (nx O.length x.f0) x.f1
      have n2 := nx_add O.length x.f0
      have n3 := nx_add (nx 0 x.f0) x.f1
      have n4 : ∀ h, nx 0 h ≤ 1 := fun h => by unfold nx; split <;> omega
      have n5 := n4 x.f0
      have n6 := n4 x.f1
      have pF : ∀ (V : List F) (h : Int) (c : Int × Int), (pushF V h c).length ≤ V.length + 1 := fun V h c => by unfold pushF; split <;> simp
      have p1 := pF O' x.f0 (cut (fr.f0 * a.f1) (fr.f1 * (a.f0 + a.f1)))
      have p2 := pF (pushF O' x.f0 (cut (fr.f0 * a.f1) (fr.f1 * (a.f0 + a.f1)))) x.f1 (cut (fr.f0 * a.f0) (fr.f1 * (a.f0 + a.f1)))
      obtain ⟨Pf, Fs, h1, h2, h3, h4⟩ := ih hs (pA ++ [a]) (q ++ [x]) (i + 1) _ _ _ _ _ (by simpa using hl) (by rw [hA]; simp) (by simp [hpA]) (by rw [hH]; simp) (by simp [hq]) hok2 g o3 (by omega) (by omega)
      refine ⟨Pf, Fs, h1, by rw [h2, l2]; simp only [cnt]; omega, h3, fun k hk => ?_⟩
      simp only [List.length_cons] at hk
      obtain ⟨k, rfl⟩ : ∃ m, k = m + 4 := ⟨k - 4, by omega⟩
      obtain ⟨e1, e2⟩ := h4 k (by omega)
      have ws : wrap64 (a.f0 + a.f1) = a.f0 + a.f1 := wrap_id (by omega) (by omega)
      have q0 : 0 ≤ P / (a.f0 + a.f1) := Int.ediv_nonneg (by omega) (by omega)
      have q1 : P / (a.f0 + a.f1) ≤ P := Int.ediv_le_self _ (by omega)
      refine ⟨?_, ?_⟩
      · rw [show spec_l5Shares.l0 (k + 4) Y O' (i : Int) A H = spec_l5Shares.l1 (k + 3) Y O' (i : Int) 0 A H from by
          simp only [spec_l5Shares.l0]
          rw [if_pos (by omega)]]
        rw [s_sh0 Y O' i A H a x fr (k + 2) hxA hxH hxY (by omega) (by omega) (by omega) ⟨ht0, by omega⟩ ⟨hb0, by omega⟩ aa0 aa1 (by omega) (by rw [lY]; exact ends _ f.1) (by omega)]
        rw [s_sh1 _ _ i A H a x fr (k + 1) hxA hxH ((pushY_at s0).trans hxY) (by rw [pushY_length]; omega) (by omega) (by omega) ⟨ht0, by omega⟩ ⟨hb0, by omega⟩ aa0 aa1 (by omega) (by rw [pushY_length, lY]; exact ends _ f.2) (by omega)]
        simp only [spec_l5Shares.l1]
        rw [if_neg (by decide), wrap_id (x := (i : Int) + 1) (by omega) (by omega)]
        exact e1
      · rw [show impl_levelWeights.l1 (k + 4) X O (gA O 0) A (A.length : Int) (i : Int) A H = impl_levelWeights.l2 (k + 3) X O (gA O 0) (P / (a.f0 + a.f1)) A (A.length : Int) (i : Int) 0 A H a.f0 a.f1 x.f0 x.f1 from by
          simp only [impl_levelWeights.l1]
          rw [if_pos (by omega), if_pos (by omega), if_pos (by omega), if_pos (by omega), hxA, hxH, hxX, ws, if_neg (by omega), if_pos (by omega), Int.tdiv_eq_ediv_of_nonneg (by omega), wrap_id (x := P / (a.f0 + a.f1)) (by omega) (by omega)]]
        have v1 := ch1.1.1
        have v2 := ch1.1.2.1
        have v3 := ch0.1.1
        have v4 := ch0.1.2.1
        rw [i_lw0 _ _ _ _ _ _ _ _ _ _ _ _ (k + 2) ⟨v1, by omega⟩ (by omega) (by rw [lX]; exact ends _ f.1) (by omega)]
        rw [i_lw1 _ _ _ _ _ _ _ _ _ _ _ _ (k + 1) ⟨v3, by omega⟩ (by omega) (by rw [pushX_length, lX]; exact ends _ f.2) (by omega)]
        simp only [impl_levelWeights.l2]
        rw [if_neg (by decide), wrap_id (x := (i : Int) + 1) (by omega) (by omega)]
        exact e2
def fl (L : Int) (f : F) : Int := qOf L f.f0 f.f1
theorem rdF (p s : List F) (x : F) : rd_T77 (p ++ x :: s) ((p.length : Int)) = x := by
  simp [rd_T77]
theorem s_w0 {D : Int} (hD : 0 < D ∧ D ≤ 191102976) : ∀ (s p : List F) (L : Int), (p ++ s).length ≤ 1000 → 0 < L → L ∣ D → (∀ f ∈ s, 0 < f.f1 ∧ f.f1 ∣ D) →
    ∃ L' : Int, 0 < L' ∧ L' ∣ D ∧ L ∣ L' ∧ (∀ f ∈ s, f.f1 ∣ L') ∧ ∀ K k : Nat, K = k + s.length + 1 → 191102976 < k → spec_LevelWeights.l0 K (p ++ s) L (p.length : Int) = spec_LevelWeights.l1 k (p ++ s) L' [] 0 0 := by
  intro s
  induction s with
  | nil =>
    intro p L hl hL hLD hs
    refine ⟨L, hL, hLD, Int.dvd_refl _, fun f hf => (by cases hf), fun K k hK hk => ?_⟩
    subst hK
    simp only [spec_LevelWeights.l0, List.length_nil, Nat.add_zero]
    rw [if_neg (by simp)]
  | cons f s ih =>
    intro p L hl hL hLD hs
    obtain ⟨hb, hbD⟩ := hs f (by simp)
    obtain ⟨m0, m1, m2, m3⟩ := lcm_step hL hb hLD hbD
    obtain ⟨L', h1, h2, h3, h4, h5⟩ := ih (p ++ [f]) (L / gd L f.f1 * f.f1) (by simpa using hl) m0 m1 (fun g hg => hs g (by simp [hg]))
    have bL := Int.le_of_dvd hD.1 hLD
    have bb := Int.le_of_dvd hD.1 hbD
    have bm := Int.le_of_dvd hD.1 m1
    have gp := gd_pos (a := L) hb
    have q0 : 0 ≤ L / gd L f.f1 := Int.ediv_nonneg (by omega) (by omega)
    have q1 : L / gd L f.f1 ≤ L := Int.ediv_le_self _ (by omega)
    refine ⟨L', h1, h2, Int.dvd_trans m2 h3, ?_, fun K k hK hk => ?_⟩
    · intro g hg
      rcases List.mem_cons.1 hg with rfl | hg
      · exact Int.dvd_trans m3 h3
      · exact h4 g hg
    · obtain ⟨K, rfl⟩ : ∃ m, K = m + 1 := ⟨K - 1, by omega⟩
      simp only [List.length_cons] at hK
      have e := h5 K k (by omega) hk
      simp only [spec_LevelWeights.l0]
      rw [if_pos (by simp; omega), if_pos (by omega), rdF, Gcd_eq K _ _ (by omega) (by omega) (by omega), Option.bind_some, if_neg (by omega), Int.tdiv_eq_ediv_of_nonneg (by omega), wrap_id (x := L / gd L f.f1) (by omega) (by omega), wrap_id (x := L / gd L f.f1 * f.f1) (by omega) (by omega), snocI p f (by simp at hl; omega), List.append_cons p f s]
      exact e
theorem Most_eq (a b : Int) : spec_l1Most.f a b = some (mx a b) := by
  unfold spec_l1Most.f mx
  (repeat' split) <;> (first | rfl | omega | (congr 1; omega))
theorem Least_eq (a b : Int) : spec_l1Least.f a b = some (mn a b) := by
  unfold spec_l1Least.f mn
  (repeat' split) <;> (first | rfl | omega | (congr 1; omega))
theorem gd_mxmn (a b : Int) : gd (mx a b) (mn a b) = gd a b := by
  unfold gd mx mn
  (repeat' split) <;> (first | rfl | omega | (rw [Nat.gcd_comm]; done) | (have e_ : a = b := (by omega); subst e_; rfl))
theorem s_w1 {D L : Int} (hD : 0 < D ∧ D ≤ 191102976) : ∀ (s p : List F) (Q : List Int) (c : Int), (p ++ s).length ≤ 1000 → Q.length = p.length → 0 ≤ c → (c ≤ 191102976) → (∀ f ∈ s, 0 < f.f1 ∧ f.f1 ∣ L ∧ 0 < f.f0 ∧ 0 < fl L f ∧ fl L f ≤ D) → 0 < L → L ≤ D →
    ∀ K k : Nat, K = k + s.length + 1 → 191102976 < k → spec_LevelWeights.l1 K (p ++ s) L Q c (p.length : Int) = spec_LevelWeights.l2 k (Q ++ s.map (fl L)) (gA (s.map (fl L)) c) 0 := by
  intro s
  induction s with
  | nil =>
    intro p Q c hl hQ hc hc2 hs hL hLD K k hK hk
    subst hK
    simp only [spec_LevelWeights.l1, List.length_nil, Nat.add_zero]
    rw [if_neg (by simp)]
    simp [gA]
  | cons f s ih =>
    intro p Q c hl hQ hc hc2 hs hL hLD K k hK hk
    obtain ⟨K, rfl⟩ : ∃ m, K = m + 1 := ⟨K - 1, by omega⟩
    simp only [List.length_cons] at hK
    obtain ⟨hb, hbL, ht, hq, hqD⟩ := hs f (by simp)
    have q0 : 0 ≤ L / f.f1 := Int.ediv_nonneg (by omega) (by omega)
    have q1 : L / f.f1 ≤ L := Int.ediv_le_self _ (by omega)
    have hfl : L / f.f1 * f.f0 = fl L f := rfl
    have gn : 0 ≤ gd c (fl L f) := by unfold gd; omega
    have gle : gd c (fl L f) ≤ 191102976 := by
      have := Int.le_of_dvd hq (gd_dvd c (fl L f)).2
      omega
    have hr : rd (Q ++ [fl L f]) (p.length : Int) = fl L f := by rw [← hQ]; simp [rd]
    have e := ih (p ++ [f]) (Q ++ [fl L f]) (gd c (fl L f)) (by simpa using hl) (by simp [hQ]) gn gle (fun g hg => hs g (by simp [hg])) hL hLD K k (by omega) hk
    simp only [spec_LevelWeights.l1]
    rw [if_pos (by simp; omega), if_pos (by omega), rdF, if_neg (by omega), if_pos (by simp at hl; omega), Option.bind_some, Int.tdiv_eq_ediv_of_nonneg (by omega), wrap_id (x := L / f.f1) (by omega) (by omega), hfl, wrap_id (x := fl L f) (by omega) (by omega)]
    rw [if_pos (by simp [hQ]; omega), hr, Most_eq, Option.bind_some, Least_eq, Option.bind_some, Gcd_eq K _ _ (by unfold mx; split <;> omega) (by unfold mn; split <;> omega) (by unfold mn; split <;> omega), Option.bind_some, gd_mxmn, snocI p f (by simp at hl; omega), List.append_cons p f s, e]
    simp [gA]
def anyBig (l : List Int) : Bool := l.any (fun x => decide (x > 99))
theorem s_w2 (g : Int) : ∀ (s p : List Int) (K : Nat), (p ++ s).length ≤ 1000 → s.length < K → (∀ x ∈ s, 0 < x ∧ x ≤ 191102976) → (s ≠ [] → 0 < g) →
    spec_LevelWeights.l2 K (p ++ s) g (p.length : Int) = some (if anyBig (s.map (fun x => x / g)) = true then ([], false) else (p ++ s.map (fun x => x / g), true)) := by
  intro s
  induction s with
  | nil =>
    intro p K hl hK hb hg
    obtain ⟨K, rfl⟩ : ∃ m, K = m + 1 := ⟨K - 1, by simp at hK; omega⟩
    simp only [spec_LevelWeights.l2]
    rw [if_neg (by simp)]
    rfl
  | cons x s ih =>
    intro p K hl hK hb hg
    obtain ⟨K, rfl⟩ : ∃ m, K = m + 1 := ⟨K - 1, by simp at hK; omega⟩
    have g0 := hg (by simp)
    have x0 := hb x (by simp)
    have d0 : 0 ≤ x / g := Int.ediv_nonneg (by omega) (by omega)
    have d1 : x / g ≤ x := Int.ediv_le_self _ (by omega)
    have hn : ((p.length : Nat) : Int).toNat = p.length := by omega
    have hs : (p ++ x :: s).set p.length (x / g) = p ++ x / g :: s := by rw [List.set_append_right _ _ (Nat.le_refl _), Nat.sub_self, List.set_cons_zero]
    simp only [spec_LevelWeights.l2]
    rw [if_pos (by simp; omega), if_pos (by omega), if_neg (by omega), rdI, Int.tdiv_eq_ediv_of_nonneg (by omega), wrap_id (x := x / g) (by omega) (by omega), hn, hs, Option.bind_some, rdI]
    by_cases big : x / g > 99
    · rw [if_pos big, if_pos (by simp [anyBig, big])]
    · have e := ih (p ++ [x / g]) K (by simpa using hl) (by simp at hK; omega) (fun y hy => hb y (by simp [hy])) (fun _ => g0)
      rw [if_neg big, snocI p (x / g) (by simp at hl; omega), List.append_cons p (x / g) s, e]
      have : anyBig (List.map (fun x => x / g) (x :: s)) = anyBig (s.map (fun x => x / g)) := by simp [anyBig, big]
      rw [this]
      simp
theorem max_l0 : ∀ (s p : List Int) (m : Int) (K : Nat), (p ++ s).length ≤ 1000 → s.length < K → ∃ r, slices_Max_int_int.l0 K (p ++ s) m (p.length : Int) = some r ∧ (r > 99 ↔ m > 99 ∨ anyBig s = true) := by
  intro s
  induction s with
  | nil =>
    intro p m K hl hK
    obtain ⟨K, rfl⟩ : ∃ m, K = m + 1 := ⟨K - 1, by simp at hK; omega⟩
    simp only [slices_Max_int_int.l0]
    rw [if_neg (by simp)]
    exact ⟨m, rfl, by simp [anyBig]⟩
  | cons x s ih =>
    intro p m K hl hK
    obtain ⟨K, rfl⟩ : ∃ m, K = m + 1 := ⟨K - 1, by simp at hK; omega⟩
    simp only [slices_Max_int_int.l0]
    rw [if_pos (by simp; omega), if_pos (by omega), rdI, snocI p x (by simp at hl; omega), List.append_cons p x s]
    obtain ⟨r, h1, h2⟩ := ih (p ++ [x]) (mx m x) K (by simpa using hl) (by simp at hK; omega)
    refine ⟨r, h1, h2.trans ?_⟩
    have : anyBig (x :: s) = (decide (x > 99) || anyBig s) := rfl
    rw [this, Bool.or_eq_true, decide_eq_true_eq]
    have hm : mx m x > 99 ↔ m > 99 ∨ x > 99 := by unfold mx; split <;> omega
    rw [hm, or_assoc]
theorem max_eq (l : List Int) (K : Nat) (hl : l.length ≤ 1000) (hK : l.length < K) (hne : l ≠ []) : ∃ r, slices_Max_int_int.f K l = some r ∧ (r > 99 ↔ anyBig l = true) := by
  cases l with
  | nil => exact absurd rfl hne
  | cons x s =>
    obtain ⟨r, h1, h2⟩ := max_l0 s [x] x K (by simpa using hl) (by simp at hK; omega)
    unfold slices_Max_int_int.f
    rw [if_neg (by simp; omega), if_pos (by simp)]
    refine ⟨r, ?_, h2.trans ?_⟩
    · simpa [rd] using h1
    · have : anyBig (x :: s) = (decide (x > 99) || anyBig s) := rfl
      rw [this, Bool.or_eq_true, decide_eq_true_eq]
theorem lw_l0 (P : List R) (A H : List R) (n : Nat) : ∀ (us pA : List R) (acc : Int) (X : List Int) (K k : Nat), P = pA ++ us → P.length ≤ 6 → okA us → X.length = n → 1 ≤ n → 0 < acc → acc * prodS us ≤ 191102976 → X.getD 0 0 = acc → K = k + us.length + 1 →
    impl_levelWeights.l0 K X P (P.length : Int) (pA.length : Int) A H = impl_levelWeights.l1 k (X.set 0 (acc * prodS us)) [] 0 A (A.length : Int) 0 A H := by
  intro us
  induction us with
  | nil =>
    intro pA acc X K k hP hP6 hok hX hn ha hb hx hK
    subst hK
    simp only [impl_levelWeights.l0, List.length_nil, Nat.add_zero]
    rw [if_neg (by rw [hP]; simp)]
    have : X.set 0 (acc * prodS []) = X := by
      cases X with
      | nil => simp at hX; omega
      | cons y ys =>
        simp at hx
        simp [prodS, hx]
    rw [this]
  | cons a us ih =>
    intro pA acc X K k hP hP6 hok hX hn ha hb hx hK
    obtain ⟨K, rfl⟩ : ∃ m, K = m + 1 := ⟨K - 1, by omega⟩
    simp only [List.length_cons] at hK
    obtain ⟨a0, a1⟩ := hok a (by simp)
    have hok2 : okA us := fun y hy => hok y (by simp [hy])
    obtain ⟨p0, _⟩ := prodS_pos us hok2
    have hr : rd_T58 P (pA.length : Int) = a := by rw [hP]; exact rdT pA us a
    have hPl : P.length = pA.length + us.length + 1 := by rw [hP]; simp; omega
    have s0 : 0 < acc * (a.f0 + a.f1) := Int.mul_pos ha (by omega)
    have tot : acc * prodS (a :: us) = acc * (a.f0 + a.f1) * prodS us := by simp only [prodS]; rw [Int.mul_assoc]
    have s1 : acc * (a.f0 + a.f1) ≤ acc * (a.f0 + a.f1) * prodS us := by
      have := Int.mul_le_mul_of_nonneg_left (show 1 ≤ prodS us by omega) (Int.le_of_lt s0)
      omega
    rw [tot] at hb ⊢
    have hrx : rd X 0 = acc := hx
    have e := ih (pA ++ [a]) (acc * (a.f0 + a.f1)) (X.set 0 (acc * (a.f0 + a.f1))) K k (by rw [hP]; simp) hP6 hok2 (by simpa using hX) hn s0 hb (by rw [gset, if_pos ⟨rfl, by omega⟩]) (by omega)
    simp only [impl_levelWeights.l0]
    rw [if_pos (by omega), if_pos (by omega), if_pos (by omega), if_pos (by omega), hr, hrx, wrap_id (x := a.f0 + a.f1) (by omega) (by omega), wrap_id (x := acc * (a.f0 + a.f1)) (by omega) (by omega), snocI pA a (by omega)]
    rw [show ((0 : Int)).toNat = 0 from rfl, e, List.set_set]
theorem okA_of {A H : List R} (ok : MOk A H) : okA A := by
  intro a ha
  obtain ⟨i, hi, rfl⟩ := List.mem_iff_getElem.1 ha
  have f := ok.arm i hi
  have e : rd_T58 A (i : Int) = A[i] := by
    simp only [rd_T58, Int.toNat_natCast]
    rw [List.getD_eq_getElem?_getD, List.getElem?_eq_getElem hi]
    rfl
  rw [e] at f
  simp only [armOk, decide_eq_true_eq] at f
  exact f
theorem Lks.q {D L : Int} (hL : 0 < L) (hD : L ∣ D) : ∀ {ps : List Int} {fs : List F}, Lks D ps fs → (∀ f ∈ fs, f.f1 ∣ L) → (fs.map (fl L)).map (fun x => D * x) = ps.map (fun x => L * x) ∧ ∀ f ∈ fs, 0 < f.f1 ∧ f.f1 ∣ D ∧ 0 < f.f0 ∧ 0 < fl L f ∧ fl L f ≤ D := by
  intro ps
  induction ps with
  | nil =>
    intro fs h _
    cases fs with
    | nil => exact ⟨rfl, fun f hf => (by cases hf)⟩
    | cons g gs => exact absurd h (by simp [Lks])
  | cons x ps ih =>
    intro fs h hs
    cases fs with
    | nil => exact absurd h (by simp [Lks])
    | cons g gs =>
      obtain ⟨e1, e2⟩ := ih h.2 (fun f hf => hs f (by simp [hf]))
      obtain ⟨q1, q2, q3⟩ := qOf_lk h.1 hL hD (hs g (by simp))
      refine ⟨?_, ?_⟩
      · simp only [List.map_cons]
        rw [e1]
        congr 1
      · intro f hf
        rcases List.mem_cons.1 hf with rfl | hf
        · exact ⟨h.1.2.2.2.1, h.1.2.2.2.2.1, h.1.2.2.1, q2, q3⟩
        · exact e2 f hf
theorem Lks.d {D : Int} : ∀ {ps : List Int} {fs : List F}, Lks D ps fs → (∀ f ∈ fs, 0 < f.f1 ∧ f.f1 ∣ D) ∧ ps.length = fs.length := by
  intro ps
  induction ps with
  | nil =>
    intro fs h
    cases fs with
    | nil => exact ⟨fun f hf => (by cases hf), rfl⟩
    | cons g gs => exact absurd h (by simp [Lks])
  | cons x ps ih =>
    intro fs h
    cases fs with
    | nil => exact absurd h (by simp [Lks])
    | cons g gs =>
      obtain ⟨e1, e2⟩ := ih h.2
      refine ⟨?_, by simp [e2]⟩
      intro f hf
      rcases List.mem_cons.1 hf with rfl | hf
      · exact ⟨h.1.2.2.2.1, h.1.2.2.2.2.1⟩
      · exact e1 f hf
theorem both (A H : List R) (hb : A.length + H.length ≤ 1048576) (hw : WfR H) : ∃ r : List Int × Bool, r.1.length ≤ 100 ∧ ∀ k, 6000000000 ≤ k → spec_LevelWeights.f k A H = some r ∧ impl_LevelWeights.f k A H = some r := by
  by_cases h : good A H = true
  · have ok := good_ok h
    have o1 := ok.len
    have o2 := ok.same
    have hc := good_cnt h
    have hok := okA_of ok
    obtain ⟨D0, D1⟩ := prodS_pos A hok
    have D2 := pw_le A.length (by omega)
    have g := h
    simp only [good, Bool.and_eq_true, decide_eq_true_eq] at g
    have sh : Sh A.length (prodS A) (prodS A) 0 (List.replicate A.length false) ((List.replicate A.length 0).set 0 (prodS A)) ((List.replicate A.length z77).set 0 ⟨1, 1⟩) [] [] := by
      refine ⟨by simp, by simp, by simp, ?_, trivial⟩
      intro j _ hj hb
      rcases hb with rfl | hb
      · rw [gset, gset, if_pos ⟨rfl, by simp; omega⟩, if_pos ⟨rfl, by simp; omega⟩]
        exact ⟨⟨D0, Int.le_refl _, by show (0 : Int) < 1; omega, by show (0 : Int) < 1; omega, ⟨prodS A, by show prodS A = 1 * prodS A; omega⟩, rfl⟩, Int.dvd_refl _⟩
      · simp [List.getD_eq_getElem?_getD, List.getElem?_replicate, hj] at hb
    obtain ⟨P, Fs, h1, h2, h3, h4⟩ := run ok (D := prodS A) ⟨D0, by omega⟩ A H [] [] 0 _ _ _ [] [] o2.symm rfl rfl rfl rfl hok g.2.2 sh (by simp) (by simp)
    obtain ⟨fd, fl2⟩ := h1.d
    simp only [List.length_nil, Nat.zero_add] at h2
    have each := h1.each
    have Pne : P ≠ [] := fun e => by rw [e] at h2; simp at h2; omega
    obtain ⟨L, L0, LD, _, Lf2, Ls⟩ := s_w0 (D := prodS A) ⟨D0, by omega⟩ Fs [] 1 (by simp; omega) (by omega) ⟨prodS A, by omega⟩ fd
    obtain ⟨eq, eb⟩ := h1.q L0 LD Lf2
    have low := lowest D0 L0 P (Fs.map (fl L)) eq
    have LleD := Int.le_of_dvd D0 LD
    have Qne : Fs.map (fl L) ≠ [] := fun e => by
      have : (Fs.map (fl L)).length = 0 := by rw [e]; rfl
      rw [List.length_map] at this
      omega
    have Qpos : ∀ x ∈ Fs.map (fl L), 0 < x ∧ x ≤ 191102976 := by
      intro x hx
      obtain ⟨f, hf, rfl⟩ := List.mem_map.1 hx
      have := eb f hf
      omega
    have gQ := gA_pos0 (Fs.map (fl L)) (fun x hx => (Qpos x hx).1) Qne
    refine ⟨if anyBig (P.map (fun x => x / gA P 0)) = true then ([], false) else (P.map (fun x => x / gA P 0), true), by split <;> simp; omega, fun k hk => ⟨?_, ?_⟩⟩
    · unfold spec_LevelWeights.f spec_l5Shares.f
      rw [l5Good_eq A H _ hw (by omega), Option.bind_some, if_pos h, if_pos (by omega), if_pos (by omega), Option.bind_some, if_pos (by simp; omega)]
      have e := (h4 k (by omega)).1
      rw [show ((0 : Int)).toNat = 0 from rfl, Int.toNat_natCast]
      simp only [Int.natCast_zero] at e
      rw [e, Option.bind_some]
      have e2 := Ls k (k - Fs.length - 1) (by omega) (by omega)
      simp only [List.nil_append, List.length_nil, Int.natCast_zero] at e2
      rw [e2]
      have e3 := s_w1 (D := prodS A) (L := L) ⟨D0, by omega⟩ Fs [] [] 0 (by simp; omega) rfl (by omega) (by omega) (fun f hf => by have := eb f hf; exact ⟨this.1, Lf2 f hf, this.2.2.1, this.2.2.2.1, this.2.2.2.2⟩) L0 LleD (k - Fs.length - 1) (k - Fs.length - 1 - Fs.length - 1) (by omega) (by omega)
      simp only [List.nil_append, List.length_nil, Int.natCast_zero] at e3
      rw [e3]
      have e4 := s_w2 (gA (Fs.map (fl L)) 0) (Fs.map (fl L)) [] (k - Fs.length - 1 - Fs.length - 1) (by simp; omega) (by simp; omega) Qpos (fun _ => gQ)
      simp only [List.nil_append, List.length_nil, Int.natCast_zero] at e4
      rw [e4, low]
    · unfold impl_LevelWeights.f impl_levelWeights.f
      rw [IsMobile_eq A H _ (by omega), Option.bind_some, if_pos h, if_pos (by omega), if_pos (by omega), Option.bind_some, if_pos (by simp; omega)]
      rw [show ((0 : Int)).toNat = 0 from rfl, Int.toNat_natCast]
      have e0 := lw_l0 A A H A.length A [] 1 ((List.replicate A.length (0 : Int)).set 0 1) k (k - A.length - 1) rfl (by omega) hok (by simp) (by omega) (by omega) (by omega) (by rw [gset, if_pos ⟨rfl, by simp; omega⟩]) (by omega)
      rw [List.length_nil, Int.natCast_zero, List.set_set, Int.one_mul] at e0
      rw [e0]
      have e := (h4 (k - A.length - 1) (by omega)).2
      simp only [Int.natCast_zero] at e
      have ge : gA ([] : List Int) 0 = 0 := rfl
      rw [ge] at e
      rw [e, Option.bind_some]
      obtain ⟨r, m1, m2⟩ := max_eq (P.map (fun x => x / gA P 0)) k (by simp; omega) (by simp; omega) (by simpa using Pne)
      rw [m1, Option.bind_some]
      by_cases big : anyBig (P.map (fun x => x / gA P 0)) = true
      · rw [if_pos (m2.2 big), if_pos big]
      · rw [if_neg (fun hh => big (m2.1 hh)), if_neg big]
  · refine ⟨([], false), by simp, fun k hk => ?_⟩
    simp (disch := omega) only [spec_LevelWeights.f, impl_LevelWeights.f, l5Good_eq A H _ hw, IsMobile_eq, h, Option.bind_some, if_false, and_self, Bool.false_eq_true]
theorem FnExactLevelWeights : ∀ (l0_0 : List (S58)) (l0_1 : List (S58)), (l0_0.length ≤ 9223372036854775807) → (∀ x_ ∈ l0_0, ((Lit.int .i64 x_.f0).wf = true) ∧ ((Lit.int .i64 x_.f1).wf = true)) → (l0_1.length ≤ 9223372036854775807) → (∀ x_ ∈ l0_1, ((Lit.int .i64 x_.f0).wf = true) ∧ ((Lit.int .i64 x_.f1).wf = true)) → ∃ k, laws_FnExactLevelWeights.f k l0_0 l0_1 = some true := by
  intro A H h1 _ h2 wH
  have hw := wfR_of wH
  refine ⟨7000000000 + 4 * A.length + 4 * H.length + 6, ?_⟩
  have hsz := szMobile_eq A H h1 h2
  by_cases hb : A.length + H.length ≤ 1048576
  · rw [if_pos hb] at hsz
    have n0 : ¬ ((1048576 : Int) - (A.length : Int) - (H.length : Int) < 0) := by omega
    obtain ⟨r, hr1, hr⟩ := both A H hb hw
    have hs := fun k hk => (hr k hk).1
    have hi := fun k hk => (hr k hk).2
    have n1 : ¬ ((1 : Int) + (r.1.length : Int) < 0) := by omega
    obtain ⟨M, n2, hm2⟩ := markMobile_some A H hb
    have hm : ∀ k, 200 ≤ k → laws_markIntS.f k r.1 1 = some ((1 : Int) + (r.1.length : Int), seqI 1 r.1.length) := fun k hk => markIntS_eq r.1 1 k (by omega) (by omega) (by omega) (by omega)
    have hh : ∀ k, 200 ≤ k → laws_heldIntS.f k (seqI 1 r.1.length) 1 = some ((1 : Int) + (r.1.length : Int)) := fun k hk => heldIntS_eq r.1.length 1 k (by omega) (by omega) (by omega) (by omega)
    simp (maxSteps := 4000000) (disch := omega) only [laws_FnExactLevelWeights.f, hsz, n0, toMobile_eq, hs, hi, eqIntS_refl, Option.bind_some, bne_refl, if_true, if_false]
    simp (maxSteps := 4000000) (disch := omega) only [laws_FnExactLevelWeights.j0, toMobile_eq, eqMobile_refl, eqIntS_refl, hm2, n2, Option.bind_some, bne_refl, if_true, if_false, Bool.false_eq_true]
    simp (maxSteps := 4000000) (disch := omega) only [laws_FnExactLevelWeights.j1, toMobile_eq, hi, eqIntS_refl, hm, hh, n1, Option.bind_some, bne_refl, if_true, if_false, Bool.false_eq_true]
    simp (maxSteps := 4000000) (disch := omega) only [laws_FnExactLevelWeights.j2, hh, n1, Option.bind_some, if_true, if_false, Bool.false_eq_true]
  · rw [if_neg hb] at hsz
    unfold laws_FnExactLevelWeights.f
    rw [hsz, Option.bind_some, if_pos (by decide)]

end Go.Proofs.Ytbdajkfihbaapaa.Pure

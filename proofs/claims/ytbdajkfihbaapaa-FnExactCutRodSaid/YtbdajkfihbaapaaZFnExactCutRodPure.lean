/- The pure statement of the law FnExactCutRod: what the law computes, as a function over numbers and lists, answers true for every input. No conditions beyond the ranges of Go's int. -/
import Derived.Test.YtbdajkfihbaapaaZFnExactCutRodx11
set_option linter.unusedVariables false
set_option linter.unusedSimpArgs false
namespace Go.Proofs.Ytbdajkfihbaapaa.Pure
open Go.RowKit Go.Proofs.YtbdajkfihbaapaaW.PrintWords Go.Proofs.YtbdajkfihbaapaaW.PrintLast Go.Proofs.Ytbdajkfihbaapaa.PFnExactCutRod

theorem wrap_id {x : Int} (h0 : -9223372036854775808 ≤ x) (h1 : x ≤ 9223372036854775807) : wrap64 x = x := by
  unfold wrap64
  omega
theorem wf64 {x : Int} (h : (Lit.int .i64 x).wf = true) : -9223372036854775808 ≤ x ∧ x ≤ 9223372036854775807 := by
  simp [Lit.wf, IntKind.min, IntKind.max, IntKind.signed, IntKind.bits] at h
  omega
theorem l1In_eq (a b c : Int) : spec_l1In.f a b c = some (decide (b ≤ a ∧ a ≤ c)) := by
  unfold spec_l1In.f
  split <;> simp_all
  omega
theorem within_eq (a b c : Int) : impl_within.f a b c = some (decide (b ≤ a ∧ a ≤ c)) := by
  unfold impl_within.f
  split <;> simp_all
  omega
theorem snocI {α : Type} (p : List α) (x : α) (h : p.length < 9223372036854775807) : wrap64 ((p.length : Int) + 1) = ((p ++ [x]).length : Int) := by
  rw [wrap_id (by omega) (by omega)]
  simp
theorem sz_id (n : Nat) (h : n ≤ 9223372036854775807) : wrap64 (1048576 - (n : Int)) = 1048576 - (n : Int) := wrap_id (by omega) (by omega)
theorem set_rep {α : Type} (q : List α) (z y : α) (n : Nat) : (q ++ List.replicate (n + 1) z).set q.length y = (q ++ [y]) ++ List.replicate n z := by
  rw [List.set_append_right _ _ (Nat.le_refl _), Nat.sub_self]
  simp [List.replicate_succ]
abbrev R := S58
theorem rdT (p s : List R) (x : R) : rd_T58 (p ++ x :: s) ((p.length : Int)) = x := by
  simp [rd_T58]
def Wf (h : Int) : Prop := -9223372036854775808 ≤ h ∧ h ≤ 9223372036854775807
def WfR (l : List R) : Prop := ∀ x ∈ l, Wf x.f0 ∧ Wf x.f1
def armOk (a : Int) : Bool := decide (1 ≤ a ∧ a ≤ 12)
def leafOk (h : Int) : Bool := decide (1 ≤ h ∧ h ≤ 99)
def endOk (i n h : Int) : Bool := leafOk h || decide (i + 1 ≤ -h ∧ -h ≤ n - 1)
def bump (T : List Int) (h : Int) : List Int := if h < 0 then T.set (-h).toNat (wrap64 (rd T (-h) + 1)) else T
def allOne (T : List Int) : Bool := T.all (fun t => decide (t = 1))
def gS (n : Int) : Int → List R → List R → List Int → Bool
  | i, a :: us, h :: hs, T => (armOk a.f0 && endOk i n h.f0) && ((armOk a.f1 && endOk i n h.f1) && gS n (i + 1) us hs (bump (bump T h.f0) h.f1))
  | _, _, _, T => allOne T
def seeOk (i n : Int) (B : List Bool) (h : Int) : Bool := leafOk h || (decide (i + 1 ≤ -h ∧ -h ≤ n - 1) && !(rdOf false B (-h)))
def mark (B : List Bool) (h : Int) : List Bool := if h < 0 then B.set (-h).toNat true else B
def gI (n : Int) : Int → List R → List R → List Bool → Bool
  | i, a :: us, h :: hs, B => (armOk a.f0 && armOk a.f1) && (seeOk i n B h.f0 && (seeOk i n (mark B h.f0) h.f1 && gI n (i + 1) us hs (mark (mark B h.f0) h.f1)))
  | _, _, _, B => (B.drop 1).all id
theorem bump_length (T : List Int) (h : Int) : (bump T h).length = T.length := by unfold bump; split <;> simp
theorem mark_length (B : List Bool) (h : Int) : (mark B h).length = B.length := by unfold mark; split <;> simp
/-- A rod that hangs twice spoils a mobile. -/
def big (m : Int) (T : List Int) : Prop := ∃ j, 2 ≤ T.getD j 0 ∧ T.getD j 0 ≤ m
theorem big_bump {m : Int} {T : List Int} (h : Int) (hm : m ≤ 1000000) (hb : big m T) : big (m + 1) (bump T h) := by
  obtain ⟨j, h1, h2⟩ := hb
  refine ⟨j, ?_⟩
  unfold bump
  by_cases h0 : h < 0
  · rw [if_pos h0]
    by_cases hj : (-h).toNat = j
    · have hl : j < T.length := by
        rcases Nat.lt_or_ge j T.length with hl | hl
        · exact hl
        · rw [List.getD_eq_getElem?_getD, List.getElem?_eq_none hl] at h1
          simp at h1
      have e : (T.set (-h).toNat (wrap64 (rd T (-h) + 1))).getD j 0 = T.getD j 0 + 1 := by
        rw [List.getD_eq_getElem?_getD, List.getElem?_set, if_pos hj, if_pos (by omega)]
        simp only [rd, hj, Option.getD_some]
        exact wrap_id (by omega) (by omega)
      rw [e]
      omega
    · have e : (T.set (-h).toNat (wrap64 (rd T (-h) + 1))).getD j 0 = T.getD j 0 := by
        rw [List.getD_eq_getElem?_getD, List.getElem?_set, if_neg hj, List.getD_eq_getElem?_getD]
      rw [e]
      omega
  · rw [if_neg h0]
    omega
theorem big_one {m : Int} {T : List Int} (hb : big m T) : allOne T = false := by
  obtain ⟨j, h1, h2⟩ := hb
  have hl : j < T.length := by
    rcases Nat.lt_or_ge j T.length with hl | hl
    · exact hl
    · rw [List.getD_eq_getElem?_getD, List.getElem?_eq_none hl] at h1
      simp at h1
  rw [List.getD_eq_getElem?_getD, List.getElem?_eq_getElem hl] at h1
  unfold allOne
  rw [List.all_eq_false]
  refine ⟨T[j], List.getElem_mem hl, ?_⟩
  simp at h1 ⊢
  omega
theorem gS_big (n : Int) : ∀ (us hs : List R) (i m : Int) (T : List Int), m + 2 * us.length ≤ 1000000 → big m T → gS n i us hs T = false := by
  intro us
  induction us with
  | nil => intro hs i m T hm hb; unfold gS; exact big_one hb
  | cons a us ih =>
    intro hs i m T hm hb
    cases hs with
    | nil => unfold gS; exact big_one hb
    | cons h hs =>
      simp only [List.length_cons, Int.natCast_add, Int.natCast_one] at hm
      simp only [gS]
      rw [ih hs (i + 1) (m + 1 + 1) _ (by omega) (big_bump _ (by omega) (big_bump _ (by omega) hb))]
      simp
def tOf : List Bool → List Int
  | [] => []
  | _ :: bs => 1 :: bs.map (fun b => if b then 1 else 0)
theorem tOf_length (B : List Bool) : (tOf B).length = B.length := by cases B <;> simp [tOf]
theorem tOf_rd (B : List Bool) (j : Nat) (hj : j + 1 < B.length) : (tOf B).getD (j + 1) 0 = if B.getD (j + 1) false then 1 else 0 := by
  cases B with
  | nil => simp at hj
  | cons b bs =>
    simp only [List.length_cons] at hj
    have h2 : j < bs.length := by omega
    simp [tOf, List.getD_eq_getElem?_getD, List.getElem?_eq_getElem h2]
theorem bump_mark (B : List Bool) (i n h : Int) (hi : 0 ≤ i) (hn : n = B.length) (hs : seeOk i n B h = true) : bump (tOf B) h = tOf (mark B h) := by
  unfold bump mark
  by_cases h0 : h < 0
  · rw [if_pos h0, if_pos h0]
    simp only [seeOk, leafOk, Bool.or_eq_true, Bool.and_eq_true, decide_eq_true_eq, Bool.not_eq_true'] at hs
    rcases hs with hs | hs
    · omega
    · obtain ⟨j, hj⟩ : ∃ j : Nat, (-h).toNat = j + 1 := ⟨(-h).toNat - 1, by omega⟩
      have hl : j + 1 < B.length := by omega
      have e1 := tOf_rd B j hl
      have e2 : B.getD (j + 1) false = false := by rw [← hj]; exact hs.2
      rw [e2] at e1
      simp only [rd, hj]
      rw [e1]
      rw [show wrap64 ((if false = true then (1 : Int) else 0) + 1) = 1 from wrap_id (by simp) (by simp)]
      cases B with
      | nil => simp at hl
      | cons b bs => simp [tOf, List.set_cons_succ, List.map_set]
  · rw [if_neg h0, if_neg h0]
theorem big_of (B : List Bool) (i n h : Int) (hi : 0 ≤ i) (hn : n = B.length) (he : endOk i n h = true) (hs : seeOk i n B h = false) : big 2 (bump (tOf B) h) := by
  simp only [seeOk, endOk, Bool.or_eq_true, Bool.or_eq_false_iff] at hs he
  rw [hs.1] at he
  simp only [Bool.false_eq_true, false_or, decide_eq_true_eq] at he
  have hb : rdOf false B (-h) = true := by simpa [he] using hs.2
  obtain ⟨j, hj⟩ : ∃ j : Nat, (-h).toNat = j + 1 := ⟨(-h).toNat - 1, by omega⟩
  have hl : j + 1 < B.length := by omega
  have e1 := tOf_rd B j hl
  have e2 : B.getD (j + 1) false = true := by rw [← hj]; exact hb
  rw [e2, if_pos rfl] at e1
  refine ⟨j + 1, ?_⟩
  unfold bump
  rw [if_pos (by omega)]
  simp only [rd, hj]
  rw [e1, List.getD_eq_getElem?_getD, List.getElem?_set, if_pos rfl, if_pos (by rw [tOf_length]; exact hl)]
  rw [show wrap64 (1 + 1) = 2 from wrap_id (by omega) (by omega)]
  simp
theorem see_end {i n : Int} {B : List Bool} {h : Int} (hs : seeOk i n B h = true) : endOk i n h = true := by
  unfold seeOk at hs
  unfold endOk
  revert hs
  cases leafOk h <;> simp
  intro h1 h2 _
  exact ⟨h1, h2⟩
theorem gS_gI (n : Int) : ∀ (us hs : List R) (i : Int) (B : List Bool), 0 ≤ i → n = B.length → 1 ≤ n → us.length ≤ 1000 → gS n i us hs (tOf B) = gI n i us hs B := by
  intro us
  have base : ∀ B : List Bool, n = B.length → 1 ≤ n → allOne (tOf B) = (B.drop 1).all id := by
    intro B h1 h2
    cases B with
    | nil => simp at h1; omega
    | cons b bs =>
      simp only [allOne, tOf, List.all_cons, decide_true, Bool.true_and, List.all_map, List.drop_succ_cons, List.drop_zero]
      congr 1
      funext x
      cases x <;> simp
  induction us with
  | nil => intro hs i B hi hn h1 _; unfold gS gI; exact base B hn h1
  | cons a us ih =>
    intro hs i B hi hn h1 hl
    simp only [List.length_cons] at hl
    cases hs with
    | nil => unfold gS gI; exact base B hn h1
    | cons h hs =>
      simp only [gS, gI]
      by_cases c0 : armOk a.f0 = true
      · by_cases c1 : armOk a.f1 = true
        · by_cases s0 : seeOk i n B h.f0 = true
          · have b0 := bump_mark B i n h.f0 hi hn s0
            have hn2 : n = (mark B h.f0).length := by rw [mark_length]; exact hn
            by_cases s1 : seeOk i n (mark B h.f0) h.f1 = true
            · have b1 := bump_mark (mark B h.f0) i n h.f1 hi hn2 s1
              rw [c0, c1, s0, s1, see_end s0, see_end s1, b0, b1, ih hs (i + 1) _ (by omega) (by rw [mark_length]; exact hn2) h1 (by omega)]
              simp
            · rw [Bool.not_eq_true] at s1
              rw [s1]
              by_cases e1 : endOk i n h.f1 = true
              · have g := big_of (mark B h.f0) i n h.f1 hi hn2 e1 s1
                rw [b0, gS_big n us hs (i + 1) 2 _ (by omega) g]
                simp
              · rw [Bool.not_eq_true] at e1
                rw [e1]
                simp
          · rw [Bool.not_eq_true] at s0
            rw [s0]
            by_cases e0 : endOk i n h.f0 = true
            · have g := big_of B i n h.f0 hi hn e0 s0
              rw [gS_big n us hs (i + 1) 3 _ (by omega) (big_bump _ (by omega) g)]
              simp
            · rw [Bool.not_eq_true] at e0
              rw [e0]
              simp
        · rw [Bool.not_eq_true] at c1
          rw [c1]
          simp
      · rw [Bool.not_eq_true] at c0
        rw [c0]
        simp
theorem arm_spec (x : Int) : spec_l1In.f x 1 12 = some (armOk x) := l1In_eq x 1 12
theorem l5End_eq (i n h : Int) (hi : 0 ≤ i ∧ i ≤ 100) (hn : 0 ≤ n ∧ n ≤ 100) (hw : Wf h) : spec_l5End.f i h n = some (endOk i n h) := by
  unfold Wf at hw
  unfold spec_l5End.f endOk leafOk
  rw [l1In_eq, Option.bind_some, l1In_eq]
  by_cases h1 : 1 ≤ h ∧ h ≤ 99
  · simp [h1]
  · rw [decide_eq_false h1, if_neg (by simp), Option.bind_some, Bool.false_or, wrap_id (x := i + 1) (by omega) (by omega), wrap_id (x := n - 1) (by omega) (by omega)]
    by_cases h2 : i + 1 ≤ -h ∧ -h ≤ n - 1
    · rw [wrap_id (x := -h) (by omega) (by omega)]
      have h3 : h < 0 := by omega
      simp [h2, h3]
    · have h3 : ¬ (i + 1 ≤ wrap64 (-h) ∧ wrap64 (-h) ≤ n - 1) := by
        unfold wrap64
        omega
      rw [decide_eq_false h3, decide_eq_false h2, if_neg (by simp)]
theorem child {i n h : Int} (he : endOk i n h = true) (h0 : h < 0) : i + 1 ≤ -h ∧ -h ≤ n - 1 := by
  simp only [endOk, leafOk, Bool.or_eq_true, decide_eq_true_eq] at he
  omega
theorem s_l1_0 (n i : Int) (T : List Int) (A H : List R) (a h : R) (k : Nat) (hA : rd_T58 A i = a) (hH : rd_T58 H i = h) (c0 : 0 ≤ i) (c1 : i < A.length) (c2 : i < H.length) (hi : i ≤ 100) (hn : 0 ≤ n ∧ n ≤ 100) (hT : (T.length : Int) = n) (hw : Wf h.f0) :
    spec_l5Good.l1 (k + 2) n T i 0 A H = if (armOk a.f0 && endOk i n h.f0) = true then spec_l5Good.l1 k n (bump T h.f0) i 1 A H else some false := by
  have e := l5End_eq i n h.f0 ⟨c0, hi⟩ hn hw
  have w1 : wrap64 (0 + 1) = 1 := wrap_id (by omega) (by omega)
  by_cases h1 : armOk a.f0 = true
  · by_cases h2 : endOk i n h.f0 = true
    · by_cases h3 : h.f0 < 0
      · have ch := child h2 h3
        have w := wrap_id (x := -h.f0) (by omega) (by omega)
        have r0 : 0 ≤ -h.f0 := by omega
        have r1 : -h.f0 < (T.length : Int) := by omega
        rw [show spec_l5Good.l1 (k + 2) n T i 0 A H = spec_l5Good.j3 (k + 1) n T i 0 (!true) A H from by simp only [spec_l5Good.l1, c0, c1, c2, hA, hH, arm_spec, e, h1, h2, Option.bind_some, if_true, Int.reduceLT]]
        simp only [spec_l5Good.j3, c0, c2, hH, h1, h2, h3, w, r0, r1, w1, bump, Bool.and_self, Bool.not_true, Bool.false_eq_true, if_true, if_false]
      · rw [show spec_l5Good.l1 (k + 2) n T i 0 A H = spec_l5Good.j3 (k + 1) n T i 0 (!true) A H from by simp only [spec_l5Good.l1, c0, c1, c2, hA, hH, arm_spec, e, h1, h2, Option.bind_some, if_true, Int.reduceLT]]
        simp only [spec_l5Good.j3, c0, c2, hH, h1, h2, h3, w1, bump, Bool.and_self, Bool.not_true, Bool.false_eq_true, if_true, if_false]
    · rw [Bool.not_eq_true] at h2
      rw [show spec_l5Good.l1 (k + 2) n T i 0 A H = spec_l5Good.j3 (k + 1) n T i 0 (!false) A H from by simp only [spec_l5Good.l1, c0, c1, c2, hA, hH, arm_spec, e, h1, h2, Option.bind_some, if_true, Int.reduceLT]]
      simp only [spec_l5Good.j3, h1, h2, Bool.and_false, Bool.not_false, Bool.false_eq_true, if_true, if_false]
  · rw [Bool.not_eq_true] at h1
    rw [show spec_l5Good.l1 (k + 2) n T i 0 A H = spec_l5Good.j3 (k + 1) n T i 0 true A H from by simp only [spec_l5Good.l1, c0, c1, hA, arm_spec, h1, Option.bind_some, if_true, if_false, Bool.false_eq_true, Int.reduceLT]]
    simp only [spec_l5Good.j3, h1, Bool.false_and, Bool.false_eq_true, if_true, if_false]
theorem s_l1_1 (n i : Int) (T : List Int) (A H : List R) (a h : R) (k : Nat) (hA : rd_T58 A i = a) (hH : rd_T58 H i = h) (c0 : 0 ≤ i) (c1 : i < A.length) (c2 : i < H.length) (hi : i ≤ 100) (hn : 0 ≤ n ∧ n ≤ 100) (hT : (T.length : Int) = n) (hw : Wf h.f1) :
    spec_l5Good.l1 (k + 2) n T i 1 A H = if (armOk a.f1 && endOk i n h.f1) = true then spec_l5Good.l1 k n (bump T h.f1) i 2 A H else some false := by
  have e := l5End_eq i n h.f1 ⟨c0, hi⟩ hn hw
  have w1 : wrap64 (1 + 1) = 2 := wrap_id (by omega) (by omega)
  have q : ¬ ((1 : Int) = 0) := by omega
  by_cases h1 : armOk a.f1 = true
  · by_cases h2 : endOk i n h.f1 = true
    · by_cases h3 : h.f1 < 0
      · have ch := child h2 h3
        have w := wrap_id (x := -h.f1) (by omega) (by omega)
        have r0 : 0 ≤ -h.f1 := by omega
        have r1 : -h.f1 < (T.length : Int) := by omega
        rw [show spec_l5Good.l1 (k + 2) n T i 1 A H = spec_l5Good.j3 (k + 1) n T i 1 (!true) A H from by simp only [spec_l5Good.l1, c0, c1, c2, hA, hH, arm_spec, e, h1, h2, q, Option.bind_some, if_true, if_false, Int.reduceLT]]
        simp only [spec_l5Good.j3, c0, c2, hH, h1, h2, h3, w, r0, r1, w1, q, bump, Bool.and_self, Bool.not_true, Bool.false_eq_true, if_true, if_false]
      · rw [show spec_l5Good.l1 (k + 2) n T i 1 A H = spec_l5Good.j3 (k + 1) n T i 1 (!true) A H from by simp only [spec_l5Good.l1, c0, c1, c2, hA, hH, arm_spec, e, h1, h2, q, Option.bind_some, if_true, if_false, Int.reduceLT]]
        simp only [spec_l5Good.j3, c0, c2, hH, h1, h2, h3, w1, q, bump, Bool.and_self, Bool.not_true, Bool.false_eq_true, if_true, if_false]
    · rw [Bool.not_eq_true] at h2
      rw [show spec_l5Good.l1 (k + 2) n T i 1 A H = spec_l5Good.j3 (k + 1) n T i 1 (!false) A H from by simp only [spec_l5Good.l1, c0, c1, c2, hA, hH, arm_spec, e, h1, h2, q, Option.bind_some, if_true, if_false, Int.reduceLT]]
      simp only [spec_l5Good.j3, h1, h2, Bool.and_false, Bool.not_false, Bool.false_eq_true, if_true, if_false]
  · rw [Bool.not_eq_true] at h1
    rw [show spec_l5Good.l1 (k + 2) n T i 1 A H = spec_l5Good.j3 (k + 1) n T i 1 true A H from by simp only [spec_l5Good.l1, c0, c1, hA, arm_spec, h1, q, Option.bind_some, if_true, if_false, Bool.false_eq_true, Int.reduceLT]]
    simp only [spec_l5Good.j3, h1, Bool.false_and, Bool.false_eq_true, if_true, if_false]
theorem s_l2 (n : Int) : ∀ (s p : List Int) (k : Nat), ((p ++ s).length : Int) = n → n ≤ 100 → s.length < k → spec_l5Good.l2 k n (p ++ s) (p.length : Int) = some (allOne s) := by
  intro s
  induction s with
  | nil =>
    intro p k hn h1 hk
    obtain ⟨k, rfl⟩ : ∃ m, k = m + 1 := ⟨k - 1, by simp at hk; omega⟩
    simp only [spec_l5Good.l2]
    rw [if_neg (by simp at hn; omega)]
    rfl
  | cons x s ih =>
    intro p k hn h1 hk
    obtain ⟨k, rfl⟩ : ∃ m, k = m + 1 := ⟨k - 1, by simp at hk; omega⟩
    have hr : rd (p ++ x :: s) (p.length : Int) = x := by simp [rd]
    simp only [spec_l5Good.l2]
    rw [if_pos (by simp at hn; omega), if_pos (by omega), if_pos (by simp at hn ⊢; omega), hr, snocI p x (by simp at hn; omega), List.append_cons p x s, ih (p ++ [x]) k (by simpa using hn) h1 (by simp at hk; omega)]
    by_cases hx : x = 1 <;> simp [allOne, hx]
theorem s_l0 (n : Int) : ∀ (us hs : List R) (p q : List R) (T : List Int) (k : Nat), p.length = q.length → us.length = hs.length → ((p ++ us).length : Int) = n → n ≤ 6 → (T.length : Int) = n → WfR hs → 6 * us.length + 20 ≤ k →
    spec_l5Good.l0 k n T (p.length : Int) (p ++ us) (q ++ hs) = some (gS n (p.length : Int) us hs T) := by
  intro us
  induction us with
  | nil =>
    intro hs p q T k hpq hl hn h6 hT hw hk
    obtain ⟨k, rfl⟩ : ∃ m, k = m + 1 := ⟨k - 1, by omega⟩
    simp only [spec_l5Good.l0, gS]
    rw [if_neg (by simp at hn; omega)]
    exact s_l2 n T [] k hT (by omega) (by omega)
  | cons a us ih =>
    intro hs p q T k hpq hl hn h6 hT hw hk
    cases hs with
    | nil => simp at hl
    | cons h hs =>
      simp only [List.length_cons] at hk
      obtain ⟨k, rfl⟩ : ∃ m, k = m + 6 := ⟨k - 6, by omega⟩
      have hA := rdT p us a
      have hH : rd_T58 (q ++ h :: hs) (p.length : Int) = h := by rw [hpq]; exact rdT q hs h
      have hw0 := hw h (by simp)
      simp only [List.length_append, List.length_cons, Int.natCast_add, Int.natCast_one] at hn
      simp only [List.length_cons] at hl
      have d1 : (p.length : Int) < ((p ++ a :: us).length : Int) := by simp; omega
      have d2 : (p.length : Int) < ((q ++ h :: hs).length : Int) := by simp; omega
      have d3 : (p.length : Int) < n := by omega
      rw [show spec_l5Good.l0 (k + 6) n T (p.length : Int) (p ++ a :: us) (q ++ h :: hs) = spec_l5Good.l1 (k + 5) n T (p.length : Int) 0 (p ++ a :: us) (q ++ h :: hs) from by simp only [spec_l5Good.l0, d3, if_true]]
      rw [s_l1_0 n _ T _ _ a h (k + 3) hA hH (by omega) d1 d2 (by omega) (by omega) hT hw0.1]
      simp only [gS]
      by_cases g0 : (armOk a.f0 && endOk (p.length : Int) n h.f0) = true
      · rw [if_pos g0, g0, s_l1_1 n _ _ _ _ a h (k + 1) hA hH (by omega) d1 d2 (by omega) (by omega) (by rw [bump_length]; exact hT) hw0.2]
        by_cases g1 : (armOk a.f1 && endOk (p.length : Int) n h.f1) = true
        · rw [if_pos g1, g1]
          rw [show spec_l5Good.l1 (k + 1) n (bump (bump T h.f0) h.f1) (p.length : Int) 2 (p ++ a :: us) (q ++ h :: hs) = spec_l5Good.l0 k n (bump (bump T h.f0) h.f1) (wrap64 ((p.length : Int) + 1)) (p ++ a :: us) (q ++ h :: hs) from by simp only [spec_l5Good.l1, Int.reduceLT, if_false]]
          rw [snocI p a (by omega), List.append_cons p a us, List.append_cons q h hs]
          rw [ih hs (p ++ [a]) (q ++ [h]) _ k (by simp [hpq]) (by omega) (by simp; omega) h6 (by rw [bump_length, bump_length]; exact hT) (fun x hx => hw x (by simp [hx])) (by omega)]
          simp
        · rw [if_neg g1]
          rw [Bool.not_eq_true] at g1
          rw [g1]
          simp
      · rw [if_neg g0]
        rw [Bool.not_eq_true] at g0
        rw [g0]
        simp
theorem isArm_eq (a : Int) : impl_isArm.f a = some (armOk a) := by simp only [impl_isArm.f, within_eq, Option.bind_some, armOk]
theorem isLeaf_eq (a : Int) : impl_isWeight.f a = some (leafOk a) := by simp only [impl_isWeight.f, within_eq, Option.bind_some, leafOk]
theorem kid_eq (i n h : Int) (hi : 0 ≤ i ∧ i ≤ 100) (hn : 0 ≤ n ∧ n ≤ 100) : impl_within.f h (wrap64 (1 - n)) (wrap64 (wrap64 (-i) - 1)) = some (decide (i + 1 ≤ -h ∧ -h ≤ n - 1)) := by
  rw [within_eq, wrap_id (x := 1 - n) (by omega) (by omega), wrap_id (x := -i) (by omega) (by omega), wrap_id (x := -i - 1) (by omega) (by omega)]
  congr 1
  apply decide_eq_decide.2
  omega
theorem i_l1_0 (n i len : Int) (B : List Bool) (A L H : List R) (u v : Int) (k : Nat) (c0 : 0 ≤ i) (hi : i ≤ 100) (hn : 0 ≤ n ∧ n ≤ 100) (hB : (B.length : Int) = n) :
    impl_IsMobile.l1 (k + 1) n B i A len i 0 L H u v = if seeOk i n B u = true then impl_IsMobile.l1 k n (mark B u) i A len i 1 L H u v else some false := by
  have w1 : wrap64 (0 + 1) = 1 := wrap_id (by omega) (by omega)
  by_cases h1 : leafOk u = true
  · have h3 : ¬ u < 0 := by simp [leafOk] at h1; omega
    simp only [impl_IsMobile.l1, isLeaf_eq, h1, h3, w1, seeOk, mark, Bool.true_or, Option.bind_some, if_true, if_false, Int.reduceLT]
  · rw [Bool.not_eq_true] at h1
    by_cases h2 : i + 1 ≤ -u ∧ -u ≤ n - 1
    · have w := wrap_id (x := -u) (by omega) (by omega)
      have r0 : 0 ≤ -u := by omega
      have r1 : -u < (B.length : Int) := by omega
      have h3 : u < 0 := by omega
      cases hb : rdOf false B (-u) <;> simp only [impl_IsMobile.l1, isLeaf_eq, kid_eq i n u ⟨c0, hi⟩ hn, h1, h2, h3, hb, w, r0, r1, w1, seeOk, mark, Bool.false_or, Bool.true_and, Bool.not_true, Bool.not_false, and_self, decide_true, Option.bind_some, if_true, if_false, Bool.false_eq_true, Int.reduceLT]
    · simp only [impl_IsMobile.l1, isLeaf_eq, kid_eq i n u ⟨c0, hi⟩ hn, h1, h2, seeOk, Bool.false_or, Bool.false_and, decide_false, Option.bind_some, if_true, if_false, Bool.false_eq_true, Int.reduceLT]
theorem i_l1_1 (n i len : Int) (B : List Bool) (A L H : List R) (u v : Int) (k : Nat) (c0 : 0 ≤ i) (hi : i ≤ 100) (hn : 0 ≤ n ∧ n ≤ 100) (hB : (B.length : Int) = n) :
    impl_IsMobile.l1 (k + 1) n B i A len i 1 L H u v = if seeOk i n B v = true then impl_IsMobile.l1 k n (mark B v) i A len i 2 L H u v else some false := by
  have w1 : wrap64 (1 + 1) = 2 := wrap_id (by omega) (by omega)
  have q : ¬ ((1 : Int) = 0) := by omega
  by_cases h1 : leafOk v = true
  · have h3 : ¬ v < 0 := by simp [leafOk] at h1; omega
    simp only [impl_IsMobile.l1, isLeaf_eq, h1, h3, w1, q, seeOk, mark, Bool.true_or, Option.bind_some, if_true, if_false, Int.reduceLT]
  · rw [Bool.not_eq_true] at h1
    by_cases h2 : i + 1 ≤ -v ∧ -v ≤ n - 1
    · have w := wrap_id (x := -v) (by omega) (by omega)
      have r0 : 0 ≤ -v := by omega
      have r1 : -v < (B.length : Int) := by omega
      have h3 : v < 0 := by omega
      cases hb : rdOf false B (-v) <;> simp only [impl_IsMobile.l1, isLeaf_eq, kid_eq i n v ⟨c0, hi⟩ hn, h1, h2, h3, hb, w, r0, r1, w1, q, seeOk, mark, Bool.false_or, Bool.true_and, Bool.not_true, Bool.not_false, and_self, decide_true, Option.bind_some, if_true, if_false, Bool.false_eq_true, Int.reduceLT]
    · simp only [impl_IsMobile.l1, isLeaf_eq, kid_eq i n v ⟨c0, hi⟩ hn, h1, h2, q, seeOk, Bool.false_or, Bool.false_and, decide_false, Option.bind_some, if_true, if_false, Bool.false_eq_true, Int.reduceLT]
theorem Index_l0 : ∀ (s p : List Bool) (k : Nat), (p ++ s).length < 1000 → s.length < k → ∃ r, slices_Index_bool_bool.l0 k (p ++ s) false ((p ++ s).length : Int) (p.length : Int) = some r ∧ decide (r ≥ 0) = !(s.all id) := by
  intro s
  induction s with
  | nil =>
    intro p k hl hk
    obtain ⟨k, rfl⟩ : ∃ m, k = m + 1 := ⟨k - 1, by simp at hk; omega⟩
    simp only [slices_Index_bool_bool.l0]
    rw [if_neg (by simp)]
    exact ⟨-1, rfl, by simp⟩
  | cons x s ih =>
    intro p k hl hk
    obtain ⟨k, rfl⟩ : ∃ m, k = m + 1 := ⟨k - 1, by simp at hk; omega⟩
    have hr : rdOf false (p ++ x :: s) (p.length : Int) = x := by simp [rdOf]
    simp only [slices_Index_bool_bool.l0]
    rw [if_pos (by simp; omega), if_pos (by omega), if_pos (by simp; omega), hr]
    cases x with
    | false =>
      rw [if_pos (by decide)]
      exact ⟨_, rfl, by simp⟩
    | true =>
      rw [if_neg (by decide), snocI p true (by simp at hl; omega), List.append_cons p true s]
      obtain ⟨r, h1, h2⟩ := ih (p ++ [true]) k (by simpa using hl) (by simp at hk; omega)
      exact ⟨r, h1, by rw [h2]; simp⟩
theorem Contains_eq (l : List Bool) (k : Nat) (hl : l.length < 1000) (hk : l.length < k) : slices_Contains_bool_bool.f k l false = some (!(l.all id)) := by
  unfold slices_Contains_bool_bool.f slices_Index_bool_bool.f
  obtain ⟨r, h1, h2⟩ := Index_l0 l [] k hl hk
  have h3 : slices_Index_bool_bool.l0 k l false (l.length : Int) 0 = some r := h1
  rw [h3, Option.bind_some, h2]
theorem i_l0 (n : Int) : ∀ (us hs : List R) (p q : List R) (B : List Bool) (k : Nat), p.length = q.length → us.length = hs.length → ((p ++ us).length : Int) = n → 1 ≤ n → n ≤ 6 → (B.length : Int) = n → 6 * us.length + 20 ≤ k →
    impl_IsMobile.l0 k n B (p ++ us) n (p.length : Int) (p ++ us) (q ++ hs) = some (gI n (p.length : Int) us hs B) := by
  intro us
  induction us with
  | nil =>
    intro hs p q B k hpq hl hn h1 h6 hB hk
    obtain ⟨k, rfl⟩ : ∃ m, k = m + 1 := ⟨k - 1, by omega⟩
    simp only [impl_IsMobile.l0, gI]
    rw [if_neg (by simp at hn; omega), if_pos (by omega), Contains_eq _ k (by simp; omega) (by simp; omega)]
    simp
  | cons a us ih =>
    intro hs p q B k hpq hl hn h1 h6 hB hk
    cases hs with
    | nil => simp at hl
    | cons h hs =>
      simp only [List.length_cons] at hk
      obtain ⟨k, rfl⟩ : ∃ m, k = m + 6 := ⟨k - 6, by omega⟩
      have hA := rdT p us a
      have hH : rd_T58 (q ++ h :: hs) (p.length : Int) = h := by rw [hpq]; exact rdT q hs h
      simp only [List.length_append, List.length_cons, Int.natCast_add, Int.natCast_one] at hn
      simp only [List.length_cons] at hl
      have d0 : 0 ≤ (p.length : Int) := by omega
      have d1 : (p.length : Int) < ((p ++ a :: us).length : Int) := by simp; omega
      have d2 : (p.length : Int) < ((q ++ h :: hs).length : Int) := by simp; omega
      have d3 : (p.length : Int) < n := by omega
      simp only [gI]
      by_cases g0 : (armOk a.f0 && armOk a.f1) = true
      · have g0' := g0
        simp only [Bool.and_eq_true] at g0'
        rw [g0]
        rw [show impl_IsMobile.l0 (k + 6) n B (p ++ a :: us) n (p.length : Int) (p ++ a :: us) (q ++ h :: hs) = impl_IsMobile.l1 (k + 4) n B (p.length : Int) (p ++ a :: us) n (p.length : Int) 0 (p ++ a :: us) (q ++ h :: hs) h.f0 h.f1 from by simp only [impl_IsMobile.l0, impl_IsMobile.j2, hA, hH, isArm_eq, d0, d1, d2, d3, g0'.1, g0'.2, Bool.not_true, Option.bind_some, if_true, if_false, Bool.false_eq_true]]
        rw [i_l1_0 n _ n B _ _ _ _ _ (k + 3) d0 (by omega) (by omega) hB]
        by_cases s0 : seeOk (p.length : Int) n B h.f0 = true
        · rw [if_pos s0, s0, i_l1_1 n _ n _ _ _ _ _ _ (k + 2) d0 (by omega) (by omega) (by rw [mark_length]; exact hB)]
          by_cases s1 : seeOk (p.length : Int) n (mark B h.f0) h.f1 = true
          · rw [if_pos s1, s1]
            rw [show impl_IsMobile.l1 (k + 2) n (mark (mark B h.f0) h.f1) (p.length : Int) (p ++ a :: us) n (p.length : Int) 2 (p ++ a :: us) (q ++ h :: hs) h.f0 h.f1 = impl_IsMobile.l0 (k + 1) n (mark (mark B h.f0) h.f1) (p ++ a :: us) n (wrap64 ((p.length : Int) + 1)) (p ++ a :: us) (q ++ h :: hs) from by simp only [impl_IsMobile.l1, Int.reduceLT, if_false]]
            rw [snocI p a (by omega), List.append_cons p a us, List.append_cons q h hs]
            rw [ih hs (p ++ [a]) (q ++ [h]) _ (k + 1) (by simp [hpq]) (by omega) (by simp; omega) h1 h6 (by rw [mark_length, mark_length]; exact hB) (by omega)]
            simp
          · rw [if_neg s1]
            rw [Bool.not_eq_true] at s1
            rw [s1]
            simp
        · rw [if_neg s0]
          rw [Bool.not_eq_true] at s0
          rw [s0]
          simp
      · rw [Bool.not_eq_true] at g0
        rw [g0]
        cases x0 : armOk a.f0
        · simp only [impl_IsMobile.l0, impl_IsMobile.j2, hA, isArm_eq, d0, d1, d3, x0, Bool.false_and, Option.bind_some, if_true, if_false, Bool.false_eq_true]
        · rw [x0, Bool.true_and] at g0
          simp only [impl_IsMobile.l0, impl_IsMobile.j2, hA, isArm_eq, d0, d1, d3, x0, g0, Bool.not_false, Bool.false_and, Option.bind_some, if_true, if_false, Bool.false_eq_true]
/-- Whether a mobile is valid. -/
def good (A H : List R) : Bool := decide (1 ≤ (A.length : Int) ∧ (A.length : Int) ≤ 6) && (decide (H.length = A.length) && gI (A.length : Int) 0 A H (List.replicate A.length false))
theorem l5Good_eq (A H : List R) (k : Nat) (hw : WfR H) (hk : 100 ≤ k) : spec_l5Good.f k A H = some (good A H) := by
  obtain ⟨k, rfl⟩ : ∃ m, k = m + 1 := ⟨k - 1, by omega⟩
  unfold spec_l5Good.f good
  rw [l1In_eq, Option.bind_some]
  by_cases h1 : 1 ≤ (A.length : Int) ∧ (A.length : Int) ≤ 6
  · by_cases h2 : H.length = A.length
    · have e : ((H.length : Int) != (A.length : Int)) = false := by simp [h2]
      have r : ((A.length : Int)).toNat = A.length := by omega
      obtain ⟨n, hn⟩ : ∃ n, A.length = n + 1 := ⟨A.length - 1, by omega⟩
      have t : (List.replicate A.length (0 : Int)).set (0 : Int).toNat 1 = tOf (List.replicate A.length false) := by
        rw [hn]
        simp [List.replicate_succ, tOf]
      have b1 : 0 ≤ (A.length : Int) := by omega
      have b2 : A.length ≤ 35184372088832 := by omega
      have b3 : 0 < ((List.replicate A.length (0 : Int)).length : Int) := by simp; omega
      have g := s_l0 (A.length : Int) A H [] [] (tOf (List.replicate A.length false)) k rfl h2.symm rfl h1.2 (by rw [tOf_length]; simp) hw (by omega)
      simp only [List.nil_append, List.length_nil, Int.natCast_zero] at g
      simp only [h1, h2, and_self, decide_true, if_true, spec_l5Good.j0, e, Bool.false_eq_true, if_false, b1, r, b2, Option.bind_some, b3, t, g, Bool.true_and]
      rw [gS_gI _ A H 0 _ (by omega) (by simp) h1.1 (by omega)]
      simp
    · have e : ((H.length : Int) != (A.length : Int)) = true := by simp; omega
      simp only [h1, h2, and_self, decide_true, decide_false, if_true, spec_l5Good.j0, e, Bool.false_and, Bool.and_false]
  · simp only [h1, decide_false, Bool.false_eq_true, if_false, if_true, spec_l5Good.j0, Bool.false_and]
theorem IsMobile_eq (A H : List R) (k : Nat) (hk : 100 ≤ k) : impl_IsMobile.f k A H = some (good A H) := by
  obtain ⟨k, rfl⟩ : ∃ m, k = m + 1 := ⟨k - 1, by omega⟩
  unfold impl_IsMobile.f good
  rw [within_eq, Option.bind_some]
  by_cases h1 : 1 ≤ (A.length : Int) ∧ (A.length : Int) ≤ 6
  · by_cases h2 : H.length = A.length
    · have e : ((H.length : Int) != (A.length : Int)) = false := by simp [h2]
      have r : ((A.length : Int)).toNat = A.length := by omega
      have b1 : 0 ≤ (A.length : Int) := by omega
      have b2 : A.length ≤ 281474976710656 := by omega
      have g := i_l0 (A.length : Int) A H [] [] (List.replicate A.length false) k rfl h2.symm rfl h1.1 h1.2 (by simp) (by omega)
      simp only [List.nil_append, List.length_nil, Int.natCast_zero] at g
      simp only [h1, h2, and_self, decide_true, if_true, impl_IsMobile.j0, e, Bool.false_eq_true, if_false, b1, r, b2, g, Bool.true_and]
      simp
    · have e : ((H.length : Int) != (A.length : Int)) = true := by simp; omega
      simp only [h1, h2, and_self, decide_true, decide_false, if_true, impl_IsMobile.j0, e, Bool.false_and, Bool.and_false]
  · simp only [h1, decide_false, Bool.false_eq_true, if_false, if_true, impl_IsMobile.j0, Bool.false_and]
/-- What a valid mobile is. -/
structure MOk (A H : List R) : Prop where
  len : 1 ≤ A.length ∧ A.length ≤ 6
  same : H.length = A.length
  arm : ∀ i : Nat, i < A.length → armOk (rd_T58 A i).f0 = true ∧ armOk (rd_T58 A i).f1 = true
  fin : ∀ i : Nat, i < A.length → endOk i A.length (rd_T58 H i).f0 = true ∧ endOk i A.length (rd_T58 H i).f1 = true
theorem rdT_cons (a : R) (us : List R) (i : Nat) : rd_T58 (a :: us) ((i + 1 : Nat) : Int) = rd_T58 us (i : Int) := by
  simp [rd_T58]
theorem rdT_zero (a : R) (us : List R) : rd_T58 (a :: us) ((0 : Nat) : Int) = a := by
  simp [rd_T58]
theorem gI_ok (n : Int) : ∀ (us hs : List R) (i : Int) (B : List Bool), us.length = hs.length → gI n i us hs B = true →
    ∀ j : Nat, j < us.length → (armOk (rd_T58 us j).f0 = true ∧ armOk (rd_T58 us j).f1 = true) ∧ (endOk (i + j) n (rd_T58 hs j).f0 = true ∧ endOk (i + j) n (rd_T58 hs j).f1 = true) := by
  intro us
  induction us with
  | nil => intro hs i B hl h j hj; simp at hj
  | cons a us ih =>
    intro hs i B hl h j hj
    cases hs with
    | nil => simp at hl
    | cons x hs =>
      simp only [gI, Bool.and_eq_true] at h
      cases j with
      | zero =>
        rw [rdT_zero, rdT_zero]
        simp only [Int.natCast_zero, Int.add_zero]
        exact ⟨h.1, see_end h.2.1, see_end h.2.2.1⟩
      | succ j =>
        rw [rdT_cons, rdT_cons]
        have e := ih hs (i + 1) _ (by simpa using hl) h.2.2.2 j (by simpa using hj)
        rw [show i + 1 + (j : Int) = i + ((j + 1 : Nat) : Int) from by omega] at e
        exact e
theorem good_ok {A H : List R} (h : good A H = true) : MOk A H := by
  simp only [good, Bool.and_eq_true, decide_eq_true_eq] at h
  have g := gI_ok (A.length : Int) A H 0 _ h.2.1.symm h.2.2
  exact ⟨by omega, h.2.1, fun i hi => (g i hi).1, fun i hi => by have := (g i hi).2; rw [Int.zero_add] at this; exact this⟩
theorem at_same (h : Int) (W : List Int) : impl_weightAt.f h W = spec_l5At.f h W := rfl
theorem weights_same_l0 (A H : List R) : ∀ (k : Nat) (X : List Int) (j : Int), impl_rodWeights.l0 k X j A H = spec_l5Weights.l0 k X j A H := by
  intro k
  induction k with
  | zero => intro X j; rfl
  | succ k ih =>
    intro X j
    simp only [impl_rodWeights.l0, spec_l5Weights.l0, at_same, ih]
theorem weights_same (k : Nat) (A H : List R) : impl_rodWeights.f k A H = spec_l5Weights.f k A H := by
  unfold impl_rodWeights.f spec_l5Weights.f
  simp only [weights_same_l0]
def atW (W : List Int) (h : Int) : Int := if h < 0 then rd W (-h) else h
theorem at_eq {i n h : Int} {W : List Int} (hi : 0 ≤ i) (hn : n ≤ 100) (he : endOk i n h = true) (hl : (W.length : Int) = n) : spec_l5At.f h W = some (atW W h) := by
  unfold spec_l5At.f atW
  by_cases h0 : h < 0
  · have c := child he h0
    rw [if_pos h0, if_pos h0, wrap_id (x := -h) (by omega) (by omega), if_pos (by omega), if_pos (by omega)]
  · rw [if_neg h0, if_neg h0]
/-- The greatest weight of a rod that many from the last. -/
def bd : Nat → Int
  | 0 => 99
  | d + 1 => 2 * bd d
theorem bd_mono : ∀ (a b : Nat), a ≤ b → 99 ≤ bd a ∧ bd a ≤ bd b := by
  intro a b
  induction b with
  | zero =>
    intro h
    have : a = 0 := by omega
    subst this
    simp [bd]
  | succ b ih =>
    intro h
    rcases Nat.lt_or_ge b a with h1 | h1
    · have : a = b + 1 := by omega
      subst this
      refine ⟨?_, Int.le_refl _⟩
      clear ih h h1
      induction b with
      | zero => simp [bd]
      | succ b ih => simp only [bd] at ih ⊢; omega
    · have := ih h1
      simp only [bd]
      omega
theorem bd6 (d : Nat) (h : d ≤ 6) : bd d ≤ 6336 := by
  have := (bd_mono d 6 h).2
  simpa [bd] using this
theorem atW_bound {n i : Nat} {h : Int} {W : List Int} (he : endOk (i : Int) (n : Int) h = true) (hi : i < n) (hl : W.length = n) (hW : ∀ m : Nat, i < m → m < n → 1 ≤ rd W (m : Int) ∧ rd W (m : Int) ≤ bd (n - m)) : 1 ≤ atW W h ∧ atW W h ≤ bd (n - i - 1) := by
  unfold atW
  by_cases h0 : h < 0
  · rw [if_pos h0]
    have c := child he h0
    obtain ⟨m, hm⟩ : ∃ m : Nat, -h = (m : Int) := ⟨(-h).toNat, by omega⟩
    rw [hm] at c ⊢
    have w := hW m (by omega) (by omega)
    have b := (bd_mono (n - m) (n - i - 1) (by omega)).2
    omega
  · rw [if_neg h0]
    have b := (bd_mono 0 (n - i - 1) (by omega)).2
    simp only [bd] at b
    simp only [endOk, leafOk, Bool.or_eq_true, decide_eq_true_eq] at he
    omega
/-- What holds of the weights of rods. -/
structure WOk (n : Nat) (W : List Int) : Prop where
  len : W.length = n
  bound : ∀ m : Nat, m < n → 1 ≤ rd W (m : Int) ∧ rd W (m : Int) ≤ bd (n - m)
theorem weights_l0 {A H : List R} (ok : MOk A H) : ∀ (j : Nat) (X : List Int) (k : Nat), j ≤ A.length → X.length = A.length → j < k → (∀ m : Nat, j ≤ m → m < A.length → 1 ≤ rd X (m : Int) ∧ rd X (m : Int) ≤ bd (A.length - m)) →
    ∃ W, WOk A.length W ∧ ∀ k, j < k → spec_l5Weights.l0 k X ((j : Int) - 1) A H = some W := by
  have o1 := ok.len
  have o2 := ok.same
  intro j
  induction j with
  | zero =>
    intro X k hj hX hk hb
    refine ⟨X, ⟨hX, fun m hm => hb m (by omega) hm⟩, fun k hk => ?_⟩
    obtain ⟨k, rfl⟩ : ∃ m, k = m + 1 := ⟨k - 1, by omega⟩
    simp only [spec_l5Weights.l0]
    rw [if_neg (by omega)]
  | succ j ih =>
    intro X k hj hX hk hb
    have f := ok.fin j (by omega)
    have e0 := at_eq (W := X) (by omega) (by omega) f.1 (by omega)
    have e1 := at_eq (W := X) (by omega) (by omega) f.2 (by omega)
    have b0 := atW_bound (W := X) f.1 (by omega) hX (fun m h1 h2 => hb m (by omega) h2)
    have b1 := atW_bound (W := X) f.2 (by omega) hX (fun m h1 h2 => hb m (by omega) h2)
    have b6 := bd6 (A.length - j - 1) (by omega)
    have w := wrap_id (x := atW X (rd_T58 H j).f0 + atW X (rd_T58 H j).f1) (by omega) (by omega)
    obtain ⟨W, hW, hs⟩ := ih (X.set j (atW X (rd_T58 H j).f0 + atW X (rd_T58 H j).f1)) (j + 1) (by omega) (by simpa using hX) (by omega) (by
      intro m h1 h2
      by_cases hm : j = m
      · have : rd (X.set j (atW X (rd_T58 H j).f0 + atW X (rd_T58 H j).f1)) (m : Int) = atW X (rd_T58 H j).f0 + atW X (rd_T58 H j).f1 := by
          subst hm
          simp only [rd, List.getD_eq_getElem?_getD, List.getElem?_set, Int.toNat_natCast, if_true]
          rw [if_pos (by omega)]
          rfl
        rw [this, show A.length - m = (A.length - j - 1) + 1 from by omega]
        simp only [bd]
        omega
      · have : rd (X.set j (atW X (rd_T58 H j).f0 + atW X (rd_T58 H j).f1)) (m : Int) = rd X (m : Int) := by
          simp only [rd, List.getD_eq_getElem?_getD, List.getElem?_set, Int.toNat_natCast]
          rw [if_neg hm]
        rw [this]
        exact hb m (by omega) h2)
    refine ⟨W, hW, fun k hk => ?_⟩
    obtain ⟨k, rfl⟩ : ∃ m, k = m + 1 := ⟨k - 1, by omega⟩
    simp only [spec_l5Weights.l0]
    rw [show ((j + 1 : Nat) : Int) - 1 = (j : Int) from by omega, if_pos (by omega), if_pos (by omega), if_pos (by omega), e0, Option.bind_some, e1, Option.bind_some, if_pos (by omega), w, wrap_id (x := (j : Int) - 1) (by omega) (by omega), Int.toNat_natCast]
    exact hs k (by omega)
theorem weights_ok {A H : List R} (ok : MOk A H) : ∃ W, WOk A.length W ∧ ∀ k, 10 ≤ k → spec_l5Weights.f k A H = some W := by
  have o1 := ok.len
  obtain ⟨W, hW, hs⟩ := weights_l0 ok A.length (List.replicate A.length 0) (A.length + 1) (Nat.le_refl _) (by simp) (by omega) (fun m h1 h2 => by omega)
  refine ⟨W, hW, fun k hk => ?_⟩
  unfold spec_l5Weights.f
  rw [if_pos (by omega), if_pos (by omega), Option.bind_some, List.length_replicate, Int.toNat_natCast, wrap_id (x := (A.length : Int) - 1) (by omega) (by omega)]
  exact hs k (by omega)
def wR (x : R) : Prop := ((Lit.int .i64 x.f0).wf = true) ∧ ((Lit.int .i64 x.f1).wf = true)
theorem wfR_of {l : List R} (h : ∀ x ∈ l, ((Lit.int .i64 x.f0).wf = true) ∧ ((Lit.int .i64 x.f1).wf = true)) : WfR l := fun x hx => ⟨wf64 (h x hx).1, wf64 (h x hx).2⟩
theorem toIntA2_eq (k : Nat) (a b : Int) (hk : 3 ≤ k) : laws_toIntA2.f k a b = some (a, b) := by
  obtain ⟨k, rfl⟩ : ∃ m, k = m + 3 := ⟨k - 3, by omega⟩
  have w1 : wrap64 (0 + 1) = 1 := wrap_id (by omega) (by omega)
  have w2 : wrap64 (1 + 1) = 2 := wrap_id (by omega) (by omega)
  unfold laws_toIntA2.f
  simp only [laws_toIntA2.l0, w1, w2]
  simp
theorem eqIntA2_refl (k : Nat) (a b : Int) (hk : 3 ≤ k) : laws_eqIntA2.f k a b a b = some true := by
  obtain ⟨k, rfl⟩ : ∃ m, k = m + 3 := ⟨k - 3, by omega⟩
  have w1 : wrap64 (0 + 1) = 1 := wrap_id (by omega) (by omega)
  have w2 : wrap64 (1 + 1) = 2 := wrap_id (by omega) (by omega)
  unfold laws_eqIntA2.f
  simp only [laws_eqIntA2.l0, w1, w2]
  simp
theorem toIntA2S_l0 : ∀ (s p q : List R) (k : Nat), p.length = q.length → (p ++ s).length < 4611686018427387904 → s.length + 4 < k →
    laws_toIntA2S.l0 k (p ++ s) (q ++ List.replicate s.length z58) (p.length : Int) = some (q ++ s) := by
  intro s
  induction s with
  | nil =>
    intro p q k hpq hl hk
    obtain ⟨k, rfl⟩ : ∃ m, k = m + 1 := ⟨k - 1, by simp at hk; omega⟩
    simp only [laws_toIntA2S.l0]
    rw [if_neg (by simp)]
    simp
  | cons x s ih =>
    intro p q k hpq hl hk
    obtain ⟨k, rfl⟩ : ∃ m, k = m + 1 := ⟨k - 1, by simp at hk; omega⟩
    simp only [laws_toIntA2S.l0]
    rw [if_pos (by simp; omega), if_pos (by omega), toIntA2_eq k _ _ (by simp at hk; omega), Option.bind_some, if_pos (by simp; omega), rdT, snocI p x (by simp at hl; omega)]
    rw [show (((p.length : Nat) : Int)).toNat = q.length from by omega, List.length_cons, set_rep, List.append_cons p x s, ih (p ++ [x]) _ k (by simp [hpq]) (by simpa using hl) (by simp at hk; omega)]
    simp
theorem toIntA2S_eq (l : List R) (k : Nat) (hl : l.length ≤ 1048576) (hk : l.length + 4 < k) : laws_toIntA2S.f k l = some l := by
  unfold laws_toIntA2S.f
  rw [if_pos (by omega), if_pos (by omega)]
  exact toIntA2S_l0 l [] [] k rfl (by simp; omega) hk
theorem toMobile_eq (k : Nat) (A H : List R) (h1 : A.length ≤ 1048576) (h2 : H.length ≤ 1048576) (hk : A.length + 4 < k) (hk2 : H.length + 4 < k) : laws_toMobile.f k A H = some (A, H) := by
  unfold laws_toMobile.f
  rw [toIntA2S_eq A k h1 hk, toIntA2S_eq H k h2 hk2]
  rfl
theorem eqIntA2S_l0 : ∀ (s p : List R) (k : Nat), (p ++ s).length < 4611686018427387904 → s.length + 4 < k → laws_eqIntA2S.l0 k (p ++ s) (p ++ s) (p.length : Int) = some true := by
  intro s
  induction s with
  | nil =>
    intro p k hl hk
    obtain ⟨k, rfl⟩ : ∃ m, k = m + 1 := ⟨k - 1, by simp at hk; omega⟩
    simp only [laws_eqIntA2S.l0]
    rw [if_neg (by simp)]
  | cons x s ih =>
    intro p k hl hk
    obtain ⟨k, rfl⟩ : ∃ m, k = m + 1 := ⟨k - 1, by simp at hk; omega⟩
    simp only [laws_eqIntA2S.l0]
    rw [if_pos (by simp; omega), if_pos (by omega), if_pos (by simp; omega), rdT, eqIntA2_refl k _ _ (by simp at hk; omega), Option.bind_some, if_pos rfl, snocI p x (by simp at hl; omega)]
    have e := ih (p ++ [x]) k (by simpa using hl) (by simp at hk; omega)
    rw [List.append_assoc] at e
    exact e
theorem eqIntA2S_refl (l : List R) (k : Nat) (hl : l.length < 4611686018427387904) (hk : l.length + 4 < k) : laws_eqIntA2S.f k l l = some true := by
  unfold laws_eqIntA2S.f
  rw [if_pos rfl]
  exact eqIntA2S_l0 l [] k (by simpa using hl) hk
theorem eqMobile_refl (k : Nat) (A H : List R) (h1 : A.length < 4611686018427387904) (h2 : H.length < 4611686018427387904) (hk : A.length + 4 < k) (hk2 : H.length + 4 < k) : laws_eqMobile.f k A H A H = some true := by
  unfold laws_eqMobile.f
  rw [eqIntA2S_refl A k h1 hk, Option.bind_some, if_pos rfl, eqIntA2S_refl H k h2 hk2]
  rfl
theorem szMobile_eq (A H : List R) (h1 : A.length ≤ 9223372036854775807) (h2 : H.length ≤ 9223372036854775807) :
    laws_szMobile.f A H 1048576 = some (if A.length + H.length ≤ 1048576 then 1048576 - (A.length : Int) - (H.length : Int) else -1) := by
  unfold laws_szMobile.f laws_szIntA2S.f
  rw [sz_id _ h1]
  by_cases c1 : 1048576 < A.length
  · rw [if_pos (by omega), Option.bind_some, if_pos (by decide), if_neg (by omega)]
  · rw [if_neg (by omega), Option.bind_some, if_neg (by omega), wrap_id (x := 1048576 - (A.length : Int) - (H.length : Int)) (by omega) (by omega)]
    by_cases c2 : A.length + H.length ≤ 1048576
    · rw [if_neg (by omega), Option.bind_some, if_neg (by omega), if_pos c2]
    · rw [if_pos (by omega), Option.bind_some, if_pos (by decide), if_neg c2]
theorem T_set_len (l : List R) (i : Nat) (x : R) : (l.set i x).length = l.length := by simp
/-- The marks of rows of pairs: from x on, two a row. -/
def seqT : Int → Nat → List R
  | _, 0 => []
  | x, n + 1 => ⟨x, x + 1⟩ :: seqT (x + 2) n
theorem seqT_length : ∀ (n : Nat) (x : Int), (seqT x n).length = n := by
  intro n
  induction n with
  | zero => intro x; rfl
  | succ n ih => intro x; simp [seqT, ih]
theorem mark_l0 : ∀ (s p : List R) (x : Int) (k : Nat), (p ++ s).length < 4611686018427387904 → 0 ≤ x → x + 2 * s.length < 4611686018427387904 → 4 * s.length + 4 < k →
    laws_markIntA2S.l0 k (p ++ s) x (p.length : Int) = some (x + 2 * (s.length : Int), p ++ seqT x s.length) := by
  intro s
  induction s with
  | nil =>
    intro p x k hl h0 h1 hk
    obtain ⟨k, rfl⟩ : ∃ m, k = m + 1 := ⟨k - 1, by omega⟩
    simp only [laws_markIntA2S.l0]
    rw [if_neg (by simp)]
    simp [seqT]
  | cons y s ih =>
    intro p x k hl h0 h1 hk
    simp only [List.length_cons, Int.natCast_add, Int.natCast_one] at h1 hk
    obtain ⟨k, rfl⟩ : ∃ m, k = m + 4 := ⟨k - 4, by omega⟩
    have w1 : wrap64 (0 + 1) = 1 := wrap_id (by omega) (by omega)
    have w2 : wrap64 (1 + 1) = 2 := wrap_id (by omega) (by omega)
    have x1 := wrap_id (x := x + 1) (by omega) (by omega)
    have x2 := wrap_id (x := x + 1 + 1) (by omega) (by omega)
    have d0 : 0 ≤ (p.length : Int) := by omega
    have q : ¬ ((1 : Int) = 0) := by omega
    have d1 : (p.length : Int) < ((p ++ y :: s).length : Int) := by simp; omega
    have s1 : ∀ z : R, (p ++ y :: s).set ((p.length : Int)).toNat z = p ++ z :: s := fun z => by rw [Int.toNat_natCast, List.set_append_right _ _ (Nat.le_refl _), Nat.sub_self]; rfl
    have d2 : ∀ z : R, (p.length : Int) < ((p ++ z :: s).length : Int) := fun z => by simp; omega
    have s2 : ∀ z z2 : R, (p ++ z :: s).set ((p.length : Int)).toNat z2 = p ++ z2 :: s := fun z z2 => by rw [Int.toNat_natCast, List.set_append_right _ _ (Nat.le_refl _), Nat.sub_self]; rfl
    simp only [laws_markIntA2S.l0, d1, if_true]
    rw [show laws_markIntA2S.l1 (k + 3) (p ++ y :: s) x (p.length : Int) 0 = laws_markIntA2S.l1 (k + 2) (p ++ ⟨x, y.f1⟩ :: s) (x + 1) (p.length : Int) 1 from by simp only [laws_markIntA2S.l1, d0, d1, s1, rdT, w1, x1, if_true, Int.reduceLT]]
    rw [show laws_markIntA2S.l1 (k + 2) (p ++ ⟨x, y.f1⟩ :: s) (x + 1) (p.length : Int) 1 = laws_markIntA2S.l1 (k + 1) (p ++ ⟨x, x + 1⟩ :: s) (x + 1 + 1) (p.length : Int) 2 from by simp only [laws_markIntA2S.l1, d0, d2, s2, rdT, w2, x2, q, if_true, if_false, Int.reduceLT]]
    rw [show laws_markIntA2S.l1 (k + 1) (p ++ ⟨x, x + 1⟩ :: s) (x + 1 + 1) (p.length : Int) 2 = laws_markIntA2S.l0 k (p ++ ⟨x, x + 1⟩ :: s) (x + 1 + 1) (wrap64 ((p.length : Int) + 1)) from by simp only [laws_markIntA2S.l1, if_false, Int.reduceLT]]
    rw [snocI p (⟨x, x + 1⟩ : R) (by simp at hl; omega), List.append_cons p (⟨x, x + 1⟩ : R) s, ih (p ++ [(⟨x, x + 1⟩ : R)]) (x + 1 + 1) k (by simpa using hl) (by omega) (by omega) (by omega)]
    congr 1
    rw [show x + 1 + 1 = x + 2 from by omega]
    simp [seqT]
    omega
theorem markIntA2S_eq (l : List R) (x : Int) (k : Nat) (hl : l.length < 4611686018427387904) (h0 : 0 ≤ x) (h1 : x + 2 * l.length < 4611686018427387904) (hk : 4 * l.length + 4 < k) : laws_markIntA2S.f k l x = some (x + 2 * (l.length : Int), seqT x l.length) := by
  unfold laws_markIntA2S.f
  exact mark_l0 l [] x k hl h0 h1 hk
theorem markMobile_eq (A H : List R) (k : Nat) (hb : A.length + H.length ≤ 1048576) (hk : 4 * A.length + 4 < k) (hk2 : 4 * H.length + 4 < k) : laws_markMobile.f k A H 1 = some (1 + 2 * (A.length : Int) + 2 * (H.length : Int), seqT 1 A.length, seqT (1 + 2 * (A.length : Int)) H.length) := by
  unfold laws_markMobile.f
  rw [markIntA2S_eq A 1 k (by omega) (by omega) (by omega) hk, Option.bind_some, markIntA2S_eq H _ k (by omega) (by omega) (by omega) hk2]
  rfl
theorem markMobile_some (A H : List R) (hb : A.length + H.length ≤ 1048576) : ∃ M : Int × List R × List R, ¬ M.1 < 0 ∧ ∀ k, 10 + 4 * A.length + 4 * H.length < k → laws_markMobile.f k A H 1 = some M :=
  ⟨(1 + 2 * (A.length : Int) + 2 * (H.length : Int), seqT 1 A.length, seqT (1 + 2 * (A.length : Int)) H.length), by simp only; omega, fun k hk => markMobile_eq A H k hb (by omega) (by omega)⟩
theorem held_l0 : ∀ (n : Nat) (p : List R) (x : Int) (k : Nat), p.length + n < 4611686018427387904 → 0 ≤ x → x + 2 * n < 4611686018427387904 → 4 * n + 4 < k →
    laws_heldIntA2S.l0 k (p ++ seqT x n) x (p.length : Int) = some (x + 2 * (n : Int)) := by
  intro n
  induction n with
  | zero =>
    intro p x k hl h0 h1 hk
    obtain ⟨k, rfl⟩ : ∃ m, k = m + 1 := ⟨k - 1, by omega⟩
    simp only [laws_heldIntA2S.l0]
    rw [if_neg (by simp [seqT])]
    simp
  | succ n ih =>
    intro p x k hl h0 h1 hk
    simp only [Int.natCast_add, Int.natCast_one] at h1
    obtain ⟨k, rfl⟩ : ∃ m, k = m + 4 := ⟨k - 4, by omega⟩
    have w1 : wrap64 (0 + 1) = 1 := wrap_id (by omega) (by omega)
    have w2 : wrap64 (1 + 1) = 2 := wrap_id (by omega) (by omega)
    have x1 := wrap_id (x := x + 1) (by omega) (by omega)
    have x2 := wrap_id (x := x + 1 + 1) (by omega) (by omega)
    have d0 : 0 ≤ (p.length : Int) := by omega
    have q : ¬ ((1 : Int) = 0) := by omega
    simp only [seqT]
    have hr := rdT p (seqT (x + 2) n) (⟨x, x + 1⟩ : R)
    have d1 : (p.length : Int) < ((p ++ (⟨x, x + 1⟩ : R) :: seqT (x + 2) n).length : Int) := by simp; omega
    rw [show laws_heldIntA2S.l0 (k + 4) (p ++ (⟨x, x + 1⟩ : R) :: seqT (x + 2) n) x (p.length : Int) = laws_heldIntA2S.l1 (k + 3) (p ++ (⟨x, x + 1⟩ : R) :: seqT (x + 2) n) x (p.length : Int) 0 from by simp only [laws_heldIntA2S.l0, d1, if_true]]
    rw [show laws_heldIntA2S.l1 (k + 3) (p ++ (⟨x, x + 1⟩ : R) :: seqT (x + 2) n) x (p.length : Int) 0 = laws_heldIntA2S.l1 (k + 2) (p ++ (⟨x, x + 1⟩ : R) :: seqT (x + 2) n) (x + 1) (p.length : Int) 1 from by simp only [laws_heldIntA2S.l1, d0, d1, hr, w1, x1, if_true, Int.reduceLT]]
    rw [show laws_heldIntA2S.l1 (k + 2) (p ++ (⟨x, x + 1⟩ : R) :: seqT (x + 2) n) (x + 1) (p.length : Int) 1 = laws_heldIntA2S.l1 (k + 1) (p ++ (⟨x, x + 1⟩ : R) :: seqT (x + 2) n) (x + 1 + 1) (p.length : Int) 2 from by simp only [laws_heldIntA2S.l1, d0, d1, hr, w2, x2, q, if_true, if_false, Int.reduceLT]]
    rw [show laws_heldIntA2S.l1 (k + 1) (p ++ (⟨x, x + 1⟩ : R) :: seqT (x + 2) n) (x + 1 + 1) (p.length : Int) 2 = laws_heldIntA2S.l0 k (p ++ (⟨x, x + 1⟩ : R) :: seqT (x + 2) n) (x + 1 + 1) (wrap64 ((p.length : Int) + 1)) from by simp only [laws_heldIntA2S.l1, if_false, Int.reduceLT]]
    rw [snocI p (⟨x, x + 1⟩ : R) (by omega), List.append_cons p (⟨x, x + 1⟩ : R) _, show x + 1 + 1 = x + 2 from by omega, ih (p ++ [(⟨x, x + 1⟩ : R)]) (x + 2) k (by simp; omega) (by omega) (by omega) (by omega)]
    congr 1
    omega
theorem heldIntA2S_eq (n : Nat) (x : Int) (k : Nat) (hl : n < 4611686018427387904) (h0 : 0 ≤ x) (h1 : x + 2 * n < 4611686018427387904) (hk : 4 * n + 4 < k) : laws_heldIntA2S.f k (seqT x n) x = some (x + 2 * (n : Int)) := by
  unfold laws_heldIntA2S.f
  exact held_l0 n [] x k (by simpa using hl) h0 h1 hk
theorem heldMobile_eq (n m : Nat) (k : Nat) (hb : n + m ≤ 1048576) (hk : 4 * n + 4 < k) (hk2 : 4 * m + 4 < k) : laws_heldMobile.f k (seqT 1 n) (seqT (1 + 2 * (n : Int)) m) 1 = some (1 + 2 * (n : Int) + 2 * (m : Int)) := by
  unfold laws_heldMobile.f
  rw [heldIntA2S_eq n 1 k (by omega) (by omega) (by omega) hk, Option.bind_some, if_neg (by omega), heldIntA2S_eq m _ k (by omega) (by omega) (by omega) hk2, Option.bind_some, if_neg (by omega)]
theorem bne_refl (b : Bool) : (b != b) = false := by cases b <;> rfl
theorem gset {α : Type} (l : List α) (a j : Nat) (x d : α) : (l.set a x).getD j d = if a = j ∧ j < l.length then x else l.getD j d := by
  rw [List.getD_eq_getElem?_getD, List.getElem?_set, List.getD_eq_getElem?_getD]
  by_cases h : a = j
  · subst h
    by_cases h2 : a < l.length
    · rw [if_pos rfl, if_pos h2, if_pos ⟨rfl, h2⟩]
      rfl
    · rw [if_pos rfl, if_neg h2, if_neg (by omega), List.getElem?_eq_none (by omega)]
  · rw [if_neg h, if_neg (by omega)]
/-- What holds ahead of rod i: G: what is gone, N, M: the numbers of what stays, as the two count them; B: what hangs already. -/
structure Core (n c i : Nat) (B G : List Bool) (N M : List Int) : Prop where
  lB : B.length = n
  lG : G.length = n
  lN : N.length = n
  lM : M.length = n
  old : ∀ j : Nat, j < i → (G.getD j false = true ∧ N.getD j 0 < 0) ∨ (G.getD j false = false ∧ 0 ≤ N.getD j 0 ∧ N.getD j 0 = M.getD j 0)
  zero : i = 0 → G.getD 0 false = false ∧ N.getD 0 0 = 0
  seen : ∀ j : Nat, i ≤ j → j < n → B.getD j false = true → (G.getD j false = true ∧ N.getD j 0 = -1) ∨ (G.getD j false = false ∧ N.getD j 0 = 0)
  new : ∀ j : Nat, i ≤ j → j < n → 1 ≤ j → B.getD j false = false → N.getD j 0 = -1 ∧ G.getD j false = decide (j = c)
theorem Core.gone {n c i : Nat} {B G : List Bool} {N M : List Int} (h : Core n c i B G N M) (h1 : G.getD i false = true) (h2 : N.getD i 0 < 0) : Core n c (i + 1) B G N M where
  lB := h.lB
  lG := h.lG
  lN := h.lN
  lM := h.lM
  old := fun j hj => by
    by_cases e : j = i
    · subst e
      exact Or.inl ⟨h1, h2⟩
    · exact h.old j (by omega)
  zero := fun e => by omega
  seen := fun j hj => h.seen j (by omega)
  new := fun j hj => h.new j (by omega)
theorem Core.kept {n c i : Nat} {B G : List Bool} {N M : List Int} (h : Core n c i B G N M) (h1 : G.getD i false = false) (hi : i < n) (m : Int) (hm : 0 ≤ m) : Core n c (i + 1) B G (N.set i m) (M.set i m) where
  lB := h.lB
  lG := h.lG
  lN := by rw [List.length_set]; exact h.lN
  lM := by rw [List.length_set]; exact h.lM
  old := fun j hj => by
    have e1 := h.lN
    have e2 := h.lM
    rw [gset, gset]
    by_cases e : i = j
    · subst e
      rw [if_pos ⟨rfl, by omega⟩, if_pos ⟨rfl, by omega⟩]
      exact Or.inr ⟨h1, hm, rfl⟩
    · rw [if_neg (by omega), if_neg (by omega)]
      exact h.old j (by omega)
  zero := fun e => by omega
  seen := fun j hj hn hB => by
    rw [gset, if_neg (by omega)]
    exact h.seen j (by omega) hn hB
  new := fun j hj hn h0 hB => by
    rw [gset, if_neg (by omega)]
    exact h.new j (by omega) hn h0 hB
theorem see_kid {i n : Nat} {B : List Bool} {h : Int} (hs : seeOk (i : Int) (n : Int) B h = true) (h0 : h < 0) : (i : Int) + 1 ≤ -h ∧ -h ≤ (n : Int) - 1 ∧ B.getD (-h).toNat false = false := by
  simp only [seeOk, leafOk, Bool.or_eq_true, Bool.and_eq_true, decide_eq_true_eq, Bool.not_eq_true'] at hs
  rcases hs with hs | hs
  · omega
  · exact ⟨hs.1.1, hs.1.2, hs.2⟩
def putK (N : List Int) (c h : Int) : List Int := if h < 0 then (if -h = c then N else N.set (-h).toNat 0) else N
theorem putK_length (N : List Int) (c h : Int) : (putK N c h).length = N.length := by
  unfold putK
  split
  · split <;> simp
  · rfl
theorem Core.endK {n c i : Nat} {B G : List Bool} {N M : List Int} {h : Int} (hs : seeOk (i : Int) (n : Int) B h = true) (o : Core n c (i + 1) B G N M) : Core n c (i + 1) (mark B h) G (putK N c h) M := by
  by_cases h0 : h < 0
  · obtain ⟨k1, k2, k3⟩ := see_kid hs h0
    have e1 := o.lN
    have e2 := o.lB
    obtain ⟨e, he⟩ : ∃ e : Nat, -h = (e : Int) := ⟨(-h).toNat, by omega⟩
    have het : (-h).toNat = e := by omega
    rw [het] at k3
    obtain ⟨n1, n2⟩ := o.new e (by omega) (by omega) (by omega) k3
    refine ⟨by rw [mark_length]; exact o.lB, o.lG, by rw [putK_length]; exact o.lN, o.lM, ?_, fun z => by omega, ?_, ?_⟩
    · intro j hj
      have : (putK N c h).getD j 0 = N.getD j 0 := by
        unfold putK
        rw [if_pos h0]
        split
        · rfl
        · rw [gset, if_neg (by omega)]
      rw [this]
      exact o.old j hj
    · intro j hj hn hB
      by_cases ej : e = j
      · subst ej
        unfold putK
        rw [if_pos h0]
        by_cases hc : -h = (c : Int)
        · rw [if_pos hc]
          left
          exact ⟨by rw [n2]; simp; omega, n1⟩
        · rw [if_neg hc, gset, if_pos ⟨het, by omega⟩]
          right
          exact ⟨by rw [n2]; simp; omega, rfl⟩
      · have b1 : (mark B h).getD j false = B.getD j false := by
          unfold mark
          rw [if_pos h0, gset, if_neg (by omega)]
        have b2 : (putK N c h).getD j 0 = N.getD j 0 := by
          unfold putK
          rw [if_pos h0]
          split
          · rfl
          · rw [gset, if_neg (by omega)]
        rw [b1] at hB
        rw [b2]
        exact o.seen j hj hn hB
    · intro j hj hn h1 hB
      by_cases ej : e = j
      · subst ej
        unfold mark at hB
        rw [if_pos h0, gset, if_pos ⟨het, by omega⟩] at hB
        cases hB
      · have b1 : (mark B h).getD j false = B.getD j false := by
          unfold mark
          rw [if_pos h0, gset, if_neg (by omega)]
        have b2 : (putK N c h).getD j 0 = N.getD j 0 := by
          unfold putK
          rw [if_pos h0]
          split
          · rfl
          · rw [gset, if_neg (by omega)]
        rw [b1] at hB
        rw [b2]
        exact o.new j hj hn h1 hB
  · have b1 : mark B h = B := by unfold mark; rw [if_neg h0]
    have b2 : putK N c h = N := by unfold putK; rw [if_neg h0]
    rw [b1, b2]
    exact o
theorem Core.endG {n c i : Nat} {B G : List Bool} {N M : List Int} {h : Int} (hs : seeOk (i : Int) (n : Int) B h = true) (o : Core n c (i + 1) B G N M) : Core n c (i + 1) (mark B h) (mark G h) N M := by
  by_cases h0 : h < 0
  · obtain ⟨k1, k2, k3⟩ := see_kid hs h0
    have e1 := o.lG
    have e2 := o.lB
    obtain ⟨e, he⟩ : ∃ e : Nat, -h = (e : Int) := ⟨(-h).toNat, by omega⟩
    have het : (-h).toNat = e := by omega
    rw [het] at k3
    obtain ⟨n1, n2⟩ := o.new e (by omega) (by omega) (by omega) k3
    have g1 : ∀ j, j ≠ e → (mark G h).getD j false = G.getD j false := fun j hj => by
      unfold mark
      rw [if_pos h0, gset, if_neg (by omega)]
    have b1 : ∀ j, j ≠ e → (mark B h).getD j false = B.getD j false := fun j hj => by
      unfold mark
      rw [if_pos h0, gset, if_neg (by omega)]
    have g2 : (mark G h).getD e false = true := by
      unfold mark
      rw [if_pos h0, gset, if_pos ⟨het, by omega⟩]
    have b2 : (mark B h).getD e false = true := by
      unfold mark
      rw [if_pos h0, gset, if_pos ⟨het, by omega⟩]
    refine ⟨by rw [mark_length]; exact o.lB, by rw [mark_length]; exact o.lG, o.lN, o.lM, ?_, fun z => by omega, ?_, ?_⟩
    · intro j hj
      rw [g1 j (by omega)]
      exact o.old j hj
    · intro j hj hn hB
      by_cases ej : j = e
      · subst ej
        exact Or.inl ⟨g2, n1⟩
      · rw [b1 j ej] at hB
        rw [g1 j ej]
        exact o.seen j hj hn hB
    · intro j hj hn h1 hB
      by_cases ej : j = e
      · subst ej
        rw [b2] at hB
        cases hB
      · rw [b1 j ej] at hB
        rw [g1 j ej]
        exact o.new j hj hn h1 hB
  · have b1 : mark B h = B := by unfold mark; rw [if_neg h0]
    have b2 : mark G h = G := by unfold mark; rw [if_neg h0]
    rw [b1, b2]
    exact o
/-- What a rod that stays bears, stays, but for the rod that is cut. -/
def kidOk (c : Nat) (B G : List Bool) (h : Int) : Prop := h < 0 → -h ≠ (c : Int) → B.getD (-h).toNat false = true ∧ G.getD (-h).toNat false = false
def Kid (c : Nat) (H : List R) (i : Nat) (B G : List Bool) : Prop := ∀ j : Nat, j < i → G.getD j false = false → kidOk c B G (rd_T58 H j).f0 ∧ kidOk c B G (rd_T58 H j).f1
def Mono (B G B' G' : List Bool) : Prop := ∀ e : Nat, B.getD e false = true → B'.getD e false = true ∧ G'.getD e false = G.getD e false
theorem kidOk.mono {c : Nat} {B G B' G' : List Bool} {h : Int} (o : kidOk c B G h) (m : Mono B G B' G') : kidOk c B' G' h := fun h0 h1 => by
  obtain ⟨a, b⟩ := o h0 h1
  obtain ⟨x, y⟩ := m _ a
  exact ⟨x, by rw [y]; exact b⟩
theorem Mono.trans {B G B' G' B'' G'' : List Bool} (a : Mono B G B' G') (b : Mono B' G' B'' G'') : Mono B G B'' G'' := fun e h => by
  obtain ⟨x, y⟩ := a e h
  obtain ⟨x2, y2⟩ := b e x
  exact ⟨x2, by rw [y2, y]⟩
theorem mark_up (B : List Bool) (h : Int) (e : Nat) (hb : B.getD e false = true) : (mark B h).getD e false = true := by
  unfold mark
  split
  · rw [gset]
    split
    · rfl
    · exact hb
  · exact hb
theorem monoK (B G : List Bool) (h : Int) : Mono B G (mark B h) G := fun e hb => ⟨mark_up B h e hb, rfl⟩
theorem monoG {i n : Nat} {B G : List Bool} {h : Int} (hs : seeOk (i : Int) (n : Int) B h = true) : Mono B G (mark B h) (mark G h) := fun e hb => by
  refine ⟨mark_up B h e hb, ?_⟩
  unfold mark
  by_cases h0 : h < 0
  · obtain ⟨_, _, k3⟩ := see_kid hs h0
    rw [if_pos h0, gset, if_neg (fun hh => by rw [hh.1, hb] at k3; cases k3)]
  · rw [if_neg h0]
theorem kid_now {n c i : Nat} {B G : List Bool} {N M : List Int} {h : Int} (hs : seeOk (i : Int) (n : Int) B h = true) (o : Core n c (i + 1) B G N M) : kidOk c (mark B h) G h := fun h0 h1 => by
  obtain ⟨k1, k2, k3⟩ := see_kid hs h0
  have e2 := o.lB
  obtain ⟨n1, n2⟩ := o.new (-h).toNat (by omega) (by omega) (by omega) k3
  refine ⟨?_, by rw [n2]; simp; omega⟩
  unfold mark
  rw [if_pos h0, gset, if_pos ⟨rfl, by omega⟩]
/-- A rod hangs already when its turn comes. -/
theorem gI_seen (n : Int) : ∀ (us hs : List R) (i : Nat) (B : List Bool), us.length = hs.length → gI n (i : Int) us hs B = true → ∀ j : Nat, 1 ≤ j → j ≤ i → j < B.length → B.getD j false = true := by
  intro us
  induction us with
  | nil =>
    intro hs i B hl h j h1 h2 h3
    unfold gI at h
    rw [List.all_eq_true] at h
    obtain ⟨j, rfl⟩ : ∃ m, j = m + 1 := ⟨j - 1, by omega⟩
    have := h (B[j + 1]) (by
      rw [List.mem_iff_getElem]
      exact ⟨j, by simp; omega, by simp [Nat.add_comm]⟩)
    rw [List.getD_eq_getElem?_getD, List.getElem?_eq_getElem h3]
    exact this
  | cons a us ih =>
    intro hs i B hl h j h1 h2 h3
    cases hs with
    | nil => simp at hl
    | cons x hs =>
      simp only [gI, Bool.and_eq_true] at h
      obtain ⟨_, s0, s1, g⟩ := h
      have e := ih hs (i + 1) _ (by simpa using hl) g j h1 (by omega) (by rw [mark_length, mark_length]; exact h3)
      have out : ∀ (C : List Bool) (y : Int), seeOk (i : Int) n C y = true → (mark C y).getD j false = true → C.getD j false = true := by
        intro C y hs hm
        unfold mark at hm
        by_cases h0 : y < 0
        · simp only [seeOk, leafOk, Bool.or_eq_true, Bool.and_eq_true, decide_eq_true_eq, Bool.not_eq_true'] at hs
          rw [if_pos h0, gset, if_neg (by omega)] at hm
          exact hm
        · rw [if_neg h0] at hm
          exact hm
      exact out B x.f0 s0 (out _ x.f1 s1 e)
def rep (c w : Int) (N : List Int) (h : Int) : Int := if h = -c then w else if h < 0 then wrap64 (-(rd N (-h))) else h
theorem s_l4_0 (c w : Int) (N : List Int) (i : Int) (A H X Y : List R) (u v : Int) (k : Nat) (hc : wrap64 (-c) = -c) (hu : u < 0 → wrap64 (-u) = -u ∧ -u < (N.length : Int)) :
    spec_CutRod.l4 (k + 1) c w N i 0 A H X Y u v = spec_CutRod.l4 k c w N i 1 A H X Y (rep c w N u) v := by
  have w1 : wrap64 (0 + 1) = 1 := wrap_id (by omega) (by omega)
  simp only [spec_CutRod.l4]
  rw [if_pos (by decide), if_pos trivial, w1, hc]
  unfold rep
  by_cases c1 : u = -c
  · rw [if_pos c1, if_pos c1]
  · rw [if_neg c1, if_neg c1]
    by_cases c2 : u < 0
    · obtain ⟨h1, h2⟩ := hu c2
      rw [if_pos c2, if_pos c2, h1, if_pos (by omega), if_pos h2]
    · rw [if_neg c2, if_neg c2]
theorem s_l4_1 (c w : Int) (N : List Int) (i : Int) (A H X Y : List R) (u v : Int) (k : Nat) (hc : wrap64 (-c) = -c) (hu : v < 0 → wrap64 (-v) = -v ∧ -v < (N.length : Int)) :
    spec_CutRod.l4 (k + 1) c w N i 1 A H X Y u v = spec_CutRod.l4 k c w N i 2 A H X Y u (rep c w N v) := by
  have w2 : wrap64 (1 + 1) = 2 := wrap_id (by omega) (by omega)
  simp only [spec_CutRod.l4]
  rw [if_pos (by decide), if_neg (by decide), if_pos trivial, w2, hc]
  unfold rep
  by_cases c1 : v = -c
  · rw [if_pos c1, if_pos c1]
  · rw [if_neg c1, if_neg c1]
    by_cases c2 : v < 0
    · obtain ⟨h1, h2⟩ := hu c2
      rw [if_pos c2, if_pos c2, h1, if_pos (by omega), if_pos h2]
    · rw [if_neg c2, if_neg c2]
theorem i_l3_0 (c w : Int) (G : List Bool) (M : List Int) (P : List R) (n i : Int) (A H X Y : List R) (a b s t u v : Int) (k : Nat) (hc : wrap64 (-c) = -c) (hu : u < 0 → wrap64 (-u) = -u ∧ -u < (M.length : Int)) (hs : s = u) :
    impl_CutRod.l3 (k + 1) c G M w P n i 0 A H X Y a b s t u v = impl_CutRod.l3 k c G M w P n i 1 A H X Y a b (rep c w M u) t u v := by
  subst hs
  have w1 : wrap64 (0 + 1) = 1 := wrap_id (by omega) (by omega)
  simp only [impl_CutRod.l3]
  rw [if_pos (by decide), if_pos trivial, w1, hc]
  unfold rep
  by_cases c1 : s = -c
  · rw [if_pos c1, if_pos c1]
  · rw [if_neg c1, if_neg c1]
    by_cases c2 : s < 0
    · obtain ⟨h1, h2⟩ := hu c2
      rw [if_pos c2, if_pos c2, h1, if_pos (by omega), if_pos h2]
    · rw [if_neg c2, if_neg c2]
theorem i_l3_1 (c w : Int) (G : List Bool) (M : List Int) (P : List R) (n i : Int) (A H X Y : List R) (a b s t u v : Int) (k : Nat) (hc : wrap64 (-c) = -c) (hu : v < 0 → wrap64 (-v) = -v ∧ -v < (M.length : Int)) (ht : t = v) :
    impl_CutRod.l3 (k + 1) c G M w P n i 1 A H X Y a b s t u v = impl_CutRod.l3 k c G M w P n i 2 A H X Y a b s (rep c w M v) u v := by
  subst ht
  have w2 : wrap64 (1 + 1) = 2 := wrap_id (by omega) (by omega)
  simp only [impl_CutRod.l3]
  rw [if_pos (by decide), if_neg (by decide), if_pos trivial, w2, hc]
  unfold rep
  by_cases c1 : t = -c
  · rw [if_pos c1, if_pos c1]
  · rw [if_neg c1, if_neg c1]
    by_cases c2 : t < 0
    · obtain ⟨h1, h2⟩ := hu c2
      rw [if_pos c2, if_pos c2, h1, if_pos (by omega), if_pos h2]
    · rw [if_neg c2, if_neg c2]
theorem wrap_wf (x : Int) : Wf (wrap64 x) := by
  unfold Wf wrap64
  omega
theorem rep_wf {c w h : Int} {N : List Int} (hw : Wf w) (hh : Wf h) : Wf (rep c w N h) := by
  unfold rep
  split
  · exact hw
  · split
    · exact wrap_wf _
    · exact hh
/-- What holds behind the last rod. -/
structure Fin (n c : Nat) (H : List R) (G : List Bool) (N M : List Int) : Prop where
  lG : G.length = n
  lN : N.length = n
  lM : M.length = n
  old : ∀ j : Nat, j < n → (G.getD j false = true ∧ N.getD j 0 < 0) ∨ (G.getD j false = false ∧ 0 ≤ N.getD j 0 ∧ N.getD j 0 = M.getD j 0)
  kid : ∀ j : Nat, j < n → G.getD j false = false → ∀ h : Int, (h = (rd_T58 H j).f0 ∨ h = (rd_T58 H j).f1) → h < 0 → -h ≠ (c : Int) → G.getD (-h).toNat false = false
theorem cut3 {A H : List R} (ok : MOk A H) (hw : WfR H) {c : Nat} {w : Int} (hc : 1 ≤ c ∧ c < A.length) (hwf : Wf w) {G : List Bool} {N M : List Int} (F : Fin A.length c H G N M) :
    ∀ (d i : Nat) (X Y : List R), i + d = A.length → X.length ≤ i → Y.length ≤ i → WfR Y → ∃ r : List R × List R × Bool, r.1.length ≤ 100 ∧ r.2.1.length ≤ 100 ∧ ∀ k, 5 * d + 200 < k → spec_CutRod.l3 k (c : Int) w N (i : Int) A H X Y = some r ∧ impl_CutRod.l2 k (c : Int) G M w A (A.length : Int) (i : Int) A H X Y = some r := by
  have o1 := ok.len
  have o2 := ok.same
  have f1 := F.lG
  have f2 := F.lN
  have f3 := F.lM
  have hcw : wrap64 (-(c : Int)) = -(c : Int) := wrap_id (by omega) (by omega)
  intro d
  induction d with
  | zero =>
    intro i X Y hi hX hY hwY
    refine ⟨if good X Y = true then (X, Y, true) else ([], [], false), by split <;> simp; omega, by split <;> simp; omega, fun k hk => ?_⟩
    obtain ⟨k, rfl⟩ : ∃ m, k = m + 1 := ⟨k - 1, by omega⟩
    refine ⟨?_, ?_⟩
    · simp only [spec_CutRod.l3]
      rw [if_neg (by omega), l5Good_eq X Y k hwY (by omega), Option.bind_some]
      by_cases h : good X Y = true <;> simp [h]
    · simp only [impl_CutRod.l2]
      rw [if_neg (by omega)]
      unfold impl_validMobile.f
      rw [IsMobile_eq X Y k (by omega), Option.bind_some]
      by_cases h : good X Y = true <;> simp [h]
  | succ d ih =>
    intro i X Y hi hX hY hwY
    rcases F.old i (by omega) with ⟨g, ng⟩ | ⟨g, ng, nm⟩
    · obtain ⟨r, h1, h2, h3⟩ := ih (i + 1) X Y (by omega) (by omega) (by omega) hwY
      refine ⟨r, h1, h2, fun k hk => ?_⟩
      obtain ⟨k, rfl⟩ : ∃ m, k = m + 1 := ⟨k - 1, by omega⟩
      have e := h3 k (by omega)
      have hN : rd N (i : Int) < 0 := ng
      have hG : rdOf false G (i : Int) = true := g
      refine ⟨?_, ?_⟩
      · simp only [spec_CutRod.l3]
        rw [if_pos (by omega), if_pos (by omega), if_pos (by omega), if_pos hN, wrap_id (x := (i : Int) + 1) (by omega) (by omega)]
        exact e.1
      · simp only [impl_CutRod.l2]
        rw [if_pos (by omega), if_pos (by omega), if_pos (by omega), if_pos (by omega), if_pos hG, wrap_id (x := (i : Int) + 1) (by omega) (by omega)]
        exact e.2
    · have f := ok.fin i (by omega)
      have hx := hw (rd_T58 H i) (by
        have hl : i < H.length := by omega
        simp only [rd_T58, Int.toNat_natCast]
        rw [List.getD_eq_getElem?_getD, List.getElem?_eq_getElem hl]
        exact List.getElem_mem hl)
      have kid : ∀ h : Int, (h = (rd_T58 H i).f0 ∨ h = (rd_T58 H i).f1) → endOk (i : Int) (A.length : Int) h = true → (h < 0 → wrap64 (-h) = -h ∧ -h < (A.length : Int)) ∧ rep c w M h = rep c w N h := by
        intro h hh he
        refine ⟨fun h0 => by have ch := child he h0; exact ⟨wrap_id (by omega) (by omega), by omega⟩, ?_⟩
        unfold rep
        by_cases c1 : h = -(c : Int)
        · rw [if_pos c1, if_pos c1]
        · rw [if_neg c1, if_neg c1]
          by_cases c2 : h < 0
          · have ch := child he c2
            rw [if_pos c2, if_pos c2]
            have kg := F.kid i (by omega) g h hh c2 (by omega)
            rcases F.old (-h).toNat (by omega) with ⟨g2, _⟩ | ⟨_, _, n2⟩
            · rw [kg] at g2
              cases g2
            · have : rd N (-h) = rd M (-h) := n2
              rw [this]
          · rw [if_neg c2, if_neg c2]
      obtain ⟨k0, r0⟩ := kid _ (Or.inl rfl) f.1
      obtain ⟨k1, r1⟩ := kid _ (Or.inr rfl) f.2
      obtain ⟨r, h1, h2, h3⟩ := ih (i + 1) (X ++ [(⟨(rd_T58 A i).f0, (rd_T58 A i).f1⟩ : R)]) (Y ++ [(⟨rep c w N (rd_T58 H i).f0, rep c w N (rd_T58 H i).f1⟩ : R)]) (by omega) (by simp; omega) (by simp; omega) (by
        intro y hy
        rcases List.mem_append.1 hy with hy | hy
        · exact hwY y hy
        · rw [List.mem_singleton] at hy
          subst hy
          exact ⟨rep_wf hwf hx.1, rep_wf hwf hx.2⟩)
      refine ⟨r, h1, h2, fun k hk => ?_⟩
      obtain ⟨k, rfl⟩ : ∃ m, k = m + 4 := ⟨k - 4, by omega⟩
      have e := h3 k (by omega)
      have hN : ¬ rd N (i : Int) < 0 := by
        have : 0 ≤ rd N (i : Int) := ng
        omega
      have hG : ¬ rdOf false G (i : Int) = true := by
        have : rdOf false G (i : Int) = false := g
        rw [this]
        decide
      refine ⟨?_, ?_⟩
      · rw [show spec_CutRod.l3 (k + 4) (c : Int) w N (i : Int) A H X Y = spec_CutRod.l4 (k + 3) (c : Int) w N (i : Int) 0 A H X Y (rd_T58 H i).f0 (rd_T58 H i).f1 from by
          simp only [spec_CutRod.l3]
          rw [if_pos (by omega), if_pos (by omega), if_pos (by omega), if_neg hN, if_pos (by omega)]]
        rw [s_l4_0 _ _ _ _ _ _ _ _ _ _ (k + 2) hcw (by rw [f2]; exact k0), s_l4_1 _ _ _ _ _ _ _ _ _ _ (k + 1) hcw (by rw [f2]; exact k1)]
        simp only [spec_CutRod.l4]
        rw [if_neg (by decide), if_pos (by omega), if_pos (by omega), if_pos (by omega), if_pos (by omega), wrap_id (x := (i : Int) + 1) (by omega) (by omega)]
        exact e.1
      · rw [show impl_CutRod.l2 (k + 4) (c : Int) G M w A (A.length : Int) (i : Int) A H X Y = impl_CutRod.l3 (k + 3) (c : Int) G M w A (A.length : Int) (i : Int) 0 A H X Y (rd_T58 A i).f0 (rd_T58 A i).f1 (rd_T58 H i).f0 (rd_T58 H i).f1 (rd_T58 H i).f0 (rd_T58 H i).f1 from by
          simp only [impl_CutRod.l2]
          rw [if_pos (by omega), if_pos (by omega), if_pos (by omega), if_pos (by omega), if_neg hG, if_pos (by omega)]]
        rw [i_l3_0 _ _ _ _ _ _ _ _ _ _ _ _ _ _ _ _ _ (k + 2) hcw (by rw [f3]; exact k0) rfl, i_l3_1 _ _ _ _ _ _ _ _ _ _ _ _ _ _ _ _ _ (k + 1) hcw (by rw [f3]; exact k1) rfl, r0, r1]
        simp only [impl_CutRod.l3]
        rw [if_neg (by decide), Option.bind_some, if_pos (by simp; omega), Option.bind_some, if_pos (by simp; omega), wrap_id (x := (i : Int) + 1) (by omega) (by omega)]
        exact e.2
theorem s_l2_0 (c w m : Int) (N : List Int) (i : Nat) (A H : List R) (k : Nat) (hi : i < H.length) (hu : (rd_T58 H i).f0 < 0 → wrap64 (-(rd_T58 H i).f0) = -(rd_T58 H i).f0 ∧ -(rd_T58 H i).f0 < (N.length : Int)) :
    spec_CutRod.l2 (k + 1) c w N m (i : Int) 0 A H = spec_CutRod.l2 k c w (putK N c (rd_T58 H i).f0) m (i : Int) 1 A H := by
  have w1 : wrap64 (0 + 1) = 1 := wrap_id (by omega) (by omega)
  simp only [spec_CutRod.l2]
  rw [if_pos (by decide), if_pos (by omega), if_pos (by omega), if_pos trivial, w1]
  unfold putK
  by_cases c2 : (rd_T58 H i).f0 < 0
  · obtain ⟨h1, h2⟩ := hu c2
    rw [if_pos c2, if_pos c2, h1]
    by_cases c1 : -(rd_T58 H i).f0 = c
    · rw [if_pos c1, if_pos c1]
    · rw [if_neg c1, if_neg c1, if_pos (by omega), if_pos h2]
  · rw [if_neg c2, if_neg c2]
theorem s_l2_1 (c w m : Int) (N : List Int) (i : Nat) (A H : List R) (k : Nat) (hi : i < H.length) (hu : (rd_T58 H i).f1 < 0 → wrap64 (-(rd_T58 H i).f1) = -(rd_T58 H i).f1 ∧ -(rd_T58 H i).f1 < (N.length : Int)) :
    spec_CutRod.l2 (k + 1) c w N m (i : Int) 1 A H = spec_CutRod.l2 k c w (putK N c (rd_T58 H i).f1) m (i : Int) 2 A H := by
  have w2 : wrap64 (1 + 1) = 2 := wrap_id (by omega) (by omega)
  simp only [spec_CutRod.l2]
  rw [if_pos (by decide), if_pos (by omega), if_pos (by omega), if_neg (by decide), if_pos trivial, w2]
  unfold putK
  by_cases c2 : (rd_T58 H i).f1 < 0
  · obtain ⟨h1, h2⟩ := hu c2
    rw [if_pos c2, if_pos c2, h1]
    by_cases c1 : -(rd_T58 H i).f1 = c
    · rw [if_pos c1, if_pos c1]
    · rw [if_neg c1, if_neg c1, if_pos (by omega), if_pos h2]
  · rw [if_neg c2, if_neg c2]
theorem c_l1_0 (c : Int) (G : List Bool) (M : List Int) (m n i : Int) (A H : List R) (u v : Int) (k : Nat) (hu : u < 0 → wrap64 (-u) = -u ∧ -u < (G.length : Int)) :
    impl_CutRod.l1 (k + 1) c G M m n i 0 A H u v = impl_CutRod.l1 k c (mark G u) M m n i 1 A H u v := by
  have w1 : wrap64 (0 + 1) = 1 := wrap_id (by omega) (by omega)
  simp only [impl_CutRod.l1]
  rw [if_pos (by decide), if_pos trivial, w1]
  unfold mark
  by_cases c2 : u < 0
  · obtain ⟨h1, h2⟩ := hu c2
    rw [if_pos c2, if_pos c2, h1, if_pos (by omega), if_pos h2]
  · rw [if_neg c2, if_neg c2]
theorem c_l1_1 (c : Int) (G : List Bool) (M : List Int) (m n i : Int) (A H : List R) (u v : Int) (k : Nat) (hu : v < 0 → wrap64 (-v) = -v ∧ -v < (G.length : Int)) :
    impl_CutRod.l1 (k + 1) c G M m n i 1 A H u v = impl_CutRod.l1 k c (mark G v) M m n i 2 A H u v := by
  have w2 : wrap64 (1 + 1) = 2 := wrap_id (by omega) (by omega)
  simp only [impl_CutRod.l1]
  rw [if_pos (by decide), if_neg (by decide), if_pos trivial, w2]
  unfold mark
  by_cases c2 : v < 0
  · obtain ⟨h1, h2⟩ := hu c2
    rw [if_pos c2, if_pos c2, h1, if_pos (by omega), if_pos h2]
  · rw [if_neg c2, if_neg c2]
theorem cut2 {A H : List R} (ok : MOk A H) (hw : WfR H) {c : Nat} {W : List Int} (hW : WOk A.length W) (hws : ∀ k, 10 ≤ k → spec_l5Weights.f k A H = some W) (hc : 1 ≤ c ∧ c < A.length) :
    ∀ (us hs q : List R) (i : Nat) (B G : List Bool) (N M : List Int) (m : Nat), us.length = hs.length → H = q ++ hs → q.length = i → i + us.length = A.length → gI (A.length : Int) (i : Int) us hs B = true → Core A.length c i B G N M → Kid c H i B G → m ≤ i →
      ∃ r : List R × List R × Bool, r.1.length ≤ 100 ∧ r.2.1.length ≤ 100 ∧ ∀ k, 4 * us.length + 300 < k → spec_CutRod.l1 k (c : Int) (rd W c) N (m : Int) (i : Int) A H = some r ∧ impl_CutRod.l0 k (c : Int) G M (m : Int) (A.length : Int) (i : Int) A H = some r := by
  have o1 := ok.len
  have o2 := ok.same
  have w1 := hW.len
  have wb := hW.bound c hc.2
  have wb6 := bd6 (A.length - c) (by omega)
  intro us
  induction us with
  | nil =>
    intro hs q i B G N M m hl hH hq hi hg o kd hm
    simp only [List.length_nil] at hi
    have i0 : i = A.length := by omega
    subst i0
    have F : Fin A.length c H G N M := ⟨o.lG, o.lN, o.lM, o.old, fun j hj hG h hh h0 h1 => by
      have kk := kd j hj hG
      rcases hh with rfl | rfl
      · exact (kk.1 h0 h1).2
      · exact (kk.2 h0 h1).2⟩
    obtain ⟨r, h1, h2, h3⟩ := cut3 ok hw hc (w := rd W c) (by unfold Wf; omega) F A.length 0 [] [] (by omega) (by simp) (by simp) (fun y hy => by cases hy)
    refine ⟨r, h1, h2, fun k hk => ?_⟩
    obtain ⟨k, rfl⟩ : ∃ m, k = m + 1 := ⟨k - 1, by omega⟩
    have e := h3 k (by omega)
    refine ⟨?_, ?_⟩
    · simp only [spec_CutRod.l1]
      rw [if_neg (by omega)]
      exact e.1
    · simp only [impl_CutRod.l0]
      rw [if_neg (by omega), weights_same, hws k (by omega), Option.bind_some, if_pos (by omega), if_pos (by omega)]
      exact e.2
  | cons a us ih =>
    intro hs q i B G N M m hl hH hq hi hg o kd hm
    cases hs with
    | nil => simp at hl
    | cons x hs =>
      simp only [List.length_cons] at hi
      have g1 := o.lG
      have g2 := o.lN
      have g3 := o.lM
      have g4 := o.lB
      have hx : rd_T58 H (i : Int) = x := by rw [hH, ← hq]; exact rdT q hs x
      have seen : 1 ≤ i → B.getD i false = true := fun h => gI_seen (A.length : Int) (a :: us) (x :: hs) i B hl hg i h (Nat.le_refl _) (by omega)
      simp only [gI, Bool.and_eq_true] at hg
      obtain ⟨_, s0, s1, g⟩ := hg
      have now : (G.getD i false = true ∧ N.getD i 0 < 0) ∨ (G.getD i false = false ∧ 0 ≤ N.getD i 0) := by
        rcases Nat.eq_zero_or_pos i with h0 | h0
        · obtain ⟨z1, z2⟩ := o.zero h0
          rw [h0]
          exact Or.inr ⟨z1, by omega⟩
        · rcases o.seen i (Nat.le_refl _) (by omega) (seen h0) with ⟨a1, a2⟩ | ⟨a1, a2⟩
          · exact Or.inl ⟨a1, by omega⟩
          · exact Or.inr ⟨a1, by omega⟩
      have f := ok.fin i (by omega)
      rw [hx] at f
      have ends : ∀ h : Int, endOk (i : Int) (A.length : Int) h = true → h < 0 → wrap64 (-h) = -h ∧ -h < (A.length : Int) := fun h he h0 => by
        have ch := child he h0
        exact ⟨wrap_id (by omega) (by omega), by omega⟩
      have stay : ∀ (G2 : List Bool) (y : Int), seeOk (i : Int) (A.length : Int) B y = true ∨ endOk (i : Int) (A.length : Int) y = true → ∀ j : Nat, j ≤ i → (mark G2 y).getD j false = G2.getD j false := by
        intro G2 y hy j hj
        unfold mark
        by_cases h0 : y < 0
        · have ch := child (hy.elim see_end id) h0
          rw [if_pos h0, gset, if_neg (by omega)]
        · rw [if_neg h0]
      rcases now with ⟨gg, gn⟩ | ⟨gg, gn⟩
      · have c1 := (o.gone gg gn).endG s0
        have c2 := c1.endG s1
        have mo : Mono B G (mark (mark B x.f0) x.f1) (mark (mark G x.f0) x.f1) := Mono.trans (monoG s0) (monoG s1)
        have kd2 : Kid c H (i + 1) (mark (mark B x.f0) x.f1) (mark (mark G x.f0) x.f1) := by
          intro j hj hG
          rw [stay _ _ (Or.inr f.2) j (by omega), stay _ _ (Or.inr f.1) j (by omega)] at hG
          by_cases e : j = i
          · subst e
            rw [gg] at hG
            cases hG
          · obtain ⟨y1, y2⟩ := kd j (by omega) hG
            exact ⟨y1.mono mo, y2.mono mo⟩
        obtain ⟨r, h1, h2, h3⟩ := ih hs (q ++ [x]) (i + 1) _ _ N M m (by simpa using hl) (by rw [hH]; simp) (by simp [hq]) (by omega) g c2 kd2 (by omega)
        refine ⟨r, h1, h2, fun k hk => ?_⟩
        simp only [List.length_cons] at hk
        obtain ⟨k, rfl⟩ : ∃ m, k = m + 4 := ⟨k - 4, by omega⟩
        have hN : rd N (i : Int) < 0 := gn
        have hG : rdOf false G (i : Int) = true := gg
        refine ⟨?_, ?_⟩
        · simp only [spec_CutRod.l1]
          rw [if_pos (by omega), if_pos (by omega), if_pos (by omega), if_pos hN, wrap_id (x := (i : Int) + 1) (by omega) (by omega)]
          exact (h3 (k + 3) (by omega)).1
        · rw [show impl_CutRod.l0 (k + 4) (c : Int) G M (m : Int) (A.length : Int) (i : Int) A H = impl_CutRod.l1 (k + 3) (c : Int) G M (m : Int) (A.length : Int) (i : Int) 0 A H x.f0 x.f1 from by
            simp only [impl_CutRod.l0]
            rw [if_pos (by omega), if_pos (by omega), if_pos (by omega), if_pos hG, if_pos (by omega), hx]]
          rw [c_l1_0 _ _ _ _ _ _ _ _ _ _ (k + 2) (by rw [g1]; exact ends _ f.1), c_l1_1 _ _ _ _ _ _ _ _ _ _ (k + 1) (by rw [mark_length, g1]; exact ends _ f.2)]
          simp only [impl_CutRod.l1]
          rw [if_neg (by decide), wrap_id (x := (i : Int) + 1) (by omega) (by omega)]
          exact (h3 k (by omega)).2
      · have c1 := (o.kept gg (by omega) (m : Int) (by omega)).endK s0
        have c2 := c1.endK s1
        have mo : Mono B G (mark (mark B x.f0) x.f1) G := Mono.trans (monoK _ _ _) (monoK _ _ _)
        have kd2 : Kid c H (i + 1) (mark (mark B x.f0) x.f1) G := by
          intro j hj hG
          by_cases e : j = i
          · subst e
            rw [hx]
            exact ⟨(kid_now s0 (o.kept gg (by omega) (m : Int) (by omega))).mono (monoK _ _ _), kid_now s1 c1⟩
          · obtain ⟨y1, y2⟩ := kd j (by omega) hG
            exact ⟨y1.mono mo, y2.mono mo⟩
        obtain ⟨r, h1, h2, h3⟩ := ih hs (q ++ [x]) (i + 1) _ _ _ _ (m + 1) (by simpa using hl) (by rw [hH]; simp) (by simp [hq]) (by omega) g c2 kd2 (by omega)
        refine ⟨r, h1, h2, fun k hk => ?_⟩
        simp only [List.length_cons] at hk
        obtain ⟨k, rfl⟩ : ∃ m, k = m + 4 := ⟨k - 4, by omega⟩
        have hN : ¬ rd N (i : Int) < 0 := by
          have : 0 ≤ rd N (i : Int) := gn
          omega
        have hG : ¬ rdOf false G (i : Int) = true := by
          have : rdOf false G (i : Int) = false := gg
          rw [this]
          decide
        have wm : wrap64 ((m : Int) + 1) = ((m + 1 : Nat) : Int) := by rw [wrap_id (by omega) (by omega)]; omega
        refine ⟨?_, ?_⟩
        · rw [show spec_CutRod.l1 (k + 4) (c : Int) (rd W c) N (m : Int) (i : Int) A H = spec_CutRod.l2 (k + 3) (c : Int) (rd W c) (N.set i (m : Int)) ((m + 1 : Nat) : Int) (i : Int) 0 A H from by
            simp only [spec_CutRod.l1]
            rw [if_pos (by omega), if_pos (by omega), if_pos (by omega), if_neg hN, wm, Int.toNat_natCast]]
          rw [s_l2_0 _ _ _ _ _ _ _ (k + 2) (by omega) (by rw [hx, List.length_set, g2]; exact ends _ f.1), s_l2_1 _ _ _ _ _ _ _ (k + 1) (by omega) (by rw [hx, putK_length, List.length_set, g2]; exact ends _ f.2), hx]
          simp only [spec_CutRod.l2]
          rw [if_neg (by decide), wrap_id (x := (i : Int) + 1) (by omega) (by omega)]
          exact (h3 k (by omega)).1
        · simp only [impl_CutRod.l0]
          rw [if_pos (by omega), if_pos (by omega), if_pos (by omega), if_neg hG, if_pos (by omega), wm, wrap_id (x := (i : Int) + 1) (by omega) (by omega), Int.toNat_natCast]
          exact (h3 (k + 3) (by omega)).2
theorem c_l0 (c w : Int) (A H : List R) (hA : A.length ≤ 1000) : ∀ (d i k : Nat), i + d = A.length → 1 ≤ A.length → d < k → ∃ j, k - d - 1 = j ∧ spec_CutRod.l0 k c w (List.replicate i (-1) ++ List.replicate d 0) 0 (i : Int) A H = spec_CutRod.l1 j c w ((List.replicate A.length (-1)).set 0 0) 0 0 A H := by
  intro d
  induction d with
  | zero =>
    intro i k hi h1 hk
    refine ⟨k - 1, by omega, ?_⟩
    obtain ⟨k, rfl⟩ : ∃ m, k = m + 1 := ⟨k - 1, by omega⟩
    simp only [spec_CutRod.l0]
    rw [if_neg (by omega), if_pos (by simp; omega)]
    have : i = A.length := by omega
    subst this
    simp
  | succ d ih =>
    intro i k hi h1 hk
    obtain ⟨k, rfl⟩ : ∃ m, k = m + 1 := ⟨k - 1, by omega⟩
    obtain ⟨j, hj, e⟩ := ih (i + 1) k (by omega) h1 (by omega)
    refine ⟨j, by omega, ?_⟩
    simp only [spec_CutRod.l0]
    rw [if_pos (by omega), if_pos (by omega), if_pos (by simp; omega), wrap_id (x := (i : Int) + 1) (by omega) (by omega), Int.toNat_natCast]
    have hs : (List.replicate i (-1 : Int) ++ List.replicate (d + 1) 0).set i (-1) = List.replicate (i + 1) (-1) ++ List.replicate d 0 := by
      have z := set_rep (List.replicate i (-1 : Int)) 0 (-1) d
      rw [List.length_replicate] at z
      rw [z, List.replicate_succ']
    rw [hs]
    exact e
theorem both (A H : List R) (c : Int) (hb : A.length + H.length ≤ 1048576) (hw : WfR H) : ∃ r : List R × List R × Bool, r.1.length ≤ 100 ∧ r.2.1.length ≤ 100 ∧ ∀ k, 1000 + 3 * A.length + 3 * H.length ≤ k → spec_CutRod.f k A H c = some r ∧ impl_CutRod.f k A H c = some r := by
  by_cases h : good A H = true
  · have ok := good_ok h
    have o1 := ok.len
    have o2 := ok.same
    have n1 : wrap64 ((A.length : Int) - 1) = (A.length : Int) - 1 := wrap_id (by omega) (by omega)
    by_cases hc : 1 ≤ c ∧ c ≤ (A.length : Int) - 1
    · obtain ⟨c, rfl⟩ : ∃ m : Nat, c = (m : Int) := ⟨c.toNat, by omega⟩
      obtain ⟨W, hW, hs⟩ := weights_ok ok
      have w1 := hW.len
      have g := h
      simp only [good, Bool.and_eq_true, decide_eq_true_eq] at g
      have core : Core A.length c 0 (List.replicate A.length false) ((List.replicate A.length false).set c true) ((List.replicate A.length (-1)).set 0 0) (List.replicate A.length 0) := by
        refine ⟨by simp, by simp, by simp, by simp, fun j hj => by omega, fun _ => ⟨?_, ?_⟩, ?_, ?_⟩
        · rw [gset, if_neg (by omega)]
          have h0 : 0 < A.length := by omega
          simp [List.getD_eq_getElem?_getD, List.getElem?_replicate, h0]
        · rw [gset, if_pos ⟨rfl, by simp; omega⟩]
        · intro j _ hj hB
          simp [List.getD_eq_getElem?_getD, List.getElem?_replicate, hj] at hB
        · intro j _ hj h1 _
          rw [gset, if_neg (by omega), gset]
          refine ⟨by simp [List.getD_eq_getElem?_getD, List.getElem?_replicate, hj], ?_⟩
          by_cases e : c = j
          · rw [if_pos ⟨e, by simp; omega⟩]
            simp [e]
          · rw [if_neg (by omega)]
            simp [List.getD_eq_getElem?_getD, List.getElem?_replicate, hj]
            omega
      obtain ⟨r, hr1, hr2, hr⟩ := cut2 ok hw hW hs (c := c) ⟨by omega, by omega⟩ A H [] 0 _ _ _ _ 0 o2.symm rfl rfl (by omega) g.2.2 core (fun j hj => by omega) (Nat.le_refl _)
      refine ⟨r, hr1, hr2, fun k hk => ⟨?_, ?_⟩⟩
      · unfold spec_CutRod.f spec_l5Rod.f
        obtain ⟨k, rfl⟩ : ∃ m, k = m + 1 := ⟨k - 1, by omega⟩
        rw [l5Good_eq A H _ hw (by omega), Option.bind_some, if_pos h, n1, l1In_eq, Option.bind_some, decide_eq_true (by omega), if_pos rfl, l1In_eq, Option.bind_some, Option.bind_some, if_pos (by decide)]
        simp only [spec_CutRod.j0]
        rw [if_neg (by simp; omega), hs k (by omega), Option.bind_some, if_pos (by omega), if_pos (by omega), if_pos (by omega), if_pos (by omega)]
        obtain ⟨j, hj, e⟩ := c_l0 (c : Int) (rd W c) A H (by omega) A.length 0 k (by omega) (by omega) (by omega)
        simp only [List.replicate_zero, List.nil_append, Int.natCast_zero] at e
        rw [Int.toNat_natCast, e]
        exact (hr j (by omega)).1
      · unfold impl_CutRod.f
        obtain ⟨k, rfl⟩ : ∃ m, k = m + 1 := ⟨k - 1, by omega⟩
        rw [IsMobile_eq A H _ (by omega), Option.bind_some, if_pos h, n1, within_eq, Option.bind_some, decide_eq_true (by omega)]
        simp only [impl_CutRod.j0]
        rw [if_neg (by decide), if_pos (by omega), if_pos (by omega), Option.bind_some, if_pos (by omega), if_pos (by simp; omega), if_pos (by omega), Int.toNat_natCast, Int.toNat_natCast]
        exact (hr k (by omega)).2
    · refine ⟨([], [], false), by simp, by simp, fun k hk => ⟨?_, ?_⟩⟩
      · unfold spec_CutRod.f spec_l5Rod.f
        obtain ⟨k, rfl⟩ : ∃ m, k = m + 1 := ⟨k - 1, by omega⟩
        rw [l5Good_eq A H _ hw (by omega), Option.bind_some, if_pos h, n1, l1In_eq, Option.bind_some]
        by_cases h0 : c = 0
        · subst h0
          rw [decide_eq_true (by omega), if_pos rfl, l1In_eq, Option.bind_some, Option.bind_some, if_pos (by decide)]
          simp only [spec_CutRod.j0]
          rw [if_pos (by decide)]
        · rw [decide_eq_false (by omega), if_neg (by decide), Option.bind_some, if_neg (by decide)]
          simp only [spec_CutRod.j0]
          rw [if_pos trivial]
      · unfold impl_CutRod.f
        obtain ⟨k, rfl⟩ : ∃ m, k = m + 1 := ⟨k - 1, by omega⟩
        rw [IsMobile_eq A H _ (by omega), Option.bind_some, if_pos h, n1, within_eq, Option.bind_some, decide_eq_false (by omega)]
        simp only [impl_CutRod.j0]
        rw [if_pos (by decide)]
  · refine ⟨([], [], false), by simp, by simp, fun k hk => ⟨?_, ?_⟩⟩
    · unfold spec_CutRod.f spec_l5Rod.f
      obtain ⟨k, rfl⟩ : ∃ m, k = m + 1 := ⟨k - 1, by omega⟩
      rw [l5Good_eq A H _ hw (by omega), Option.bind_some, if_neg h, Option.bind_some, if_neg (by decide)]
      simp only [spec_CutRod.j0]
      rw [if_pos trivial]
    · unfold impl_CutRod.f
      obtain ⟨k, rfl⟩ : ∃ m, k = m + 1 := ⟨k - 1, by omega⟩
      rw [IsMobile_eq A H _ (by omega), Option.bind_some, if_neg h]
      simp only [impl_CutRod.j0]
      rw [if_pos trivial]
theorem FnExactCutRod : ∀ (l0_0 : List (S58)) (l0_1 : List (S58)) (a1 : Int), (l0_0.length ≤ 9223372036854775807) → (∀ x_ ∈ l0_0, ((Lit.int .i64 x_.f0).wf = true) ∧ ((Lit.int .i64 x_.f1).wf = true)) → (l0_1.length ≤ 9223372036854775807) → (∀ x_ ∈ l0_1, ((Lit.int .i64 x_.f0).wf = true) ∧ ((Lit.int .i64 x_.f1).wf = true)) → ((Lit.int .i64 a1).wf = true) → ∃ k, laws_FnExactCutRod.f k l0_0 l0_1 a1 = some true := by
  intro A H c h1 _ h2 wH _
  have hw := wfR_of wH
  refine ⟨3000 + 4 * A.length + 4 * H.length + 6, ?_⟩
  have hsz := szMobile_eq A H h1 h2
  by_cases hb : A.length + H.length ≤ 1048576
  · rw [if_pos hb] at hsz
    have n0 : ¬ ((1048576 : Int) - (A.length : Int) - (H.length : Int) < 0) := by omega
    obtain ⟨r, hr1, hr2, hr⟩ := both A H c hb hw
    have hs := fun k hk => (hr k hk).1
    have hi := fun k hk => (hr k hk).2
    obtain ⟨M, n2, hm2⟩ := markMobile_some A H hb
    have n1 : ¬ ((1 : Int) + 2 * (r.1.length : Int) + 2 * (r.2.1.length : Int) < 0) := by omega
    have hm : ∀ k, 1000 ≤ k → laws_markMobile.f k r.1 r.2.1 1 = some (1 + 2 * (r.1.length : Int) + 2 * (r.2.1.length : Int), seqT 1 r.1.length, seqT (1 + 2 * (r.1.length : Int)) r.2.1.length) := fun k hk => markMobile_eq r.1 r.2.1 k (by omega) (by omega) (by omega)
    have hh : ∀ k, 1000 ≤ k → laws_heldMobile.f k (seqT 1 r.1.length) (seqT (1 + 2 * (r.1.length : Int)) r.2.1.length) 1 = some (1 + 2 * (r.1.length : Int) + 2 * (r.2.1.length : Int)) := fun k hk => heldMobile_eq r.1.length r.2.1.length k (by omega) (by omega) (by omega)
    simp (maxSteps := 4000000) (disch := omega) only [laws_FnExactCutRod.f, hsz, n0, toMobile_eq, hs, hi, eqMobile_refl, Option.bind_some, bne_refl, if_true, if_false]
    simp (maxSteps := 4000000) (disch := omega) only [laws_FnExactCutRod.j0, toMobile_eq, eqMobile_refl, hm2, n2, Option.bind_some, bne_refl, if_true, if_false, Bool.false_eq_true]
    simp (maxSteps := 4000000) (disch := omega) only [laws_FnExactCutRod.j1, toMobile_eq, hi, eqMobile_refl, hm, hh, n1, Option.bind_some, bne_refl, if_true, if_false, Bool.false_eq_true]
    simp (maxSteps := 4000000) (disch := omega) only [laws_FnExactCutRod.j2, hh, n1, Option.bind_some, if_true, if_false, Bool.false_eq_true]
  · rw [if_neg hb] at hsz
    unfold laws_FnExactCutRod.f
    rw [hsz, Option.bind_some, if_pos (by decide)]

end Go.Proofs.Ytbdajkfihbaapaa.Pure

/- The pure statement of the law FnExactHangLeaves: what the law computes, as a function over numbers and lists, answers true for every input. No conditions beyond the ranges of Go's int. -/
import Derived.Test.YtbdajkfihbaapaaPFnExactHangLeavesx12
set_option linter.unusedVariables false
set_option linter.unusedSimpArgs false
namespace Go.Proofs.Ytbdajkfihbaapaa.Pure
open Go.RowKit Go.Proofs.YtbdajkfihbaapaaW.PrintWords Go.Proofs.YtbdajkfihbaapaaW.PrintLast Go.Proofs.Ytbdajkfihbaapaa.PFnExactHangLeaves

theorem wrap_id {x : Int} (h0 : -9223372036854775808 ≤ x) (h1 : x ≤ 9223372036854775807) : wrap64 x = x := by
  unfold wrap64
  omega
theorem wf64 {x : Int} (h : (Lit.int .i64 x).wf = true) : -9223372036854775808 ≤ x ∧ x ≤ 9223372036854775807 := by
  simp [Lit.wf, IntKind.min, IntKind.max, IntKind.signed, IntKind.bits] at h
  omega
theorem l1In_eq (a b c : Int) : spec_l1In.f a b c = some (decide (b ≤ a ∧ a ≤ c)) := by
  unfold spec_l1In.f
  split <;> simp_all
  omega
theorem within_eq (a b c : Int) : impl_within.f a b c = some (decide (b ≤ a ∧ a ≤ c)) := by
  unfold impl_within.f
  split <;> simp_all
  omega
theorem snocI {α : Type} (p : List α) (x : α) (h : p.length < 9223372036854775807) : wrap64 ((p.length : Int) + 1) = ((p ++ [x]).length : Int) := by
  rw [wrap_id (by omega) (by omega)]
  simp
theorem sz_id (n : Nat) (h : n ≤ 9223372036854775807) : wrap64 (1048576 - (n : Int)) = 1048576 - (n : Int) := wrap_id (by omega) (by omega)
theorem set_rep {α : Type} (q : List α) (z y : α) (n : Nat) : (q ++ List.replicate (n + 1) z).set q.length y = (q ++ [y]) ++ List.replicate n z := by
  rw [List.set_append_right _ _ (Nat.le_refl _), Nat.sub_self]
  simp [List.replicate_succ]
abbrev R := S58
theorem rdT (p s : List R) (x : R) : rd_T58 (p ++ x :: s) ((p.length : Int)) = x := by
  simp [rd_T58]
def Wf (h : Int) : Prop := -9223372036854775808 ≤ h ∧ h ≤ 9223372036854775807
def WfR (l : List R) : Prop := ∀ x ∈ l, Wf x.f0 ∧ Wf x.f1
def armOk (a : Int) : Bool := decide (1 ≤ a ∧ a ≤ 12)
def leafOk (h : Int) : Bool := decide (1 ≤ h ∧ h ≤ 99)
def endOk (i n h : Int) : Bool := leafOk h || decide (i + 1 ≤ -h ∧ -h ≤ n - 1)
def bump (T : List Int) (h : Int) : List Int := if h < 0 then T.set (-h).toNat (wrap64 (rd T (-h) + 1)) else T
def allOne (T : List Int) : Bool := T.all (fun t => decide (t = 1))
def gS (n : Int) : Int → List R → List R → List Int → Bool
  | i, a :: us, h :: hs, T => (armOk a.f0 && endOk i n h.f0) && ((armOk a.f1 && endOk i n h.f1) && gS n (i + 1) us hs (bump (bump T h.f0) h.f1))
  | _, _, _, T => allOne T
def seeOk (i n : Int) (B : List Bool) (h : Int) : Bool := leafOk h || (decide (i + 1 ≤ -h ∧ -h ≤ n - 1) && !(rdOf false B (-h)))
def mark (B : List Bool) (h : Int) : List Bool := if h < 0 then B.set (-h).toNat true else B
def gI (n : Int) : Int → List R → List R → List Bool → Bool
  | i, a :: us, h :: hs, B => (armOk a.f0 && armOk a.f1) && (seeOk i n B h.f0 && (seeOk i n (mark B h.f0) h.f1 && gI n (i + 1) us hs (mark (mark B h.f0) h.f1)))
  | _, _, _, B => (B.drop 1).all id
theorem bump_length (T : List Int) (h : Int) : (bump T h).length = T.length := by unfold bump; split <;> simp
theorem mark_length (B : List Bool) (h : Int) : (mark B h).length = B.length := by unfold mark; split <;> simp
/-- A rod that hangs twice spoils a mobile. -/
def big (m : Int) (T : List Int) : Prop := ∃ j, 2 ≤ T.getD j 0 ∧ T.getD j 0 ≤ m
theorem big_bump {m : Int} {T : List Int} (h : Int) (hm : m ≤ 1000000) (hb : big m T) : big (m + 1) (bump T h) := by
  obtain ⟨j, h1, h2⟩ := hb
  refine ⟨j, ?_⟩
  unfold bump
  by_cases h0 : h < 0
  · rw [if_pos h0]
    by_cases hj : (-h).toNat = j
    · have hl : j < T.length := by
        rcases Nat.lt_or_ge j T.length with hl | hl
        · exact hl
        · rw [List.getD_eq_getElem?_getD, List.getElem?_eq_none hl] at h1
          simp at h1
      have e : (T.set (-h).toNat (wrap64 (rd T (-h) + 1))).getD j 0 = T.getD j 0 + 1 := by
        rw [List.getD_eq_getElem?_getD, List.getElem?_set, if_pos hj, if_pos (by omega)]
        simp only [rd, hj, Option.getD_some]
        exact wrap_id (by omega) (by omega)
      rw [e]
      omega
    · have e : (T.set (-h).toNat (wrap64 (rd T (-h) + 1))).getD j 0 = T.getD j 0 := by
        rw [List.getD_eq_getElem?_getD, List.getElem?_set, if_neg hj, List.getD_eq_getElem?_getD]
      rw [e]
      omega
  · rw [if_neg h0]
    omega
theorem big_one {m : Int} {T : List Int} (hb : big m T) : allOne T = false := by
  obtain ⟨j, h1, h2⟩ := hb
  have hl : j < T.length := by
    rcases Nat.lt_or_ge j T.length with hl | hl
    · exact hl
    · rw [List.getD_eq_getElem?_getD, List.getElem?_eq_none hl] at h1
      simp at h1
  rw [List.getD_eq_getElem?_getD, List.getElem?_eq_getElem hl] at h1
  unfold allOne
  rw [List.all_eq_false]
  refine ⟨T[j], List.getElem_mem hl, ?_⟩
  simp at h1 ⊢
  omega
theorem gS_big (n : Int) : ∀ (us hs : List R) (i m : Int) (T : List Int), m + 2 * us.length ≤ 1000000 → big m T → gS n i us hs T = false := by
  intro us
  induction us with
  | nil => intro hs i m T hm hb; unfold gS; exact big_one hb
  | cons a us ih =>
    intro hs i m T hm hb
    cases hs with
    | nil => unfold gS; exact big_one hb
    | cons h hs =>
      simp only [List.length_cons, Int.natCast_add, Int.natCast_one] at hm
      simp only [gS]
      rw [ih hs (i + 1) (m + 1 + 1) _ (by omega) (big_bump _ (by omega) (big_bump _ (by omega) hb))]
      simp
def tOf : List Bool → List Int
  | [] => []
  | _ :: bs => 1 :: bs.map (fun b => if b then 1 else 0)
theorem tOf_length (B : List Bool) : (tOf B).length = B.length := by cases B <;> simp [tOf]
theorem tOf_rd (B : List Bool) (j : Nat) (hj : j + 1 < B.length) : (tOf B).getD (j + 1) 0 = if B.getD (j + 1) false then 1 else 0 := by
  cases B with
  | nil => simp at hj
  | cons b bs =>
    simp only [List.length_cons] at hj
    have h2 : j < bs.length := by omega
    simp [tOf, List.getD_eq_getElem?_getD, List.getElem?_eq_getElem h2]
theorem bump_mark (B : List Bool) (i n h : Int) (hi : 0 ≤ i) (hn : n = B.length) (hs : seeOk i n B h = true) : bump (tOf B) h = tOf (mark B h) := by
  unfold bump mark
  by_cases h0 : h < 0
  · rw [if_pos h0, if_pos h0]
    simp only [seeOk, leafOk, Bool.or_eq_true, Bool.and_eq_true, decide_eq_true_eq, Bool.not_eq_true'] at hs
    rcases hs with hs | hs
    · omega
    · obtain ⟨j, hj⟩ : ∃ j : Nat, (-h).toNat = j + 1 := ⟨(-h).toNat - 1, by omega⟩
      have hl : j + 1 < B.length := by omega
      have e1 := tOf_rd B j hl
      have e2 : B.getD (j + 1) false = false := by rw [← hj]; exact hs.2
      rw [e2] at e1
      simp only [rd, hj]
      rw [e1]
      rw [show wrap64 ((if false = true then (1 : Int) else 0) + 1) = 1 from wrap_id (by simp) (by simp)]
      cases B with
      | nil => simp at hl
      | cons b bs => simp [tOf, List.set_cons_succ, List.map_set]
  · rw [if_neg h0, if_neg h0]
theorem big_of (B : List Bool) (i n h : Int) (hi : 0 ≤ i) (hn : n = B.length) (he : endOk i n h = true) (hs : seeOk i n B h = false) : big 2 (bump (tOf B) h) := by
  simp only [seeOk, endOk, Bool.or_eq_true, Bool.or_eq_false_iff] at hs he
  rw [hs.1] at he
  simp only [Bool.false_eq_true, false_or, decide_eq_true_eq] at he
  have hb : rdOf false B (-h) = true := by simpa [he] using hs.2
  obtain ⟨j, hj⟩ : ∃ j : Nat, (-h).toNat = j + 1 := ⟨(-h).toNat - 1, by omega⟩
  have hl : j + 1 < B.length := by omega
  have e1 := tOf_rd B j hl
  have e2 : B.getD (j + 1) false = true := by rw [← hj]; exact hb
  rw [e2, if_pos rfl] at e1
  refine ⟨j + 1, ?_⟩
  unfold bump
  rw [if_pos (by omega)]
  simp only [rd, hj]
  rw [e1, List.getD_eq_getElem?_getD, List.getElem?_set, if_pos rfl, if_pos (by rw [tOf_length]; exact hl)]
  rw [show wrap64 (1 + 1) = 2 from wrap_id (by omega) (by omega)]
  simp
theorem see_end {i n : Int} {B : List Bool} {h : Int} (hs : seeOk i n B h = true) : endOk i n h = true := by
  unfold seeOk at hs
  unfold endOk
  revert hs
  cases leafOk h <;> simp
  intro h1 h2 _
  exact ⟨h1, h2⟩
theorem gS_gI (n : Int) : ∀ (us hs : List R) (i : Int) (B : List Bool), 0 ≤ i → n = B.length → 1 ≤ n → us.length ≤ 1000 → gS n i us hs (tOf B) = gI n i us hs B := by
  intro us
  have base : ∀ B : List Bool, n = B.length → 1 ≤ n → allOne (tOf B) = (B.drop 1).all id := by
    intro B h1 h2
    cases B with
    | nil => simp at h1; omega
    | cons b bs =>
      simp only [allOne, tOf, List.all_cons, decide_true, Bool.true_and, List.all_map, List.drop_succ_cons, List.drop_zero]
      congr 1
      funext x
      cases x <;> simp
  induction us with
  | nil => intro hs i B hi hn h1 _; unfold gS gI; exact base B hn h1
  | cons a us ih =>
    intro hs i B hi hn h1 hl
    simp only [List.length_cons] at hl
    cases hs with
    | nil => unfold gS gI; exact base B hn h1
    | cons h hs =>
      simp only [gS, gI]
      by_cases c0 : armOk a.f0 = true
      · by_cases c1 : armOk a.f1 = true
        · by_cases s0 : seeOk i n B h.f0 = true
          · have b0 := bump_mark B i n h.f0 hi hn s0
            have hn2 : n = (mark B h.f0).length := by rw [mark_length]; exact hn
            by_cases s1 : seeOk i n (mark B h.f0) h.f1 = true
            · have b1 := bump_mark (mark B h.f0) i n h.f1 hi hn2 s1
              rw [c0, c1, s0, s1, see_end s0, see_end s1, b0, b1, ih hs (i + 1) _ (by omega) (by rw [mark_length]; exact hn2) h1 (by omega)]
              simp
            · rw [Bool.not_eq_true] at s1
              rw [s1]
              by_cases e1 : endOk i n h.f1 = true
              · have g := big_of (mark B h.f0) i n h.f1 hi hn2 e1 s1
                rw [b0, gS_big n us hs (i + 1) 2 _ (by omega) g]
                simp
              · rw [Bool.not_eq_true] at e1
                rw [e1]
                simp
          · rw [Bool.not_eq_true] at s0
            rw [s0]
            by_cases e0 : endOk i n h.f0 = true
            · have g := big_of B i n h.f0 hi hn e0 s0
              rw [gS_big n us hs (i + 1) 3 _ (by omega) (big_bump _ (by omega) g)]
              simp
            · rw [Bool.not_eq_true] at e0
              rw [e0]
              simp
        · rw [Bool.not_eq_true] at c1
          rw [c1]
          simp
      · rw [Bool.not_eq_true] at c0
        rw [c0]
        simp
theorem arm_spec (x : Int) : spec_l1In.f x 1 12 = some (armOk x) := l1In_eq x 1 12
theorem l5End_eq (i n h : Int) (hi : 0 ≤ i ∧ i ≤ 100) (hn : 0 ≤ n ∧ n ≤ 100) (hw : Wf h) : spec_l5End.f i h n = some (endOk i n h) := by
  unfold Wf at hw
  unfold spec_l5End.f endOk leafOk
  rw [l1In_eq, Option.bind_some, l1In_eq]
  by_cases h1 : 1 ≤ h ∧ h ≤ 99
  · simp [h1]
  · rw [decide_eq_false h1, if_neg (by simp), Option.bind_some, Bool.false_or, wrap_id (x := i + 1) (by omega) (by omega), wrap_id (x := n - 1) (by omega) (by omega)]
    by_cases h2 : i + 1 ≤ -h ∧ -h ≤ n - 1
    · rw [wrap_id (x := -h) (by omega) (by omega)]
      have h3 : h < 0 := by omega
      simp [h2, h3]
    · have h3 : ¬ (i + 1 ≤ wrap64 (-h) ∧ wrap64 (-h) ≤ n - 1) := by
        unfold wrap64
        omega
      rw [decide_eq_false h3, decide_eq_false h2, if_neg (by simp)]
theorem child {i n h : Int} (he : endOk i n h = true) (h0 : h < 0) : i + 1 ≤ -h ∧ -h ≤ n - 1 := by
  simp only [endOk, leafOk, Bool.or_eq_true, decide_eq_true_eq] at he
  omega
theorem s_l1_0 (n i : Int) (T : List Int) (A H : List R) (a h : R) (k : Nat) (hA : rd_T58 A i = a) (hH : rd_T58 H i = h) (c0 : 0 ≤ i) (c1 : i < A.length) (c2 : i < H.length) (hi : i ≤ 100) (hn : 0 ≤ n ∧ n ≤ 100) (hT : (T.length : Int) = n) (hw : Wf h.f0) :
    spec_l5Good.l1 (k + 2) n T i 0 A H = if (armOk a.f0 && endOk i n h.f0) = true then spec_l5Good.l1 k n (bump T h.f0) i 1 A H else some false := by
  have e := l5End_eq i n h.f0 ⟨c0, hi⟩ hn hw
  have w1 : wrap64 (0 + 1) = 1 := wrap_id (by omega) (by omega)
  by_cases h1 : armOk a.f0 = true
  · by_cases h2 : endOk i n h.f0 = true
    · by_cases h3 : h.f0 < 0
      · have ch := child h2 h3
        have w := wrap_id (x := -h.f0) (by omega) (by omega)
        have r0 : 0 ≤ -h.f0 := by omega
        have r1 : -h.f0 < (T.length : Int) := by omega
        rw [show spec_l5Good.l1 (k + 2) n T i 0 A H = spec_l5Good.j3 (k + 1) n T i 0 (!true) A H from by simp only [spec_l5Good.l1, c0, c1, c2, hA, hH, arm_spec, e, h1, h2, Option.bind_some, if_true, Int.reduceLT]]
        simp only [spec_l5Good.j3, c0, c2, hH, h1, h2, h3, w, r0, r1, w1, bump, Bool.and_self, Bool.not_true, Bool.false_eq_true, if_true, if_false]
      · rw [show spec_l5Good.l1 (k + 2) n T i 0 A H = spec_l5Good.j3 (k + 1) n T i 0 (!true) A H from by simp only [spec_l5Good.l1, c0, c1, c2, hA, hH, arm_spec, e, h1, h2, Option.bind_some, if_true, Int.reduceLT]]
        simp only [spec_l5Good.j3, c0, c2, hH, h1, h2, h3, w1, bump, Bool.and_self, Bool.not_true, Bool.false_eq_true, if_true, if_false]
    · rw [Bool.not_eq_true] at h2
      rw [show spec_l5Good.l1 (k + 2) n T i 0 A H = spec_l5Good.j3 (k + 1) n T i 0 (!false) A H from by simp only [spec_l5Good.l1, c0, c1, c2, hA, hH, arm_spec, e, h1, h2, Option.bind_some, if_true, Int.reduceLT]]
      simp only [spec_l5Good.j3, h1, h2, Bool.and_false, Bool.not_false, Bool.false_eq_true, if_true, if_false]
  · rw [Bool.not_eq_true] at h1
    rw [show spec_l5Good.l1 (k + 2) n T i 0 A H = spec_l5Good.j3 (k + 1) n T i 0 true A H from by simp only [spec_l5Good.l1, c0, c1, hA, arm_spec, h1, Option.bind_some, if_true, if_false, Bool.false_eq_true, Int.reduceLT]]
    simp only [spec_l5Good.j3, h1, Bool.false_and, Bool.false_eq_true, if_true, if_false]
theorem s_l1_1 (n i : Int) (T : List Int) (A H : List R) (a h : R) (k : Nat) (hA : rd_T58 A i = a) (hH : rd_T58 H i = h) (c0 : 0 ≤ i) (c1 : i < A.length) (c2 : i < H.length) (hi : i ≤ 100) (hn : 0 ≤ n ∧ n ≤ 100) (hT : (T.length : Int) = n) (hw : Wf h.f1) :
    spec_l5Good.l1 (k + 2) n T i 1 A H = if (armOk a.f1 && endOk i n h.f1) = true then spec_l5Good.l1 k n (bump T h.f1) i 2 A H else some false := by
  have e := l5End_eq i n h.f1 ⟨c0, hi⟩ hn hw
  have w1 : wrap64 (1 + 1) = 2 := wrap_id (by omega) (by omega)
  have q : ¬ ((1 : Int) = 0) := by omega
  by_cases h1 : armOk a.f1 = true
  · by_cases h2 : endOk i n h.f1 = true
    · by_cases h3 : h.f1 < 0
      · have ch := child h2 h3
        have w := wrap_id (x := -h.f1) (by omega) (by omega)
        have r0 : 0 ≤ -h.f1 := by omega
        have r1 : -h.f1 < (T.length : Int) := by omega
        rw [show spec_l5Good.l1 (k + 2) n T i 1 A H = spec_l5Good.j3 (k + 1) n T i 1 (!true) A H from by simp only [spec_l5Good.l1, c0, c1, c2, hA, hH, arm_spec, e, h1, h2, q, Option.bind_some, if_true, if_false, Int.reduceLT]]
        simp only [spec_l5Good.j3, c0, c2, hH, h1, h2, h3, w, r0, r1, w1, q, bump, Bool.and_self, Bool.not_true, Bool.false_eq_true, if_true, if_false]
      · rw [show spec_l5Good.l1 (k + 2) n T i 1 A H = spec_l5Good.j3 (k + 1) n T i 1 (!true) A H from by simp only [spec_l5Good.l1, c0, c1, c2, hA, hH, arm_spec, e, h1, h2, q, Option.bind_some, if_true, if_false, Int.reduceLT]]
        simp only [spec_l5Good.j3, c0, c2, hH, h1, h2, h3, w1, q, bump, Bool.and_self, Bool.not_true, Bool.false_eq_true, if_true, if_false]
    · rw [Bool.not_eq_true] at h2
      rw [show spec_l5Good.l1 (k + 2) n T i 1 A H = spec_l5Good.j3 (k + 1) n T i 1 (!false) A H from by simp only [spec_l5Good.l1, c0, c1, c2, hA, hH, arm_spec, e, h1, h2, q, Option.bind_some, if_true, if_false, Int.reduceLT]]
      simp only [spec_l5Good.j3, h1, h2, Bool.and_false, Bool.not_false, Bool.false_eq_true, if_true, if_false]
  · rw [Bool.not_eq_true] at h1
    rw [show spec_l5Good.l1 (k + 2) n T i 1 A H = spec_l5Good.j3 (k + 1) n T i 1 true A H from by simp only [spec_l5Good.l1, c0, c1, hA, arm_spec, h1, q, Option.bind_some, if_true, if_false, Bool.false_eq_true, Int.reduceLT]]
    simp only [spec_l5Good.j3, h1, Bool.false_and, Bool.false_eq_true, if_true, if_false]
theorem s_l2 (n : Int) : ∀ (s p : List Int) (k : Nat), ((p ++ s).length : Int) = n → n ≤ 100 → s.length < k → spec_l5Good.l2 k n (p ++ s) (p.length : Int) = some (allOne s) := by
  intro s
  induction s with
  | nil =>
    intro p k hn h1 hk
    obtain ⟨k, rfl⟩ : ∃ m, k = m + 1 := ⟨k - 1, by simp at hk; omega⟩
    simp only [spec_l5Good.l2]
    rw [if_neg (by simp at hn; omega)]
    rfl
  | cons x s ih =>
    intro p k hn h1 hk
    obtain ⟨k, rfl⟩ : ∃ m, k = m + 1 := ⟨k - 1, by simp at hk; omega⟩
    have hr : rd (p ++ x :: s) (p.length : Int) = x := by simp [rd]
    simp only [spec_l5Good.l2]
    rw [if_pos (by simp at hn; omega), if_pos (by omega), if_pos (by simp at hn ⊢; omega), hr, snocI p x (by simp at hn; omega), List.append_cons p x s, ih (p ++ [x]) k (by simpa using hn) h1 (by simp at hk; omega)]
    by_cases hx : x = 1 <;> simp [allOne, hx]
theorem s_l0 (n : Int) : ∀ (us hs : List R) (p q : List R) (T : List Int) (k : Nat), p.length = q.length → us.length = hs.length → ((p ++ us).length : Int) = n → n ≤ 6 → (T.length : Int) = n → WfR hs → 6 * us.length + 20 ≤ k →
    spec_l5Good.l0 k n T (p.length : Int) (p ++ us) (q ++ hs) = some (gS n (p.length : Int) us hs T) := by
  intro us
  induction us with
  | nil =>
    intro hs p q T k hpq hl hn h6 hT hw hk
    obtain ⟨k, rfl⟩ : ∃ m, k = m + 1 := ⟨k - 1, by omega⟩
    simp only [spec_l5Good.l0, gS]
    rw [if_neg (by simp at hn; omega)]
    exact s_l2 n T [] k hT (by omega) (by omega)
  | cons a us ih =>
    intro hs p q T k hpq hl hn h6 hT hw hk
    cases hs with
    | nil => simp at hl
    | cons h hs =>
      simp only [List.length_cons] at hk
      obtain ⟨k, rfl⟩ : ∃ m, k = m + 6 := ⟨k - 6, by omega⟩
      have hA := rdT p us a
      have hH : rd_T58 (q ++ h :: hs) (p.length : Int) = h := by rw [hpq]; exact rdT q hs h
      have hw0 := hw h (by simp)
      simp only [List.length_append, List.length_cons, Int.natCast_add, Int.natCast_one] at hn
      simp only [List.length_cons] at hl
      have d1 : (p.length : Int) < ((p ++ a :: us).length : Int) := by simp; omega
      have d2 : (p.length : Int) < ((q ++ h :: hs).length : Int) := by simp; omega
      have d3 : (p.length : Int) < n := by omega
      rw [show spec_l5Good.l0 (k + 6) n T (p.length : Int) (p ++ a :: us) (q ++ h :: hs) = spec_l5Good.l1 (k + 5) n T (p.length : Int) 0 (p ++ a :: us) (q ++ h :: hs) from by simp only [spec_l5Good.l0, d3, if_true]]
      rw [s_l1_0 n _ T _ _ a h (k + 3) hA hH (by omega) d1 d2 (by omega) (by omega) hT hw0.1]
      simp only [gS]
      by_cases g0 : (armOk a.f0 && endOk (p.length : Int) n h.f0) = true
      · rw [if_pos g0, g0, s_l1_1 n _ _ _ _ a h (k + 1) hA hH (by omega) d1 d2 (by omega) (by omega) (by rw [bump_length]; exact hT) hw0.2]
        by_cases g1 : (armOk a.f1 && endOk (p.length : Int) n h.f1) = true
        · rw [if_pos g1, g1]
          rw [show spec_l5Good.l1 (k + 1) n (bump (bump T h.f0) h.f1) (p.length : Int) 2 (p ++ a :: us) (q ++ h :: hs) = spec_l5Good.l0 k n (bump (bump T h.f0) h.f1) (wrap64 ((p.length : Int) + 1)) (p ++ a :: us) (q ++ h :: hs) from by simp only [spec_l5Good.l1, Int.reduceLT, if_false]]
          rw [snocI p a (by omega), List.append_cons p a us, List.append_cons q h hs]
          rw [ih hs (p ++ [a]) (q ++ [h]) _ k (by simp [hpq]) (by omega) (by simp; omega) h6 (by rw [bump_length, bump_length]; exact hT) (fun x hx => hw x (by simp [hx])) (by omega)]
          simp
        · rw [if_neg g1]
          rw [Bool.not_eq_true] at g1
          rw [g1]
          simp
      · rw [if_neg g0]
        rw [Bool.not_eq_true] at g0
        rw [g0]
        simp
theorem isArm_eq (a : Int) : impl_isArm.f a = some (armOk a) := by simp only [impl_isArm.f, within_eq, Option.bind_some, armOk]
theorem isLeaf_eq (a : Int) : impl_isWeight.f a = some (leafOk a) := by simp only [impl_isWeight.f, within_eq, Option.bind_some, leafOk]
theorem kid_eq (i n h : Int) (hi : 0 ≤ i ∧ i ≤ 100) (hn : 0 ≤ n ∧ n ≤ 100) : impl_within.f h (wrap64 (1 - n)) (wrap64 (wrap64 (-i) - 1)) = some (decide (i + 1 ≤ -h ∧ -h ≤ n - 1)) := by
  rw [within_eq, wrap_id (x := 1 - n) (by omega) (by omega), wrap_id (x := -i) (by omega) (by omega), wrap_id (x := -i - 1) (by omega) (by omega)]
  congr 1
  apply decide_eq_decide.2
  omega
theorem i_l1_0 (n i len : Int) (B : List Bool) (A L H : List R) (u v : Int) (k : Nat) (c0 : 0 ≤ i) (hi : i ≤ 100) (hn : 0 ≤ n ∧ n ≤ 100) (hB : (B.length : Int) = n) :
    impl_IsMobile.l1 (k + 1) n B i A len i 0 L H u v = if seeOk i n B u = true then impl_IsMobile.l1 k n (mark B u) i A len i 1 L H u v else some false := by
  have w1 : wrap64 (0 + 1) = 1 := wrap_id (by omega) (by omega)
  by_cases h1 : leafOk u = true
  · have h3 : ¬ u < 0 := by simp [leafOk] at h1; omega
    simp only [impl_IsMobile.l1, isLeaf_eq, h1, h3, w1, seeOk, mark, Bool.true_or, Option.bind_some, if_true, if_false, Int.reduceLT]
  · rw [Bool.not_eq_true] at h1
    by_cases h2 : i + 1 ≤ -u ∧ -u ≤ n - 1
    · have w := wrap_id (x := -u) (by omega) (by omega)
      have r0 : 0 ≤ -u := by omega
      have r1 : -u < (B.length : Int) := by omega
      have h3 : u < 0 := by omega
      cases hb : rdOf false B (-u) <;> simp only [impl_IsMobile.l1, isLeaf_eq, kid_eq i n u ⟨c0, hi⟩ hn, h1, h2, h3, hb, w, r0, r1, w1, seeOk, mark, Bool.false_or, Bool.true_and, Bool.not_true, Bool.not_false, and_self, decide_true, Option.bind_some, if_true, if_false, Bool.false_eq_true, Int.reduceLT]
    · simp only [impl_IsMobile.l1, isLeaf_eq, kid_eq i n u ⟨c0, hi⟩ hn, h1, h2, seeOk, Bool.false_or, Bool.false_and, decide_false, Option.bind_some, if_true, if_false, Bool.false_eq_true, Int.reduceLT]
theorem i_l1_1 (n i len : Int) (B : List Bool) (A L H : List R) (u v : Int) (k : Nat) (c0 : 0 ≤ i) (hi : i ≤ 100) (hn : 0 ≤ n ∧ n ≤ 100) (hB : (B.length : Int) = n) :
    impl_IsMobile.l1 (k + 1) n B i A len i 1 L H u v = if seeOk i n B v = true then impl_IsMobile.l1 k n (mark B v) i A len i 2 L H u v else some false := by
  have w1 : wrap64 (1 + 1) = 2 := wrap_id (by omega) (by omega)
  have q : ¬ ((1 : Int) = 0) := by omega
  by_cases h1 : leafOk v = true
  · have h3 : ¬ v < 0 := by simp [leafOk] at h1; omega
    simp only [impl_IsMobile.l1, isLeaf_eq, h1, h3, w1, q, seeOk, mark, Bool.true_or, Option.bind_some, if_true, if_false, Int.reduceLT]
  · rw [Bool.not_eq_true] at h1
    by_cases h2 : i + 1 ≤ -v ∧ -v ≤ n - 1
    · have w := wrap_id (x := -v) (by omega) (by omega)
      have r0 : 0 ≤ -v := by omega
      have r1 : -v < (B.length : Int) := by omega
      have h3 : v < 0 := by omega
      cases hb : rdOf false B (-v) <;> simp only [impl_IsMobile.l1, isLeaf_eq, kid_eq i n v ⟨c0, hi⟩ hn, h1, h2, h3, hb, w, r0, r1, w1, q, seeOk, mark, Bool.false_or, Bool.true_and, Bool.not_true, Bool.not_false, and_self, decide_true, Option.bind_some, if_true, if_false, Bool.false_eq_true, Int.reduceLT]
    · simp only [impl_IsMobile.l1, isLeaf_eq, kid_eq i n v ⟨c0, hi⟩ hn, h1, h2, q, seeOk, Bool.false_or, Bool.false_and, decide_false, Option.bind_some, if_true, if_false, Bool.false_eq_true, Int.reduceLT]
theorem Index_l0 : ∀ (s p : List Bool) (k : Nat), (p ++ s).length < 1000 → s.length < k → ∃ r, slices_Index_bool_bool.l0 k (p ++ s) false ((p ++ s).length : Int) (p.length : Int) = some r ∧ decide (r ≥ 0) = !(s.all id) := by
  intro s
  induction s with
  | nil =>
    intro p k hl hk
    obtain ⟨k, rfl⟩ : ∃ m, k = m + 1 := ⟨k - 1, by simp at hk; omega⟩
    simp only [slices_Index_bool_bool.l0]
    rw [if_neg (by simp)]
    exact ⟨-1, rfl, by simp⟩
  | cons x s ih =>
    intro p k hl hk
    obtain ⟨k, rfl⟩ : ∃ m, k = m + 1 := ⟨k - 1, by simp at hk; omega⟩
    have hr : rdOf false (p ++ x :: s) (p.length : Int) = x := by simp [rdOf]
    simp only [slices_Index_bool_bool.l0]
    rw [if_pos (by simp; omega), if_pos (by omega), if_pos (by simp; omega), hr]
    cases x with
    | false =>
      rw [if_pos (by decide)]
      exact ⟨_, rfl, by simp⟩
    | true =>
      rw [if_neg (by decide), snocI p true (by simp at hl; omega), List.append_cons p true s]
      obtain ⟨r, h1, h2⟩ := ih (p ++ [true]) k (by simpa using hl) (by simp at hk; omega)
      exact ⟨r, h1, by rw [h2]; simp⟩
theorem Contains_eq (l : List Bool) (k : Nat) (hl : l.length < 1000) (hk : l.length < k) : slices_Contains_bool_bool.f k l false = some (!(l.all id)) := by
  unfold slices_Contains_bool_bool.f slices_Index_bool_bool.f
  obtain ⟨r, h1, h2⟩ := Index_l0 l [] k hl hk
  have h3 : slices_Index_bool_bool.l0 k l false (l.length : Int) 0 = some r := h1
  rw [h3, Option.bind_some, h2]
theorem i_l0 (n : Int) : ∀ (us hs : List R) (p q : List R) (B : List Bool) (k : Nat), p.length = q.length → us.length = hs.length → ((p ++ us).length : Int) = n → 1 ≤ n → n ≤ 6 → (B.length : Int) = n → 6 * us.length + 20 ≤ k →
    impl_IsMobile.l0 k n B (p ++ us) n (p.length : Int) (p ++ us) (q ++ hs) = some (gI n (p.length : Int) us hs B) := by
  intro us
  induction us with
  | nil =>
    intro hs p q B k hpq hl hn h1 h6 hB hk
    obtain ⟨k, rfl⟩ : ∃ m, k = m + 1 := ⟨k - 1, by omega⟩
    simp only [impl_IsMobile.l0, gI]
    rw [if_neg (by simp at hn; omega), if_pos (by omega), Contains_eq _ k (by simp; omega) (by simp; omega)]
    simp
  | cons a us ih =>
    intro hs p q B k hpq hl hn h1 h6 hB hk
    cases hs with
    | nil => simp at hl
    | cons h hs =>
      simp only [List.length_cons] at hk
      obtain ⟨k, rfl⟩ : ∃ m, k = m + 6 := ⟨k - 6, by omega⟩
      have hA := rdT p us a
      have hH : rd_T58 (q ++ h :: hs) (p.length : Int) = h := by rw [hpq]; exact rdT q hs h
      simp only [List.length_append, List.length_cons, Int.natCast_add, Int.natCast_one] at hn
      simp only [List.length_cons] at hl
      have d0 : 0 ≤ (p.length : Int) := by omega
      have d1 : (p.length : Int) < ((p ++ a :: us).length : Int) := by simp; omega
      have d2 : (p.length : Int) < ((q ++ h :: hs).length : Int) := by simp; omega
      have d3 : (p.length : Int) < n := by omega
      simp only [gI]
      by_cases g0 : (armOk a.f0 && armOk a.f1) = true
      · have g0' := g0
        simp only [Bool.and_eq_true] at g0'
        rw [g0]
        rw [show impl_IsMobile.l0 (k + 6) n B (p ++ a :: us) n (p.length : Int) (p ++ a :: us) (q ++ h :: hs) = impl_IsMobile.l1 (k + 4) n B (p.length : Int) (p ++ a :: us) n (p.length : Int) 0 (p ++ a :: us) (q ++ h :: hs) h.f0 h.f1 from by simp only [impl_IsMobile.l0, impl_IsMobile.j2, hA, hH, isArm_eq, d0, d1, d2, d3, g0'.1, g0'.2, Bool.not_true, Option.bind_some, if_true, if_false, Bool.false_eq_true]]
        rw [i_l1_0 n _ n B _ _ _ _ _ (k + 3) d0 (by omega) (by omega) hB]
        by_cases s0 : seeOk (p.length : Int) n B h.f0 = true
        · rw [if_pos s0, s0, i_l1_1 n _ n _ _ _ _ _ _ (k + 2) d0 (by omega) (by omega) (by rw [mark_length]; exact hB)]
          by_cases s1 : seeOk (p.length : Int) n (mark B h.f0) h.f1 = true
          · rw [if_pos s1, s1]
            rw [show impl_IsMobile.l1 (k + 2) n (mark (mark B h.f0) h.f1) (p.length : Int) (p ++ a :: us) n (p.length : Int) 2 (p ++ a :: us) (q ++ h :: hs) h.f0 h.f1 = impl_IsMobile.l0 (k + 1) n (mark (mark B h.f0) h.f1) (p ++ a :: us) n (wrap64 ((p.length : Int) + 1)) (p ++ a :: us) (q ++ h :: hs) from by simp only [impl_IsMobile.l1, Int.reduceLT, if_false]]
            rw [snocI p a (by omega), List.append_cons p a us, List.append_cons q h hs]
            rw [ih hs (p ++ [a]) (q ++ [h]) _ (k + 1) (by simp [hpq]) (by omega) (by simp; omega) h1 h6 (by rw [mark_length, mark_length]; exact hB) (by omega)]
            simp
          · rw [if_neg s1]
            rw [Bool.not_eq_true] at s1
            rw [s1]
            simp
        · rw [if_neg s0]
          rw [Bool.not_eq_true] at s0
          rw [s0]
          simp
      · rw [Bool.not_eq_true] at g0
        rw [g0]
        cases x0 : armOk a.f0
        · simp only [impl_IsMobile.l0, impl_IsMobile.j2, hA, isArm_eq, d0, d1, d3, x0, Bool.false_and, Option.bind_some, if_true, if_false, Bool.false_eq_true]
        · rw [x0, Bool.true_and] at g0
          simp only [impl_IsMobile.l0, impl_IsMobile.j2, hA, isArm_eq, d0, d1, d3, x0, g0, Bool.not_false, Bool.false_and, Option.bind_some, if_true, if_false, Bool.false_eq_true]
/-- Whether a mobile is valid. -/
def good (A H : List R) : Bool := decide (1 ≤ (A.length : Int) ∧ (A.length : Int) ≤ 6) && (decide (H.length = A.length) && gI (A.length : Int) 0 A H (List.replicate A.length false))
theorem l5Good_eq (A H : List R) (k : Nat) (hw : WfR H) (hk : 100 ≤ k) : spec_l5Good.f k A H = some (good A H) := by
  obtain ⟨k, rfl⟩ : ∃ m, k = m + 1 := ⟨k - 1, by omega⟩
  unfold spec_l5Good.f good
  rw [l1In_eq, Option.bind_some]
  by_cases h1 : 1 ≤ (A.length : Int) ∧ (A.length : Int) ≤ 6
  · by_cases h2 : H.length = A.length
    · have e : ((H.length : Int) != (A.length : Int)) = false := by simp [h2]
      have r : ((A.length : Int)).toNat = A.length := by omega
      obtain ⟨n, hn⟩ : ∃ n, A.length = n + 1 := ⟨A.length - 1, by omega⟩
      have t : (List.replicate A.length (0 : Int)).set (0 : Int).toNat 1 = tOf (List.replicate A.length false) := by
        rw [hn]
        simp [List.replicate_succ, tOf]
      have b1 : 0 ≤ (A.length : Int) := by omega
      have b2 : A.length ≤ 35184372088832 := by omega
      have b3 : 0 < ((List.replicate A.length (0 : Int)).length : Int) := by simp; omega
      have g := s_l0 (A.length : Int) A H [] [] (tOf (List.replicate A.length false)) k rfl h2.symm rfl h1.2 (by rw [tOf_length]; simp) hw (by omega)
      simp only [List.nil_append, List.length_nil, Int.natCast_zero] at g
      simp only [h1, h2, and_self, decide_true, if_true, spec_l5Good.j0, e, Bool.false_eq_true, if_false, b1, r, b2, Option.bind_some, b3, t, g, Bool.true_and]
      rw [gS_gI _ A H 0 _ (by omega) (by simp) h1.1 (by omega)]
      simp
    · have e : ((H.length : Int) != (A.length : Int)) = true := by simp; omega
      simp only [h1, h2, and_self, decide_true, decide_false, if_true, spec_l5Good.j0, e, Bool.false_and, Bool.and_false]
  · simp only [h1, decide_false, Bool.false_eq_true, if_false, if_true, spec_l5Good.j0, Bool.false_and]
theorem IsMobile_eq (A H : List R) (k : Nat) (hk : 100 ≤ k) : impl_IsMobile.f k A H = some (good A H) := by
  obtain ⟨k, rfl⟩ : ∃ m, k = m + 1 := ⟨k - 1, by omega⟩
  unfold impl_IsMobile.f good
  rw [within_eq, Option.bind_some]
  by_cases h1 : 1 ≤ (A.length : Int) ∧ (A.length : Int) ≤ 6
  · by_cases h2 : H.length = A.length
    · have e : ((H.length : Int) != (A.length : Int)) = false := by simp [h2]
      have r : ((A.length : Int)).toNat = A.length := by omega
      have b1 : 0 ≤ (A.length : Int) := by omega
      have b2 : A.length ≤ 281474976710656 := by omega
      have g := i_l0 (A.length : Int) A H [] [] (List.replicate A.length false) k rfl h2.symm rfl h1.1 h1.2 (by simp) (by omega)
      simp only [List.nil_append, List.length_nil, Int.natCast_zero] at g
      simp only [h1, h2, and_self, decide_true, if_true, impl_IsMobile.j0, e, Bool.false_eq_true, if_false, b1, r, b2, g, Bool.true_and]
      simp
    · have e : ((H.length : Int) != (A.length : Int)) = true := by simp; omega
      simp only [h1, h2, and_self, decide_true, decide_false, if_true, impl_IsMobile.j0, e, Bool.false_and, Bool.and_false]
  · simp only [h1, decide_false, Bool.false_eq_true, if_false, if_true, impl_IsMobile.j0, Bool.false_and]
theorem l5Own_eq (A H : List R) (h1 : A.length ≤ 1048576) (h2 : H.length ≤ 1048576) : spec_l5Own.f A H = some (A, H) := by
  unfold spec_l5Own.f
  rw [Option.bind_some, if_pos (by simp; omega), Option.bind_some, if_pos (by simp; omega)]
  rfl
theorem Clone_eq (A : List R) (h1 : A.length ≤ 1048576) : slices_Clone_2_int_2_int.f A = some A := by
  unfold slices_Clone_2_int_2_int.f
  rw [Option.bind_some, if_pos (by simp; omega)]
  rfl
theorem copy_eq (A H : List R) (h1 : A.length ≤ 1048576) (h2 : H.length ≤ 1048576) : impl_copyMobile.f A H = some (A, H) := by
  unfold impl_copyMobile.f
  rw [Clone_eq A h1, Option.bind_some, Clone_eq H h2]
  rfl
def pt (w : List Int) (j : Nat) (h : Int) : Int := if h > 0 then rd w (j : Int) else h
def nx (j : Nat) (h : Int) : Nat := if h > 0 then j + 1 else j
def hang (w : List Int) : Nat → List R → List R
  | _, [] => []
  | j, h :: hs => ⟨pt w j h.f0, pt w (nx j h.f0) h.f1⟩ :: hang w (nx (nx j h.f0) h.f1) hs
def cnt : List R → Nat
  | [] => 0
  | h :: hs => nx (nx 0 h.f0) h.f1 + cnt hs
theorem nx_add (j : Nat) (h : Int) : nx j h = j + nx 0 h := by
  unfold nx
  split <;> omega
theorem hang_length (w : List Int) : ∀ (hs : List R) (j : Nat), (hang w j hs).length = hs.length := by
  intro hs
  induction hs with
  | nil => intro j; rfl
  | cons h hs ih => intro j; simp [hang, ih]
theorem set_mid {α : Type} (q s : List α) (x y : α) : (q ++ x :: s).set q.length y = q ++ y :: s := by
  rw [List.set_append_right _ _ (Nat.le_refl _), Nat.sub_self, List.set_cons_zero]
theorem spec_s0 (w : List Int) (A q p hs : List R) (h g : R) (j k : Nat) (hpq : q.length = p.length) (hj : nx j h.f0 ≤ w.length) (hw : w.length ≤ 4194304) :
    spec_l5Hang.l1 (k + 1) w (j : Int) (q.length : Int) 0 A (q ++ h :: hs) A (p ++ g :: hs) = spec_l5Hang.l1 k w (nx j h.f0 : Int) (q.length : Int) 1 A (q ++ h :: hs) A (p ++ (⟨if h.f0 > 0 then rd w j else g.f0, g.f1⟩ : R) :: hs) := by
  have w1 : wrap64 (0 + 1) = 1 := wrap_id (by omega) (by omega)
  have hr : rd_T58 (p ++ g :: hs) (q.length : Int) = g := by rw [hpq]; exact rdT p hs g
  have hn : ((q.length : Nat) : Int).toNat = p.length := by omega
  simp only [spec_l5Hang.l1]
  rw [if_pos (by decide), if_pos (by omega), if_pos (by simp; omega), if_pos trivial, rdT, w1]
  unfold nx at hj ⊢
  by_cases c : h.f0 > 0
  · rw [if_pos c] at hj
    rw [if_pos c, if_pos c, if_pos c, if_pos (by omega), if_pos (by omega), if_pos (by simp; omega), hr, hn, set_mid, wrap_id (x := (j : Int) + 1) (by omega) (by omega)]
    rfl
  · rw [if_neg c, if_neg c, if_neg c]
theorem spec_s1 (w : List Int) (A q p hs : List R) (h g : R) (j k : Nat) (hpq : q.length = p.length) (hj : nx j h.f1 ≤ w.length) (hw : w.length ≤ 4194304) :
    spec_l5Hang.l1 (k + 1) w (j : Int) (q.length : Int) 1 A (q ++ h :: hs) A (p ++ g :: hs) = spec_l5Hang.l1 k w (nx j h.f1 : Int) (q.length : Int) 2 A (q ++ h :: hs) A (p ++ (⟨g.f0, if h.f1 > 0 then rd w j else g.f1⟩ : R) :: hs) := by
  have w2 : wrap64 (1 + 1) = 2 := wrap_id (by omega) (by omega)
  have hr : rd_T58 (p ++ g :: hs) (q.length : Int) = g := by rw [hpq]; exact rdT p hs g
  have hn : ((q.length : Nat) : Int).toNat = p.length := by omega
  simp only [spec_l5Hang.l1]
  rw [if_pos (by decide), if_pos (by omega), if_pos (by simp; omega), if_neg (by decide), if_pos trivial, rdT, w2]
  unfold nx at hj ⊢
  by_cases c : h.f1 > 0
  · rw [if_pos c] at hj
    rw [if_pos c, if_pos c, if_pos c, if_pos (by omega), if_pos (by omega), if_pos (by simp; omega), hr, hn, set_mid, wrap_id (x := (j : Int) + 1) (by omega) (by omega)]
    rfl
  · rw [if_neg c, if_neg c, if_neg c]
theorem spec_hang_l0 (w : List Int) (A : List R) (hw : w.length ≤ 4194304) : ∀ (hs q p : List R) (j k : Nat), q.length = p.length → (q ++ hs).length ≤ 1048576 → j + cnt hs ≤ w.length → 4 * hs.length + 4 < k →
    spec_l5Hang.l0 k w (j : Int) (q.length : Int) A (q ++ hs) A (p ++ hs) = some (A, p ++ hang w j hs) := by
  intro hs
  induction hs with
  | nil =>
    intro q p j k hpq hl hc hk
    obtain ⟨k, rfl⟩ : ∃ m, k = m + 1 := ⟨k - 1, by omega⟩
    simp only [spec_l5Hang.l0]
    rw [if_neg (by simp)]
    rfl
  | cons h hs ih =>
    intro q p j k hpq hl hc hk
    simp only [List.length_cons] at hk
    simp only [cnt] at hc
    obtain ⟨k, rfl⟩ : ∃ m, k = m + 4 := ⟨k - 4, by omega⟩
    have n1 := nx_add (nx j h.f0) h.f1
    have n2 := nx_add j h.f0
    have n3 := nx_add (nx 0 h.f0) h.f1
    have d1 : (q.length : Int) < ((q ++ h :: hs).length : Int) := by simp; omega
    rw [show spec_l5Hang.l0 (k + 4) w (j : Int) (q.length : Int) A (q ++ h :: hs) A (p ++ h :: hs) = spec_l5Hang.l1 (k + 3) w (j : Int) (q.length : Int) 0 A (q ++ h :: hs) A (p ++ h :: hs) from by simp only [spec_l5Hang.l0, d1, if_true]]
    rw [spec_s0 w A q p hs h h j (k + 2) hpq (by omega) hw, spec_s1 w A q p hs h _ (nx j h.f0) (k + 1) hpq (by omega) hw]
    simp only [spec_l5Hang.l1]
    rw [if_neg (by decide), snocI q h (by simp at hl; omega), List.append_cons q h hs, List.append_cons p _ hs, ih (q ++ [h]) _ (nx (nx j h.f0) h.f1) k (by simp [hpq]) (by simpa using hl) (by omega) (by omega)]
    simp [hang, pt]
theorem impl_s0 (w : List Int) (A q p hs : List R) (n : Int) (X : List R) (h g : R) (j k : Nat) (hpq : q.length = p.length) (hj : nx j h.f0 ≤ w.length) (hw : w.length ≤ 4194304) :
    impl_hungWith.l1 (k + 1) w (j : Int) (q.length : Int) X n (q.length : Int) 0 A (p ++ g :: hs) h.f0 h.f1 = impl_hungWith.l1 k w (nx j h.f0 : Int) (q.length : Int) X n (q.length : Int) 1 A (p ++ (⟨if h.f0 > 0 then rd w j else g.f0, g.f1⟩ : R) :: hs) h.f0 h.f1 := by
  have w1 : wrap64 (0 + 1) = 1 := wrap_id (by omega) (by omega)
  have hr : rd_T58 (p ++ g :: hs) (q.length : Int) = g := by rw [hpq]; exact rdT p hs g
  have hn : ((q.length : Nat) : Int).toNat = p.length := by omega
  simp only [impl_hungWith.l1]
  rw [if_pos (by decide), if_pos trivial, w1]
  unfold nx at hj ⊢
  by_cases c : h.f0 > 0
  · rw [if_pos c] at hj
    rw [if_pos c, if_pos c, if_pos c, if_pos (by omega), if_pos (by omega), if_pos (by omega), if_pos (by simp; omega), hr, hn, set_mid, wrap_id (x := (j : Int) + 1) (by omega) (by omega)]
    rfl
  · rw [if_neg c, if_neg c, if_neg c]
theorem impl_s1 (w : List Int) (A q p hs : List R) (n : Int) (X : List R) (h g : R) (j k : Nat) (hpq : q.length = p.length) (hj : nx j h.f1 ≤ w.length) (hw : w.length ≤ 4194304) :
    impl_hungWith.l1 (k + 1) w (j : Int) (q.length : Int) X n (q.length : Int) 1 A (p ++ g :: hs) h.f0 h.f1 = impl_hungWith.l1 k w (nx j h.f1 : Int) (q.length : Int) X n (q.length : Int) 2 A (p ++ (⟨g.f0, if h.f1 > 0 then rd w j else g.f1⟩ : R) :: hs) h.f0 h.f1 := by
  have w2 : wrap64 (1 + 1) = 2 := wrap_id (by omega) (by omega)
  have hr : rd_T58 (p ++ g :: hs) (q.length : Int) = g := by rw [hpq]; exact rdT p hs g
  have hn : ((q.length : Nat) : Int).toNat = p.length := by omega
  simp only [impl_hungWith.l1]
  rw [if_pos (by decide), if_neg (by decide), if_pos trivial, w2]
  unfold nx at hj ⊢
  by_cases c : h.f1 > 0
  · rw [if_pos c] at hj
    rw [if_pos c, if_pos c, if_pos c, if_pos (by omega), if_pos (by omega), if_pos (by omega), if_pos (by simp; omega), hr, hn, set_mid, wrap_id (x := (j : Int) + 1) (by omega) (by omega)]
    rfl
  · rw [if_neg c, if_neg c, if_neg c]
theorem impl_hang_l0 (w : List Int) (A : List R) (hw : w.length ≤ 4194304) : ∀ (hs q p : List R) (j k : Nat), q.length = p.length → (q ++ hs).length ≤ 1048576 → j + cnt hs ≤ w.length → 4 * hs.length + 4 < k →
    impl_hungWith.l0 k w (j : Int) (q ++ hs) ((q ++ hs).length : Int) (q.length : Int) A (p ++ hs) = some (A, p ++ hang w j hs) := by
  intro hs
  induction hs with
  | nil =>
    intro q p j k hpq hl hc hk
    obtain ⟨k, rfl⟩ : ∃ m, k = m + 1 := ⟨k - 1, by omega⟩
    simp only [impl_hungWith.l0]
    rw [if_neg (by simp)]
    rfl
  | cons h hs ih =>
    intro q p j k hpq hl hc hk
    simp only [List.length_cons] at hk
    simp only [cnt] at hc
    obtain ⟨k, rfl⟩ : ∃ m, k = m + 4 := ⟨k - 4, by omega⟩
    have n1 := nx_add (nx j h.f0) h.f1
    have n2 := nx_add j h.f0
    have n3 := nx_add (nx 0 h.f0) h.f1
    have d0 : 0 ≤ (q.length : Int) := by omega
    have d1 : (q.length : Int) < ((q ++ h :: hs).length : Int) := by simp; omega
    rw [show impl_hungWith.l0 (k + 4) w (j : Int) (q ++ h :: hs) ((q ++ h :: hs).length : Int) (q.length : Int) A (p ++ h :: hs) = impl_hungWith.l1 (k + 3) w (j : Int) (q.length : Int) (q ++ h :: hs) ((q ++ h :: hs).length : Int) (q.length : Int) 0 A (p ++ h :: hs) h.f0 h.f1 from by simp only [impl_hungWith.l0, d0, d1, rdT, if_true]]
    rw [impl_s0 w A q p hs _ _ h h j (k + 2) hpq (by omega) hw, impl_s1 w A q p hs _ _ h _ (nx j h.f0) (k + 1) hpq (by omega) hw]
    simp only [impl_hungWith.l1]
    rw [if_neg (by decide), snocI q h (by simp at hl; omega), List.append_cons q h hs, List.append_cons p _ hs, ih (q ++ [h]) _ (nx (nx j h.f0) h.f1) k (by simp [hpq]) (by simpa using hl) (by omega) (by omega)]
    simp [hang, pt]
theorem l5Hang_eq (w : List Int) (A H : List R) (k : Nat) (hw : w.length ≤ 4194304) (h1 : A.length ≤ 1048576) (h2 : H.length ≤ 1048576) (hc : cnt H ≤ w.length) (hk : 4 * H.length + 4 < k) : spec_l5Hang.f k A H w = some (A, hang w 0 H) := by
  unfold spec_l5Hang.f
  rw [l5Own_eq A H h1 h2, Option.bind_some]
  exact spec_hang_l0 w A hw H [] [] 0 k rfl (by simpa using h2) (by omega) hk
theorem hungWith_eq (w : List Int) (A H : List R) (k : Nat) (hw : w.length ≤ 4194304) (h1 : A.length ≤ 1048576) (h2 : H.length ≤ 1048576) (hc : cnt H ≤ w.length) (hk : 4 * H.length + 4 < k) : impl_hungWith.f k A H w = some (A, hang w 0 H) := by
  unfold impl_hungWith.f
  rw [copy_eq A H h1 h2, Option.bind_some]
  exact impl_hang_l0 w A hw H [] [] 0 k rfl (by simpa using h2) (by omega) hk
/-- What a valid mobile is. -/
structure MOk (A H : List R) : Prop where
  len : 1 ≤ A.length ∧ A.length ≤ 6
  same : H.length = A.length
  arm : ∀ i : Nat, i < A.length → armOk (rd_T58 A i).f0 = true ∧ armOk (rd_T58 A i).f1 = true
  fin : ∀ i : Nat, i < A.length → endOk i A.length (rd_T58 H i).f0 = true ∧ endOk i A.length (rd_T58 H i).f1 = true
theorem rdT_cons (a : R) (us : List R) (i : Nat) : rd_T58 (a :: us) ((i + 1 : Nat) : Int) = rd_T58 us (i : Int) := by
  simp [rd_T58]
theorem rdT_zero (a : R) (us : List R) : rd_T58 (a :: us) ((0 : Nat) : Int) = a := by
  simp [rd_T58]
theorem gI_ok (n : Int) : ∀ (us hs : List R) (i : Int) (B : List Bool), us.length = hs.length → gI n i us hs B = true →
    ∀ j : Nat, j < us.length → (armOk (rd_T58 us j).f0 = true ∧ armOk (rd_T58 us j).f1 = true) ∧ (endOk (i + j) n (rd_T58 hs j).f0 = true ∧ endOk (i + j) n (rd_T58 hs j).f1 = true) := by
  intro us
  induction us with
  | nil => intro hs i B hl h j hj; simp at hj
  | cons a us ih =>
    intro hs i B hl h j hj
    cases hs with
    | nil => simp at hl
    | cons x hs =>
      simp only [gI, Bool.and_eq_true] at h
      cases j with
      | zero =>
        rw [rdT_zero, rdT_zero]
        simp only [Int.natCast_zero, Int.add_zero]
        exact ⟨h.1, see_end h.2.1, see_end h.2.2.1⟩
      | succ j =>
        rw [rdT_cons, rdT_cons]
        have e := ih hs (i + 1) _ (by simpa using hl) h.2.2.2 j (by simpa using hj)
        rw [show i + 1 + (j : Int) = i + ((j + 1 : Nat) : Int) from by omega] at e
        exact e
theorem good_ok {A H : List R} (h : good A H = true) : MOk A H := by
  simp only [good, Bool.and_eq_true, decide_eq_true_eq] at h
  have g := gI_ok (A.length : Int) A H 0 _ h.2.1.symm h.2.2
  exact ⟨by omega, h.2.1, fun i hi => (g i hi).1, fun i hi => by have := (g i hi).2; rw [Int.zero_add] at this; exact this⟩
def tc : List Bool → Nat
  | [] => 0
  | b :: bs => (if b then 1 else 0) + tc bs
theorem tc_set : ∀ (B : List Bool) (j : Nat), j < B.length → B.getD j false = false → tc (B.set j true) = tc B + 1 := by
  intro B
  induction B with
  | nil => intro j h; simp at h
  | cons b bs ih =>
    intro j h h0
    cases j with
    | zero =>
      simp at h0
      subst h0
      simp [tc]
      omega
    | succ j =>
      simp only [List.set_cons_succ, tc]
      rw [ih j (by simpa using h) (by simpa using h0)]
      omega
theorem tc_all : ∀ (B : List Bool), B.all id = true → tc B = B.length := by
  intro B
  induction B with
  | nil => intro _; rfl
  | cons b bs ih =>
    intro h
    simp only [List.all_cons, id, Bool.and_eq_true] at h
    simp only [tc, h.1, if_true, List.length_cons]
    rw [ih h.2]
    omega
theorem tc_rep (n : Nat) : tc (List.replicate n false) = 0 := by
  induction n with
  | zero => rfl
  | succ n ih => simp [List.replicate_succ, tc, ih]
theorem mark_step {i n h : Int} {B : List Bool} (hi : 0 ≤ i) (hn : n = B.length) (hs : seeOk i n B h = true) : (mark B h).headD false = B.headD false ∧ tc (mark B h) + nx 0 h = tc B + 1 := by
  simp only [seeOk, leafOk, Bool.or_eq_true, Bool.and_eq_true, decide_eq_true_eq, Bool.not_eq_true'] at hs
  unfold mark nx
  by_cases h0 : h < 0
  · rw [if_pos h0, if_neg (by omega)]
    rcases hs with hs | hs
    · omega
    · refine ⟨?_, ?_⟩
      · obtain ⟨j, hj⟩ : ∃ j : Nat, (-h).toNat = j + 1 := ⟨(-h).toNat - 1, by omega⟩
        rw [hj]
        cases B <;> simp
      · have e := tc_set B (-h).toNat (by omega) hs.2
        omega
  · rw [if_neg h0, if_pos (by omega)]
    exact ⟨rfl, by omega⟩
theorem gI_cnt (n : Int) : ∀ (us hs : List R) (i : Int) (B : List Bool), us.length = hs.length → gI n i us hs B = true → 0 ≤ i → n = B.length → 1 ≤ n → B.headD false = false → tc B + 2 * us.length + 1 = B.length + cnt hs := by
  intro us
  induction us with
  | nil =>
    intro hs i B hl h hi hn h1 hd
    have : hs = [] := List.eq_nil_of_length_eq_zero (by simpa using hl.symm)
    subst this
    unfold gI at h
    cases B with
    | nil => simp at hn; omega
    | cons b bs =>
      simp at hd
      subst hd
      have e := tc_all bs (by simpa using h)
      simp [tc, cnt, e]
  | cons a us ih =>
    intro hs i B hl h hi hn h1 hd
    cases hs with
    | nil => simp at hl
    | cons x hs =>
      simp only [gI, Bool.and_eq_true] at h
      obtain ⟨_, s0, s1, g⟩ := h
      obtain ⟨a1, a2⟩ := mark_step hi hn s0
      have hn2 : n = (mark B x.f0).length := by rw [mark_length]; exact hn
      obtain ⟨b1, b2⟩ := mark_step hi hn2 s1
      have e := ih hs (i + 1) _ (by simpa using hl) g (by omega) (by rw [mark_length]; exact hn2) h1 (by rw [b1, a1]; exact hd)
      rw [mark_length, mark_length] at e
      have n1 := nx_add (nx 0 x.f0) x.f1
      simp only [cnt, List.length_cons]
      omega
theorem good_cnt {A H : List R} (h : good A H = true) : cnt H = A.length + 1 := by
  have ok := good_ok h
  have o1 := ok.len
  have o2 := ok.same
  simp only [good, Bool.and_eq_true, decide_eq_true_eq] at h
  have e := gI_cnt (A.length : Int) A H 0 _ h.2.1.symm h.2.2 (by omega) (by simp) (by omega) (by
    obtain ⟨m, hm⟩ : ∃ m, A.length = m + 1 := ⟨A.length - 1, by omega⟩
    rw [hm]
    simp [List.replicate_succ])
  rw [tc_rep, List.length_replicate] at e
  omega
theorem pt_see {i n h : Int} {B : List Bool} {w : List Int} {j : Nat} (hs : seeOk i n B h = true) (hw : ∀ x ∈ w, leafOk x = true) (hj : nx j h ≤ w.length) : seeOk i n B (pt w j h) = true ∧ mark B (pt w j h) = mark B h := by
  unfold pt
  unfold nx at hj
  by_cases c : h > 0
  · rw [if_pos c] at hj
    rw [if_pos c]
    have hm : rd w (j : Int) ∈ w := by
      simp only [rd, Int.toNat_natCast]
      rw [List.getD_eq_getElem?_getD, List.getElem?_eq_getElem (by omega)]
      exact List.getElem_mem _
    have hl := hw _ hm
    have hl2 := hl
    simp only [leafOk, decide_eq_true_eq] at hl2
    refine ⟨by simp only [seeOk, hl, Bool.true_or], ?_⟩
    unfold mark
    rw [if_neg (by omega), if_neg (by omega)]
  · rw [if_neg c]
    exact ⟨hs, rfl⟩
theorem gI_hang (n : Int) (w : List Int) (hw : ∀ x ∈ w, leafOk x = true) : ∀ (us hs : List R) (i : Int) (B : List Bool) (j : Nat), j + cnt hs ≤ w.length → gI n i us hs B = true → gI n i us (hang w j hs) B = true := by
  intro us
  induction us with
  | nil =>
    intro hs i B j hj h
    unfold gI at h ⊢
    exact h
  | cons a us ih =>
    intro hs i B j hj h
    cases hs with
    | nil => exact h
    | cons x hs =>
      simp only [cnt] at hj
      have n1 := nx_add (nx j x.f0) x.f1
      have n2 := nx_add j x.f0
      have n3 := nx_add (nx 0 x.f0) x.f1
      simp only [gI, Bool.and_eq_true] at h
      obtain ⟨s, s0, s1, g⟩ := h
      obtain ⟨p0, m0⟩ := pt_see s0 hw (j := j) (by omega)
      obtain ⟨p1, m1⟩ := pt_see s1 hw (j := nx j x.f0) (by omega)
      simp only [hang, gI, Bool.and_eq_true]
      rw [m0, m1]
      exact ⟨s, p0, p1, ih hs (i + 1) _ _ (by omega) g⟩
theorem good_hang {A H : List R} {w : List Int} (h : good A H = true) (hw : ∀ x ∈ w, leafOk x = true) (hc : cnt H ≤ w.length) : good A (hang w 0 H) = true := by
  simp only [good, Bool.and_eq_true, decide_eq_true_eq] at h ⊢
  refine ⟨h.1, by rw [hang_length]; exact h.2.1, gI_hang _ w hw A H 0 _ 0 (by omega) h.2.2⟩
def up (X : List Int) (h : Int) : List Int := if h > 0 then X ++ [h] else X
def leaves (X : List Int) : List R → List Int
  | [] => X
  | h :: hs => leaves (up (up X h.f0) h.f1) hs
theorem up_length (X : List Int) (h : Int) : (up X h).length ≤ X.length + 1 := by
  unfold up
  split <;> simp
theorem leaves_length : ∀ (hs : List R) (X : List Int), (leaves X hs).length ≤ X.length + 2 * hs.length := by
  intro hs
  induction hs with
  | nil => intro X; simp [leaves]
  | cons h hs ih =>
    intro X
    have e := ih (up (up X h.f0) h.f1)
    have e1 := up_length X h.f0
    have e2 := up_length (up X h.f0) h.f1
    simp only [leaves, List.length_cons]
    omega
theorem leaves_impl_l0 : ∀ (hs q : List R) (X : List Int) (k : Nat), (q ++ hs).length ≤ 1048576 → X.length + 2 * hs.length ≤ 4194304 → 4 * hs.length + 4 < k →
    impl_leavesOf.l0 k X (q ++ hs) ((q ++ hs).length : Int) (q.length : Int) = some (leaves X hs) := by
  intro hs
  induction hs with
  | nil =>
    intro q X k hl hX hk
    obtain ⟨k, rfl⟩ : ∃ m, k = m + 1 := ⟨k - 1, by omega⟩
    simp only [impl_leavesOf.l0]
    rw [if_neg (by simp)]
    rfl
  | cons h hs ih =>
    intro q X k hl hX hk
    simp only [List.length_cons] at hX hk
    obtain ⟨k, rfl⟩ : ∃ m, k = m + 4 := ⟨k - 4, by omega⟩
    have w1 : wrap64 (0 + 1) = 1 := wrap_id (by omega) (by omega)
    have w2 : wrap64 (1 + 1) = 2 := wrap_id (by omega) (by omega)
    have d0 : 0 ≤ (q.length : Int) := by omega
    have d1 : (q.length : Int) < ((q ++ h :: hs).length : Int) := by simp; omega
    have q1 : ¬ ((1 : Int) = 0) := by omega
    have x0 : X.length < 17592186044416 := by omega
    have u := up_length X h.f0
    have u1 := up_length (up X h.f0) h.f1
    have x1 : (up X h.f0).length < 17592186044416 := by omega
    rw [show impl_leavesOf.l0 (k + 4) X (q ++ h :: hs) ((q ++ h :: hs).length : Int) (q.length : Int) = impl_leavesOf.l1 (k + 3) X (q ++ h :: hs) ((q ++ h :: hs).length : Int) (q.length : Int) 0 h.f0 h.f1 from by simp only [impl_leavesOf.l0, d0, d1, rdT, if_true]]
    generalize hn : ((q ++ h :: hs).length : Int) = n
    rw [show impl_leavesOf.l1 (k + 3) X (q ++ h :: hs) n (q.length : Int) 0 h.f0 h.f1 = impl_leavesOf.l1 (k + 2) (up X h.f0) (q ++ h :: hs) n (q.length : Int) 1 h.f0 h.f1 from by
      by_cases c : h.f0 > 0 <;> simp only [impl_leavesOf.l1, w1, x0, c, up, if_true, if_false, Int.reduceLT]]
    rw [show impl_leavesOf.l1 (k + 2) (up X h.f0) (q ++ h :: hs) n (q.length : Int) 1 h.f0 h.f1 = impl_leavesOf.l1 (k + 1) (up (up X h.f0) h.f1) (q ++ h :: hs) n (q.length : Int) 2 h.f0 h.f1 from by
      generalize up X h.f0 = Y at x1
      by_cases c : h.f1 > 0 <;> simp only [impl_leavesOf.l1, w2, q1, x1, c, up, if_true, if_false, Int.reduceLT]]
    rw [show impl_leavesOf.l1 (k + 1) (up (up X h.f0) h.f1) (q ++ h :: hs) n (q.length : Int) 2 h.f0 h.f1 = impl_leavesOf.l0 k (up (up X h.f0) h.f1) (q ++ h :: hs) n (wrap64 ((q.length : Int) + 1)) from by simp only [impl_leavesOf.l1, if_false, Int.reduceLT]]
    subst hn
    rw [snocI q h (by simp at hl; omega), List.append_cons q h hs, ih (q ++ [h]) _ k (by simpa using hl) (by omega) (by omega)]
    rfl
theorem up_cnt (X : List Int) (h : Int) : (up X h).length = nx X.length h := by
  unfold up nx
  split <;> simp
theorem leaves_cnt : ∀ (hs : List R) (X : List Int), (leaves X hs).length = X.length + cnt hs := by
  intro hs
  induction hs with
  | nil => intro X; rfl
  | cons h hs ih =>
    intro X
    simp only [leaves, cnt]
    rw [ih, up_cnt, up_cnt]
    have n1 := nx_add (nx X.length h.f0) h.f1
    have n2 := nx_add X.length h.f0
    have n3 := nx_add (nx 0 h.f0) h.f1
    omega
theorem leavesOf_eq (A H : List R) (k : Nat) (h2 : H.length ≤ 1048576) (hk : 4 * H.length + 4 < k) : impl_leavesOf.f k A H = some (leaves [] H) := by
  unfold impl_leavesOf.f
  exact leaves_impl_l0 H [] [] k (by simpa using h2) (by simp; omega) hk
theorem rdI (p s : List Int) (x : Int) : rd (p ++ x :: s) ((p.length : Int)) = x := by
  simp [rd]
theorem eqIntS_l0 : ∀ (s p : List Int) (k : Nat), (p ++ s).length < 4611686018427387904 → s.length < k → laws_eqIntS.l0 k (p ++ s) (p ++ s) (p.length : Int) = some true := by
  intro s
  induction s with
  | nil =>
    intro p k hl hk
    obtain ⟨k, rfl⟩ : ∃ m, k = m + 1 := ⟨k - 1, by simp at hk; omega⟩
    simp only [laws_eqIntS.l0]
    rw [if_neg (by simp)]
  | cons x s ih =>
    intro p k hl hk
    obtain ⟨k, rfl⟩ : ∃ m, k = m + 1 := ⟨k - 1, by simp at hk; omega⟩
    simp only [laws_eqIntS.l0]
    rw [if_pos (by simp; omega), if_pos (by omega), if_pos (by simp; omega), if_pos trivial, snocI p x (by simp at hl; omega)]
    have e := ih (p ++ [x]) k (by simpa using hl) (by simp at hk; omega)
    rw [List.append_assoc] at e
    exact e
theorem eqIntS_refl (l : List Int) (k : Nat) (hl : l.length < 4611686018427387904) (hk : l.length < k) : laws_eqIntS.f k l l = some true := by
  unfold laws_eqIntS.f
  rw [if_pos rfl]
  exact eqIntS_l0 l [] k (by simpa using hl) hk
def seqI : Int → Nat → List Int
  | _, 0 => []
  | m, n + 1 => m :: seqI (m + 1) n
theorem markIntS_l0 : ∀ (s p : List Int) (m : Int) (k : Nat), (p ++ s).length < 1073741824 → 0 ≤ m → m + s.length < 4294967296 → s.length < k →
    laws_markIntS.l0 k (p ++ s) m (p.length : Int) = some (m + s.length, p ++ seqI m s.length) := by
  intro s
  induction s with
  | nil =>
    intro p m k hl h0 h1 hk
    obtain ⟨k, rfl⟩ : ∃ j, k = j + 1 := ⟨k - 1, by simp at hk; omega⟩
    simp only [laws_markIntS.l0]
    rw [if_neg (by simp)]
    simp [seqI]
  | cons x s ih =>
    intro p m k hl h0 h1 hk
    obtain ⟨k, rfl⟩ : ∃ j, k = j + 1 := ⟨k - 1, by simp at hk; omega⟩
    simp only [laws_markIntS.l0]
    simp only [List.length_cons, Int.natCast_add, Int.natCast_one, List.length_append] at h1 hl hk
    rw [if_pos (by simp; omega), if_pos (by omega)]
    simp only [Int.toNat_natCast, List.set_append_right _ _ (Nat.le_refl _), Nat.sub_self, List.set_cons_zero]
    rw [snocI p x (by omega), wrap_id (x := m + 1) (by omega) (by omega), List.append_cons]
    rw [show ((p ++ [x]).length : Int) = ((p ++ [m]).length : Int) from by simp]
    rw [ih (p ++ [m]) (m + 1) k (by simp; omega) (by omega) (by omega) (by omega)]
    simp [seqI]
    omega
theorem markIntS_eq (l : List Int) (m : Int) (k : Nat) (hl : l.length < 1073741824) (h0 : 0 ≤ m) (h1 : m + l.length < 4294967296) (hk : l.length < k) : laws_markIntS.f k l m = some (m + l.length, seqI m l.length) :=
  markIntS_l0 l [] m k (by simpa using hl) h0 h1 hk
theorem toIntS_l0 : ∀ (s p q : List Int) (k : Nat), p.length = q.length → (p ++ s).length < 4611686018427387904 → s.length < k →
    laws_toIntS.l0 k (p ++ s) (q ++ List.replicate s.length 0) (p.length : Int) = some (q ++ s) := by
  intro s
  induction s with
  | nil =>
    intro p q k hpq hl hk
    obtain ⟨k, rfl⟩ : ∃ m, k = m + 1 := ⟨k - 1, by simp at hk; omega⟩
    simp only [laws_toIntS.l0]
    rw [if_neg (by simp)]
    simp
  | cons x s ih =>
    intro p q k hpq hl hk
    obtain ⟨k, rfl⟩ : ∃ m, k = m + 1 := ⟨k - 1, by simp at hk; omega⟩
    simp only [laws_toIntS.l0]
    rw [if_pos (by simp; omega), if_pos (by omega), if_pos (by simp; omega), rdI, snocI p x (by simp at hl; omega)]
    rw [show (((p.length : Nat) : Int)).toNat = q.length from by omega, List.length_cons, set_rep, List.append_cons p x s, ih (p ++ [x]) _ k (by simp [hpq]) (by simpa using hl) (by simp at hk; omega)]
    simp
theorem toIntS_eq (l : List Int) (k : Nat) (hl : l.length ≤ 1048576) (hk : l.length < k) : laws_toIntS.f k l = some l := by
  unfold laws_toIntS.f
  rw [if_pos (by omega), if_pos (by omega)]
  exact toIntS_l0 l [] [] k rfl (by simp; omega) hk
def wR (x : R) : Prop := ((Lit.int .i64 x.f0).wf = true) ∧ ((Lit.int .i64 x.f1).wf = true)
theorem wfR_of {l : List R} (h : ∀ x ∈ l, ((Lit.int .i64 x.f0).wf = true) ∧ ((Lit.int .i64 x.f1).wf = true)) : WfR l := fun x hx => ⟨wf64 (h x hx).1, wf64 (h x hx).2⟩
theorem toIntA2_eq (k : Nat) (a b : Int) (hk : 3 ≤ k) : laws_toIntA2.f k a b = some (a, b) := by
  obtain ⟨k, rfl⟩ : ∃ m, k = m + 3 := ⟨k - 3, by omega⟩
  have w1 : wrap64 (0 + 1) = 1 := wrap_id (by omega) (by omega)
  have w2 : wrap64 (1 + 1) = 2 := wrap_id (by omega) (by omega)
  unfold laws_toIntA2.f
  simp only [laws_toIntA2.l0, w1, w2]
  simp
theorem eqIntA2_refl (k : Nat) (a b : Int) (hk : 3 ≤ k) : laws_eqIntA2.f k a b a b = some true := by
  obtain ⟨k, rfl⟩ : ∃ m, k = m + 3 := ⟨k - 3, by omega⟩
  have w1 : wrap64 (0 + 1) = 1 := wrap_id (by omega) (by omega)
  have w2 : wrap64 (1 + 1) = 2 := wrap_id (by omega) (by omega)
  unfold laws_eqIntA2.f
  simp only [laws_eqIntA2.l0, w1, w2]
  simp
theorem toIntA2S_l0 : ∀ (s p q : List R) (k : Nat), p.length = q.length → (p ++ s).length < 4611686018427387904 → s.length + 4 < k →
    laws_toIntA2S.l0 k (p ++ s) (q ++ List.replicate s.length z58) (p.length : Int) = some (q ++ s) := by
  intro s
  induction s with
  | nil =>
    intro p q k hpq hl hk
    obtain ⟨k, rfl⟩ : ∃ m, k = m + 1 := ⟨k - 1, by simp at hk; omega⟩
    simp only [laws_toIntA2S.l0]
    rw [if_neg (by simp)]
    simp
  | cons x s ih =>
    intro p q k hpq hl hk
    obtain ⟨k, rfl⟩ : ∃ m, k = m + 1 := ⟨k - 1, by simp at hk; omega⟩
    simp only [laws_toIntA2S.l0]
    rw [if_pos (by simp; omega), if_pos (by omega), toIntA2_eq k _ _ (by simp at hk; omega), Option.bind_some, if_pos (by simp; omega), rdT, snocI p x (by simp at hl; omega)]
    rw [show (((p.length : Nat) : Int)).toNat = q.length from by omega, List.length_cons, set_rep, List.append_cons p x s, ih (p ++ [x]) _ k (by simp [hpq]) (by simpa using hl) (by simp at hk; omega)]
    simp
theorem toIntA2S_eq (l : List R) (k : Nat) (hl : l.length ≤ 1048576) (hk : l.length + 4 < k) : laws_toIntA2S.f k l = some l := by
  unfold laws_toIntA2S.f
  rw [if_pos (by omega), if_pos (by omega)]
  exact toIntA2S_l0 l [] [] k rfl (by simp; omega) hk
theorem toMobile_eq (k : Nat) (A H : List R) (h1 : A.length ≤ 1048576) (h2 : H.length ≤ 1048576) (hk : A.length + 4 < k) (hk2 : H.length + 4 < k) : laws_toMobile.f k A H = some (A, H) := by
  unfold laws_toMobile.f
  rw [toIntA2S_eq A k h1 hk, toIntA2S_eq H k h2 hk2]
  rfl
theorem eqIntA2S_l0 : ∀ (s p : List R) (k : Nat), (p ++ s).length < 4611686018427387904 → s.length + 4 < k → laws_eqIntA2S.l0 k (p ++ s) (p ++ s) (p.length : Int) = some true := by
  intro s
  induction s with
  | nil =>
    intro p k hl hk
    obtain ⟨k, rfl⟩ : ∃ m, k = m + 1 := ⟨k - 1, by simp at hk; omega⟩
    simp only [laws_eqIntA2S.l0]
    rw [if_neg (by simp)]
  | cons x s ih =>
    intro p k hl hk
    obtain ⟨k, rfl⟩ : ∃ m, k = m + 1 := ⟨k - 1, by simp at hk; omega⟩
    simp only [laws_eqIntA2S.l0]
    rw [if_pos (by simp; omega), if_pos (by omega), if_pos (by simp; omega), rdT, eqIntA2_refl k _ _ (by simp at hk; omega), Option.bind_some, if_pos rfl, snocI p x (by simp at hl; omega)]
    have e := ih (p ++ [x]) k (by simpa using hl) (by simp at hk; omega)
    rw [List.append_assoc] at e
    exact e
theorem eqIntA2S_refl (l : List R) (k : Nat) (hl : l.length < 4611686018427387904) (hk : l.length + 4 < k) : laws_eqIntA2S.f k l l = some true := by
  unfold laws_eqIntA2S.f
  rw [if_pos rfl]
  exact eqIntA2S_l0 l [] k (by simpa using hl) hk
theorem eqMobile_refl (k : Nat) (A H : List R) (h1 : A.length < 4611686018427387904) (h2 : H.length < 4611686018427387904) (hk : A.length + 4 < k) (hk2 : H.length + 4 < k) : laws_eqMobile.f k A H A H = some true := by
  unfold laws_eqMobile.f
  rw [eqIntA2S_refl A k h1 hk, Option.bind_some, if_pos rfl, eqIntA2S_refl H k h2 hk2]
  rfl
theorem szMobile_eq (A H : List R) (h1 : A.length ≤ 9223372036854775807) (h2 : H.length ≤ 9223372036854775807) :
    laws_szMobile.f A H 1048576 = some (if A.length + H.length ≤ 1048576 then 1048576 - (A.length : Int) - (H.length : Int) else -1) := by
  unfold laws_szMobile.f laws_szIntA2S.f
  rw [sz_id _ h1]
  by_cases c1 : 1048576 < A.length
  · rw [if_pos (by omega), Option.bind_some, if_pos (by decide), if_neg (by omega)]
  · rw [if_neg (by omega), Option.bind_some, if_neg (by omega), wrap_id (x := 1048576 - (A.length : Int) - (H.length : Int)) (by omega) (by omega)]
    by_cases c2 : A.length + H.length ≤ 1048576
    · rw [if_neg (by omega), Option.bind_some, if_neg (by omega), if_pos c2]
    · rw [if_pos (by omega), Option.bind_some, if_pos (by decide), if_neg c2]
theorem T_set_len (l : List R) (i : Nat) (x : R) : (l.set i x).length = l.length := by simp
/-- The marks of rows of pairs: from x on, two a row. -/
def seqT : Int → Nat → List R
  | _, 0 => []
  | x, n + 1 => ⟨x, x + 1⟩ :: seqT (x + 2) n
theorem seqT_length : ∀ (n : Nat) (x : Int), (seqT x n).length = n := by
  intro n
  induction n with
  | zero => intro x; rfl
  | succ n ih => intro x; simp [seqT, ih]
theorem mark_l0 : ∀ (s p : List R) (x : Int) (k : Nat), (p ++ s).length < 4611686018427387904 → 0 ≤ x → x + 2 * s.length < 4611686018427387904 → 4 * s.length + 4 < k →
    laws_markIntA2S.l0 k (p ++ s) x (p.length : Int) = some (x + 2 * (s.length : Int), p ++ seqT x s.length) := by
  intro s
  induction s with
  | nil =>
    intro p x k hl h0 h1 hk
    obtain ⟨k, rfl⟩ : ∃ m, k = m + 1 := ⟨k - 1, by omega⟩
    simp only [laws_markIntA2S.l0]
    rw [if_neg (by simp)]
    simp [seqT]
  | cons y s ih =>
    intro p x k hl h0 h1 hk
    simp only [List.length_cons, Int.natCast_add, Int.natCast_one] at h1 hk
    obtain ⟨k, rfl⟩ : ∃ m, k = m + 4 := ⟨k - 4, by omega⟩
    have w1 : wrap64 (0 + 1) = 1 := wrap_id (by omega) (by omega)
    have w2 : wrap64 (1 + 1) = 2 := wrap_id (by omega) (by omega)
    have x1 := wrap_id (x := x + 1) (by omega) (by omega)
    have x2 := wrap_id (x := x + 1 + 1) (by omega) (by omega)
    have d0 : 0 ≤ (p.length : Int) := by omega
    have q : ¬ ((1 : Int) = 0) := by omega
    have d1 : (p.length : Int) < ((p ++ y :: s).length : Int) := by simp; omega
    have s1 : ∀ z : R, (p ++ y :: s).set ((p.length : Int)).toNat z = p ++ z :: s := fun z => by rw [Int.toNat_natCast, List.set_append_right _ _ (Nat.le_refl _), Nat.sub_self]; rfl
    have d2 : ∀ z : R, (p.length : Int) < ((p ++ z :: s).length : Int) := fun z => by simp; omega
    have s2 : ∀ z z2 : R, (p ++ z :: s).set ((p.length : Int)).toNat z2 = p ++ z2 :: s := fun z z2 => by rw [Int.toNat_natCast, List.set_append_right _ _ (Nat.le_refl _), Nat.sub_self]; rfl
    simp only [laws_markIntA2S.l0, d1, if_true]
    rw [show laws_markIntA2S.l1 (k + 3) (p ++ y :: s) x (p.length : Int) 0 = laws_markIntA2S.l1 (k + 2) (p ++ ⟨x, y.f1⟩ :: s) (x + 1) (p.length : Int) 1 from by simp only [laws_markIntA2S.l1, d0, d1, s1, rdT, w1, x1, if_true, Int.reduceLT]]
    rw [show laws_markIntA2S.l1 (k + 2) (p ++ ⟨x, y.f1⟩ :: s) (x + 1) (p.length : Int) 1 = laws_markIntA2S.l1 (k + 1) (p ++ ⟨x, x + 1⟩ :: s) (x + 1 + 1) (p.length : Int) 2 from by simp only [laws_markIntA2S.l1, d0, d2, s2, rdT, w2, x2, q, if_true, if_false, Int.reduceLT]]
    rw [show laws_markIntA2S.l1 (k + 1) (p ++ ⟨x, x + 1⟩ :: s) (x + 1 + 1) (p.length : Int) 2 = laws_markIntA2S.l0 k (p ++ ⟨x, x + 1⟩ :: s) (x + 1 + 1) (wrap64 ((p.length : Int) + 1)) from by simp only [laws_markIntA2S.l1, if_false, Int.reduceLT]]
    rw [snocI p (⟨x, x + 1⟩ : R) (by simp at hl; omega), List.append_cons p (⟨x, x + 1⟩ : R) s, ih (p ++ [(⟨x, x + 1⟩ : R)]) (x + 1 + 1) k (by simpa using hl) (by omega) (by omega) (by omega)]
    congr 1
    rw [show x + 1 + 1 = x + 2 from by omega]
    simp [seqT]
    omega
theorem markIntA2S_eq (l : List R) (x : Int) (k : Nat) (hl : l.length < 4611686018427387904) (h0 : 0 ≤ x) (h1 : x + 2 * l.length < 4611686018427387904) (hk : 4 * l.length + 4 < k) : laws_markIntA2S.f k l x = some (x + 2 * (l.length : Int), seqT x l.length) := by
  unfold laws_markIntA2S.f
  exact mark_l0 l [] x k hl h0 h1 hk
theorem markMobile_eq (A H : List R) (k : Nat) (hb : A.length + H.length ≤ 1048576) (hk : 4 * A.length + 4 < k) (hk2 : 4 * H.length + 4 < k) : laws_markMobile.f k A H 1 = some (1 + 2 * (A.length : Int) + 2 * (H.length : Int), seqT 1 A.length, seqT (1 + 2 * (A.length : Int)) H.length) := by
  unfold laws_markMobile.f
  rw [markIntA2S_eq A 1 k (by omega) (by omega) (by omega) hk, Option.bind_some, markIntA2S_eq H _ k (by omega) (by omega) (by omega) hk2]
  rfl
theorem markMobile_some (A H : List R) (hb : A.length + H.length ≤ 1048576) : ∃ M : Int × List R × List R, ¬ M.1 < 0 ∧ ∀ k, 10 + 4 * A.length + 4 * H.length < k → laws_markMobile.f k A H 1 = some M :=
  ⟨(1 + 2 * (A.length : Int) + 2 * (H.length : Int), seqT 1 A.length, seqT (1 + 2 * (A.length : Int)) H.length), by simp only; omega, fun k hk => markMobile_eq A H k hb (by omega) (by omega)⟩
theorem held_l0 : ∀ (n : Nat) (p : List R) (x : Int) (k : Nat), p.length + n < 4611686018427387904 → 0 ≤ x → x + 2 * n < 4611686018427387904 → 4 * n + 4 < k →
    laws_heldIntA2S.l0 k (p ++ seqT x n) x (p.length : Int) = some (x + 2 * (n : Int)) := by
  intro n
  induction n with
  | zero =>
    intro p x k hl h0 h1 hk
    obtain ⟨k, rfl⟩ : ∃ m, k = m + 1 := ⟨k - 1, by omega⟩
    simp only [laws_heldIntA2S.l0]
    rw [if_neg (by simp [seqT])]
    simp
  | succ n ih =>
    intro p x k hl h0 h1 hk
    simp only [Int.natCast_add, Int.natCast_one] at h1
    obtain ⟨k, rfl⟩ : ∃ m, k = m + 4 := ⟨k - 4, by omega⟩
    have w1 : wrap64 (0 + 1) = 1 := wrap_id (by omega) (by omega)
    have w2 : wrap64 (1 + 1) = 2 := wrap_id (by omega) (by omega)
    have x1 := wrap_id (x := x + 1) (by omega) (by omega)
    have x2 := wrap_id (x := x + 1 + 1) (by omega) (by omega)
    have d0 : 0 ≤ (p.length : Int) := by omega
    have q : ¬ ((1 : Int) = 0) := by omega
    simp only [seqT]
    have hr := rdT p (seqT (x + 2) n) (⟨x, x + 1⟩ : R)
    have d1 : (p.length : Int) < ((p ++ (⟨x, x + 1⟩ : R) :: seqT (x + 2) n).length : Int) := by simp; omega
    rw [show laws_heldIntA2S.l0 (k + 4) (p ++ (⟨x, x + 1⟩ : R) :: seqT (x + 2) n) x (p.length : Int) = laws_heldIntA2S.l1 (k + 3) (p ++ (⟨x, x + 1⟩ : R) :: seqT (x + 2) n) x (p.length : Int) 0 from by simp only [laws_heldIntA2S.l0, d1, if_true]]
    rw [show laws_heldIntA2S.l1 (k + 3) (p ++ (⟨x, x + 1⟩ : R) :: seqT (x + 2) n) x (p.length : Int) 0 = laws_heldIntA2S.l1 (k + 2) (p ++ (⟨x, x + 1⟩ : R) :: seqT (x + 2) n) (x + 1) (p.length : Int) 1 from by simp only [laws_heldIntA2S.l1, d0, d1, hr, w1, x1, if_true, Int.reduceLT]]
    rw [show laws_heldIntA2S.l1 (k + 2) (p ++ (⟨x, x + 1⟩ : R) :: seqT (x + 2) n) (x + 1) (p.length : Int) 1 = laws_heldIntA2S.l1 (k + 1) (p ++ (⟨x, x + 1⟩ : R) :: seqT (x + 2) n) (x + 1 + 1) (p.length : Int) 2 from by simp only [laws_heldIntA2S.l1, d0, d1, hr, w2, x2, q, if_true, if_false, Int.reduceLT]]
    rw [show laws_heldIntA2S.l1 (k + 1) (p ++ (⟨x, x + 1⟩ : R) :: seqT (x + 2) n) (x + 1 + 1) (p.length : Int) 2 = laws_heldIntA2S.l0 k (p ++ (⟨x, x + 1⟩ : R) :: seqT (x + 2) n) (x + 1 + 1) (wrap64 ((p.length : Int) + 1)) from by simp only [laws_heldIntA2S.l1, if_false, Int.reduceLT]]
    rw [snocI p (⟨x, x + 1⟩ : R) (by omega), List.append_cons p (⟨x, x + 1⟩ : R) _, show x + 1 + 1 = x + 2 from by omega, ih (p ++ [(⟨x, x + 1⟩ : R)]) (x + 2) k (by simp; omega) (by omega) (by omega) (by omega)]
    congr 1
    omega
theorem heldIntA2S_eq (n : Nat) (x : Int) (k : Nat) (hl : n < 4611686018427387904) (h0 : 0 ≤ x) (h1 : x + 2 * n < 4611686018427387904) (hk : 4 * n + 4 < k) : laws_heldIntA2S.f k (seqT x n) x = some (x + 2 * (n : Int)) := by
  unfold laws_heldIntA2S.f
  exact held_l0 n [] x k (by simpa using hl) h0 h1 hk
theorem heldMobile_eq (n m : Nat) (k : Nat) (hb : n + m ≤ 1048576) (hk : 4 * n + 4 < k) (hk2 : 4 * m + 4 < k) : laws_heldMobile.f k (seqT 1 n) (seqT (1 + 2 * (n : Int)) m) 1 = some (1 + 2 * (n : Int) + 2 * (m : Int)) := by
  unfold laws_heldMobile.f
  rw [heldIntA2S_eq n 1 k (by omega) (by omega) (by omega) hk, Option.bind_some, if_neg (by omega), heldIntA2S_eq m _ k (by omega) (by omega) (by omega) hk2, Option.bind_some, if_neg (by omega)]
theorem bne_refl (b : Bool) : (b != b) = false := by cases b <;> rfl
theorem are_l0 (n : Int) : ∀ (s p : List Int) (k : Nat), (p ++ s).length < 4611686018427387904 → s.length < k → spec_l5Are.l0 k (p ++ s) n (p.length : Int) = some (s.all leafOk && (((p ++ s).length : Int) == n)) := by
  intro s
  induction s with
  | nil =>
    intro p k hl hk
    obtain ⟨k, rfl⟩ : ∃ m, k = m + 1 := ⟨k - 1, by simp at hk; omega⟩
    simp only [spec_l5Are.l0]
    rw [if_neg (by simp)]
    simp
  | cons x s ih =>
    intro p k hl hk
    obtain ⟨k, rfl⟩ : ∃ m, k = m + 1 := ⟨k - 1, by simp at hk; omega⟩
    simp only [spec_l5Are.l0]
    rw [if_pos (by simp; omega), if_pos (by omega), rdI, l1In_eq, Option.bind_some]
    by_cases hx : 1 ≤ x ∧ x ≤ 99
    · rw [decide_eq_true hx, if_pos rfl, snocI p x (by simp at hl; omega), List.append_cons p x s, ih (p ++ [x]) k (by simpa using hl) (by simp at hk; omega)]
      simp [leafOk, hx]
    · rw [decide_eq_false hx, if_neg (by decide)]
      simp [leafOk, hx]
theorem index_l0 : ∀ (s p : List Int) (k : Nat), (p ++ s).length < 4611686018427387904 → s.length < k → ∃ r, slices_IndexFunc_int_int.l0 k (p ++ s) ((p ++ s).length : Int) (p.length : Int) = some r ∧ decide (r ≥ 0) = !(s.all leafOk) := by
  intro s
  induction s with
  | nil =>
    intro p k hl hk
    obtain ⟨k, rfl⟩ : ∃ m, k = m + 1 := ⟨k - 1, by simp at hk; omega⟩
    simp only [slices_IndexFunc_int_int.l0]
    rw [if_neg (by simp)]
    exact ⟨-1, rfl, by simp⟩
  | cons x s ih =>
    intro p k hl hk
    obtain ⟨k, rfl⟩ : ∃ m, k = m + 1 := ⟨k - 1, by simp at hk; omega⟩
    simp only [slices_IndexFunc_int_int.l0, impl_HangLeaves_1.f, isLeaf_eq]
    rw [if_pos (by simp; omega), if_pos (by omega), if_pos (by simp; omega), rdI, Option.bind_some, Option.bind_some]
    by_cases hx : leafOk x = true
    · rw [hx, if_neg (by decide), snocI p x (by simp at hl; omega), List.append_cons p x s]
      obtain ⟨r, h1, h2⟩ := ih (p ++ [x]) k (by simpa using hl) (by simp at hk; omega)
      exact ⟨r, h1, by rw [h2]; simp [hx]⟩
    · rw [Bool.not_eq_true] at hx
      rw [hx, if_pos (by decide)]
      exact ⟨_, rfl, by simp [hx]⟩
theorem contains_eq (T : List Int) (k : Nat) (hl : T.length ≤ 1048576) (hk : T.length < k) : slices_ContainsFunc_int_int.f k T = some (!(T.all leafOk)) := by
  unfold slices_ContainsFunc_int_int.f slices_IndexFunc_int_int.f
  obtain ⟨r, h1, h2⟩ := index_l0 T [] k (by simp; omega) hk
  have h3 : slices_IndexFunc_int_int.l0 k T (T.length : Int) 0 = some r := h1
  rw [h3, Option.bind_some, h2]
theorem both (A H : List R) (w : List Int) (hb : A.length + H.length ≤ 1048576) (hwl : w.length ≤ 1048576) (hw : WfR H) : ∃ r : List R × List R × Bool, r.1.length ≤ 100 ∧ r.2.1.length ≤ 100 ∧ ∀ k, 1000 + 3 * A.length + 3 * H.length + 3 * w.length ≤ k → spec_HangLeaves.f k A H w = some r ∧ impl_HangLeaves.f k A H w = some r := by
  by_cases h : good A H = true
  · have ok := good_ok h
    have o1 := ok.len
    have o2 := ok.same
    have hc := good_cnt h
    have hlv := leaves_cnt H []
    simp only [List.length_nil, Nat.zero_add] at hlv
    have n1 : wrap64 ((A.length : Int) + 1) = (A.length : Int) + 1 := wrap_id (by omega) (by omega)
    have ar : ∀ k, w.length < k → spec_l5Are.f k w ((A.length : Int) + 1) = some (w.all leafOk && ((w.length : Int) == (A.length : Int) + 1)) := fun k hk => by
      unfold spec_l5Are.f
      exact are_l0 _ w [] k (by simp; omega) hk
    by_cases hl : w.length = A.length + 1
    · have hl2 : (((leaves [] H).length : Int) = (w.length : Int)) := by omega
      have hl3 : (((w.length : Nat) : Int) == (A.length : Int) + 1) = true := by simp; omega
      by_cases hx : w.all leafOk = true
      · have hm : ∀ x ∈ w, leafOk x = true := fun x hx2 => List.all_eq_true.1 hx x hx2
        have g := good_hang h hm (by omega)
        refine ⟨(A, hang w 0 H, true), by simp only; omega, by simp only [hang_length]; omega, fun k hk => ?_⟩
        obtain ⟨k, rfl⟩ : ∃ m, k = m + 1 := ⟨k - 1, by omega⟩
        simp (disch := omega) only [spec_HangLeaves.f, impl_HangLeaves.f, impl_HangLeaves.j0, impl_validMobile.f, l5Good_eq A H _ hw, IsMobile_eq, h, n1, ar, hx, hl3, l5Hang_eq, hungWith_eq, leavesOf_eq, hl2, eq_self, contains_eq, g, Bool.and_self, Bool.not_true, Option.bind_some, if_true, if_false, and_self, Bool.false_eq_true]
      · rw [Bool.not_eq_true] at hx
        refine ⟨([], [], false), by simp, by simp, fun k hk => ?_⟩
        obtain ⟨k, rfl⟩ : ∃ m, k = m + 1 := ⟨k - 1, by omega⟩
        simp (disch := omega) only [spec_HangLeaves.f, impl_HangLeaves.f, impl_HangLeaves.j0, l5Good_eq A H _ hw, IsMobile_eq, h, n1, ar, hx, hl2, eq_self, leavesOf_eq, contains_eq, Bool.false_and, Bool.not_false, Option.bind_some, if_true, if_false, and_self, Bool.false_eq_true]
    · have hl2 : ¬ ((w.length : Int) = ((leaves [] H).length : Int)) := by omega
      have hl3 : (((w.length : Nat) : Int) == (A.length : Int) + 1) = false := by simp; omega
      refine ⟨([], [], false), by simp, by simp, fun k hk => ?_⟩
      obtain ⟨k, rfl⟩ : ∃ m, k = m + 1 := ⟨k - 1, by omega⟩
      simp (disch := omega) only [spec_HangLeaves.f, impl_HangLeaves.f, impl_HangLeaves.j0, l5Good_eq A H _ hw, IsMobile_eq, h, n1, ar, hl3, hl2, leavesOf_eq, Bool.and_false, Option.bind_some, if_true, if_false, and_self, Bool.false_eq_true]
  · refine ⟨([], [], false), by simp, by simp, fun k hk => ?_⟩
    obtain ⟨k, rfl⟩ : ∃ m, k = m + 1 := ⟨k - 1, by omega⟩
    simp (disch := omega) only [spec_HangLeaves.f, impl_HangLeaves.f, impl_HangLeaves.j0, l5Good_eq A H _ hw, IsMobile_eq, h, Option.bind_some, if_true, if_false, and_self, Bool.false_eq_true]
theorem FnExactHangLeaves : ∀ (l0_0 : List (S58)) (l0_1 : List (S58)) (l1 : List Int), (l0_0.length ≤ 9223372036854775807) → (∀ x_ ∈ l0_0, ((Lit.int .i64 x_.f0).wf = true) ∧ ((Lit.int .i64 x_.f1).wf = true)) → (l0_1.length ≤ 9223372036854775807) → (∀ x_ ∈ l0_1, ((Lit.int .i64 x_.f0).wf = true) ∧ ((Lit.int .i64 x_.f1).wf = true)) → (l1.length ≤ 9223372036854775807) → (∀ x_ ∈ l1, (Lit.int .i64 x_).wf = true) → ∃ k, laws_FnExactHangLeaves.f k l0_0 l0_1 l1 = some true := by
  intro A H w h1 _ h2 wH h3 _
  have hw := wfR_of wH
  refine ⟨3000 + 4 * A.length + 4 * H.length + 4 * w.length + 6, ?_⟩
  have hsz := szMobile_eq A H h1 h2
  by_cases hwl : w.length ≤ 1048576
  · have nw : ¬ ((w.length : Int) > 1048576) := by omega
    by_cases hb : A.length + H.length ≤ 1048576
    · rw [if_pos hb] at hsz
      have n0 : ¬ ((1048576 : Int) - (A.length : Int) - (H.length : Int) < 0) := by omega
      obtain ⟨r, hr1, hr2, hr⟩ := both A H w hb hwl hw
      have hs := fun k hk => (hr k hk).1
      have hi := fun k hk => (hr k hk).2
      have hm2 : ∀ k, 10 + 4 * A.length + 4 * H.length < k → laws_markMobile.f k A H 1 = some (1 + 2 * (A.length : Int) + 2 * (H.length : Int), seqT 1 A.length, seqT (1 + 2 * (A.length : Int)) H.length) := fun k hk => markMobile_eq A H k hb (by omega) (by omega)
      have hm3 : ∀ k, w.length < k → laws_markIntS.f k w (1 + 2 * (A.length : Int) + 2 * (H.length : Int)) = some (1 + 2 * (A.length : Int) + 2 * (H.length : Int) + (w.length : Int), seqI (1 + 2 * (A.length : Int) + 2 * (H.length : Int)) w.length) := fun k hk => markIntS_eq w _ k (by omega) (by omega) (by omega) hk
      have n2 : ¬ (1 + 2 * (A.length : Int) + 2 * (H.length : Int) + (w.length : Int) < 0) := by omega
      have n1 : ¬ ((1 : Int) + 2 * (r.1.length : Int) + 2 * (r.2.1.length : Int) < 0) := by omega
      have hm : ∀ k, 1000 ≤ k → laws_markMobile.f k r.1 r.2.1 1 = some (1 + 2 * (r.1.length : Int) + 2 * (r.2.1.length : Int), seqT 1 r.1.length, seqT (1 + 2 * (r.1.length : Int)) r.2.1.length) := fun k hk => markMobile_eq r.1 r.2.1 k (by omega) (by omega) (by omega)
      have hh : ∀ k, 1000 ≤ k → laws_heldMobile.f k (seqT 1 r.1.length) (seqT (1 + 2 * (r.1.length : Int)) r.2.1.length) 1 = some (1 + 2 * (r.1.length : Int) + 2 * (r.2.1.length : Int)) := fun k hk => heldMobile_eq r.1.length r.2.1.length k (by omega) (by omega) (by omega)
      simp (maxSteps := 4000000) (disch := omega) only [laws_FnExactHangLeaves.f, nw, hsz, n0, toMobile_eq, toIntS_eq, hs, hi, eqMobile_refl, Option.bind_some, bne_refl, if_true, if_false]
      simp (maxSteps := 4000000) (disch := omega) only [laws_FnExactHangLeaves.j0, toMobile_eq, toIntS_eq, eqMobile_refl, eqIntS_refl, hm2, hm3, n2, Option.bind_some, bne_refl, if_true, if_false, Bool.false_eq_true]
      simp (maxSteps := 4000000) (disch := omega) only [laws_FnExactHangLeaves.j1, toMobile_eq, toIntS_eq, hi, eqMobile_refl, hm, hh, n1, Option.bind_some, bne_refl, if_true, if_false, Bool.false_eq_true]
      simp (maxSteps := 4000000) (disch := omega) only [laws_FnExactHangLeaves.j2, hh, n1, Option.bind_some, if_true, if_false, Bool.false_eq_true]
    · rw [if_neg hb] at hsz
      unfold laws_FnExactHangLeaves.f
      rw [if_neg nw, hsz, Option.bind_some, if_pos (by decide)]
  · unfold laws_FnExactHangLeaves.f
    rw [if_pos (by omega)]

end Go.Proofs.Ytbdajkfihbaapaa.Pure

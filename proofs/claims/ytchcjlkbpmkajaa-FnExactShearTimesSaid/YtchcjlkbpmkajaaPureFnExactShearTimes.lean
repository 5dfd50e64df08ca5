/- The pure statement of the law FnExactShearTimes: what the law computes, as a function over numbers and lists, answers true for every input. No conditions beyond the ranges of Go's int. -/
import Derived.Test.YtchcjlkbpmkajaaPFnExactShearTimesx8
set_option linter.unusedVariables false
set_option linter.unusedSimpArgs false
namespace Go.Proofs.Ytchcjlkbpmkajaa.Pure
open Go.RowKit Go.Proofs.YtchcjlkbpmkajaaW.PrintWords Go.Proofs.YtchcjlkbpmkajaaW.PrintLast Go.Proofs.Ytchcjlkbpmkajaa.PFnExactShearTimes

theorem wrap_id {x : Int} (h0 : -9223372036854775808 ≤ x) (h1 : x ≤ 9223372036854775807) : wrap64 x = x := by
  unfold wrap64
  omega
theorem wf64 {x : Int} (h : (Lit.int .i64 x).wf = true) : -9223372036854775808 ≤ x ∧ x ≤ 9223372036854775807 := by
  simp [Lit.wf, IntKind.min, IntKind.max, IntKind.signed, IntKind.bits] at h
  omega
theorem l1In_eq (a b c : Int) : spec_l1In.f a b c = some (decide (b ≤ a ∧ a ≤ c)) := by
  unfold spec_l1In.f
  split <;> simp_all
  omega
theorem within_eq (a b c : Int) : impl_within.f a b c = some (decide (b ≤ a ∧ a ≤ c)) := by
  unfold impl_within.f
  split <;> simp_all
  omega
def BeamOk (a b c : Int) : Prop := 1 ≤ a ∧ a ≤ 60 ∧ 0 ≤ b ∧ b < c ∧ c ≤ a
instance (a b c : Int) : Decidable (BeamOk a b c) := by unfold BeamOk; infer_instance
theorem l6Beam_eq (a b c : Int) : spec_l6Beam.f a b c = some (decide (BeamOk a b c)) := by
  unfold spec_l6Beam.f
  simp only [l1In_eq, Option.bind_some]
  by_cases h1 : 1 ≤ a ∧ a ≤ 60
  · rw [if_pos (decide_eq_true h1), wrap_id (x := a - 1) (by omega) (by omega)]
    by_cases h2 : 0 ≤ b ∧ b ≤ a - 1
    · rw [if_pos (decide_eq_true h2), wrap_id (x := b + 1) (by omega) (by omega)]
      congr 1
      exact decide_eq_decide.2 ⟨fun h => ⟨h1.1, h1.2, h2.1, by omega, h.2⟩, fun h => ⟨by have := h.2.2.2.1; omega, h.2.2.2.2⟩⟩
    · rw [if_neg (by simpa using h2)]
      congr 1
      exact (decide_eq_false (fun h => h2 ⟨h.2.2.1, by have := h.2.2.2.1; have := h.2.2.2.2; omega⟩)).symm
  · rw [if_neg (by simpa using h1)]
    congr 1
    exact (decide_eq_false (fun h => h1 ⟨h.1, h.2.1⟩)).symm
theorem IsBeam_eq (a b c : Int) : impl_IsBeam.f a b c = some (decide (BeamOk a b c)) := by
  unfold impl_IsBeam.f
  simp only [within_eq, Option.bind_some]
  by_cases h1 : 1 ≤ a ∧ a ≤ 60
  · rw [if_pos (decide_eq_true h1)]
    by_cases h2 : 0 ≤ b
    · rw [if_pos h2]
      by_cases h3 : b < c
      · rw [if_pos h3]
        congr 1
        exact decide_eq_decide.2 ⟨fun h => ⟨h1.1, h1.2, h2, h3, h⟩, fun h => h.2.2.2.2⟩
      · rw [if_neg h3]
        congr 1
        exact (decide_eq_false (fun h => h3 h.2.2.2.1)).symm
    · rw [if_neg h2]
      congr 1
      exact (decide_eq_false (fun h => h2 h.2.2.1)).symm
  · rw [if_neg (by simpa using h1)]
    congr 1
    exact (decide_eq_false (fun h => h1 ⟨h.1, h.2.1⟩)).symm
theorem snocI {α : Type} (p : List α) (x : α) (h : p.length < 9223372036854775807) : wrap64 ((p.length : Int) + 1) = ((p ++ [x]).length : Int) := by
  rw [wrap_id (by omega) (by omega)]
  simp
theorem sz_id (n : Nat) (h : n ≤ 9223372036854775807) : wrap64 (1048576 - (n : Int)) = 1048576 - (n : Int) := wrap_id (by omega) (by omega)
theorem set_rep {α : Type} (q : List α) (z y : α) (n : Nat) : (q ++ List.replicate (n + 1) z).set q.length y = (q ++ [y]) ++ List.replicate n z := by
  rw [List.set_append_right _ _ (Nat.le_refl _), Nat.sub_self]
  simp [List.replicate_succ]
theorem rdL (p s : List S57) (x : S57) : rd_T57 (p ++ x :: s) ((p.length : Int)) = x := by
  simp [rd_T57]
theorem l2In_eq (a : Int) : spec_l2In.f a = some (decide (0 ≤ a ∧ a ≤ 60)) := by simp only [spec_l2In.f, l1In_eq, Option.bind_some]
theorem isPlace_eq (a : Int) : impl_isPlace.f a = some (decide (0 ≤ a ∧ a ≤ 60)) := by simp only [impl_isPlace.f, within_eq, Option.bind_some]
theorem isWeight_eq (a : Int) : impl_isWeight.f a = some (decide (1 ≤ a ∧ a ≤ 99)) := by simp only [impl_isWeight.f, within_eq, Option.bind_some]
def okL (x : S57) : Bool := decide (0 ≤ x.f0 ∧ x.f0 ≤ 60) && decide (1 ≤ x.f1 ∧ x.f1 ≤ 99)
def rowB (l : List S57) : Bool := decide ((l.length : Int) ≤ 12) && l.all okL
def inB (a : Int) (l : List S57) : Bool := l.all (fun x => decide (x.f0 ≤ a))
def onB (a0 a1 a2 : Int) (l : List S57) : Bool := decide (BeamOk a0 a1 a2) && (rowB l && inB a0 l)
theorem l2Row_l0 : ∀ (s p : List S57) (k : Nat), (p ++ s).length < 4611686018427387904 → 2 * s.length + 2 < k → spec_l2Row.l0 k (p ++ s) (p.length : Int) = some (decide (((p ++ s).length : Int) ≤ 12) && s.all okL) := by
  intro s
  induction s with
  | nil =>
    intro p k hl hk
    obtain ⟨k, rfl⟩ : ∃ m, k = m + 2 := ⟨k - 2, by omega⟩
    simp only [spec_l2Row.l0, spec_l2Row.j1]
    rw [if_neg (by simp)]
    simp
  | cons x s ih =>
    intro p k hl hk
    simp only [List.length_cons] at hk
    obtain ⟨k, rfl⟩ : ∃ m, k = m + 2 := ⟨k - 2, by omega⟩
    have d1 : (p.length : Int) < ((p ++ x :: s).length : Int) := by simp; omega
    have d0 : 0 ≤ (p.length : Int) := by omega
    simp only [spec_l2Row.l0, spec_l2Row.j1, d1, if_true]
    by_cases c : (p.length : Int) ≤ 12
    · rw [if_pos (decide_eq_true c), if_pos d0, rdL, l2In_eq, Option.bind_some, l1In_eq, Option.bind_some, snocI p x (by simp at hl; omega), List.append_cons p x s, ih (p ++ [x]) k (by simpa using hl) (by omega)]
      simp only [List.all_cons, okL]
      by_cases h1 : 0 ≤ x.f0 ∧ x.f0 ≤ 60 <;> by_cases h2 : 1 ≤ x.f1 ∧ x.f1 ≤ 99 <;> simp [h1, h2]
    · rw [if_neg (by simpa using c)]
      have e : ¬ (((p ++ x :: s).length : Int) ≤ 12) := by simp; omega
      rw [decide_eq_false e, Bool.false_and]
theorem l2Row_eq (l : List S57) (k : Nat) (hl : l.length < 4611686018427387904) (hk : 2 * l.length + 2 < k) : spec_l2Row.f k l = some (rowB l) := by
  unfold spec_l2Row.f rowB
  exact l2Row_l0 l [] k hl hk
theorem isRow1_eq (a b : Int) : impl_IsRow_1.f a b = some (!(okL ⟨a, b⟩)) := by
  unfold impl_IsRow_1.f okL
  rw [isPlace_eq, Option.bind_some, isWeight_eq, Option.bind_some]
  by_cases h1 : 0 ≤ a ∧ a ≤ 60 <;> simp [h1]
theorem row_l0 : ∀ (s p : List S57) (k : Nat), (p ++ s).length < 1000 → s.length < k → ∃ r, impl_Load_84.l0 k (p ++ s) ((p ++ s).length : Int) (p.length : Int) = some r ∧ decide (r ≥ 0) = !(s.all okL) := by
  intro s
  induction s with
  | nil =>
    intro p k hl hk
    obtain ⟨k, rfl⟩ : ∃ m, k = m + 1 := ⟨k - 1, by omega⟩
    simp only [impl_Load_84.l0]
    rw [if_neg (by simp)]
    exact ⟨-1, rfl, by simp⟩
  | cons x s ih =>
    intro p k hl hk
    simp only [List.length_cons] at hk
    obtain ⟨k, rfl⟩ : ∃ m, k = m + 1 := ⟨k - 1, by omega⟩
    simp only [impl_Load_84.l0]
    rw [if_pos (by simp; omega), if_pos (by omega), if_pos (by simp; omega), rdL, isRow1_eq, Option.bind_some]
    by_cases hx : okL x = true
    · have hx2 : okL ⟨x.f0, x.f1⟩ = true := hx
      rw [hx2, if_neg (by decide), snocI p x (by simp at hl; omega), List.append_cons p x s]
      obtain ⟨r, h1, h2⟩ := ih (p ++ [x]) k (by simpa using hl) (by omega)
      exact ⟨r, h1, by rw [h2]; simp [hx]⟩
    · rw [Bool.not_eq_true] at hx
      have hx2 : okL ⟨x.f0, x.f1⟩ = false := hx
      rw [hx2, if_pos (by decide)]
      exact ⟨_, rfl, by simp [hx]⟩
theorem IsRow_eq (l : List S57) (k : Nat) (hk : 20 ≤ k) : impl_IsRow.f k l = some (rowB l) := by
  unfold impl_IsRow.f rowB
  by_cases h : (l.length : Int) > 12
  · rw [if_pos h, decide_eq_false (by omega), Bool.false_and]
  · rw [if_neg h, decide_eq_true (by omega), Bool.true_and]
    unfold impl_Load_75.f impl_Load_84.f
    obtain ⟨r, h1, h2⟩ := row_l0 l [] k (by simp only [List.nil_append]; omega) (by omega)
    have h3 : impl_Load_84.l0 k l (l.length : Int) 0 = some r := h1
    rw [h3, Option.bind_some, h2, Option.bind_some, Bool.not_not]
theorem on_l0 (a0 a1 a2 : Int) : ∀ (s p : List S57) (k : Nat), (p ++ s).length < 1000 → s.length < k → ∃ r, slices_IndexFunc_on.l0 k (p ++ s) ((p ++ s).length : Int) (p.length : Int) a0 a1 a2 = some r ∧ decide (r ≥ 0) = !(inB a0 s) := by
  intro s
  induction s with
  | nil =>
    intro p k hl hk
    obtain ⟨k, rfl⟩ : ∃ m, k = m + 1 := ⟨k - 1, by omega⟩
    simp only [slices_IndexFunc_on.l0]
    rw [if_neg (by simp)]
    exact ⟨-1, rfl, by simp [inB]⟩
  | cons x s ih =>
    intro p k hl hk
    simp only [List.length_cons] at hk
    obtain ⟨k, rfl⟩ : ∃ m, k = m + 1 := ⟨k - 1, by omega⟩
    simp only [slices_IndexFunc_on.l0, impl_isOn_1_on.f]
    rw [if_pos (by simp; omega), if_pos (by omega), if_pos (by simp; omega), rdL, Option.bind_some]
    by_cases hx : x.f0 > a0
    · rw [if_pos (decide_eq_true hx)]
      exact ⟨_, rfl, by simp [inB]; omega⟩
    · rw [if_neg (by simpa using hx), snocI p x (by simp at hl; omega), List.append_cons p x s]
      obtain ⟨r, h1, h2⟩ := ih (p ++ [x]) k (by simpa using hl) (by omega)
      have h3 : x.f0 ≤ a0 := by omega
      exact ⟨r, h1, by rw [h2]; simp [inB, h3]⟩
theorem rowB_len {l : List S57} (h : rowB l = true) : l.length ≤ 12 := by
  simp only [rowB, Bool.and_eq_true, decide_eq_true_eq] at h
  omega
theorem isOn_eq (a0 a1 a2 : Int) (l : List S57) (k : Nat) (hk : 50 ≤ k) : impl_isOn.f k a0 a1 a2 l = some (onB a0 a1 a2 l) := by
  unfold impl_isOn.f onB
  rw [IsBeam_eq, Option.bind_some, IsRow_eq l k (by omega), Option.bind_some]
  by_cases h1 : BeamOk a0 a1 a2
  · rw [if_pos (decide_eq_true h1), decide_eq_true h1, Bool.true_and]
    by_cases h2 : rowB l = true
    · have hl := rowB_len h2
      rw [if_pos h2, h2, Bool.true_and]
      unfold slices_ContainsFunc_on.f slices_IndexFunc_on.f
      obtain ⟨r, h3, h4⟩ := on_l0 a0 a1 a2 l [] k (by simp only [List.nil_append]; omega) (by omega)
      have h5 : slices_IndexFunc_on.l0 k l (l.length : Int) 0 a0 a1 a2 = some r := h3
      rw [h5, Option.bind_some, h4, Option.bind_some, Bool.not_not]
    · rw [if_neg h2]
      rw [Bool.not_eq_true] at h2
      rw [h2, Bool.false_and]
  · rw [if_neg (by simpa using h1), decide_eq_false h1, Bool.false_and]
theorem l6On_l0 (a0 a1 a2 : Int) : ∀ (s p : List S57) (k : Nat), (p ++ s).length < 1000 → s.length < k → spec_l6On.l0 k (p ++ s) (p.length : Int) a0 a1 a2 = some (inB a0 s) := by
  intro s
  induction s with
  | nil =>
    intro p k hl hk
    obtain ⟨k, rfl⟩ : ∃ m, k = m + 1 := ⟨k - 1, by omega⟩
    simp only [spec_l6On.l0]
    rw [if_neg (by simp)]
    rfl
  | cons x s ih =>
    intro p k hl hk
    simp only [List.length_cons] at hk
    obtain ⟨k, rfl⟩ : ∃ m, k = m + 1 := ⟨k - 1, by omega⟩
    simp only [spec_l6On.l0]
    rw [if_pos (by simp; omega), if_pos (by omega), rdL]
    by_cases hx : x.f0 > a0
    · rw [if_pos hx]
      have h3 : ¬ x.f0 ≤ a0 := by omega
      simp [inB, h3]
    · rw [if_neg hx, snocI p x (by simp at hl; omega), List.append_cons p x s, ih (p ++ [x]) k (by simpa using hl) (by omega)]
      have h3 : x.f0 ≤ a0 := by omega
      simp [inB, h3]
theorem l6On_eq (a0 a1 a2 : Int) (l : List S57) (k : Nat) (hl : l.length < 4611686018427387904) (hk : 2 * l.length + 50 < k) : spec_l6On.f k a0 a1 a2 l = some (onB a0 a1 a2 l) := by
  obtain ⟨k, rfl⟩ : ∃ m, k = m + 1 := ⟨k - 1, by omega⟩
  unfold spec_l6On.f onB
  rw [l6Beam_eq, Option.bind_some, l2Row_eq l (k + 1) hl (by omega), Option.bind_some]
  simp only [spec_l6On.j0]
  by_cases h1 : BeamOk a0 a1 a2
  · by_cases h2 : rowB l = true
    · have hl := rowB_len h2
      have e := l6On_l0 a0 a1 a2 l [] k (by simp only [List.nil_append]; omega) (by omega)
      simp only [List.nil_append, List.length_nil, Int.natCast_zero] at e
      simp [h1, h2, e]
    · rw [Bool.not_eq_true] at h2
      simp [h1, h2]
  · simp [h1]
/-- What a row on a beam is. -/
structure OOk (a0 a1 a2 : Int) (l : List S57) : Prop where
  beam : BeamOk a0 a1 a2
  len : l.length ≤ 12
  place : ∀ x ∈ l, 0 ≤ x.f0 ∧ x.f0 ≤ a0
  load : ∀ x ∈ l, okL x = true
theorem onB_ok {a0 a1 a2 : Int} {l : List S57} (h : onB a0 a1 a2 l = true) : OOk a0 a1 a2 l := by
  simp only [onB, rowB, inB, Bool.and_eq_true, decide_eq_true_eq, List.all_eq_true] at h
  refine ⟨h.1, by omega, fun x hx => ?_, h.2.1.2⟩
  have h1 := h.2.1.2 x hx
  have h2 := h.2.2 x hx
  simp only [okL, Bool.and_eq_true, decide_eq_true_eq] at h1
  omega
theorem w_per (x y : Int) : wrap64 (x + 18446744073709551616 * y) = wrap64 x := by
  unfold wrap64
  omega
theorem w_rep (a : Int) : ∃ q, wrap64 a = a + 18446744073709551616 * q := ⟨-((a + 9223372036854775808) / 18446744073709551616), by unfold wrap64; omega⟩
theorem w_w (a : Int) : wrap64 (wrap64 a) = wrap64 a := by
  obtain ⟨q, h⟩ := w_rep a
  rw [show wrap64 (wrap64 a) = wrap64 (a + 18446744073709551616 * q) from by rw [← h], w_per]
theorem w_add_l (a b : Int) : wrap64 (wrap64 a + b) = wrap64 (a + b) := by
  obtain ⟨q, h⟩ := w_rep a
  rw [h, show a + 18446744073709551616 * q + b = (a + b) + 18446744073709551616 * q from by omega, w_per]
theorem w_add_r (a b : Int) : wrap64 (a + wrap64 b) = wrap64 (a + b) := by rw [Int.add_comm, w_add_l, Int.add_comm]
theorem w_neg (a : Int) : wrap64 (-wrap64 a) = wrap64 (-a) := by
  obtain ⟨q, h⟩ := w_rep a
  rw [h, show -(a + 18446744073709551616 * q) = -a + 18446744073709551616 * (-q) from by omega, w_per]
theorem w_sub_l (a b : Int) : wrap64 (wrap64 a - b) = wrap64 (a - b) := by rw [Int.sub_eq_add_neg, w_add_l, ← Int.sub_eq_add_neg]
theorem w_sub_r (a b : Int) : wrap64 (a - wrap64 b) = wrap64 (a - b) := by
  obtain ⟨q, h⟩ := w_rep b
  rw [h, show a - (b + 18446744073709551616 * q) = (a - b) + 18446744073709551616 * (-q) from by omega, w_per]
theorem w_mul_l (a b : Int) : wrap64 (wrap64 a * b) = wrap64 (a * b) := by
  obtain ⟨q, h⟩ := w_rep a
  rw [h, Int.add_mul, Int.mul_assoc, w_per]
theorem w_mul_r (a b : Int) : wrap64 (a * wrap64 b) = wrap64 (a * b) := by rw [Int.mul_comm, w_mul_l, Int.mul_comm]
theorem w_zero : wrap64 0 = 0 := by simp [wrap64]
def Mom (p : Int) : List S57 → Int
  | [] => 0
  | x :: s => x.f1 * (x.f0 - p) + Mom p s
theorem l2Moment_l0 (m : Int) : ∀ (s p : List S57) (a : Int) (k : Nat), (p ++ s).length < 4611686018427387904 → s.length < k →
    spec_l2Moment.l0 k (p ++ s) m (wrap64 a) (p.length : Int) = some (wrap64 (a + Mom m s)) := by
  intro s
  induction s with
  | nil =>
    intro p a k hl hk
    obtain ⟨k, rfl⟩ : ∃ m, k = m + 1 := ⟨k - 1, by simp at hk; omega⟩
    simp only [spec_l2Moment.l0]
    rw [if_neg (by simp)]
    simp [Mom]
  | cons x s ih =>
    intro p a k hl hk
    obtain ⟨k, rfl⟩ : ∃ m, k = m + 1 := ⟨k - 1, by simp at hk; omega⟩
    simp only [spec_l2Moment.l0]
    rw [if_pos (by simp; omega), if_pos (by omega), rdL, snocI p x (by simp at hl; omega), List.append_cons p x s, w_mul_r, w_add_l, w_add_r]
    rw [ih (p ++ [x]) _ k (by simpa using hl) (by simp at hk; omega)]
    simp only [Mom]
    rw [Int.add_assoc]
theorem l2Moment_eq (l : List S57) (m : Int) (k : Nat) (hl : l.length < 4611686018427387904) (hk : l.length < k) : spec_l2Moment.f k l m = some (wrap64 (Mom m l)) := by
  have e := l2Moment_l0 m l [] 0 k (by simpa using hl) hk
  rw [Int.zero_add, w_zero] at e
  exact e
theorem momentAbout_l0 (m : Int) : ∀ (s p : List S57) (a : Int) (k : Nat), (p ++ s).length < 4611686018427387904 → s.length < k →
    impl_momentAbout.l0 k m (wrap64 a) (p ++ s) ((p ++ s).length : Int) (p.length : Int) = some (wrap64 (a + Mom m s)) := by
  intro s
  induction s with
  | nil =>
    intro p a k hl hk
    obtain ⟨k, rfl⟩ : ∃ m, k = m + 1 := ⟨k - 1, by simp at hk; omega⟩
    simp only [impl_momentAbout.l0]
    rw [if_neg (by simp)]
    simp [Mom]
  | cons x s ih =>
    intro p a k hl hk
    obtain ⟨k, rfl⟩ : ∃ m, k = m + 1 := ⟨k - 1, by simp at hk; omega⟩
    simp only [impl_momentAbout.l0]
    rw [if_pos (by simp; omega), if_pos (by omega), if_pos (by simp; omega), rdL, snocI p x (by simp at hl; omega), List.append_cons p x s, w_mul_r, w_add_l, w_add_r]
    rw [ih (p ++ [x]) _ k (by simpa using hl) (by simp at hk; omega)]
    simp only [Mom]
    rw [Int.add_assoc]
theorem momentAbout_eq (l : List S57) (m : Int) (k : Nat) (hl : l.length < 4611686018427387904) (hk : l.length < k) : impl_momentAbout.f k l m = some (wrap64 (Mom m l)) := by
  have e := momentAbout_l0 m l [] 0 k (by simpa using hl) hk
  rw [Int.zero_add, w_zero] at e
  exact e
theorem rd_map (F : List Int) (i : Int) (h0 : 0 ≤ i) (h1 : i < F.length) : rd (F.map wrap64) i = wrap64 (F.getD i.toNat 0) := by
  have h2 : i.toNat < F.length := by omega
  simp [rd, List.getD_eq_getElem?_getD, List.getElem?_map, List.getElem?_eq_getElem h2]
/-- The sum of the first p numbers; and the sum of these sums. -/
def sumP (F : List Int) : Nat → Int
  | 0 => 0
  | p + 1 => sumP F p + F.getD p 0
def sumW (F : List Int) : Nat → Int
  | 0 => 0
  | p + 1 => sumW F p + sumP F (p + 1)
theorem getD_set (F : List Int) (a p : Nat) (v : Int) (ha : a < F.length) : (F.set a v).getD p 0 = if a = p then v else F.getD p 0 := by
  simp only [List.getD_eq_getElem?_getD, List.getElem?_set]
  by_cases h : a = p
  · subst h
    simp [ha]
  · simp [h]
theorem sumP_set (F : List Int) (a : Nat) (v : Int) (ha : a < F.length) (p : Nat) : sumP (F.set a v) p = sumP F p + (if a < p then v - F.getD a 0 else 0) := by
  induction p with
  | zero => simp [sumP]
  | succ p ih =>
    simp only [sumP, ih, getD_set F a p v ha]
    by_cases h : a = p
    · subst h
      rw [if_neg (by omega), if_pos rfl, if_pos (by omega)]
      omega
    · rw [if_neg h]
      by_cases h2 : a < p
      · rw [if_pos h2, if_pos (by omega)]
        omega
      · rw [if_neg h2, if_neg (by omega)]
        omega
def posp (x : Int) : Int := if x < 0 then 0 else x
theorem sumW_set (F : List Int) (a : Nat) (v : Int) (ha : a < F.length) (p : Nat) : sumW (F.set a v) p = sumW F p + (v - F.getD a 0) * posp ((p : Int) - a) := by
  induction p with
  | zero =>
    have : posp (((0 : Nat) : Int) - a) = 0 := by unfold posp; split <;> omega
    rw [this]
    simp [sumW]
  | succ p ih =>
    simp only [sumW, ih, sumP_set F a v ha]
    by_cases h : a < p + 1
    · rw [if_pos h]
      have e1 : posp ((p : Int) - a) = p - a := by unfold posp; rw [if_neg (by omega)]
      have e2 : posp (((p + 1 : Nat) : Int) - a) = p - a + 1 := by unfold posp; rw [if_neg (by omega)]; omega
      rw [e1, e2, Int.mul_add, Int.mul_one]
      omega
    · rw [if_neg h]
      have e1 : posp ((p : Int) - a) = 0 := by unfold posp; split <;> omega
      have e2 : posp (((p + 1 : Nat) : Int) - a) = 0 := by unfold posp; split <;> omega
      rw [e1, e2]
      simp
theorem sumP_rep (n p : Nat) : sumP (List.replicate n 0) p = 0 := by
  induction p with
  | zero => rfl
  | succ p ih =>
    simp only [sumP, ih]
    by_cases h : p < n <;> simp [List.getD_eq_getElem?_getD, List.getElem?_replicate, h]
theorem sumW_rep (n p : Nat) : sumW (List.replicate n 0) p = 0 := by
  induction p with
  | zero => rfl
  | succ p ih => simp only [sumW, ih, sumP_rep]; rfl
theorem range_rd (f : Nat → Int) (n : Nat) (i : Nat) (h : i < n) : rd ((List.range n).map f) (i : Int) = f i := by
  simp [rd, List.getD_eq_getElem?_getD, List.getElem?_map, List.getElem?_range h]
theorem range_snoc (f : Nat → Int) (n : Nat) : (List.range n).map f ++ [f n] = (List.range (n + 1)).map f := by
  rw [List.range_succ, List.map_append]
  rfl
/-! the other way: by forces, shears and sums -/
def forcesL (g : Int) : List Int → List S57 → List Int
  | F, [] => F
  | F, x :: s => forcesL g (F.set x.f0.toNat (F.getD x.f0.toNat 0 - g * x.f1)) s
theorem forcesL_length (g : Int) : ∀ (s : List S57) (F : List Int), (forcesL g F s).length = F.length := by
  intro s
  induction s with
  | nil => intro F; rfl
  | cons x s ih => intro F; simp [forcesL, ih]
theorem l6Forces_l0 (a0 a1 a2 : Int) : ∀ (s p : List S57) (F : List Int) (k : Nat), (∀ x ∈ s, 0 ≤ x.f0 ∧ x.f0 < F.length) → (p ++ s).length < 4611686018427387904 → s.length < k →
    spec_l6Forces.l0 k (p ++ s) (F.map wrap64) (p.length : Int) a0 a1 a2 = some ((forcesL (a2 - a1) F s).map wrap64) := by
  intro s
  induction s with
  | nil =>
    intro p F k hs hl hk
    obtain ⟨k, rfl⟩ : ∃ m, k = m + 1 := ⟨k - 1, by simp at hk; omega⟩
    simp only [spec_l6Forces.l0]
    rw [if_neg (by simp)]
    simp [forcesL]
  | cons x s ih =>
    intro p F k hs hl hk
    obtain ⟨k, rfl⟩ : ∃ m, k = m + 1 := ⟨k - 1, by simp at hk; omega⟩
    have hx := hs x (by simp)
    simp only [spec_l6Forces.l0]
    rw [if_pos (by simp; omega), if_pos (by omega), rdL, if_pos hx.1, if_pos (by simpa using hx.2), snocI p x (by simp at hl; omega), List.append_cons p x s, rd_map _ _ hx.1 hx.2, w_mul_l, w_sub_l, w_sub_r, ← List.map_set]
    rw [ih (p ++ [x]) _ k (fun y hy => by simpa using hs y (by simp [hy])) (by simpa using hl) (by simp at hk; omega)]
    simp only [forcesL]
def forces0 (n : Nat) (l r : Int) (row : List S57) : List Int := ((List.replicate n (0 : Int)).set l.toNat (-Mom r row)).set r.toNat (Mom l row)
theorem l6Forces_eq (a0 a1 a2 : Int) (l : List S57) (k : Nat) (hb : BeamOk a0 a1 a2) (hs : ∀ x ∈ l, 0 ≤ x.f0 ∧ x.f0 ≤ a0) (hl : l.length < 4611686018427387904) (hk : l.length < k) :
    spec_l6Forces.f k a0 a1 a2 l = some ((forcesL (a2 - a1) (forces0 (a0 + 1).toNat a1 a2 l) l).map wrap64) := by
  unfold BeamOk at hb
  unfold spec_l6Forces.f
  rw [wrap_id (x := a0 + 1) (by omega) (by omega), if_pos (by omega), if_pos (by omega), l2Moment_eq _ _ _ hl hk, l2Moment_eq _ _ _ hl hk]
  simp only [Option.bind_some]
  rw [if_pos (by omega), if_pos (by simp; omega), if_pos (by omega), if_pos (by simp; omega), w_neg]
  have e : ((List.replicate (a0 + 1).toNat (0 : Int)).set a1.toNat (wrap64 (-Mom a2 l))).set a2.toNat (wrap64 (Mom a1 l)) = (forces0 (a0 + 1).toNat a1 a2 l).map wrap64 := by
    unfold forces0
    rw [List.map_set, List.map_set, List.map_replicate, w_zero]
  rw [e]
  exact l6Forces_l0 a0 a1 a2 l [] _ k (fun x hx => ⟨(hs x hx).1, by have := hs x hx; simp [forces0]; omega⟩) (by simpa using hl) hk
def shL (F : List Int) (n : Nat) : List Int := (List.range n).map (fun q => wrap64 (sumP F (q + 1)))
def bdL (F : List Int) (n : Nat) : List Int := (List.range n).map (fun q => wrap64 (sumW F q))
theorem l6Shears_l0 (F : List Int) (a1 a2 : Int) : ∀ (d p k : Nat), p + d < F.length → F.length ≤ 100 → d < k →
    spec_l6Shears.l0 k (shL F p) (wrap64 (sumP F p)) (F.map wrap64) (p : Int) ((p + d : Nat) : Int) a1 a2 = some (shL F (p + d)) := by
  intro d
  induction d with
  | zero =>
    intro p k hp hf hk
    obtain ⟨k, rfl⟩ : ∃ m, k = m + 1 := ⟨k - 1, by omega⟩
    simp only [spec_l6Shears.l0]
    rw [if_neg (by simp)]
    rfl
  | succ d ih =>
    intro p k hp hf hk
    obtain ⟨k, rfl⟩ : ∃ m, k = m + 1 := ⟨k - 1, by omega⟩
    simp only [spec_l6Shears.l0]
    rw [if_pos (by omega), if_pos (by omega), if_pos (by simp; omega), if_pos (by simp [shL]; omega), rd_map _ _ (by omega) (by omega), w_add_l, w_add_r, wrap_id (x := (p : Int) + 1) (by omega) (by omega)]
    have e : shL F p ++ [wrap64 (sumP F p + F.getD ((p : Int)).toNat 0)] = shL F (p + 1) := range_snoc (fun q => wrap64 (sumP F (q + 1))) p
    rw [e]
    have h := ih (p + 1) k (by omega) hf (by omega)
    rw [show p + 1 + d = p + (d + 1) from by omega] at h
    exact h
def forces (a0 a1 a2 : Int) (l : List S57) : List Int := forcesL (a2 - a1) (forces0 (a0 + 1).toNat a1 a2 l) l
theorem forces_length (a0 a1 a2 : Int) (l : List S57) : (forces a0 a1 a2 l).length = (a0 + 1).toNat := by simp [forces, forcesL_length, forces0]
theorem l6Shears_eq (a0 a1 a2 : Int) (l : List S57) (k : Nat) (hb : BeamOk a0 a1 a2) (hs : ∀ x ∈ l, 0 ≤ x.f0 ∧ x.f0 ≤ a0) (hl : l.length < 4611686018427387904) (hk : l.length + 100 < k) :
    spec_l6Shears.f k a0 a1 a2 l = some (shL (forces a0 a1 a2 l) a0.toNat) := by
  have hf := forces_length a0 a1 a2 l
  unfold spec_l6Shears.f
  rw [l6Forces_eq a0 a1 a2 l k hb hs hl (by omega), Option.bind_some]
  unfold BeamOk at hb
  have h := l6Shears_l0 (forces a0 a1 a2 l) a1 a2 a0.toNat 0 k (by omega) (by omega) (by omega)
  rw [show ((0 + a0.toNat : Nat) : Int) = a0 from by omega, Nat.zero_add] at h
  rw [← h]
  simp only [sumP, w_zero, forces]
  rfl
theorem rdI (p s : List Int) (x : Int) : rd (p ++ x :: s) ((p.length : Int)) = x := by
  simp [rd]
theorem eqIntS_l0 : ∀ (s p : List Int) (k : Nat), (p ++ s).length < 4611686018427387904 → s.length < k → laws_eqIntS.l0 k (p ++ s) (p ++ s) (p.length : Int) = some true := by
  intro s
  induction s with
  | nil =>
    intro p k hl hk
    obtain ⟨k, rfl⟩ : ∃ m, k = m + 1 := ⟨k - 1, by simp at hk; omega⟩
    simp only [laws_eqIntS.l0]
    rw [if_neg (by simp)]
  | cons x s ih =>
    intro p k hl hk
    obtain ⟨k, rfl⟩ : ∃ m, k = m + 1 := ⟨k - 1, by simp at hk; omega⟩
    simp only [laws_eqIntS.l0]
    rw [if_pos (by simp; omega), if_pos (by omega), if_pos (by simp; omega), if_pos trivial, snocI p x (by simp at hl; omega)]
    have e := ih (p ++ [x]) k (by simpa using hl) (by simp at hk; omega)
    rw [List.append_assoc] at e
    exact e
theorem eqIntS_refl (l : List Int) (k : Nat) (hl : l.length < 4611686018427387904) (hk : l.length < k) : laws_eqIntS.f k l l = some true := by
  unfold laws_eqIntS.f
  rw [if_pos rfl]
  exact eqIntS_l0 l [] k (by simpa using hl) hk
def seqI : Int → Nat → List Int
  | _, 0 => []
  | m, n + 1 => m :: seqI (m + 1) n
theorem markIntS_l0 : ∀ (s p : List Int) (m : Int) (k : Nat), (p ++ s).length < 1073741824 → 0 ≤ m → m + s.length < 4294967296 → s.length < k →
    laws_markIntS.l0 k (p ++ s) m (p.length : Int) = some (m + s.length, p ++ seqI m s.length) := by
  intro s
  induction s with
  | nil =>
    intro p m k hl h0 h1 hk
    obtain ⟨k, rfl⟩ : ∃ j, k = j + 1 := ⟨k - 1, by simp at hk; omega⟩
    simp only [laws_markIntS.l0]
    rw [if_neg (by simp)]
    simp [seqI]
  | cons x s ih =>
    intro p m k hl h0 h1 hk
    obtain ⟨k, rfl⟩ : ∃ j, k = j + 1 := ⟨k - 1, by simp at hk; omega⟩
    simp only [laws_markIntS.l0]
    simp only [List.length_cons, Int.natCast_add, Int.natCast_one, List.length_append] at h1 hl hk
    rw [if_pos (by simp; omega), if_pos (by omega)]
    simp only [Int.toNat_natCast, List.set_append_right _ _ (Nat.le_refl _), Nat.sub_self, List.set_cons_zero]
    rw [snocI p x (by omega), wrap_id (x := m + 1) (by omega) (by omega), List.append_cons]
    rw [show ((p ++ [x]).length : Int) = ((p ++ [m]).length : Int) from by simp]
    rw [ih (p ++ [m]) (m + 1) k (by simp; omega) (by omega) (by omega) (by omega)]
    simp [seqI]
    omega
theorem heldIntS_l0 : ∀ (n : Nat) (p : List Int) (m : Int) (k : Nat), p.length + n < 1073741824 → 0 ≤ m → m + n < 4294967296 → n < k →
    laws_heldIntS.l0 k (p ++ seqI m n) m (p.length : Int) = some (m + n) := by
  intro n
  induction n with
  | zero =>
    intro p m k hl h0 h1 hk
    obtain ⟨k, rfl⟩ : ∃ j, k = j + 1 := ⟨k - 1, by omega⟩
    simp only [laws_heldIntS.l0]
    rw [if_neg (by simp [seqI])]
    simp
  | succ n ih =>
    intro p m k hl h0 h1 hk
    obtain ⟨k, rfl⟩ : ∃ j, k = j + 1 := ⟨k - 1, by omega⟩
    rw [show seqI m (n + 1) = m :: seqI (m + 1) n from rfl]
    simp only [laws_heldIntS.l0]
    rw [if_pos (by simp; omega), if_pos (by omega), rdI, if_pos rfl, wrap_id (x := m + 1) (by omega) (by omega), snocI p m (by omega), List.append_cons]
    rw [ih (p ++ [m]) (m + 1) k (by simp; omega) (by omega) (by omega) (by omega)]
    congr 1
    omega
theorem markIntS_eq (l : List Int) (m : Int) (k : Nat) (hl : l.length < 1073741824) (h0 : 0 ≤ m) (h1 : m + l.length < 4294967296) (hk : l.length < k) : laws_markIntS.f k l m = some (m + l.length, seqI m l.length) :=
  markIntS_l0 l [] m k (by simpa using hl) h0 h1 hk
theorem heldIntS_eq (n : Nat) (m : Int) (k : Nat) (hl : n < 1073741824) (h0 : 0 ≤ m) (h1 : m + n < 4294967296) (hk : n < k) : laws_heldIntS.f k (seqI m n) m = some (m + n) :=
  heldIntS_l0 n [] m k (by simpa using hl) h0 h1 hk
theorem eqLoad_refl (a b : Int) : laws_eqLoad.f a b a b = some true := by simp [laws_eqLoad.f]
theorem eqLoadS_l0 : ∀ (s p : List S57) (k : Nat), (p ++ s).length < 4611686018427387904 → s.length < k → laws_eqLoadS.l0 k (p ++ s) (p ++ s) (p.length : Int) = some true := by
  intro s
  induction s with
  | nil =>
    intro p k hl hk
    obtain ⟨k, rfl⟩ : ∃ m, k = m + 1 := ⟨k - 1, by simp at hk; omega⟩
    simp only [laws_eqLoadS.l0]
    rw [if_neg (by simp)]
  | cons x s ih =>
    intro p k hl hk
    obtain ⟨k, rfl⟩ : ∃ m, k = m + 1 := ⟨k - 1, by simp at hk; omega⟩
    simp only [laws_eqLoadS.l0]
    rw [if_pos (by simp; omega), if_pos (by omega), if_pos (by simp; omega), rdL, eqLoad_refl, Option.bind_some, if_pos rfl, snocI p x (by simp at hl; omega)]
    have e := ih (p ++ [x]) k (by simpa using hl) (by simp at hk; omega)
    rw [List.append_assoc] at e
    exact e
theorem eqLoadS_refl (l : List S57) (k : Nat) (hl : l.length < 4611686018427387904) (hk : l.length < k) : laws_eqLoadS.f k l l = some true := by
  unfold laws_eqLoadS.f
  rw [if_pos rfl]
  exact eqLoadS_l0 l [] k (by simpa using hl) hk
def seqL : Int → Nat → List S57
  | _, 0 => []
  | m, n + 1 => ⟨m, m + 1⟩ :: seqL (m + 2) n
theorem markLoadS_l0 : ∀ (s p : List S57) (m : Int) (k : Nat), (p ++ s).length < 1073741824 → 0 ≤ m → m + 2 * s.length < 4294967296 → s.length < k →
    laws_markLoadS.l0 k (p ++ s) m (p.length : Int) = some (m + 2 * s.length, p ++ seqL m s.length) := by
  intro s
  induction s with
  | nil =>
    intro p m k hl h0 h1 hk
    obtain ⟨k, rfl⟩ : ∃ j, k = j + 1 := ⟨k - 1, by simp at hk; omega⟩
    simp only [laws_markLoadS.l0]
    rw [if_neg (by simp)]
    simp [seqL]
  | cons x s ih =>
    intro p m k hl h0 h1 hk
    obtain ⟨k, rfl⟩ : ∃ j, k = j + 1 := ⟨k - 1, by simp at hk; omega⟩
    simp only [laws_markLoadS.l0]
    simp only [List.length_cons, Int.natCast_add, Int.natCast_one, List.length_append] at h1 hl hk
    rw [if_pos (by simp; omega), if_pos (by omega), Option.bind_some]
    simp only [Int.toNat_natCast, rdL, List.set_append_right _ _ (Nat.le_refl _), Nat.sub_self, List.set_cons_zero]
    rw [snocI p x (by omega), wrap_id (x := m + 1) (by omega) (by omega), wrap_id (x := m + 1 + 1) (by omega) (by omega), List.append_cons]
    rw [show ((p ++ [x]).length : Int) = ((p ++ [(⟨m, m + 1⟩ : S57)]).length : Int) from by simp]
    rw [ih (p ++ [(⟨m, m + 1⟩ : S57)]) (m + 1 + 1) k (by simp; omega) (by omega) (by omega) (by omega)]
    simp [seqL]
    constructor
    · omega
    · rw [show m + 1 + 1 = m + 2 from by omega]
theorem markLoadS_eq (l : List S57) (m : Int) (k : Nat) (hl : l.length < 1073741824) (h0 : 0 ≤ m) (h1 : m + 2 * l.length < 4294967296) (hk : l.length < k) : laws_markLoadS.f k l m = some (m + 2 * l.length, seqL m l.length) :=
  markLoadS_l0 l [] m k (by simpa using hl) h0 h1 hk
theorem rdLL (p s : List S59) (x : S59) : rd_T59 (p ++ x :: s) ((p.length : Int)) = x := by
  simp [rd_T59]
def cvL (x : S59) : S57 := ⟨x.f0, x.f1⟩
theorem toLoadS_l0 : ∀ (s p : List S59) (q : List S57) (k : Nat), p.length = q.length → (p ++ s).length < 4611686018427387904 → s.length < k →
    laws_toLoadS.l0 k (p ++ s) (q ++ List.replicate s.length z57) (p.length : Int) = some (q ++ s.map cvL) := by
  intro s
  induction s with
  | nil =>
    intro p q k hpq hl hk
    obtain ⟨k, rfl⟩ : ∃ m, k = m + 1 := ⟨k - 1, by simp at hk; omega⟩
    simp only [laws_toLoadS.l0]
    rw [if_neg (by simp)]
    simp
  | cons x s ih =>
    intro p q k hpq hl hk
    obtain ⟨k, rfl⟩ : ∃ m, k = m + 1 := ⟨k - 1, by simp at hk; omega⟩
    simp only [laws_toLoadS.l0, laws_toLoad.f, Option.bind_some]
    rw [if_pos (by simp; omega), if_pos (by omega), if_pos (by simp; omega), rdLL, snocI p x (by simp at hl; omega)]
    rw [show (((p.length : Nat) : Int)).toNat = q.length from by omega, List.length_cons, set_rep, List.append_cons p x s, ih (p ++ [x]) _ k (by simp [hpq]) (by simpa using hl) (by simp at hk; omega)]
    simp [cvL]
theorem toLoadS_eq (l : List S59) (k : Nat) (hl : l.length ≤ 1048576) (hk : l.length < k) : laws_toLoadS.f k l = some (l.map cvL) := by
  unfold laws_toLoadS.f
  rw [if_pos (by omega), if_pos (by omega)]
  exact toLoadS_l0 l [] [] k rfl (by simp; omega) hk
theorem szLoadS_eq (l : List S59) (h : l.length ≤ 9223372036854775807) : laws_szLoadS.f l 1048576 = some (if 1048576 < l.length then -1 else 1048576 - (l.length : Int)) := by
  unfold laws_szLoadS.f
  rw [sz_id _ h]
  by_cases hh : 1048576 < l.length
  · rw [if_pos (by omega), if_pos hh]
  · rw [if_neg (by omega), if_neg hh]
theorem bne_refl (b : Bool) : (b != b) = false := by cases b <;> rfl
def shS (g : Int) (p : Nat) : List S57 → Int
  | [] => 0
  | y :: s => (if y.f0.toNat < p then g * y.f1 else 0) + shS g p s
def Shear (a1 a2 : Int) (p : Nat) (l : List S57) : Int := (if a1.toNat < p then -Mom a2 l else 0) + (if a2.toNat < p then Mom a1 l else 0) - shS (a2 - a1) p l
theorem sumP_forcesL (g : Int) (p : Nat) : ∀ (s : List S57) (F : List Int), (∀ x ∈ s, 0 ≤ x.f0 ∧ x.f0 < F.length) → sumP (forcesL g F s) p = sumP F p - shS g p s := by
  intro s
  induction s with
  | nil => intro F _; simp [forcesL, shS]
  | cons x s ih =>
    intro F hs
    have hx := hs x (by simp)
    simp only [forcesL, shS]
    rw [ih _ (fun y hy => by simpa using hs y (by simp [hy])), sumP_set F _ _ (by omega)]
    by_cases c : x.f0.toNat < p
    · rw [if_pos c, if_pos c]
      omega
    · rw [if_neg c, if_neg c]
      omega
theorem sumP_forces (a0 a1 a2 : Int) (l : List S57) (p : Nat) (hb : BeamOk a0 a1 a2) (hs : ∀ x ∈ l, 0 ≤ x.f0 ∧ x.f0 ≤ a0) : sumP (forces a0 a1 a2 l) p = Shear a1 a2 p l := by
  unfold BeamOk at hb
  unfold forces Shear
  rw [sumP_forcesL _ _ _ _ (fun x hx => ⟨(hs x hx).1, by have := hs x hx; simp [forces0]; omega⟩)]
  have ne : ¬ a1.toNat = a2.toNat := by omega
  unfold forces0
  rw [sumP_set _ _ _ (by simp; omega), sumP_set _ _ _ (by simp; omega), sumP_rep, getD_set _ _ _ _ (by simp; omega), if_neg ne]
  have z : ∀ j, (List.replicate (a0 + 1).toNat (0 : Int)).getD j 0 = 0 := fun j => by
    by_cases h : j < (a0 + 1).toNat <;> simp [List.getD_eq_getElem?_getD, List.getElem?_replicate, h]
  rw [z, z]
  generalize shS (a2 - a1) p l = S
  generalize Mom a1 l = M1
  generalize Mom a2 l = M2
  (repeat' split) <;> omega
theorem shear_l1 (a0 a1 a2 R1 R2 n : Int) (x : Nat) (l : List S57) (O : List Int) (hO : O.length < 1000) : ∀ (s p : List S57) (A : Int) (k K : Nat), (∀ y ∈ s, 0 ≤ y.f0) → (p ++ s).length < 1000 → K = k + s.length + 1 →
    impl_ShearTimes.l1 K l R1 R2 O x (wrap64 A) n x (p ++ s) ((p ++ s).length : Int) (p.length : Int) a0 a1 a2 = impl_ShearTimes.l0 k l R1 R2 (O ++ [wrap64 (A - shS (a2 - a1) (x + 1) s)]) n (wrap64 ((x : Int) + 1)) a0 a1 a2 := by
  intro s
  induction s with
  | nil =>
    intro p A k K hs hl hK
    have hO2 : O.length < 17592186044416 := by omega
    have hK2 : K = k + 1 := by simpa using hK
    subst hK2
    have hc : ¬ (p.length : Int) < ((p ++ ([] : List S57)).length : Int) := by simp
    simp only [impl_ShearTimes.l1, hc, hO2, if_true, if_false, shS, Int.sub_zero]
  | cons y s ih =>
    intro p A k K hs hl hK
    have hy := hs y (by simp)
    obtain ⟨K, rfl⟩ : ∃ m, K = m + 1 := ⟨K - 1, by omega⟩
    simp only [List.length_cons] at hK
    have ih' := fun A => ih (p ++ [y]) A k K (fun z hz => hs z (by simp [hz])) (by simpa using hl) (by omega)
    simp only [impl_ShearTimes.l1, impl_Beam_span.f, Option.bind_some]
    rw [if_pos (by simp; omega), if_pos (by omega), if_pos (by simp; omega), rdL, snocI p y (by simp at hl; omega), List.append_cons p y s, w_mul_l, w_sub_l, w_sub_r]
    rw [ih', ih']
    simp only [shS]
    by_cases c : y.f0 ≤ (x : Int)
    · rw [if_pos c, if_pos (show y.f0.toNat < x + 1 by omega), Int.sub_sub]
    · rw [if_neg c, if_neg (show ¬ y.f0.toNat < x + 1 by omega), Int.zero_add]
def shearL (a1 a2 : Int) (l : List S57) (n : Nat) : List Int := (List.range n).map (fun (x : Nat) => wrap64 (Shear a1 a2 (x + 1) l))
theorem shear_l0 {a0 a1 a2 : Int} {l : List S57} (ok : OOk a0 a1 a2 l) : ∀ (d x k : Nat), ((x + d : Nat) : Int) = a0 → 16 * d + 2 < k →
    impl_ShearTimes.l0 k l (wrap64 (-Mom a2 l)) (wrap64 (Mom a1 l)) (shearL a1 a2 l x) a0 (x : Int) a0 a1 a2 = some (shearL a1 a2 l (x + d), true) := by
  have b := ok.beam
  have o := ok.len
  unfold BeamOk at b
  intro d
  induction d with
  | zero =>
    intro x k hx hk
    obtain ⟨k, rfl⟩ : ∃ m, k = m + 1 := ⟨k - 1, by omega⟩
    simp only [impl_ShearTimes.l0]
    rw [if_neg (by omega)]
    rfl
  | succ d ih =>
    intro x k hx hk
    obtain ⟨k, rfl⟩ : ∃ m, k = m + l.length + 4 := ⟨k - l.length - 4, by omega⟩
    have e : shearL a1 a2 l x ++ [wrap64 (Shear a1 a2 (x + 1) l)] = shearL a1 a2 l (x + 1) := range_snoc (fun (x : Nat) => wrap64 (Shear a1 a2 (x + 1) l)) x
    have h := ih (x + 1) k (by omega) (by omega)
    rw [show x + 1 + d = x + (d + 1) from by omega] at h
    have g := fun A => shear_l1 a0 a1 a2 (wrap64 (-Mom a2 l)) (wrap64 (Mom a1 l)) a0 x l (shearL a1 a2 l x) (by simp [shearL]; omega) l [] A k (k + l.length + 1) (fun y hy => (ok.place y hy).1) (by simp only [List.nil_append]; omega) rfl
    simp only [List.nil_append, List.length_nil, Int.natCast_zero] at g
    rw [show k + l.length + 4 = (k + l.length + 1) + 3 from by omega]
    have lt : (x : Int) < a0 := by omega
    have w1 := wrap_id (x := (x : Int) + 1) (by omega) (by omega)
    have main : ∀ A, A = (if a1.toNat < x + 1 then -Mom a2 l else 0) + (if a2.toNat < x + 1 then Mom a1 l else 0) → impl_ShearTimes.l1 (k + l.length + 1) l (wrap64 (-Mom a2 l)) (wrap64 (Mom a1 l)) (shearL a1 a2 l x) x (wrap64 A) a0 x l (l.length : Int) 0 a0 a1 a2 = some (shearL a1 a2 l (x + (d + 1)), true) := by
      intro A hA
      rw [g A, w1, hA]
      rw [show wrap64 ((if a1.toNat < x + 1 then -Mom a2 l else 0) + (if a2.toNat < x + 1 then Mom a1 l else 0) - shS (a2 - a1) (x + 1) l) = wrap64 (Shear a1 a2 (x + 1) l) from rfl, e]
      exact h
    by_cases c1 : a1 ≤ (x : Int)
    · have c1' : a1.toNat < x + 1 := by omega
      by_cases c2 : a2 ≤ (x : Int)
      · have c2' : a2.toNat < x + 1 := by omega
        simp only [impl_ShearTimes.l0, impl_ShearTimes.j1, impl_ShearTimes.j2, lt, c1, c2, if_true]
        rw [Int.zero_add, w_w, w_add_l, w_add_r]
        exact main _ (by rw [if_pos c1', if_pos c2'])
      · have c2' : ¬ a2.toNat < x + 1 := by omega
        simp only [impl_ShearTimes.l0, impl_ShearTimes.j1, impl_ShearTimes.j2, lt, c1, c2, if_true, if_false]
        rw [Int.zero_add, w_w]
        exact main _ (by rw [if_pos c1', if_neg c2', Int.add_zero])
    · by_cases c2 : a2 ≤ (x : Int)
      · omega
      · have c1' : ¬ a1.toNat < x + 1 := by omega
        have c2' : ¬ a2.toNat < x + 1 := by omega
        simp only [impl_ShearTimes.l0, impl_ShearTimes.j1, impl_ShearTimes.j2, lt, c1, c2, if_true, if_false]
        have m := main 0 (by rw [if_neg c1', if_neg c2']; rfl)
        rw [w_zero] at m
        exact m
theorem both (a0 a1 a2 : Int) (l : List S57) (hl : l.length ≤ 1048576) : ∃ r : List Int × Bool, r.1.length ≤ 100 ∧ ∀ k, 1000 + 2 * l.length ≤ k → spec_ShearTimes.f k a0 a1 a2 l = some r ∧ impl_ShearTimes.f k a0 a1 a2 l = some r := by
  by_cases h : onB a0 a1 a2 l = true
  · have ok := onB_ok h
    have b := ok.beam
    have o := ok.len
    unfold BeamOk at b
    refine ⟨(shearL a1 a2 l a0.toNat, true), by simp [shearL]; omega, fun k hk => ?_⟩
    have e1 := l6Shears_eq a0 a1 a2 l k ok.beam ok.place (by omega) (by omega)
    have e2 : shL (forces a0 a1 a2 l) a0.toNat = shearL a1 a2 l a0.toNat := by
      unfold shL shearL
      apply List.map_congr_left
      intro x _
      rw [sumP_forces a0 a1 a2 l (x + 1) ok.beam ok.place]
    rw [e2] at e1
    have e3 := shear_l0 ok a0.toNat 0 k (by omega) (by omega)
    rw [Nat.zero_add] at e3
    have e4 : impl_ShearTimes.l0 k l (wrap64 (-Mom a2 l)) (wrap64 (Mom a1 l)) [] a0 0 a0 a1 a2 = some (shearL a1 a2 l a0.toNat, true) := e3
    simp (disch := omega) only [spec_ShearTimes.f, impl_ShearTimes.f, impl_Beam_supports.f, l6On_eq, isOn_eq, h, e1, e4, momentAbout_eq, w_neg, Option.bind_some, if_true, and_self]
  · refine ⟨([], false), by simp, fun k hk => ?_⟩
    simp (disch := omega) only [spec_ShearTimes.f, impl_ShearTimes.f, l6On_eq, isOn_eq, h, Option.bind_some, if_false, and_self, Bool.false_eq_true]
theorem FnExactShearTimes : ∀ (a0_0 : Int) (a0_1 : Int) (a0_2 : Int) (l1 : List (S59)), ((Lit.int .i64 a0_0).wf = true) → ((Lit.int .i64 a0_1).wf = true) → ((Lit.int .i64 a0_2).wf = true) → (l1.length ≤ 9223372036854775807) → (∀ x_ ∈ l1, ((Lit.int .i64 x_.f0).wf = true) ∧ ((Lit.int .i64 x_.f1).wf = true)) → ∃ k, laws_FnExactShearTimes.f k a0_0 a0_1 a0_2 l1 = some true := by
  intro a b c l _ _ _ hl _
  refine ⟨2000 + 2 * l.length + 6, ?_⟩
  have hsz := szLoadS_eq l hl
  by_cases hb : 1048576 < l.length
  · rw [if_pos hb] at hsz
    unfold laws_FnExactShearTimes.f
    rw [hsz, Option.bind_some, if_pos (by decide)]
  rw [if_neg hb] at hsz
  have n0 : ¬ ((1048576 : Int) - (l.length : Nat) < 0) := by omega
  have h3 : (l.map cvL).length = l.length := by simp
  obtain ⟨r, hr1, hr⟩ := both a b c (l.map cvL) (by omega)
  rw [h3] at hr
  have hs := fun k hk => (hr k hk).1
  have hi := fun k hk => (hr k hk).2
  have n1 : ¬ ((1 : Int) + (r.1.length : Int) < 0) := by omega
  have n2 : ¬ ((1 : Int) + 2 * ((l.map cvL).length : Int) < 0) := by omega
  have hm2 : ∀ k, 200 + l.length ≤ k → laws_markLoadS.f k (l.map cvL) 1 = some ((1 : Int) + 2 * ((l.map cvL).length : Int), seqL 1 (l.map cvL).length) := fun k hk => markLoadS_eq _ 1 k (by omega) (by omega) (by omega) (by omega)
  have hm : ∀ k, 200 ≤ k → laws_markIntS.f k r.1 1 = some ((1 : Int) + (r.1.length : Int), seqI 1 r.1.length) := fun k hk => markIntS_eq r.1 1 k (by omega) (by omega) (by omega) (by omega)
  have hh : ∀ k, 200 ≤ k → laws_heldIntS.f k (seqI 1 r.1.length) 1 = some ((1 : Int) + (r.1.length : Int)) := fun k hk => heldIntS_eq r.1.length 1 k (by omega) (by omega) (by omega) (by omega)
  simp (maxSteps := 4000000) (disch := omega) only [laws_FnExactShearTimes.f, laws_toBeam.f, hsz, n0, toLoadS_eq, hs, hi, eqIntS_refl, Option.bind_some, bne_refl, if_true, if_false]
  have he : ∀ k, 10 + l.length ≤ k → laws_eqLoadS.f k (l.map cvL) (l.map cvL) = some true := fun k hk => eqLoadS_refl _ k (by omega) (by omega)
  simp (maxSteps := 4000000) (disch := omega) only [laws_FnExactShearTimes.j0, toLoadS_eq, he, eqIntS_refl, hm2, n2, Option.bind_some, bne_refl, if_true, Bool.false_eq_true, if_false]
  simp (maxSteps := 4000000) (disch := omega) only [laws_FnExactShearTimes.j1, laws_toBeam.f, toLoadS_eq, hi, eqIntS_refl, hm, hh, n1, Option.bind_some, bne_refl, if_true, Bool.false_eq_true, if_false]
  simp (maxSteps := 4000000) (disch := omega) only [laws_FnExactShearTimes.j2, hh, n1, Option.bind_some, if_true, Bool.false_eq_true, if_false]

end Go.Proofs.Ytchcjlkbpmkajaa.Pure

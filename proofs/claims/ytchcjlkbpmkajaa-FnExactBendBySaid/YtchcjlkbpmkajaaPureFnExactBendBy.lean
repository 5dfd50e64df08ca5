/- The pure statement of the law FnExactBendBy: what the law computes, as a function over numbers and lists, answers true for every input. No conditions beyond the ranges of Go's int. -/
import Derived.Test.YtchcjlkbpmkajaaPFnExactBendByx6
set_option linter.unusedVariables false
set_option linter.unusedSimpArgs false
namespace Go.Proofs.Ytchcjlkbpmkajaa.Pure
open Go.RowKit Go.Proofs.YtchcjlkbpmkajaaW.PrintWords Go.Proofs.YtchcjlkbpmkajaaW.PrintLast Go.Proofs.Ytchcjlkbpmkajaa.PFnExactBendBy

theorem wrap_id {x : Int} (h0 : -9223372036854775808 ≤ x) (h1 : x ≤ 9223372036854775807) : wrap64 x = x := by
  unfold wrap64
  omega
theorem wf64 {x : Int} (h : (Lit.int .i64 x).wf = true) : -9223372036854775808 ≤ x ∧ x ≤ 9223372036854775807 := by
  simp [Lit.wf, IntKind.min, IntKind.max, IntKind.signed, IntKind.bits] at h
  omega
theorem l1In_eq (a b c : Int) : spec_l1In.f a b c = some (decide (b ≤ a ∧ a ≤ c)) := by
  unfold spec_l1In.f
  split <;> simp_all
  omega
theorem within_eq (a b c : Int) : impl_within.f a b c = some (decide (b ≤ a ∧ a ≤ c)) := by
  unfold impl_within.f
  split <;> simp_all
  omega
def BeamOk (a b c : Int) : Prop := 1 ≤ a ∧ a ≤ 60 ∧ 0 ≤ b ∧ b < c ∧ c ≤ a
instance (a b c : Int) : Decidable (BeamOk a b c) := by unfold BeamOk; infer_instance
theorem l6Beam_eq (a b c : Int) : spec_l6Beam.f a b c = some (decide (BeamOk a b c)) := by
  unfold spec_l6Beam.f
  simp only [l1In_eq, Option.bind_some]
  by_cases h1 : 1 ≤ a ∧ a ≤ 60
  · rw [if_pos (decide_eq_true h1), wrap_id (x := a - 1) (by omega) (by omega)]
    by_cases h2 : 0 ≤ b ∧ b ≤ a - 1
    · rw [if_pos (decide_eq_true h2), wrap_id (x := b + 1) (by omega) (by omega)]
      congr 1
      exact decide_eq_decide.2 ⟨fun h => ⟨h1.1, h1.2, h2.1, by omega, h.2⟩, fun h => ⟨by have := h.2.2.2.1; omega, h.2.2.2.2⟩⟩
    · rw [if_neg (by simpa using h2)]
      congr 1
      exact (decide_eq_false (fun h => h2 ⟨h.2.2.1, by have := h.2.2.2.1; have := h.2.2.2.2; omega⟩)).symm
  · rw [if_neg (by simpa using h1)]
    congr 1
    exact (decide_eq_false (fun h => h1 ⟨h.1, h.2.1⟩)).symm
theorem IsBeam_eq (a b c : Int) : impl_IsBeam.f a b c = some (decide (BeamOk a b c)) := by
  unfold impl_IsBeam.f
  simp only [within_eq, Option.bind_some]
  by_cases h1 : 1 ≤ a ∧ a ≤ 60
  · rw [if_pos (decide_eq_true h1)]
    by_cases h2 : 0 ≤ b
    · rw [if_pos h2]
      by_cases h3 : b < c
      · rw [if_pos h3]
        congr 1
        exact decide_eq_decide.2 ⟨fun h => ⟨h1.1, h1.2, h2, h3, h⟩, fun h => h.2.2.2.2⟩
      · rw [if_neg h3]
        congr 1
        exact (decide_eq_false (fun h => h3 h.2.2.2.1)).symm
    · rw [if_neg h2]
      congr 1
      exact (decide_eq_false (fun h => h2 h.2.2.1)).symm
  · rw [if_neg (by simpa using h1)]
    congr 1
    exact (decide_eq_false (fun h => h1 ⟨h.1, h.2.1⟩)).symm
theorem snocI {α : Type} (p : List α) (x : α) (h : p.length < 9223372036854775807) : wrap64 ((p.length : Int) + 1) = ((p ++ [x]).length : Int) := by
  rw [wrap_id (by omega) (by omega)]
  simp
theorem sz_id (n : Nat) (h : n ≤ 9223372036854775807) : wrap64 (1048576 - (n : Int)) = 1048576 - (n : Int) := wrap_id (by omega) (by omega)
theorem set_rep {α : Type} (q : List α) (z y : α) (n : Nat) : (q ++ List.replicate (n + 1) z).set q.length y = (q ++ [y]) ++ List.replicate n z := by
  rw [List.set_append_right _ _ (Nat.le_refl _), Nat.sub_self]
  simp [List.replicate_succ]
theorem rdL (p s : List S57) (x : S57) : rd_T57 (p ++ x :: s) ((p.length : Int)) = x := by
  simp [rd_T57]
theorem l2In_eq (a : Int) : spec_l2In.f a = some (decide (0 ≤ a ∧ a ≤ 60)) := by simp only [spec_l2In.f, l1In_eq, Option.bind_some]
theorem isPlace_eq (a : Int) : impl_isPlace.f a = some (decide (0 ≤ a ∧ a ≤ 60)) := by simp only [impl_isPlace.f, within_eq, Option.bind_some]
theorem isWeight_eq (a : Int) : impl_isWeight.f a = some (decide (1 ≤ a ∧ a ≤ 99)) := by simp only [impl_isWeight.f, within_eq, Option.bind_some]
def okL (x : S57) : Bool := decide (0 ≤ x.f0 ∧ x.f0 ≤ 60) && decide (1 ≤ x.f1 ∧ x.f1 ≤ 99)
def rowB (l : List S57) : Bool := decide ((l.length : Int) ≤ 12) && l.all okL
def inB (a : Int) (l : List S57) : Bool := l.all (fun x => decide (x.f0 ≤ a))
def onB (a0 a1 a2 : Int) (l : List S57) : Bool := decide (BeamOk a0 a1 a2) && (rowB l && inB a0 l)
theorem l2Row_l0 : ∀ (s p : List S57) (k : Nat), (p ++ s).length < 4611686018427387904 → 2 * s.length + 2 < k → spec_l2Row.l0 k (p ++ s) (p.length : Int) = some (decide (((p ++ s).length : Int) ≤ 12) && s.all okL) := by
  intro s
  induction s with
  | nil =>
    intro p k hl hk
    obtain ⟨k, rfl⟩ : ∃ m, k = m + 2 := ⟨k - 2, by omega⟩
    simp only [spec_l2Row.l0, spec_l2Row.j1]
    rw [if_neg (by simp)]
    simp
  | cons x s ih =>
    intro p k hl hk
    simp only [List.length_cons] at hk
    obtain ⟨k, rfl⟩ : ∃ m, k = m + 2 := ⟨k - 2, by omega⟩
    have d1 : (p.length : Int) < ((p ++ x :: s).length : Int) := by simp; omega
    have d0 : 0 ≤ (p.length : Int) := by omega
    simp only [spec_l2Row.l0, spec_l2Row.j1, d1, if_true]
    by_cases c : (p.length : Int) ≤ 12
    · rw [if_pos (decide_eq_true c), if_pos d0, rdL, l2In_eq, Option.bind_some, l1In_eq, Option.bind_some, snocI p x (by simp at hl; omega), List.append_cons p x s, ih (p ++ [x]) k (by simpa using hl) (by omega)]
      simp only [List.all_cons, okL]
      by_cases h1 : 0 ≤ x.f0 ∧ x.f0 ≤ 60 <;> by_cases h2 : 1 ≤ x.f1 ∧ x.f1 ≤ 99 <;> simp [h1, h2]
    · rw [if_neg (by simpa using c)]
      have e : ¬ (((p ++ x :: s).length : Int) ≤ 12) := by simp; omega
      rw [decide_eq_false e, Bool.false_and]
theorem l2Row_eq (l : List S57) (k : Nat) (hl : l.length < 4611686018427387904) (hk : 2 * l.length + 2 < k) : spec_l2Row.f k l = some (rowB l) := by
  unfold spec_l2Row.f rowB
  exact l2Row_l0 l [] k hl hk
theorem isRow1_eq (a b : Int) : impl_IsRow_1.f a b = some (!(okL ⟨a, b⟩)) := by
  unfold impl_IsRow_1.f okL
  rw [isPlace_eq, Option.bind_some, isWeight_eq, Option.bind_some]
  by_cases h1 : 0 ≤ a ∧ a ≤ 60 <;> simp [h1]
theorem row_l0 : ∀ (s p : List S57) (k : Nat), (p ++ s).length < 1000 → s.length < k → ∃ r, impl_Load_84.l0 k (p ++ s) ((p ++ s).length : Int) (p.length : Int) = some r ∧ decide (r ≥ 0) = !(s.all okL) := by
  intro s
  induction s with
  | nil =>
    intro p k hl hk
    obtain ⟨k, rfl⟩ : ∃ m, k = m + 1 := ⟨k - 1, by omega⟩
    simp only [impl_Load_84.l0]
    rw [if_neg (by simp)]
    exact ⟨-1, rfl, by simp⟩
  | cons x s ih =>
    intro p k hl hk
    simp only [List.length_cons] at hk
    obtain ⟨k, rfl⟩ : ∃ m, k = m + 1 := ⟨k - 1, by omega⟩
    simp only [impl_Load_84.l0]
    rw [if_pos (by simp; omega), if_pos (by omega), if_pos (by simp; omega), rdL, isRow1_eq, Option.bind_some]
    by_cases hx : okL x = true
    · have hx2 : okL ⟨x.f0, x.f1⟩ = true := hx
      rw [hx2, if_neg (by decide), snocI p x (by simp at hl; omega), List.append_cons p x s]
      obtain ⟨r, h1, h2⟩ := ih (p ++ [x]) k (by simpa using hl) (by omega)
      exact ⟨r, h1, by rw [h2]; simp [hx]⟩
    · rw [Bool.not_eq_true] at hx
      have hx2 : okL ⟨x.f0, x.f1⟩ = false := hx
      rw [hx2, if_pos (by decide)]
      exact ⟨_, rfl, by simp [hx]⟩
theorem IsRow_eq (l : List S57) (k : Nat) (hk : 20 ≤ k) : impl_IsRow.f k l = some (rowB l) := by
  unfold impl_IsRow.f rowB
  by_cases h : (l.length : Int) > 12
  · rw [if_pos h, decide_eq_false (by omega), Bool.false_and]
  · rw [if_neg h, decide_eq_true (by omega), Bool.true_and]
    unfold impl_Load_75.f impl_Load_84.f
    obtain ⟨r, h1, h2⟩ := row_l0 l [] k (by simp only [List.nil_append]; omega) (by omega)
    have h3 : impl_Load_84.l0 k l (l.length : Int) 0 = some r := h1
    rw [h3, Option.bind_some, h2, Option.bind_some, Bool.not_not]
theorem on_l0 (a0 a1 a2 : Int) : ∀ (s p : List S57) (k : Nat), (p ++ s).length < 1000 → s.length < k → ∃ r, slices_IndexFunc_on.l0 k (p ++ s) ((p ++ s).length : Int) (p.length : Int) a0 a1 a2 = some r ∧ decide (r ≥ 0) = !(inB a0 s) := by
  intro s
  induction s with
  | nil =>
    intro p k hl hk
    obtain ⟨k, rfl⟩ : ∃ m, k = m + 1 := ⟨k - 1, by omega⟩
    simp only [slices_IndexFunc_on.l0]
    rw [if_neg (by simp)]
    exact ⟨-1, rfl, by simp [inB]⟩
  | cons x s ih =>
    intro p k hl hk
    simp only [List.length_cons] at hk
    obtain ⟨k, rfl⟩ : ∃ m, k = m + 1 := ⟨k - 1, by omega⟩
    simp only [slices_IndexFunc_on.l0, impl_isOn_1_on.f]
    rw [if_pos (by simp; omega), if_pos (by omega), if_pos (by simp; omega), rdL, Option.bind_some]
    by_cases hx : x.f0 > a0
    · rw [if_pos (decide_eq_true hx)]
      exact ⟨_, rfl, by simp [inB]; omega⟩
    · rw [if_neg (by simpa using hx), snocI p x (by simp at hl; omega), List.append_cons p x s]
      obtain ⟨r, h1, h2⟩ := ih (p ++ [x]) k (by simpa using hl) (by omega)
      have h3 : x.f0 ≤ a0 := by omega
      exact ⟨r, h1, by rw [h2]; simp [inB, h3]⟩
theorem rowB_len {l : List S57} (h : rowB l = true) : l.length ≤ 12 := by
  simp only [rowB, Bool.and_eq_true, decide_eq_true_eq] at h
  omega
theorem isOn_eq (a0 a1 a2 : Int) (l : List S57) (k : Nat) (hk : 50 ≤ k) : impl_isOn.f k a0 a1 a2 l = some (onB a0 a1 a2 l) := by
  unfold impl_isOn.f onB
  rw [IsBeam_eq, Option.bind_some, IsRow_eq l k (by omega), Option.bind_some]
  by_cases h1 : BeamOk a0 a1 a2
  · rw [if_pos (decide_eq_true h1), decide_eq_true h1, Bool.true_and]
    by_cases h2 : rowB l = true
    · have hl := rowB_len h2
      rw [if_pos h2, h2, Bool.true_and]
      unfold slices_ContainsFunc_on.f slices_IndexFunc_on.f
      obtain ⟨r, h3, h4⟩ := on_l0 a0 a1 a2 l [] k (by simp only [List.nil_append]; omega) (by omega)
      have h5 : slices_IndexFunc_on.l0 k l (l.length : Int) 0 a0 a1 a2 = some r := h3
      rw [h5, Option.bind_some, h4, Option.bind_some, Bool.not_not]
    · rw [if_neg h2]
      rw [Bool.not_eq_true] at h2
      rw [h2, Bool.false_and]
  · rw [if_neg (by simpa using h1), decide_eq_false h1, Bool.false_and]
theorem l6On_l0 (a0 a1 a2 : Int) : ∀ (s p : List S57) (k : Nat), (p ++ s).length < 1000 → s.length < k → spec_l6On.l0 k (p ++ s) (p.length : Int) a0 a1 a2 = some (inB a0 s) := by
  intro s
  induction s with
  | nil =>
    intro p k hl hk
    obtain ⟨k, rfl⟩ : ∃ m, k = m + 1 := ⟨k - 1, by omega⟩
    simp only [spec_l6On.l0]
    rw [if_neg (by simp)]
    rfl
  | cons x s ih =>
    intro p k hl hk
    simp only [List.length_cons] at hk
    obtain ⟨k, rfl⟩ : ∃ m, k = m + 1 := ⟨k - 1, by omega⟩
    simp only [spec_l6On.l0]
    rw [if_pos (by simp; omega), if_pos (by omega), rdL]
    by_cases hx : x.f0 > a0
    · rw [if_pos hx]
      have h3 : ¬ x.f0 ≤ a0 := by omega
      simp [inB, h3]
    · rw [if_neg hx, snocI p x (by simp at hl; omega), List.append_cons p x s, ih (p ++ [x]) k (by simpa using hl) (by omega)]
      have h3 : x.f0 ≤ a0 := by omega
      simp [inB, h3]
theorem l6On_eq (a0 a1 a2 : Int) (l : List S57) (k : Nat) (hl : l.length < 4611686018427387904) (hk : 2 * l.length + 50 < k) : spec_l6On.f k a0 a1 a2 l = some (onB a0 a1 a2 l) := by
  obtain ⟨k, rfl⟩ : ∃ m, k = m + 1 := ⟨k - 1, by omega⟩
  unfold spec_l6On.f onB
  rw [l6Beam_eq, Option.bind_some, l2Row_eq l (k + 1) hl (by omega), Option.bind_some]
  simp only [spec_l6On.j0]
  by_cases h1 : BeamOk a0 a1 a2
  · by_cases h2 : rowB l = true
    · have hl := rowB_len h2
      have e := l6On_l0 a0 a1 a2 l [] k (by simp only [List.nil_append]; omega) (by omega)
      simp only [List.nil_append, List.length_nil, Int.natCast_zero] at e
      simp [h1, h2, e]
    · rw [Bool.not_eq_true] at h2
      simp [h1, h2]
  · simp [h1]
/-- What a row on a beam is. -/
structure OOk (a0 a1 a2 : Int) (l : List S57) : Prop where
  beam : BeamOk a0 a1 a2
  len : l.length ≤ 12
  place : ∀ x ∈ l, 0 ≤ x.f0 ∧ x.f0 ≤ a0
  load : ∀ x ∈ l, okL x = true
theorem onB_ok {a0 a1 a2 : Int} {l : List S57} (h : onB a0 a1 a2 l = true) : OOk a0 a1 a2 l := by
  simp only [onB, rowB, inB, Bool.and_eq_true, decide_eq_true_eq, List.all_eq_true] at h
  refine ⟨h.1, by omega, fun x hx => ?_, h.2.1.2⟩
  have h1 := h.2.1.2 x hx
  have h2 := h.2.2 x hx
  simp only [okL, Bool.and_eq_true, decide_eq_true_eq] at h1
  omega
theorem w_per (x y : Int) : wrap64 (x + 18446744073709551616 * y) = wrap64 x := by
  unfold wrap64
  omega
theorem w_rep (a : Int) : ∃ q, wrap64 a = a + 18446744073709551616 * q := ⟨-((a + 9223372036854775808) / 18446744073709551616), by unfold wrap64; omega⟩
theorem w_w (a : Int) : wrap64 (wrap64 a) = wrap64 a := by
  obtain ⟨q, h⟩ := w_rep a
  rw [show wrap64 (wrap64 a) = wrap64 (a + 18446744073709551616 * q) from by rw [← h], w_per]
theorem w_add_l (a b : Int) : wrap64 (wrap64 a + b) = wrap64 (a + b) := by
  obtain ⟨q, h⟩ := w_rep a
  rw [h, show a + 18446744073709551616 * q + b = (a + b) + 18446744073709551616 * q from by omega, w_per]
theorem w_add_r (a b : Int) : wrap64 (a + wrap64 b) = wrap64 (a + b) := by rw [Int.add_comm, w_add_l, Int.add_comm]
theorem w_neg (a : Int) : wrap64 (-wrap64 a) = wrap64 (-a) := by
  obtain ⟨q, h⟩ := w_rep a
  rw [h, show -(a + 18446744073709551616 * q) = -a + 18446744073709551616 * (-q) from by omega, w_per]
theorem w_sub_l (a b : Int) : wrap64 (wrap64 a - b) = wrap64 (a - b) := by rw [Int.sub_eq_add_neg, w_add_l, ← Int.sub_eq_add_neg]
theorem w_sub_r (a b : Int) : wrap64 (a - wrap64 b) = wrap64 (a - b) := by
  obtain ⟨q, h⟩ := w_rep b
  rw [h, show a - (b + 18446744073709551616 * q) = (a - b) + 18446744073709551616 * (-q) from by omega, w_per]
theorem w_mul_l (a b : Int) : wrap64 (wrap64 a * b) = wrap64 (a * b) := by
  obtain ⟨q, h⟩ := w_rep a
  rw [h, Int.add_mul, Int.mul_assoc, w_per]
theorem w_mul_r (a b : Int) : wrap64 (a * wrap64 b) = wrap64 (a * b) := by rw [Int.mul_comm, w_mul_l, Int.mul_comm]
theorem w_zero : wrap64 0 = 0 := by simp [wrap64]
def Mom (p : Int) : List S57 → Int
  | [] => 0
  | x :: s => x.f1 * (x.f0 - p) + Mom p s
theorem l2Moment_l0 (m : Int) : ∀ (s p : List S57) (a : Int) (k : Nat), (p ++ s).length < 4611686018427387904 → s.length < k →
    spec_l2Moment.l0 k (p ++ s) m (wrap64 a) (p.length : Int) = some (wrap64 (a + Mom m s)) := by
  intro s
  induction s with
  | nil =>
    intro p a k hl hk
    obtain ⟨k, rfl⟩ : ∃ m, k = m + 1 := ⟨k - 1, by simp at hk; omega⟩
    simp only [spec_l2Moment.l0]
    rw [if_neg (by simp)]
    simp [Mom]
  | cons x s ih =>
    intro p a k hl hk
    obtain ⟨k, rfl⟩ : ∃ m, k = m + 1 := ⟨k - 1, by simp at hk; omega⟩
    simp only [spec_l2Moment.l0]
    rw [if_pos (by simp; omega), if_pos (by omega), rdL, snocI p x (by simp at hl; omega), List.append_cons p x s, w_mul_r, w_add_l, w_add_r]
    rw [ih (p ++ [x]) _ k (by simpa using hl) (by simp at hk; omega)]
    simp only [Mom]
    rw [Int.add_assoc]
theorem l2Moment_eq (l : List S57) (m : Int) (k : Nat) (hl : l.length < 4611686018427387904) (hk : l.length < k) : spec_l2Moment.f k l m = some (wrap64 (Mom m l)) := by
  have e := l2Moment_l0 m l [] 0 k (by simpa using hl) hk
  rw [Int.zero_add, w_zero] at e
  exact e
theorem momentAbout_l0 (m : Int) : ∀ (s p : List S57) (a : Int) (k : Nat), (p ++ s).length < 4611686018427387904 → s.length < k →
    impl_momentAbout.l0 k m (wrap64 a) (p ++ s) ((p ++ s).length : Int) (p.length : Int) = some (wrap64 (a + Mom m s)) := by
  intro s
  induction s with
  | nil =>
    intro p a k hl hk
    obtain ⟨k, rfl⟩ : ∃ m, k = m + 1 := ⟨k - 1, by simp at hk; omega⟩
    simp only [impl_momentAbout.l0]
    rw [if_neg (by simp)]
    simp [Mom]
  | cons x s ih =>
    intro p a k hl hk
    obtain ⟨k, rfl⟩ : ∃ m, k = m + 1 := ⟨k - 1, by simp at hk; omega⟩
    simp only [impl_momentAbout.l0]
    rw [if_pos (by simp; omega), if_pos (by omega), if_pos (by simp; omega), rdL, snocI p x (by simp at hl; omega), List.append_cons p x s, w_mul_r, w_add_l, w_add_r]
    rw [ih (p ++ [x]) _ k (by simpa using hl) (by simp at hk; omega)]
    simp only [Mom]
    rw [Int.add_assoc]
theorem momentAbout_eq (l : List S57) (m : Int) (k : Nat) (hl : l.length < 4611686018427387904) (hk : l.length < k) : impl_momentAbout.f k l m = some (wrap64 (Mom m l)) := by
  have e := momentAbout_l0 m l [] 0 k (by simpa using hl) hk
  rw [Int.zero_add, w_zero] at e
  exact e
theorem rd_map (F : List Int) (i : Int) (h0 : 0 ≤ i) (h1 : i < F.length) : rd (F.map wrap64) i = wrap64 (F.getD i.toNat 0) := by
  have h2 : i.toNat < F.length := by omega
  simp [rd, List.getD_eq_getElem?_getD, List.getElem?_map, List.getElem?_eq_getElem h2]
/-- The sum of the first p numbers; and the sum of these sums. -/
def sumP (F : List Int) : Nat → Int
  | 0 => 0
  | p + 1 => sumP F p + F.getD p 0
def sumW (F : List Int) : Nat → Int
  | 0 => 0
  | p + 1 => sumW F p + sumP F (p + 1)
theorem getD_set (F : List Int) (a p : Nat) (v : Int) (ha : a < F.length) : (F.set a v).getD p 0 = if a = p then v else F.getD p 0 := by
  simp only [List.getD_eq_getElem?_getD, List.getElem?_set]
  by_cases h : a = p
  · subst h
    simp [ha]
  · simp [h]
theorem sumP_set (F : List Int) (a : Nat) (v : Int) (ha : a < F.length) (p : Nat) : sumP (F.set a v) p = sumP F p + (if a < p then v - F.getD a 0 else 0) := by
  induction p with
  | zero => simp [sumP]
  | succ p ih =>
    simp only [sumP, ih, getD_set F a p v ha]
    by_cases h : a = p
    · subst h
      rw [if_neg (by omega), if_pos rfl, if_pos (by omega)]
      omega
    · rw [if_neg h]
      by_cases h2 : a < p
      · rw [if_pos h2, if_pos (by omega)]
        omega
      · rw [if_neg h2, if_neg (by omega)]
        omega
def posp (x : Int) : Int := if x < 0 then 0 else x
theorem sumW_set (F : List Int) (a : Nat) (v : Int) (ha : a < F.length) (p : Nat) : sumW (F.set a v) p = sumW F p + (v - F.getD a 0) * posp ((p : Int) - a) := by
  induction p with
  | zero =>
    have : posp (((0 : Nat) : Int) - a) = 0 := by unfold posp; split <;> omega
    rw [this]
    simp [sumW]
  | succ p ih =>
    simp only [sumW, ih, sumP_set F a v ha]
    by_cases h : a < p + 1
    · rw [if_pos h]
      have e1 : posp ((p : Int) - a) = p - a := by unfold posp; rw [if_neg (by omega)]
      have e2 : posp (((p + 1 : Nat) : Int) - a) = p - a + 1 := by unfold posp; rw [if_neg (by omega)]; omega
      rw [e1, e2, Int.mul_add, Int.mul_one]
      omega
    · rw [if_neg h]
      have e1 : posp ((p : Int) - a) = 0 := by unfold posp; split <;> omega
      have e2 : posp (((p + 1 : Nat) : Int) - a) = 0 := by unfold posp; split <;> omega
      rw [e1, e2]
      simp
theorem sumP_rep (n p : Nat) : sumP (List.replicate n 0) p = 0 := by
  induction p with
  | zero => rfl
  | succ p ih =>
    simp only [sumP, ih]
    by_cases h : p < n <;> simp [List.getD_eq_getElem?_getD, List.getElem?_replicate, h]
theorem sumW_rep (n p : Nat) : sumW (List.replicate n 0) p = 0 := by
  induction p with
  | zero => rfl
  | succ p ih => simp only [sumW, ih, sumP_rep]; rfl
theorem range_rd (f : Nat → Int) (n : Nat) (i : Nat) (h : i < n) : rd ((List.range n).map f) (i : Int) = f i := by
  simp [rd, List.getD_eq_getElem?_getD, List.getElem?_map, List.getElem?_range h]
theorem range_snoc (f : Nat → Int) (n : Nat) : (List.range n).map f ++ [f n] = (List.range (n + 1)).map f := by
  rw [List.range_succ, List.map_append]
  rfl
/-! the other way: by forces, shears and sums -/
def forcesL (g : Int) : List Int → List S57 → List Int
  | F, [] => F
  | F, x :: s => forcesL g (F.set x.f0.toNat (F.getD x.f0.toNat 0 - g * x.f1)) s
theorem forcesL_length (g : Int) : ∀ (s : List S57) (F : List Int), (forcesL g F s).length = F.length := by
  intro s
  induction s with
  | nil => intro F; rfl
  | cons x s ih => intro F; simp [forcesL, ih]
theorem l6Forces_l0 (a0 a1 a2 : Int) : ∀ (s p : List S57) (F : List Int) (k : Nat), (∀ x ∈ s, 0 ≤ x.f0 ∧ x.f0 < F.length) → (p ++ s).length < 4611686018427387904 → s.length < k →
    spec_l6Forces.l0 k (p ++ s) (F.map wrap64) (p.length : Int) a0 a1 a2 = some ((forcesL (a2 - a1) F s).map wrap64) := by
  intro s
  induction s with
  | nil =>
    intro p F k hs hl hk
    obtain ⟨k, rfl⟩ : ∃ m, k = m + 1 := ⟨k - 1, by simp at hk; omega⟩
    simp only [spec_l6Forces.l0]
    rw [if_neg (by simp)]
    simp [forcesL]
  | cons x s ih =>
    intro p F k hs hl hk
    obtain ⟨k, rfl⟩ : ∃ m, k = m + 1 := ⟨k - 1, by simp at hk; omega⟩
    have hx := hs x (by simp)
    simp only [spec_l6Forces.l0]
    rw [if_pos (by simp; omega), if_pos (by omega), rdL, if_pos hx.1, if_pos (by simpa using hx.2), snocI p x (by simp at hl; omega), List.append_cons p x s, rd_map _ _ hx.1 hx.2, w_mul_l, w_sub_l, w_sub_r, ← List.map_set]
    rw [ih (p ++ [x]) _ k (fun y hy => by simpa using hs y (by simp [hy])) (by simpa using hl) (by simp at hk; omega)]
    simp only [forcesL]
def forces0 (n : Nat) (l r : Int) (row : List S57) : List Int := ((List.replicate n (0 : Int)).set l.toNat (-Mom r row)).set r.toNat (Mom l row)
theorem l6Forces_eq (a0 a1 a2 : Int) (l : List S57) (k : Nat) (hb : BeamOk a0 a1 a2) (hs : ∀ x ∈ l, 0 ≤ x.f0 ∧ x.f0 ≤ a0) (hl : l.length < 4611686018427387904) (hk : l.length < k) :
    spec_l6Forces.f k a0 a1 a2 l = some ((forcesL (a2 - a1) (forces0 (a0 + 1).toNat a1 a2 l) l).map wrap64) := by
  unfold BeamOk at hb
  unfold spec_l6Forces.f
  rw [wrap_id (x := a0 + 1) (by omega) (by omega), if_pos (by omega), if_pos (by omega), l2Moment_eq _ _ _ hl hk, l2Moment_eq _ _ _ hl hk]
  simp only [Option.bind_some]
  rw [if_pos (by omega), if_pos (by simp; omega), if_pos (by omega), if_pos (by simp; omega), w_neg]
  have e : ((List.replicate (a0 + 1).toNat (0 : Int)).set a1.toNat (wrap64 (-Mom a2 l))).set a2.toNat (wrap64 (Mom a1 l)) = (forces0 (a0 + 1).toNat a1 a2 l).map wrap64 := by
    unfold forces0
    rw [List.map_set, List.map_set, List.map_replicate, w_zero]
  rw [e]
  exact l6Forces_l0 a0 a1 a2 l [] _ k (fun x hx => ⟨(hs x hx).1, by have := hs x hx; simp [forces0]; omega⟩) (by simpa using hl) hk
def shL (F : List Int) (n : Nat) : List Int := (List.range n).map (fun q => wrap64 (sumP F (q + 1)))
def bdL (F : List Int) (n : Nat) : List Int := (List.range n).map (fun q => wrap64 (sumW F q))
theorem l6Shears_l0 (F : List Int) (a1 a2 : Int) : ∀ (d p k : Nat), p + d < F.length → F.length ≤ 100 → d < k →
    spec_l6Shears.l0 k (shL F p) (wrap64 (sumP F p)) (F.map wrap64) (p : Int) ((p + d : Nat) : Int) a1 a2 = some (shL F (p + d)) := by
  intro d
  induction d with
  | zero =>
    intro p k hp hf hk
    obtain ⟨k, rfl⟩ : ∃ m, k = m + 1 := ⟨k - 1, by omega⟩
    simp only [spec_l6Shears.l0]
    rw [if_neg (by simp)]
    rfl
  | succ d ih =>
    intro p k hp hf hk
    obtain ⟨k, rfl⟩ : ∃ m, k = m + 1 := ⟨k - 1, by omega⟩
    simp only [spec_l6Shears.l0]
    rw [if_pos (by omega), if_pos (by omega), if_pos (by simp; omega), if_pos (by simp [shL]; omega), rd_map _ _ (by omega) (by omega), w_add_l, w_add_r, wrap_id (x := (p : Int) + 1) (by omega) (by omega)]
    have e : shL F p ++ [wrap64 (sumP F p + F.getD ((p : Int)).toNat 0)] = shL F (p + 1) := range_snoc (fun q => wrap64 (sumP F (q + 1))) p
    rw [e]
    have h := ih (p + 1) k (by omega) hf (by omega)
    rw [show p + 1 + d = p + (d + 1) from by omega] at h
    exact h
def forces (a0 a1 a2 : Int) (l : List S57) : List Int := forcesL (a2 - a1) (forces0 (a0 + 1).toNat a1 a2 l) l
theorem forces_length (a0 a1 a2 : Int) (l : List S57) : (forces a0 a1 a2 l).length = (a0 + 1).toNat := by simp [forces, forcesL_length, forces0]
theorem l6Shears_eq (a0 a1 a2 : Int) (l : List S57) (k : Nat) (hb : BeamOk a0 a1 a2) (hs : ∀ x ∈ l, 0 ≤ x.f0 ∧ x.f0 ≤ a0) (hl : l.length < 4611686018427387904) (hk : l.length + 100 < k) :
    spec_l6Shears.f k a0 a1 a2 l = some (shL (forces a0 a1 a2 l) a0.toNat) := by
  have hf := forces_length a0 a1 a2 l
  unfold spec_l6Shears.f
  rw [l6Forces_eq a0 a1 a2 l k hb hs hl (by omega), Option.bind_some]
  unfold BeamOk at hb
  have h := l6Shears_l0 (forces a0 a1 a2 l) a1 a2 a0.toNat 0 k (by omega) (by omega) (by omega)
  rw [show ((0 + a0.toNat : Nat) : Int) = a0 from by omega, Nat.zero_add] at h
  rw [← h]
  simp only [sumP, w_zero, forces]
  rfl
def bendS (g p : Int) : List S57 → Int
  | [] => 0
  | x :: s => g * (x.f1 * posp (p - x.f0)) + bendS g p s
/-- The bend at a place, times the span. -/
def Bend (l r p : Int) (row : List S57) : Int := -Mom r row * posp (p - l) + Mom l row * posp (p - r) - bendS (r - l) p row
def inPlace (x : S57) : Prop := 0 ≤ x.f0 ∧ x.f0 ≤ 60
theorem mx_posp (x : Int) : mx x 0 = posp x := by
  unfold mx posp
  rfl
theorem bendAt_l0 (a0 a1 a2 q : Int) (hq : 0 ≤ q ∧ q ≤ 60) : ∀ (s p : List S57) (a : Int) (k : Nat), (∀ x ∈ s, inPlace x) → (p ++ s).length < 4611686018427387904 → s.length < k →
    impl_Beam_bendAt.l0 k q (wrap64 a) (p ++ s) ((p ++ s).length : Int) (p.length : Int) a0 a1 a2 = some (wrap64 (a - bendS (a2 - a1) q s)) := by
  intro s
  induction s with
  | nil =>
    intro p a k hs hl hk
    obtain ⟨k, rfl⟩ : ∃ m, k = m + 1 := ⟨k - 1, by simp at hk; omega⟩
    simp only [impl_Beam_bendAt.l0]
    rw [if_neg (by simp)]
    simp [bendS]
  | cons x s ih =>
    intro p a k hs hl hk
    obtain ⟨k, rfl⟩ : ∃ m, k = m + 1 := ⟨k - 1, by simp at hk; omega⟩
    have hx : inPlace x := hs x (by simp)
    unfold inPlace at hx
    simp only [impl_Beam_bendAt.l0, impl_Beam_span.f, Option.bind_some]
    rw [if_pos (by simp; omega), if_pos (by omega), if_pos (by simp; omega), rdL, snocI p x (by simp at hl; omega), List.append_cons p x s, w_mul_l, Int.mul_assoc, w_mul_l, wrap_id (x := q - x.f0) (by omega) (by omega), mx_posp, w_sub_l, w_sub_r]
    rw [ih (p ++ [x]) _ k (fun y hy => hs y (by simp [hy])) (by simpa using hl) (by simp at hk; omega)]
    simp only [bendS]
    congr 2
    omega
theorem bendAt_eq (a0 a1 a2 q : Int) (l : List S57) (k : Nat) (h1 : 0 ≤ a1 ∧ a1 ≤ 60) (h2 : 0 ≤ a2 ∧ a2 ≤ 60) (hq : 0 ≤ q ∧ q ≤ 60) (hs : ∀ x ∈ l, inPlace x) (hl : l.length < 4611686018427387904) (hk : l.length < k) :
    impl_Beam_bendAt.f k a0 a1 a2 l q = some (wrap64 (Bend a1 a2 q l)) := by
  unfold impl_Beam_bendAt.f impl_Beam_supports.f
  rw [momentAbout_eq _ _ _ hl hk, momentAbout_eq _ _ _ hl hk]
  simp only [Option.bind_some]
  rw [wrap_id (x := q - a1) (by omega) (by omega), wrap_id (x := q - a2) (by omega) (by omega), mx_posp, mx_posp, w_neg, w_mul_l, w_mul_l, w_add_l, w_add_r]
  exact bendAt_l0 a0 a1 a2 q hq l [] _ k hs (by simpa using hl) hk
theorem l6Bends_l0 (F : List Int) : ∀ (d p k : Nat), p + d ≤ 100 → d < k →
    spec_l6Bends.l0 k (bdL F (p + 1)) (shL F (p + d)) (p : Int) = some (bdL F (p + d + 1)) := by
  intro d
  induction d with
  | zero =>
    intro p k hp hk
    obtain ⟨k, rfl⟩ : ∃ m, k = m + 1 := ⟨k - 1, by omega⟩
    simp only [spec_l6Bends.l0]
    rw [if_neg (by simp [shL])]
  | succ d ih =>
    intro p k hp hk
    obtain ⟨k, rfl⟩ : ∃ m, k = m + 1 := ⟨k - 1, by omega⟩
    simp only [spec_l6Bends.l0]
    rw [if_pos (by simp [shL]; omega), if_pos (by omega), if_pos (by simp [bdL]; omega), if_pos (by simp [bdL]; omega), wrap_id (x := (p : Int) + 1) (by omega) (by omega)]
    have e1 : rd (bdL F (p + 1)) (p : Int) = wrap64 (sumW F p) := range_rd _ _ _ (by omega)
    have e2 : rd (shL F (p + (d + 1))) (p : Int) = wrap64 (sumP F (p + 1)) := range_rd _ _ _ (by omega)
    rw [e1, e2, w_add_l, w_add_r]
    have e : bdL F (p + 1) ++ [wrap64 (sumW F p + sumP F (p + 1))] = bdL F (p + 1 + 1) := range_snoc (fun q => wrap64 (sumW F q)) (p + 1)
    rw [e]
    have h := ih (p + 1) k (by omega) (by omega)
    rw [show p + 1 + d = p + (d + 1) from by omega] at h
    exact h
/-- The forces on a beam with a row. -/
theorem l6Bends_eq (a0 a1 a2 : Int) (l : List S57) (k : Nat) (hb : BeamOk a0 a1 a2) (hs : ∀ x ∈ l, 0 ≤ x.f0 ∧ x.f0 ≤ a0) (hl : l.length < 4611686018427387904) (hk : l.length + 100 < k) :
    spec_l6Bends.f k a0 a1 a2 l = some (bdL (forces a0 a1 a2 l) (a0.toNat + 1)) := by
  unfold spec_l6Bends.f
  rw [l6Shears_eq a0 a1 a2 l k hb hs hl hk, Option.bind_some]
  unfold BeamOk at hb
  have h := l6Bends_l0 (forces a0 a1 a2 l) a0.toNat 0 k (by omega) (by omega)
  have e : bdL (forces a0 a1 a2 l) 1 = [0] := by simp [bdL, sumW, w_zero]
  simp only [Nat.zero_add, e] at h
  exact h
theorem sumW_forcesL (g : Int) (p : Nat) : ∀ (s : List S57) (F : List Int), (∀ x ∈ s, 0 ≤ x.f0 ∧ x.f0 < F.length) → sumW (forcesL g F s) p = sumW F p - bendS g p s := by
  intro s
  induction s with
  | nil => intro F _; simp [forcesL, bendS]
  | cons x s ih =>
    intro F hs
    have hx := hs x (by simp)
    simp only [forcesL, bendS]
    rw [ih _ (fun y hy => by simpa using hs y (by simp [hy])), sumW_set F _ _ (by omega)]
    rw [show ((x.f0.toNat : Nat) : Int) = x.f0 from by omega, show F.getD x.f0.toNat 0 - g * x.f1 - F.getD x.f0.toNat 0 = -(g * x.f1) from by omega, Int.neg_mul, Int.mul_assoc]
    omega
theorem sumW_forces (a0 a1 a2 : Int) (l : List S57) (p : Nat) (hb : BeamOk a0 a1 a2) (hs : ∀ x ∈ l, 0 ≤ x.f0 ∧ x.f0 ≤ a0) : sumW (forces a0 a1 a2 l) p = Bend a1 a2 p l := by
  unfold BeamOk at hb
  unfold forces Bend
  rw [sumW_forcesL _ _ _ _ (fun x hx => ⟨(hs x hx).1, by have := hs x hx; simp [forces0]; omega⟩)]
  unfold forces0
  rw [sumW_set _ _ _ (by simp; omega), sumW_set _ _ _ (by simp; omega), sumW_rep, getD_set _ _ _ _ (by simp; omega), if_neg (by omega)]
  have z : ∀ j, (List.replicate (a0 + 1).toNat (0 : Int)).getD j 0 = 0 := fun j => by
    by_cases h : j < (a0 + 1).toNat <;> simp [List.getD_eq_getElem?_getD, List.getElem?_replicate, h]
  rw [z, z, show ((a1.toNat : Nat) : Int) = a1 from by omega, show ((a2.toNat : Nat) : Int) = a2 from by omega]
  simp
/-- What the two ways tell of the bend at a place. -/
theorem bends_rd (a0 a1 a2 q : Int) (l : List S57) (hb : BeamOk a0 a1 a2) (hs : ∀ x ∈ l, 0 ≤ x.f0 ∧ x.f0 ≤ a0) (hq : 0 ≤ q ∧ q ≤ a0) :
    rd (bdL (forces a0 a1 a2 l) (a0.toNat + 1)) q = wrap64 (Bend a1 a2 q l) := by
  have h := range_rd (fun q => wrap64 (sumW (forces a0 a1 a2 l) q)) (a0.toNat + 1) q.toNat (by omega)
  rw [show ((q.toNat : Nat) : Int) = q from by omega] at h
  unfold bdL
  rw [h, sumW_forces a0 a1 a2 l q.toNat hb hs, show ((q.toNat : Nat) : Int) = q from by omega]
theorem bdL_length (F : List Int) (n : Nat) : (bdL F n).length = n := by simp [bdL]
def inflL (a0 a1 a2 q : Int) (n : Nat) : List Int := (List.range n).map (fun (x : Nat) => wrap64 (Bend a1 a2 q [⟨(x : Int), 1⟩]))
theorem l6Influence_l0 (a0 a1 a2 q : Int) (hb : BeamOk a0 a1 a2) (hq : 0 ≤ q ∧ q ≤ a0) : ∀ (d x k : Nat), ((x + d : Nat) : Int) = a0 + 1 → d + 200 < k →
    spec_l6Influence.l0 k q (inflL a0 a1 a2 q x) (x : Int) a0 a1 a2 = some (inflL a0 a1 a2 q (x + d)) := by
  have hb' := hb
  unfold BeamOk at hb'
  intro d
  induction d with
  | zero =>
    intro x k hx hk
    obtain ⟨k, rfl⟩ : ∃ m, k = m + 1 := ⟨k - 1, by omega⟩
    simp only [spec_l6Influence.l0]
    rw [if_neg (by omega)]
    rfl
  | succ d ih =>
    intro x k hx hk
    obtain ⟨k, rfl⟩ : ∃ m, k = m + 1 := ⟨k - 1, by omega⟩
    have hs : ∀ y ∈ [(⟨(x : Int), 1⟩ : S57)], 0 ≤ y.f0 ∧ y.f0 ≤ a0 := by
      intro y hy
      simp at hy
      subst hy
      simp
      omega
    simp only [spec_l6Influence.l0]
    rw [if_pos (by omega), l6Bends_eq a0 a1 a2 _ k hb hs (by simp) (by simp; omega), Option.bind_some, if_pos hq.1, if_pos (by rw [bdL_length]; omega), if_pos (by simp [inflL]; omega), bends_rd a0 a1 a2 q _ hb hs hq, wrap_id (x := (x : Int) + 1) (by omega) (by omega)]
    have e : inflL a0 a1 a2 q x ++ [wrap64 (Bend a1 a2 q [⟨(x : Int), 1⟩])] = inflL a0 a1 a2 q (x + 1) := range_snoc (fun (x : Nat) => wrap64 (Bend a1 a2 q [⟨(x : Int), 1⟩])) x
    rw [e]
    have h := ih (x + 1) k (by omega) (by omega)
    rw [show x + 1 + d = x + (d + 1) from by omega] at h
    exact h
theorem ok_in {a0 a1 a2 : Int} {l : List S57} (ok : OOk a0 a1 a2 l) : ∀ x ∈ l, inPlace x := fun x hx => by
  have b := ok.beam
  unfold BeamOk at b
  have := ok.place x hx
  unfold inPlace
  omega
theorem isOnBeam_eq (a b c p : Int) : impl_isOnBeam.f a b c p = some (decide (BeamOk a b c ∧ 0 ≤ p ∧ p ≤ a)) := by
  unfold impl_isOnBeam.f
  rw [IsBeam_eq, Option.bind_some]
  by_cases h : BeamOk a b c
  · rw [if_pos (decide_eq_true h), within_eq, Option.bind_some]
    simp [h]
  · rw [if_neg (by simpa using h)]
    simp [h]
theorem eqLoad_refl (a b : Int) : laws_eqLoad.f a b a b = some true := by simp [laws_eqLoad.f]
theorem eqLoadS_l0 : ∀ (s p : List S57) (k : Nat), (p ++ s).length < 4611686018427387904 → s.length < k → laws_eqLoadS.l0 k (p ++ s) (p ++ s) (p.length : Int) = some true := by
  intro s
  induction s with
  | nil =>
    intro p k hl hk
    obtain ⟨k, rfl⟩ : ∃ m, k = m + 1 := ⟨k - 1, by simp at hk; omega⟩
    simp only [laws_eqLoadS.l0]
    rw [if_neg (by simp)]
  | cons x s ih =>
    intro p k hl hk
    obtain ⟨k, rfl⟩ : ∃ m, k = m + 1 := ⟨k - 1, by simp at hk; omega⟩
    simp only [laws_eqLoadS.l0]
    rw [if_pos (by simp; omega), if_pos (by omega), if_pos (by simp; omega), rdL, eqLoad_refl, Option.bind_some, if_pos rfl, snocI p x (by simp at hl; omega)]
    have e := ih (p ++ [x]) k (by simpa using hl) (by simp at hk; omega)
    rw [List.append_assoc] at e
    exact e
theorem eqLoadS_refl (l : List S57) (k : Nat) (hl : l.length < 4611686018427387904) (hk : l.length < k) : laws_eqLoadS.f k l l = some true := by
  unfold laws_eqLoadS.f
  rw [if_pos rfl]
  exact eqLoadS_l0 l [] k (by simpa using hl) hk
theorem rdLL (p s : List S59) (x : S59) : rd_T59 (p ++ x :: s) ((p.length : Int)) = x := by
  simp [rd_T59]
def cvL (x : S59) : S57 := ⟨x.f0, x.f1⟩
theorem toLoadS_l0 : ∀ (s p : List S59) (q : List S57) (k : Nat), p.length = q.length → (p ++ s).length < 4611686018427387904 → s.length < k →
    laws_toLoadS.l0 k (p ++ s) (q ++ List.replicate s.length z57) (p.length : Int) = some (q ++ s.map cvL) := by
  intro s
  induction s with
  | nil =>
    intro p q k hpq hl hk
    obtain ⟨k, rfl⟩ : ∃ m, k = m + 1 := ⟨k - 1, by simp at hk; omega⟩
    simp only [laws_toLoadS.l0]
    rw [if_neg (by simp)]
    simp
  | cons x s ih =>
    intro p q k hpq hl hk
    obtain ⟨k, rfl⟩ : ∃ m, k = m + 1 := ⟨k - 1, by simp at hk; omega⟩
    simp only [laws_toLoadS.l0, laws_toLoad.f, Option.bind_some]
    rw [if_pos (by simp; omega), if_pos (by omega), if_pos (by simp; omega), rdLL, snocI p x (by simp at hl; omega)]
    rw [show (((p.length : Nat) : Int)).toNat = q.length from by omega, List.length_cons, set_rep, List.append_cons p x s, ih (p ++ [x]) _ k (by simp [hpq]) (by simpa using hl) (by simp at hk; omega)]
    simp [cvL]
theorem toLoadS_eq (l : List S59) (k : Nat) (hl : l.length ≤ 1048576) (hk : l.length < k) : laws_toLoadS.f k l = some (l.map cvL) := by
  unfold laws_toLoadS.f
  rw [if_pos (by omega), if_pos (by omega)]
  exact toLoadS_l0 l [] [] k rfl (by simp; omega) hk
theorem szLoadS_eq (l : List S59) (h : l.length ≤ 9223372036854775807) : laws_szLoadS.f l 1048576 = some (if 1048576 < l.length then -1 else 1048576 - (l.length : Int)) := by
  unfold laws_szLoadS.f
  rw [sz_id _ h]
  by_cases hh : 1048576 < l.length
  · rw [if_pos (by omega), if_pos hh]
  · rw [if_neg (by omega), if_neg hh]
theorem bne_refl (b : Bool) : (b != b) = false := by cases b <;> rfl
def dotI (a1 a2 q : Int) : List S57 → Int
  | [] => 0
  | x :: s => x.f1 * Bend a1 a2 q [⟨x.f0, 1⟩] + dotI a1 a2 q s
theorem Mom_cons (p : Int) (x : S57) (s : List S57) : Mom p (x :: s) = x.f1 * (x.f0 - p) + Mom p s := by
  simp only [Mom]
theorem dot_bend (a1 a2 q : Int) : ∀ s : List S57, dotI a1 a2 q s = Bend a1 a2 q s := by
  intro s
  induction s with
  | nil => simp [dotI, Bend, Mom, bendS]
  | cons x s ih =>
    simp only [dotI, ih, Bend, Mom, bendS]
    generalize posp (q - a1) = P1
    generalize posp (q - a2) = P2
    generalize posp (q - x.f0) = P3
    generalize Mom a1 s = M1
    generalize Mom a2 s = M2
    generalize bendS (a2 - a1) q s = B
    simp only [Int.mul_sub, Int.sub_mul, Int.mul_add, Int.add_mul, Int.neg_mul, Int.mul_neg, Int.one_mul, Int.mul_one, Int.add_zero, Int.neg_add, Int.mul_assoc]
    have e1 : x.f1 * (a2 * P3) = a2 * (x.f1 * P3) := by rw [← Int.mul_assoc, Int.mul_comm x.f1 a2, Int.mul_assoc]
    have e2 : x.f1 * (a1 * P3) = a1 * (x.f1 * P3) := by rw [← Int.mul_assoc, Int.mul_comm x.f1 a1, Int.mul_assoc]
    omega
theorem by_l0 (a0 a1 a2 q : Int) (hb : BeamOk a0 a1 a2) : ∀ (s p : List S57) (A : Int) (k : Nat), (∀ x ∈ s, 0 ≤ x.f0 ∧ x.f0 ≤ a0) → (p ++ s).length < 1000 → s.length < k →
    spec_BendBy.l0 k (p ++ s) (wrap64 A) (inflL a0 a1 a2 q (a0.toNat + 1)) (p.length : Int) = some (wrap64 (A + dotI a1 a2 q s), true) := by
  unfold BeamOk at hb
  intro s
  induction s with
  | nil =>
    intro p A k hs hl hk
    obtain ⟨k, rfl⟩ : ∃ m, k = m + 1 := ⟨k - 1, by omega⟩
    simp only [spec_BendBy.l0]
    rw [if_neg (by simp)]
    simp [dotI]
  | cons x s ih =>
    intro p A k hs hl hk
    simp only [List.length_cons] at hk
    obtain ⟨k, rfl⟩ : ∃ m, k = m + 1 := ⟨k - 1, by omega⟩
    have hx := hs x (by simp)
    have hr : rd (inflL a0 a1 a2 q (a0.toNat + 1)) x.f0 = wrap64 (Bend a1 a2 q [⟨x.f0, 1⟩]) := by
      have e := range_rd (fun (y : Nat) => wrap64 (Bend a1 a2 q [⟨(y : Int), 1⟩])) (a0.toNat + 1) x.f0.toNat (by omega)
      rw [show ((x.f0.toNat : Nat) : Int) = x.f0 from by omega] at e
      exact e
    simp only [spec_BendBy.l0]
    rw [if_pos (by simp; omega), if_pos (by omega), rdL, if_pos hx.1, if_pos (by simp [inflL]; omega), hr, snocI p x (by simp at hl; omega), List.append_cons p x s, w_mul_r, w_add_l, w_add_r]
    rw [ih (p ++ [x]) _ k (fun y hy => hs y (by simp [hy])) (by simpa using hl) (by omega)]
    simp only [dotI, Int.add_assoc]
theorem both (a0 a1 a2 : Int) (l : List S57) (q : Int) (hl : l.length ≤ 1048576) : ∃ r : Int × Bool, ∀ k, 1000 + 2 * l.length ≤ k → spec_BendBy.f k a0 a1 a2 l q = some r ∧ impl_BendBy.f k a0 a1 a2 l q = some r := by
  by_cases h : onB a0 a1 a2 l = true
  · have ok := onB_ok h
    have b := ok.beam
    have o := ok.len
    unfold BeamOk at b
    by_cases hq : 0 ≤ q ∧ q ≤ a0
    · refine ⟨(wrap64 (Bend a1 a2 q l), true), fun k hk => ?_⟩
      obtain ⟨k, rfl⟩ : ∃ m, k = m + 1 := ⟨k - 1, by omega⟩
      have g := l6Influence_l0 a0 a1 a2 q ok.beam hq (a0.toNat + 1) 0 k (by omega) (by omega)
      rw [Nat.zero_add] at g
      have g1 : spec_l6Influence.f k a0 a1 a2 q = some (inflL a0 a1 a2 q (a0.toNat + 1)) := g
      have g2 := by_l0 a0 a1 a2 q ok.beam l [] 0 k ok.place (by simp only [List.nil_append]; omega) (by omega)
      rw [w_zero, Int.zero_add, dot_bend] at g2
      have g3 : spec_BendBy.l0 k l 0 (inflL a0 a1 a2 q (a0.toNat + 1)) 0 = some (wrap64 (Bend a1 a2 q l), true) := g2
      have g4 := bendAt_eq a0 a1 a2 q l (k + 1) (by omega) (by omega) (by omega) (ok_in ok) (by omega) (by omega)
      simp (disch := omega) only [spec_BendBy.f, impl_BendBy.f, spec_BendBy.j0, l6On_eq, isOn_eq, h, l1In_eq, isOnBeam_eq, ok.beam, hq, g1, g3, g4, Option.bind_some, and_self, decide_true, Bool.not_true, Bool.false_eq_true, if_true, if_false]
    · refine ⟨(0, false), fun k hk => ?_⟩
      obtain ⟨k, rfl⟩ : ∃ m, k = m + 1 := ⟨k - 1, by omega⟩
      simp (disch := omega) only [spec_BendBy.f, impl_BendBy.f, spec_BendBy.j0, l6On_eq, isOn_eq, h, l1In_eq, isOnBeam_eq, hq, Option.bind_some, and_false, decide_false, Bool.not_false, Bool.false_eq_true, if_true, if_false, and_self]
  · refine ⟨(0, false), fun k hk => ?_⟩
    obtain ⟨k, rfl⟩ : ∃ m, k = m + 1 := ⟨k - 1, by omega⟩
    simp (disch := omega) only [spec_BendBy.f, impl_BendBy.f, spec_BendBy.j0, l6On_eq, isOn_eq, h, Option.bind_some, if_true, if_false, and_self, Bool.false_eq_true]
theorem FnExactBendBy : ∀ (a0_0 : Int) (a0_1 : Int) (a0_2 : Int) (l1 : List (S59)) (a2 : Int), ((Lit.int .i64 a0_0).wf = true) → ((Lit.int .i64 a0_1).wf = true) → ((Lit.int .i64 a0_2).wf = true) → (l1.length ≤ 9223372036854775807) → (∀ x_ ∈ l1, ((Lit.int .i64 x_.f0).wf = true) ∧ ((Lit.int .i64 x_.f1).wf = true)) → ((Lit.int .i64 a2).wf = true) → ∃ k, laws_FnExactBendBy.f k a0_0 a0_1 a0_2 l1 a2 = some true := by
  intro a b c l q _ _ _ hl _ _
  refine ⟨2000 + 2 * l.length + 6, ?_⟩
  have hsz := szLoadS_eq l hl
  by_cases hb : 1048576 < l.length
  · rw [if_pos hb] at hsz
    unfold laws_FnExactBendBy.f
    rw [hsz, Option.bind_some, if_pos (by decide)]
  rw [if_neg hb] at hsz
  have n0 : ¬ ((1048576 : Int) - (l.length : Nat) < 0) := by omega
  have h3 : (l.map cvL).length = l.length := by simp
  obtain ⟨r, hr⟩ := both a b c (l.map cvL) q (by omega)
  rw [h3] at hr
  have hs := fun k hk => (hr k hk).1
  have hi := fun k hk => (hr k hk).2
  simp (maxSteps := 4000000) (disch := omega) only [laws_FnExactBendBy.f, laws_toBeam.f, hsz, n0, toLoadS_eq, hs, hi, Option.bind_some, bne_refl, if_true, Bool.false_eq_true, if_false]
  have he : ∀ k, 10 + l.length ≤ k → laws_eqLoadS.f k (l.map cvL) (l.map cvL) = some true := fun k hk => eqLoadS_refl _ k (by omega) (by omega)
  simp (maxSteps := 4000000) (disch := omega) only [laws_FnExactBendBy.j0, toLoadS_eq, he, Option.bind_some, bne_refl, if_true, Bool.false_eq_true, if_false]

end Go.Proofs.Ytchcjlkbpmkajaa.Pure

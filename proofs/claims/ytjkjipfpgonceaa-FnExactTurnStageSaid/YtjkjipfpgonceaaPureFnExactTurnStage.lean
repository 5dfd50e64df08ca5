/- The pure statement of the law FnExactTurnStage: what the law computes, as a function over numbers and lists, answers true for every input. No conditions beyond the ranges of Go's int. -/
import Derived.Test.YtjkjipfpgonceaaPFnExactTurnStagex2
set_option linter.unusedVariables false
set_option linter.unusedSimpArgs false
namespace Go.Proofs.Ytjkjipfpgonceaa.Pure
open Go.RowKit Go.Proofs.YtjkjipfpgonceaaW.PrintWords Go.Proofs.YtjkjipfpgonceaaW.PrintLast Go.Proofs.Ytjkjipfpgonceaa.PFnExactTurnStage

theorem wrap_id {x : Int} (h0 : -9223372036854775808 ≤ x) (h1 : x ≤ 9223372036854775807) : wrap64 x = x := by
  unfold wrap64
  omega
theorem wf64 {x : Int} (h : (Lit.int .i64 x).wf = true) : -9223372036854775808 ≤ x ∧ x ≤ 9223372036854775807 := by
  simp [Lit.wf, IntKind.min, IntKind.max, IntKind.signed, IntKind.bits] at h
  omega
theorem l1In_eq (a b c : Int) : spec_l1In.f a b c = some (decide (b ≤ a ∧ a ≤ c)) := by
  unfold spec_l1In.f
  split <;> simp_all
  omega
theorem within_eq (a b c : Int) : impl_within.f a b c = some (decide (b ≤ a ∧ a ≤ c)) := by
  unfold impl_within.f
  split <;> simp_all
  omega
def StageOk (t a b : Int) : Prop := (t = 1 ∨ t = 3) ∧ (1 ≤ a ∧ a ≤ 24) ∧ (1 ≤ b ∧ b ≤ 24) ∨ t = 2 ∧ (1 ≤ a ∧ a ≤ 24) ∧ b = 0 ∨ t = 4 ∧ (1 ≤ a ∧ a ≤ 24) ∧ (1 ≤ b ∧ b ≤ 24) ∧ b ≤ a ∨ t = 5 ∧ (1 ≤ a ∧ a ≤ 24) ∧ (1 ≤ b ∧ b ≤ 24) ∧ b < a
instance (t a b : Int) : Decidable (StageOk t a b) := by unfold StageOk; infer_instance
theorem l7Two_eq (a b : Int) : spec_l7Two.f a b = some (decide ((1 ≤ a ∧ a ≤ 24) ∧ (1 ≤ b ∧ b ≤ 24))) := by
  simp only [spec_l7Two.f, l1In_eq, Option.bind_some]
  by_cases h : 1 ≤ a ∧ a ≤ 24 <;> simp [h]
theorem isRatio_eq (a : Int) : impl_isRatio.f a = some (decide (1 ≤ a ∧ a ≤ 24)) := by simp only [impl_isRatio.f, within_eq, Option.bind_some]
theorem l7Stage_eq (k : Nat) (hk : 1 ≤ k) (t a b : Int) : spec_l7Stage.f k t a b = some (decide (StageOk t a b)) := by
  obtain ⟨k, rfl⟩ : ∃ m, k = m + 1 := ⟨k - 1, by omega⟩
  simp only [spec_l7Stage.f, spec_l7Stage.j0, l7Two_eq, l1In_eq, Option.bind_some, StageOk]
  by_cases t1 : t = 1
  · subst t1; simp
  by_cases t3 : t = 3
  · subst t3; simp
  by_cases t2 : t = 2
  · subst t2; by_cases h : 1 ≤ a ∧ a ≤ 24 <;> simp [h] <;> rw [Bool.eq_iff_iff] <;> simp
  by_cases t4 : t = 4
  · subst t4; by_cases h : (1 ≤ a ∧ a ≤ 24) ∧ 1 ≤ b ∧ b ≤ 24 <;> simp [h] <;> (simp at h; omega)
  by_cases t5 : t = 5
  · subst t5; by_cases h : (1 ≤ a ∧ a ≤ 24) ∧ 1 ≤ b ∧ b ≤ 24 <;> simp [h] <;> (simp at h; omega)
  simp [t1, t2, t3, t4, t5]
theorem IsStage_eq (k : Nat) (hk : 1 ≤ k) (t a b : Int) : impl_IsStage.f k t a b = some (decide (StageOk t a b)) := by
  obtain ⟨k, rfl⟩ : ∃ m, k = m + 1 := ⟨k - 1, by omega⟩
  simp only [impl_IsStage.f, impl_IsStage.j0, isRatio_eq, Option.bind_some, StageOk]
  by_cases t1 : t = 1
  · subst t1; by_cases h : 1 ≤ a ∧ a ≤ 24 <;> simp [h]
  by_cases t3 : t = 3
  · subst t3; by_cases h : 1 ≤ a ∧ a ≤ 24 <;> simp [h]
  by_cases t2 : t = 2
  · subst t2; by_cases h : 1 ≤ a ∧ a ≤ 24 <;> simp [h] <;> rw [Bool.eq_iff_iff] <;> simp
  by_cases t4 : t = 4
  · subst t4; by_cases h : 1 ≤ a ∧ a ≤ 24 <;> by_cases h2 : 1 ≤ b ∧ b ≤ 24 <;> simp [h, h2]
  by_cases t5 : t = 5
  · subst t5; by_cases h : 1 ≤ a ∧ a ≤ 24 <;> by_cases h2 : 1 ≤ b ∧ b ≤ 24 <;> simp [h, h2]
  simp [t1, t2, t3, t4, t5]

theorem FnExactTurnStage : ∀ (a0_0 : Int) (a0_1 : Int) (a0_2 : Int), ((Lit.int .i64 a0_0).wf = true) → ((Lit.int .i64 a0_1).wf = true) → ((Lit.int .i64 a0_2).wf = true) → ∃ k, laws_FnExactTurnStage.f k a0_0 a0_1 a0_2 = some true := by
  intro a b c _ _ _
  refine ⟨1, ?_⟩
  simp only [laws_FnExactTurnStage.f, laws_toStage.f, spec_TurnStage.f, impl_TurnStage.f, l7Stage_eq 1 (Nat.le_refl 1), IsStage_eq 1 (Nat.le_refl 1), Option.bind_some]
  generalize decide (StageOk a b c) = v
  cases v <;> by_cases h1 : a = 1 <;> by_cases h3 : a = 3 <;> simp [h1, h3, laws_eqStage.f]

end Go.Proofs.Ytjkjipfpgonceaa.Pure

/- The pure statement of the law FnExactStageGain: what the law computes, as a function over numbers and lists, answers true for every input. No conditions beyond the ranges of Go's int. -/
import Derived.Test.YtjkjipfpgonceaaPFnExactStageGainx3
set_option linter.unusedVariables false
set_option linter.unusedSimpArgs false
namespace Go.Proofs.Ytjkjipfpgonceaa.Pure
open Go.RowKit Go.Proofs.YtjkjipfpgonceaaW.PrintWords Go.Proofs.YtjkjipfpgonceaaW.PrintLast Go.Proofs.Ytjkjipfpgonceaa.PFnExactStageGain

theorem wrap_id {x : Int} (h0 : -9223372036854775808 ≤ x) (h1 : x ≤ 9223372036854775807) : wrap64 x = x := by
  unfold wrap64
  omega
theorem wf64 {x : Int} (h : (Lit.int .i64 x).wf = true) : -9223372036854775808 ≤ x ∧ x ≤ 9223372036854775807 := by
  simp [Lit.wf, IntKind.min, IntKind.max, IntKind.signed, IntKind.bits] at h
  omega
theorem l1In_eq (a b c : Int) : spec_l1In.f a b c = some (decide (b ≤ a ∧ a ≤ c)) := by
  unfold spec_l1In.f
  split <;> simp_all
  omega
theorem within_eq (a b c : Int) : impl_within.f a b c = some (decide (b ≤ a ∧ a ≤ c)) := by
  unfold impl_within.f
  split <;> simp_all
  omega
def StageOk (t a b : Int) : Prop := (t = 1 ∨ t = 3) ∧ (1 ≤ a ∧ a ≤ 24) ∧ (1 ≤ b ∧ b ≤ 24) ∨ t = 2 ∧ (1 ≤ a ∧ a ≤ 24) ∧ b = 0 ∨ t = 4 ∧ (1 ≤ a ∧ a ≤ 24) ∧ (1 ≤ b ∧ b ≤ 24) ∧ b ≤ a ∨ t = 5 ∧ (1 ≤ a ∧ a ≤ 24) ∧ (1 ≤ b ∧ b ≤ 24) ∧ b < a
instance (t a b : Int) : Decidable (StageOk t a b) := by unfold StageOk; infer_instance
theorem l7Two_eq (a b : Int) : spec_l7Two.f a b = some (decide ((1 ≤ a ∧ a ≤ 24) ∧ (1 ≤ b ∧ b ≤ 24))) := by
  simp only [spec_l7Two.f, l1In_eq, Option.bind_some]
  by_cases h : 1 ≤ a ∧ a ≤ 24 <;> simp [h]
theorem isRatio_eq (a : Int) : impl_isRatio.f a = some (decide (1 ≤ a ∧ a ≤ 24)) := by simp only [impl_isRatio.f, within_eq, Option.bind_some]
theorem l7Stage_eq (k : Nat) (hk : 1 ≤ k) (t a b : Int) : spec_l7Stage.f k t a b = some (decide (StageOk t a b)) := by
  obtain ⟨k, rfl⟩ : ∃ m, k = m + 1 := ⟨k - 1, by omega⟩
  simp only [spec_l7Stage.f, spec_l7Stage.j0, l7Two_eq, l1In_eq, Option.bind_some, StageOk]
  by_cases t1 : t = 1
  · subst t1; simp
  by_cases t3 : t = 3
  · subst t3; simp
  by_cases t2 : t = 2
  · subst t2; by_cases h : 1 ≤ a ∧ a ≤ 24 <;> simp [h] <;> rw [Bool.eq_iff_iff] <;> simp
  by_cases t4 : t = 4
  · subst t4; by_cases h : (1 ≤ a ∧ a ≤ 24) ∧ 1 ≤ b ∧ b ≤ 24 <;> simp [h] <;> (simp at h; omega)
  by_cases t5 : t = 5
  · subst t5; by_cases h : (1 ≤ a ∧ a ≤ 24) ∧ 1 ≤ b ∧ b ≤ 24 <;> simp [h] <;> (simp at h; omega)
  simp [t1, t2, t3, t4, t5]
theorem IsStage_eq (k : Nat) (hk : 1 ≤ k) (t a b : Int) : impl_IsStage.f k t a b = some (decide (StageOk t a b)) := by
  obtain ⟨k, rfl⟩ : ∃ m, k = m + 1 := ⟨k - 1, by omega⟩
  simp only [impl_IsStage.f, impl_IsStage.j0, isRatio_eq, Option.bind_some, StageOk]
  by_cases t1 : t = 1
  · subst t1; by_cases h : 1 ≤ a ∧ a ≤ 24 <;> simp [h]
  by_cases t3 : t = 3
  · subst t3; by_cases h : 1 ≤ a ∧ a ≤ 24 <;> simp [h]
  by_cases t2 : t = 2
  · subst t2; by_cases h : 1 ≤ a ∧ a ≤ 24 <;> simp [h] <;> rw [Bool.eq_iff_iff] <;> simp
  by_cases t4 : t = 4
  · subst t4; by_cases h : 1 ≤ a ∧ a ≤ 24 <;> by_cases h2 : 1 ≤ b ∧ b ≤ 24 <;> simp [h, h2]
  by_cases t5 : t = 5
  · subst t5; by_cases h : 1 ≤ a ∧ a ≤ 24 <;> by_cases h2 : 1 ≤ b ∧ b ≤ 24 <;> simp [h, h2]
  simp [t1, t2, t3, t4, t5]
theorem gcd_same (k : Nat) : ∀ a b, impl_divisor.l0 k a b = spec_l2Gcd.l0 k a b := by
  induction k with
  | zero => intro a b; rfl
  | succ k ih =>
    intro a b
    simp only [impl_divisor.l0, spec_l2Gcd.l0, ih]
theorem gcd_eq : ∀ (k a b : Nat), b < k → spec_l2Gcd.l0 k (a : Int) (b : Int) = some ((Nat.gcd a b : Nat) : Int) := by
  intro k
  induction k with
  | zero => intro a b h; omega
  | succ k ih =>
    intro a b h
    simp only [spec_l2Gcd.l0]
    by_cases hb : b = 0
    · subst hb
      rw [if_neg (by simp)]
      simp
    · rw [if_pos (by omega), if_neg (by omega)]
      rw [show Int.tmod (a : Int) (b : Int) = ((a % b : Nat) : Int) from by simp [Int.tmod]]
      rw [ih b (a % b) (by have := Nat.mod_lt a (Nat.pos_of_ne_zero hb); omega), Nat.gcd_comm b, ← Nat.gcd_rec, Nat.gcd_comm]
def gd (a b : Int) : Int := ((Nat.gcd a.natAbs b.natAbs : Nat) : Int)
theorem gd_pos {a b : Int} (h : 0 < b) : 0 < gd a b := by
  have := Nat.gcd_pos_of_pos_right a.natAbs (show 0 < b.natAbs by omega)
  unfold gd
  omega
theorem gd_dvd (a b : Int) : gd a b ∣ a ∧ gd a b ∣ b := by
  unfold gd
  exact ⟨Int.ofNat_dvd_left.2 (Nat.gcd_dvd_left _ _), Int.ofNat_dvd_left.2 (Nat.gcd_dvd_right _ _)⟩
/-- The fraction a / b in lowest terms. -/
def cut (a b : Int) : Int × Int := (a / gd a b, b / gd a b)
theorem cut_abs {a b : Int} (h : 0 < b) : (cut a b).1.natAbs ≤ a.natAbs ∧ 0 < (cut a b).2 ∧ (cut a b).2 ≤ b := by
  have hp := gd_pos (a := a) h
  obtain ⟨⟨x, hx⟩, ⟨y, hy⟩⟩ := gd_dvd a b
  unfold cut
  generalize gd a b = g at *
  subst hx hy
  simp only
  rw [Int.mul_ediv_cancel_left _ (by omega), Int.mul_ediv_cancel_left _ (by omega)]
  have hy : 0 < y := by
    rcases Int.lt_or_le 0 y with hy | hy
    · exact hy
    · have := Int.mul_nonpos_of_nonneg_of_nonpos (Int.le_of_lt hp) hy
      omega
  refine ⟨?_, hy, ?_⟩
  · rw [Int.natAbs_mul]
    have : 1 ≤ g.natAbs := by omega
    exact Nat.le_mul_of_pos_left _ this
  · have := Int.mul_le_mul_of_nonneg_right (show 1 ≤ g by omega) (Int.le_of_lt hy)
    omega
theorem cut_nonneg {a b : Int} (h : 0 < b) (ha : 0 ≤ a) : 0 ≤ (cut a b).1 := Int.ediv_nonneg ha (Int.le_of_lt (gd_pos h))
theorem cut_pos {a b : Int} (h : 0 < b) (ha : 0 < a) : 0 < (cut a b).1 := by
  have hp := gd_pos (a := a) h
  obtain ⟨x, hx⟩ := (gd_dvd a b).1
  show 0 < a / gd a b
  generalize gd a b = g at *
  subst hx
  rw [Int.mul_ediv_cancel_left _ (by omega)]
  rcases Int.lt_or_le 0 x with hy | hy
  · exact hy
  · have := Int.mul_nonpos_of_nonneg_of_nonpos (Int.le_of_lt hp) hy
    omega
theorem l2Cut_eq (k : Nat) (a b : Int) (hb : 0 < b) (hB : b ≤ 4611686018427387904) (ha : -4611686018427387904 ≤ a ∧ a ≤ 4611686018427387904) (hk : b.toNat < k) : spec_l2Cut.f k a b = some (cut a b) := by
  unfold spec_l2Cut.f spec_l1Most.f spec_l2Gcd.f
  rw [wrap_id (x := -a) (by omega) (by omega)]
  have e : (if a > -a then some a else some (-a)) = some ((a.natAbs : Nat) : Int) := by
    split <;> (congr 1; omega)
  rw [e, Option.bind_some]
  have hb2 : b = ((b.natAbs : Nat) : Int) := by omega
  have hc := cut_abs (a := a) hb
  have hp := gd_pos (a := a) hb
  have hd := gd_dvd a b
  rw [show spec_l2Gcd.l0 k (a.natAbs : Int) b = some (gd a b) from by
    unfold gd
    rw [← gcd_eq k a.natAbs b.natAbs (by omega), ← hb2]]
  rw [Option.bind_some, if_neg (by omega)]
  unfold cut at hc ⊢
  simp only at hc
  rw [Int.tdiv_eq_ediv_of_dvd hd.1, Int.tdiv_eq_ediv_of_dvd hd.2, wrap_id (by omega) (by omega), wrap_id (by omega) (by omega)]
theorem fraction_same (k : Nat) (a b : Int) : impl_fraction.f k a b = spec_l2Cut.f k a b := by
  unfold impl_fraction.f spec_l2Cut.f impl_divisor.f spec_l2Gcd.f
  have e : spec_l1Most.f a (wrap64 (-a)) = some (mx a (wrap64 (-a))) := by
    unfold spec_l1Most.f mx
    (repeat' split) <;> (first | rfl | omega | (congr 1; omega))
  rw [e, Option.bind_some, gcd_same]
theorem gain_same (k : Nat) (a b c : Int) : impl_stageGain.f k a b c = spec_l7Gain.f k a b c := by
  unfold impl_stageGain.f spec_l7Gain.f
  simp only [fraction_same]
theorem gain_told (k : Nat) (hk : 100 ≤ k) (t a b : Int) (h : StageOk t a b) : ∃ r, spec_l7Gain.f k t a b = some r := by
  unfold StageOk at h
  unfold spec_l7Gain.f
  by_cases h2 : t = 2
  · rw [if_pos h2]; exact ⟨_, rfl⟩
  · rw [if_neg h2]
    by_cases h5 : t = 5
    · rw [if_pos h5, wrap_id (x := 2 * a) (by omega) (by omega), wrap_id (x := a - b) (by omega) (by omega), l2Cut_eq _ _ _ (by omega) (by omega) (by omega) (by omega)]
      exact ⟨_, rfl⟩
    · rw [if_neg h5, l2Cut_eq _ _ _ (by omega) (by omega) (by omega) (by omega)]
      exact ⟨_, rfl⟩
theorem eqA2_refl (k : Nat) (hk : 3 ≤ k) (a b : Int) : laws_eqIntA2.f k a b a b = some true := by
  obtain ⟨k, rfl⟩ : ∃ m, k = m + 3 := ⟨k - 3, by omega⟩
  simp [laws_eqIntA2.f, laws_eqIntA2.l0, wrap64]
theorem FnExactStageGain : ∀ (a0_0 : Int) (a0_1 : Int) (a0_2 : Int), ((Lit.int .i64 a0_0).wf = true) → ((Lit.int .i64 a0_1).wf = true) → ((Lit.int .i64 a0_2).wf = true) → ∃ k, laws_FnExactStageGain.f k a0_0 a0_1 a0_2 = some true := by
  intro a b c _ _ _
  refine ⟨100, ?_⟩
  simp only [laws_FnExactStageGain.f, laws_toStage.f, spec_StageGain.f, impl_StageGain.f, l7Stage_eq 100 (by decide), IsStage_eq 100 (by decide), gain_same, Option.bind_some]
  by_cases h : StageOk a b c
  · obtain ⟨r, hr⟩ := gain_told 100 (by decide) a b c h
    simp [h, hr, eqA2_refl]
  · simp [h, eqA2_refl]

end Go.Proofs.Ytjkjipfpgonceaa.Pure

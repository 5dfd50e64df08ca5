/- The pure statement of the law FnExactLeverRow: what the law computes, as a function over numbers and lists, answers true for every input. No conditions beyond the ranges of Go's int. -/
import Derived.Test.YtjkjipfpgonceaaPFnExactLeverRowx3
set_option linter.unusedVariables false
set_option linter.unusedSimpArgs false
namespace Go.Proofs.Ytjkjipfpgonceaa.Pure
open Go.RowKit Go.Proofs.YtjkjipfpgonceaaW.PrintWords Go.Proofs.YtjkjipfpgonceaaW.PrintLast Go.Proofs.Ytjkjipfpgonceaa.PFnExactLeverRow

theorem wrap_id {x : Int} (h0 : -9223372036854775808 ≤ x) (h1 : x ≤ 9223372036854775807) : wrap64 x = x := by
  unfold wrap64
  omega
theorem wf64 {x : Int} (h : (Lit.int .i64 x).wf = true) : -9223372036854775808 ≤ x ∧ x ≤ 9223372036854775807 := by
  simp [Lit.wf, IntKind.min, IntKind.max, IntKind.signed, IntKind.bits] at h
  omega
theorem l1In_eq (a b c : Int) : spec_l1In.f a b c = some (decide (b ≤ a ∧ a ≤ c)) := by
  unfold spec_l1In.f
  split <;> simp_all
  omega
theorem within_eq (a b c : Int) : impl_within.f a b c = some (decide (b ≤ a ∧ a ≤ c)) := by
  unfold impl_within.f
  split <;> simp_all
  omega
def StageOk (t a b : Int) : Prop := (t = 1 ∨ t = 3) ∧ (1 ≤ a ∧ a ≤ 24) ∧ (1 ≤ b ∧ b ≤ 24) ∨ t = 2 ∧ (1 ≤ a ∧ a ≤ 24) ∧ b = 0 ∨ t = 4 ∧ (1 ≤ a ∧ a ≤ 24) ∧ (1 ≤ b ∧ b ≤ 24) ∧ b ≤ a ∨ t = 5 ∧ (1 ≤ a ∧ a ≤ 24) ∧ (1 ≤ b ∧ b ≤ 24) ∧ b < a
instance (t a b : Int) : Decidable (StageOk t a b) := by unfold StageOk; infer_instance
theorem l7Two_eq (a b : Int) : spec_l7Two.f a b = some (decide ((1 ≤ a ∧ a ≤ 24) ∧ (1 ≤ b ∧ b ≤ 24))) := by
  simp only [spec_l7Two.f, l1In_eq, Option.bind_some]
  by_cases h : 1 ≤ a ∧ a ≤ 24 <;> simp [h]
theorem isRatio_eq (a : Int) : impl_isRatio.f a = some (decide (1 ≤ a ∧ a ≤ 24)) := by simp only [impl_isRatio.f, within_eq, Option.bind_some]
theorem l7Stage_eq (k : Nat) (hk : 1 ≤ k) (t a b : Int) : spec_l7Stage.f k t a b = some (decide (StageOk t a b)) := by
  obtain ⟨k, rfl⟩ : ∃ m, k = m + 1 := ⟨k - 1, by omega⟩
  simp only [spec_l7Stage.f, spec_l7Stage.j0, l7Two_eq, l1In_eq, Option.bind_some, StageOk]
  by_cases t1 : t = 1
  · subst t1; simp
  by_cases t3 : t = 3
  · subst t3; simp
  by_cases t2 : t = 2
  · subst t2; by_cases h : 1 ≤ a ∧ a ≤ 24 <;> simp [h] <;> rw [Bool.eq_iff_iff] <;> simp
  by_cases t4 : t = 4
  · subst t4; by_cases h : (1 ≤ a ∧ a ≤ 24) ∧ 1 ≤ b ∧ b ≤ 24 <;> simp [h] <;> (simp at h; omega)
  by_cases t5 : t = 5
  · subst t5; by_cases h : (1 ≤ a ∧ a ≤ 24) ∧ 1 ≤ b ∧ b ≤ 24 <;> simp [h] <;> (simp at h; omega)
  simp [t1, t2, t3, t4, t5]
theorem IsStage_eq (k : Nat) (hk : 1 ≤ k) (t a b : Int) : impl_IsStage.f k t a b = some (decide (StageOk t a b)) := by
  obtain ⟨k, rfl⟩ : ∃ m, k = m + 1 := ⟨k - 1, by omega⟩
  simp only [impl_IsStage.f, impl_IsStage.j0, isRatio_eq, Option.bind_some, StageOk]
  by_cases t1 : t = 1
  · subst t1; by_cases h : 1 ≤ a ∧ a ≤ 24 <;> simp [h]
  by_cases t3 : t = 3
  · subst t3; by_cases h : 1 ≤ a ∧ a ≤ 24 <;> simp [h]
  by_cases t2 : t = 2
  · subst t2; by_cases h : 1 ≤ a ∧ a ≤ 24 <;> simp [h] <;> rw [Bool.eq_iff_iff] <;> simp
  by_cases t4 : t = 4
  · subst t4; by_cases h : 1 ≤ a ∧ a ≤ 24 <;> by_cases h2 : 1 ≤ b ∧ b ≤ 24 <;> simp [h, h2]
  by_cases t5 : t = 5
  · subst t5; by_cases h : 1 ≤ a ∧ a ≤ 24 <;> by_cases h2 : 1 ≤ b ∧ b ≤ 24 <;> simp [h, h2]
  simp [t1, t2, t3, t4, t5]
theorem rdL (p s : List S54) (x : S54) : rd_T54 (p ++ x :: s) ((p.length : Int)) = x := by
  simp [rd_T54]
theorem snocI {α : Type} (p : List α) (x : α) (h : p.length < 9223372036854775807) : wrap64 ((p.length : Int) + 1) = ((p ++ [x]).length : Int) := by
  rw [wrap_id (by omega) (by omega)]
  simp
theorem eqLoad_refl (a b : Int) : laws_eqLoad.f a b a b = some true := by simp [laws_eqLoad.f]
theorem eqLoadS_l0 : ∀ (s p : List S54) (k : Nat), (p ++ s).length < 4611686018427387904 → s.length < k → laws_eqLoadS.l0 k (p ++ s) (p ++ s) (p.length : Int) = some true := by
  intro s
  induction s with
  | nil =>
    intro p k hl hk
    obtain ⟨k, rfl⟩ : ∃ m, k = m + 1 := ⟨k - 1, by simp at hk; omega⟩
    simp only [laws_eqLoadS.l0]
    rw [if_neg (by simp)]
  | cons x s ih =>
    intro p k hl hk
    obtain ⟨k, rfl⟩ : ∃ m, k = m + 1 := ⟨k - 1, by simp at hk; omega⟩
    simp only [laws_eqLoadS.l0]
    rw [if_pos (by simp; omega), if_pos (by omega), if_pos (by simp; omega), rdL, eqLoad_refl, Option.bind_some, if_pos rfl, snocI p x (by simp at hl; omega)]
    have e := ih (p ++ [x]) k (by simpa using hl) (by simp at hk; omega)
    rw [List.append_assoc] at e
    exact e
theorem eqLoadS_refl (l : List S54) (k : Nat) (hl : l.length < 4611686018427387904) (hk : l.length < k) : laws_eqLoadS.f k l l = some true := by
  unfold laws_eqLoadS.f
  rw [if_pos rfl]
  exact eqLoadS_l0 l [] k (by simpa using hl) hk
def seqL : Int → Nat → List S54
  | _, 0 => []
  | m, n + 1 => ⟨m, m + 1⟩ :: seqL (m + 2) n
theorem markLoadS_l0 : ∀ (s p : List S54) (m : Int) (k : Nat), (p ++ s).length < 1073741824 → 0 ≤ m → m + 2 * s.length < 4294967296 → s.length < k →
    laws_markLoadS.l0 k (p ++ s) m (p.length : Int) = some (m + 2 * s.length, p ++ seqL m s.length) := by
  intro s
  induction s with
  | nil =>
    intro p m k hl h0 h1 hk
    obtain ⟨k, rfl⟩ : ∃ j, k = j + 1 := ⟨k - 1, by simp at hk; omega⟩
    simp only [laws_markLoadS.l0]
    rw [if_neg (by simp)]
    simp [seqL]
  | cons x s ih =>
    intro p m k hl h0 h1 hk
    obtain ⟨k, rfl⟩ : ∃ j, k = j + 1 := ⟨k - 1, by simp at hk; omega⟩
    simp only [laws_markLoadS.l0]
    simp only [List.length_cons, Int.natCast_add, Int.natCast_one, List.length_append] at h1 hl hk
    rw [if_pos (by simp; omega), if_pos (by omega), Option.bind_some]
    simp only [Int.toNat_natCast, rdL, List.set_append_right _ _ (Nat.le_refl _), Nat.sub_self, List.set_cons_zero]
    rw [snocI p x (by omega), wrap_id (x := m + 1) (by omega) (by omega), wrap_id (x := m + 1 + 1) (by omega) (by omega), List.append_cons]
    rw [show ((p ++ [x]).length : Int) = ((p ++ [(⟨m, m + 1⟩ : S54)]).length : Int) from by simp]
    rw [ih (p ++ [(⟨m, m + 1⟩ : S54)]) (m + 1 + 1) k (by simp; omega) (by omega) (by omega) (by omega)]
    simp [seqL]
    constructor
    · omega
    · rw [show m + 1 + 1 = m + 2 from by omega]
theorem heldLoadS_l0 : ∀ (n : Nat) (p : List S54) (m : Int) (k : Nat), p.length + n < 1073741824 → 0 ≤ m → m + 2 * n < 4294967296 → n < k →
    laws_heldLoadS.l0 k (p ++ seqL m n) m (p.length : Int) = some (m + 2 * n) := by
  intro n
  induction n with
  | zero =>
    intro p m k hl h0 h1 hk
    obtain ⟨k, rfl⟩ : ∃ j, k = j + 1 := ⟨k - 1, by omega⟩
    simp only [laws_heldLoadS.l0]
    rw [if_neg (by simp [seqL])]
    simp
  | succ n ih =>
    intro p m k hl h0 h1 hk
    obtain ⟨k, rfl⟩ : ∃ j, k = j + 1 := ⟨k - 1, by omega⟩
    rw [show seqL m (n + 1) = (⟨m, m + 1⟩ : S54) :: seqL (m + 2) n from rfl]
    simp only [laws_heldLoadS.l0]
    rw [if_pos (by simp; omega), if_pos (by omega), rdL, if_pos rfl, wrap_id (x := m + 1) (by omega) (by omega), if_pos rfl, wrap_id (x := m + 1 + 1) (by omega) (by omega), snocI p (⟨m, m + 1⟩ : S54) (by omega), List.append_cons]
    rw [show m + 1 + 1 = m + 2 from by omega]
    rw [ih (p ++ [(⟨m, m + 1⟩ : S54)]) (m + 2) k (by simp; omega) (by omega) (by omega) (by omega)]
    congr 1
    omega
theorem markLoadS_eq (l : List S54) (m : Int) (k : Nat) (hl : l.length < 1073741824) (h0 : 0 ≤ m) (h1 : m + 2 * l.length < 4294967296) (hk : l.length < k) : laws_markLoadS.f k l m = some (m + 2 * l.length, seqL m l.length) :=
  markLoadS_l0 l [] m k (by simpa using hl) h0 h1 hk
theorem heldLoadS_eq (n : Nat) (m : Int) (k : Nat) (hl : n < 1073741824) (h0 : 0 ≤ m) (h1 : m + 2 * n < 4294967296) (hk : n < k) : laws_heldLoadS.f k (seqL m n) m = some (m + 2 * n) :=
  heldLoadS_l0 n [] m k (by simpa using hl) h0 h1 hk
theorem isWeight_eq (a : Int) : impl_isWeight.f a = some (decide (1 ≤ a ∧ a ≤ 99)) := by simp only [impl_isWeight.f, within_eq, Option.bind_some]
theorem same (k : Nat) (hk : 1 ≤ k) (a b c d e : Int) : impl_LeverRow.f k a b c d e = spec_LeverRow.f k a b c d e := by
  simp only [impl_LeverRow.f, spec_LeverRow.f, l7Stage_eq k hk, IsStage_eq k hk, isWeight_eq, l1In_eq, Option.bind_some]
theorem told (k : Nat) (hk : 1 ≤ k) (a b c d e : Int) : ∃ r : List S54 × Bool, spec_LeverRow.f k a b c d e = some r ∧ r.1.length ≤ 2 := by
  simp only [spec_LeverRow.f, l7Stage_eq k hk, l1In_eq, Option.bind_some]
  (repeat' split) <;> exact ⟨_, rfl, by simp⟩
theorem FnExactLeverRow : ∀ (a0_0 : Int) (a0_1 : Int) (a0_2 : Int) (a1 : Int) (a2 : Int), ((Lit.int .i64 a0_0).wf = true) → ((Lit.int .i64 a0_1).wf = true) → ((Lit.int .i64 a0_2).wf = true) → ((Lit.int .i64 a1).wf = true) → ((Lit.int .i64 a2).wf = true) → ∃ k, laws_FnExactLeverRow.f k a0_0 a0_1 a0_2 a1 a2 = some true := by
  intro a b c d e _ _ _ _ _
  refine ⟨10, ?_⟩
  obtain ⟨r, hr, hl⟩ := told 10 (by decide) a b c d e
  have hs : ∀ k, 1 ≤ k → spec_LeverRow.f k a b c d e = some r := fun k hk => by
    rw [← hr]
    simp only [spec_LeverRow.f, l7Stage_eq k hk, l7Stage_eq 10 (by decide)]
  simp only [laws_FnExactLeverRow.f, laws_toStage.f, Option.bind_some, hs 10 (by decide), same 10 (by decide), laws_FnExactLeverRow.j0, laws_FnExactLeverRow.j1]
  rw [eqLoadS_refl _ _ (by omega) (by omega)]
  simp only [Option.bind_some, bne_self_eq_false, if_true, if_false, laws_FnExactLeverRow.j0, laws_FnExactLeverRow.j1, Bool.false_eq_true]
  rw [markLoadS_eq _ _ _ (by omega) (by omega) (by omega) (by omega)]
  simp only [Option.bind_some]
  rw [heldLoadS_eq _ _ _ (by omega) (by omega) (by omega) (by omega)]
  simp only [Option.bind_some]
  rw [if_neg (by omega)]
  simp only [if_true, hs 9 (by decide), same 9 (by decide), Option.bind_some]
  rw [eqLoadS_refl _ _ (by omega) (by omega)]
  simp only [Option.bind_some, bne_self_eq_false, if_true, if_false, laws_FnExactLeverRow.j1, Bool.false_eq_true]
  rw [heldLoadS_eq _ _ _ (by omega) (by omega) (by omega) (by omega)]
  simp only [Option.bind_some]
  rw [if_neg (by omega)]
  simp

end Go.Proofs.Ytjkjipfpgonceaa.Pure

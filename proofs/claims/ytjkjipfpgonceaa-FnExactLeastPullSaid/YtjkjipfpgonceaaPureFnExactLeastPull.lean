/- The pure statement of the law FnExactLeastPull: what the law computes, as a function over numbers and lists, answers true for every input. No conditions beyond the ranges of Go's int. -/
import Derived.Test.YtjkjipfpgonceaaPFnExactLeastPullx4
set_option linter.unusedVariables false
set_option linter.unusedSimpArgs false
namespace Go.Proofs.Ytjkjipfpgonceaa.Pure
open Go.RowKit Go.Proofs.YtjkjipfpgonceaaW.PrintWords Go.Proofs.YtjkjipfpgonceaaW.PrintLast Go.Proofs.Ytjkjipfpgonceaa.PFnExactLeastPull

theorem wrap_id {x : Int} (h0 : -9223372036854775808 ≤ x) (h1 : x ≤ 9223372036854775807) : wrap64 x = x := by
  unfold wrap64
  omega
theorem wf64 {x : Int} (h : (Lit.int .i64 x).wf = true) : -9223372036854775808 ≤ x ∧ x ≤ 9223372036854775807 := by
  simp [Lit.wf, IntKind.min, IntKind.max, IntKind.signed, IntKind.bits] at h
  omega
theorem l1In_eq (a b c : Int) : spec_l1In.f a b c = some (decide (b ≤ a ∧ a ≤ c)) := by
  unfold spec_l1In.f
  split <;> simp_all
  omega
theorem within_eq (a b c : Int) : impl_within.f a b c = some (decide (b ≤ a ∧ a ≤ c)) := by
  unfold impl_within.f
  split <;> simp_all
  omega
def StageOk (t a b : Int) : Prop := (t = 1 ∨ t = 3) ∧ (1 ≤ a ∧ a ≤ 24) ∧ (1 ≤ b ∧ b ≤ 24) ∨ t = 2 ∧ (1 ≤ a ∧ a ≤ 24) ∧ b = 0 ∨ t = 4 ∧ (1 ≤ a ∧ a ≤ 24) ∧ (1 ≤ b ∧ b ≤ 24) ∧ b ≤ a ∨ t = 5 ∧ (1 ≤ a ∧ a ≤ 24) ∧ (1 ≤ b ∧ b ≤ 24) ∧ b < a
instance (t a b : Int) : Decidable (StageOk t a b) := by unfold StageOk; infer_instance
theorem l7Two_eq (a b : Int) : spec_l7Two.f a b = some (decide ((1 ≤ a ∧ a ≤ 24) ∧ (1 ≤ b ∧ b ≤ 24))) := by
  simp only [spec_l7Two.f, l1In_eq, Option.bind_some]
  by_cases h : 1 ≤ a ∧ a ≤ 24 <;> simp [h]
theorem isRatio_eq (a : Int) : impl_isRatio.f a = some (decide (1 ≤ a ∧ a ≤ 24)) := by simp only [impl_isRatio.f, within_eq, Option.bind_some]
theorem l7Stage_eq (k : Nat) (hk : 1 ≤ k) (t a b : Int) : spec_l7Stage.f k t a b = some (decide (StageOk t a b)) := by
  obtain ⟨k, rfl⟩ : ∃ m, k = m + 1 := ⟨k - 1, by omega⟩
  simp only [spec_l7Stage.f, spec_l7Stage.j0, l7Two_eq, l1In_eq, Option.bind_some, StageOk]
  by_cases t1 : t = 1
  · subst t1; simp
  by_cases t3 : t = 3
  · subst t3; simp
  by_cases t2 : t = 2
  · subst t2; by_cases h : 1 ≤ a ∧ a ≤ 24 <;> simp [h] <;> rw [Bool.eq_iff_iff] <;> simp
  by_cases t4 : t = 4
  · subst t4; by_cases h : (1 ≤ a ∧ a ≤ 24) ∧ 1 ≤ b ∧ b ≤ 24 <;> simp [h] <;> (simp at h; omega)
  by_cases t5 : t = 5
  · subst t5; by_cases h : (1 ≤ a ∧ a ≤ 24) ∧ 1 ≤ b ∧ b ≤ 24 <;> simp [h] <;> (simp at h; omega)
  simp [t1, t2, t3, t4, t5]
theorem IsStage_eq (k : Nat) (hk : 1 ≤ k) (t a b : Int) : impl_IsStage.f k t a b = some (decide (StageOk t a b)) := by
  obtain ⟨k, rfl⟩ : ∃ m, k = m + 1 := ⟨k - 1, by omega⟩
  simp only [impl_IsStage.f, impl_IsStage.j0, isRatio_eq, Option.bind_some, StageOk]
  by_cases t1 : t = 1
  · subst t1; by_cases h : 1 ≤ a ∧ a ≤ 24 <;> simp [h]
  by_cases t3 : t = 3
  · subst t3; by_cases h : 1 ≤ a ∧ a ≤ 24 <;> simp [h]
  by_cases t2 : t = 2
  · subst t2; by_cases h : 1 ≤ a ∧ a ≤ 24 <;> simp [h] <;> rw [Bool.eq_iff_iff] <;> simp
  by_cases t4 : t = 4
  · subst t4; by_cases h : 1 ≤ a ∧ a ≤ 24 <;> by_cases h2 : 1 ≤ b ∧ b ≤ 24 <;> simp [h, h2]
  by_cases t5 : t = 5
  · subst t5; by_cases h : 1 ≤ a ∧ a ≤ 24 <;> by_cases h2 : 1 ≤ b ∧ b ≤ 24 <;> simp [h, h2]
  simp [t1, t2, t3, t4, t5]
theorem gcd_same (k : Nat) : ∀ a b, impl_divisor.l0 k a b = spec_l2Gcd.l0 k a b := by
  induction k with
  | zero => intro a b; rfl
  | succ k ih =>
    intro a b
    simp only [impl_divisor.l0, spec_l2Gcd.l0, ih]
theorem gcd_eq : ∀ (k a b : Nat), b < k → spec_l2Gcd.l0 k (a : Int) (b : Int) = some ((Nat.gcd a b : Nat) : Int) := by
  intro k
  induction k with
  | zero => intro a b h; omega
  | succ k ih =>
    intro a b h
    simp only [spec_l2Gcd.l0]
    by_cases hb : b = 0
    · subst hb
      rw [if_neg (by simp)]
      simp
    · rw [if_pos (by omega), if_neg (by omega)]
      rw [show Int.tmod (a : Int) (b : Int) = ((a % b : Nat) : Int) from by simp [Int.tmod]]
      rw [ih b (a % b) (by have := Nat.mod_lt a (Nat.pos_of_ne_zero hb); omega), Nat.gcd_comm b, ← Nat.gcd_rec, Nat.gcd_comm]
def gd (a b : Int) : Int := ((Nat.gcd a.natAbs b.natAbs : Nat) : Int)
theorem gd_pos {a b : Int} (h : 0 < b) : 0 < gd a b := by
  have := Nat.gcd_pos_of_pos_right a.natAbs (show 0 < b.natAbs by omega)
  unfold gd
  omega
theorem gd_dvd (a b : Int) : gd a b ∣ a ∧ gd a b ∣ b := by
  unfold gd
  exact ⟨Int.ofNat_dvd_left.2 (Nat.gcd_dvd_left _ _), Int.ofNat_dvd_left.2 (Nat.gcd_dvd_right _ _)⟩
/-- The fraction a / b in lowest terms. -/
def cut (a b : Int) : Int × Int := (a / gd a b, b / gd a b)
theorem cut_abs {a b : Int} (h : 0 < b) : (cut a b).1.natAbs ≤ a.natAbs ∧ 0 < (cut a b).2 ∧ (cut a b).2 ≤ b := by
  have hp := gd_pos (a := a) h
  obtain ⟨⟨x, hx⟩, ⟨y, hy⟩⟩ := gd_dvd a b
  unfold cut
  generalize gd a b = g at *
  subst hx hy
  simp only
  rw [Int.mul_ediv_cancel_left _ (by omega), Int.mul_ediv_cancel_left _ (by omega)]
  have hy : 0 < y := by
    rcases Int.lt_or_le 0 y with hy | hy
    · exact hy
    · have := Int.mul_nonpos_of_nonneg_of_nonpos (Int.le_of_lt hp) hy
      omega
  refine ⟨?_, hy, ?_⟩
  · rw [Int.natAbs_mul]
    have : 1 ≤ g.natAbs := by omega
    exact Nat.le_mul_of_pos_left _ this
  · have := Int.mul_le_mul_of_nonneg_right (show 1 ≤ g by omega) (Int.le_of_lt hy)
    omega
theorem cut_nonneg {a b : Int} (h : 0 < b) (ha : 0 ≤ a) : 0 ≤ (cut a b).1 := Int.ediv_nonneg ha (Int.le_of_lt (gd_pos h))
theorem cut_pos {a b : Int} (h : 0 < b) (ha : 0 < a) : 0 < (cut a b).1 := by
  have hp := gd_pos (a := a) h
  obtain ⟨x, hx⟩ := (gd_dvd a b).1
  show 0 < a / gd a b
  generalize gd a b = g at *
  subst hx
  rw [Int.mul_ediv_cancel_left _ (by omega)]
  rcases Int.lt_or_le 0 x with hy | hy
  · exact hy
  · have := Int.mul_nonpos_of_nonneg_of_nonpos (Int.le_of_lt hp) hy
    omega
theorem l2Cut_eq (k : Nat) (a b : Int) (hb : 0 < b) (hB : b ≤ 4611686018427387904) (ha : -4611686018427387904 ≤ a ∧ a ≤ 4611686018427387904) (hk : b.toNat < k) : spec_l2Cut.f k a b = some (cut a b) := by
  unfold spec_l2Cut.f spec_l1Most.f spec_l2Gcd.f
  rw [wrap_id (x := -a) (by omega) (by omega)]
  have e : (if a > -a then some a else some (-a)) = some ((a.natAbs : Nat) : Int) := by
    split <;> (congr 1; omega)
  rw [e, Option.bind_some]
  have hb2 : b = ((b.natAbs : Nat) : Int) := by omega
  have hc := cut_abs (a := a) hb
  have hp := gd_pos (a := a) hb
  have hd := gd_dvd a b
  rw [show spec_l2Gcd.l0 k (a.natAbs : Int) b = some (gd a b) from by
    unfold gd
    rw [← gcd_eq k a.natAbs b.natAbs (by omega), ← hb2]]
  rw [Option.bind_some, if_neg (by omega)]
  unfold cut at hc ⊢
  simp only at hc
  rw [Int.tdiv_eq_ediv_of_dvd hd.1, Int.tdiv_eq_ediv_of_dvd hd.2, wrap_id (by omega) (by omega), wrap_id (by omega) (by omega)]
theorem fraction_same (k : Nat) (a b : Int) : impl_fraction.f k a b = spec_l2Cut.f k a b := by
  unfold impl_fraction.f spec_l2Cut.f impl_divisor.f spec_l2Gcd.f
  have e : spec_l1Most.f a (wrap64 (-a)) = some (mx a (wrap64 (-a))) := by
    unfold spec_l1Most.f mx
    (repeat' split) <;> (first | rfl | omega | (congr 1; omega))
  rw [e, Option.bind_some, gcd_same]
theorem snocI {α : Type} (p : List α) (x : α) (h : p.length < 9223372036854775807) : wrap64 ((p.length : Int) + 1) = ((p ++ [x]).length : Int) := by
  rw [wrap_id (by omega) (by omega)]
  simp
theorem sz_id (n : Nat) (h : n ≤ 9223372036854775807) : wrap64 (1048576 - (n : Int)) = 1048576 - (n : Int) := wrap_id (by omega) (by omega)
theorem set_rep {α : Type} (q : List α) (z y : α) (n : Nat) : (q ++ List.replicate (n + 1) z).set q.length y = (q ++ [y]) ++ List.replicate n z := by
  rw [List.set_append_right _ _ (Nat.le_refl _), Nat.sub_self]
  simp [List.replicate_succ]
theorem rdLS (p s : List S23) (x : S23) : rd_T23 (p ++ x :: s) ((p.length : Int)) = x := by
  simp [rd_T23]
theorem rdIS (p s : List S25) (x : S25) : rd_T25 (p ++ x :: s) ((p.length : Int)) = x := by
  simp [rd_T25]
def cvS (x : S23) : S25 := ⟨x.f0, x.f1, x.f2⟩
theorem toStageS_l0 : ∀ (s p : List S23) (q : List S25) (k : Nat), p.length = q.length → (p ++ s).length < 4611686018427387904 → s.length < k →
    laws_toStageS.l0 k (p ++ s) (q ++ List.replicate s.length z25) (p.length : Int) = some (q ++ s.map cvS) := by
  intro s
  induction s with
  | nil =>
    intro p q k hpq hl hk
    obtain ⟨k, rfl⟩ : ∃ m, k = m + 1 := ⟨k - 1, by simp at hk; omega⟩
    simp only [laws_toStageS.l0]
    rw [if_neg (by simp)]
    simp
  | cons x s ih =>
    intro p q k hpq hl hk
    obtain ⟨k, rfl⟩ : ∃ m, k = m + 1 := ⟨k - 1, by simp at hk; omega⟩
    simp only [laws_toStageS.l0, laws_toStage.f, Option.bind_some]
    rw [if_pos (by simp; omega), if_pos (by omega), if_pos (by simp; omega), rdLS, snocI p x (by simp at hl; omega)]
    rw [show (((p.length : Nat) : Int)).toNat = q.length from by omega, List.length_cons, set_rep, List.append_cons p x s, ih (p ++ [x]) _ k (by simp [hpq]) (by simpa using hl) (by simp at hk; omega)]
    simp [cvS]
theorem toStageS_eq (l : List S23) (k : Nat) (hl : l.length ≤ 1048576) (hk : l.length < k) : laws_toStageS.f k l = some (l.map cvS) := by
  unfold laws_toStageS.f
  rw [if_pos (by omega), if_pos (by omega)]
  exact toStageS_l0 l [] [] k rfl (by simp; omega) hk
theorem eqStage_refl (a b c : Int) : laws_eqStage.f a b c a b c = some true := by simp [laws_eqStage.f]
theorem eqStageS_l0 : ∀ (s p : List S25) (k : Nat), (p ++ s).length < 4611686018427387904 → s.length < k → laws_eqStageS.l0 k (p ++ s) (p ++ s) (p.length : Int) = some true := by
  intro s
  induction s with
  | nil =>
    intro p k hl hk
    obtain ⟨k, rfl⟩ : ∃ m, k = m + 1 := ⟨k - 1, by simp at hk; omega⟩
    simp only [laws_eqStageS.l0]
    rw [if_neg (by simp)]
  | cons x s ih =>
    intro p k hl hk
    obtain ⟨k, rfl⟩ : ∃ m, k = m + 1 := ⟨k - 1, by simp at hk; omega⟩
    simp only [laws_eqStageS.l0]
    rw [if_pos (by simp; omega), if_pos (by omega), if_pos (by simp; omega), rdIS, eqStage_refl, Option.bind_some, if_pos rfl, snocI p x (by simp at hl; omega)]
    have e := ih (p ++ [x]) k (by simpa using hl) (by simp at hk; omega)
    rw [List.append_assoc] at e
    exact e
theorem eqStageS_refl (l : List S25) (k : Nat) (hl : l.length < 4611686018427387904) (hk : l.length < k) : laws_eqStageS.f k l l = some true := by
  unfold laws_eqStageS.f
  rw [if_pos rfl]
  exact eqStageS_l0 l [] k (by simpa using hl) hk
theorem szStageS_eq (l : List S23) (h : l.length ≤ 9223372036854775807) : laws_szStageS.f l 1048576 = some (if 1048576 < l.length then -1 else 1048576 - (l.length : Int)) := by
  unfold laws_szStageS.f
  rw [sz_id _ h]
  by_cases hh : 1048576 < l.length
  · rw [if_pos (by omega), if_pos hh]
  · rw [if_neg (by omega), if_neg hh]
def okS (x : S25) : Bool := decide (StageOk x.f0 x.f1 x.f2)
theorem l7Stages_l0 (m : Int) : ∀ (s p : List S25) (k : Nat), (p ++ s).length < 4611686018427387904 → s.length + 1 < k →
    spec_l7Stages.l0 k (p ++ s) m (p.length : Int) = some (s.all okS && decide (((p ++ s).length : Int) ≤ m)) := by
  intro s
  induction s with
  | nil =>
    intro p k hl hk
    obtain ⟨k, rfl⟩ : ∃ m, k = m + 1 := ⟨k - 1, by simp at hk; omega⟩
    simp only [spec_l7Stages.l0]
    rw [if_neg (by simp)]
    simp
  | cons x s ih =>
    intro p k hl hk
    obtain ⟨k, rfl⟩ : ∃ m, k = m + 1 := ⟨k - 1, by simp at hk; omega⟩
    simp only [spec_l7Stages.l0]
    rw [if_pos (by simp; omega), if_pos (by omega), rdIS, l7Stage_eq k (by simp at hk; omega), Option.bind_some, snocI p x (by simp at hl; omega), List.append_cons p x s]
    rw [ih (p ++ [x]) k (by simpa using hl) (by simp at hk; omega)]
    by_cases h : StageOk x.f0 x.f1 x.f2 <;> simp [h, okS]
theorem l7Stages_eq (l : List S25) (m : Int) (k : Nat) (hl : l.length < 4611686018427387904) (hk : l.length + 1 < k) : spec_l7Stages.f k l m = some (l.all okS && decide ((l.length : Int) ≤ m)) :=
  l7Stages_l0 m l [] k (by simpa using hl) hk
theorem isChain_l0 (y : List S25) : ∀ (s p : List S25) (k : Nat), (p ++ s).length < 4611686018427387904 → s.length + 1 < k →
    impl_isChain.l0 k y (p ++ s) ((p ++ s).length : Int) (p.length : Int) = some (s.all okS && decide ((y.length : Int) ≤ 5)) := by
  intro s
  induction s with
  | nil =>
    intro p k hl hk
    obtain ⟨k, rfl⟩ : ∃ m, k = m + 1 := ⟨k - 1, by simp at hk; omega⟩
    simp only [impl_isChain.l0]
    rw [if_neg (by simp)]
    simp
  | cons x s ih =>
    intro p k hl hk
    obtain ⟨k, rfl⟩ : ∃ m, k = m + 1 := ⟨k - 1, by simp at hk; omega⟩
    simp only [impl_isChain.l0]
    rw [if_pos (by simp; omega), if_pos (by omega), if_pos (by simp; omega), rdIS, IsStage_eq k (by simp at hk; omega), Option.bind_some, snocI p x (by simp at hl; omega), List.append_cons p x s]
    rw [ih (p ++ [x]) k (by simpa using hl) (by simp at hk; omega)]
    by_cases h : StageOk x.f0 x.f1 x.f2 <;> simp [h, okS]
theorem isChain_eq (l : List S25) (k : Nat) (hl : l.length < 4611686018427387904) (hk : l.length + 1 < k) : impl_isChain.f k l = some (l.all okS && decide ((l.length : Int) ≤ 5)) :=
  isChain_l0 l l [] k (by simpa using hl) hk
theorem gain_same (k : Nat) (a b c : Int) : impl_stageGain.f k a b c = spec_l7Gain.f k a b c := by
  unfold impl_stageGain.f spec_l7Gain.f
  simp only [fraction_same]
def gainOf (t a b : Int) : Int × Int := if t = 2 then (a, 1) else if t = 5 then cut (2 * a) (a - b) else cut a b
theorem gain_eq (k : Nat) (hk : 100 ≤ k) (t a b : Int) (h : StageOk t a b) : spec_l7Gain.f k t a b = some (gainOf t a b) := by
  unfold StageOk at h
  unfold spec_l7Gain.f gainOf
  by_cases h2 : t = 2
  · rw [if_pos h2, if_pos h2]
  · rw [if_neg h2, if_neg h2]
    by_cases h5 : t = 5
    · rw [if_pos h5, if_pos h5, wrap_id (x := 2 * a) (by omega) (by omega), wrap_id (x := a - b) (by omega) (by omega), l2Cut_eq _ _ _ (by omega) (by omega) (by omega) (by omega)]
      rfl
    · rw [if_neg h5, if_neg h5, l2Cut_eq _ _ _ (by omega) (by omega) (by omega) (by omega)]
      rfl
theorem gain_range (t a b : Int) (h : StageOk t a b) : 0 < (gainOf t a b).1 ∧ (gainOf t a b).1 ≤ 48 ∧ 0 < (gainOf t a b).2 ∧ (gainOf t a b).2 ≤ 24 := by
  unfold StageOk at h
  unfold gainOf
  split
  · simp; omega
  · split
    · have h1 := cut_abs (a := 2 * a) (b := a - b) (by omega)
      have h2 := cut_pos (a := 2 * a) (b := a - b) (by omega) (by omega)
      omega
    · have h1 := cut_abs (a := a) (b := b) (by omega)
      have h2 := cut_pos (a := a) (b := b) (by omega) (by omega)
      omega
def chainFrom : Int → Int → List S25 → Int × Int
  | n, d, [] => (n, d)
  | n, d, x :: s => chainFrom (cut (n * (gainOf x.f0 x.f1 x.f2).1) (d * (gainOf x.f0 x.f1 x.f2).2)).1 (cut (n * (gainOf x.f0 x.f1 x.f2).1) (d * (gainOf x.f0 x.f1 x.f2).2)).2 s
theorem mul_le_pow {n m e a : Int} (h0 : 0 < n) (h1 : n ≤ e) (h2 : 0 < m) (h3 : m ≤ a) : 0 < n * m ∧ n * m ≤ e * a :=
  ⟨Int.mul_pos h0 h2, Int.mul_le_mul h1 h3 (by omega) (by omega)⟩
theorem pows {j : Nat} (h : j ≤ 5) : (48 : Int) ^ j ≤ 254803968 ∧ (24 : Int) ^ j ≤ 7962624 := by
  have : j = 0 ∨ j = 1 ∨ j = 2 ∨ j = 3 ∨ j = 4 ∨ j = 5 := by omega
  rcases this with rfl | rfl | rfl | rfl | rfl | rfl <;> decide
theorem l7Chain_l0 : ∀ (s p : List S25) (n d : Int) (j k : Nat), s.all okS = true → (p ++ s).length < 4611686018427387904 → s.length + j ≤ 5 → 0 < n → n ≤ (48 : Int) ^ j → 0 < d → d ≤ (24 : Int) ^ j → 8000000 + s.length < k →
    spec_l7Chain.l0 k (p ++ s) (p.length : Int) n d = some (chainFrom n d s) ∧ (0 < (chainFrom n d s).1 ∧ (chainFrom n d s).1 ≤ 254803968 ∧ 0 < (chainFrom n d s).2 ∧ (chainFrom n d s).2 ≤ 7962624) := by
  intro s
  induction s with
  | nil =>
    intro p n d j k hs hl hj hn hN hd hD hk
    obtain ⟨k, rfl⟩ : ∃ m, k = m + 1 := ⟨k - 1, by omega⟩
    simp only [spec_l7Chain.l0]
    rw [if_neg (by simp)]
    have h1 : (48 : Int) ^ j ≤ 254803968 ∧ (24 : Int) ^ j ≤ 7962624 := pows (by simpa using hj)
    exact ⟨rfl, hn, by simp [chainFrom]; omega, hd, by simp [chainFrom]; omega⟩
  | cons x s ih =>
    intro p n d j k hs hl hj hn hN hd hD hk
    obtain ⟨k, rfl⟩ : ∃ m, k = m + 1 := ⟨k - 1, by omega⟩
    simp only [List.all_cons, Bool.and_eq_true] at hs
    have hx : StageOk x.f0 x.f1 x.f2 := of_decide_eq_true hs.1
    have hr := gain_range _ _ _ hx
    simp only [spec_l7Chain.l0]
    rw [if_pos (by simp; omega), if_pos (by omega), rdIS, gain_eq k (by omega) _ _ _ hx, Option.bind_some]
    have h1 : (48 : Int) ^ (j + 1) ≤ 254803968 ∧ (24 : Int) ^ (j + 1) ≤ 7962624 := pows (by simp at hj; omega)
    have m1 := mul_le_pow hn hN hr.1 hr.2.1
    have m2 := mul_le_pow hd hD hr.2.2.1 hr.2.2.2
    rw [← Int.pow_succ] at m1 m2
    rw [wrap_id (by omega) (by omega), wrap_id (by omega) (by omega), l2Cut_eq k _ _ (by omega) (by omega) (by omega) (by omega), Option.bind_some, snocI p x (by simp at hl; omega), List.append_cons p x s]
    have ca := cut_abs (a := n * (gainOf x.f0 x.f1 x.f2).1) (b := d * (gainOf x.f0 x.f1 x.f2).2) m2.1
    have cp := cut_pos (a := n * (gainOf x.f0 x.f1 x.f2).1) (b := d * (gainOf x.f0 x.f1 x.f2).2) m2.1 m1.1
    exact ih (p ++ [x]) _ _ (j + 1) k hs.2 (by simpa using hl) (by simp at hj; omega) cp (by omega) ca.2.1 (by omega) (by simp at hk; omega)
theorem l7Chain_eq (l : List S25) (k : Nat) (hs : l.all okS = true) (hl : l.length ≤ 5) (hk : 8000006 ≤ k) : spec_l7Chain.f k l = some (chainFrom 1 1 l) ∧ (0 < (chainFrom 1 1 l).1 ∧ (chainFrom 1 1 l).1 ≤ 254803968 ∧ 0 < (chainFrom 1 1 l).2 ∧ (chainFrom 1 1 l).2 ≤ 7962624) :=
  l7Chain_l0 l [] 1 1 0 k hs (by simp; omega) (by simpa using hl) (by omega) (by simp) (by omega) (by simp) (by omega)
theorem chain_same_l0 : ∀ (k : Nat) (l : List S25) (i n d : Int), impl_chainGain.l0 k l (l.length : Int) i n d = spec_l7Chain.l0 k l i n d := by
  intro k
  induction k with
  | zero => intro l i n d; rfl
  | succ k ih =>
    intro l i n d
    simp only [impl_chainGain.l0, spec_l7Chain.l0, gain_same, fraction_same, ih]
    by_cases h : i < (l.length : Int)
    · simp [h]
    · simp [h]
theorem chain_same (k : Nat) (l : List S25) : impl_chainGain.f k l = spec_l7Chain.f k l := chain_same_l0 k l 0 1 1
theorem bne_refl (b : Bool) : (b != b) = false := by cases b <;> rfl
theorem ceil_same (g x y : Int) (hg : 0 < g) (hy : 0 < y) : (g * x + g * y - 1) / (g * y) = (x + y - 1) / y := by
  have hgy : 0 < g * y := Int.mul_pos hg hy
  generalize hq : (x + y - 1) / y = q
  have h1 : q * y ≤ x + y - 1 := by rw [← hq]; exact Int.ediv_mul_le _ (by omega)
  have h2 : x + y - 1 < (q + 1) * y := by rw [← hq]; exact Int.lt_ediv_add_one_mul_self _ hy
  have h3 : x + y ≤ (q + 1) * y := by omega
  have m1 := Int.mul_le_mul_of_nonneg_left h1 (Int.le_of_lt hg)
  have m3 := Int.mul_le_mul_of_nonneg_left h3 (Int.le_of_lt hg)
  have e1 : g * (x + y - 1) = g * x + g * y - g := by rw [Int.mul_sub, Int.mul_add, Int.mul_one]
  have e3 : g * (x + y) = g * x + g * y := Int.mul_add _ _ _
  have e4 : g * (q * y) = q * (g * y) := by rw [Int.mul_left_comm]
  have e5 : g * ((q + 1) * y) = (q + 1) * (g * y) := by rw [Int.mul_left_comm]
  have e6 : (q + 1) * (g * y) = q * (g * y) + g * y := by rw [Int.add_mul, Int.one_mul]
  refine (Int.ediv_eq_iff_of_pos hgy).2 ?_
  constructor <;> omega
theorem isHaul_eq (a : Int) : impl_isHaul.f a = some (decide (0 ≤ a ∧ a ≤ 1000000)) := by simp only [impl_isHaul.f, within_eq, Option.bind_some]
theorem both (l : List S25) (a : Int) (hl : l.length ≤ 1048576) : ∃ r : Int × Bool, ∀ k, 300000000 + l.length ≤ k → spec_LeastPull.f k l a = some r ∧ impl_LeastPull.f k l a = some r := by
  by_cases hs : (l.all okS && decide ((l.length : Int) ≤ 5)) = true
  · by_cases ha : 0 ≤ a ∧ a ≤ 1000000
    · have h2 := hs
      simp only [Bool.and_eq_true, decide_eq_true_eq] at h2
      refine ⟨((a * (chainFrom 1 1 l).2 + (chainFrom 1 1 l).1 - 1) / (chainFrom 1 1 l).1, true), fun k hk => ?_⟩
      obtain ⟨k, rfl⟩ : ∃ m, k = m + 1 := ⟨k - 1, by omega⟩
      have hr := fun j hj => (l7Chain_eq l j h2.1 (by omega) hj).1
      have hb := (l7Chain_eq l k h2.1 (by omega) (by omega)).2
      generalize chainFrom 1 1 l = c at hr hb ⊢
      obtain ⟨n, d⟩ := c
      simp only at hb ⊢
      have m0 : 0 ≤ a * d := Int.mul_nonneg ha.1 (by omega)
      have m1 : a * d ≤ 1000000 * 7962624 := Int.mul_le_mul ha.2 (by omega) (by omega) (by omega)
      unfold spec_LeastPull.f spec_l7Ask.f impl_LeastPull.f impl_PullFor.f
      rw [l7Stages_eq _ _ _ (by omega) (by omega), isChain_eq _ _ (by omega) (by omega), Option.bind_some, Option.bind_some, if_pos hs, if_pos hs, l1In_eq, isHaul_eq]
      simp only [Option.bind_some, ha, and_self, decide_true, if_true, impl_PullFor.j0, Bool.not_true, Bool.false_eq_true, if_false, chain_same, fraction_same, hr _ (show 8000006 ≤ k + 1 by omega), hr k (by omega)]
      rw [if_neg (by omega), wrap_id (x := a * d) (by omega) (by omega), l2Cut_eq k _ _ (by omega) (by omega) (by omega) (by omega)]
      simp only [Option.bind_some, if_true]
      have ca := cut_abs (a := a * d) (b := n) (by omega)
      have cn := cut_nonneg (a := a * d) (b := n) (by omega) m0
      rw [if_neg (by omega)]
      rw [wrap_id (x := a * d + n) (by omega) (by omega), wrap_id (x := a * d + n - 1) (by omega) (by omega), wrap_id (x := (cut (a * d) n).1 + (cut (a * d) n).2) (by omega) (by omega), wrap_id (x := (cut (a * d) n).1 + (cut (a * d) n).2 - 1) (by omega) (by omega)]
      rw [Int.tdiv_eq_ediv_of_nonneg (by omega), Int.tdiv_eq_ediv_of_nonneg (by omega)]
      have hg := gd_pos (a := a * d) (b := n) (by omega)
      have hd := gd_dvd (a * d) n
      have key : ((cut (a * d) n).1 + (cut (a * d) n).2 - 1) / (cut (a * d) n).2 = (a * d + n - 1) / n := by
        have hy := ca.2.1
        unfold cut at hy ⊢
        simp only at hy ⊢
        generalize gd (a * d) n = g at *
        obtain ⟨⟨x, hx⟩, ⟨y, hyy⟩⟩ := hd
        rw [hyy, Int.mul_ediv_cancel_left _ (by omega)] at hy
        rw [hx, hyy, Int.mul_ediv_cancel_left _ (by omega), Int.mul_ediv_cancel_left _ (by omega)]
        exact (ceil_same g x y hg hy).symm
      rw [key]
      have r0 : 0 ≤ (a * d + n - 1) / n := Int.ediv_nonneg (by omega) (by omega)
      have r1 : (a * d + n - 1) / n ≤ a * d + n - 1 := Int.ediv_le_self _ (by omega)
      rw [wrap_id (by omega) (by omega)]
      exact ⟨rfl, rfl⟩
    · refine ⟨(0, false), fun k hk => ?_⟩
      obtain ⟨k, rfl⟩ : ∃ m, k = m + 1 := ⟨k - 1, by omega⟩
      unfold spec_LeastPull.f spec_l7Ask.f impl_LeastPull.f impl_PullFor.f
      rw [l7Stages_eq _ _ _ (by omega) (by omega), isChain_eq _ _ (by omega) (by omega), Option.bind_some, Option.bind_some, if_pos hs, if_pos hs, l1In_eq, isHaul_eq]
      simp [ha, impl_PullFor.j0]
  · refine ⟨(0, false), fun k hk => ?_⟩
    obtain ⟨k, rfl⟩ : ∃ m, k = m + 1 := ⟨k - 1, by omega⟩
    unfold spec_LeastPull.f spec_l7Ask.f impl_LeastPull.f impl_PullFor.f
    rw [l7Stages_eq _ _ _ (by omega) (by omega), isChain_eq _ _ (by omega) (by omega), Option.bind_some, Option.bind_some, if_neg hs, if_neg hs]
    simp [impl_PullFor.j0]
theorem FnExactLeastPull : ∀ (l0 : List (S23)) (a1 : Int), (l0.length ≤ 9223372036854775807) → (∀ x_ ∈ l0, ((Lit.int .i64 x_.f0).wf = true) ∧ ((Lit.int .i64 x_.f1).wf = true) ∧ ((Lit.int .i64 x_.f2).wf = true)) → ((Lit.int .i64 a1).wf = true) → ∃ k, laws_FnExactLeastPull.f k l0 a1 = some true := by
  intro l a hl _ _
  refine ⟨300000000 + l.length + 2, ?_⟩
  unfold laws_FnExactLeastPull.f
  rw [szStageS_eq l hl, Option.bind_some]
  by_cases hb : 1048576 < l.length
  · rw [if_pos hb, if_pos (by decide)]
  have h2 : (l.map cvS).length ≤ 1048576 := by simp; omega
  have h3 : (l.map cvS).length = l.length := by simp
  obtain ⟨r, hr⟩ := both (l.map cvS) a h2
  have hs := fun k hk => (hr k hk).1
  have hi := fun k hk => (hr k hk).2
  rw [if_neg hb, if_neg (by omega)]
  simp (disch := omega) only [laws_FnExactLeastPull.j0, toStageS_eq, hs, hi, eqStageS_refl, Option.bind_some, bne_refl, if_true, Bool.false_eq_true, if_false]

end Go.Proofs.Ytjkjipfpgonceaa.Pure

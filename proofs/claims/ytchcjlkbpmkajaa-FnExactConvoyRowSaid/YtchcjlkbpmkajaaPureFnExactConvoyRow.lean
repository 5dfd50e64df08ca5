/- The pure statement of the law FnExactConvoyRow: what the law computes, as a function over numbers and lists, answers true for every input. No conditions beyond the ranges of Go's int. -/
import Derived.Test.YtchcjlkbpmkajaaPFnExactConvoyRowx6
set_option linter.unusedVariables false
set_option linter.unusedSimpArgs false
namespace Go.Proofs.Ytchcjlkbpmkajaa.Pure
open Go.RowKit Go.Proofs.YtchcjlkbpmkajaaW.PrintWords Go.Proofs.YtchcjlkbpmkajaaW.PrintLast Go.Proofs.Ytchcjlkbpmkajaa.PFnExactConvoyRow

theorem wrap_id {x : Int} (h0 : -9223372036854775808 ≤ x) (h1 : x ≤ 9223372036854775807) : wrap64 x = x := by
  unfold wrap64
  omega
theorem wf64 {x : Int} (h : (Lit.int .i64 x).wf = true) : -9223372036854775808 ≤ x ∧ x ≤ 9223372036854775807 := by
  simp [Lit.wf, IntKind.min, IntKind.max, IntKind.signed, IntKind.bits] at h
  omega
theorem l1In_eq (a b c : Int) : spec_l1In.f a b c = some (decide (b ≤ a ∧ a ≤ c)) := by
  unfold spec_l1In.f
  split <;> simp_all
  omega
theorem within_eq (a b c : Int) : impl_within.f a b c = some (decide (b ≤ a ∧ a ≤ c)) := by
  unfold impl_within.f
  split <;> simp_all
  omega
def BeamOk (a b c : Int) : Prop := 1 ≤ a ∧ a ≤ 60 ∧ 0 ≤ b ∧ b < c ∧ c ≤ a
instance (a b c : Int) : Decidable (BeamOk a b c) := by unfold BeamOk; infer_instance
theorem l6Beam_eq (a b c : Int) : spec_l6Beam.f a b c = some (decide (BeamOk a b c)) := by
  unfold spec_l6Beam.f
  simp only [l1In_eq, Option.bind_some]
  by_cases h1 : 1 ≤ a ∧ a ≤ 60
  · rw [if_pos (decide_eq_true h1), wrap_id (x := a - 1) (by omega) (by omega)]
    by_cases h2 : 0 ≤ b ∧ b ≤ a - 1
    · rw [if_pos (decide_eq_true h2), wrap_id (x := b + 1) (by omega) (by omega)]
      congr 1
      exact decide_eq_decide.2 ⟨fun h => ⟨h1.1, h1.2, h2.1, by omega, h.2⟩, fun h => ⟨by have := h.2.2.2.1; omega, h.2.2.2.2⟩⟩
    · rw [if_neg (by simpa using h2)]
      congr 1
      exact (decide_eq_false (fun h => h2 ⟨h.2.2.1, by have := h.2.2.2.1; have := h.2.2.2.2; omega⟩)).symm
  · rw [if_neg (by simpa using h1)]
    congr 1
    exact (decide_eq_false (fun h => h1 ⟨h.1, h.2.1⟩)).symm
theorem IsBeam_eq (a b c : Int) : impl_IsBeam.f a b c = some (decide (BeamOk a b c)) := by
  unfold impl_IsBeam.f
  simp only [within_eq, Option.bind_some]
  by_cases h1 : 1 ≤ a ∧ a ≤ 60
  · rw [if_pos (decide_eq_true h1)]
    by_cases h2 : 0 ≤ b
    · rw [if_pos h2]
      by_cases h3 : b < c
      · rw [if_pos h3]
        congr 1
        exact decide_eq_decide.2 ⟨fun h => ⟨h1.1, h1.2, h2, h3, h⟩, fun h => h.2.2.2.2⟩
      · rw [if_neg h3]
        congr 1
        exact (decide_eq_false (fun h => h3 h.2.2.2.1)).symm
    · rw [if_neg h2]
      congr 1
      exact (decide_eq_false (fun h => h2 h.2.2.1)).symm
  · rw [if_neg (by simpa using h1)]
    congr 1
    exact (decide_eq_false (fun h => h1 ⟨h.1, h.2.1⟩)).symm
theorem isOnBeam_eq (a b c p : Int) : impl_isOnBeam.f a b c p = some (decide (BeamOk a b c ∧ 0 ≤ p ∧ p ≤ a)) := by
  unfold impl_isOnBeam.f
  rw [IsBeam_eq, Option.bind_some]
  by_cases h : BeamOk a b c
  · rw [if_pos (decide_eq_true h), within_eq, Option.bind_some]
    simp [h]
  · rw [if_neg (by simpa using h)]
    simp [h]
theorem snocI {α : Type} (p : List α) (x : α) (h : p.length < 9223372036854775807) : wrap64 ((p.length : Int) + 1) = ((p ++ [x]).length : Int) := by
  rw [wrap_id (by omega) (by omega)]
  simp
theorem sz_id (n : Nat) (h : n ≤ 9223372036854775807) : wrap64 (1048576 - (n : Int)) = 1048576 - (n : Int) := wrap_id (by omega) (by omega)
theorem set_rep {α : Type} (q : List α) (z y : α) (n : Nat) : (q ++ List.replicate (n + 1) z).set q.length y = (q ++ [y]) ++ List.replicate n z := by
  rw [List.set_append_right _ _ (Nat.le_refl _), Nat.sub_self]
  simp [List.replicate_succ]
theorem rdL (p s : List S57) (x : S57) : rd_T57 (p ++ x :: s) ((p.length : Int)) = x := by
  simp [rd_T57]
theorem isWeight_eq (a : Int) : impl_isWeight.f a = some (decide (1 ≤ a ∧ a ≤ 99)) := by simp only [impl_isWeight.f, within_eq, Option.bind_some]
def okC (x : S57) : Bool := decide (0 ≤ x.f0 ∧ x.f0 ≤ 20) && decide (1 ≤ x.f1 ∧ x.f1 ≤ 99)
def cvF : Int → List S57 → Bool
  | _, [] => true
  | p, x :: s => okC x && (decide (p ≤ x.f0) && cvF x.f0 s)
def finC : List S57 → Bool
  | [] => false
  | x :: s => decide (1 ≤ ((x :: s).length : Int) ∧ ((x :: s).length : Int) ≤ 6) && (x.f0 == 0)
theorem rdL2 (p s : List S57) (y x : S57) : rd_T57 (p ++ y :: x :: s) (((p ++ [y]).length : Nat) : Int) = x := by
  have h := rdL (p ++ [y]) s x
  rw [List.append_assoc] at h
  exact h
theorem l6Convoy_l0 : ∀ (s p : List S57) (y : S57) (k : Nat), (p ++ y :: s).length < 4611686018427387904 → s.length < k →
    spec_l6Convoy.l0 k (p ++ y :: s) (((p ++ [y]).length : Nat) : Int) = some (cvF y.f0 s && finC (p ++ y :: s)) := by
  intro s
  induction s with
  | nil =>
    intro p y k hl hk
    obtain ⟨k, rfl⟩ : ∃ m, k = m + 1 := ⟨k - 1, by simp at hk; omega⟩
    simp only [spec_l6Convoy.l0]
    rw [if_neg (by simp), l1In_eq, Option.bind_some, if_pos (show (0 : Int) < ((p ++ [y]).length : Int) by simp <;> omega)]
    simp only [cvF, Bool.true_and]
    cases p with
    | nil => by_cases h : 1 ≤ (([] ++ [y]).length : Int) ∧ (([] ++ [y]).length : Int) ≤ 6 <;> simp [finC, rd_T57]
    | cons z p =>
      have h0 : (1 : Int) ≤ (p.length : Int) + 1 + 1 := by omega
      by_cases h : ((p.length : Int) + 1 + 1) ≤ 6 <;> simp [finC, rd_T57, h, h0]
  | cons x s ih =>
    intro p y k hl hk
    obtain ⟨k, rfl⟩ : ∃ m, k = m + 1 := ⟨k - 1, by simp at hk; omega⟩
    simp only [spec_l6Convoy.l0]
    have hp : wrap64 ((((p ++ [y]).length : Nat) : Int) - 1) = (p.length : Int) := by
      rw [wrap_id (by simp <;> omega) (by simp at hl; simp <;> omega)]
      simp
    rw [if_pos (by simp <;> omega), if_pos (by omega), hp, rdL2, rdL, l1In_eq, Option.bind_some, l1In_eq, Option.bind_some, snocI (p ++ [y]) x (by simp at hl; simp <;> omega)]
    rw [if_pos (show (((p ++ [y]).length : Nat) : Int) > 0 by simp <;> omega), if_pos (show (0 : Int) ≤ (p.length : Int) by omega), if_pos (show (p.length : Int) < ((p ++ y :: x :: s).length : Int) by simp <;> omega)]
    have h := ih (p ++ [y]) x k (by simpa using hl) (by simp at hk; omega)
    rw [List.append_assoc] at h
    simp only [List.singleton_append] at h
    rw [h]
    simp only [cvF, okC]
    by_cases h1 : 0 ≤ x.f0 ∧ x.f0 ≤ 20 <;> by_cases h2 : 1 ≤ x.f1 ∧ x.f1 ≤ 99 <;> by_cases h3 : y.f0 ≤ x.f0 <;> simp [h1, h2, h3] <;> omega
theorem IsConvoy_l0 : ∀ (s p : List S57) (y : S57) (k : Nat), (p ++ y :: s).length < 4611686018427387904 → s.length < k →
    impl_IsConvoy.l0 k (p ++ y :: s) (p ++ y :: s) ((p ++ y :: s).length : Int) (((p ++ [y]).length : Nat) : Int) = some (cvF y.f0 s && decide (1 ≤ ((p ++ y :: s).length : Int) ∧ ((p ++ y :: s).length : Int) ≤ 6)) := by
  intro s
  induction s with
  | nil =>
    intro p y k hl hk
    obtain ⟨k, rfl⟩ : ∃ m, k = m + 1 := ⟨k - 1, by simp at hk; omega⟩
    simp only [impl_IsConvoy.l0]
    rw [if_neg (by simp), within_eq]
    simp [cvF]
  | cons x s ih =>
    intro p y k hl hk
    obtain ⟨k, rfl⟩ : ∃ m, k = m + 1 := ⟨k - 1, by simp at hk; omega⟩
    simp only [impl_IsConvoy.l0]
    have hp : wrap64 ((((p ++ [y]).length : Nat) : Int) - 1) = (p.length : Int) := by
      rw [wrap_id (by simp <;> omega) (by simp at hl; simp <;> omega)]
      simp
    rw [if_pos (by simp <;> omega), if_pos (by omega), if_pos (by simp <;> omega), hp, rdL2, rdL, within_eq, Option.bind_some, isWeight_eq, Option.bind_some, snocI (p ++ [y]) x (by simp at hl; simp <;> omega)]
    rw [if_neg (show ¬ (((p ++ [y]).length : Nat) : Int) = 0 by simp <;> omega), if_pos (show (((p ++ [y]).length : Nat) : Int) > 0 by simp <;> omega), if_pos (show (0 : Int) ≤ (p.length : Int) by omega), if_pos (show (p.length : Int) < ((p ++ y :: x :: s).length : Int) by simp <;> omega)]
    have h := ih (p ++ [y]) x k (by simpa using hl) (by simp at hk; omega)
    rw [List.append_assoc] at h
    simp only [List.singleton_append] at h
    rw [h]
    simp only [cvF, okC]
    by_cases h1 : 0 ≤ x.f0 ∧ x.f0 ≤ 20 <;> by_cases h2 : 1 ≤ x.f1 ∧ x.f1 ≤ 99 <;> by_cases h3 : y.f0 ≤ x.f0 <;> simp [h1, h2, h3] <;> omega
def ConvoyOk (l : List S57) : Bool := match l with
  | [] => false
  | x :: s => okC x && (cvF x.f0 s && finC (x :: s))
theorem l6Convoy_eq (l : List S57) (k : Nat) (hl : l.length < 4611686018427387904) (hk : l.length < k) : spec_l6Convoy.f k l = some (ConvoyOk l) := by
  unfold spec_l6Convoy.f
  obtain ⟨k, rfl⟩ : ∃ m, k = m + 1 := ⟨k - 1, by omega⟩
  cases l with
  | nil =>
    simp only [spec_l6Convoy.l0]
    rw [if_neg (by simp), l1In_eq]
    rfl
  | cons y s =>
    have h := l6Convoy_l0 s [] y k (by simpa using hl) (by simp at hk; omega)
    simp only [List.nil_append, List.length_singleton] at h
    have e := rdL [] s y
    simp only [List.nil_append, List.length_nil] at e
    simp only [spec_l6Convoy.l0]
    rw [if_pos (by simp <;> omega), if_pos (by omega), if_neg (show ¬ (0 : Int) > 0 by omega), show wrap64 (0 + 1) = ((1 : Nat) : Int) from by simp [wrap64], h, l1In_eq, l1In_eq]
    rw [show rd_T57 (y :: s) 0 = y from e]
    simp only [Option.bind_some, ConvoyOk, okC]
    by_cases h1 : 0 ≤ y.f0 ∧ y.f0 ≤ 20 <;> by_cases h2 : 1 ≤ y.f1 ∧ y.f1 ≤ 99 <;> simp [h1, h2]
theorem IsConvoy_eq (l : List S57) (k : Nat) (hl : l.length < 4611686018427387904) (hk : l.length < k) : impl_IsConvoy.f k l = some (ConvoyOk l) := by
  unfold impl_IsConvoy.f
  obtain ⟨k, rfl⟩ : ∃ m, k = m + 1 := ⟨k - 1, by omega⟩
  cases l with
  | nil =>
    simp only [impl_IsConvoy.l0]
    rw [if_neg (by simp), within_eq]
    rfl
  | cons y s =>
    have h := IsConvoy_l0 s [] y k (by simpa using hl) (by simp at hk; omega)
    simp only [List.nil_append, List.length_singleton] at h
    have e := rdL [] s y
    simp only [List.nil_append, List.length_nil] at e
    simp only [impl_IsConvoy.l0]
    rw [if_pos (by simp <;> omega), if_pos (by omega), if_pos (by simp <;> omega), if_neg (show ¬ (0 : Int) > 0 by omega), show wrap64 (0 + 1) = ((1 : Nat) : Int) from by simp [wrap64], h, within_eq, isWeight_eq]
    rw [show rd_T57 (y :: s) 0 = y from e]
    simp only [Option.bind_some, ConvoyOk, okC, finC]
    by_cases h1 : 0 ≤ y.f0 ∧ y.f0 ≤ 20 <;> by_cases h2 : 1 ≤ y.f1 ∧ y.f1 ≤ 99 <;> by_cases h3 : y.f0 = 0 <;> simp [h1, h2, h3]
theorem cvF_all : ∀ (s : List S57) (p : Int), cvF p s = true → ∀ y ∈ s, okC y = true := by
  intro s
  induction s with
  | nil => intro p _ y hy; simp at hy
  | cons x s ih =>
    intro p h y hy
    simp only [cvF, Bool.and_eq_true] at h
    rcases List.mem_cons.1 hy with rfl | hy
    · exact h.1
    · exact ih _ h.2.2 y hy
theorem ConvoyOk_all (l : List S57) (h : ConvoyOk l = true) : (∀ y ∈ l, 0 ≤ y.f0 ∧ y.f0 ≤ 20) ∧ 1 ≤ l.length ∧ l.length ≤ 6 := by
  cases l with
  | nil => simp [ConvoyOk] at h
  | cons x s =>
    simp only [ConvoyOk, Bool.and_eq_true, finC, decide_eq_true_eq] at h
    refine ⟨fun y hy => ?_, by simp, ?_⟩
    · have hy2 : okC y = true := by
        rcases List.mem_cons.1 hy with rfl | hy
        · exact h.1
        · exact cvF_all s _ h.2.1 y hy
      simp only [okC, Bool.and_eq_true, decide_eq_true_eq] at hy2
      exact hy2.1
    · have := h.2.2.1.2
      omega
def atL (x : Int) : List S57 → List S57
  | [] => []
  | y :: s => if y.f0 ≤ x then ⟨x - y.f0, y.f1⟩ :: atL x s else atL x s
theorem atL_length (x : Int) (l : List S57) : (atL x l).length ≤ l.length := by
  induction l with
  | nil => simp [atL]
  | cons y s ih =>
    unfold atL
    split <;> simp <;> omega
theorem atL_place (x : Int) (l : List S57) (hl : ∀ y ∈ l, 0 ≤ y.f0 ∧ y.f0 ≤ 20) : ∀ y ∈ atL x l, 0 ≤ y.f0 ∧ y.f0 ≤ x := by
  induction l with
  | nil => intro y hy; simp [atL] at hy
  | cons z s ih =>
    intro y hy
    unfold atL at hy
    have hz := hl z (by simp)
    split at hy
    · rcases List.mem_cons.1 hy with rfl | hy
      · simp; omega
      · exact ih (fun u hu => hl u (by simp [hu])) y hy
    · exact ih (fun u hu => hl u (by simp [hu])) y hy
theorem l6At_l0 (x : Int) (hx : 0 ≤ x ∧ x ≤ 60) : ∀ (s p q : List S57) (k : Nat), (∀ y ∈ s, 0 ≤ y.f0 ∧ y.f0 ≤ 20) → (p ++ s).length < 4611686018427387904 → q.length + s.length < 8796093022208 → s.length < k →
    spec_l6At.l0 k (p ++ s) x q (p.length : Int) = some (q ++ atL x s) := by
  intro s
  induction s with
  | nil =>
    intro p q k hs hl hq hk
    obtain ⟨k, rfl⟩ : ∃ m, k = m + 1 := ⟨k - 1, by simp at hk; omega⟩
    simp only [spec_l6At.l0]
    rw [if_neg (by simp)]
    simp [atL]
  | cons y s ih =>
    intro p q k hs hl hq hk
    obtain ⟨k, rfl⟩ : ∃ m, k = m + 1 := ⟨k - 1, by simp at hk; omega⟩
    have hy := hs y (by simp)
    have hs2 : ∀ z ∈ s, 0 ≤ z.f0 ∧ z.f0 ≤ 20 := fun z hz => hs z (by simp [hz])
    simp only [spec_l6At.l0]
    simp only [List.length_cons] at hq hk
    rw [if_pos (by simp; omega), if_pos (by omega), rdL, snocI p y (by simp at hl; omega), List.append_cons p y s, if_pos (show q.length < 8796093022208 by omega), wrap_id (x := x - y.f0) (by omega) (by omega)]
    unfold atL
    by_cases h : y.f0 ≤ x
    · rw [if_pos h, if_pos h, ih (p ++ [y]) _ k hs2 (by simpa using hl) (by simp; omega) (by omega)]
      simp
    · rw [if_neg h, if_neg h, ih (p ++ [y]) _ k hs2 (by simpa using hl) (by omega) (by omega)]
theorem l6At_eq (x : Int) (hx : 0 ≤ x ∧ x ≤ 60) (l : List S57) (k : Nat) (hs : ∀ y ∈ l, 0 ≤ y.f0 ∧ y.f0 ≤ 20) (hl : l.length < 1000000) (hk : l.length < k) : spec_l6At.f k l x = some (atL x l) :=
  l6At_l0 x hx l [] [] k hs (by simp; omega) (by simp; omega) hk
theorem convoyRow_l0 (x : Int) (hx : 0 ≤ x ∧ x ≤ 60) : ∀ (s p q : List S57) (k : Nat), (∀ y ∈ s, 0 ≤ y.f0 ∧ y.f0 ≤ 20) → (p ++ s).length < 4611686018427387904 → q.length + s.length < 8796093022208 → s.length < k →
    impl_convoyRow.l0 k x q (p ++ s) ((p ++ s).length : Int) (p.length : Int) = some (q ++ atL x s) := by
  intro s
  induction s with
  | nil =>
    intro p q k hs hl hq hk
    obtain ⟨k, rfl⟩ : ∃ m, k = m + 1 := ⟨k - 1, by simp at hk; omega⟩
    simp only [impl_convoyRow.l0]
    rw [if_neg (by simp)]
    simp [atL]
  | cons y s ih =>
    intro p q k hs hl hq hk
    obtain ⟨k, rfl⟩ : ∃ m, k = m + 1 := ⟨k - 1, by simp at hk; omega⟩
    have hy := hs y (by simp)
    have hs2 : ∀ z ∈ s, 0 ≤ z.f0 ∧ z.f0 ≤ 20 := fun z hz => hs z (by simp [hz])
    simp only [impl_convoyRow.l0]
    simp only [List.length_cons] at hq hk
    rw [if_pos (by simp; omega), if_pos (by omega), if_pos (by simp; omega), rdL, snocI p y (by simp at hl; omega), List.append_cons p y s, if_pos (show q.length < 8796093022208 by omega), wrap_id (x := x - y.f0) (by omega) (by omega)]
    unfold atL
    by_cases h : y.f0 ≤ x
    · rw [if_pos h, if_pos h, ih (p ++ [y]) _ k hs2 (by simpa using hl) (by simp; omega) (by omega)]
      simp
    · rw [if_neg h, if_neg h, ih (p ++ [y]) _ k hs2 (by simpa using hl) (by omega) (by omega)]
theorem convoyRow_eq (x : Int) (hx : 0 ≤ x ∧ x ≤ 60) (l : List S57) (k : Nat) (hs : ∀ y ∈ l, 0 ≤ y.f0 ∧ y.f0 ≤ 20) (hl : l.length < 1000000) (hk : l.length < k) : impl_convoyRow.f k l x = some (atL x l) :=
  convoyRow_l0 x hx l [] [] k hs (by simp; omega) (by simp; omega) hk
theorem eqLoad_refl (a b : Int) : laws_eqLoad.f a b a b = some true := by simp [laws_eqLoad.f]
theorem eqLoadS_l0 : ∀ (s p : List S57) (k : Nat), (p ++ s).length < 4611686018427387904 → s.length < k → laws_eqLoadS.l0 k (p ++ s) (p ++ s) (p.length : Int) = some true := by
  intro s
  induction s with
  | nil =>
    intro p k hl hk
    obtain ⟨k, rfl⟩ : ∃ m, k = m + 1 := ⟨k - 1, by simp at hk; omega⟩
    simp only [laws_eqLoadS.l0]
    rw [if_neg (by simp)]
  | cons x s ih =>
    intro p k hl hk
    obtain ⟨k, rfl⟩ : ∃ m, k = m + 1 := ⟨k - 1, by simp at hk; omega⟩
    simp only [laws_eqLoadS.l0]
    rw [if_pos (by simp; omega), if_pos (by omega), if_pos (by simp; omega), rdL, eqLoad_refl, Option.bind_some, if_pos rfl, snocI p x (by simp at hl; omega)]
    have e := ih (p ++ [x]) k (by simpa using hl) (by simp at hk; omega)
    rw [List.append_assoc] at e
    exact e
theorem eqLoadS_refl (l : List S57) (k : Nat) (hl : l.length < 4611686018427387904) (hk : l.length < k) : laws_eqLoadS.f k l l = some true := by
  unfold laws_eqLoadS.f
  rw [if_pos rfl]
  exact eqLoadS_l0 l [] k (by simpa using hl) hk
def seqL : Int → Nat → List S57
  | _, 0 => []
  | m, n + 1 => ⟨m, m + 1⟩ :: seqL (m + 2) n
theorem markLoadS_l0 : ∀ (s p : List S57) (m : Int) (k : Nat), (p ++ s).length < 1073741824 → 0 ≤ m → m + 2 * s.length < 4294967296 → s.length < k →
    laws_markLoadS.l0 k (p ++ s) m (p.length : Int) = some (m + 2 * s.length, p ++ seqL m s.length) := by
  intro s
  induction s with
  | nil =>
    intro p m k hl h0 h1 hk
    obtain ⟨k, rfl⟩ : ∃ j, k = j + 1 := ⟨k - 1, by simp at hk; omega⟩
    simp only [laws_markLoadS.l0]
    rw [if_neg (by simp)]
    simp [seqL]
  | cons x s ih =>
    intro p m k hl h0 h1 hk
    obtain ⟨k, rfl⟩ : ∃ j, k = j + 1 := ⟨k - 1, by simp at hk; omega⟩
    simp only [laws_markLoadS.l0]
    simp only [List.length_cons, Int.natCast_add, Int.natCast_one, List.length_append] at h1 hl hk
    rw [if_pos (by simp; omega), if_pos (by omega), Option.bind_some]
    simp only [Int.toNat_natCast, rdL, List.set_append_right _ _ (Nat.le_refl _), Nat.sub_self, List.set_cons_zero]
    rw [snocI p x (by omega), wrap_id (x := m + 1) (by omega) (by omega), wrap_id (x := m + 1 + 1) (by omega) (by omega), List.append_cons]
    rw [show ((p ++ [x]).length : Int) = ((p ++ [(⟨m, m + 1⟩ : S57)]).length : Int) from by simp]
    rw [ih (p ++ [(⟨m, m + 1⟩ : S57)]) (m + 1 + 1) k (by simp; omega) (by omega) (by omega) (by omega)]
    simp [seqL]
    constructor
    · omega
    · rw [show m + 1 + 1 = m + 2 from by omega]
theorem heldLoadS_l0 : ∀ (n : Nat) (p : List S57) (m : Int) (k : Nat), p.length + n < 1073741824 → 0 ≤ m → m + 2 * n < 4294967296 → n < k →
    laws_heldLoadS.l0 k (p ++ seqL m n) m (p.length : Int) = some (m + 2 * n) := by
  intro n
  induction n with
  | zero =>
    intro p m k hl h0 h1 hk
    obtain ⟨k, rfl⟩ : ∃ j, k = j + 1 := ⟨k - 1, by omega⟩
    simp only [laws_heldLoadS.l0]
    rw [if_neg (by simp [seqL])]
    simp
  | succ n ih =>
    intro p m k hl h0 h1 hk
    obtain ⟨k, rfl⟩ : ∃ j, k = j + 1 := ⟨k - 1, by omega⟩
    rw [show seqL m (n + 1) = (⟨m, m + 1⟩ : S57) :: seqL (m + 2) n from rfl]
    simp only [laws_heldLoadS.l0]
    rw [if_pos (by simp; omega), if_pos (by omega), rdL, if_pos rfl, wrap_id (x := m + 1) (by omega) (by omega), if_pos rfl, wrap_id (x := m + 1 + 1) (by omega) (by omega), snocI p (⟨m, m + 1⟩ : S57) (by omega), List.append_cons]
    rw [show m + 1 + 1 = m + 2 from by omega]
    rw [ih (p ++ [(⟨m, m + 1⟩ : S57)]) (m + 2) k (by simp; omega) (by omega) (by omega) (by omega)]
    congr 1
    omega
theorem markLoadS_eq (l : List S57) (m : Int) (k : Nat) (hl : l.length < 1073741824) (h0 : 0 ≤ m) (h1 : m + 2 * l.length < 4294967296) (hk : l.length < k) : laws_markLoadS.f k l m = some (m + 2 * l.length, seqL m l.length) :=
  markLoadS_l0 l [] m k (by simpa using hl) h0 h1 hk
theorem heldLoadS_eq (n : Nat) (m : Int) (k : Nat) (hl : n < 1073741824) (h0 : 0 ≤ m) (h1 : m + 2 * n < 4294967296) (hk : n < k) : laws_heldLoadS.f k (seqL m n) m = some (m + 2 * n) :=
  heldLoadS_l0 n [] m k (by simpa using hl) h0 h1 hk
theorem rdLL (p s : List S59) (x : S59) : rd_T59 (p ++ x :: s) ((p.length : Int)) = x := by
  simp [rd_T59]
def cvL (x : S59) : S57 := ⟨x.f0, x.f1⟩
theorem toLoadS_l0 : ∀ (s p : List S59) (q : List S57) (k : Nat), p.length = q.length → (p ++ s).length < 4611686018427387904 → s.length < k →
    laws_toLoadS.l0 k (p ++ s) (q ++ List.replicate s.length z57) (p.length : Int) = some (q ++ s.map cvL) := by
  intro s
  induction s with
  | nil =>
    intro p q k hpq hl hk
    obtain ⟨k, rfl⟩ : ∃ m, k = m + 1 := ⟨k - 1, by simp at hk; omega⟩
    simp only [laws_toLoadS.l0]
    rw [if_neg (by simp)]
    simp
  | cons x s ih =>
    intro p q k hpq hl hk
    obtain ⟨k, rfl⟩ : ∃ m, k = m + 1 := ⟨k - 1, by simp at hk; omega⟩
    simp only [laws_toLoadS.l0, laws_toLoad.f, Option.bind_some]
    rw [if_pos (by simp; omega), if_pos (by omega), if_pos (by simp; omega), rdLL, snocI p x (by simp at hl; omega)]
    rw [show (((p.length : Nat) : Int)).toNat = q.length from by omega, List.length_cons, set_rep, List.append_cons p x s, ih (p ++ [x]) _ k (by simp [hpq]) (by simpa using hl) (by simp at hk; omega)]
    simp [cvL]
theorem toLoadS_eq (l : List S59) (k : Nat) (hl : l.length ≤ 1048576) (hk : l.length < k) : laws_toLoadS.f k l = some (l.map cvL) := by
  unfold laws_toLoadS.f
  rw [if_pos (by omega), if_pos (by omega)]
  exact toLoadS_l0 l [] [] k rfl (by simp; omega) hk
theorem szLoadS_eq (l : List S59) (h : l.length ≤ 9223372036854775807) : laws_szLoadS.f l 1048576 = some (if 1048576 < l.length then -1 else 1048576 - (l.length : Int)) := by
  unfold laws_szLoadS.f
  rw [sz_id _ h]
  by_cases hh : 1048576 < l.length
  · rw [if_pos (by omega), if_pos hh]
  · rw [if_neg (by omega), if_neg hh]
theorem bne_refl (b : Bool) : (b != b) = false := by cases b <;> rfl
theorem both (a0 a1 a2 q : Int) (l : List S57) (hl : l.length ≤ 1048576) : ∃ r : List S57 × Bool, r.1.length ≤ 6 ∧ ∀ k, 1000 + l.length ≤ k → spec_ConvoyRow.f k a0 a1 a2 l q = some r ∧ impl_ConvoyRow.f k a0 a1 a2 l q = some r := by
  by_cases hb : BeamOk a0 a1 a2
  · by_cases hc : ConvoyOk l = true
    · have hc2 := ConvoyOk_all l hc
      by_cases hq : 0 ≤ q ∧ q ≤ a0
      · have hb' := hb
        unfold BeamOk at hb'
        refine ⟨(atL q l, true), by have := atL_length q l; simp; omega, fun k hk => ?_⟩
        unfold spec_ConvoyRow.f impl_ConvoyRow.f
        rw [l6Beam_eq, isOnBeam_eq, l6Convoy_eq l k (by omega) (by omega), IsConvoy_eq l k (by omega) (by omega), l1In_eq, l6At_eq q (by omega) l k hc2.1 (by omega) (by omega), convoyRow_eq q (by omega) l k hc2.1 (by omega) (by omega)]
        simp [hb, hq, hc]
      · refine ⟨([], false), by simp, fun k hk => ?_⟩
        unfold spec_ConvoyRow.f impl_ConvoyRow.f
        rw [l6Beam_eq, isOnBeam_eq, l6Convoy_eq l k (by omega) (by omega), l1In_eq]
        simp [hb, hq, hc]
    · refine ⟨([], false), by simp, fun k hk => ?_⟩
      unfold spec_ConvoyRow.f impl_ConvoyRow.f
      rw [l6Beam_eq, isOnBeam_eq, l6Convoy_eq l k (by omega) (by omega), IsConvoy_eq l k (by omega) (by omega)]
      by_cases hq : 0 ≤ q ∧ q ≤ a0 <;> simp [hb, hq, hc]
  · refine ⟨([], false), by simp, fun k hk => ?_⟩
    unfold spec_ConvoyRow.f impl_ConvoyRow.f
    rw [l6Beam_eq, isOnBeam_eq]
    simp [hb]
theorem FnExactConvoyRow : ∀ (a0_0 : Int) (a0_1 : Int) (a0_2 : Int) (l1 : List (S59)) (a2 : Int), ((Lit.int .i64 a0_0).wf = true) → ((Lit.int .i64 a0_1).wf = true) → ((Lit.int .i64 a0_2).wf = true) → (l1.length ≤ 9223372036854775807) → (∀ x_ ∈ l1, ((Lit.int .i64 x_.f0).wf = true) ∧ ((Lit.int .i64 x_.f1).wf = true)) → ((Lit.int .i64 a2).wf = true) → ∃ k, laws_FnExactConvoyRow.f k a0_0 a0_1 a0_2 l1 a2 = some true := by
  intro a b c l q _ _ _ hl _ _
  refine ⟨2000 + l.length + 6, ?_⟩
  have hsz := szLoadS_eq l hl
  by_cases hb : 1048576 < l.length
  · rw [if_pos hb] at hsz
    unfold laws_FnExactConvoyRow.f
    rw [hsz, Option.bind_some, if_pos (by decide)]
  rw [if_neg hb] at hsz
  have n0 : ¬ ((1048576 : Int) - (l.length : Nat) < 0) := by omega
  have h3 : (l.map cvL).length = l.length := by simp
  obtain ⟨r, hr1, hr⟩ := both a b c q (l.map cvL) (by omega)
  rw [h3] at hr
  have hs := fun k hk => (hr k hk).1
  have hi := fun k hk => (hr k hk).2
  have n1 : ¬ ((1 : Int) + 2 * (r.1.length : Int) < 0) := by omega
  have n2 : ¬ ((1 : Int) + 2 * ((l.map cvL).length : Int) < 0) := by omega
  have hm2 : ∀ k, 200 + l.length ≤ k → laws_markLoadS.f k (l.map cvL) 1 = some ((1 : Int) + 2 * ((l.map cvL).length : Int), seqL 1 (l.map cvL).length) := fun k hk => markLoadS_eq _ 1 k (by omega) (by omega) (by omega) (by omega)
  have hm : ∀ k, 200 ≤ k → laws_markLoadS.f k r.1 1 = some ((1 : Int) + 2 * (r.1.length : Int), seqL 1 r.1.length) := fun k hk => markLoadS_eq r.1 1 k (by omega) (by omega) (by omega) (by omega)
  have hh : ∀ k, 200 ≤ k → laws_heldLoadS.f k (seqL 1 r.1.length) 1 = some ((1 : Int) + 2 * (r.1.length : Int)) := fun k hk => heldLoadS_eq r.1.length 1 k (by omega) (by omega) (by omega) (by omega)
  simp (disch := omega) only [laws_FnExactConvoyRow.f, laws_toBeam.f, hsz, n0, toLoadS_eq, hs, hi, eqLoadS_refl, Option.bind_some, bne_refl, if_true, if_false]
  simp (disch := omega) only [laws_FnExactConvoyRow.j0, toLoadS_eq, eqLoadS_refl, hm2, n2, Option.bind_some, bne_refl, if_true, Bool.false_eq_true, if_false]
  simp (disch := omega) only [laws_FnExactConvoyRow.j1, laws_toBeam.f, toLoadS_eq, hi, eqLoadS_refl, hm, hh, n1, Option.bind_some, bne_refl, if_true, Bool.false_eq_true, if_false]
  simp (disch := omega) only [laws_FnExactConvoyRow.j2, hh, n1, Option.bind_some, if_true, Bool.false_eq_true, if_false]

end Go.Proofs.Ytchcjlkbpmkajaa.Pure

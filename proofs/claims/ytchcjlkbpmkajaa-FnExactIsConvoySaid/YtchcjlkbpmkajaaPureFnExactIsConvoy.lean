/- The pure statement of the law FnExactIsConvoy: what the law computes, as a function over numbers and lists, answers true for every input. No conditions beyond the ranges of Go's int. -/
import Derived.Test.YtchcjlkbpmkajaaPFnExactIsConvoyx5
set_option linter.unusedVariables false
set_option linter.unusedSimpArgs false
namespace Go.Proofs.Ytchcjlkbpmkajaa.Pure
open Go.RowKit Go.Proofs.YtchcjlkbpmkajaaW.PrintWords Go.Proofs.YtchcjlkbpmkajaaW.PrintLast Go.Proofs.Ytchcjlkbpmkajaa.PFnExactIsConvoy

theorem wrap_id {x : Int} (h0 : -9223372036854775808 ≤ x) (h1 : x ≤ 9223372036854775807) : wrap64 x = x := by
  unfold wrap64
  omega
theorem wf64 {x : Int} (h : (Lit.int .i64 x).wf = true) : -9223372036854775808 ≤ x ∧ x ≤ 9223372036854775807 := by
  simp [Lit.wf, IntKind.min, IntKind.max, IntKind.signed, IntKind.bits] at h
  omega
theorem l1In_eq (a b c : Int) : spec_l1In.f a b c = some (decide (b ≤ a ∧ a ≤ c)) := by
  unfold spec_l1In.f
  split <;> simp_all
  omega
theorem within_eq (a b c : Int) : impl_within.f a b c = some (decide (b ≤ a ∧ a ≤ c)) := by
  unfold impl_within.f
  split <;> simp_all
  omega
theorem snocI {α : Type} (p : List α) (x : α) (h : p.length < 9223372036854775807) : wrap64 ((p.length : Int) + 1) = ((p ++ [x]).length : Int) := by
  rw [wrap_id (by omega) (by omega)]
  simp
theorem sz_id (n : Nat) (h : n ≤ 9223372036854775807) : wrap64 (1048576 - (n : Int)) = 1048576 - (n : Int) := wrap_id (by omega) (by omega)
theorem set_rep {α : Type} (q : List α) (z y : α) (n : Nat) : (q ++ List.replicate (n + 1) z).set q.length y = (q ++ [y]) ++ List.replicate n z := by
  rw [List.set_append_right _ _ (Nat.le_refl _), Nat.sub_self]
  simp [List.replicate_succ]
theorem rdL (p s : List S57) (x : S57) : rd_T57 (p ++ x :: s) ((p.length : Int)) = x := by
  simp [rd_T57]
theorem isWeight_eq (a : Int) : impl_isWeight.f a = some (decide (1 ≤ a ∧ a ≤ 99)) := by simp only [impl_isWeight.f, within_eq, Option.bind_some]
def okC (x : S57) : Bool := decide (0 ≤ x.f0 ∧ x.f0 ≤ 20) && decide (1 ≤ x.f1 ∧ x.f1 ≤ 99)
def cvF : Int → List S57 → Bool
  | _, [] => true
  | p, x :: s => okC x && (decide (p ≤ x.f0) && cvF x.f0 s)
def finC : List S57 → Bool
  | [] => false
  | x :: s => decide (1 ≤ ((x :: s).length : Int) ∧ ((x :: s).length : Int) ≤ 6) && (x.f0 == 0)
theorem rdL2 (p s : List S57) (y x : S57) : rd_T57 (p ++ y :: x :: s) (((p ++ [y]).length : Nat) : Int) = x := by
  have h := rdL (p ++ [y]) s x
  rw [List.append_assoc] at h
  exact h
theorem l6Convoy_l0 : ∀ (s p : List S57) (y : S57) (k : Nat), (p ++ y :: s).length < 4611686018427387904 → s.length < k →
    spec_l6Convoy.l0 k (p ++ y :: s) (((p ++ [y]).length : Nat) : Int) = some (cvF y.f0 s && finC (p ++ y :: s)) := by
  intro s
  induction s with
  | nil =>
    intro p y k hl hk
    obtain ⟨k, rfl⟩ : ∃ m, k = m + 1 := ⟨k - 1, by simp at hk; omega⟩
    simp only [spec_l6Convoy.l0]
    rw [if_neg (by simp), l1In_eq, Option.bind_some, if_pos (show (0 : Int) < ((p ++ [y]).length : Int) by simp <;> omega)]
    simp only [cvF, Bool.true_and]
    cases p with
    | nil => by_cases h : 1 ≤ (([] ++ [y]).length : Int) ∧ (([] ++ [y]).length : Int) ≤ 6 <;> simp [finC, rd_T57]
    | cons z p =>
      have h0 : (1 : Int) ≤ (p.length : Int) + 1 + 1 := by omega
      by_cases h : ((p.length : Int) + 1 + 1) ≤ 6 <;> simp [finC, rd_T57, h, h0]
  | cons x s ih =>
    intro p y k hl hk
    obtain ⟨k, rfl⟩ : ∃ m, k = m + 1 := ⟨k - 1, by simp at hk; omega⟩
    simp only [spec_l6Convoy.l0]
    have hp : wrap64 ((((p ++ [y]).length : Nat) : Int) - 1) = (p.length : Int) := by
      rw [wrap_id (by simp <;> omega) (by simp at hl; simp <;> omega)]
      simp
    rw [if_pos (by simp <;> omega), if_pos (by omega), hp, rdL2, rdL, l1In_eq, Option.bind_some, l1In_eq, Option.bind_some, snocI (p ++ [y]) x (by simp at hl; simp <;> omega)]
    rw [if_pos (show (((p ++ [y]).length : Nat) : Int) > 0 by simp <;> omega), if_pos (show (0 : Int) ≤ (p.length : Int) by omega), if_pos (show (p.length : Int) < ((p ++ y :: x :: s).length : Int) by simp <;> omega)]
    have h := ih (p ++ [y]) x k (by simpa using hl) (by simp at hk; omega)
    rw [List.append_assoc] at h
    simp only [List.singleton_append] at h
    rw [h]
    simp only [cvF, okC]
    by_cases h1 : 0 ≤ x.f0 ∧ x.f0 ≤ 20 <;> by_cases h2 : 1 ≤ x.f1 ∧ x.f1 ≤ 99 <;> by_cases h3 : y.f0 ≤ x.f0 <;> simp [h1, h2, h3] <;> omega
theorem IsConvoy_l0 : ∀ (s p : List S57) (y : S57) (k : Nat), (p ++ y :: s).length < 4611686018427387904 → s.length < k →
    impl_IsConvoy.l0 k (p ++ y :: s) (p ++ y :: s) ((p ++ y :: s).length : Int) (((p ++ [y]).length : Nat) : Int) = some (cvF y.f0 s && decide (1 ≤ ((p ++ y :: s).length : Int) ∧ ((p ++ y :: s).length : Int) ≤ 6)) := by
  intro s
  induction s with
  | nil =>
    intro p y k hl hk
    obtain ⟨k, rfl⟩ : ∃ m, k = m + 1 := ⟨k - 1, by simp at hk; omega⟩
    simp only [impl_IsConvoy.l0]
    rw [if_neg (by simp), within_eq]
    simp [cvF]
  | cons x s ih =>
    intro p y k hl hk
    obtain ⟨k, rfl⟩ : ∃ m, k = m + 1 := ⟨k - 1, by simp at hk; omega⟩
    simp only [impl_IsConvoy.l0]
    have hp : wrap64 ((((p ++ [y]).length : Nat) : Int) - 1) = (p.length : Int) := by
      rw [wrap_id (by simp <;> omega) (by simp at hl; simp <;> omega)]
      simp
    rw [if_pos (by simp <;> omega), if_pos (by omega), if_pos (by simp <;> omega), hp, rdL2, rdL, within_eq, Option.bind_some, isWeight_eq, Option.bind_some, snocI (p ++ [y]) x (by simp at hl; simp <;> omega)]
    rw [if_neg (show ¬ (((p ++ [y]).length : Nat) : Int) = 0 by simp <;> omega), if_pos (show (((p ++ [y]).length : Nat) : Int) > 0 by simp <;> omega), if_pos (show (0 : Int) ≤ (p.length : Int) by omega), if_pos (show (p.length : Int) < ((p ++ y :: x :: s).length : Int) by simp <;> omega)]
    have h := ih (p ++ [y]) x k (by simpa using hl) (by simp at hk; omega)
    rw [List.append_assoc] at h
    simp only [List.singleton_append] at h
    rw [h]
    simp only [cvF, okC]
    by_cases h1 : 0 ≤ x.f0 ∧ x.f0 ≤ 20 <;> by_cases h2 : 1 ≤ x.f1 ∧ x.f1 ≤ 99 <;> by_cases h3 : y.f0 ≤ x.f0 <;> simp [h1, h2, h3] <;> omega
def ConvoyOk (l : List S57) : Bool := match l with
  | [] => false
  | x :: s => okC x && (cvF x.f0 s && finC (x :: s))
theorem l6Convoy_eq (l : List S57) (k : Nat) (hl : l.length < 4611686018427387904) (hk : l.length < k) : spec_l6Convoy.f k l = some (ConvoyOk l) := by
  unfold spec_l6Convoy.f
  obtain ⟨k, rfl⟩ : ∃ m, k = m + 1 := ⟨k - 1, by omega⟩
  cases l with
  | nil =>
    simp only [spec_l6Convoy.l0]
    rw [if_neg (by simp), l1In_eq]
    rfl
  | cons y s =>
    have h := l6Convoy_l0 s [] y k (by simpa using hl) (by simp at hk; omega)
    simp only [List.nil_append, List.length_singleton] at h
    have e := rdL [] s y
    simp only [List.nil_append, List.length_nil] at e
    simp only [spec_l6Convoy.l0]
    rw [if_pos (by simp <;> omega), if_pos (by omega), if_neg (show ¬ (0 : Int) > 0 by omega), show wrap64 (0 + 1) = ((1 : Nat) : Int) from by simp [wrap64], h, l1In_eq, l1In_eq]
    rw [show rd_T57 (y :: s) 0 = y from e]
    simp only [Option.bind_some, ConvoyOk, okC]
    by_cases h1 : 0 ≤ y.f0 ∧ y.f0 ≤ 20 <;> by_cases h2 : 1 ≤ y.f1 ∧ y.f1 ≤ 99 <;> simp [h1, h2]
theorem IsConvoy_eq (l : List S57) (k : Nat) (hl : l.length < 4611686018427387904) (hk : l.length < k) : impl_IsConvoy.f k l = some (ConvoyOk l) := by
  unfold impl_IsConvoy.f
  obtain ⟨k, rfl⟩ : ∃ m, k = m + 1 := ⟨k - 1, by omega⟩
  cases l with
  | nil =>
    simp only [impl_IsConvoy.l0]
    rw [if_neg (by simp), within_eq]
    rfl
  | cons y s =>
    have h := IsConvoy_l0 s [] y k (by simpa using hl) (by simp at hk; omega)
    simp only [List.nil_append, List.length_singleton] at h
    have e := rdL [] s y
    simp only [List.nil_append, List.length_nil] at e
    simp only [impl_IsConvoy.l0]
    rw [if_pos (by simp <;> omega), if_pos (by omega), if_pos (by simp <;> omega), if_neg (show ¬ (0 : Int) > 0 by omega), show wrap64 (0 + 1) = ((1 : Nat) : Int) from by simp [wrap64], h, within_eq, isWeight_eq]
    rw [show rd_T57 (y :: s) 0 = y from e]
    simp only [Option.bind_some, ConvoyOk, okC, finC]
    by_cases h1 : 0 ≤ y.f0 ∧ y.f0 ≤ 20 <;> by_cases h2 : 1 ≤ y.f1 ∧ y.f1 ≤ 99 <;> by_cases h3 : y.f0 = 0 <;> simp [h1, h2, h3]
theorem eqLoad_refl (a b : Int) : laws_eqLoad.f a b a b = some true := by simp [laws_eqLoad.f]
theorem eqLoadS_l0 : ∀ (s p : List S57) (k : Nat), (p ++ s).length < 4611686018427387904 → s.length < k → laws_eqLoadS.l0 k (p ++ s) (p ++ s) (p.length : Int) = some true := by
  intro s
  induction s with
  | nil =>
    intro p k hl hk
    obtain ⟨k, rfl⟩ : ∃ m, k = m + 1 := ⟨k - 1, by simp at hk; omega⟩
    simp only [laws_eqLoadS.l0]
    rw [if_neg (by simp)]
  | cons x s ih =>
    intro p k hl hk
    obtain ⟨k, rfl⟩ : ∃ m, k = m + 1 := ⟨k - 1, by simp at hk; omega⟩
    simp only [laws_eqLoadS.l0]
    rw [if_pos (by simp; omega), if_pos (by omega), if_pos (by simp; omega), rdL, eqLoad_refl, Option.bind_some, if_pos rfl, snocI p x (by simp at hl; omega)]
    have e := ih (p ++ [x]) k (by simpa using hl) (by simp at hk; omega)
    rw [List.append_assoc] at e
    exact e
theorem eqLoadS_refl (l : List S57) (k : Nat) (hl : l.length < 4611686018427387904) (hk : l.length < k) : laws_eqLoadS.f k l l = some true := by
  unfold laws_eqLoadS.f
  rw [if_pos rfl]
  exact eqLoadS_l0 l [] k (by simpa using hl) hk
theorem rdLL (p s : List S59) (x : S59) : rd_T59 (p ++ x :: s) ((p.length : Int)) = x := by
  simp [rd_T59]
def cvL (x : S59) : S57 := ⟨x.f0, x.f1⟩
theorem toLoadS_l0 : ∀ (s p : List S59) (q : List S57) (k : Nat), p.length = q.length → (p ++ s).length < 4611686018427387904 → s.length < k →
    laws_toLoadS.l0 k (p ++ s) (q ++ List.replicate s.length z57) (p.length : Int) = some (q ++ s.map cvL) := by
  intro s
  induction s with
  | nil =>
    intro p q k hpq hl hk
    obtain ⟨k, rfl⟩ : ∃ m, k = m + 1 := ⟨k - 1, by simp at hk; omega⟩
    simp only [laws_toLoadS.l0]
    rw [if_neg (by simp)]
    simp
  | cons x s ih =>
    intro p q k hpq hl hk
    obtain ⟨k, rfl⟩ : ∃ m, k = m + 1 := ⟨k - 1, by simp at hk; omega⟩
    simp only [laws_toLoadS.l0, laws_toLoad.f, Option.bind_some]
    rw [if_pos (by simp; omega), if_pos (by omega), if_pos (by simp; omega), rdLL, snocI p x (by simp at hl; omega)]
    rw [show (((p.length : Nat) : Int)).toNat = q.length from by omega, List.length_cons, set_rep, List.append_cons p x s, ih (p ++ [x]) _ k (by simp [hpq]) (by simpa using hl) (by simp at hk; omega)]
    simp [cvL]
theorem toLoadS_eq (l : List S59) (k : Nat) (hl : l.length ≤ 1048576) (hk : l.length < k) : laws_toLoadS.f k l = some (l.map cvL) := by
  unfold laws_toLoadS.f
  rw [if_pos (by omega), if_pos (by omega)]
  exact toLoadS_l0 l [] [] k rfl (by simp; omega) hk
theorem szLoadS_eq (l : List S59) (h : l.length ≤ 9223372036854775807) : laws_szLoadS.f l 1048576 = some (if 1048576 < l.length then -1 else 1048576 - (l.length : Int)) := by
  unfold laws_szLoadS.f
  rw [sz_id _ h]
  by_cases hh : 1048576 < l.length
  · rw [if_pos (by omega), if_pos hh]
  · rw [if_neg (by omega), if_neg hh]
theorem bne_refl (b : Bool) : (b != b) = false := by cases b <;> rfl

theorem FnExactIsConvoy : ∀ (l0 : List (S59)), (l0.length ≤ 9223372036854775807) → (∀ x_ ∈ l0, ((Lit.int .i64 x_.f0).wf = true) ∧ ((Lit.int .i64 x_.f1).wf = true)) → ∃ k, laws_FnExactIsConvoy.f k l0 = some true := by
  intro l hl _
  refine ⟨l.length + 5, ?_⟩
  have hsz := szLoadS_eq l hl
  by_cases hb : 1048576 < l.length
  · rw [if_pos hb] at hsz
    unfold laws_FnExactIsConvoy.f
    rw [hsz, Option.bind_some, if_pos (by decide)]
  rw [if_neg hb] at hsz
  have n1 : ¬ ((1048576 : Int) - (l.length : Nat) < 0) := by omega
  have h2 : (l.map cvL).length ≤ 1048576 := by simp; omega
  have h3 : (l.map cvL).length = l.length := by simp
  have hs := fun k hk => l6Convoy_eq (l.map cvL) k (by omega) hk
  have hi := fun k hk => IsConvoy_eq (l.map cvL) k (by omega) hk
  simp (disch := omega) only [laws_FnExactIsConvoy.f, spec_IsConvoy.f, hsz, n1, toLoadS_eq, hs, hi, eqLoadS_refl, Option.bind_some, bne_refl, if_true, Bool.false_eq_true, if_false]

end Go.Proofs.Ytchcjlkbpmkajaa.Pure

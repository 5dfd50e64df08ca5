/- The pure statement of the law FnExactGreatestOverhang: what the law computes, as a function over numbers and lists, answers true for every input. No conditions beyond the ranges of Go's int. -/
import Derived.Test.YtnnpfekgapikfaaPFnExactGreatestOverhangx2
set_option linter.unusedVariables false
set_option linter.unusedSimpArgs false
namespace Go.Proofs.Ytnnpfekgapikfaa.Pure
open Go.RowKit Go.Proofs.YtnnpfekgapikfaaW.PrintWords Go.Proofs.YtnnpfekgapikfaaW.PrintLast Go.Proofs.Ytnnpfekgapikfaa.PFnExactGreatestOverhang

theorem wrap_id {x : Int} (h0 : -9223372036854775808 ≤ x) (h1 : x ≤ 9223372036854775807) : wrap64 x = x := by
  unfold wrap64
  omega
theorem wf64 {x : Int} (h : (Lit.int .i64 x).wf = true) : -9223372036854775808 ≤ x ∧ x ≤ 9223372036854775807 := by
  simp [Lit.wf, IntKind.min, IntKind.max, IntKind.signed, IntKind.bits] at h
  omega
theorem l1In_eq (a b c : Int) : spec_l1In.f a b c = some (decide (b ≤ a ∧ a ≤ c)) := by
  unfold spec_l1In.f
  split <;> simp_all
  omega
theorem within_eq (a b c : Int) : impl_within.f a b c = some (decide (b ≤ a ∧ a ≤ c)) := by
  unfold impl_within.f
  split <;> simp_all
  omega
theorem snocI {α : Type} (p : List α) (x : α) (h : p.length < 9223372036854775807) : wrap64 ((p.length : Int) + 1) = ((p ++ [x]).length : Int) := by
  rw [wrap_id (by omega) (by omega)]
  simp
theorem sz_id (n : Nat) (h : n ≤ 9223372036854775807) : wrap64 (1048576 - (n : Int)) = 1048576 - (n : Int) := wrap_id (by omega) (by omega)
theorem set_rep {α : Type} (q : List α) (z y : α) (n : Nat) : (q ++ List.replicate (n + 1) z).set q.length y = (q ++ [y]) ++ List.replicate n z := by
  rw [List.set_append_right _ _ (Nat.le_refl _), Nat.sub_self]
  simp [List.replicate_succ]
theorem rdI (p s : List Int) (x : Int) : rd (p ++ x :: s) ((p.length : Int)) = x := by
  simp [rd]
theorem Down_eq (a b : Int) (h : 1 ≤ b) (hb : b ≤ 1000) (h1 : -1000000 ≤ a) (h2 : a ≤ 1000000) : spec_l4Down.f a b = some (a / b) := by
  unfold spec_l4Down.f
  by_cases h0 : a < 0
  · rw [if_pos h0, if_neg (by omega), wrap_id (x := -a) (by omega) (by omega), wrap_id (x := -a + b) (by omega) (by omega), wrap_id (x := -a + b - 1) (by omega) (by omega), Int.tdiv_eq_ediv_of_nonneg (by omega)]
    have q1 : 0 ≤ (-a + b - 1) / b := Int.ediv_nonneg (by omega) (by omega)
    have q2 : (-a + b - 1) / b ≤ -a + b - 1 := Int.ediv_le_self _ (by omega)
    rw [wrap_id (x := (-a + b - 1) / b) (by omega) (by omega), wrap_id (by omega) (by omega)]
    congr 1
    have e1 := Int.mul_ediv_add_emod (-a + b - 1) b
    have e2 := Int.emod_nonneg (-a + b - 1) (show b ≠ 0 by omega)
    have e3 := Int.emod_lt_of_pos (-a + b - 1) (show 0 < b by omega)
    symm
    have e4 : b * (-((-a + b - 1) / b)) = -(b * ((-a + b - 1) / b)) := by rw [Int.mul_neg]
    have hd : a / b = -((-a + b - 1) / b) := by
      refine (Int.ediv_eq_iff_of_pos (show 0 < b by omega)).mpr ⟨?_, ?_⟩
      · rw [Int.mul_comm, e4]; omega
      · rw [Int.mul_comm, e4]; omega
    exact hd
  · rw [if_neg h0, if_neg (by omega), Int.tdiv_eq_ediv_of_nonneg (by omega)]
    have q1 : 0 ≤ a / b := Int.ediv_nonneg (by omega) (by omega)
    have q2 : a / b ≤ a := Int.ediv_le_self _ (by omega)
    rw [wrap_id (by omega) (by omega)]
theorem l4Sizes_eq (a n : Int) : spec_l4Sizes.f a n = some (decide (1 ≤ a ∧ a ≤ 24) && decide (1 ≤ n ∧ n ≤ 8)) := by
  unfold spec_l4Sizes.f
  rw [l1In_eq, Option.bind_some, l1In_eq, Option.bind_some]
  cases decide (1 ≤ a ∧ a ≤ 24) <;> simp
theorem isWide_eq (a : Int) : impl_isWide.f a = some (decide (1 ≤ a ∧ a ≤ 24)) := by simp only [impl_isWide.f, within_eq, Option.bind_some]
theorem isSize_eq (a n : Int) : impl_isSize.f a n = some (decide (1 ≤ a ∧ a ≤ 24) && decide (1 ≤ n ∧ n ≤ 8)) := by
  unfold impl_isSize.f
  rw [isWide_eq, Option.bind_some, within_eq, Option.bind_some]
  cases decide (1 ≤ a ∧ a ≤ 24) <;> simp
/-- The list of a stage holds, of all that a property has, the greatest for each moment. -/
def LR (w k : Int) (l : List S45) (Pr : Int → Int → Prop) : Prop := (∀ x ∈ l, ∃ a v, Pr a v ∧ x = ⟨2 * a + k * w, v + w⟩) ∧ ∀ a v, Pr a v → ∃ v', v ≤ v' ∧ (⟨2 * a + k * w, v' + w⟩ : S45) ∈ l
theorem LR.congr {w k : Int} {l : List S45} {Pr Qr : Int → Int → Prop} (h : LR w k l Pr) (he : ∀ a v, Pr a v ↔ Qr a v) : LR w k l Qr :=
  ⟨(fun x hx => by obtain ⟨a, v, p, e⟩ := h.1 x hx; exact ⟨a, v, (he a v).mp p, e⟩), (fun a v q => h.2 a v ((he a v).mpr q))⟩
theorem l1Most_eq (a b : Int) : spec_l1Most.f a b = some (mx a b) := by
  unfold spec_l1Most.f mx
  (repeat' split) <;> (first | rfl | omega | (congr 1; omega))
theorem l1Least_eq (a b : Int) : spec_l1Least.f a b = some (mn a b) := by
  unfold spec_l1Least.f mn
  (repeat' split) <;> (first | rfl | omega | (congr 1; omega))
theorem rdT (p s : List S45) (x : S45) : rd_T45 (p ++ x :: s) ((p.length : Int)) = x := by
  unfold rd_T45
  rw [show ((p.length : Int)).toNat = p.length from by omega]
  simp
def bett (c e : Int) : List S45 → List S45
  | [] => [⟨c, e⟩]
  | x :: s => if x.f0 = c then ⟨x.f0, mx x.f1 e⟩ :: s else x :: bett c e s
theorem better_l0 (c e : Int) : ∀ (s p : List S45) (K : Nat), (p ++ s).length < 8796093022208 → s.length < K → spec_l4Better.l0 K (p ++ s) c e (p.length : Int) = some (p ++ bett c e s) := by
  intro s
  induction s with
  | nil =>
    intro p K hl hk
    obtain ⟨K, rfl⟩ : ∃ m, K = m + 1 := ⟨K - 1, by simp at hk; omega⟩
    simp only [spec_l4Better.l0, bett]
    rw [if_neg (by simp), if_pos (by simpa using hl), List.append_nil]
  | cons x s ih =>
    intro p K hl hk
    obtain ⟨K, rfl⟩ : ∃ m, K = m + 1 := ⟨K - 1, by simp at hk; omega⟩
    simp only [spec_l4Better.l0, bett]
    rw [if_pos (by simp; omega), if_pos (by omega), rdT]
    by_cases h : x.f0 = c
    · rw [if_pos h, if_pos h, l1Most_eq, Option.bind_some, show ((p.length : Int)).toNat = p.length from by omega, List.set_append_right _ _ (Nat.le_refl _), Nat.sub_self]
      rfl
    · rw [if_neg h, if_neg h, snocI p x (by simp at hl; omega), List.append_cons p x s, ih (p ++ [x]) K (by simpa using hl) (by simp at hk; omega)]
      simp
theorem bett_cases (c e : Int) : ∀ (s : List S45), (∃ q x r, s = q ++ x :: r ∧ x.f0 = c ∧ bett c e s = q ++ (⟨x.f0, mx x.f1 e⟩ : S45) :: r) ∨ bett c e s = s ++ [⟨c, e⟩] := by
  intro s
  induction s with
  | nil => exact Or.inr rfl
  | cons x s ih =>
    unfold bett
    by_cases h : x.f0 = c
    · rw [if_pos h]
      exact Or.inl ⟨[], x, s, rfl, h, rfl⟩
    · rw [if_neg h]
      rcases ih with ⟨q, y, r, e1, e2, e3⟩ | e1
      · exact Or.inl ⟨x :: q, y, r, by rw [e1]; rfl, e2, by rw [e3]; rfl⟩
      · exact Or.inr (by rw [e1]; rfl)
theorem better_eq {w k : Int} {l : List S45} {Pr : Int → Int → Prop} (h : LR w k l Pr) (hl : l.length < 8796093022208) (a v : Int) : ∃ l', (∀ K, l.length < K → spec_l4Better.f K l (2 * a + k * w) (v + w) = some l') ∧ l'.length ≤ l.length + 1 ∧ LR w k l' (fun x y => Pr x y ∨ (x = a ∧ y = v)) := by
  have h2 := bett_cases (2 * a + k * w) (v + w) l
  refine ⟨bett (2 * a + k * w) (v + w) l, fun K hK => better_l0 _ _ l [] K (by simpa using hl) hK, ?_⟩
  generalize bett (2 * a + k * w) (v + w) l = l' at h2 ⊢
  refine ⟨?_, ?_⟩
  · rcases h2 with ⟨q, x, r, e, _, rfl⟩ | rfl
    · rw [e]
      simp
    · simp
  · constructor
    · rcases h2 with ⟨q, x, r, e, hx, rfl⟩ | rfl
      · intro y hy
        have hin : ∀ z, z ∈ q ∨ z ∈ r → z ∈ l := fun z hz => by rw [e]; rcases hz with hz | hz <;> simp [hz]
        rcases List.mem_append.mp hy with hy | hy
        · obtain ⟨b, u, p, e2⟩ := h.1 y (hin y (Or.inl hy))
          exact ⟨b, u, Or.inl p, e2⟩
        · rcases List.mem_cons.mp hy with rfl | hy
          · obtain ⟨b, u, p, e2⟩ := h.1 x (by rw [e]; simp)
            have hab : b = a := by
              rw [e2] at hx
              have hx' : 2 * b + k * w = 2 * a + k * w := hx
              omega
            subst hab
            rw [e2]
            by_cases hc : u < v
            · refine ⟨b, v, Or.inr ⟨rfl, rfl⟩, ?_⟩
              have : mx (u + w) (v + w) = v + w := by unfold mx; split <;> omega
              simp [this]
            · refine ⟨b, u, Or.inl p, ?_⟩
              have : mx (u + w) (v + w) = u + w := by unfold mx; split <;> omega
              simp [this]
          · obtain ⟨b, u, p, e2⟩ := h.1 y (hin y (Or.inr hy))
            exact ⟨b, u, Or.inl p, e2⟩
      · intro y hy
        rcases List.mem_append.mp hy with hy | hy
        · obtain ⟨b, u, p, e2⟩ := h.1 y hy
          exact ⟨b, u, Or.inl p, e2⟩
        · simp at hy
          exact ⟨a, v, Or.inr ⟨rfl, rfl⟩, hy⟩
    · intro b u hp
      rcases h2 with ⟨q, x, r, e, hx, rfl⟩ | rfl
      · obtain ⟨c, z, p, e2⟩ := h.1 x (by rw [e]; simp)
        have hca : c = a := by
          rw [e2] at hx
          have hx' : 2 * c + k * w = 2 * a + k * w := hx
          omega
        subst hca
        have hnew : (⟨2 * c + k * w, mx z v + w⟩ : S45) ∈ q ++ (⟨x.f0, mx x.f1 (v + w)⟩ : S45) :: r := by
          have : mx (z + w) (v + w) = mx z v + w := by unfold mx; (repeat' split) <;> omega
          rw [e2]
          simp [this]
        have m1 : z ≤ mx z v ∧ v ≤ mx z v := by unfold mx; split <;> omega
        rcases hp with hp | ⟨rfl, rfl⟩
        · obtain ⟨u', hu, hm⟩ := h.2 b u hp
          rw [e] at hm
          rcases List.mem_append.mp hm with hm | hm
          · exact ⟨u', hu, by simp [hm]⟩
          · rcases List.mem_cons.mp hm with hm | hm
            · have hbc : b = c ∧ u' = z := by
                rw [e2] at hm
                have := S45.mk.inj hm
                omega
              obtain ⟨rfl, rfl⟩ := hbc
              exact ⟨mx u' v, by omega, hnew⟩
            · exact ⟨u', hu, by simp [hm]⟩
        · exact ⟨mx z u, m1.2, hnew⟩
      · rcases hp with hp | ⟨rfl, rfl⟩
        · obtain ⟨u', hu, hm⟩ := h.2 b u hp
          exact ⟨u', hu, by simp [hm]⟩
        · exact ⟨u, Int.le_refl _, by simp⟩
/-- From some number of rounds on, it answers one and the same, of which P holds. -/
def Evt {α : Type} (f : Nat → Option α) (P : α → Prop) : Prop := ∃ B r, P r ∧ ∀ K, B ≤ K → f K = some r
theorem Evt.step {α : Type} {f g : Nat → Option α} {P : α → Prop} (h : Evt f P) (B : Nat) (he : ∀ K, B ≤ K → g (K + 1) = f K) : Evt g P := by
  obtain ⟨B1, r, p, hr⟩ := h
  refine ⟨B + B1 + 1, r, p, fun K hK => ?_⟩
  obtain ⟨K, rfl⟩ : ∃ m, K = m + 1 := ⟨K - 1, by omega⟩
  rw [he K (by omega)]
  exact hr K (by omega)
def Fn3 (F : Int → Int → Prop) (w k S R d : Int) (x y : Int) : Prop := F x y ∨ ∃ d', -w ≤ d' ∧ d' < d ∧ GO.ok w k S d' ∧ x = S + k * d' ∧ y = mx 0 (R + d')
theorem go_l2 {w n k S R i : Int} {ends : List S45} {F : Int → Int → Prop} {P : Int × Bool → Prop} (hw : 1 ≤ w ∧ w ≤ 24) (hk : 1 ≤ k ∧ k ≤ 8) (hS : -192 ≤ S ∧ S ≤ 192) (hR : 0 ≤ R ∧ R ≤ 192) (h0 : 0 ≤ i) (hi : i < (ends.length : Int)) (hrd : rd_T45 ends i = ⟨2 * S + k * w, R + w⟩) :
    ∀ (m : Nat) (d : Int) (nxt : List S45), d + (m : Int) = w + 1 → -w ≤ d → LR w (k + 1) nxt (Fn3 F w k S R d) → nxt.length + m < 8796093022208 →
    (∀ nxt', LR w (k + 1) nxt' (Fn3 F w k S R (w + 1)) → nxt'.length ≤ nxt.length + m → Evt (fun K => spec_GreatestOverhang.l1 K w n ends k nxt' (wrap64 (i + 1))) P) → Evt (fun K => spec_GreatestOverhang.l2 K w n ends k nxt i d) P := by
  intro m
  induction m with
  | zero =>
    intro d nxt hd hd0 hL hl hc
    obtain rfl : d = w + 1 := by simpa using hd
    refine (hc nxt hL (by omega)).step 0 fun K _ => ?_
    simp only [spec_GreatestOverhang.l2]
    rw [if_neg (by omega)]
  | succ m ih =>
    intro d nxt hd hd0 hL hl hc
    have b1 := GO.prod (m := 2 * k) (x := d) (B := 24) (by omega) (by omega) (by omega) (by omega)
    have b2 := GO.prod (m := k) (x := w) (B := 24) (by omega) (by omega) (by omega) (by omega)
    have b3 := GO.prod (m := 2 * k) (x := mx 0 d) (B := 24) (by omega) (by omega) (by unfold mx; split <;> omega) (by unfold mx; split <;> omega)
    have b4 := GO.prod (m := 2 * k) (x := mn w (d + w)) (B := 48) (by omega) (by omega) (by unfold mn; split <;> omega) (by unfold mn; split <;> omega)
    have x1 : mx 0 d = mx d 0 := by unfold mx; (repeat' split) <;> omega
    have x2 : mn w (d + w) = mn d 0 + w := by unfold mn; (repeat' split) <;> omega
    have hstep : ∀ K, spec_GreatestOverhang.l2 (K + 1) w n ends k nxt i d = spec_GreatestOverhang.j3 K w n ends k nxt i d (2 * S + k * w + 2 * k * d) (!GO.okB w k S d) := by
      intro K
      simp only [spec_GreatestOverhang.l2]
      rw [if_pos (by omega), if_pos h0, if_pos hi, l1Most_eq, Option.bind_some, l1Least_eq, Option.bind_some, hrd]
      simp only []
      rw [wrap_id (x := 2 * k) (by omega) (by omega), wrap_id (x := 2 * k * d) (by omega) (by omega), wrap_id (x := 2 * S + k * w + 2 * k * d) (by omega) (by omega), wrap_id (x := 2 * k * mx 0 d) (by omega) (by omega), wrap_id (x := d + w) (by omega) (by omega), wrap_id (x := 2 * k * mn w (d + w)) (by omega) (by omega), x1, x2]
      unfold GO.okB
      by_cases c1 : 2 * S + k * w + 2 * k * d < 2 * k * mx d 0
      · rw [if_pos c1, decide_eq_false (show ¬ 2 * k * mx d 0 ≤ 2 * k * d + 2 * S + k * w by omega)]
        rfl
      · rw [if_neg c1, decide_eq_true (show 2 * k * mx d 0 ≤ 2 * k * d + 2 * S + k * w by omega), Bool.true_and, ← decide_not]
        congr 1
        exact decide_eq_decide.mpr (by omega)
    cases hok : GO.okB w k S d with
    | false =>
      have hnext := ih (d + 1) nxt (by omega) (by omega) (hL.congr fun x y => GO.R3_skip hok x y) (by omega) (fun nxt' g1 g2 => hc nxt' g1 (by omega))
      refine (hnext.step (g := fun K => spec_GreatestOverhang.j3 K w n ends k nxt i d (2 * S + k * w + 2 * k * d) true) 0 fun K _ => ?_).step 0 fun K _ => ?_
      · simp only [spec_GreatestOverhang.j3]
        rw [if_pos trivial, wrap_id (x := d + 1) (by omega) (by omega)]
      · show spec_GreatestOverhang.l2 (K + 1) w n ends k nxt i d = _
        rw [hstep, hok]
        rfl
    | true =>
      obtain ⟨l', e1, e2, e3⟩ := better_eq hL (by omega) (S + k * d) (mx 0 (R + d))
      have hnext := ih (d + 1) l' (by omega) (by omega) (e3.congr fun x y => GO.R3_add hok hd0 x y) (by omega) (fun nxt' g1 g2 => hc nxt' g1 (by omega))
      refine (hnext.step (g := fun K => spec_GreatestOverhang.j3 K w n ends k nxt i d (2 * S + k * w + 2 * k * d) false) (nxt.length + 1) fun K hK => ?_).step 0 fun K _ => ?_
      · simp only [spec_GreatestOverhang.j3]
        have y1 : 2 * S + k * w + 2 * k * d + w = 2 * (S + k * d) + (k + 1) * w := by
          rw [Int.mul_assoc, Int.add_mul, Int.one_mul]
          omega
        have y2 : mx (R + w + d) w = mx 0 (R + d) + w := by unfold mx; (repeat' split) <;> omega
        rw [if_neg (by decide), if_pos h0, if_pos hi, l1Most_eq, Option.bind_some, hrd]
        simp only []
        rw [wrap_id (x := 2 * S + k * w + 2 * k * d + w) (by omega) (by omega), wrap_id (x := R + w + d) (by omega) (by omega), y1, y2, e1 K (by omega), Option.bind_some, wrap_id (x := d + 1) (by omega) (by omega)]
      · show spec_GreatestOverhang.l2 (K + 1) w n ends k nxt i d = _
        rw [hstep, hok]
        rfl
/-- What the entries of a list give at the next stage. -/
def Cn (w k : Int) (p : List S45) (x y : Int) : Prop := ∃ S R, (⟨2 * S + k * w, R + w⟩ : S45) ∈ p ∧ GO.next w k S R x y
theorem Cn_snoc {w k S R : Int} {p : List S45} (x y : Int) : Fn3 (Cn w k p) w k S R (w + 1) x y ↔ Cn w k (p ++ [⟨2 * S + k * w, R + w⟩]) x y := by
  unfold Fn3 Cn
  constructor
  · rintro (⟨S', R', h1, h2⟩ | ⟨d', h1, h2, h3⟩)
    · exact ⟨S', R', List.mem_append_left _ h1, h2⟩
    · exact ⟨S, R, List.mem_append_right _ (by simp), d', h1, by omega, h3⟩
  · rintro ⟨S', R', h1, h2⟩
    rcases List.mem_append.mp h1 with h1 | h1
    · exact Or.inl ⟨S', R', h1, h2⟩
    · simp only [List.mem_singleton] at h1
      have := S45.mk.inj h1
      obtain ⟨rfl, rfl⟩ : S' = S ∧ R' = R := by omega
      obtain ⟨d', g1, g2, g3⟩ := h2
      exact Or.inr ⟨d', g1, by omega, g3⟩
theorem go_l1 {w n : Int} {k : Nat} {P : Int × Bool → Prop} (hw : 1 ≤ w ∧ w ≤ 24) (hk : 1 ≤ k ∧ k ≤ 7) : ∀ (s p nxt : List S45), LR w k (p ++ s) (GO.P w (k - 1)) → LR w ((k : Int) + 1) nxt (Cn w k p) → nxt.length + 49 * s.length < 8796093022208 → (p ++ s).length < 8796093022208 →
    (∀ nxt', LR w ((k : Int) + 1) nxt' (GO.P w k) → nxt'.length ≤ nxt.length + 49 * s.length → Evt (fun K => spec_GreatestOverhang.l0 K w n nxt' (wrap64 ((k : Int) + 1))) P) → Evt (fun K => spec_GreatestOverhang.l1 K w n (p ++ s) k nxt (p.length : Int)) P := by
  intro s
  induction s with
  | nil =>
    intro p nxt hE hN hl hl2 hc
    rw [List.append_nil] at hE ⊢
    have hN2 : LR w ((k : Int) + 1) nxt (GO.P w k) := by
      have hS : GO.Rep (fun a v => (⟨2 * a + ((k : Int) + 1) * w, v + w⟩ : S45) ∈ nxt) (GO.P w ((k - 1) + 1)) := by
        refine GO.Rep.step (T := fun a v => (⟨2 * a + (k : Int) * w, v + w⟩ : S45) ∈ p) ⟨?_, hE.2⟩ ⟨?_, ?_⟩
        · intro a v hm
          obtain ⟨b, u, hp, e⟩ := hE.1 _ hm
          have := S45.mk.inj e
          obtain ⟨rfl, rfl⟩ : a = b ∧ v = u := by omega
          exact hp
        · intro a v hm
          obtain ⟨b, u, hp, e⟩ := hN.1 _ hm
          have := S45.mk.inj e
          obtain ⟨rfl, rfl⟩ : a = b ∧ v = u := by omega
          rw [show (((k - 1 : Nat) : Int) + 1) = (k : Int) from by omega]
          exact hp
        · intro a v hp
          rw [show (((k - 1 : Nat) : Int) + 1) = (k : Int) from by omega] at hp
          exact hN.2 a v hp
      rw [show (k - 1) + 1 = k from by omega] at hS
      refine ⟨?_, hS.2⟩
      intro x hx
      obtain ⟨b, u, hp, e⟩ := hN.1 x hx
      subst e
      exact ⟨b, u, hS.1 b u hx, rfl⟩
    refine (hc nxt hN2 (by omega)).step 0 fun K _ => ?_
    simp only [spec_GreatestOverhang.l1]
    rw [if_neg (by omega)]
  | cons e s ih =>
    intro p nxt hE hN hl hl2 hc
    obtain ⟨S, R, hp, rfl⟩ := hE.1 e (by simp)
    have hb := GO.P.small hw (by omega) hp
    have hlen : (p ++ (⟨2 * S + (k : Int) * w, R + w⟩ : S45) :: s).length = p.length + s.length + 1 := by simp; omega
    simp only [List.length_cons] at hl hc
    have h2 := go_l2 (P := P) (n := n) (ends := p ++ ⟨2 * S + (k : Int) * w, R + w⟩ :: s) (i := (p.length : Int)) (F := Cn w k p) hw (k := (k : Int)) (by omega) (S := S) (R := R) ⟨hb.1, hb.2.1⟩ ⟨hb.2.2.1, hb.2.2.2⟩ (by omega) (by rw [hlen]; omega) (rdT _ _ _)
      (2 * w + 1).toNat (-w) nxt (by omega) (by omega) (hN.congr fun x y => ⟨Or.inl, fun h => by rcases h with h | ⟨d', h1, h2, _⟩; exact h; omega⟩) (by omega) ?_
    · refine h2.step 0 fun K _ => ?_
      simp only [spec_GreatestOverhang.l1]
      rw [if_pos (by rw [hlen]; omega), wrap_id (x := -w) (by omega) (by omega)]
    · intro nxt' g1 g2
      rw [wrap_id (x := (p.length : Int) + 1) (by omega) (by omega), show (p.length : Int) + 1 = ((p ++ [(⟨2 * S + (k : Int) * w, R + w⟩ : S45)]).length : Int) from by simp, List.append_cons]
      refine ih (p ++ [⟨2 * S + (k : Int) * w, R + w⟩]) nxt' (by rw [← List.append_cons]; exact hE) (g1.congr Cn_snoc) (by omega) (by rw [← List.append_cons]; exact hl2) ?_
      intro nxt'' f1 f2
      exact hc nxt'' f1 (by omega)
theorem go_l3 {w n : Int} (hw : 1 ≤ w ∧ w ≤ 24) (hn : 1 ≤ n ∧ n ≤ 8) {m : Nat} (hm : (m : Int) + 1 = n) : ∀ (s p : List S45) (b : Int), LR w n (p ++ s) (GO.P w m) → (p ++ s).length < 8796093022208 → 0 ≤ b → b ≤ 1000 → (∀ a v, (⟨2 * a + n * w, v + w⟩ : S45) ∈ p → GO.vl w n a v ≤ b) → (b = 0 ∨ ∃ a v, GO.P w m a v ∧ b = GO.vl w n a v) →
    Evt (fun K => spec_GreatestOverhang.l3 K n (p ++ s) b (p.length : Int)) (fun r => r = (GO.best w m, true)) := by
  intro s
  induction s with
  | nil =>
    intro p b hE hl h0 h1 h2 h3
    rw [List.append_nil] at hE ⊢
    have hB : GO.Best w m b := by
      refine ⟨h0, ?_, ?_⟩
      · intro a v hp
        obtain ⟨v', hv, hx⟩ := hE.2 a v hp
        rw [hm]
        exact Int.le_trans (GO.vl_mono hv) (h2 a v' hx)
      · rw [hm]
        exact h3
    refine ⟨1, (b, true), ?_, fun K hK => ?_⟩
    · rw [GO.Best.one hB (GO.best_ok hw.1 m)]
    · obtain ⟨K, rfl⟩ : ∃ q, K = q + 1 := ⟨K - 1, by omega⟩
      simp only [spec_GreatestOverhang.l3]
      rw [if_neg (by omega)]
  | cons e s ih =>
    intro p b hE hl h0 h1 h2 h3
    obtain ⟨S, R, hp, rfl⟩ := hE.1 e (by simp)
    have hb := GO.P.small hw (by omega) hp
    obtain ⟨g1, g2, _, _⟩ := GO.P.bound hw.1 m S R hp
    rw [hm] at g1 g2
    have b2 := GO.prod (m := n) (x := w) (B := 24) (by omega) (by omega) (by omega) (by omega)
    have hlen : (p ++ (⟨2 * S + n * w, R + w⟩ : S45) :: s).length = p.length + s.length + 1 := by simp; omega
    have d1 : (-(2 * S + n * w)) / (2 * n) ≤ 0 / (2 * n) := Int.ediv_le_ediv (by omega) (by omega)
    rw [Int.zero_ediv] at d1
    have d2 : -w ≤ (-(2 * S + n * w)) / (2 * n) := by
      rw [Int.le_ediv_iff_mul_le (by omega)]
      have : -w * (2 * n) = -(2 * (n * w)) := by rw [Int.neg_mul, Int.mul_comm w, Int.mul_assoc]
      omega
    have hv : R + w + (-(2 * S + n * w)) / (2 * n) = GO.vl w n S R := rfl
    have m1 : b ≤ mx b (GO.vl w n S R) ∧ GO.vl w n S R ≤ mx b (GO.vl w n S R) ∧ mx b (GO.vl w n S R) ≤ 1000 := by unfold mx; split <;> omega
    have hnext := ih (p ++ [⟨2 * S + n * w, R + w⟩]) (mx b (GO.vl w n S R)) (by rw [← List.append_cons]; exact hE) (by rw [← List.append_cons]; exact hl) (by omega) m1.2.2 ?_ ?_
    · refine hnext.step 0 fun K _ => ?_
      simp only [spec_GreatestOverhang.l3]
      rw [if_pos (by rw [hlen]; omega), if_pos (by omega), rdT]
      simp only []
      rw [wrap_id (x := -(2 * S + n * w)) (by omega) (by omega), wrap_id (x := 2 * n) (by omega) (by omega), Down_eq _ _ (by omega) (by omega) (by omega) (by omega), Option.bind_some, wrap_id (x := R + w + (-(2 * S + n * w)) / (2 * n)) (by omega) (by omega), l1Most_eq, Option.bind_some, hv, wrap_id (x := (p.length : Int) + 1) (by omega) (by omega), show (p.length : Int) + 1 = ((p ++ [(⟨2 * S + n * w, R + w⟩ : S45)]).length : Int) from by simp, List.append_cons]
    · intro a v hx
      rcases List.mem_append.mp hx with hx | hx
      · have := h2 a v hx
        omega
      · simp only [List.mem_singleton] at hx
        have := S45.mk.inj hx
        obtain ⟨rfl, rfl⟩ : a = S ∧ v = R := by omega
        exact m1.2.1
    · unfold mx
      split
      · exact Or.inr ⟨S, R, hp, rfl⟩
      · exact h3
theorem go_l0 {w n : Int} (hw : 1 ≤ w ∧ w ≤ 24) (hn : 1 ≤ n ∧ n ≤ 8) : ∀ (m k : Nat) (ends : List S45), 1 ≤ k → (k : Int) + m = n → LR w k ends (GO.P w (k - 1)) → ends.length ≤ 49 ^ (k - 1) →
    Evt (fun K => spec_GreatestOverhang.l0 K w n ends k) (fun r => r = (GO.best w (n.toNat - 1), true)) := by
  intro m
  induction m with
  | zero =>
    intro k ends hk hkn hE hl
    have hp : (49 : Nat) ^ (k - 1) ≤ 49 ^ 7 := Nat.pow_le_pow_right (by omega) (by omega)
    have hp2 : (49 : Nat) ^ 7 = 678223072849 := by decide
    have hnk : (k : Int) = n := by omega
    have e1 : n.toNat - 1 = k - 1 := by omega
    rw [e1]
    rw [hnk] at hE
    have h3 := go_l3 hw hn (m := k - 1) (by omega) ends [] 0 hE (by simp; omega) (by omega) (by omega) (by simp) (Or.inl rfl)
    refine h3.step 0 fun K _ => ?_
    simp only [spec_GreatestOverhang.l0]
    rw [if_neg (by omega)]
    rfl
  | succ m ih =>
    intro k ends hk hkn hE hl
    have hp : (49 : Nat) ^ (k - 1) ≤ 49 ^ 6 := Nat.pow_le_pow_right (by omega) (by omega)
    have hp2 : (49 : Nat) ^ 6 = 13841287201 := by decide
    have h1 := go_l1 (P := fun r => r = (GO.best w (n.toNat - 1), true)) (n := n) hw (k := k) (by omega) ends [] [] hE ⟨(fun x hx => by cases hx), (fun a v h => by obtain ⟨S, R, h, _⟩ := h; cases h)⟩ (by simp; omega) (by simp; omega) ?_
    · refine h1.step 0 fun K _ => ?_
      simp only [spec_GreatestOverhang.l0]
      rw [if_pos (by omega)]
      rfl
    · intro nxt g1 g2
      rw [wrap_id (x := (k : Int) + 1) (by omega) (by omega), show (k : Int) + 1 = ((k + 1 : Nat) : Int) from by omega]
      refine ih (k + 1) nxt (by omega) (by omega) (by rw [show ((k + 1 : Nat) : Int) = (k : Int) + 1 from by omega]; exact g1) ?_
      have : 49 ^ (k + 1 - 1) = 49 * 49 ^ (k - 1) := by rw [← Nat.pow_succ']; congr 1; omega
      simp only [List.length_nil] at g2
      omega
theorem GO_spec (w n : Int) : ∃ B r, ∀ K, B ≤ K → spec_GreatestOverhang.f K w n = some r ∧ impl_GreatestOverhang.f w n = some r := by
  by_cases h : (1 ≤ w ∧ w ≤ 24) ∧ (1 ≤ n ∧ n ≤ 8)
  · obtain ⟨B, r, rfl, hr⟩ := go_l0 (w := w) (n := n) h.1 h.2 (n.toNat - 1) 1 [⟨w, w⟩] (by omega) (by omega) ⟨(fun x hx => ⟨0, 0, ⟨rfl, rfl⟩, by simp at hx; rw [hx]; simp⟩), (fun a v hp => by obtain ⟨rfl, rfl⟩ := hp; exact ⟨0, by omega, by simp⟩)⟩ (by simp)
    refine ⟨B, (GO.best w (n.toNat - 1), true), fun K hK => ⟨?_, ?_⟩⟩
    · unfold spec_GreatestOverhang.f
      rw [l4Sizes_eq, Option.bind_some]
      simp only [h.1, h.2, decide_true, and_self, Bool.and_true, if_true]
      exact hr K hK
    · unfold impl_GreatestOverhang.f
      rw [isSize_eq, Option.bind_some]
      simp only [h.1, h.2, decide_true, and_self, Bool.and_true, if_true]
  · refine ⟨0, (0, false), fun K hK => ⟨?_, ?_⟩⟩
    · unfold spec_GreatestOverhang.f
      rw [l4Sizes_eq, Option.bind_some, if_neg (by simp only [Bool.and_eq_true, decide_eq_true_eq]; exact h)]
    · unfold impl_GreatestOverhang.f
      rw [isSize_eq, Option.bind_some, if_neg (by simp only [Bool.and_eq_true, decide_eq_true_eq]; exact h)]
theorem bne_refl (b : Bool) : (b != b) = false := by cases b <;> rfl

theorem FnExactGreatestOverhang : laws_FnExactGreatestOverhang.Pure := by
  intro a n _ _
  obtain ⟨B, r, hr⟩ := GO_spec a n
  refine ⟨B, ?_⟩
  obtain ⟨h1, h2⟩ := hr B (Nat.le_refl _)
  unfold laws_FnExactGreatestOverhang.f
  rw [h1, h2, Option.bind_some, Option.bind_some, if_pos rfl, bne_refl, if_neg (by decide)]

end Go.Proofs.Ytnnpfekgapikfaa.Pure

/- Printed by the program print2.py over the translation: each function as a Lean function, and the proof that the call comes to its answer. -/
import Derived.Test.YtbdajkfihbaapaaZFnExactLevelWeightsx0
import Derived.Test.YtbdajkfihbaapaaZFnExactLevelWeightsx9
namespace Go.Proofs.Ytbdajkfihbaapaa.PFnExactLevelWeights
open Go.RowKit Go.Proofs.YtbdajkfihbaapaaW.PrintWords Go.Proofs.YtbdajkfihbaapaaW.PrintLast Go.Proofs.YtbdajkfihbaapaaW.PrintMore
attribute [local go_sem] max2_int min2_int max_two min_two max_three min_three max_four min_four   -- for this text's walks alone
set_option linter.unusedVariables false
set_option linter.unusedSimpArgs false

/-! ### impl_levelWeights: function 89 -/
mutual
def impl_levelWeights.l0 : Nat → List Int → List (S58) → Int → Int → List (S58) → List (S58) → Option (List Int)
 | 0, _, _, _, _, _, _ => none
 | k + 1, x3, x22, x23, x24, x263000, x263001 => if x24 < x23 then (if 0 ≤ x24 then (if x24 < (x22.length : Int) then (if 0 < (x3.length : Int) then (impl_levelWeights.l0 k (x3.set (0 : Int).toNat (wrap64 ((rd x3 0) * (wrap64 (((rd_T58 x22 x24).f0) + ((rd_T58 x22 x24).f1)))))) x22 x23 (wrap64 (x24 + 1)) x263000 x263001) else (none)) else (none)) else (none)) else (impl_levelWeights.l1 k x3 (([] : List Int)) 0 x263000 (x263000.length : Int) 0 x263000 x263001)
def impl_levelWeights.l1 : Nat → List Int → List Int → Int → List (S58) → Int → Int → List (S58) → List (S58) → Option (List Int)
 | 0, _, _, _, _, _, _, _, _ => none
 | k + 1, x3, x6, x7, x41, x42, x43, x263000, x263001 => if x43 < x42 then (if 0 ≤ x43 then (if x43 < (x41.length : Int) then (if x43 < (x3.length : Int) then (if (wrap64 (((rd_T58 x41 x43).f0) + ((rd_T58 x41 x43).f1))) = 0 then (none) else (if x43 < (x263001.length : Int) then (impl_levelWeights.l2 k x3 x6 x7 (wrap64 (Int.tdiv (rd x3 x43) (wrap64 (((rd_T58 x41 x43).f0) + ((rd_T58 x41 x43).f1))))) x41 x42 x43 0 x263000 x263001 ((rd_T58 x41 x43).f0) ((rd_T58 x41 x43).f1) ((rd_T58 x263001 x43).f0) ((rd_T58 x263001 x43).f1)) else (none))) else (none)) else (none)) else (none)) else (impl_levelWeights.l3 k x6 x7 (x6.length : Int) 0)
def impl_levelWeights.l2 : Nat → List Int → List Int → Int → Int → List (S58) → Int → Int → Int → List (S58) → List (S58) → Int → Int → Int → Int → Option (List Int)
 | 0, _, _, _, _, _, _, _, _, _, _, _, _, _, _ => none
 | k + 1, x3, x6, x7, x10, x41, x42, x43, x63, x263000, x263001, x276000, x276001, x10062000, x10062001 => if x63 < 2 then (if x63 = 0 then (if x10062000 < 0 then (if 0 ≤ (wrap64 (-x10062000)) then (if (wrap64 (-x10062000)) < (x3.length : Int) then (impl_levelWeights.l2 k (x3.set ((wrap64 (-x10062000)) : Int).toNat (wrap64 (x10 * x276001))) x6 x7 x10 x41 x42 x43 (wrap64 (x63 + 1)) x263000 x263001 x276000 x276001 x10062000 x10062001) else (none)) else (none)) else (if x6.length < 17592186044416 then ((impl_divisor.f k x7 (wrap64 (x10 * x276001))).bind fun t282 => (impl_levelWeights.l2 k x3 (x6 ++ [wrap64 (x10 * x276001)]) t282 x10 x41 x42 x43 (wrap64 (x63 + 1)) x263000 x263001 x276000 x276001 x10062000 x10062001)) else (none))) else (if x63 = 1 then (if x10062001 < 0 then (if 0 ≤ (wrap64 (-x10062001)) then (if (wrap64 (-x10062001)) < (x3.length : Int) then (impl_levelWeights.l2 k (x3.set ((wrap64 (-x10062001)) : Int).toNat (wrap64 (x10 * x276000))) x6 x7 x10 x41 x42 x43 (wrap64 (x63 + 1)) x263000 x263001 x276000 x276001 x10062000 x10062001) else (none)) else (none)) else (if x6.length < 17592186044416 then ((impl_divisor.f k x7 (wrap64 (x10 * x276000))).bind fun t287 => (impl_levelWeights.l2 k x3 (x6 ++ [wrap64 (x10 * x276000)]) t287 x10 x41 x42 x43 (wrap64 (x63 + 1)) x263000 x263001 x276000 x276001 x10062000 x10062001)) else (none))) else (none))) else (impl_levelWeights.l1 k x3 x6 x7 x41 x42 (wrap64 (x43 + 1)) x263000 x263001)
def impl_levelWeights.l3 : Nat → List Int → Int → Int → Int → Option (List Int)
 | 0, _, _, _, _ => none
 | k + 1, x6, x7, x90, x91 => if x91 < x90 then (if 0 ≤ x91 then (if x91 < (x6.length : Int) then (if x7 = 0 then (none) else (impl_levelWeights.l3 k (x6.set (x91 : Int).toNat (wrap64 (Int.tdiv (rd x6 x91) x7))) x7 x90 (wrap64 (x91 + 1)))) else (none)) else (none)) else (some x6)
end
def impl_levelWeights.f (k : Nat) (l0_0 : List (S58)) (l0_1 : List (S58)) : Option (List Int) := if 0 ≤ (l0_0.length : Int) then (if ((l0_0.length : Int) : Int).toNat ≤ 35184372088832 then ((some (List.replicate ((l0_0.length : Int) : Int).toNat 0 : List Int)).bind fun y263 => (if 0 < (y263.length : Int) then (impl_levelWeights.l0 k (y263.set (0 : Int).toNat 1) l0_0 (l0_0.length : Int) 0 l0_0 l0_1) else (none))) else (none)) else (none)
theorem impl_levelWeights.mono_l : ∀ k, (∀ y0 y1 y2 y3 y4 y5, LeO (impl_levelWeights.l0 k y0 y1 y2 y3 y4 y5) (impl_levelWeights.l0 (k + 1) y0 y1 y2 y3 y4 y5)) ∧ (∀ y0 y1 y2 y3 y4 y5 y6 y7, LeO (impl_levelWeights.l1 k y0 y1 y2 y3 y4 y5 y6 y7) (impl_levelWeights.l1 (k + 1) y0 y1 y2 y3 y4 y5 y6 y7)) ∧ (∀ y0 y1 y2 y3 y4 y5 y6 y7 y8 y9 y10 y11 y12 y13, LeO (impl_levelWeights.l2 k y0 y1 y2 y3 y4 y5 y6 y7 y8 y9 y10 y11 y12 y13) (impl_levelWeights.l2 (k + 1) y0 y1 y2 y3 y4 y5 y6 y7 y8 y9 y10 y11 y12 y13)) ∧ (∀ y0 y1 y2 y3, LeO (impl_levelWeights.l3 k y0 y1 y2 y3) (impl_levelWeights.l3 (k + 1) y0 y1 y2 y3))
 | 0 => ⟨fun _ _ _ _ _ _ r h => by simp [impl_levelWeights.l0] at h, fun _ _ _ _ _ _ _ _ r h => by simp [impl_levelWeights.l1] at h, fun _ _ _ _ _ _ _ _ _ _ _ _ _ _ r h => by simp [impl_levelWeights.l2] at h, fun _ _ _ _ r h => by simp [impl_levelWeights.l3] at h⟩
 | k + 1 => by
  obtain ⟨ih0, ih1, ih2, ih3⟩ := impl_levelWeights.mono_l k
  refine ⟨?_, ?_, ?_, ?_⟩
  ·
   intro y0 y1 y2 y3 y4 y5
   unfold impl_levelWeights.l0
   repeat' first
   | (with_reducible exact ih0 _ _ _ _ _ _)
   | (with_reducible exact ih1 _ _ _ _ _ _ _ _)
   | (with_reducible exact ih2 _ _ _ _ _ _ _ _ _ _ _ _ _ _)
   | (with_reducible exact ih3 _ _ _ _)
   | (with_reducible exact impl_divisor.mono _ _ _)
   | (with_reducible exact LeO.refl _)
   | (with_reducible exact LeO.none _)
   | (with_reducible refine LeO.ite ?_ ?_)
   | (with_reducible refine LeO.bind ?_ (fun _ => ?_))
   | exact ih0 _ _ _ _ _ _
   | exact ih1 _ _ _ _ _ _ _ _
   | exact ih2 _ _ _ _ _ _ _ _ _ _ _ _ _ _
   | exact ih3 _ _ _ _
   | exact impl_divisor.mono _ _ _
   | exact LeO.none _
   | refine LeO.ite ?_ ?_
   | refine LeO.bind ?_ (fun _ => ?_)
  ·
   intro y0 y1 y2 y3 y4 y5 y6 y7
   unfold impl_levelWeights.l1
   repeat' first
   | (with_reducible exact ih0 _ _ _ _ _ _)
   | (with_reducible exact ih1 _ _ _ _ _ _ _ _)
   | (with_reducible exact ih2 _ _ _ _ _ _ _ _ _ _ _ _ _ _)
   | (with_reducible exact ih3 _ _ _ _)
   | (with_reducible exact impl_divisor.mono _ _ _)
   | (with_reducible exact LeO.refl _)
   | (with_reducible exact LeO.none _)
   | (with_reducible refine LeO.ite ?_ ?_)
   | (with_reducible refine LeO.bind ?_ (fun _ => ?_))
   | exact ih0 _ _ _ _ _ _
   | exact ih1 _ _ _ _ _ _ _ _
   | exact ih2 _ _ _ _ _ _ _ _ _ _ _ _ _ _
   | exact ih3 _ _ _ _
   | exact impl_divisor.mono _ _ _
   | exact LeO.none _
   | refine LeO.ite ?_ ?_
   | refine LeO.bind ?_ (fun _ => ?_)
  ·
   intro y0 y1 y2 y3 y4 y5 y6 y7 y8 y9 y10 y11 y12 y13
   unfold impl_levelWeights.l2
   repeat' first
   | (with_reducible exact ih0 _ _ _ _ _ _)
   | (with_reducible exact ih1 _ _ _ _ _ _ _ _)
   | (with_reducible exact ih2 _ _ _ _ _ _ _ _ _ _ _ _ _ _)
   | (with_reducible exact ih3 _ _ _ _)
   | (with_reducible exact impl_divisor.mono _ _ _)
   | (with_reducible exact LeO.refl _)
   | (with_reducible exact LeO.none _)
   | (with_reducible refine LeO.ite ?_ ?_)
   | (with_reducible refine LeO.bind ?_ (fun _ => ?_))
   | exact ih0 _ _ _ _ _ _
   | exact ih1 _ _ _ _ _ _ _ _
   | exact ih2 _ _ _ _ _ _ _ _ _ _ _ _ _ _
   | exact ih3 _ _ _ _
   | exact impl_divisor.mono _ _ _
   | exact LeO.none _
   | refine LeO.ite ?_ ?_
   | refine LeO.bind ?_ (fun _ => ?_)
  ·
   intro y0 y1 y2 y3
   unfold impl_levelWeights.l3
   repeat' first
   | (with_reducible exact ih0 _ _ _ _ _ _)
   | (with_reducible exact ih1 _ _ _ _ _ _ _ _)
   | (with_reducible exact ih2 _ _ _ _ _ _ _ _ _ _ _ _ _ _)
   | (with_reducible exact ih3 _ _ _ _)
   | (with_reducible exact impl_divisor.mono _ _ _)
   | (with_reducible exact LeO.refl _)
   | (with_reducible exact LeO.none _)
   | (with_reducible refine LeO.ite ?_ ?_)
   | (with_reducible refine LeO.bind ?_ (fun _ => ?_))
   | exact ih0 _ _ _ _ _ _
   | exact ih1 _ _ _ _ _ _ _ _
   | exact ih2 _ _ _ _ _ _ _ _ _ _ _ _ _ _
   | exact ih3 _ _ _ _
   | exact impl_divisor.mono _ _ _
   | exact LeO.none _
   | refine LeO.ite ?_ ?_
   | refine LeO.bind ?_ (fun _ => ?_)
theorem impl_levelWeights.mono : ∀ a0 a1 k, LeO (impl_levelWeights.f k a0 a1) (impl_levelWeights.f (k + 1) a0 a1) := by
 intro a0 a1 k
 obtain ⟨ih0, ih1, ih2, ih3⟩ := impl_levelWeights.mono_l k
 unfold impl_levelWeights.f
 repeat' first
   | (with_reducible exact ih0 _ _ _ _ _ _)
   | (with_reducible exact ih1 _ _ _ _ _ _ _ _)
   | (with_reducible exact ih2 _ _ _ _ _ _ _ _ _ _ _ _ _ _)
   | (with_reducible exact ih3 _ _ _ _)
   | (with_reducible exact impl_divisor.mono _ _ _)
   | (with_reducible exact LeO.refl _)
   | (with_reducible exact LeO.none _)
   | (with_reducible refine LeO.ite ?_ ?_)
   | (with_reducible refine LeO.bind ?_ (fun _ => ?_))
   | exact ih0 _ _ _ _ _ _
   | exact ih1 _ _ _ _ _ _ _ _
   | exact ih2 _ _ _ _ _ _ _ _ _ _ _ _ _ _
   | exact ih3 _ _ _ _
   | exact impl_divisor.mono _ _ _
   | exact LeO.none _
   | refine LeO.ite ?_ ?_
   | refine LeO.bind ?_ (fun _ => ?_)
def impl_levelWeights.T6 : Bool × List (List Nat × List Nat) := (true, [([], []), ([0], [0]), ([1], [1]), ([], []), ([3], [3]), ([], []), ([5], [5]), ([4, 6], [4, 6]), ([2, 7], [2, 7]), ([0, 0, 1, 2, 3, 4, 5, 6, 7, 8], [0]), ([9, 8, 0, 1, 2, 3, 4, 5, 6, 7, 8], [8, 9])])
def impl_levelWeights.B6 : List Nat := [0, 1, 3, 0, 8, 0, 32, 120, 255, 511, 1023]
theorem impl_levelWeights.tab6 : rtab .any (opsOf Try.f89 6) = impl_levelWeights.T6 := by kernel_rfl
theorem impl_levelWeights.bits6 : waitsOk impl_levelWeights.T6.2 impl_levelWeights.B6 = true := by kernel_rfl
def impl_levelWeights.T12 : Bool × List (List Nat × List Nat) := (true, [([], []), ([], []), ([0, 1], [0, 1]), ([2], [2]), ([], []), ([4], [4]), ([], []), ([6], [6]), ([5, 7], [5, 7]), ([3, 8], [3, 8]), ([9, 0, 1, 2, 3, 4, 5, 6, 7, 8, 9], [9])])
def impl_levelWeights.B12 : List Nat := [0, 0, 3, 7, 0, 16, 0, 64, 240, 511, 1023]
theorem impl_levelWeights.tab12 : rtab .any (opsOf Try.f89 12) = impl_levelWeights.T12 := by kernel_rfl
theorem impl_levelWeights.bits12 : waitsOk impl_levelWeights.T12.2 impl_levelWeights.B12 = true := by kernel_rfl
set_option maxHeartbeats 8000000 in
set_option maxRecDepth 100000 in
theorem impl_levelWeights.calls (k : Nat) (A0_0 : Option Addr) (c0_0 : Nat) (l0_0 : List (S58)) (A0_1 : Option Addr) (c0_1 : Nat) (l0_1 : List (S58)) (r : List Int) (w : World) (hr0_0 : Kd.C k58 w A0_0 l0_0.length l0_0) (hc0_0 : l0_0.length ≤ c0_0) (hr0_1 : Kd.C k58 w A0_1 l0_1.length l0_1) (hc0_1 : l0_1.length ≤ c0_1) (h : impl_levelWeights.f k l0_0 l0_1 = some r) :
  Calls Try.prog 89 #[.agg #[.slice A0_0 l0_0.length c0_0, .slice A0_1 l0_1.length c0_1]] w fun e w' => ∃ v0_ : Value, e = .returned (v0_) ∧ Kd.R (Kd.int .i64) 3 w' w.heap.size (fun _ => True) v0_ r ∧ Below w.heap.size w w' := by
 have hu27 := Try.underlying27
 have hu58 := Try.underlying58
 have hwz_ : wrap64 0 = 0 := by simp [wrap64]
 have hwo_ : wrap64 1 = 1 := by simp [wrap64]
 have hix58_0 : ∀ (e0_ e1_ : Value) (W_ : World), (Instr.index 58 (.agg #[e0_, e1_]) (.int .i64 0)).run Try.prog W_ = .ok e0_ W_ := fun _ _ _ => by kernel_rfl
 have hix58_1 : ∀ (e0_ e1_ : Value) (W_ : World), (Instr.index 58 (.agg #[e0_, e1_]) (.int .i64 1)).run Try.prog W_ = .ok e1_ W_ := fun _ _ _ => by kernel_rfl
 have HR0_0 := Aside0.mk hr0_0
 have HC0_0 := Aside0.mk hc0_0
 clear hr0_0 hc0_0
 have HR0_1 := Aside0.mk hr0_1
 have HC0_1 := Aside0.mk hc0_1
 clear hr0_1 hc0_1
 have HB := Aside0.mk (Below.refl w.heap.size w)
 have H : (if 0 ≤ (l0_0.length : Int) then (if ((l0_0.length : Int) : Int).toNat ≤ 35184372088832 then ((some (List.replicate ((l0_0.length : Int) : Int).toNat 0 : List Int)).bind fun y263 => (if 0 < (y263.length : Int) then (impl_levelWeights.l0 k (y263.set (0 : Int).toNat 1) l0_0 (l0_0.length : Int) 0 l0_0 l0_1) else (none))) else (none)) else (none)) = some r := h
 clear h
 by_cases c2 : 0 ≤ (l0_0.length : Int)
 ·
  rw [if_pos c2] at H
  have c2b0 := eq_true c2
  have c2b1 : decide (0 ≤ (l0_0.length : Int)) = true := decide_eq_true c2
  clear c2
  by_cases c3 : ((l0_0.length : Int) : Int).toNat ≤ 35184372088832
  ·
   rw [if_pos c3] at H
   have c3b0 := eq_true c3
   have c3b1 : decide (((l0_0.length : Int) : Int).toNat ≤ 35184372088832) = true := decide_eq_true c3
   clear c3
   obtain ⟨y263, hy263⟩ : ∃ y_ : List Int, y_ = (List.replicate ((l0_0.length : Int) : Int).toNat 0) := ⟨_, rfl⟩
   replace H : (if 0 < (y263.length : Int) then (impl_levelWeights.l0 k (y263.set (0 : Int).toNat 1) l0_0 (l0_0.length : Int) 0 l0_0 l0_1) else (none)) = some r := by first | (rw [hy263]; with_reducible exact H) | (have H2_ := (Option.bind_some _ _).symm.trans H; rw [hy263]; with_reducible exact H2_) | (have H2_ := (Option.bind_some _ _).symm.trans H; with_reducible exact H2_) | with_reducible exact H | (rw [hy263]; exact H) | exact H
   have Ny263 := Aside0.mk hy263
   clear hy263
   by_cases c4 : 0 < (y263.length : Int)
   ·
    rw [if_pos c4] at H
    have c4b0 : decide (0 < (y263.length : Int)) = true := decide_eq_true c4
    have c4b1 : decide (0 < y263.length) = true := decide_eq_true (by omega)
    clear c4
    obtain ⟨y266, hy266⟩ : ∃ y_ : List Int, y_ = (y263.set (0 : Int).toNat 1) := ⟨_, rfl⟩
    replace H : (impl_levelWeights.l0 k y266 l0_0 (l0_0.length : Int) 0 l0_0 l0_1) = some r := by first | (rw [hy266]; with_reducible exact H) | (have H2_ := (Option.bind_some _ _).symm.trans H; rw [hy266]; with_reducible exact H2_) | (have H2_ := (Option.bind_some _ _).symm.trans H; with_reducible exact H2_) | with_reducible exact H | (rw [hy266]; exact H) | exact H
    have Ny266 := Aside0.mk hy266
    clear hy266
    have H' := Aside0.mk H
    clear H
    go_enter Try.func89, Try.ntmps89
    go_wp2_with (first | ((with_reducible refine gate_dst (N := 1) rfl ?_); refine box_event ?hg (N := 1) ?hd (cs := #[.slice A0_0 l0_0.length c0_0, .slice A0_1 l0_1.length c0_1]) (t := 27) ?hr ?_; (case hd => rfl); (case hg => rfl); (case hr => first | (go_simp; done) | (go_simp; rfl)); intro gb262 hg w6 hbox hb; have BK262 := Aside0.mk (hbox); have GW262 := Aside0.mk (bS HB.out hg); have GE262 := Aside0.mk (bS HB.out hg); replace HB := Aside0.mk (below_step (tB HB.out) hb); clear hb hbox hg; obtain ⟨hcz7_0, hfz7_0, hcz7_1, hfz7_1⟩ := cz2 BK262) | ((with_reducible refine gate_dst (N := 18) rfl ?_); refine Kd.R_make (Kd.int .i64) _ 3 rfl (N := 18) rfl 37 _ _ rfl (l0_0.length : Int) rfl rfl Try.underlying37 (.int .i64 0) 8 info3 rfl (by decide) (by omega) 0 (ok := fun _ => True) (okp := fun _ => True) rfl (fun _ hk => hk) trivial (of_decide_eq_true (by first | (with_reducible assumption) | assumption)) (Nat.le_trans (Nat.mul_le_mul_right _ (of_decide_eq_true (by first | (with_reducible assumption) | assumption) : (l0_0.length : Int).toNat ≤ 35184372088832)) (by omega)) (Below.refl _ _) (Nat.le_refl _) ?_; intro v264 w8 ho9 hb hg_ hnew_; clear hg_ hnew_; (first | rw [← Ny263.out] at ho9 | (simp only [Int.reduceToNat] at ho9; rw [← Ny263.out] at ho9)); have HO265 := Aside0.mk (Kd.R_lower ho9 (below_size (tB HB.out))); replace BK262 := bkB BK262 hb; replace HB := Aside0.mk (below_step (tB HB.out) hb); clear hb ho9; have p5 : 0 ≤ (0 : Int) := (by omega); have q5 : (0 : Int) < ((y263.length : Int) : Int) := of_decide_eq_true (by first | (with_reducible assumption) | assumption); have qi5 : (0 < y263.length) = True := eq_true (by omega); obtain ⟨go5, co5, eo5, gb5, gl5, cl5, HG5⟩ := Kd.R_form HO265.out (by omega); (first | cases eo5 | (injection eo5 with ea_ en_ ec_; (first | subst ea_ | (injection ea_ with ea_; subst ea_)); subst ec_; clear en_)); have GB5 := Aside0.mk gb5; have GG5 := Aside0.mk HG5; clear gb5 gl5 HG5; obtain ⟨hx5_0, hf5_0⟩ := Kd.R_celln 0 HO265.out (0 : Int) p5 q5; (try rw [show ((0 : Int)).toNat = 0 from rfl] at hx5_0); (try simp only [Nat.reduceMul, Nat.zero_mul, Nat.zero_add, Nat.reduceAdd] at hx5_0); (try rw [show ((0 : Int)).toNat = 0 from rfl] at hf5_0); (try simp only [Nat.reduceMul, Nat.zero_mul, Nat.zero_add, Nat.reduceAdd] at hf5_0); replace p5 := eq_true p5; replace q5 := eq_true q5; obtain ⟨hy10_, hz10_⟩ := Kd.R_celln 0 HO265.out (0 : Int) (by omega) (of_decide_eq_true (by first | (with_reducible assumption) | assumption)); (try simp only [Int.reduceToNat, Int.toNat_zero, Int.toNat_ofNat, Nat.reduceMul, Nat.zero_mul, Nat.zero_add] at hy10_ hz10_); (try rw [show ((0 : Int)).toNat = 0 from rfl] at hy10_); (try rw [show ((0 : Int)).toNat = 0 from rfl] at hz10_); have HP10 := Kd.R_putg HO265.out (0 : Int) 1) | ((with_reducible refine gate_store (t := 3) (p := 20) rfl ?_); refine store_event (t := 3) (p := 20) (v := ?vo_w11) (w1 := (w8.setCell ⟨go5, (0 : Int).toNat, none⟩ (.int .i64 1))) ?hg ?ho ?hn ?hr ?_; (case ho => rfl); (case hg => rfl); (case hn => rfl); (case hr => first | (go_simp; done) | (go_simp; rfl)); intro w11 hw; have hg : w8.grownBy w11 (some go5) := (by rw [hw]; exact HP10.2); have hp_ : Kd.R (Kd.int .i64) 3 w11 w.heap.size (fun _ => True) (.slice (some ⟨go5, 0, none⟩) y263.length co5) y266 := (by rw [hw, Ny266.out]; exact HP10.1); clear HP10; replace BK262 := Aside0.mk (blk_grown (g := gb262) (o := .cells #[.slice A0_0 l0_0.length c0_0, .slice A0_1 l0_1.length c0_1] 27 (0, 0)) (tK BK262.out) hg (Kd.R_ne HO265.out BK262.out (by decide))); replace HO265 := Aside0.mk (hp_); replace HB := Aside0.mk ((by rw [hw]; exact below_set (HB.out) GB5.out : Below w.heap.size w w11)); clear hg hw hp_; obtain ⟨hcz12_0, hfz12_0, hcz12_1, hfz12_1⟩ := cz2 BK262))
    go_loopg [24] k (fun kq v24 w' => ∃ (x3_1 : List Int) (x24_1 : Int), v24 = .int .i64 x24_1 ∧ Aside0 (impl_levelWeights.l0 kq x3_1 l0_0 (l0_0.length : Int) x24_1 l0_0 l0_1 = some r) ∧ Aside0 (kq ≤ k) ∧ Aside0 (Kd.R (Kd.int .i64) 3 w' w.heap.size (fun _ => True) (.slice (some ⟨go5, 0, none⟩) y263.length co5) x3_1) ∧ Aside0 (w'.heap[gb262]? = some (.cells #[(.slice A0_0 l0_0.length c0_0), (.slice A0_1 l0_1.length c0_1)] 27 (0, 0))) ∧ Aside0 (Below w.heap.size w w'))
    case atStart => exact ⟨(y266), (0), (by first | rfl | (simp; done) | (simp [wrap64]; done) | (simp [*]; done)), H', ⟨Nat.le_refl _⟩, ⟨tR HO265.out⟩, ⟨tK BK262.out⟩, ⟨tB HB.out⟩⟩
    case round =>
     clear H'
     try clear c2
     try clear c2b0
     try clear c2b1
     try clear p2
     try clear c3
     try clear c3b0
     try clear c3b1
     try clear c4
     try clear c4b0
     try clear c4b1
     try clear p5
     try clear q5
     try clear hx5
     try clear qi5
     try clear hf5
     try clear p6
     try clear c8
     try clear hcz12_0
     try clear hcz12_1
     try clear hcz7_0
     try clear hcz7_1
     try clear hfz12_0
     try clear hfz12_1
     try clear hfz7_0
     try clear hfz7_1
     try clear hx5_0
     try clear p5
     try clear q5
     obtain ⟨x3_1, x24_1, rfl, HA, HK1, HO_3, BK262, HB⟩ := hrel
     have hl3_1 := (Kd.R_reads' HO_3.out).1
     rw [hl3_1] at HO_3
     (try simp only [hl3_1])
     (try simp only [hl3_1] at BK262)
     cases gk with
     | zero => exact absurd HA.out (by simp [impl_levelWeights.l0])
     | succ k1 =>
      have H := HA.out
      clear HA
      simp only [impl_levelWeights.l0] at H
      by_cases c13 : x24_1 < (l0_0.length : Int)
      ·
       rw [if_pos c13] at H
       have c13b0 : decide (x24_1 < (l0_0.length : Int)) = true := decide_eq_true c13
       clear c13
       by_cases c14 : 0 ≤ x24_1
       ·
        rw [if_pos c14] at H
        have c14b0 : decide (0 ≤ x24_1) = true := decide_eq_true c14
        clear c14
        by_cases c15 : x24_1 < (l0_0.length : Int)
        ·
         rw [if_pos c15] at H
         have c15b0 : decide (x24_1 < (l0_0.length : Int)) = true := decide_eq_true c15
         clear c15
         by_cases c16 : 0 < (x3_1.length : Int)
         ·
          rw [if_pos c16] at H
          have c16b0 : decide (0 < (x3_1.length : Int)) = true := decide_eq_true c16
          have c16b1 : decide (0 < x3_1.length) = true := decide_eq_true (by omega)
          clear c16
          obtain ⟨y270, hy270⟩ : ∃ y_ : List Int, y_ = (x3_1.set (0 : Int).toNat (wrap64 ((rd x3_1 0) * (wrap64 (((rd_T58 l0_0 x24_1).f0) + ((rd_T58 l0_0 x24_1).f1)))))) := ⟨_, rfl⟩
          replace H : (impl_levelWeights.l0 k1 y270 l0_0 (l0_0.length : Int) (wrap64 (x24_1 + 1)) l0_0 l0_1) = some r := by first | (rw [hy270]; with_reducible exact H) | (have H2_ := (Option.bind_some _ _).symm.trans H; rw [hy270]; with_reducible exact H2_) | (have H2_ := (Option.bind_some _ _).symm.trans H; with_reducible exact H2_) | with_reducible exact H | (rw [hy270]; exact H) | exact H
          have Ny270 := Aside0.mk hy270
          clear hy270
          have H' := Aside0.mk H
          clear H
          have p267 : 0 ≤ (x24_1 : Int) := of_decide_eq_true (by first | (with_reducible assumption) | assumption)
          have q267 : x24_1 < (l0_0.length : Int) := of_decide_eq_true (by first | (with_reducible assumption) | assumption)
          obtain ⟨ad267, e267, hx267_0, hx267_1⟩ := at_T58 HR0_0.out x24_1 p267 q267
          cases e267
          replace hx267_0 := (HB.out.cell (World.block_lt_of_cell? w _ hx267_0)).trans hx267_0
          replace hx267_1 := (HB.out.cell (World.block_lt_of_cell? w _ hx267_1)).trans hx267_1
          replace p267 := eq_true p267
          replace q267 := eq_true q267
          try go_wp2_with (first | ((with_reducible refine gate_dst (N := 5) rfl ?_); refine box_event ?hg (N := 5) ?hd (cs := #[.int .i64 0, .int .i64 0]) (t := 58) ?hr ?_; (case hd => rfl); (case hg => rfl); (case hr => first | (go_simp; done) | (go_simp; rfl)); intro gb268 hg w18 hbox hb; replace HO_3 := Aside0.mk (Kd.R_below (tR HO_3.out) hb); have BK268 := Aside0.mk (hbox); have GW268 := Aside0.mk (bS HB.out hg); have GE268 := Aside0.mk (bS HB.out hg); replace HB := Aside0.mk (below_step (tB HB.out) hb); have NB262_268 := Aside0.mk (nL BK262.out hg); have NB268_262 := Aside0.mk (nG BK262.out hg); replace BK262 := bkB BK262 hb; clear hb hbox hg; have hnb19 := NB268_262.out; have hnc19 := NB262_268.out; obtain ⟨hcz20_0, hfz20_0, hcz20_1, hfz20_1⟩ := cz2 BK268))
          have n0_ : Aside0 (Kd.R (Kd.int .i64) 3 ((w18.setCell ⟨gb268, 0, none⟩ (.int .i64 ((rd_T58 l0_0 x24_1).f0))).setCell ⟨gb268, 1, none⟩ (.int .i64 ((rd_T58 l0_0 x24_1).f1))) w.heap.size (fun _ => True) (.slice (some ⟨go5, 0, none⟩) x3_1.length co5) x3_1) := ⟨by (with_reducible repeat (first | apply Kd.R_alloc | apply Kd.R_drewN | apply Kd.R_drew)); exact Kd.R_mono (Kd.R_far (p := ⟨gb268, 1, none⟩) (Kd.R_far (p := ⟨gb268, 0, none⟩) (Kd.R_types HO_3.out BK268.out (by decide)) (fun _ hk => hk.2) (.int .i64 ((rd_T58 l0_0 x24_1).f0))) (fun _ hk => hk.2) (.int .i64 ((rd_T58 l0_0 x24_1).f1))) (fun _ hk => trivial)⟩
          have n1_ : Aside0 (((w18.setCell ⟨gb268, 0, none⟩ (.int .i64 ((rd_T58 l0_0 x24_1).f0))).setCell ⟨gb268, 1, none⟩ (.int .i64 ((rd_T58 l0_0 x24_1).f1))).heap[gb262]? = some (.cells #[.slice (some ad267) l0_0.length c0_0, .slice A0_1 l0_1.length c0_1] 27 (0, 0))) := ⟨by (with_reducible repeat (first | refine blk_drewN ?_ _ | refine blk_drew ?_ | refine blk_alloc ?_ _)); refine blk_far ?_ NB262_268.out _; (with_reducible repeat (first | refine blk_drewN ?_ _ | refine blk_drew ?_ | refine blk_alloc ?_ _)); refine blk_far ?_ NB262_268.out _; (with_reducible repeat (first | refine blk_drewN ?_ _ | refine blk_drew ?_ | refine blk_alloc ?_ _)); exact BK262.out⟩
          have n2_ : Aside0 (((w18.setCell ⟨gb268, 0, none⟩ (.int .i64 ((rd_T58 l0_0 x24_1).f0))).setCell ⟨gb268, 1, none⟩ (.int .i64 ((rd_T58 l0_0 x24_1).f1))).heap[gb268]? = some (.cells #[.int .i64 ((rd_T58 l0_0 x24_1).f0), .int .i64 ((rd_T58 l0_0 x24_1).f1)] 58 (0, 0))) := ⟨by (with_reducible repeat (first | refine blk_drewN ?_ _ | refine blk_drew ?_ | refine blk_alloc ?_ _)); refine blk_put (cs := #[.int .i64 ((rd_T58 l0_0 x24_1).f0), .int .i64 0]) ?_ 1 _ rfl; (with_reducible repeat (first | refine blk_drewN ?_ _ | refine blk_drew ?_ | refine blk_alloc ?_ _)); refine blk_put (cs := #[.int .i64 0, .int .i64 0]) ?_ 0 _ rfl; (with_reducible repeat (first | refine blk_drewN ?_ _ | refine blk_drew ?_ | refine blk_alloc ?_ _)); exact BK268.out⟩
          have n3_ : Aside0 (Below w.heap.size w ((w18.setCell ⟨gb268, 0, none⟩ (.int .i64 ((rd_T58 l0_0 x24_1).f0))).setCell ⟨gb268, 1, none⟩ (.int .i64 ((rd_T58 l0_0 x24_1).f1)))) := ⟨tB HB.out⟩
          (try clear HO_3)
          (try clear BK262)
          (try clear BK268)
          (try clear HB)
          generalize ((w18.setCell ⟨gb268, 0, none⟩ (.int .i64 ((rd_T58 l0_0 x24_1).f0))).setCell ⟨gb268, 1, none⟩ (.int .i64 ((rd_T58 l0_0 x24_1).f1))) = w21 at n0_ n1_ n2_ n3_ ⊢
          have HO_3 := n0_
          have BK262 := n1_
          have BK268 := n2_
          have HB := n3_
          clear n0_ n1_ n2_ n3_
          replace HO_3 := Aside0.mk (Kd.R_drew HO_3.out)
          replace BK262 := Aside0.mk (blk_drew BK262.out)
          replace BK268 := Aside0.mk (blk_drew BK268.out)
          replace HB := Aside0.mk (below_drew1 HB.out)
          have p269 : 0 ≤ (0 : Int) := (by omega)
          have q269 : 0 < (x3_1.length : Int) := of_decide_eq_true (by first | (with_reducible assumption) | assumption)
          obtain ⟨ad269, e269, hx269_0⟩ := Kd.at_int (Kd.R_reads' HO_3.out).2.2 0 p269 q269
          obtain rfl : (⟨go5, 0, none⟩ : Addr) = ad269 := (by injection e269)
          (first | simp only [add_plain] at hx269_0 | simp only [add_at] at hx269_0 | simp only [Addr.add, Nat.zero_add] at hx269_0 | skip)
          have qi269 : (0 < x3_1.length) = True := eq_true (by omega)
          (try rw [show ((0 : Int)).toNat = 0 from rfl] at hx269_0)
          (try rw [Addr.add_zero'] at hx269_0)
          replace p269 := eq_true p269
          replace q269 := eq_true q269
          have p17 : 0 ≤ (0 : Int) := (by omega)
          have q17 : (0 : Int) < ((x3_1.length : Int) : Int) := of_decide_eq_true (by first | (with_reducible assumption) | assumption)
          have qi17 : (0 < x3_1.length) = True := eq_true (by omega)
          obtain ⟨hx17_0, hf17_0⟩ := Kd.R_celln 0 HO_3.out (0 : Int) p17 q17
          (try rw [show ((0 : Int)).toNat = 0 from rfl] at hx17_0)
          (try simp only [Nat.reduceMul, Nat.zero_mul, Nat.zero_add, Nat.reduceAdd] at hx17_0)
          (try rw [show ((0 : Int)).toNat = 0 from rfl] at hf17_0)
          (try simp only [Nat.reduceMul, Nat.zero_mul, Nat.zero_add, Nat.reduceAdd] at hf17_0)
          replace p17 := eq_true p17
          replace q17 := eq_true q17
          have HP23 := Kd.R_putn HO_3.out (0 : Int) (wrap64 ((rd x3_1 0) * (wrap64 (((rd_T58 l0_0 x24_1).f0) + ((rd_T58 l0_0 x24_1).f1)))))
          rw [← Ny270.out] at HP23
          have HQ23 := Aside0.mk HP23
          clear HP23
          refine start_ (n := 11) (S := fun w' => w'.cell? ⟨gb268, 0, none⟩ = some (.int .i64 ((rd_T58 l0_0 x24_1).f0)) ∧ w'.cell? ⟨gb268, 1, none⟩ = some (.int .i64 ((rd_T58 l0_0 x24_1).f1)) ∧ w'.cell? ⟨go5, 0, none⟩ = some (.int .i64 (rd x3_1 0))) (ds := [10]) #[n_, n_, n_, n_, n_, n_, n_, n_, n_, n_, n_] (by kernel_rfl) rfl rfl ⟨(blk_cell BK268.out 0).trans rfl, (blk_cell BK268.out 1).trans rfl, hx269_0⟩ (fun hHeld => ?_); refine with_tabW impl_levelWeights.tab6 impl_levelWeights.bits6 (fun HT_ HW_ => ?_)
          generalize w21.drew = w22 at HO_3 BK262 BK268 HB HQ23 hf17_0 hx17_0 hx269_0 hHeld ⊢
          refine pu 0 (some 28) #[y_, n_, n_, n_, n_, n_, n_, n_, n_, n_, n_] (any_of HT_.out (by kernel_rfl)) ?_
          refine pu 1 (some 29) #[y_, y_, n_, n_, n_, n_, n_, n_, n_, n_, n_] (any_of HT_.out (by kernel_rfl)) ?_
          refine pu 3 (some 31) #[y_, y_, n_, y_, n_, n_, n_, n_, n_, n_, n_] (any_of HT_.out (by kernel_rfl)) ?_
          refine pu 5 (some 33) #[y_, y_, n_, y_, n_, y_, n_, n_, n_, n_, n_] (any_of HT_.out (by kernel_rfl)) ?_
          refine tk 2 (some 30) #[y_, y_, y_, y_, n_, y_, n_, n_, n_, n_, n_] rfl (take_ofW HT_.out HW_.out (by kernel_rfl)) hHeld (Or.inl ⟨by rfl, by rintro w' ⟨s0, s1, s2⟩; go_simp; with_reducible rfl⟩) ?_
          refine tk 4 (some 32) #[y_, y_, y_, y_, y_, y_, n_, n_, n_, n_, n_] rfl (take_ofW HT_.out HW_.out (by kernel_rfl)) hHeld (Or.inl ⟨by rfl, by rintro w' ⟨s0, s1, s2⟩; go_simp; with_reducible rfl⟩) ?_
          refine tk 6 (some 34) #[y_, y_, y_, y_, y_, y_, y_, n_, n_, n_, n_] rfl (take_ofW HT_.out HW_.out (by kernel_rfl)) hHeld (Or.inl ⟨by rfl, by rintro w' ⟨s0, s1, s2⟩; go_simp; with_reducible rfl⟩) ?_
          refine pu 7 (some 35) #[y_, y_, y_, y_, y_, y_, y_, y_, n_, n_, n_] (any_of HT_.out (by kernel_rfl)) ?_
          refine pu 8 (some 36) #[y_, y_, y_, y_, y_, y_, y_, y_, y_, n_, n_] (any_of HT_.out (by kernel_rfl)) ?_
          refine pu 9 (some 37) #[y_, y_, y_, y_, y_, y_, y_, y_, y_, y_, n_] (any_of HT_.out (by kernel_rfl)) ?_
          refine last_ (i := 10) (N := none) #[y_, y_, y_, y_, y_, y_, y_, y_, y_, y_, y_] rfl rfl (one_of HT_.out (by kernel_rfl)) (by decide) (fun K hK => ?_)
          refine skip_ (w1 := ?_) (by rfl) rfl ?_ ?_
          rotate_left
          ·
           go_simp
           rfl
          refine hK.out _ _ ?_
          clear hK K
          refine done_ (done_of HT_.out (by kernel_rfl)) ?_
          try go_wp2
          (try simp only [← hl3_1])
          go_roundg k1
          case measure => have := HK1.out; omega
          case rel => exact ⟨(y270), (wrap64 (x24_1 + 1)), (by first | rfl | (simp; done) | (simp [wrap64]; done) | (simp [*]; done)), H', ⟨by have := HK1.out; omega⟩, ⟨by (try simp only [hl3_1]); (with_reducible repeat (first | apply Kd.R_alloc | apply Kd.R_drewN | apply Kd.R_drew)); exact HQ23.out⟩, ⟨by (try simp only [hl3_1]); (with_reducible repeat (first | refine blk_drewN ?_ _ | refine blk_drew ?_ | refine blk_alloc ?_ _)); refine blk_far ?_ (by have h_ := Kd.R_ne HO_3.out BK262.out (by decide); intro e_; exact h_ (by rw [e_]; rfl)) _; (with_reducible repeat (first | refine blk_drewN ?_ _ | refine blk_drew ?_ | refine blk_alloc ?_ _)); exact BK262.out⟩, ⟨tB HB.out⟩⟩
         ·
          rw [if_neg c16] at H
          exact absurd H (by simp)
        ·
         rw [if_neg c15] at H
         exact absurd H (by simp)
       ·
        rw [if_neg c14] at H
        exact absurd H (by simp)
      ·
       rw [if_neg c13] at H
       have c13b0 : decide (x24_1 < (l0_0.length : Int)) = false := decide_eq_false c13
       clear c13
       obtain ⟨y271, hy271⟩ : ∃ y_ : List Int, y_ = (([] : List Int)) := ⟨_, rfl⟩
       replace H : (impl_levelWeights.l1 k1 x3_1 y271 0 l0_0 (l0_0.length : Int) 0 l0_0 l0_1) = some r := by first | (rw [hy271]; with_reducible exact H) | (have H2_ := (Option.bind_some _ _).symm.trans H; rw [hy271]; with_reducible exact H2_) | (have H2_ := (Option.bind_some _ _).symm.trans H; with_reducible exact H2_) | with_reducible exact H | (rw [hy271]; exact H) | exact H
       have Ny271 := Aside0.mk hy271
       clear hy271
       have H' := Aside0.mk H
       clear H
       go_wp2_with (first | ((with_reducible refine gate_dst (N := 39) rfl ?_); refine Kd.R_lit (Kd.int .i64) _ 3 ?hg (N := 39) ?hd (xs := ([] : List Int)) (inner := []) (ok := fun _ => True) (okp := fun _ => True) ?hr ?hp (fun _ hk => hk) trivial (Below.refl _ _) (Nat.le_refl _) (by simp) ?_; (case hd => rfl); (case hg => rfl); (case hr => first | (go_simp; done) | (go_simp; rfl)); (case hp => exact (Reps.none _ _)); intro v272 w24 ho25 hb hg_ hnew_; clear hg_ hnew_; (first | rw [← Ny271.out] at ho25 | (simp only [Int.reduceToNat] at ho25; rw [← Ny271.out] at ho25)); have HO273 := Aside0.mk (Kd.R_lower (Kd.R_new' ho25 (Kd.R_lt (tR HO_3.out))) (below_size (tB HB.out))); replace HO_3 := Aside0.mk (Kd.R_elder' (tR HO_3.out) (Kd.R_base ho25) hb); replace BK262 := bkB BK262 hb; replace HB := Aside0.mk (below_step (tB HB.out) hb); clear hb ho25; obtain ⟨hcz26_0, hfz26_0, hcz26_1, hfz26_1⟩ := cz2 BK262))
       go_loopg [6, 7, 43] k1 (fun kq v6 v7 v43 w' => ∃ (x3_2 : List Int) (x6_2 : List Int) (x7_2 : Int) (x43_2 : Int), v7 = .int .i64 x7_2 ∧ v43 = .int .i64 x43_2 ∧ Aside0 (impl_levelWeights.l1 kq x3_2 x6_2 x7_2 l0_0 (l0_0.length : Int) x43_2 l0_0 l0_1 = some r) ∧ Aside0 (kq ≤ k1) ∧ Aside0 (Kd.R (Kd.int .i64) 3 w' w.heap.size (fun k_ => some k_ ≠ (v6 : Value).ownBlock) (.slice (some ⟨go5, 0, none⟩) x3_1.length co5) x3_2) ∧ Aside0 (Kd.R (Kd.int .i64) 3 w' w.heap.size (fun k_ => some k_ ≠ ((.slice (some ⟨go5, 0, none⟩) x3_1.length co5) : Value).ownBlock) v6 x6_2) ∧ Aside0 (w'.heap[gb262]? = some (.cells #[(.slice A0_0 l0_0.length c0_0), (.slice A0_1 l0_1.length c0_1)] 27 (0, 0))) ∧ Aside0 (Below w.heap.size w w'))
       case atStart => exact ⟨(x3_1), (y271), (0), (0), (by first | rfl | (simp; done) | (simp [wrap64]; done) | (simp [*]; done)), (by first | rfl | (simp; done) | (simp [wrap64]; done) | (simp [*]; done)), H', ⟨Nat.le_refl _⟩, ⟨by (try simp only [hl3_1]); (with_reducible repeat (first | apply Kd.R_alloc | apply Kd.R_drewN | apply Kd.R_drew)); exact Kd.R_mono HO_3.out (fun _ hk => hk.2)⟩, ⟨by (try simp only [hl3_1]); (with_reducible repeat (first | apply Kd.R_alloc | apply Kd.R_drewN | apply Kd.R_drew)); exact Kd.R_mono HO273.out (fun _ hk => hk.2)⟩, ⟨by (try simp only [hl3_1]); (with_reducible repeat (first | refine blk_drewN ?_ _ | refine blk_drew ?_ | refine blk_alloc ?_ _)); exact BK262.out⟩, ⟨tB HB.out⟩⟩
       case round =>
        clear H'
        try clear c1
        try clear p1
        try clear q1
        try clear hx1
        try clear qi1
        try clear hf1
        try clear c2
        try clear c2b0
        try clear c2b1
        try clear p2
        try clear q2
        try clear hx2
        try clear qi2
        try clear c3
        try clear c3b0
        try clear c3b1
        try clear c4
        try clear c4b0
        try clear c4b1
        try clear p5
        try clear q5
        try clear hx5
        try clear qi5
        try clear hf5
        try clear p6
        try clear c8
        try clear c13
        try clear c13b0
        try clear c14
        try clear c14b0
        try clear c15
        try clear c15b0
        try clear c16
        try clear c16b0
        try clear c16b1
        try clear p17
        try clear q17
        try clear hx17
        try clear qi17
        try clear hf17
        try clear c19
        try clear p26
        try clear q26
        try clear hx26
        try clear qi26
        try clear hcz12_0
        try clear hcz12_1
        try clear hcz20_0
        try clear hcz20_1
        try clear hcz26_0
        try clear hcz26_1
        try clear hcz7_0
        try clear hcz7_1
        try clear hfz12_0
        try clear hfz12_1
        try clear hfz20_0
        try clear hfz20_1
        try clear hfz26_0
        try clear hfz26_1
        try clear hfz7_0
        try clear hfz7_1
        try clear hx17_0
        try clear hx267_0
        try clear hx267_1
        try clear hx269_0
        try clear hx5_0
        try clear p17
        try clear p2
        try clear p267
        try clear p269
        try clear p5
        try clear p6
        try clear q17
        try clear q267
        try clear q269
        try clear q5
        obtain ⟨x3_2, x6_2, x7_2, x43_2, rfl, rfl, HA, HK2, HO_3, HO_6, BK262, HB⟩ := hrel
        have hl3_2 := (Kd.R_reads' HO_3.out).1
        rw [hl3_2] at HO_3
        (try simp only [hl3_2])
        (try simp only [hl3_2] at BK262)
        (try simp only [hl3_2] at HO_6)
        cases gk with
        | zero => exact absurd HA.out (by simp [impl_levelWeights.l1])
        | succ k2 =>
         have H := HA.out
         clear HA
         simp only [impl_levelWeights.l1] at H
         by_cases c27 : x43_2 < (l0_0.length : Int)
         ·
          rw [if_pos c27] at H
          have c27b0 : decide (x43_2 < (l0_0.length : Int)) = true := decide_eq_true c27
          clear c27
          by_cases c28 : 0 ≤ x43_2
          ·
           rw [if_pos c28] at H
           have c28b0 : decide (0 ≤ x43_2) = true := decide_eq_true c28
           clear c28
           by_cases c29 : x43_2 < (l0_0.length : Int)
           ·
            rw [if_pos c29] at H
            have c29b0 : decide (x43_2 < (l0_0.length : Int)) = true := decide_eq_true c29
            clear c29
            by_cases c30 : x43_2 < (x3_2.length : Int)
            ·
             rw [if_pos c30] at H
             have c30b0 : decide (x43_2 < (x3_2.length : Int)) = true := decide_eq_true c30
             clear c30
             by_cases c31 : (wrap64 (((rd_T58 l0_0 x43_2).f0) + ((rd_T58 l0_0 x43_2).f1))) = 0
             ·
              rw [if_pos c31] at H
              exact absurd H (by simp)
             ·
              rw [if_neg c31] at H
              have c31b0 : ((wrap64 (((rd_T58 l0_0 x43_2).f0) + ((rd_T58 l0_0 x43_2).f1))) == 0) = false := beq_eq_false_iff_ne.mpr c31
              have c31b1 : ((wrap64 (((rd_T58 l0_0 x43_2).f0) + ((rd_T58 l0_0 x43_2).f1))) != 0) = true := bne_iff_ne.mpr c31
              by_cases c32 : x43_2 < (l0_1.length : Int)
              ·
               rw [if_pos c32] at H
               have c32b0 : decide (x43_2 < (l0_1.length : Int)) = true := decide_eq_true c32
               clear c32
               have H' := Aside0.mk H
               clear H
               have p274 : 0 ≤ (x43_2 : Int) := of_decide_eq_true (by first | (with_reducible assumption) | assumption)
               have q274 : x43_2 < (l0_0.length : Int) := of_decide_eq_true (by first | (with_reducible assumption) | assumption)
               obtain ⟨ad274, e274, hx274_0, hx274_1⟩ := at_T58 HR0_0.out x43_2 p274 q274
               cases e274
               replace hx274_0 := (HB.out.cell (World.block_lt_of_cell? w _ hx274_0)).trans hx274_0
               replace hx274_1 := (HB.out.cell (World.block_lt_of_cell? w _ hx274_1)).trans hx274_1
               replace p274 := eq_true p274
               replace q274 := eq_true q274
               try go_wp2_with (first | ((with_reducible refine gate_dst (N := 9) rfl ?_); refine box_event ?hg (N := 9) ?hd (cs := #[.int .i64 0, .int .i64 0]) (t := 58) ?hr ?_; (case hd => rfl); (case hg => rfl); (case hr => first | (go_simp; done) | (go_simp; rfl)); intro gb275 hg w33 hbox hb; replace HO_3 := Aside0.mk (Kd.R_below (tR HO_3.out) hb); replace HO_6 := Aside0.mk (Kd.R_below (tR HO_6.out) hb); have BK275 := Aside0.mk (hbox); have GW275 := Aside0.mk (bS HB.out hg); have GE275 := Aside0.mk (bS HB.out hg); replace HB := Aside0.mk (below_step (tB HB.out) hb); have NB262_275 := Aside0.mk (nL BK262.out hg); have NB275_262 := Aside0.mk (nG BK262.out hg); replace BK262 := bkB BK262 hb; clear hb hbox hg; have hnb34 := NB275_262.out; have hnc34 := NB262_275.out; obtain ⟨hcz35_0, hfz35_0, hcz35_1, hfz35_1⟩ := cz2 BK275))
               have n0_ : Aside0 (Kd.R (Kd.int .i64) 3 ((w33.setCell ⟨gb275, 0, none⟩ (.int .i64 ((rd_T58 l0_0 x43_2).f0))).setCell ⟨gb275, 1, none⟩ (.int .i64 ((rd_T58 l0_0 x43_2).f1))) w.heap.size (fun k_ => some k_ ≠ (u6 : Value).ownBlock) (.slice (some ⟨go5, 0, none⟩) x3_2.length co5) x3_2) := ⟨by (with_reducible repeat (first | apply Kd.R_alloc | apply Kd.R_drewN | apply Kd.R_drew)); exact Kd.R_mono (Kd.R_far (p := ⟨gb275, 1, none⟩) (Kd.R_far (p := ⟨gb275, 0, none⟩) (Kd.R_types HO_3.out BK275.out (by decide)) (fun _ hk => hk.2) (.int .i64 ((rd_T58 l0_0 x43_2).f0))) (fun _ hk => hk.2) (.int .i64 ((rd_T58 l0_0 x43_2).f1))) (fun _ hk => hk.1)⟩
               have n1_ : Aside0 (Kd.R (Kd.int .i64) 3 ((w33.setCell ⟨gb275, 0, none⟩ (.int .i64 ((rd_T58 l0_0 x43_2).f0))).setCell ⟨gb275, 1, none⟩ (.int .i64 ((rd_T58 l0_0 x43_2).f1))) w.heap.size (fun k_ => some k_ ≠ (.slice (some ⟨go5, 0, none⟩) x3_2.length co5 : Value).ownBlock) u6 x6_2) := ⟨by (with_reducible repeat (first | apply Kd.R_alloc | apply Kd.R_drewN | apply Kd.R_drew)); exact Kd.R_mono (Kd.R_far (p := ⟨gb275, 1, none⟩) (Kd.R_far (p := ⟨gb275, 0, none⟩) (Kd.R_types HO_6.out BK275.out (by decide)) (fun _ hk => hk.2) (.int .i64 ((rd_T58 l0_0 x43_2).f0))) (fun _ hk => hk.2) (.int .i64 ((rd_T58 l0_0 x43_2).f1))) (fun _ hk => hk.1)⟩
               have n2_ : Aside0 (((w33.setCell ⟨gb275, 0, none⟩ (.int .i64 ((rd_T58 l0_0 x43_2).f0))).setCell ⟨gb275, 1, none⟩ (.int .i64 ((rd_T58 l0_0 x43_2).f1))).heap[gb262]? = some (.cells #[.slice (some ad274) l0_0.length c0_0, .slice A0_1 l0_1.length c0_1] 27 (0, 0))) := ⟨by (with_reducible repeat (first | refine blk_drewN ?_ _ | refine blk_drew ?_ | refine blk_alloc ?_ _)); refine blk_far ?_ NB262_275.out _; (with_reducible repeat (first | refine blk_drewN ?_ _ | refine blk_drew ?_ | refine blk_alloc ?_ _)); refine blk_far ?_ NB262_275.out _; (with_reducible repeat (first | refine blk_drewN ?_ _ | refine blk_drew ?_ | refine blk_alloc ?_ _)); exact BK262.out⟩
               have n3_ : Aside0 (((w33.setCell ⟨gb275, 0, none⟩ (.int .i64 ((rd_T58 l0_0 x43_2).f0))).setCell ⟨gb275, 1, none⟩ (.int .i64 ((rd_T58 l0_0 x43_2).f1))).heap[gb275]? = some (.cells #[.int .i64 ((rd_T58 l0_0 x43_2).f0), .int .i64 ((rd_T58 l0_0 x43_2).f1)] 58 (0, 0))) := ⟨by (with_reducible repeat (first | refine blk_drewN ?_ _ | refine blk_drew ?_ | refine blk_alloc ?_ _)); refine blk_put (cs := #[.int .i64 ((rd_T58 l0_0 x43_2).f0), .int .i64 0]) ?_ 1 _ rfl; (with_reducible repeat (first | refine blk_drewN ?_ _ | refine blk_drew ?_ | refine blk_alloc ?_ _)); refine blk_put (cs := #[.int .i64 0, .int .i64 0]) ?_ 0 _ rfl; (with_reducible repeat (first | refine blk_drewN ?_ _ | refine blk_drew ?_ | refine blk_alloc ?_ _)); exact BK275.out⟩
               have n4_ : Aside0 (Below w.heap.size w ((w33.setCell ⟨gb275, 0, none⟩ (.int .i64 ((rd_T58 l0_0 x43_2).f0))).setCell ⟨gb275, 1, none⟩ (.int .i64 ((rd_T58 l0_0 x43_2).f1)))) := ⟨tB HB.out⟩
               (try clear HO_3)
               (try clear HO_6)
               (try clear BK262)
               (try clear BK275)
               (try clear HB)
               generalize ((w33.setCell ⟨gb275, 0, none⟩ (.int .i64 ((rd_T58 l0_0 x43_2).f0))).setCell ⟨gb275, 1, none⟩ (.int .i64 ((rd_T58 l0_0 x43_2).f1))) = w36 at n0_ n1_ n2_ n3_ n4_ ⊢
               have HO_3 := n0_
               have HO_6 := n1_
               have BK262 := n2_
               have BK275 := n3_
               have HB := n4_
               clear n0_ n1_ n2_ n3_ n4_
               replace HO_3 := Aside0.mk (Kd.R_drew HO_3.out)
               replace HO_6 := Aside0.mk (Kd.R_drew HO_6.out)
               replace BK262 := Aside0.mk (blk_drew BK262.out)
               replace BK275 := Aside0.mk (blk_drew BK275.out)
               replace HB := Aside0.mk (below_drew1 HB.out)
               have p276 : 0 ≤ (x43_2 : Int) := of_decide_eq_true (by first | (with_reducible assumption) | assumption)
               have q276 : x43_2 < (x3_2.length : Int) := of_decide_eq_true (by first | (with_reducible assumption) | assumption)
               obtain ⟨ad276, e276, hx276_0⟩ := Kd.at_int (Kd.R_reads' HO_3.out).2.2 x43_2 p276 q276
               obtain rfl : (⟨go5, 0, none⟩ : Addr) = ad276 := (by injection e276)
               (first | simp only [add_plain] at hx276_0 | simp only [add_at] at hx276_0 | simp only [Addr.add, Nat.zero_add] at hx276_0 | skip)
               replace p276 := eq_true p276
               replace q276 := eq_true q276
               refine start_ (n := 11) (S := fun w' => w'.cell? ⟨gb275, 0, none⟩ = some (.int .i64 ((rd_T58 l0_0 x43_2).f0)) ∧ w'.cell? ⟨gb275, 1, none⟩ = some (.int .i64 ((rd_T58 l0_0 x43_2).f1)) ∧ w'.cell? ⟨go5, (x43_2).toNat, none⟩ = some (.int .i64 (rd x3_2 x43_2))) (ds := []) #[n_, n_, n_, n_, n_, n_, n_, n_, n_, n_, n_] (by kernel_rfl) rfl rfl ⟨(blk_cell BK275.out 0).trans rfl, (blk_cell BK275.out 1).trans rfl, hx276_0⟩ (fun hHeld => ?_); refine with_tabW impl_levelWeights.tab12 impl_levelWeights.bits12 (fun HT_ HW_ => ?_)
               generalize w36.drew = w37 at HO_3 HO_6 BK262 BK275 HB hx276_0 hHeld ⊢
               refine pu 0 (some 48) #[y_, n_, n_, n_, n_, n_, n_, n_, n_, n_, n_] (any_of HT_.out (by kernel_rfl)) ?_
               refine pu 1 (some 49) #[y_, y_, n_, n_, n_, n_, n_, n_, n_, n_, n_] (any_of HT_.out (by kernel_rfl)) ?_
               refine pu 2 (some 50) #[y_, y_, y_, n_, n_, n_, n_, n_, n_, n_, n_] (any_of HT_.out (by kernel_rfl)) ?_
               refine pu 4 (some 52) #[y_, y_, y_, n_, y_, n_, n_, n_, n_, n_, n_] (any_of HT_.out (by kernel_rfl)) ?_
               refine pu 6 (some 54) #[y_, y_, y_, n_, y_, n_, y_, n_, n_, n_, n_] (any_of HT_.out (by kernel_rfl)) ?_
               refine tk 3 (some 51) #[y_, y_, y_, y_, y_, n_, y_, n_, n_, n_, n_] rfl (take_ofW HT_.out HW_.out (by kernel_rfl)) hHeld (Or.inl ⟨by rfl, by rintro w' ⟨s0, s1, s2⟩; go_simp; with_reducible rfl⟩) ?_
               refine tk 5 (some 53) #[y_, y_, y_, y_, y_, y_, y_, n_, n_, n_, n_] rfl (take_ofW HT_.out HW_.out (by kernel_rfl)) hHeld (Or.inl ⟨by rfl, by rintro w' ⟨s0, s1, s2⟩; go_simp; with_reducible rfl⟩) ?_
               refine tk 7 (some 55) #[y_, y_, y_, y_, y_, y_, y_, y_, n_, n_, n_] rfl (take_ofW HT_.out HW_.out (by kernel_rfl)) hHeld (Or.inl ⟨by rfl, by rintro w' ⟨s0, s1, s2⟩; go_simp; with_reducible rfl⟩) ?_
               refine pu 8 (some 56) #[y_, y_, y_, y_, y_, y_, y_, y_, y_, n_, n_] (any_of HT_.out (by kernel_rfl)) ?_
               refine pu 9 (some 57) #[y_, y_, y_, y_, y_, y_, y_, y_, y_, y_, n_] (any_of HT_.out (by kernel_rfl)) ?_
               refine pu 10 (some 10) #[y_, y_, y_, y_, y_, y_, y_, y_, y_, y_, y_] (any_of HT_.out (by kernel_rfl)) ?_
               refine done_ (done_of HT_.out (by kernel_rfl)) ?_
               obtain ⟨hcz38_0, hfz38_0, hcz38_1, hfz38_1⟩ := cz2 BK262
               have p277 : 0 ≤ (x43_2 : Int) := of_decide_eq_true (by first | (with_reducible assumption) | assumption)
               have q277 : x43_2 < (l0_1.length : Int) := of_decide_eq_true (by first | (with_reducible assumption) | assumption)
               obtain ⟨ad277, e277, hx277_0, hx277_1⟩ := at_T58 HR0_1.out x43_2 p277 q277
               cases e277
               replace hx277_0 := (HB.out.cell (World.block_lt_of_cell? w _ hx277_0)).trans hx277_0
               replace hx277_1 := (HB.out.cell (World.block_lt_of_cell? w _ hx277_1)).trans hx277_1
               replace p277 := eq_true p277
               replace q277 := eq_true q277
               try go_wp2
               go_loopg [6, 7, 63] k2 (fun kq v6 v7 v63 w' => ∃ (x3_3 : List Int) (x6_3 : List Int) (x7_3 : Int) (x63_3 : Int), v7 = .int .i64 x7_3 ∧ v63 = .int .i64 x63_3 ∧ Aside0 (impl_levelWeights.l2 kq x3_3 x6_3 x7_3 (wrap64 (Int.tdiv (rd x3_2 x43_2) (wrap64 (((rd_T58 l0_0 x43_2).f0) + ((rd_T58 l0_0 x43_2).f1))))) l0_0 (l0_0.length : Int) x43_2 x63_3 l0_0 l0_1 ((rd_T58 l0_0 x43_2).f0) ((rd_T58 l0_0 x43_2).f1) ((rd_T58 l0_1 x43_2).f0) ((rd_T58 l0_1 x43_2).f1) = some r) ∧ Aside0 (kq ≤ k2) ∧ Aside0 (Kd.R (Kd.int .i64) 3 w' w.heap.size (fun k_ => some k_ ≠ (v6 : Value).ownBlock) (.slice (some ⟨go5, 0, none⟩) x3_2.length co5) x3_3) ∧ Aside0 (Kd.R (Kd.int .i64) 3 w' w.heap.size (fun k_ => some k_ ≠ ((.slice (some ⟨go5, 0, none⟩) x3_2.length co5) : Value).ownBlock) v6 x6_3) ∧ Aside0 (w'.heap[gb262]? = some (.cells #[(.slice (some ad274) l0_0.length c0_0), (.slice (some ad277) l0_1.length c0_1)] 27 (0, 0))) ∧ Aside0 (w'.heap[gb275]? = some (.cells #[.int .i64 ((rd_T58 l0_0 x43_2).f0), .int .i64 ((rd_T58 l0_0 x43_2).f1)] 58 (0, 0))) ∧ Aside0 (Below w.heap.size w w'))
               case atStart => exact ⟨(x3_2), (x6_2), (x7_2), (0), (by first | rfl | (simp; done) | (simp [wrap64]; done) | (simp [*]; done)), (by first | rfl | (simp; done) | (simp [wrap64]; done) | (simp [*]; done)), H', ⟨Nat.le_refl _⟩, ⟨by (try simp only [hl3_1]); (try simp only [hl3_2]); (with_reducible repeat (first | apply Kd.R_alloc | apply Kd.R_drewN | apply Kd.R_drew)); exact HO_3.out⟩, ⟨by (try simp only [hl3_1]); (try simp only [hl3_2]); (with_reducible repeat (first | apply Kd.R_alloc | apply Kd.R_drewN | apply Kd.R_drew)); exact HO_6.out⟩, ⟨by (try simp only [hl3_1]); (try simp only [hl3_2]); (with_reducible repeat (first | refine blk_drewN ?_ _ | refine blk_drew ?_ | refine blk_alloc ?_ _)); exact BK262.out⟩, ⟨by (try simp only [hl3_1]); (try simp only [hl3_2]); (with_reducible repeat (first | refine blk_drewN ?_ _ | refine blk_drew ?_ | refine blk_alloc ?_ _)); exact BK275.out⟩, ⟨tB HB.out⟩⟩
               case round =>
                clear H'
                try clear c1
                try clear p1
                try clear q1
                try clear hx1
                try clear qi1
                try clear hf1
                try clear c2
                try clear c2b0
                try clear c2b1
                try clear p2
                try clear q2
                try clear hx2
                try clear qi2
                try clear c3
                try clear c3b0
                try clear c3b1
                try clear c4
                try clear c4b0
                try clear c4b1
                try clear p5
                try clear q5
                try clear hx5
                try clear qi5
                try clear hf5
                try clear p6
                try clear c8
                try clear c13
                try clear c13b0
                try clear c14
                try clear c14b0
                try clear c15
                try clear c15b0
                try clear c16
                try clear c16b0
                try clear c16b1
                try clear p17
                try clear q17
                try clear hx17
                try clear qi17
                try clear hf17
                try clear c19
                try clear p26
                try clear q26
                try clear hx26
                try clear qi26
                try clear c27
                try clear c27b0
                try clear p27
                try clear q27
                try clear hx27
                try clear c28
                try clear c28b0
                try clear c29
                try clear c29b0
                try clear c30
                try clear c30b0
                try clear c31
                try clear c31b0
                try clear c31b1
                try clear c32
                try clear c32b0
                try clear c34
                try clear hcz12_0
                try clear hcz12_1
                try clear hcz20_0
                try clear hcz20_1
                try clear hcz26_0
                try clear hcz26_1
                try clear hcz35_0
                try clear hcz35_1
                try clear hcz38_0
                try clear hcz38_1
                try clear hcz7_0
                try clear hcz7_1
                try clear hfz12_0
                try clear hfz12_1
                try clear hfz20_0
                try clear hfz20_1
                try clear hfz26_0
                try clear hfz26_1
                try clear hfz35_0
                try clear hfz35_1
                try clear hfz38_0
                try clear hfz38_1
                try clear hfz7_0
                try clear hfz7_1
                try clear hx17_0
                try clear hx267_0
                try clear hx267_1
                try clear hx269_0
                try clear hx274_0
                try clear hx274_1
                try clear hx276_0
                try clear hx277_0
                try clear hx277_1
                try clear hx5_0
                try clear p1
                try clear p17
                try clear p2
                try clear p26
                try clear p267
                try clear p269
                try clear p274
                try clear p276
                try clear p277
                try clear p5
                try clear p6
                try clear q1
                try clear q17
                try clear q2
                try clear q26
                try clear q267
                try clear q269
                try clear q274
                try clear q276
                try clear q277
                try clear q5
                obtain ⟨x3_3, x6_3, x7_3, x63_3, rfl, rfl, HA, HK3, HO_3, HO_6, BK262, BK275, HB⟩ := hrel
                have hl3_3 := (Kd.R_reads' HO_3.out).1
                rw [hl3_3] at HO_3
                (try simp only [hl3_3])
                (try simp only [hl3_3] at BK262)
                (try simp only [hl3_3] at BK275)
                (try simp only [hl3_3] at HO_6)
                cases gk with
                | zero => exact absurd HA.out (by simp [impl_levelWeights.l2])
                | succ k3 =>
                 have H := HA.out
                 clear HA
                 simp only [impl_levelWeights.l2] at H
                 by_cases c39 : x63_3 < 2
                 ·
                  rw [if_pos c39] at H
                  have c39b0 : decide (x63_3 < 2) = true := decide_eq_true c39
                  clear c39
                  by_cases c40 : x63_3 = 0
                  ·
                   subst c40
                   have H1 : (if ((rd_T58 l0_1 x43_2).f0) < 0 then (if 0 ≤ (wrap64 (-((rd_T58 l0_1 x43_2).f0))) then (if (wrap64 (-((rd_T58 l0_1 x43_2).f0))) < (x3_3.length : Int) then (impl_levelWeights.l2 k3 (x3_3.set ((wrap64 (-((rd_T58 l0_1 x43_2).f0))) : Int).toNat (wrap64 ((wrap64 (Int.tdiv (rd x3_2 x43_2) (wrap64 (((rd_T58 l0_0 x43_2).f0) + ((rd_T58 l0_0 x43_2).f1))))) * ((rd_T58 l0_0 x43_2).f1)))) x6_3 x7_3 (wrap64 (Int.tdiv (rd x3_2 x43_2) (wrap64 (((rd_T58 l0_0 x43_2).f0) + ((rd_T58 l0_0 x43_2).f1))))) l0_0 (l0_0.length : Int) x43_2 (wrap64 (0 + 1)) l0_0 l0_1 ((rd_T58 l0_0 x43_2).f0) ((rd_T58 l0_0 x43_2).f1) ((rd_T58 l0_1 x43_2).f0) ((rd_T58 l0_1 x43_2).f1)) else (none)) else (none)) else (if x6_3.length < 17592186044416 then ((impl_divisor.f k3 x7_3 (wrap64 ((wrap64 (Int.tdiv (rd x3_2 x43_2) (wrap64 (((rd_T58 l0_0 x43_2).f0) + ((rd_T58 l0_0 x43_2).f1))))) * ((rd_T58 l0_0 x43_2).f1)))).bind fun t282 => (impl_levelWeights.l2 k3 x3_3 (x6_3 ++ [wrap64 ((wrap64 (Int.tdiv (rd x3_2 x43_2) (wrap64 (((rd_T58 l0_0 x43_2).f0) + ((rd_T58 l0_0 x43_2).f1))))) * ((rd_T58 l0_0 x43_2).f1))]) t282 (wrap64 (Int.tdiv (rd x3_2 x43_2) (wrap64 (((rd_T58 l0_0 x43_2).f0) + ((rd_T58 l0_0 x43_2).f1))))) l0_0 (l0_0.length : Int) x43_2 (wrap64 (0 + 1)) l0_0 l0_1 ((rd_T58 l0_0 x43_2).f0) ((rd_T58 l0_0 x43_2).f1) ((rd_T58 l0_1 x43_2).f0) ((rd_T58 l0_1 x43_2).f1))) else (none))) = some r := by rw [if_pos rfl] at H; exact H
                   clear H
                   have H := H1
                   clear H1
                   by_cases c41 : ((rd_T58 l0_1 x43_2).f0) < 0
                   ·
                    rw [if_pos c41] at H
                    have c41b0 : decide (((rd_T58 l0_1 x43_2).f0) < 0) = true := decide_eq_true c41
                    clear c41
                    obtain ⟨ji42, hji42⟩ : ∃ j_ : Int, (wrap64 (-((rd_T58 l0_1 x43_2).f0))) = j_ := ⟨_, rfl⟩
                    replace H : (if 0 ≤ (ji42) then (if (ji42) < (x3_3.length : Int) then (impl_levelWeights.l2 k3 (x3_3.set ((ji42) : Int).toNat (wrap64 ((wrap64 (Int.tdiv (rd x3_2 x43_2) (wrap64 (((rd_T58 l0_0 x43_2).f0) + ((rd_T58 l0_0 x43_2).f1))))) * ((rd_T58 l0_0 x43_2).f1)))) x6_3 x7_3 (wrap64 (Int.tdiv (rd x3_2 x43_2) (wrap64 (((rd_T58 l0_0 x43_2).f0) + ((rd_T58 l0_0 x43_2).f1))))) l0_0 (l0_0.length : Int) x43_2 (wrap64 (0 + 1)) l0_0 l0_1 ((rd_T58 l0_0 x43_2).f0) ((rd_T58 l0_0 x43_2).f1) ((rd_T58 l0_1 x43_2).f0) ((rd_T58 l0_1 x43_2).f1)) else (none)) else (none)) = some r := by first | (rw [hji42] at H; exact H) | (simp only [hji42] at H ⊢; exact H)
                    have hji42w : (IntKind.i64.wrap (-((rd_T58 l0_1 x43_2).f0))) = ji42 := (i64_w _).trans hji42
                    by_cases c43 : 0 ≤ (ji42)
                    ·
                     rw [if_pos c43] at H
                     have c43b0 : decide (0 ≤ (ji42)) = true := decide_eq_true c43
                     clear c43
                     by_cases c44 : (ji42) < (x3_3.length : Int)
                     ·
                      rw [if_pos c44] at H
                      have c44b0 : decide ((ji42) < (x3_3.length : Int)) = true := decide_eq_true c44
                      clear c44
                      obtain ⟨y278, hy278⟩ : ∃ y_ : List Int, y_ = (x3_3.set ((ji42) : Int).toNat (wrap64 ((wrap64 (Int.tdiv (rd x3_2 x43_2) (wrap64 (((rd_T58 l0_0 x43_2).f0) + ((rd_T58 l0_0 x43_2).f1))))) * ((rd_T58 l0_0 x43_2).f1)))) := ⟨_, rfl⟩
                      replace H : (impl_levelWeights.l2 k3 y278 x6_3 x7_3 (wrap64 (Int.tdiv (rd x3_2 x43_2) (wrap64 (((rd_T58 l0_0 x43_2).f0) + ((rd_T58 l0_0 x43_2).f1))))) l0_0 (l0_0.length : Int) x43_2 (wrap64 (0 + 1)) l0_0 l0_1 ((rd_T58 l0_0 x43_2).f0) ((rd_T58 l0_0 x43_2).f1) ((rd_T58 l0_1 x43_2).f0) ((rd_T58 l0_1 x43_2).f1)) = some r := by first | (rw [hy278]; with_reducible exact H) | (have H2_ := (Option.bind_some _ _).symm.trans H; rw [hy278]; with_reducible exact H2_) | (have H2_ := (Option.bind_some _ _).symm.trans H; with_reducible exact H2_) | with_reducible exact H | (rw [hy278]; exact H) | exact H
                      have Ny278 := Aside0.mk hy278
                      clear hy278
                      have H' := Aside0.mk H
                      clear H
                      have hnb46 := NB275_262.out
                      have hnc46 := NB262_275.out
                      obtain ⟨hcz47_0, hfz47_0, hcz47_1, hfz47_1⟩ := cz2 BK275
                      have p45 : 0 ≤ ((ji42) : Int) := of_decide_eq_true (by first | (with_reducible assumption) | assumption)
                      have q45 : ((ji42) : Int) < ((x3_3.length : Int) : Int) := of_decide_eq_true (by first | (with_reducible assumption) | assumption)
                      obtain ⟨hx45_0, hf45_0⟩ := Kd.R_celln 0 HO_3.out ((ji42) : Int) p45 q45
                      replace p45 := eq_true p45
                      replace q45 := eq_true q45
                      have HP48 := Kd.R_putg HO_3.out ((ji42) : Int) (wrap64 ((wrap64 (Int.tdiv (rd x3_2 x43_2) (wrap64 (((rd_T58 l0_0 x43_2).f0) + ((rd_T58 l0_0 x43_2).f1))))) * ((rd_T58 l0_0 x43_2).f1)))
                      go_wp2_with (first | ((with_reducible refine gate_store (t := 3) (p := 79) rfl ?_); refine store_event (t := 3) (p := 79) (v := ?vo_w49) (w1 := (wr.setCell ⟨go5, ((ji42) : Int).toNat, none⟩ (.int .i64 (wrap64 ((wrap64 (Int.tdiv (rd x3_2 x43_2) (wrap64 (((rd_T58 l0_0 x43_2).f0) + ((rd_T58 l0_0 x43_2).f1))))) * ((rd_T58 l0_0 x43_2).f1)))))) ?hg ?ho ?hn ?hr ?_; (case ho => rfl); (case hg => rfl); (case hn => rfl); (case hr => first | (go_simp; done) | (go_simp; rfl)); intro w49 hw; have hg : wr.grownBy w49 (some go5) := (by rw [hw]; exact HP48.2); have hp_ : Kd.R (Kd.int .i64) 3 w49 w.heap.size (fun k_ => some k_ ≠ (u6 : Value).ownBlock) (.slice (some ⟨go5, 0, none⟩) x3_3.length co5) y278 := (by rw [hw, Ny278.out]; exact HP48.1); clear HP48; replace HO_6 := Aside0.mk (Kd.R_after (v := (.slice (some ⟨go5, 0, none⟩) x3_3.length co5)) (v1 := (.slice (some ⟨go5, 0, none⟩) x3_3.length co5)) (ok := (fun _ => True)) (by (with_reducible repeat (first | apply Kd.R_alloc | apply Kd.R_drewN | apply Kd.R_drew)); exact Kd.R_mono HO_6.out (fun _ hk => ⟨trivial, hk⟩)) hg (.inl rfl)); replace BK262 := Aside0.mk (blk_grown (g := gb262) (o := .cells #[.slice (some ad274) l0_0.length c0_0, .slice (some ad277) l0_1.length c0_1] 27 (0, 0)) (tK BK262.out) hg (Kd.R_ne HO_3.out BK262.out (by decide))); replace BK275 := Aside0.mk (blk_grown (g := gb275) (o := .cells #[.int .i64 ((rd_T58 l0_0 x43_2).f0), .int .i64 ((rd_T58 l0_0 x43_2).f1)] 58 (0, 0)) (tK BK275.out) hg (Kd.R_ne HO_3.out BK275.out (by decide))); replace HO_3 := Aside0.mk (hp_); replace HB := Aside0.mk ((by rw [hw]; exact below_set (HB.out) GB5.out : Below w.heap.size w w49)); clear hg hw hp_))
                      (try simp only [← hl3_3])
                      go_roundg k3
                      case measure => have := HK1.out; have := HK2.out; have := HK3.out; omega
                      case rel => exact ⟨(y278), (x6_3), (x7_3), (wrap64 (0 + 1)), (by first | rfl | (simp; done) | (simp [wrap64]; done) | (simp [*]; done)), (by first | rfl | (simp; done) | (simp [wrap64]; done) | (simp [*]; done)), H', ⟨by have := HK1.out; have := HK2.out; have := HK3.out; omega⟩, ⟨by (try simp only [hl3_1]); (try simp only [hl3_2]); (try simp only [hl3_3]); (with_reducible repeat (first | apply Kd.R_alloc | apply Kd.R_drewN | apply Kd.R_drew)); exact HO_3.out⟩, ⟨by (try simp only [hl3_1]); (try simp only [hl3_2]); (try simp only [hl3_3]); (with_reducible repeat (first | apply Kd.R_alloc | apply Kd.R_drewN | apply Kd.R_drew)); exact Kd.R_mono HO_6.out (fun _ hk => hk.2)⟩, ⟨by (try simp only [hl3_1]); (try simp only [hl3_2]); (try simp only [hl3_3]); (with_reducible repeat (first | refine blk_drewN ?_ _ | refine blk_drew ?_ | refine blk_alloc ?_ _)); exact BK262.out⟩, ⟨by (try simp only [hl3_1]); (try simp only [hl3_2]); (try simp only [hl3_3]); (with_reducible repeat (first | refine blk_drewN ?_ _ | refine blk_drew ?_ | refine blk_alloc ?_ _)); exact BK275.out⟩, ⟨tB HB.out⟩⟩
                     ·
                      rw [if_neg c44] at H
                      exact absurd H (by simp)
                    ·
                     rw [if_neg c43] at H
                     exact absurd H (by simp)
                   ·
                    rw [if_neg c41] at H
                    have c41b0 : decide (((rd_T58 l0_1 x43_2).f0) < 0) = false := decide_eq_false c41
                    clear c41
                    by_cases c50 : x6_3.length < 17592186044416
                    ·
                     rw [if_pos c50] at H
                     have LMc50 := Aside0.mk c50
                     clear c50
                     obtain ⟨y279, hy279⟩ : ∃ y_ : List Int, y_ = (x6_3 ++ [wrap64 ((wrap64 (Int.tdiv (rd x3_2 x43_2) (wrap64 (((rd_T58 l0_0 x43_2).f0) + ((rd_T58 l0_0 x43_2).f1))))) * ((rd_T58 l0_0 x43_2).f1))]) := ⟨_, rfl⟩
                     replace H : ((impl_divisor.f k3 x7_3 (wrap64 ((wrap64 (Int.tdiv (rd x3_2 x43_2) (wrap64 (((rd_T58 l0_0 x43_2).f0) + ((rd_T58 l0_0 x43_2).f1))))) * ((rd_T58 l0_0 x43_2).f1)))).bind fun t282 => (impl_levelWeights.l2 k3 x3_3 y279 t282 (wrap64 (Int.tdiv (rd x3_2 x43_2) (wrap64 (((rd_T58 l0_0 x43_2).f0) + ((rd_T58 l0_0 x43_2).f1))))) l0_0 (l0_0.length : Int) x43_2 (wrap64 (0 + 1)) l0_0 l0_1 ((rd_T58 l0_0 x43_2).f0) ((rd_T58 l0_0 x43_2).f1) ((rd_T58 l0_1 x43_2).f0) ((rd_T58 l0_1 x43_2).f1))) = some r := by first | (rw [hy279]; with_reducible exact H) | (have H2_ := (Option.bind_some _ _).symm.trans H; rw [hy279]; with_reducible exact H2_) | (have H2_ := (Option.bind_some _ _).symm.trans H; with_reducible exact H2_) | with_reducible exact H | (rw [hy279]; exact H) | exact H
                     have Ny279 := Aside0.mk hy279
                     clear hy279
                     replace H := Option.bind_eq_some_iff.mp H
                     obtain ⟨t282, A510, H⟩ := H
                     replace H : (impl_levelWeights.l2 k3 x3_3 y279 t282 (wrap64 (Int.tdiv (rd x3_2 x43_2) (wrap64 (((rd_T58 l0_0 x43_2).f0) + ((rd_T58 l0_0 x43_2).f1))))) l0_0 (l0_0.length : Int) x43_2 (wrap64 (0 + 1)) l0_0 l0_1 ((rd_T58 l0_0 x43_2).f0) ((rd_T58 l0_0 x43_2).f1) ((rd_T58 l0_1 x43_2).f0) ((rd_T58 l0_1 x43_2).f1)) = some r := H
                     have A51 := Aside0.mk A510
                     clear A510
                     have H' := Aside0.mk H
                     clear H
                     have hnb52 := NB275_262.out
                     have hnc52 := NB262_275.out
                     obtain ⟨hcz53_0, hfz53_0, hcz53_1, hfz53_1⟩ := cz2 BK275
                     go_wp2_with (first | ((with_reducible refine gate_builtin (b := .append) (xs := #[.tmp 80, .tmp 82]) rfl ?_); at_builtin; refine Kd.R_append (Kd.int .i64) (w0 := w) w.heap.size rfl (.tmp 80) (.tmp 82) 37 3 (.int .i64 0) 8 rfl Try.underlying37 info3 rfl (by decide) (by omega) u6 x6_3 (wrap64 ((wrap64 (Int.tdiv (rd x3_2 x43_2) (wrap64 (((rd_T58 l0_0 x43_2).f0) + ((rd_T58 l0_0 x43_2).f1))))) * ((rd_T58 l0_0 x43_2).f1))) [.int .i64 (wrap64 ((wrap64 (Int.tdiv (rd x3_2 x43_2) (wrap64 (((rd_T58 l0_0 x43_2).f0) + ((rd_T58 l0_0 x43_2).f1))))) * ((rd_T58 l0_0 x43_2).f1)))] (fun k_ => some k_ ≠ (.slice (some ⟨go5, 0, none⟩) x3_3.length co5 : Value).ownBlock) (fun _ => False) rfl rfl ?aP (fun _ hk => hk.elim) ?aF ?aO ?aB ?aS ?aL ?_; (case aP => exact rfl); (case aB => exact (tB HB.out)); (case aF => exact (fun k_ hk => Kd.fresh' (Kd.R_lt (tR HO_3.out)) k_ hk)); (case aO => exact (tR HO_6.out)); (case aS => exact (below_size (tB HB.out))); (case aL => have := LMc50.out; omega); intro v280 w54 ho hb hg hat; rw [← Ny279.out] at ho; replace HO_3 := Aside0.mk (Kd.R_after (ok := (fun _ => True)) (by (with_reducible repeat (first | apply Kd.R_alloc | apply Kd.R_drewN | apply Kd.R_drew)); exact Kd.R_mono HO_3.out (fun _ hk => ⟨trivial, hk⟩)) hg hat); replace BK262 := Aside0.mk (blk_grown (g := gb262) (o := .cells #[.slice (some ad274) l0_0.length c0_0, .slice (some ad277) l0_1.length c0_1] 27 (0, 0)) (tK BK262.out) hg (Kd.R_ne HO_6.out BK262.out (by decide))); replace BK275 := Aside0.mk (blk_grown (g := gb275) (o := .cells #[.int .i64 ((rd_T58 l0_0 x43_2).f0), .int .i64 ((rd_T58 l0_0 x43_2).f1)] 58 (0, 0)) (tK BK275.out) hg (Kd.R_ne HO_6.out BK275.out (by decide))); replace HB := Aside0.mk (hb); have HO281 := Aside0.mk (ho); clear HO_6; clear ho hb hg hat) | ((with_reducible refine gate_callee (f := 101) rfl ?_); refine goesL_ (some 86) rfl rfl Try.func101 (by kernel_rfl) rfl #[.int .i64 x7_3, .int .i64 (wrap64 ((wrap64 (Int.tdiv (rd x3_2 x43_2) (wrap64 (((rd_T58 l0_0 x43_2).f0) + ((rd_T58 l0_0 x43_2).f1))))) * ((rd_T58 l0_0 x43_2).f1)))] rfl tM ?_; (with_reducible refine (impl_divisor.calls k3 x7_3 (wrap64 ((wrap64 (Int.tdiv (rd x3_2 x43_2) (wrap64 (((rd_T58 l0_0 x43_2).f0) + ((rd_T58 l0_0 x43_2).f1))))) * ((rd_T58 l0_0 x43_2).f1))) t282 _ A51.out).mono ?_); rintro e w' ⟨rfl, ⟨nd, rfl⟩⟩; refine ⟨_, rfl, ?_⟩))
                     (try simp only [← hl3_3])
                     go_roundg k3
                     case measure => have := HK1.out; have := HK2.out; have := HK3.out; omega
                     case rel => exact ⟨(x3_3), (y279), (t282), (wrap64 (0 + 1)), (by first | rfl | (simp; done) | (simp [wrap64]; done) | (simp [*]; done)), (by first | rfl | (simp; done) | (simp [wrap64]; done) | (simp [*]; done)), H', ⟨by have := HK1.out; have := HK2.out; have := HK3.out; omega⟩, ⟨by (try simp only [hl3_1]); (try simp only [hl3_2]); (try simp only [hl3_3]); (with_reducible repeat (first | apply Kd.R_alloc | apply Kd.R_drewN | apply Kd.R_drew)); exact Kd.R_mono HO_3.out (fun _ hk => hk.2)⟩, ⟨by (try simp only [hl3_1]); (try simp only [hl3_2]); (try simp only [hl3_3]); (with_reducible repeat (first | apply Kd.R_alloc | apply Kd.R_drewN | apply Kd.R_drew)); exact HO281.out⟩, ⟨by (try simp only [hl3_1]); (try simp only [hl3_2]); (try simp only [hl3_3]); (with_reducible repeat (first | refine blk_drewN ?_ _ | refine blk_drew ?_ | refine blk_alloc ?_ _)); exact BK262.out⟩, ⟨by (try simp only [hl3_1]); (try simp only [hl3_2]); (try simp only [hl3_3]); (with_reducible repeat (first | refine blk_drewN ?_ _ | refine blk_drew ?_ | refine blk_alloc ?_ _)); exact BK275.out⟩, ⟨tB HB.out⟩⟩
                    ·
                     rw [if_neg c50] at H
                     exact absurd H (by simp)
                  ·
                   rw [if_neg c40] at H
                   have c40b0 : (x63_3 == 0) = false := beq_eq_false_iff_ne.mpr c40
                   have c40b1 : (x63_3 != 0) = true := bne_iff_ne.mpr c40
                   by_cases c55 : x63_3 = 1
                   ·
                    subst c55
                    have H1 : (if ((rd_T58 l0_1 x43_2).f1) < 0 then (if 0 ≤ (wrap64 (-((rd_T58 l0_1 x43_2).f1))) then (if (wrap64 (-((rd_T58 l0_1 x43_2).f1))) < (x3_3.length : Int) then (impl_levelWeights.l2 k3 (x3_3.set ((wrap64 (-((rd_T58 l0_1 x43_2).f1))) : Int).toNat (wrap64 ((wrap64 (Int.tdiv (rd x3_2 x43_2) (wrap64 (((rd_T58 l0_0 x43_2).f0) + ((rd_T58 l0_0 x43_2).f1))))) * ((rd_T58 l0_0 x43_2).f0)))) x6_3 x7_3 (wrap64 (Int.tdiv (rd x3_2 x43_2) (wrap64 (((rd_T58 l0_0 x43_2).f0) + ((rd_T58 l0_0 x43_2).f1))))) l0_0 (l0_0.length : Int) x43_2 (wrap64 (1 + 1)) l0_0 l0_1 ((rd_T58 l0_0 x43_2).f0) ((rd_T58 l0_0 x43_2).f1) ((rd_T58 l0_1 x43_2).f0) ((rd_T58 l0_1 x43_2).f1)) else (none)) else (none)) else (if x6_3.length < 17592186044416 then ((impl_divisor.f k3 x7_3 (wrap64 ((wrap64 (Int.tdiv (rd x3_2 x43_2) (wrap64 (((rd_T58 l0_0 x43_2).f0) + ((rd_T58 l0_0 x43_2).f1))))) * ((rd_T58 l0_0 x43_2).f0)))).bind fun t287 => (impl_levelWeights.l2 k3 x3_3 (x6_3 ++ [wrap64 ((wrap64 (Int.tdiv (rd x3_2 x43_2) (wrap64 (((rd_T58 l0_0 x43_2).f0) + ((rd_T58 l0_0 x43_2).f1))))) * ((rd_T58 l0_0 x43_2).f0))]) t287 (wrap64 (Int.tdiv (rd x3_2 x43_2) (wrap64 (((rd_T58 l0_0 x43_2).f0) + ((rd_T58 l0_0 x43_2).f1))))) l0_0 (l0_0.length : Int) x43_2 (wrap64 (1 + 1)) l0_0 l0_1 ((rd_T58 l0_0 x43_2).f0) ((rd_T58 l0_0 x43_2).f1) ((rd_T58 l0_1 x43_2).f0) ((rd_T58 l0_1 x43_2).f1))) else (none))) = some r := by rw [if_pos rfl] at H; exact H
                    clear H
                    have H := H1
                    clear H1
                    by_cases c56 : ((rd_T58 l0_1 x43_2).f1) < 0
                    ·
                     rw [if_pos c56] at H
                     have c56b0 : decide (((rd_T58 l0_1 x43_2).f1) < 0) = true := decide_eq_true c56
                     clear c56
                     obtain ⟨ji57, hji57⟩ : ∃ j_ : Int, (wrap64 (-((rd_T58 l0_1 x43_2).f1))) = j_ := ⟨_, rfl⟩
                     replace H : (if 0 ≤ (ji57) then (if (ji57) < (x3_3.length : Int) then (impl_levelWeights.l2 k3 (x3_3.set ((ji57) : Int).toNat (wrap64 ((wrap64 (Int.tdiv (rd x3_2 x43_2) (wrap64 (((rd_T58 l0_0 x43_2).f0) + ((rd_T58 l0_0 x43_2).f1))))) * ((rd_T58 l0_0 x43_2).f0)))) x6_3 x7_3 (wrap64 (Int.tdiv (rd x3_2 x43_2) (wrap64 (((rd_T58 l0_0 x43_2).f0) + ((rd_T58 l0_0 x43_2).f1))))) l0_0 (l0_0.length : Int) x43_2 (wrap64 (1 + 1)) l0_0 l0_1 ((rd_T58 l0_0 x43_2).f0) ((rd_T58 l0_0 x43_2).f1) ((rd_T58 l0_1 x43_2).f0) ((rd_T58 l0_1 x43_2).f1)) else (none)) else (none)) = some r := by first | (rw [hji57] at H; exact H) | (simp only [hji57] at H ⊢; exact H)
                     have hji57w : (IntKind.i64.wrap (-((rd_T58 l0_1 x43_2).f1))) = ji57 := (i64_w _).trans hji57
                     by_cases c58 : 0 ≤ (ji57)
                     ·
                      rw [if_pos c58] at H
                      have c58b0 : decide (0 ≤ (ji57)) = true := decide_eq_true c58
                      clear c58
                      by_cases c59 : (ji57) < (x3_3.length : Int)
                      ·
                       rw [if_pos c59] at H
                       have c59b0 : decide ((ji57) < (x3_3.length : Int)) = true := decide_eq_true c59
                       clear c59
                       obtain ⟨y283, hy283⟩ : ∃ y_ : List Int, y_ = (x3_3.set ((ji57) : Int).toNat (wrap64 ((wrap64 (Int.tdiv (rd x3_2 x43_2) (wrap64 (((rd_T58 l0_0 x43_2).f0) + ((rd_T58 l0_0 x43_2).f1))))) * ((rd_T58 l0_0 x43_2).f0)))) := ⟨_, rfl⟩
                       replace H : (impl_levelWeights.l2 k3 y283 x6_3 x7_3 (wrap64 (Int.tdiv (rd x3_2 x43_2) (wrap64 (((rd_T58 l0_0 x43_2).f0) + ((rd_T58 l0_0 x43_2).f1))))) l0_0 (l0_0.length : Int) x43_2 (wrap64 (1 + 1)) l0_0 l0_1 ((rd_T58 l0_0 x43_2).f0) ((rd_T58 l0_0 x43_2).f1) ((rd_T58 l0_1 x43_2).f0) ((rd_T58 l0_1 x43_2).f1)) = some r := by first | (rw [hy283]; with_reducible exact H) | (have H2_ := (Option.bind_some _ _).symm.trans H; rw [hy283]; with_reducible exact H2_) | (have H2_ := (Option.bind_some _ _).symm.trans H; with_reducible exact H2_) | with_reducible exact H | (rw [hy283]; exact H) | exact H
                       have Ny283 := Aside0.mk hy283
                       clear hy283
                       have H' := Aside0.mk H
                       clear H
                       have hnb61 := NB275_262.out
                       have hnc61 := NB262_275.out
                       obtain ⟨hcz62_0, hfz62_0, hcz62_1, hfz62_1⟩ := cz2 BK275
                       have p60 : 0 ≤ ((ji57) : Int) := of_decide_eq_true (by first | (with_reducible assumption) | assumption)
                       have q60 : ((ji57) : Int) < ((x3_3.length : Int) : Int) := of_decide_eq_true (by first | (with_reducible assumption) | assumption)
                       obtain ⟨hx60_0, hf60_0⟩ := Kd.R_celln 0 HO_3.out ((ji57) : Int) p60 q60
                       replace p60 := eq_true p60
                       replace q60 := eq_true q60
                       have HP63 := Kd.R_putg HO_3.out ((ji57) : Int) (wrap64 ((wrap64 (Int.tdiv (rd x3_2 x43_2) (wrap64 (((rd_T58 l0_0 x43_2).f0) + ((rd_T58 l0_0 x43_2).f1))))) * ((rd_T58 l0_0 x43_2).f0)))
                       go_wp2_with (first | ((with_reducible refine gate_store (t := 3) (p := 79) rfl ?_); refine store_event (t := 3) (p := 79) (v := ?vo_w64) (w1 := (wr.setCell ⟨go5, ((ji57) : Int).toNat, none⟩ (.int .i64 (wrap64 ((wrap64 (Int.tdiv (rd x3_2 x43_2) (wrap64 (((rd_T58 l0_0 x43_2).f0) + ((rd_T58 l0_0 x43_2).f1))))) * ((rd_T58 l0_0 x43_2).f0)))))) ?hg ?ho ?hn ?hr ?_; (case ho => rfl); (case hg => rfl); (case hn => rfl); (case hr => first | (go_simp; done) | (go_simp; rfl)); intro w64 hw; have hg : wr.grownBy w64 (some go5) := (by rw [hw]; exact HP63.2); have hp_ : Kd.R (Kd.int .i64) 3 w64 w.heap.size (fun k_ => some k_ ≠ (u6 : Value).ownBlock) (.slice (some ⟨go5, 0, none⟩) x3_3.length co5) y283 := (by rw [hw, Ny283.out]; exact HP63.1); clear HP63; replace HO_6 := Aside0.mk (Kd.R_after (v := (.slice (some ⟨go5, 0, none⟩) x3_3.length co5)) (v1 := (.slice (some ⟨go5, 0, none⟩) x3_3.length co5)) (ok := (fun _ => True)) (by (with_reducible repeat (first | apply Kd.R_alloc | apply Kd.R_drewN | apply Kd.R_drew)); exact Kd.R_mono HO_6.out (fun _ hk => ⟨trivial, hk⟩)) hg (.inl rfl)); replace BK262 := Aside0.mk (blk_grown (g := gb262) (o := .cells #[.slice (some ad274) l0_0.length c0_0, .slice (some ad277) l0_1.length c0_1] 27 (0, 0)) (tK BK262.out) hg (Kd.R_ne HO_3.out BK262.out (by decide))); replace BK275 := Aside0.mk (blk_grown (g := gb275) (o := .cells #[.int .i64 ((rd_T58 l0_0 x43_2).f0), .int .i64 ((rd_T58 l0_0 x43_2).f1)] 58 (0, 0)) (tK BK275.out) hg (Kd.R_ne HO_3.out BK275.out (by decide))); replace HO_3 := Aside0.mk (hp_); replace HB := Aside0.mk ((by rw [hw]; exact below_set (HB.out) GB5.out : Below w.heap.size w w64)); clear hg hw hp_))
                       (try simp only [← hl3_3])
                       go_roundg k3
                       case measure => have := HK1.out; have := HK2.out; have := HK3.out; omega
                       case rel => exact ⟨(y283), (x6_3), (x7_3), (wrap64 (1 + 1)), (by first | rfl | (simp; done) | (simp [wrap64]; done) | (simp [*]; done)), (by first | rfl | (simp; done) | (simp [wrap64]; done) | (simp [*]; done)), H', ⟨by have := HK1.out; have := HK2.out; have := HK3.out; omega⟩, ⟨by (try simp only [hl3_1]); (try simp only [hl3_2]); (try simp only [hl3_3]); (with_reducible repeat (first | apply Kd.R_alloc | apply Kd.R_drewN | apply Kd.R_drew)); exact HO_3.out⟩, ⟨by (try simp only [hl3_1]); (try simp only [hl3_2]); (try simp only [hl3_3]); (with_reducible repeat (first | apply Kd.R_alloc | apply Kd.R_drewN | apply Kd.R_drew)); exact Kd.R_mono HO_6.out (fun _ hk => hk.2)⟩, ⟨by (try simp only [hl3_1]); (try simp only [hl3_2]); (try simp only [hl3_3]); (with_reducible repeat (first | refine blk_drewN ?_ _ | refine blk_drew ?_ | refine blk_alloc ?_ _)); exact BK262.out⟩, ⟨by (try simp only [hl3_1]); (try simp only [hl3_2]); (try simp only [hl3_3]); (with_reducible repeat (first | refine blk_drewN ?_ _ | refine blk_drew ?_ | refine blk_alloc ?_ _)); exact BK275.out⟩, ⟨tB HB.out⟩⟩
                      ·
                       rw [if_neg c59] at H
                       exact absurd H (by simp)
                     ·
                      rw [if_neg c58] at H
                      exact absurd H (by simp)
                    ·
                     rw [if_neg c56] at H
                     have c56b0 : decide (((rd_T58 l0_1 x43_2).f1) < 0) = false := decide_eq_false c56
                     clear c56
                     by_cases c65 : x6_3.length < 17592186044416
                     ·
                      rw [if_pos c65] at H
                      have LMc65 := Aside0.mk c65
                      clear c65
                      obtain ⟨y284, hy284⟩ : ∃ y_ : List Int, y_ = (x6_3 ++ [wrap64 ((wrap64 (Int.tdiv (rd x3_2 x43_2) (wrap64 (((rd_T58 l0_0 x43_2).f0) + ((rd_T58 l0_0 x43_2).f1))))) * ((rd_T58 l0_0 x43_2).f0))]) := ⟨_, rfl⟩
                      replace H : ((impl_divisor.f k3 x7_3 (wrap64 ((wrap64 (Int.tdiv (rd x3_2 x43_2) (wrap64 (((rd_T58 l0_0 x43_2).f0) + ((rd_T58 l0_0 x43_2).f1))))) * ((rd_T58 l0_0 x43_2).f0)))).bind fun t287 => (impl_levelWeights.l2 k3 x3_3 y284 t287 (wrap64 (Int.tdiv (rd x3_2 x43_2) (wrap64 (((rd_T58 l0_0 x43_2).f0) + ((rd_T58 l0_0 x43_2).f1))))) l0_0 (l0_0.length : Int) x43_2 (wrap64 (1 + 1)) l0_0 l0_1 ((rd_T58 l0_0 x43_2).f0) ((rd_T58 l0_0 x43_2).f1) ((rd_T58 l0_1 x43_2).f0) ((rd_T58 l0_1 x43_2).f1))) = some r := by first | (rw [hy284]; with_reducible exact H) | (have H2_ := (Option.bind_some _ _).symm.trans H; rw [hy284]; with_reducible exact H2_) | (have H2_ := (Option.bind_some _ _).symm.trans H; with_reducible exact H2_) | with_reducible exact H | (rw [hy284]; exact H) | exact H
                      have Ny284 := Aside0.mk hy284
                      clear hy284
                      replace H := Option.bind_eq_some_iff.mp H
                      obtain ⟨t287, A660, H⟩ := H
                      replace H : (impl_levelWeights.l2 k3 x3_3 y284 t287 (wrap64 (Int.tdiv (rd x3_2 x43_2) (wrap64 (((rd_T58 l0_0 x43_2).f0) + ((rd_T58 l0_0 x43_2).f1))))) l0_0 (l0_0.length : Int) x43_2 (wrap64 (1 + 1)) l0_0 l0_1 ((rd_T58 l0_0 x43_2).f0) ((rd_T58 l0_0 x43_2).f1) ((rd_T58 l0_1 x43_2).f0) ((rd_T58 l0_1 x43_2).f1)) = some r := H
                      have A66 := Aside0.mk A660
                      clear A660
                      have H' := Aside0.mk H
                      clear H
                      have hnb67 := NB275_262.out
                      have hnc67 := NB262_275.out
                      obtain ⟨hcz68_0, hfz68_0, hcz68_1, hfz68_1⟩ := cz2 BK275
                      go_wp2_with (first | ((with_reducible refine gate_builtin (b := .append) (xs := #[.tmp 80, .tmp 82]) rfl ?_); at_builtin; refine Kd.R_append (Kd.int .i64) (w0 := w) w.heap.size rfl (.tmp 80) (.tmp 82) 37 3 (.int .i64 0) 8 rfl Try.underlying37 info3 rfl (by decide) (by omega) u6 x6_3 (wrap64 ((wrap64 (Int.tdiv (rd x3_2 x43_2) (wrap64 (((rd_T58 l0_0 x43_2).f0) + ((rd_T58 l0_0 x43_2).f1))))) * ((rd_T58 l0_0 x43_2).f0))) [.int .i64 (wrap64 ((wrap64 (Int.tdiv (rd x3_2 x43_2) (wrap64 (((rd_T58 l0_0 x43_2).f0) + ((rd_T58 l0_0 x43_2).f1))))) * ((rd_T58 l0_0 x43_2).f0)))] (fun k_ => some k_ ≠ (.slice (some ⟨go5, 0, none⟩) x3_3.length co5 : Value).ownBlock) (fun _ => False) rfl rfl ?aP (fun _ hk => hk.elim) ?aF ?aO ?aB ?aS ?aL ?_; (case aP => exact rfl); (case aB => exact (tB HB.out)); (case aF => exact (fun k_ hk => Kd.fresh' (Kd.R_lt (tR HO_3.out)) k_ hk)); (case aO => exact (tR HO_6.out)); (case aS => exact (below_size (tB HB.out))); (case aL => have := LMc65.out; omega); intro v285 w69 ho hb hg hat; rw [← Ny284.out] at ho; replace HO_3 := Aside0.mk (Kd.R_after (ok := (fun _ => True)) (by (with_reducible repeat (first | apply Kd.R_alloc | apply Kd.R_drewN | apply Kd.R_drew)); exact Kd.R_mono HO_3.out (fun _ hk => ⟨trivial, hk⟩)) hg hat); replace BK262 := Aside0.mk (blk_grown (g := gb262) (o := .cells #[.slice (some ad274) l0_0.length c0_0, .slice (some ad277) l0_1.length c0_1] 27 (0, 0)) (tK BK262.out) hg (Kd.R_ne HO_6.out BK262.out (by decide))); replace BK275 := Aside0.mk (blk_grown (g := gb275) (o := .cells #[.int .i64 ((rd_T58 l0_0 x43_2).f0), .int .i64 ((rd_T58 l0_0 x43_2).f1)] 58 (0, 0)) (tK BK275.out) hg (Kd.R_ne HO_6.out BK275.out (by decide))); replace HB := Aside0.mk (hb); have HO286 := Aside0.mk (ho); clear HO_6; clear ho hb hg hat) | ((with_reducible refine gate_callee (f := 101) rfl ?_); refine goesL_ (some 86) rfl rfl Try.func101 (by kernel_rfl) rfl #[.int .i64 x7_3, .int .i64 (wrap64 ((wrap64 (Int.tdiv (rd x3_2 x43_2) (wrap64 (((rd_T58 l0_0 x43_2).f0) + ((rd_T58 l0_0 x43_2).f1))))) * ((rd_T58 l0_0 x43_2).f0)))] rfl tM ?_; (with_reducible refine (impl_divisor.calls k3 x7_3 (wrap64 ((wrap64 (Int.tdiv (rd x3_2 x43_2) (wrap64 (((rd_T58 l0_0 x43_2).f0) + ((rd_T58 l0_0 x43_2).f1))))) * ((rd_T58 l0_0 x43_2).f0))) t287 _ A66.out).mono ?_); rintro e w' ⟨rfl, ⟨nd, rfl⟩⟩; refine ⟨_, rfl, ?_⟩))
                      (try simp only [← hl3_3])
                      go_roundg k3
                      case measure => have := HK1.out; have := HK2.out; have := HK3.out; omega
                      case rel => exact ⟨(x3_3), (y284), (t287), (wrap64 (1 + 1)), (by first | rfl | (simp; done) | (simp [wrap64]; done) | (simp [*]; done)), (by first | rfl | (simp; done) | (simp [wrap64]; done) | (simp [*]; done)), H', ⟨by have := HK1.out; have := HK2.out; have := HK3.out; omega⟩, ⟨by (try simp only [hl3_1]); (try simp only [hl3_2]); (try simp only [hl3_3]); (with_reducible repeat (first | apply Kd.R_alloc | apply Kd.R_drewN | apply Kd.R_drew)); exact Kd.R_mono HO_3.out (fun _ hk => hk.2)⟩, ⟨by (try simp only [hl3_1]); (try simp only [hl3_2]); (try simp only [hl3_3]); (with_reducible repeat (first | apply Kd.R_alloc | apply Kd.R_drewN | apply Kd.R_drew)); exact HO286.out⟩, ⟨by (try simp only [hl3_1]); (try simp only [hl3_2]); (try simp only [hl3_3]); (with_reducible repeat (first | refine blk_drewN ?_ _ | refine blk_drew ?_ | refine blk_alloc ?_ _)); exact BK262.out⟩, ⟨by (try simp only [hl3_1]); (try simp only [hl3_2]); (try simp only [hl3_3]); (with_reducible repeat (first | refine blk_drewN ?_ _ | refine blk_drew ?_ | refine blk_alloc ?_ _)); exact BK275.out⟩, ⟨tB HB.out⟩⟩
                     ·
                      rw [if_neg c65] at H
                      exact absurd H (by simp)
                   ·
                    rw [if_neg c55] at H
                    exact absurd H (by simp)
                 ·
                  rw [if_neg c39] at H
                  have c39b0 : decide (x63_3 < 2) = false := decide_eq_false c39
                  clear c39
                  have H' := Aside0.mk H
                  clear H
                  go_wp2
                  (try simp only [← hl3_2, ← hl3_3])
                  go_roundg k3
                  case measure => have := HK1.out; have := HK2.out; have := HK3.out; omega
                  case rel => exact ⟨(x3_3), (x6_3), (x7_3), (wrap64 (x43_2 + 1)), (by first | rfl | (simp; done) | (simp [wrap64]; done) | (simp [*]; done)), (by first | rfl | (simp; done) | (simp [wrap64]; done) | (simp [*]; done)), H', ⟨by have := HK1.out; have := HK2.out; have := HK3.out; omega⟩, ⟨by (try simp only [hl3_1]); (try simp only [hl3_2]); (try simp only [hl3_3]); (with_reducible repeat (first | apply Kd.R_alloc | apply Kd.R_drewN | apply Kd.R_drew)); exact HO_3.out⟩, ⟨by (try simp only [hl3_1]); (try simp only [hl3_2]); (try simp only [hl3_3]); (with_reducible repeat (first | apply Kd.R_alloc | apply Kd.R_drewN | apply Kd.R_drew)); exact HO_6.out⟩, ⟨by (try simp only [hl3_1]); (try simp only [hl3_2]); (try simp only [hl3_3]); (with_reducible repeat (first | refine blk_drewN ?_ _ | refine blk_drew ?_ | refine blk_alloc ?_ _)); exact BK262.out⟩, ⟨tB HB.out⟩⟩
              ·
               rw [if_neg c32] at H
               exact absurd H (by simp)
            ·
             rw [if_neg c30] at H
             exact absurd H (by simp)
           ·
            rw [if_neg c29] at H
            exact absurd H (by simp)
          ·
           rw [if_neg c28] at H
           exact absurd H (by simp)
         ·
          rw [if_neg c27] at H
          have c27b0 : decide (x43_2 < (l0_0.length : Int)) = false := decide_eq_false c27
          clear c27
          have H' := Aside0.mk H
          clear H
          obtain ⟨Ao70, co70, eo70⟩ := Kd.R_slice HO_6.out
          subst eo70
          go_wp2
          go_loopg [91] k2 (fun kq v91 w' => ∃ (x6_3 : List Int) (x91_3 : Int), v91 = .int .i64 x91_3 ∧ Aside0 (impl_levelWeights.l3 kq x6_3 x7_2 (x6_2.length : Int) x91_3 = some r) ∧ Aside0 (kq ≤ k2) ∧ Aside0 (Kd.R (Kd.int .i64) 3 w' w.heap.size (fun _ => True) (.slice Ao70 x6_2.length co70) x6_3) ∧ Aside0 (w'.heap[gb262]? = some (.cells #[(.slice A0_0 l0_0.length c0_0), (.slice A0_1 l0_1.length c0_1)] 27 (0, 0))) ∧ Aside0 (Below w.heap.size w w'))
          case atStart => exact ⟨(x6_2), (0), (by first | rfl | (simp; done) | (simp [wrap64]; done) | (simp [*]; done)), H', ⟨Nat.le_refl _⟩, ⟨by (try simp only [hl3_1]); (try simp only [hl3_2]); (with_reducible repeat (first | apply Kd.R_alloc | apply Kd.R_drewN | apply Kd.R_drew)); exact Kd.R_mono HO_6.out (fun _ hk => trivial)⟩, ⟨by (try simp only [hl3_1]); (try simp only [hl3_2]); (with_reducible repeat (first | refine blk_drewN ?_ _ | refine blk_drew ?_ | refine blk_alloc ?_ _)); exact BK262.out⟩, ⟨tB HB.out⟩⟩
          case round =>
           clear H'
           try clear c1
           try clear p1
           try clear q1
           try clear hx1
           try clear qi1
           try clear hf1
           try clear c2
           try clear c2b0
           try clear c2b1
           try clear p2
           try clear q2
           try clear hx2
           try clear qi2
           try clear c3
           try clear c3b0
           try clear c3b1
           try clear c4
           try clear c4b0
           try clear c4b1
           try clear p4
           try clear q4
           try clear hx4
           try clear hf4
           try clear c5
           try clear p5
           try clear q5
           try clear hx5
           try clear qi5
           try clear hf5
           try clear c6
           try clear p6
           try clear q6
           try clear hx6
           try clear hf6
           try clear c8
           try clear c10
           try clear c13
           try clear c13b0
           try clear c14
           try clear c14b0
           try clear c15
           try clear c15b0
           try clear c16
           try clear c16b0
           try clear c16b1
           try clear p17
           try clear q17
           try clear hx17
           try clear qi17
           try clear hf17
           try clear c19
           try clear p26
           try clear q26
           try clear hx26
           try clear qi26
           try clear c27
           try clear c27b0
           try clear p27
           try clear q27
           try clear hx27
           try clear c28
           try clear c28b0
           try clear c29
           try clear c29b0
           try clear c30
           try clear c30b0
           try clear c31
           try clear c31b0
           try clear c31b1
           try clear c32
           try clear c32b0
           try clear c34
           try clear c39
           try clear c39b0
           try clear c40
           try clear c40b0
           try clear c40b1
           try clear c41
           try clear c41b0
           try clear c43
           try clear c43b0
           try clear c44
           try clear c44b0
           try clear p45
           try clear q45
           try clear hx45
           try clear hf45
           try clear c46
           try clear c50
           try clear c52
           try clear c55
           try clear c56
           try clear c56b0
           try clear c58
           try clear c58b0
           try clear c59
           try clear c59b0
           try clear p60
           try clear q60
           try clear hx60
           try clear hf60
           try clear c61
           try clear p64
           try clear c65
           try clear c67
           try clear hcz12_0
           try clear hcz12_1
           try clear hcz20_0
           try clear hcz20_1
           try clear hcz26_0
           try clear hcz26_1
           try clear hcz35_0
           try clear hcz35_1
           try clear hcz38_0
           try clear hcz38_1
           try clear hcz47_0
           try clear hcz47_1
           try clear hcz53_0
           try clear hcz53_1
           try clear hcz62_0
           try clear hcz62_1
           try clear hcz68_0
           try clear hcz68_1
           try clear hcz7_0
           try clear hcz7_1
           try clear hfz12_0
           try clear hfz12_1
           try clear hfz20_0
           try clear hfz20_1
           try clear hfz26_0
           try clear hfz26_1
           try clear hfz35_0
           try clear hfz35_1
           try clear hfz38_0
           try clear hfz38_1
           try clear hfz47_0
           try clear hfz47_1
           try clear hfz53_0
           try clear hfz53_1
           try clear hfz62_0
           try clear hfz62_1
           try clear hfz68_0
           try clear hfz68_1
           try clear hfz7_0
           try clear hfz7_1
           try clear hx17_0
           try clear hx267_0
           try clear hx267_1
           try clear hx269_0
           try clear hx274_0
           try clear hx274_1
           try clear hx276_0
           try clear hx277_0
           try clear hx277_1
           try clear hx45_0
           try clear hx5_0
           try clear hx60_0
           try clear p1
           try clear p17
           try clear p2
           try clear p26
           try clear p267
           try clear p269
           try clear p27
           try clear p274
           try clear p276
           try clear p277
           try clear p45
           try clear p5
           try clear p6
           try clear p60
           try clear q1
           try clear q17
           try clear q2
           try clear q26
           try clear q267
           try clear q269
           try clear q27
           try clear q274
           try clear q276
           try clear q277
           try clear q45
           try clear q5
           try clear q60
           obtain ⟨x6_3, x91_3, rfl, HA, HK3, HO_6, BK262, HB⟩ := hrel
           have hl6_3 := (Kd.R_reads' HO_6.out).1
           rw [hl6_3] at HO_6
           (try simp only [hl6_3])
           (try simp only [hl6_3] at BK262)
           cases gk with
           | zero => exact absurd HA.out (by simp [impl_levelWeights.l3])
           | succ k3 =>
            have H := HA.out
            clear HA
            simp only [impl_levelWeights.l3] at H
            by_cases c71 : x91_3 < (x6_2.length : Int)
            ·
             rw [if_pos c71] at H
             have c71b0 : decide (x91_3 < (x6_2.length : Int)) = true := decide_eq_true c71
             clear c71
             by_cases c72 : 0 ≤ x91_3
             ·
              rw [if_pos c72] at H
              have c72b0 : decide (0 ≤ x91_3) = true := decide_eq_true c72
              clear c72
              by_cases c73 : x91_3 < (x6_3.length : Int)
              ·
               rw [if_pos c73] at H
               have c73b0 : decide (x91_3 < (x6_3.length : Int)) = true := decide_eq_true c73
               clear c73
               by_cases c74 : x7_2 = 0
               ·
                rw [if_pos c74] at H
                exact absurd H (by simp)
               ·
                rw [if_neg c74] at H
                have c74b0 : (x7_2 == 0) = false := beq_eq_false_iff_ne.mpr c74
                have c74b1 : (x7_2 != 0) = true := bne_iff_ne.mpr c74
                obtain ⟨y289, hy289⟩ : ∃ y_ : List Int, y_ = (x6_3.set (x91_3 : Int).toNat (wrap64 (Int.tdiv (rd x6_3 x91_3) x7_2))) := ⟨_, rfl⟩
                replace H : (impl_levelWeights.l3 k3 y289 x7_2 (x6_2.length : Int) (wrap64 (x91_3 + 1))) = some r := by first | (rw [hy289]; with_reducible exact H) | (have H2_ := (Option.bind_some _ _).symm.trans H; rw [hy289]; with_reducible exact H2_) | (have H2_ := (Option.bind_some _ _).symm.trans H; with_reducible exact H2_) | with_reducible exact H | (rw [hy289]; exact H) | exact H
                have Ny289 := Aside0.mk hy289
                clear hy289
                have H' := Aside0.mk H
                clear H
                have p288 : 0 ≤ (x91_3 : Int) := of_decide_eq_true (by first | (with_reducible assumption) | assumption)
                have q288 : x91_3 < (x6_3.length : Int) := of_decide_eq_true (by first | (with_reducible assumption) | assumption)
                obtain ⟨ad288, e288, hx288_0⟩ := Kd.at_int (Kd.R_reads' HO_6.out).2.2 x91_3 p288 q288
                cases e288
                replace p288 := eq_true p288
                replace q288 := eq_true q288
                have p75 : 0 ≤ (x91_3 : Int) := of_decide_eq_true (by first | (with_reducible assumption) | assumption)
                have q75 : (x91_3 : Int) < ((x6_3.length : Int) : Int) := of_decide_eq_true (by first | (with_reducible assumption) | assumption)
                obtain ⟨go75, co75, eo75, gb75, gl75, cl75, HG75⟩ := Kd.R_form HO_6.out (by omega)
                (first | cases eo75 | (injection eo75 with ea_ en_ ec_; (first | subst ea_ | (injection ea_ with ea_; subst ea_)); subst ec_; clear en_))
                have GB75 := Aside0.mk gb75
                have GG75 := Aside0.mk HG75
                clear gb75 gl75 HG75
                (first | simp only [add_plain] at hx288_0 | skip)
                obtain ⟨hx75_0, hf75_0⟩ := Kd.R_celln 0 HO_6.out (x91_3 : Int) p75 q75
                replace p75 := eq_true p75
                replace q75 := eq_true q75
                have HP76 := Kd.R_putg HO_6.out (x91_3 : Int) (wrap64 (Int.tdiv (rd x6_3 x91_3) x7_2))
                go_wp2_with (first | ((with_reducible refine gate_store (t := 3) (p := 100) rfl ?_); refine store_event (t := 3) (p := 100) (v := ?vo_w77) (w1 := (wr.setCell ⟨go75, (x91_3 : Int).toNat, none⟩ (.int .i64 (wrap64 (Int.tdiv (rd x6_3 x91_3) x7_2))))) ?hg ?ho ?hn ?hr ?_; (case ho => rfl); (case hg => rfl); (case hn => rfl); (case hr => first | (go_simp; done) | (go_simp; rfl)); intro w77 hw; have hg : wr.grownBy w77 (some go75) := (by rw [hw]; exact HP76.2); have hp_ : Kd.R (Kd.int .i64) 3 w77 w.heap.size (fun _ => True) (.slice (some ⟨go75, 0, none⟩) x6_3.length co70) y289 := (by rw [hw, Ny289.out]; exact HP76.1); clear HP76; replace BK262 := Aside0.mk (blk_grown (g := gb262) (o := .cells #[.slice A0_0 l0_0.length c0_0, .slice A0_1 l0_1.length c0_1] 27 (0, 0)) (tK BK262.out) hg (Kd.R_ne HO_6.out BK262.out (by decide))); replace HO_6 := Aside0.mk (hp_); replace HB := Aside0.mk ((by rw [hw]; exact below_set (HB.out) GB75.out : Below w.heap.size w w77)); clear hg hw hp_))
                (try simp only [← hl6_3])
                go_roundg k3
                case measure => have := HK1.out; have := HK2.out; have := HK3.out; omega
                case rel => exact ⟨(y289), (wrap64 (x91_3 + 1)), (by first | rfl | (simp; done) | (simp [wrap64]; done) | (simp [*]; done)), H', ⟨by have := HK1.out; have := HK2.out; have := HK3.out; omega⟩, ⟨by (try simp only [hl3_1]); (try simp only [hl3_2]); (try simp only [hl6_3]); (with_reducible repeat (first | apply Kd.R_alloc | apply Kd.R_drewN | apply Kd.R_drew)); exact HO_6.out⟩, ⟨by (try simp only [hl3_1]); (try simp only [hl3_2]); (try simp only [hl6_3]); (with_reducible repeat (first | refine blk_drewN ?_ _ | refine blk_drew ?_ | refine blk_alloc ?_ _)); exact BK262.out⟩, ⟨tB HB.out⟩⟩
              ·
               rw [if_neg c73] at H
               exact absurd H (by simp)
             ·
              rw [if_neg c72] at H
              exact absurd H (by simp)
            ·
             rw [if_neg c71] at H
             have c71b0 : decide (x91_3 < (x6_2.length : Int)) = false := decide_eq_false c71
             (try simp only [hl6_3] at c71b0)
             clear c71
             obtain rfl := Option.some.inj H
             go_wp2
             go_ret
             exact ⟨_, by first | rfl | (simp [errW_none, errW_some] <;> rfl) | (simp [*, errW_none, errW_some] <;> rfl), tR HO_6.out, tB HB.out⟩
   ·
    rw [if_neg c4] at H
    exact absurd H (by simp)
  ·
   rw [if_neg c3] at H
   exact absurd H (by simp)
 ·
  rw [if_neg c2] at H
  exact absurd H (by simp)

end Go.Proofs.Ytbdajkfihbaapaa.PFnExactLevelWeights

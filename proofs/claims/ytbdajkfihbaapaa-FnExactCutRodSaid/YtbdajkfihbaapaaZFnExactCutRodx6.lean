/- Printed by the program print2.py over the translation: each function as a Lean function, and the proof that the call comes to its answer. -/
import Derived.Test.YtbdajkfihbaapaaZFnExactCutRodx0
import Derived.Test.YtbdajkfihbaapaaZFnExactCutRodx4
import Derived.Test.YtbdajkfihbaapaaZFnExactCutRodx5
namespace Go.Proofs.Ytbdajkfihbaapaa.PFnExactCutRod
open Go.RowKit Go.Proofs.YtbdajkfihbaapaaW.PrintWords Go.Proofs.YtbdajkfihbaapaaW.PrintLast Go.Proofs.YtbdajkfihbaapaaW.PrintMore
attribute [local go_sem] max2_int min2_int max_two min_two max_three min_three max_four min_four   -- for this text's walks alone
set_option linter.unusedVariables false
set_option linter.unusedSimpArgs false

/-! ### spec_CutRod: function 47 -/
mutual
def spec_CutRod.j0 : Nat → Int → Bool → List (S58) → List (S58) → Option ((List (S58)) × (List (S58)) × Bool)
 | 0, _, _, _, _ => none
 | k + 1, x1, x24, x181000, x181001 => if x24 = true then (some (([] : List (S58)), ([] : List (S58)), false)) else ((spec_l5Weights.f k x181000 x181001).bind fun t183 => (if 0 ≤ x1 then (if x1 < (t183.length : Int) then (if 0 ≤ (x181000.length : Int) then (if ((x181000.length : Int) : Int).toNat ≤ 35184372088832 then (spec_CutRod.l0 k x1 (rd t183 x1) (List.replicate ((x181000.length : Int) : Int).toNat 0) 0 0 x181000 x181001) else (none)) else (none)) else (none)) else (none)))
def spec_CutRod.l0 : Nat → Int → Int → List Int → Int → Int → List (S58) → List (S58) → Option ((List (S58)) × (List (S58)) × Bool)
 | 0, _, _, _, _, _, _, _ => none
 | k + 1, x1, x6, x7, x8, x9, x181000, x181001 => if x9 < (x181000.length : Int) then (if 0 ≤ x9 then (if x9 < (x7.length : Int) then (spec_CutRod.l0 k x1 x6 (x7.set (x9 : Int).toNat (-1)) x8 (wrap64 (x9 + 1)) x181000 x181001) else (none)) else (none)) else (if 0 < (x7.length : Int) then (spec_CutRod.l1 k x1 x6 (x7.set (0 : Int).toNat 0) x8 0 x181000 x181001) else (none))
def spec_CutRod.l1 : Nat → Int → Int → List Int → Int → Int → List (S58) → List (S58) → Option ((List (S58)) × (List (S58)) × Bool)
 | 0, _, _, _, _, _, _, _ => none
 | k + 1, x1, x6, x7, x8, x11, x181000, x181001 => if x11 < (x181000.length : Int) then (if 0 ≤ x11 then (if x11 < (x7.length : Int) then (if (rd x7 x11) < 0 then (spec_CutRod.l1 k x1 x6 x7 x8 (wrap64 (x11 + 1)) x181000 x181001) else (spec_CutRod.l2 k x1 x6 (x7.set (x11 : Int).toNat x8) (wrap64 (x8 + 1)) x11 0 x181000 x181001)) else (none)) else (none)) else (spec_CutRod.l3 k x1 x6 x7 0 x181000 x181001 ([] : List (S58)) ([] : List (S58)))
def spec_CutRod.l2 : Nat → Int → Int → List Int → Int → Int → Int → List (S58) → List (S58) → Option ((List (S58)) × (List (S58)) × Bool)
 | 0, _, _, _, _, _, _, _, _ => none
 | k + 1, x1, x6, x7, x8, x11, x12, x181000, x181001 => if x12 < 2 then (if 0 ≤ x11 then (if x11 < (x181001.length : Int) then (if x12 = 0 then (if ((rd_T58 x181001 x11).f0) < 0 then (if (wrap64 (-((rd_T58 x181001 x11).f0))) = x1 then (spec_CutRod.l2 k x1 x6 x7 x8 x11 (wrap64 (x12 + 1)) x181000 x181001) else (if 0 ≤ (wrap64 (-((rd_T58 x181001 x11).f0))) then (if (wrap64 (-((rd_T58 x181001 x11).f0))) < (x7.length : Int) then (spec_CutRod.l2 k x1 x6 (x7.set ((wrap64 (-((rd_T58 x181001 x11).f0))) : Int).toNat 0) x8 x11 (wrap64 (x12 + 1)) x181000 x181001) else (none)) else (none))) else (spec_CutRod.l2 k x1 x6 x7 x8 x11 (wrap64 (x12 + 1)) x181000 x181001)) else (if x12 = 1 then (if ((rd_T58 x181001 x11).f1) < 0 then (if (wrap64 (-((rd_T58 x181001 x11).f1))) = x1 then (spec_CutRod.l2 k x1 x6 x7 x8 x11 (wrap64 (x12 + 1)) x181000 x181001) else (if 0 ≤ (wrap64 (-((rd_T58 x181001 x11).f1))) then (if (wrap64 (-((rd_T58 x181001 x11).f1))) < (x7.length : Int) then (spec_CutRod.l2 k x1 x6 (x7.set ((wrap64 (-((rd_T58 x181001 x11).f1))) : Int).toNat 0) x8 x11 (wrap64 (x12 + 1)) x181000 x181001) else (none)) else (none))) else (spec_CutRod.l2 k x1 x6 x7 x8 x11 (wrap64 (x12 + 1)) x181000 x181001)) else (none))) else (none)) else (none)) else (spec_CutRod.l1 k x1 x6 x7 x8 (wrap64 (x11 + 1)) x181000 x181001)
def spec_CutRod.l3 : Nat → Int → Int → List Int → Int → List (S58) → List (S58) → List (S58) → List (S58) → Option ((List (S58)) × (List (S58)) × Bool)
 | 0, _, _, _, _, _, _, _, _ => none
 | k + 1, x1, x6, x7, x14, x181000, x181001, x192000, x192001 => if x14 < (x181000.length : Int) then (if 0 ≤ x14 then (if x14 < (x7.length : Int) then (if (rd x7 x14) < 0 then (spec_CutRod.l3 k x1 x6 x7 (wrap64 (x14 + 1)) x181000 x181001 x192000 x192001) else (if x14 < (x181001.length : Int) then (spec_CutRod.l4 k x1 x6 x7 x14 0 x181000 x181001 x192000 x192001 ((rd_T58 x181001 x14).f0) ((rd_T58 x181001 x14).f1)) else (none))) else (none)) else (none)) else ((spec_l5Good.f k x192000 x192001).bind fun t198 => (if t198 = true then (some (x192000, x192001, true)) else (some (([] : List (S58)), ([] : List (S58)), false))))
def spec_CutRod.l4 : Nat → Int → Int → List Int → Int → Int → List (S58) → List (S58) → List (S58) → List (S58) → Int → Int → Option ((List (S58)) × (List (S58)) × Bool)
 | 0, _, _, _, _, _, _, _, _, _, _, _ => none
 | k + 1, x1, x6, x7, x14, x16, x181000, x181001, x192000, x192001, x202000, x202001 => if x16 < 2 then (if x16 = 0 then (if x202000 = (wrap64 (-x1)) then (spec_CutRod.l4 k x1 x6 x7 x14 (wrap64 (x16 + 1)) x181000 x181001 x192000 x192001 x6 x202001) else (if x202000 < 0 then (if 0 ≤ (wrap64 (-x202000)) then (if (wrap64 (-x202000)) < (x7.length : Int) then (spec_CutRod.l4 k x1 x6 x7 x14 (wrap64 (x16 + 1)) x181000 x181001 x192000 x192001 (wrap64 (-(rd x7 (wrap64 (-x202000))))) x202001) else (none)) else (none)) else (spec_CutRod.l4 k x1 x6 x7 x14 (wrap64 (x16 + 1)) x181000 x181001 x192000 x192001 x202000 x202001))) else (if x16 = 1 then (if x202001 = (wrap64 (-x1)) then (spec_CutRod.l4 k x1 x6 x7 x14 (wrap64 (x16 + 1)) x181000 x181001 x192000 x192001 x202000 x6) else (if x202001 < 0 then (if 0 ≤ (wrap64 (-x202001)) then (if (wrap64 (-x202001)) < (x7.length : Int) then (spec_CutRod.l4 k x1 x6 x7 x14 (wrap64 (x16 + 1)) x181000 x181001 x192000 x192001 x202000 (wrap64 (-(rd x7 (wrap64 (-x202001)))))) else (none)) else (none)) else (spec_CutRod.l4 k x1 x6 x7 x14 (wrap64 (x16 + 1)) x181000 x181001 x192000 x192001 x202000 x202001))) else (none))) else (if 0 ≤ x14 then (if x14 < (x181000.length : Int) then (if x192000.length < 8796093022208 then (if x192001.length < 8796093022208 then (spec_CutRod.l3 k x1 x6 x7 (wrap64 (x14 + 1)) x181000 x181001 (x192000 ++ [(⟨(rd_T58 x181000 x14).f0, (rd_T58 x181000 x14).f1⟩ : S58)]) (x192001 ++ [(⟨x202000, x202001⟩ : S58)])) else (none)) else (none)) else (none)) else (none))
end
def spec_CutRod.f (k : Nat) (l0_0 : List (S58)) (l0_1 : List (S58)) (a1 : Int) : Option ((List (S58)) × (List (S58)) × Bool) := (spec_l5Rod.f k l0_0 l0_1 a1 0).bind fun t182 => (if t182 = true then (spec_CutRod.j0 k a1 (a1 == 0) l0_0 l0_1) else (spec_CutRod.j0 k a1 true l0_0 l0_1))
theorem spec_CutRod.mono_l : ∀ k, (∀ y0 y1 y2 y3, LeO (spec_CutRod.j0 k y0 y1 y2 y3) (spec_CutRod.j0 (k + 1) y0 y1 y2 y3)) ∧ (∀ y0 y1 y2 y3 y4 y5 y6, LeO (spec_CutRod.l0 k y0 y1 y2 y3 y4 y5 y6) (spec_CutRod.l0 (k + 1) y0 y1 y2 y3 y4 y5 y6)) ∧ (∀ y0 y1 y2 y3 y4 y5 y6, LeO (spec_CutRod.l1 k y0 y1 y2 y3 y4 y5 y6) (spec_CutRod.l1 (k + 1) y0 y1 y2 y3 y4 y5 y6)) ∧ (∀ y0 y1 y2 y3 y4 y5 y6 y7, LeO (spec_CutRod.l2 k y0 y1 y2 y3 y4 y5 y6 y7) (spec_CutRod.l2 (k + 1) y0 y1 y2 y3 y4 y5 y6 y7)) ∧ (∀ y0 y1 y2 y3 y4 y5 y6 y7, LeO (spec_CutRod.l3 k y0 y1 y2 y3 y4 y5 y6 y7) (spec_CutRod.l3 (k + 1) y0 y1 y2 y3 y4 y5 y6 y7)) ∧ (∀ y0 y1 y2 y3 y4 y5 y6 y7 y8 y9 y10, LeO (spec_CutRod.l4 k y0 y1 y2 y3 y4 y5 y6 y7 y8 y9 y10) (spec_CutRod.l4 (k + 1) y0 y1 y2 y3 y4 y5 y6 y7 y8 y9 y10))
 | 0 => ⟨fun _ _ _ _ r h => by simp [spec_CutRod.j0] at h, fun _ _ _ _ _ _ _ r h => by simp [spec_CutRod.l0] at h, fun _ _ _ _ _ _ _ r h => by simp [spec_CutRod.l1] at h, fun _ _ _ _ _ _ _ _ r h => by simp [spec_CutRod.l2] at h, fun _ _ _ _ _ _ _ _ r h => by simp [spec_CutRod.l3] at h, fun _ _ _ _ _ _ _ _ _ _ _ r h => by simp [spec_CutRod.l4] at h⟩
 | k + 1 => by
  obtain ⟨ih0, ih1, ih2, ih3, ih4, ih5⟩ := spec_CutRod.mono_l k
  refine ⟨?_, ?_, ?_, ?_, ?_, ?_⟩
  ·
   intro y0 y1 y2 y3
   unfold spec_CutRod.j0
   repeat' first
   | (with_reducible exact ih0 _ _ _ _)
   | (with_reducible exact ih1 _ _ _ _ _ _ _)
   | (with_reducible exact ih2 _ _ _ _ _ _ _)
   | (with_reducible exact ih3 _ _ _ _ _ _ _ _)
   | (with_reducible exact ih4 _ _ _ _ _ _ _ _)
   | (with_reducible exact ih5 _ _ _ _ _ _ _ _ _ _ _)
   | (with_reducible exact spec_l5Good.mono _ _ _)
   | (with_reducible exact spec_l5Rod.mono _ _ _ _ _)
   | (with_reducible exact spec_l5Weights.mono _ _ _)
   | (with_reducible exact LeO.refl _)
   | (with_reducible exact LeO.none _)
   | (with_reducible refine LeO.ite ?_ ?_)
   | (with_reducible refine LeO.bind ?_ (fun _ => ?_))
   | exact ih0 _ _ _ _
   | exact ih1 _ _ _ _ _ _ _
   | exact ih2 _ _ _ _ _ _ _
   | exact ih3 _ _ _ _ _ _ _ _
   | exact ih4 _ _ _ _ _ _ _ _
   | exact ih5 _ _ _ _ _ _ _ _ _ _ _
   | exact spec_l5Good.mono _ _ _
   | exact spec_l5Rod.mono _ _ _ _ _
   | exact spec_l5Weights.mono _ _ _
   | exact LeO.none _
   | refine LeO.ite ?_ ?_
   | refine LeO.bind ?_ (fun _ => ?_)
  ·
   intro y0 y1 y2 y3 y4 y5 y6
   unfold spec_CutRod.l0
   repeat' first
   | (with_reducible exact ih0 _ _ _ _)
   | (with_reducible exact ih1 _ _ _ _ _ _ _)
   | (with_reducible exact ih2 _ _ _ _ _ _ _)
   | (with_reducible exact ih3 _ _ _ _ _ _ _ _)
   | (with_reducible exact ih4 _ _ _ _ _ _ _ _)
   | (with_reducible exact ih5 _ _ _ _ _ _ _ _ _ _ _)
   | (with_reducible exact spec_l5Good.mono _ _ _)
   | (with_reducible exact spec_l5Rod.mono _ _ _ _ _)
   | (with_reducible exact spec_l5Weights.mono _ _ _)
   | (with_reducible exact LeO.refl _)
   | (with_reducible exact LeO.none _)
   | (with_reducible refine LeO.ite ?_ ?_)
   | (with_reducible refine LeO.bind ?_ (fun _ => ?_))
   | exact ih0 _ _ _ _
   | exact ih1 _ _ _ _ _ _ _
   | exact ih2 _ _ _ _ _ _ _
   | exact ih3 _ _ _ _ _ _ _ _
   | exact ih4 _ _ _ _ _ _ _ _
   | exact ih5 _ _ _ _ _ _ _ _ _ _ _
   | exact spec_l5Good.mono _ _ _
   | exact spec_l5Rod.mono _ _ _ _ _
   | exact spec_l5Weights.mono _ _ _
   | exact LeO.none _
   | refine LeO.ite ?_ ?_
   | refine LeO.bind ?_ (fun _ => ?_)
  ·
   intro y0 y1 y2 y3 y4 y5 y6
   unfold spec_CutRod.l1
   repeat' first
   | (with_reducible exact ih0 _ _ _ _)
   | (with_reducible exact ih1 _ _ _ _ _ _ _)
   | (with_reducible exact ih2 _ _ _ _ _ _ _)
   | (with_reducible exact ih3 _ _ _ _ _ _ _ _)
   | (with_reducible exact ih4 _ _ _ _ _ _ _ _)
   | (with_reducible exact ih5 _ _ _ _ _ _ _ _ _ _ _)
   | (with_reducible exact spec_l5Good.mono _ _ _)
   | (with_reducible exact spec_l5Rod.mono _ _ _ _ _)
   | (with_reducible exact spec_l5Weights.mono _ _ _)
   | (with_reducible exact LeO.refl _)
   | (with_reducible exact LeO.none _)
   | (with_reducible refine LeO.ite ?_ ?_)
   | (with_reducible refine LeO.bind ?_ (fun _ => ?_))
   | exact ih0 _ _ _ _
   | exact ih1 _ _ _ _ _ _ _
   | exact ih2 _ _ _ _ _ _ _
   | exact ih3 _ _ _ _ _ _ _ _
   | exact ih4 _ _ _ _ _ _ _ _
   | exact ih5 _ _ _ _ _ _ _ _ _ _ _
   | exact spec_l5Good.mono _ _ _
   | exact spec_l5Rod.mono _ _ _ _ _
   | exact spec_l5Weights.mono _ _ _
   | exact LeO.none _
   | refine LeO.ite ?_ ?_
   | refine LeO.bind ?_ (fun _ => ?_)
  ·
   intro y0 y1 y2 y3 y4 y5 y6 y7
   unfold spec_CutRod.l2
   repeat' first
   | (with_reducible exact ih0 _ _ _ _)
   | (with_reducible exact ih1 _ _ _ _ _ _ _)
   | (with_reducible exact ih2 _ _ _ _ _ _ _)
   | (with_reducible exact ih3 _ _ _ _ _ _ _ _)
   | (with_reducible exact ih4 _ _ _ _ _ _ _ _)
   | (with_reducible exact ih5 _ _ _ _ _ _ _ _ _ _ _)
   | (with_reducible exact spec_l5Good.mono _ _ _)
   | (with_reducible exact spec_l5Rod.mono _ _ _ _ _)
   | (with_reducible exact spec_l5Weights.mono _ _ _)
   | (with_reducible exact LeO.refl _)
   | (with_reducible exact LeO.none _)
   | (with_reducible refine LeO.ite ?_ ?_)
   | (with_reducible refine LeO.bind ?_ (fun _ => ?_))
   | exact ih0 _ _ _ _
   | exact ih1 _ _ _ _ _ _ _
   | exact ih2 _ _ _ _ _ _ _
   | exact ih3 _ _ _ _ _ _ _ _
   | exact ih4 _ _ _ _ _ _ _ _
   | exact ih5 _ _ _ _ _ _ _ _ _ _ _
   | exact spec_l5Good.mono _ _ _
   | exact spec_l5Rod.mono _ _ _ _ _
   | exact spec_l5Weights.mono _ _ _
   | exact LeO.none _
   | refine LeO.ite ?_ ?_
   | refine LeO.bind ?_ (fun _ => ?_)
  ·
   intro y0 y1 y2 y3 y4 y5 y6 y7
   unfold spec_CutRod.l3
   repeat' first
   | (with_reducible exact ih0 _ _ _ _)
   | (with_reducible exact ih1 _ _ _ _ _ _ _)
   | (with_reducible exact ih2 _ _ _ _ _ _ _)
   | (with_reducible exact ih3 _ _ _ _ _ _ _ _)
   | (with_reducible exact ih4 _ _ _ _ _ _ _ _)
   | (with_reducible exact ih5 _ _ _ _ _ _ _ _ _ _ _)
   | (with_reducible exact spec_l5Good.mono _ _ _)
   | (with_reducible exact spec_l5Rod.mono _ _ _ _ _)
   | (with_reducible exact spec_l5Weights.mono _ _ _)
   | (with_reducible exact LeO.refl _)
   | (with_reducible exact LeO.none _)
   | (with_reducible refine LeO.ite ?_ ?_)
   | (with_reducible refine LeO.bind ?_ (fun _ => ?_))
   | exact ih0 _ _ _ _
   | exact ih1 _ _ _ _ _ _ _
   | exact ih2 _ _ _ _ _ _ _
   | exact ih3 _ _ _ _ _ _ _ _
   | exact ih4 _ _ _ _ _ _ _ _
   | exact ih5 _ _ _ _ _ _ _ _ _ _ _
   | exact spec_l5Good.mono _ _ _
   | exact spec_l5Rod.mono _ _ _ _ _
   | exact spec_l5Weights.mono _ _ _
   | exact LeO.none _
   | refine LeO.ite ?_ ?_
   | refine LeO.bind ?_ (fun _ => ?_)
  ·
   intro y0 y1 y2 y3 y4 y5 y6 y7 y8 y9 y10
   unfold spec_CutRod.l4
   repeat' first
   | (with_reducible exact ih0 _ _ _ _)
   | (with_reducible exact ih1 _ _ _ _ _ _ _)
   | (with_reducible exact ih2 _ _ _ _ _ _ _)
   | (with_reducible exact ih3 _ _ _ _ _ _ _ _)
   | (with_reducible exact ih4 _ _ _ _ _ _ _ _)
   | (with_reducible exact ih5 _ _ _ _ _ _ _ _ _ _ _)
   | (with_reducible exact spec_l5Good.mono _ _ _)
   | (with_reducible exact spec_l5Rod.mono _ _ _ _ _)
   | (with_reducible exact spec_l5Weights.mono _ _ _)
   | (with_reducible exact LeO.refl _)
   | (with_reducible exact LeO.none _)
   | (with_reducible refine LeO.ite ?_ ?_)
   | (with_reducible refine LeO.bind ?_ (fun _ => ?_))
   | exact ih0 _ _ _ _
   | exact ih1 _ _ _ _ _ _ _
   | exact ih2 _ _ _ _ _ _ _
   | exact ih3 _ _ _ _ _ _ _ _
   | exact ih4 _ _ _ _ _ _ _ _
   | exact ih5 _ _ _ _ _ _ _ _ _ _ _
   | exact spec_l5Good.mono _ _ _
   | exact spec_l5Rod.mono _ _ _ _ _
   | exact spec_l5Weights.mono _ _ _
   | exact LeO.none _
   | refine LeO.ite ?_ ?_
   | refine LeO.bind ?_ (fun _ => ?_)
theorem spec_CutRod.mono : ∀ a0 a1 a2 k, LeO (spec_CutRod.f k a0 a1 a2) (spec_CutRod.f (k + 1) a0 a1 a2) := by
 intro a0 a1 a2 k
 obtain ⟨ih0, ih1, ih2, ih3, ih4, ih5⟩ := spec_CutRod.mono_l k
 unfold spec_CutRod.f
 repeat' first
   | (with_reducible exact ih0 _ _ _ _)
   | (with_reducible exact ih1 _ _ _ _ _ _ _)
   | (with_reducible exact ih2 _ _ _ _ _ _ _)
   | (with_reducible exact ih3 _ _ _ _ _ _ _ _)
   | (with_reducible exact ih4 _ _ _ _ _ _ _ _)
   | (with_reducible exact ih5 _ _ _ _ _ _ _ _ _ _ _)
   | (with_reducible exact spec_l5Good.mono _ _ _)
   | (with_reducible exact spec_l5Rod.mono _ _ _ _ _)
   | (with_reducible exact spec_l5Weights.mono _ _ _)
   | (with_reducible exact LeO.refl _)
   | (with_reducible exact LeO.none _)
   | (with_reducible refine LeO.ite ?_ ?_)
   | (with_reducible refine LeO.bind ?_ (fun _ => ?_))
   | exact ih0 _ _ _ _
   | exact ih1 _ _ _ _ _ _ _
   | exact ih2 _ _ _ _ _ _ _
   | exact ih3 _ _ _ _ _ _ _ _
   | exact ih4 _ _ _ _ _ _ _ _
   | exact ih5 _ _ _ _ _ _ _ _ _ _ _
   | exact spec_l5Good.mono _ _ _
   | exact spec_l5Rod.mono _ _ _ _ _
   | exact spec_l5Weights.mono _ _ _
   | exact LeO.none _
   | refine LeO.ite ?_ ?_
   | refine LeO.bind ?_ (fun _ => ?_)
def spec_CutRod.T35 : Bool × List (List Nat × List Nat) := (true, [([], []), ([0], [0]), ([], []), ([2], [2]), ([], []), ([3, 4], [3, 4]), ([5], [5]), ([6], [6]), ([1, 7], [1, 7]), ([0, 1, 2, 3, 4, 5, 6, 7, 8], []), ([9, 8, 8, 0, 1, 2, 3, 4, 5, 6, 7, 8], [8, 9])])
def spec_CutRod.B35 : List Nat := [0, 1, 0, 4, 0, 28, 60, 124, 255, 511, 1023]
theorem spec_CutRod.tab35 : rtab .any (opsOf Try.f47 35) = spec_CutRod.T35 := by kernel_rfl
theorem spec_CutRod.bits35 : waitsOk spec_CutRod.T35.2 spec_CutRod.B35 = true := by kernel_rfl
set_option maxHeartbeats 8000000 in
set_option maxRecDepth 100000 in
theorem spec_CutRod.calls (k : Nat) (A0_0 : Option Addr) (c0_0 : Nat) (l0_0 : List (S58)) (A0_1 : Option Addr) (c0_1 : Nat) (l0_1 : List (S58)) (a1 : Int) (r1 : List (S58)) (r2 : List (S58)) (r3 : Bool) (w : World) (hr0_0 : Kd.C k58 w A0_0 l0_0.length l0_0) (hc0_0 : l0_0.length ≤ c0_0) (hr0_1 : Kd.C k58 w A0_1 l0_1.length l0_1) (hc0_1 : l0_1.length ≤ c0_1) (h : spec_CutRod.f k l0_0 l0_1 a1 = some (r1, r2, r3)) :
  Calls Try.prog 47 #[.agg #[.slice A0_0 l0_0.length c0_0, .slice A0_1 l0_1.length c0_1], .int .i64 a1] w fun e w' => ∃ v0_ v1_ : Value, e = .returned (.tuple #[.agg #[v0_, v1_], .bool r3]) ∧ Kd.R k58 58 w' w.heap.size (fun k_ => some k_ ≠ (v1_ : Value).ownBlock) v0_ r1 ∧ Kd.R k58 58 w' w.heap.size (fun k_ => some k_ ≠ (v0_ : Value).ownBlock) v1_ r2 ∧ Below w.heap.size w w' := by
 have hu27 := Try.underlying27
 have hu58 := Try.underlying58
 have hwz_ : wrap64 0 = 0 := by simp [wrap64]
 have hwo_ : wrap64 1 = 1 := by simp [wrap64]
 have HR0_0 := Aside0.mk hr0_0
 have HC0_0 := Aside0.mk hc0_0
 clear hr0_0 hc0_0
 have HR0_1 := Aside0.mk hr0_1
 have HC0_1 := Aside0.mk hc0_1
 clear hr0_1 hc0_1
 have HB := Aside0.mk (Below.refl w.heap.size w)
 have H : ((spec_l5Rod.f k l0_0 l0_1 a1 0).bind fun t182 => (if t182 = true then (spec_CutRod.j0 k a1 (a1 == 0) l0_0 l0_1) else (spec_CutRod.j0 k a1 true l0_0 l0_1))) = some (r1, r2, r3) := h
 clear h
 have HC3 := Aside0.mk H
 clear H
 go_enter Try.func47, Try.ntmps47
 go_upto_region 1 with (first | ((with_reducible refine gate_dst (N := 2) rfl ?_); refine box_event ?hg (N := 2) ?hd (cs := #[.slice A0_0 l0_0.length c0_0, .slice A0_1 l0_1.length c0_1]) (t := 27) ?hr ?_; (case hd => rfl); (case hg => rfl); (case hr => first | (go_simp; done) | (go_simp; rfl)); intro gb180 hg w4 hbox hb; have BK180 := Aside0.mk (hbox); have GW180 := Aside0.mk (bS HB.out hg); have GE180 := Aside0.mk (bS HB.out hg); replace HB := Aside0.mk (below_step (tB HB.out) hb); clear hb hbox hg) | ((with_reducible refine gate_dst (N := 4) rfl ?_); refine box_event ?hg (N := 4) ?hd (cs := #[.slice none 0 0, .slice none 0 0]) (t := 27) ?hr ?_; (case hd => rfl); (case hg => rfl); (case hr => first | (go_simp; done) | (go_simp; rfl)); intro gb181 hg w5 hbox hb; have BK181 := Aside0.mk (hbox); have GW181 := Aside0.mk (bS HB.out hg); have GE181 := Aside0.mk (bS HB.out hg); replace HB := Aside0.mk (below_step (tB HB.out) hb); have NB180_181 := Aside0.mk (nL BK180.out hg); have NB181_180 := Aside0.mk (nG BK180.out hg); replace BK180 := bkB BK180 hb; clear hb hbox hg))
 (try simp only [Act.put, List.setIfInBounds_toArray, List.set_cons_zero, List.set_cons_succ])
 go_cut [24] (fun v24 wc => ∃ (kq : Nat) (x24_2 : Bool), v24 = .bool x24_2 ∧ Aside0 (spec_CutRod.j0 kq a1 x24_2 l0_0 l0_1 = some (r1, r2, r3)) ∧ Aside0 (kq ≤ k) ∧ Aside0 (wc.heap[gb180]? = some (.cells #[(.slice A0_0 l0_0.length c0_0), (.slice A0_1 l0_1.length c0_1)] 27 (0, 0))) ∧ Aside0 (wc.heap[gb181]? = some (.cells #[(.slice none 0 0), (.slice none 0 0)] 27 (0, 0))) ∧ Aside0 (Below w.heap.size w wc))
 case first =>
  have H := HC3.out
  clear HC3
  replace H := Option.bind_eq_some_iff.mp H
  obtain ⟨t182, A60, H⟩ := H
  replace H : (if t182 = true then (spec_CutRod.j0 k a1 (a1 == 0) l0_0 l0_1) else (spec_CutRod.j0 k a1 true l0_0 l0_1)) = some (r1, r2, r3) := H
  have A6 := Aside0.mk A60
  clear A60
  by_cases c7 : t182 = true
  ·
   subst c7
   have H1 : (spec_CutRod.j0 k a1 (a1 == 0) l0_0 l0_1) = some (r1, r2, r3) := by rw [if_pos rfl] at H; exact H
   clear H
   have H := H1
   clear H1
   have H' := Aside0.mk H
   clear H
   have hnb8 := NB180_181.out
   have hnc8 := NB181_180.out
   obtain ⟨hcz9_0, hfz9_0, hcz9_1, hfz9_1⟩ := cz2 BK180
   go_wp2_with (first | ((with_reducible refine gate_callee (f := 59) rfl ?_); refine goesL_ (some 19) rfl rfl Try.func59 (by kernel_rfl) rfl #[.agg #[.slice A0_0 l0_0.length c0_0, .slice A0_1 l0_1.length c0_1], .int .i64 a1, .int .i64 0] rfl tM ?_; (with_reducible refine (spec_l5Rod.calls k _ _ l0_0 _ _ l0_1 a1 0 true _ ?side1 ?side2 ?side3 ?side4 A6.out).mono ?_); (case side1 => exact tC (Kd.C_below HR0_0.out HB.out)); (case side2 => exact HC0_0.out); (case side3 => exact tC (Kd.C_below HR0_1.out HB.out)); (case side4 => exact HC0_1.out); rintro e w10 ⟨rfl, hb⟩; refine ⟨_, rfl, ?_⟩; replace BK180 := bkB BK180 hb; replace BK181 := bkB BK181 hb; replace HB := Aside0.mk (below_step (tB HB.out) hb); (try clear hb); (try clear hb2); (try clear hk); (try clear hi)))
   go_meet
   case rel => exact ⟨_, ((a1 == 0)), (by first | rfl | (simp; done) | (simp [wrap64]; done) | (simp [*]; done)), H', ⟨by first | omega | exact Nat.le_refl _⟩, ⟨tK BK180.out⟩, ⟨tK BK181.out⟩, ⟨tB HB.out⟩⟩
  ·
   replace c7 := Bool.eq_false_iff.mpr c7
   subst c7
   have H1 : (spec_CutRod.j0 k a1 true l0_0 l0_1) = some (r1, r2, r3) := by rw [if_neg (show ¬ (false = true) by decide)] at H; exact H
   clear H
   have H := H1
   clear H1
   have H' := Aside0.mk H
   clear H
   have hnb11 := NB180_181.out
   have hnc11 := NB181_180.out
   obtain ⟨hcz12_0, hfz12_0, hcz12_1, hfz12_1⟩ := cz2 BK180
   go_wp2_with (first | ((with_reducible refine gate_callee (f := 59) rfl ?_); refine goesL_ (some 19) rfl rfl Try.func59 (by kernel_rfl) rfl #[.agg #[.slice A0_0 l0_0.length c0_0, .slice A0_1 l0_1.length c0_1], .int .i64 a1, .int .i64 0] rfl tM ?_; (with_reducible refine (spec_l5Rod.calls k _ _ l0_0 _ _ l0_1 a1 0 false _ ?side1 ?side2 ?side3 ?side4 A6.out).mono ?_); (case side1 => exact tC (Kd.C_below HR0_0.out HB.out)); (case side2 => exact HC0_0.out); (case side3 => exact tC (Kd.C_below HR0_1.out HB.out)); (case side4 => exact HC0_1.out); rintro e w13 ⟨rfl, hb⟩; refine ⟨_, rfl, ?_⟩; replace BK180 := bkB BK180 hb; replace BK181 := bkB BK181 hb; replace HB := Aside0.mk (below_step (tB HB.out) hb); (try clear hb); (try clear hb2); (try clear hk); (try clear hi)))
   go_meet
   case rel => exact ⟨_, (true), (by first | rfl | (simp; done) | (simp [wrap64]; done) | (simp [*]; done)), H', ⟨by first | omega | exact Nat.le_refl _⟩, ⟨tK BK180.out⟩, ⟨tK BK181.out⟩, ⟨tB HB.out⟩⟩
 case rest =>
  clear HC3
  try clear c1
  try clear p2
  try clear c4
  try clear c5
  try clear p6
  try clear c7
  try clear c8
  try clear c11
  try clear hcz12_0
  try clear hcz12_1
  try clear hcz9_0
  try clear hcz9_1
  try clear hfz12_0
  try clear hfz12_1
  try clear hfz9_0
  try clear hfz9_1
  obtain ⟨kq, x24_2, rfl, HA, HJ2, BK180, BK181, HB⟩ := hcut
  cases kq with
  | zero => exact absurd HA.out (by simp [spec_CutRod.j0])
  | succ kj2 =>
   have H := HA.out
   clear HA
   simp only [spec_CutRod.j0] at H
   by_cases c14 : x24_2 = true
   ·
    subst c14
    have H1 : (some (([] : List (S58)), ([] : List (S58)), false)) = some (r1, r2, r3) := by rw [if_pos rfl] at H; exact H
    clear H
    have H := H1
    clear H1
    simp only [Option.some.injEq, Prod.mk.injEq] at H
    obtain ⟨rfl, rfl, rfl⟩ := H
    have hnb15 := NB181_180.out
    have hnc15 := NB180_181.out
    obtain ⟨hcz16_0, hfz16_0, hcz16_1, hfz16_1⟩ := cz2 BK181
    go_wp2
    refine bodyPost_ret (results_ct rfl _ _ gb181 27 #[.slice none 0 0, .slice none 0 0] (0, 0) _ rfl (by (with_reducible repeat (first | refine blk_drewN ?_ _ | refine blk_drew ?_ | refine blk_alloc ?_ _)); refine blk_put (cs := #[.slice none 0 0, .slice none 0 0]) ?_ 1 _ rfl; (with_reducible repeat (first | refine blk_drewN ?_ _ | refine blk_drew ?_ | refine blk_alloc ?_ _)); refine blk_put (cs := #[.slice none 0 0, .slice none 0 0]) ?_ 0 _ rfl; (with_reducible repeat (first | refine blk_drewN ?_ _ | refine blk_drew ?_ | refine blk_alloc ?_ _)); exact BK181.out) Try.underlying27 rfl (by kernel_rfl)) rfl ?_
    exact ⟨_, _, by first | rfl | (simp [errW_none, errW_some] <;> rfl) | (simp [*, errW_none, errW_some] <;> rfl), by first | exact Kd.R_nil _ _ _ _ _ | exact Kd.N_nil _ _ _ _ _ | exact Kd.V_nil _ _ _ _ _ | exact Kd.Q_nil _ _ _ _ _ | exact Kd.S_nil _ _ _ _ _, by first | exact Kd.R_nil _ _ _ _ _ | exact Kd.N_nil _ _ _ _ _ | exact Kd.V_nil _ _ _ _ _ | exact Kd.Q_nil _ _ _ _ _ | exact Kd.S_nil _ _ _ _ _, tB HB.out⟩
   ·
    replace c14 := Bool.eq_false_iff.mpr c14
    subst c14
    have H1 : ((spec_l5Weights.f kj2 l0_0 l0_1).bind fun t183 => (if 0 ≤ a1 then (if a1 < (t183.length : Int) then (if 0 ≤ (l0_0.length : Int) then (if ((l0_0.length : Int) : Int).toNat ≤ 35184372088832 then (spec_CutRod.l0 kj2 a1 (rd t183 a1) (List.replicate ((l0_0.length : Int) : Int).toNat 0) 0 0 l0_0 l0_1) else (none)) else (none)) else (none)) else (none))) = some (r1, r2, r3) := by rw [if_neg (show ¬ (false = true) by decide)] at H; exact H
    clear H
    have H := H1
    clear H1
    replace H := Option.bind_eq_some_iff.mp H
    obtain ⟨t183, A170, H⟩ := H
    replace H : (if 0 ≤ a1 then (if a1 < (t183.length : Int) then (if 0 ≤ (l0_0.length : Int) then (if ((l0_0.length : Int) : Int).toNat ≤ 35184372088832 then (spec_CutRod.l0 kj2 a1 (rd t183 a1) (List.replicate ((l0_0.length : Int) : Int).toNat 0) 0 0 l0_0 l0_1) else (none)) else (none)) else (none)) else (none)) = some (r1, r2, r3) := H
    have A17 := Aside0.mk A170
    clear A170
    by_cases c18 : 0 ≤ a1
    ·
     rw [if_pos c18] at H
     have c18b0 : decide (0 ≤ a1) = true := decide_eq_true c18
     clear c18
     by_cases c19 : a1 < (t183.length : Int)
     ·
      rw [if_pos c19] at H
      have c19b0 : decide (a1 < (t183.length : Int)) = true := decide_eq_true c19
      clear c19
      by_cases c20 : 0 ≤ (l0_0.length : Int)
      ·
       rw [if_pos c20] at H
       have c20b0 := eq_true c20
       have c20b1 : decide (0 ≤ (l0_0.length : Int)) = true := decide_eq_true c20
       clear c20
       by_cases c21 : ((l0_0.length : Int) : Int).toNat ≤ 35184372088832
       ·
        rw [if_pos c21] at H
        have c21b0 := eq_true c21
        have c21b1 : decide (((l0_0.length : Int) : Int).toNat ≤ 35184372088832) = true := decide_eq_true c21
        clear c21
        obtain ⟨y187, hy187⟩ : ∃ y_ : List Int, y_ = (List.replicate ((l0_0.length : Int) : Int).toNat 0) := ⟨_, rfl⟩
        replace H : (spec_CutRod.l0 kj2 a1 (rd t183 a1) y187 0 0 l0_0 l0_1) = some (r1, r2, r3) := by first | (rw [hy187]; with_reducible exact H) | (have H2_ := (Option.bind_some _ _).symm.trans H; rw [hy187]; with_reducible exact H2_) | (have H2_ := (Option.bind_some _ _).symm.trans H; with_reducible exact H2_) | with_reducible exact H | (rw [hy187]; exact H) | exact H
        have Ny187 := Aside0.mk hy187
        clear hy187
        have H' := Aside0.mk H
        clear H
        have hnb22 := NB180_181.out
        have hnc22 := NB181_180.out
        obtain ⟨hcz23_0, hfz23_0, hcz23_1, hfz23_1⟩ := cz2 BK180
        go_wp2_with (first | ((with_reducible refine gate_callee (f := 61) rfl ?_); refine goesL_ (some 27) rfl rfl Try.func61 (by kernel_rfl) rfl #[.agg #[.slice A0_0 l0_0.length c0_0, .slice A0_1 l0_1.length c0_1]] rfl tM ?_; (with_reducible refine (spec_l5Weights.calls kj2 _ _ l0_0 _ _ l0_1 t183 _ ?side1 ?side2 ?side3 ?side4 A17.out).mono ?_); (case side1 => exact tC (Kd.C_below HR0_0.out HB.out)); (case side2 => exact HC0_0.out); (case side3 => exact tC (Kd.C_below HR0_1.out HB.out)); (case side4 => exact HC0_1.out); rintro e w24 ⟨v184, rfl, ho0, hb⟩; refine ⟨_, rfl, ?_⟩; have HO185 := Aside0.mk (Kd.R_lower ho0 (below_size (tB HB.out))); replace BK180 := bkB BK180 hb; replace BK181 := bkB BK181 hb; replace HB := Aside0.mk (below_step (tB HB.out) hb); (try clear hb); (try clear hb2); (try clear hk); (try clear hi); (try clear ho0); obtain ⟨Ao25, co25, eo25⟩ := Kd.R_slice HO185.out; subst eo25; have p186 : 0 ≤ (a1 : Int) := of_decide_eq_true (by first | (with_reducible assumption) | assumption); have q186 : a1 < (t183.length : Int) := of_decide_eq_true (by first | (with_reducible assumption) | assumption); obtain ⟨ad186, e186, hx186_0⟩ := Kd.at_int (Kd.R_reads' HO185.out).2.2 a1 p186 q186; cases e186; replace p186 := eq_true p186; replace q186 := eq_true q186; obtain ⟨hcz26_0, hfz26_0, hcz26_1, hfz26_1⟩ := cz2 BK180) | ((with_reducible refine gate_dst (N := 34) rfl ?_); refine Kd.R_make (Kd.int .i64) _ 3 rfl (N := 34) rfl 37 _ _ rfl (l0_0.length : Int) rfl rfl Try.underlying37 (.int .i64 0) 8 info3 rfl (by decide) (by omega) 0 (ok := fun _ => True) (okp := fun _ => True) rfl (fun _ hk => hk) trivial (of_decide_eq_true (by first | (with_reducible assumption) | assumption)) (Nat.le_trans (Nat.mul_le_mul_right _ (of_decide_eq_true (by first | (with_reducible assumption) | assumption) : (l0_0.length : Int).toNat ≤ 35184372088832)) (by omega)) (Below.refl _ _) (Nat.le_refl _) ?_; intro v188 w27 ho28 hb hg_ hnew_; clear hg_ hnew_; (first | rw [← Ny187.out] at ho28 | (simp only [Int.reduceToNat] at ho28; rw [← Ny187.out] at ho28)); have HO189 := Aside0.mk (Kd.R_lower (Kd.R_new' ho28 (Kd.R_lt (tR HO185.out))) (below_size (tB HB.out))); replace HO185 := Aside0.mk (Kd.R_elder' (tR HO185.out) (Kd.R_base ho28) hb); replace BK180 := bkB BK180 hb; replace BK181 := bkB BK181 hb; replace HB := Aside0.mk (below_step (tB HB.out) hb); clear hb ho28))
        go_loopg [9] kj2 (fun kq v9 w' => ∃ (x7_2 : List Int) (x9_2 : Int), v9 = .int .i64 x9_2 ∧ Aside0 (spec_CutRod.l0 kq a1 (rd t183 a1) x7_2 0 x9_2 l0_0 l0_1 = some (r1, r2, r3)) ∧ Aside0 (kq ≤ kj2) ∧ Aside0 (Kd.R (Kd.int .i64) 3 w' w.heap.size (fun _ => True) v188 x7_2) ∧ Aside0 (w'.heap[gb180]? = some (.cells #[(.slice A0_0 l0_0.length c0_0), (.slice A0_1 l0_1.length c0_1)] 27 (0, 0))) ∧ Aside0 (w'.heap[gb181]? = some (.cells #[(.slice none 0 0), (.slice none 0 0)] 27 (0, 0))) ∧ Aside0 (Below w.heap.size w w'))
        case atStart => exact ⟨(y187), (0), (by first | rfl | (simp; done) | (simp [wrap64]; done) | (simp [*]; done)), H', ⟨Nat.le_refl _⟩, ⟨by (with_reducible repeat (first | apply Kd.R_alloc | apply Kd.R_drewN | apply Kd.R_drew)); exact Kd.R_mono HO189.out (fun _ hk => trivial)⟩, ⟨tK BK180.out⟩, ⟨tK BK181.out⟩, ⟨tB HB.out⟩⟩
        case round =>
         clear H'
         try clear c1
         try clear p1
         try clear q1
         try clear hx1
         try clear c2
         try clear p2
         try clear c4
         try clear c5
         try clear c6
         try clear p6
         try clear c7
         try clear c8
         try clear c11
         try clear c14
         try clear c15
         try clear c18
         try clear c18b0
         try clear p18
         try clear q18
         try clear hx18
         try clear c19
         try clear c19b0
         try clear c20
         try clear c20b0
         try clear c20b1
         try clear c21
         try clear c21b0
         try clear c21b1
         try clear c22
         try clear hcz12_0
         try clear hcz12_1
         try clear hcz16_0
         try clear hcz16_1
         try clear hcz23_0
         try clear hcz23_1
         try clear hcz26_0
         try clear hcz26_1
         try clear hcz9_0
         try clear hcz9_1
         try clear hfz12_0
         try clear hfz12_1
         try clear hfz16_0
         try clear hfz16_1
         try clear hfz23_0
         try clear hfz23_1
         try clear hfz26_0
         try clear hfz26_1
         try clear hfz9_0
         try clear hfz9_1
         try clear hx186_0
         try clear p186
         try clear p2
         try clear p6
         try clear q186
         obtain ⟨x7_2, x9_2, rfl, HA, HK2, HO_7, BK180, BK181, HB⟩ := hrel
         cases gk with
         | zero => exact absurd HA.out (by simp [spec_CutRod.l0])
         | succ k2 =>
          have H := HA.out
          clear HA
          simp only [spec_CutRod.l0] at H
          by_cases c29 : x9_2 < (l0_0.length : Int)
          ·
           rw [if_pos c29] at H
           have c29b0 : decide (x9_2 < (l0_0.length : Int)) = true := decide_eq_true c29
           clear c29
           by_cases c30 : 0 ≤ x9_2
           ·
            rw [if_pos c30] at H
            have c30b0 : decide (0 ≤ x9_2) = true := decide_eq_true c30
            clear c30
            by_cases c31 : x9_2 < (x7_2.length : Int)
            ·
             rw [if_pos c31] at H
             have c31b0 : decide (x9_2 < (x7_2.length : Int)) = true := decide_eq_true c31
             clear c31
             obtain ⟨y190, hy190⟩ : ∃ y_ : List Int, y_ = (x7_2.set (x9_2 : Int).toNat (-1)) := ⟨_, rfl⟩
             replace H : (spec_CutRod.l0 k2 a1 (rd t183 a1) y190 0 (wrap64 (x9_2 + 1)) l0_0 l0_1) = some (r1, r2, r3) := by first | (rw [hy190]; with_reducible exact H) | (have H2_ := (Option.bind_some _ _).symm.trans H; rw [hy190]; with_reducible exact H2_) | (have H2_ := (Option.bind_some _ _).symm.trans H; with_reducible exact H2_) | with_reducible exact H | (rw [hy190]; exact H) | exact H
             have Ny190 := Aside0.mk hy190
             clear hy190
             have H' := Aside0.mk H
             clear H
             have hnb33 := NB180_181.out
             have hnc33 := NB181_180.out
             obtain ⟨hcz34_0, hfz34_0, hcz34_1, hfz34_1⟩ := cz2 BK180
             have p32 : 0 ≤ (x9_2 : Int) := of_decide_eq_true (by first | (with_reducible assumption) | assumption)
             have q32 : (x9_2 : Int) < ((x7_2.length : Int) : Int) := of_decide_eq_true (by first | (with_reducible assumption) | assumption)
             obtain ⟨go32, co32, eo32, gb32, gl32, cl32, HG32⟩ := Kd.R_form HO_7.out (by omega)
             (first | cases eo32 | (injection eo32 with ea_ en_ ec_; (first | subst ea_ | (injection ea_ with ea_; subst ea_)); subst ec_; clear en_))
             have GB32 := Aside0.mk gb32
             have GG32 := Aside0.mk HG32
             clear gb32 gl32 HG32
             obtain ⟨hx32_0, hf32_0⟩ := Kd.R_celln 0 HO_7.out (x9_2 : Int) p32 q32
             replace p32 := eq_true p32
             replace q32 := eq_true q32
             have HP35 := Kd.R_putg HO_7.out (x9_2 : Int) (-1)
             go_wp2_with (first | ((with_reducible refine gate_store (t := 3) (p := 44) rfl ?_); refine store_event (t := 3) (p := 44) (v := ?vo_w36) (w1 := (wr.setCell ⟨go32, (x9_2 : Int).toNat, none⟩ (.int .i64 (-1)))) ?hg ?ho ?hn ?hr ?_; (case ho => rfl); (case hg => rfl); (case hn => rfl); (case hr => first | (go_simp; done) | (go_simp; rfl)); intro w36 hw; have hg : wr.grownBy w36 (some go32) := (by rw [hw]; exact HP35.2); have hp_ : Kd.R (Kd.int .i64) 3 w36 w.heap.size (fun _ => True) (.slice (some ⟨go32, 0, none⟩) x7_2.length co32) y190 := (by rw [hw, Ny190.out]; exact HP35.1); clear HP35; replace BK180 := Aside0.mk (blk_grown (g := gb180) (o := .cells #[.slice A0_0 l0_0.length c0_0, .slice A0_1 l0_1.length c0_1] 27 (0, 0)) (tK BK180.out) hg (Kd.R_ne HO_7.out BK180.out (by decide))); replace BK181 := Aside0.mk (blk_grown (g := gb181) (o := .cells #[.slice none 0 0, .slice none 0 0] 27 (0, 0)) (tK BK181.out) hg (Kd.R_ne HO_7.out BK181.out (by decide))); replace HO_7 := Aside0.mk (hp_); replace HB := Aside0.mk ((by rw [hw]; exact below_set (HB.out) GB32.out : Below w.heap.size w w36)); clear hg hw hp_))
             go_roundg k2
             case measure => have := HJ2.out; have := HK2.out; omega
             case rel => exact ⟨(y190), (wrap64 (x9_2 + 1)), (by first | rfl | (simp; done) | (simp [wrap64]; done) | (simp [*]; done)), H', ⟨by have := HJ2.out; have := HK2.out; omega⟩, ⟨tR HO_7.out⟩, ⟨tK BK180.out⟩, ⟨tK BK181.out⟩, ⟨tB HB.out⟩⟩
            ·
             rw [if_neg c31] at H
             exact absurd H (by simp)
           ·
            rw [if_neg c30] at H
            exact absurd H (by simp)
          ·
           rw [if_neg c29] at H
           have c29b0 : decide (x9_2 < (l0_0.length : Int)) = false := decide_eq_false c29
           clear c29
           by_cases c37 : 0 < (x7_2.length : Int)
           ·
            rw [if_pos c37] at H
            have c37b0 : decide (0 < (x7_2.length : Int)) = true := decide_eq_true c37
            have c37b1 : decide (0 < x7_2.length) = true := decide_eq_true (by omega)
            clear c37
            obtain ⟨y192, hy192⟩ : ∃ y_ : List Int, y_ = (x7_2.set (0 : Int).toNat 0) := ⟨_, rfl⟩
            replace H : (spec_CutRod.l1 k2 a1 (rd t183 a1) y192 0 0 l0_0 l0_1) = some (r1, r2, r3) := by first | (rw [hy192]; with_reducible exact H) | (have H2_ := (Option.bind_some _ _).symm.trans H; rw [hy192]; with_reducible exact H2_) | (have H2_ := (Option.bind_some _ _).symm.trans H; with_reducible exact H2_) | with_reducible exact H | (rw [hy192]; exact H) | exact H
            have Ny192 := Aside0.mk hy192
            clear hy192
            have H' := Aside0.mk H
            clear H
            have hnb39 := NB180_181.out
            have hnc39 := NB181_180.out
            obtain ⟨hcz40_0, hfz40_0, hcz40_1, hfz40_1⟩ := cz2 BK180
            go_wp2_with (first | ((with_reducible refine gate_dst (N := 10) rfl ?_); refine box_event ?hg (N := 10) ?hd (cs := #[.slice none 0 0, .slice none 0 0]) (t := 27) ?hr ?_; (case hd => rfl); (case hg => rfl); (case hr => first | (go_simp; done) | (go_simp; rfl)); intro gb191 hg w41 hbox hb; replace HO_7 := Aside0.mk (Kd.R_below (tR HO_7.out) hb); have BK191 := Aside0.mk (hbox); have GW191 := Aside0.mk (bS HB.out hg); have GE191 := Aside0.mk (bS HB.out hg); replace HB := Aside0.mk (below_step (tB HB.out) hb); have NB180_191 := Aside0.mk (nL BK180.out hg); have NB191_180 := Aside0.mk (nG BK180.out hg); replace BK180 := bkB BK180 hb; have NB181_191 := Aside0.mk (nL BK181.out hg); have NB191_181 := Aside0.mk (nG BK181.out hg); replace BK181 := bkB BK181 hb; clear hb hbox hg; have hnb42 := NB191_180.out; have hnc42 := NB180_191.out; have hnb43 := NB191_181.out; have hnc43 := NB181_191.out; obtain ⟨hcz44_0, hfz44_0, hcz44_1, hfz44_1⟩ := cz2 BK191) | ((with_reducible refine gate_store (t := 27) (p := 10) rfl ?_); refine store_event (t := 27) (p := 10) (v := ?vo_w45) (w1 := ((w41.setCell ⟨gb191, 0, none⟩ (.slice none 0 0)).setCell ⟨gb191, 1, none⟩ (.slice none 0 0))) ?hg ?ho ?hn ?hr ?_; (case ho => rfl); (case hg => rfl); (case hn => rfl); (case hr => first | (go_simp; done) | (go_simp; rfl)); intro w45 hw; have n0_ : Aside0 (Kd.R (Kd.int .i64) 3 w45 w.heap.size (fun _ => True) v188 x7_2) := ⟨(by rw [hw]; exact (by (with_reducible repeat (first | apply Kd.R_alloc | apply Kd.R_drewN | apply Kd.R_drew)); exact Kd.R_mono (Kd.R_far (p := ⟨gb191, 1, none⟩) (Kd.R_far (p := ⟨gb191, 0, none⟩) (Kd.R_types HO_7.out BK191.out (by decide)) (fun _ hk => hk.2) (.slice none 0 0)) (fun _ hk => hk.2) (.slice none 0 0)) (fun _ hk => trivial)))⟩; have n1_ : Aside0 (w45.heap[gb180]? = some (.cells #[.slice A0_0 l0_0.length c0_0, .slice A0_1 l0_1.length c0_1] 27 (0, 0))) := ⟨(by rw [hw]; exact (by (with_reducible repeat (first | refine blk_drewN ?_ _ | refine blk_drew ?_ | refine blk_alloc ?_ _)); refine blk_far ?_ NB180_191.out _; (with_reducible repeat (first | refine blk_drewN ?_ _ | refine blk_drew ?_ | refine blk_alloc ?_ _)); refine blk_far ?_ NB180_191.out _; (with_reducible repeat (first | refine blk_drewN ?_ _ | refine blk_drew ?_ | refine blk_alloc ?_ _)); exact BK180.out))⟩; have n2_ : Aside0 (w45.heap[gb181]? = some (.cells #[.slice none 0 0, .slice none 0 0] 27 (0, 0))) := ⟨(by rw [hw]; exact (by (with_reducible repeat (first | refine blk_drewN ?_ _ | refine blk_drew ?_ | refine blk_alloc ?_ _)); refine blk_far ?_ NB181_191.out _; (with_reducible repeat (first | refine blk_drewN ?_ _ | refine blk_drew ?_ | refine blk_alloc ?_ _)); refine blk_far ?_ NB181_191.out _; (with_reducible repeat (first | refine blk_drewN ?_ _ | refine blk_drew ?_ | refine blk_alloc ?_ _)); exact BK181.out))⟩; have n3_ : Aside0 (w45.heap[gb191]? = some (.cells #[.slice none 0 0, .slice none 0 0] 27 (0, 0))) := ⟨(by rw [hw]; exact (by (with_reducible repeat (first | refine blk_drewN ?_ _ | refine blk_drew ?_ | refine blk_alloc ?_ _)); refine blk_put (cs := #[.slice none 0 0, .slice none 0 0]) ?_ 1 _ rfl; (with_reducible repeat (first | refine blk_drewN ?_ _ | refine blk_drew ?_ | refine blk_alloc ?_ _)); refine blk_put (cs := #[.slice none 0 0, .slice none 0 0]) ?_ 0 _ rfl; (with_reducible repeat (first | refine blk_drewN ?_ _ | refine blk_drew ?_ | refine blk_alloc ?_ _)); exact BK191.out))⟩; have n4_ : Aside0 (Below w.heap.size w w45) := ⟨(by rw [hw]; exact (tB HB.out))⟩; clear hw; clear HO_7; clear BK180; clear BK181; clear BK191; clear HB; have HO_7 := n0_; have BK180 := n1_; have BK181 := n2_; have BK191 := n3_; have HB := n4_; clear n0_ n1_ n2_ n3_ n4_; have p38 : 0 ≤ (0 : Int) := (by omega); have q38 : (0 : Int) < ((x7_2.length : Int) : Int) := of_decide_eq_true (by first | (with_reducible assumption) | assumption); have qi38 : (0 < x7_2.length) = True := eq_true (by omega); obtain ⟨go38, co38, eo38, gb38, gl38, cl38, HG38⟩ := Kd.R_form HO_7.out (by omega); (first | cases eo38 | (injection eo38 with ea_ en_ ec_; (first | subst ea_ | (injection ea_ with ea_; subst ea_)); subst ec_; clear en_)); have GB38 := Aside0.mk gb38; have GG38 := Aside0.mk HG38; clear gb38 gl38 HG38; obtain ⟨hx38_0, hf38_0⟩ := Kd.R_celln 0 HO_7.out (0 : Int) p38 q38; (try rw [show ((0 : Int)).toNat = 0 from rfl] at hx38_0); (try simp only [Nat.reduceMul, Nat.zero_mul, Nat.zero_add, Nat.reduceAdd] at hx38_0); (try rw [show ((0 : Int)).toNat = 0 from rfl] at hf38_0); (try simp only [Nat.reduceMul, Nat.zero_mul, Nat.zero_add, Nat.reduceAdd] at hf38_0); replace p38 := eq_true p38; replace q38 := eq_true q38; obtain ⟨hy46_, hz46_⟩ := Kd.R_celln 0 HO_7.out (0 : Int) (by omega) (of_decide_eq_true (by first | (with_reducible assumption) | assumption)); (try simp only [Int.reduceToNat, Int.toNat_zero, Int.toNat_ofNat, Nat.reduceMul, Nat.zero_mul, Nat.zero_add] at hy46_ hz46_); (try rw [show ((0 : Int)).toNat = 0 from rfl] at hy46_); (try rw [show ((0 : Int)).toNat = 0 from rfl] at hz46_); have HP46 := Kd.R_putg HO_7.out (0 : Int) 0) | ((with_reducible refine gate_store (t := 3) (p := 47) rfl ?_); refine store_event (t := 3) (p := 47) (v := ?vo_w47) (w1 := (w45.setCell ⟨go38, (0 : Int).toNat, none⟩ (.int .i64 0))) ?hg ?ho ?hn ?hr ?_; (case ho => rfl); (case hg => rfl); (case hn => rfl); (case hr => first | (go_simp; done) | (go_simp; rfl)); intro w47 hw; have hg : w45.grownBy w47 (some go38) := (by rw [hw]; exact HP46.2); have hp_ : Kd.R (Kd.int .i64) 3 w47 w.heap.size (fun _ => True) (.slice (some ⟨go38, 0, none⟩) x7_2.length co38) y192 := (by rw [hw, Ny192.out]; exact HP46.1); clear HP46; replace BK180 := Aside0.mk (blk_grown (g := gb180) (o := .cells #[.slice A0_0 l0_0.length c0_0, .slice A0_1 l0_1.length c0_1] 27 (0, 0)) (tK BK180.out) hg (Kd.R_ne HO_7.out BK180.out (by decide))); replace BK181 := Aside0.mk (blk_grown (g := gb181) (o := .cells #[.slice none 0 0, .slice none 0 0] 27 (0, 0)) (tK BK181.out) hg (Kd.R_ne HO_7.out BK181.out (by decide))); replace BK191 := Aside0.mk (blk_grown (g := gb191) (o := .cells #[.slice none 0 0, .slice none 0 0] 27 (0, 0)) (tK BK191.out) hg (Kd.R_ne HO_7.out BK191.out (by decide))); replace HO_7 := Aside0.mk (hp_); replace HB := Aside0.mk ((by rw [hw]; exact below_set (HB.out) GB38.out : Below w.heap.size w w47)); clear hg hw hp_))
            go_loopg [8, 11] k2 (fun kq v8 v11 w' => ∃ (x7_3 : List Int) (x8_3 : Int) (x11_3 : Int), v8 = .int .i64 x8_3 ∧ v11 = .int .i64 x11_3 ∧ Aside0 (spec_CutRod.l1 kq a1 (rd t183 a1) x7_3 x8_3 x11_3 l0_0 l0_1 = some (r1, r2, r3)) ∧ Aside0 (kq ≤ k2) ∧ Aside0 (Kd.R (Kd.int .i64) 3 w' w.heap.size (fun _ => True) (.slice (some ⟨go38, 0, none⟩) x7_2.length co38) x7_3) ∧ Aside0 (w'.heap[gb180]? = some (.cells #[(.slice A0_0 l0_0.length c0_0), (.slice A0_1 l0_1.length c0_1)] 27 (0, 0))) ∧ Aside0 (w'.heap[gb181]? = some (.cells #[(.slice none 0 0), (.slice none 0 0)] 27 (0, 0))) ∧ Aside0 (w'.heap[gb191]? = some (.cells #[(.slice none 0 0), (.slice none 0 0)] 27 (0, 0))) ∧ Aside0 (Below w.heap.size w w'))
            case atStart => exact ⟨(y192), (0), (0), (by first | rfl | (simp; done) | (simp [wrap64]; done) | (simp [*]; done)), (by first | rfl | (simp; done) | (simp [wrap64]; done) | (simp [*]; done)), H', ⟨Nat.le_refl _⟩, ⟨tR HO_7.out⟩, ⟨tK BK180.out⟩, ⟨tK BK181.out⟩, ⟨tK BK191.out⟩, ⟨tB HB.out⟩⟩
            case round =>
             clear H'
             try clear c1
             try clear p1
             try clear q1
             try clear hx1
             try clear c2
             try clear p2
             try clear c3
             try clear p3
             try clear q3
             try clear hx3
             try clear qi3
             try clear hf3
             try clear c4
             try clear c5
             try clear c6
             try clear p6
             try clear c7
             try clear c8
             try clear c11
             try clear c14
             try clear c15
             try clear c18
             try clear c18b0
             try clear p18
             try clear q18
             try clear hx18
             try clear c19
             try clear c19b0
             try clear c20
             try clear c20b0
             try clear c20b1
             try clear c21
             try clear c21b0
             try clear c21b1
             try clear c22
             try clear c29
             try clear c29b0
             try clear c30
             try clear c30b0
             try clear c31
             try clear c31b0
             try clear p32
             try clear q32
             try clear hx32
             try clear hf32
             try clear c33
             try clear c37
             try clear c37b0
             try clear c37b1
             try clear p38
             try clear q38
             try clear hx38
             try clear qi38
             try clear hf38
             try clear c39
             try clear c42
             try clear c43
             try clear c47
             try clear hcz12_0
             try clear hcz12_1
             try clear hcz16_0
             try clear hcz16_1
             try clear hcz23_0
             try clear hcz23_1
             try clear hcz26_0
             try clear hcz26_1
             try clear hcz34_0
             try clear hcz34_1
             try clear hcz40_0
             try clear hcz40_1
             try clear hcz44_0
             try clear hcz44_1
             try clear hcz9_0
             try clear hcz9_1
             try clear hfz12_0
             try clear hfz12_1
             try clear hfz16_0
             try clear hfz16_1
             try clear hfz23_0
             try clear hfz23_1
             try clear hfz26_0
             try clear hfz26_1
             try clear hfz34_0
             try clear hfz34_1
             try clear hfz40_0
             try clear hfz40_1
             try clear hfz44_0
             try clear hfz44_1
             try clear hfz9_0
             try clear hfz9_1
             try clear hx186_0
             try clear hx32_0
             try clear hx38_0
             try clear p1
             try clear p18
             try clear p186
             try clear p2
             try clear p32
             try clear p38
             try clear p6
             try clear q1
             try clear q18
             try clear q186
             try clear q32
             try clear q38
             obtain ⟨x7_3, x8_3, x11_3, rfl, rfl, HA, HK3, HO_7, BK180, BK181, BK191, HB⟩ := hrel
             have hl7_3 := (Kd.R_reads' HO_7.out).1
             rw [hl7_3] at HO_7
             (try simp only [hl7_3])
             (try simp only [hl7_3] at BK180)
             (try simp only [hl7_3] at BK181)
             (try simp only [hl7_3] at BK191)
             cases gk with
             | zero => exact absurd HA.out (by simp [spec_CutRod.l1])
             | succ k3 =>
              have H := HA.out
              clear HA
              simp only [spec_CutRod.l1] at H
              by_cases c48 : x11_3 < (l0_0.length : Int)
              ·
               rw [if_pos c48] at H
               have c48b0 : decide (x11_3 < (l0_0.length : Int)) = true := decide_eq_true c48
               clear c48
               by_cases c49 : 0 ≤ x11_3
               ·
                rw [if_pos c49] at H
                have c49b0 : decide (0 ≤ x11_3) = true := decide_eq_true c49
                clear c49
                by_cases c50 : x11_3 < (x7_3.length : Int)
                ·
                 rw [if_pos c50] at H
                 have c50b0 : decide (x11_3 < (x7_3.length : Int)) = true := decide_eq_true c50
                 clear c50
                 by_cases c51 : (rd x7_3 x11_3) < 0
                 ·
                  rw [if_pos c51] at H
                  have c51b0 : decide ((rd x7_3 x11_3) < 0) = true := decide_eq_true c51
                  clear c51
                  have H' := Aside0.mk H
                  clear H
                  have hnb52 := NB180_181.out
                  have hnc52 := NB181_180.out
                  have hnb53 := NB180_191.out
                  have hnc53 := NB191_180.out
                  obtain ⟨hcz54_0, hfz54_0, hcz54_1, hfz54_1⟩ := cz2 BK180
                  have p193 : 0 ≤ (x11_3 : Int) := of_decide_eq_true (by first | (with_reducible assumption) | assumption)
                  have q193 : x11_3 < (x7_3.length : Int) := of_decide_eq_true (by first | (with_reducible assumption) | assumption)
                  obtain ⟨ad193, e193, hx193_0⟩ := Kd.at_int (Kd.R_reads' HO_7.out).2.2 x11_3 p193 q193
                  obtain rfl : (⟨go38, 0, none⟩ : Addr) = ad193 := (by injection e193)
                  (first | simp only [add_plain] at hx193_0 | simp only [add_at] at hx193_0 | simp only [Addr.add, Nat.zero_add] at hx193_0 | skip)
                  replace p193 := eq_true p193
                  replace q193 := eq_true q193
                  go_wp2
                  (try simp only [← hl7_3])
                  go_roundg k3
                  case measure => have := HJ2.out; have := HK2.out; have := HK3.out; omega
                  case rel => exact ⟨(x7_3), (x8_3), (wrap64 (x11_3 + 1)), (by first | rfl | (simp; done) | (simp [wrap64]; done) | (simp [*]; done)), (by first | rfl | (simp; done) | (simp [wrap64]; done) | (simp [*]; done)), H', ⟨by have := HJ2.out; have := HK2.out; have := HK3.out; omega⟩, ⟨by (try simp only [hl7_3]); (with_reducible repeat (first | apply Kd.R_alloc | apply Kd.R_drewN | apply Kd.R_drew)); exact HO_7.out⟩, ⟨by (try simp only [hl7_3]); (with_reducible repeat (first | refine blk_drewN ?_ _ | refine blk_drew ?_ | refine blk_alloc ?_ _)); exact BK180.out⟩, ⟨by (try simp only [hl7_3]); (with_reducible repeat (first | refine blk_drewN ?_ _ | refine blk_drew ?_ | refine blk_alloc ?_ _)); exact BK181.out⟩, ⟨by (try simp only [hl7_3]); (with_reducible repeat (first | refine blk_drewN ?_ _ | refine blk_drew ?_ | refine blk_alloc ?_ _)); exact BK191.out⟩, ⟨tB HB.out⟩⟩
                 ·
                  rw [if_neg c51] at H
                  have c51b0 : decide ((rd x7_3 x11_3) < 0) = false := decide_eq_false c51
                  clear c51
                  obtain ⟨y194, hy194⟩ : ∃ y_ : List Int, y_ = (x7_3.set (x11_3 : Int).toNat x8_3) := ⟨_, rfl⟩
                  replace H : (spec_CutRod.l2 k3 a1 (rd t183 a1) y194 (wrap64 (x8_3 + 1)) x11_3 0 l0_0 l0_1) = some (r1, r2, r3) := by first | (rw [hy194]; with_reducible exact H) | (have H2_ := (Option.bind_some _ _).symm.trans H; rw [hy194]; with_reducible exact H2_) | (have H2_ := (Option.bind_some _ _).symm.trans H; with_reducible exact H2_) | with_reducible exact H | (rw [hy194]; exact H) | exact H
                  have Ny194 := Aside0.mk hy194
                  clear hy194
                  have H' := Aside0.mk H
                  clear H
                  have hnb56 := NB180_181.out
                  have hnc56 := NB181_180.out
                  have hnb57 := NB180_191.out
                  have hnc57 := NB191_180.out
                  obtain ⟨hcz58_0, hfz58_0, hcz58_1, hfz58_1⟩ := cz2 BK180
                  have p193 : 0 ≤ (x11_3 : Int) := of_decide_eq_true (by first | (with_reducible assumption) | assumption)
                  have q193 : x11_3 < (x7_3.length : Int) := of_decide_eq_true (by first | (with_reducible assumption) | assumption)
                  obtain ⟨ad193, e193, hx193_0⟩ := Kd.at_int (Kd.R_reads' HO_7.out).2.2 x11_3 p193 q193
                  obtain rfl : (⟨go38, 0, none⟩ : Addr) = ad193 := (by injection e193)
                  (first | simp only [add_plain] at hx193_0 | simp only [add_at] at hx193_0 | simp only [Addr.add, Nat.zero_add] at hx193_0 | skip)
                  replace p193 := eq_true p193
                  replace q193 := eq_true q193
                  have p55 : 0 ≤ (x11_3 : Int) := of_decide_eq_true (by first | (with_reducible assumption) | assumption)
                  have q55 : (x11_3 : Int) < ((x7_3.length : Int) : Int) := of_decide_eq_true (by first | (with_reducible assumption) | assumption)
                  obtain ⟨hx55_0, hf55_0⟩ := Kd.R_celln 0 HO_7.out (x11_3 : Int) p55 q55
                  replace p55 := eq_true p55
                  replace q55 := eq_true q55
                  have HP59 := Kd.R_putg HO_7.out (x11_3 : Int) x8_3
                  go_wp2_with (first | ((with_reducible refine gate_store (t := 3) (p := 63) rfl ?_); refine store_event (t := 3) (p := 63) (v := ?vo_w60) (w1 := (wr.setCell ⟨go38, (x11_3 : Int).toNat, none⟩ (.int .i64 x8_3))) ?hg ?ho ?hn ?hr ?_; (case ho => rfl); (case hg => rfl); (case hn => rfl); (case hr => first | (go_simp; done) | (go_simp; rfl)); intro w60 hw; have hg : wr.grownBy w60 (some go38) := (by rw [hw]; exact HP59.2); have hp_ : Kd.R (Kd.int .i64) 3 w60 w.heap.size (fun _ => True) (.slice (some ⟨go38, 0, none⟩) x7_3.length co38) y194 := (by rw [hw, Ny194.out]; exact HP59.1); clear HP59; replace BK180 := Aside0.mk (blk_grown (g := gb180) (o := .cells #[.slice A0_0 l0_0.length c0_0, .slice A0_1 l0_1.length c0_1] 27 (0, 0)) (tK BK180.out) hg (Kd.R_ne HO_7.out BK180.out (by decide))); replace BK181 := Aside0.mk (blk_grown (g := gb181) (o := .cells #[.slice none 0 0, .slice none 0 0] 27 (0, 0)) (tK BK181.out) hg (Kd.R_ne HO_7.out BK181.out (by decide))); replace BK191 := Aside0.mk (blk_grown (g := gb191) (o := .cells #[.slice none 0 0, .slice none 0 0] 27 (0, 0)) (tK BK191.out) hg (Kd.R_ne HO_7.out BK191.out (by decide))); replace HO_7 := Aside0.mk (hp_); replace HB := Aside0.mk ((by rw [hw]; exact below_set (HB.out) GB38.out : Below w.heap.size w w60)); clear hg hw hp_))
                  go_loopg [12] k3 (fun kq v12 w' => ∃ (x7_4 : List Int) (x12_4 : Int), v12 = .int .i64 x12_4 ∧ Aside0 (spec_CutRod.l2 kq a1 (rd t183 a1) x7_4 (wrap64 (x8_3 + 1)) x11_3 x12_4 l0_0 l0_1 = some (r1, r2, r3)) ∧ Aside0 (kq ≤ k3) ∧ Aside0 (Kd.R (Kd.int .i64) 3 w' w.heap.size (fun _ => True) (.slice (some ⟨go38, 0, none⟩) x7_3.length co38) x7_4) ∧ Aside0 (w'.heap[gb180]? = some (.cells #[(.slice A0_0 l0_0.length c0_0), (.slice A0_1 l0_1.length c0_1)] 27 (0, 0))) ∧ Aside0 (w'.heap[gb181]? = some (.cells #[(.slice none 0 0), (.slice none 0 0)] 27 (0, 0))) ∧ Aside0 (w'.heap[gb191]? = some (.cells #[(.slice none 0 0), (.slice none 0 0)] 27 (0, 0))) ∧ Aside0 (Below w.heap.size w w'))
                  case atStart => exact ⟨(y194), (0), (by first | rfl | (simp; done) | (simp [wrap64]; done) | (simp [*]; done)), H', ⟨Nat.le_refl _⟩, ⟨by (try simp only [hl7_3]); (with_reducible repeat (first | apply Kd.R_alloc | apply Kd.R_drewN | apply Kd.R_drew)); exact HO_7.out⟩, ⟨by (try simp only [hl7_3]); (with_reducible repeat (first | refine blk_drewN ?_ _ | refine blk_drew ?_ | refine blk_alloc ?_ _)); exact BK180.out⟩, ⟨by (try simp only [hl7_3]); (with_reducible repeat (first | refine blk_drewN ?_ _ | refine blk_drew ?_ | refine blk_alloc ?_ _)); exact BK181.out⟩, ⟨by (try simp only [hl7_3]); (with_reducible repeat (first | refine blk_drewN ?_ _ | refine blk_drew ?_ | refine blk_alloc ?_ _)); exact BK191.out⟩, ⟨tB HB.out⟩⟩
                  case round =>
                   clear H'
                   try clear c1
                   try clear p1
                   try clear q1
                   try clear hx1
                   try clear c2
                   try clear p2
                   try clear c3
                   try clear p3
                   try clear q3
                   try clear hx3
                   try clear qi3
                   try clear hf3
                   try clear c4
                   try clear c5
                   try clear p5
                   try clear q5
                   try clear hx5
                   try clear hf5
                   try clear c6
                   try clear p6
                   try clear c7
                   try clear c8
                   try clear c11
                   try clear c14
                   try clear c15
                   try clear c18
                   try clear c18b0
                   try clear p18
                   try clear q18
                   try clear hx18
                   try clear c19
                   try clear c19b0
                   try clear p19
                   try clear q19
                   try clear hx19
                   try clear c20
                   try clear c20b0
                   try clear c20b1
                   try clear c21
                   try clear c21b0
                   try clear c21b1
                   try clear c22
                   try clear c29
                   try clear c29b0
                   try clear c30
                   try clear c30b0
                   try clear c31
                   try clear c31b0
                   try clear p32
                   try clear q32
                   try clear hx32
                   try clear hf32
                   try clear c33
                   try clear c37
                   try clear c37b0
                   try clear c37b1
                   try clear p38
                   try clear q38
                   try clear hx38
                   try clear qi38
                   try clear hf38
                   try clear c39
                   try clear c42
                   try clear c43
                   try clear c47
                   try clear c48
                   try clear c48b0
                   try clear c49
                   try clear c49b0
                   try clear c50
                   try clear c50b0
                   try clear c51
                   try clear c51b0
                   try clear c52
                   try clear c53
                   try clear p55
                   try clear q55
                   try clear hx55
                   try clear hf55
                   try clear c56
                   try clear c57
                   try clear c59
                   try clear hcz12_0
                   try clear hcz12_1
                   try clear hcz16_0
                   try clear hcz16_1
                   try clear hcz23_0
                   try clear hcz23_1
                   try clear hcz26_0
                   try clear hcz26_1
                   try clear hcz34_0
                   try clear hcz34_1
                   try clear hcz40_0
                   try clear hcz40_1
                   try clear hcz44_0
                   try clear hcz44_1
                   try clear hcz54_0
                   try clear hcz54_1
                   try clear hcz58_0
                   try clear hcz58_1
                   try clear hcz9_0
                   try clear hcz9_1
                   try clear hfz12_0
                   try clear hfz12_1
                   try clear hfz16_0
                   try clear hfz16_1
                   try clear hfz23_0
                   try clear hfz23_1
                   try clear hfz26_0
                   try clear hfz26_1
                   try clear hfz34_0
                   try clear hfz34_1
                   try clear hfz40_0
                   try clear hfz40_1
                   try clear hfz44_0
                   try clear hfz44_1
                   try clear hfz54_0
                   try clear hfz54_1
                   try clear hfz58_0
                   try clear hfz58_1
                   try clear hfz9_0
                   try clear hfz9_1
                   try clear hx186_0
                   try clear hx193_0
                   try clear hx32_0
                   try clear hx38_0
                   try clear hx55_0
                   try clear p1
                   try clear p18
                   try clear p186
                   try clear p193
                   try clear p2
                   try clear p3
                   try clear p32
                   try clear p38
                   try clear p55
                   try clear p6
                   try clear q1
                   try clear q18
                   try clear q186
                   try clear q193
                   try clear q3
                   try clear q32
                   try clear q38
                   try clear q55
                   obtain ⟨x7_4, x12_4, rfl, HA, HK4, HO_7, BK180, BK181, BK191, HB⟩ := hrel
                   have hl7_4 := (Kd.R_reads' HO_7.out).1
                   rw [hl7_4] at HO_7
                   (try simp only [hl7_4])
                   (try simp only [hl7_4] at BK180)
                   (try simp only [hl7_4] at BK181)
                   (try simp only [hl7_4] at BK191)
                   cases gk with
                   | zero => exact absurd HA.out (by simp [spec_CutRod.l2])
                   | succ k4 =>
                    have H := HA.out
                    clear HA
                    simp only [spec_CutRod.l2] at H
                    by_cases c61 : x12_4 < 2
                    ·
                     rw [if_pos c61] at H
                     have c61b0 : decide (x12_4 < 2) = true := decide_eq_true c61
                     clear c61
                     by_cases c62 : 0 ≤ x11_3
                     ·
                      rw [if_pos c62] at H
                      have c62b0 : decide (0 ≤ x11_3) = true := decide_eq_true c62
                      clear c62
                      by_cases c63 : x11_3 < (l0_1.length : Int)
                      ·
                       rw [if_pos c63] at H
                       have c63b0 : decide (x11_3 < (l0_1.length : Int)) = true := decide_eq_true c63
                       clear c63
                       by_cases c64 : x12_4 = 0
                       ·
                        subst c64
                        have H1 : (if ((rd_T58 l0_1 x11_3).f0) < 0 then (if (wrap64 (-((rd_T58 l0_1 x11_3).f0))) = a1 then (spec_CutRod.l2 k4 a1 (rd t183 a1) x7_4 (wrap64 (x8_3 + 1)) x11_3 (wrap64 (0 + 1)) l0_0 l0_1) else (if 0 ≤ (wrap64 (-((rd_T58 l0_1 x11_3).f0))) then (if (wrap64 (-((rd_T58 l0_1 x11_3).f0))) < (x7_4.length : Int) then (spec_CutRod.l2 k4 a1 (rd t183 a1) (x7_4.set ((wrap64 (-((rd_T58 l0_1 x11_3).f0))) : Int).toNat 0) (wrap64 (x8_3 + 1)) x11_3 (wrap64 (0 + 1)) l0_0 l0_1) else (none)) else (none))) else (spec_CutRod.l2 k4 a1 (rd t183 a1) x7_4 (wrap64 (x8_3 + 1)) x11_3 (wrap64 (0 + 1)) l0_0 l0_1)) = some (r1, r2, r3) := by rw [if_pos rfl] at H; exact H
                        clear H
                        have H := H1
                        clear H1
                        by_cases c65 : ((rd_T58 l0_1 x11_3).f0) < 0
                        ·
                         rw [if_pos c65] at H
                         have c65b0 : decide (((rd_T58 l0_1 x11_3).f0) < 0) = true := decide_eq_true c65
                         clear c65
                         by_cases c66 : (wrap64 (-((rd_T58 l0_1 x11_3).f0))) = a1
                         ·
                          rw [if_pos c66] at H
                          have c66b0 : ((wrap64 (-((rd_T58 l0_1 x11_3).f0))) == a1) = true := beq_iff_eq.mpr c66
                          have c66b1 : ((wrap64 (-((rd_T58 l0_1 x11_3).f0))) != a1) = false := bne_eq_false_iff_eq.mpr c66
                          clear c66
                          have H' := Aside0.mk H
                          clear H
                          have hnb67 := NB180_181.out
                          have hnc67 := NB181_180.out
                          have hnb68 := NB180_191.out
                          have hnc68 := NB191_180.out
                          obtain ⟨hcz69_0, hfz69_0, hcz69_1, hfz69_1⟩ := cz2 BK180
                          have p195 : 0 ≤ (x11_3 : Int) := of_decide_eq_true (by first | (with_reducible assumption) | assumption)
                          have q195 : x11_3 < (l0_1.length : Int) := of_decide_eq_true (by first | (with_reducible assumption) | assumption)
                          obtain ⟨ad195, e195, hx195_0, hx195_1⟩ := at_T58 HR0_1.out x11_3 p195 q195
                          cases e195
                          replace hx195_0 := (HB.out.cell (World.block_lt_of_cell? w _ hx195_0)).trans hx195_0
                          replace hx195_1 := (HB.out.cell (World.block_lt_of_cell? w _ hx195_1)).trans hx195_1
                          replace p195 := eq_true p195
                          replace q195 := eq_true q195
                          go_wp2
                          (try simp only [← hl7_4])
                          go_roundg k4
                          case measure => have := HJ2.out; have := HK2.out; have := HK3.out; have := HK4.out; omega
                          case rel => exact ⟨(x7_4), (wrap64 (0 + 1)), (by first | rfl | (simp; done) | (simp [wrap64]; done) | (simp [*]; done)), H', ⟨by have := HJ2.out; have := HK2.out; have := HK3.out; have := HK4.out; omega⟩, ⟨by (try simp only [hl7_3]); (try simp only [hl7_4]); (with_reducible repeat (first | apply Kd.R_alloc | apply Kd.R_drewN | apply Kd.R_drew)); exact HO_7.out⟩, ⟨by (try simp only [hl7_3]); (try simp only [hl7_4]); (with_reducible repeat (first | refine blk_drewN ?_ _ | refine blk_drew ?_ | refine blk_alloc ?_ _)); exact BK180.out⟩, ⟨by (try simp only [hl7_3]); (try simp only [hl7_4]); (with_reducible repeat (first | refine blk_drewN ?_ _ | refine blk_drew ?_ | refine blk_alloc ?_ _)); exact BK181.out⟩, ⟨by (try simp only [hl7_3]); (try simp only [hl7_4]); (with_reducible repeat (first | refine blk_drewN ?_ _ | refine blk_drew ?_ | refine blk_alloc ?_ _)); exact BK191.out⟩, ⟨tB HB.out⟩⟩
                         ·
                          rw [if_neg c66] at H
                          have c66b0 : ((wrap64 (-((rd_T58 l0_1 x11_3).f0))) == a1) = false := beq_eq_false_iff_ne.mpr c66
                          have c66b1 : ((wrap64 (-((rd_T58 l0_1 x11_3).f0))) != a1) = true := bne_iff_ne.mpr c66
                          obtain ⟨ji70, hji70⟩ : ∃ j_ : Int, (wrap64 (-((rd_T58 l0_1 x11_3).f0))) = j_ := ⟨_, rfl⟩
                          replace H : (if 0 ≤ (ji70) then (if (ji70) < (x7_4.length : Int) then (spec_CutRod.l2 k4 a1 (rd t183 a1) (x7_4.set ((ji70) : Int).toNat 0) (wrap64 (x8_3 + 1)) x11_3 (wrap64 (0 + 1)) l0_0 l0_1) else (none)) else (none)) = some (r1, r2, r3) := by first | (rw [hji70] at H; exact H) | (simp only [hji70] at H ⊢; exact H)
                          (try rw [hji70] at c66b0)
                          (try rw [hji70] at c66b1)
                          have hji70w : (IntKind.i64.wrap (-((rd_T58 l0_1 x11_3).f0))) = ji70 := (i64_w _).trans hji70
                          by_cases c71 : 0 ≤ (ji70)
                          ·
                           rw [if_pos c71] at H
                           have c71b0 : decide (0 ≤ (ji70)) = true := decide_eq_true c71
                           clear c71
                           by_cases c72 : (ji70) < (x7_4.length : Int)
                           ·
                            rw [if_pos c72] at H
                            have c72b0 : decide ((ji70) < (x7_4.length : Int)) = true := decide_eq_true c72
                            clear c72
                            obtain ⟨y196, hy196⟩ : ∃ y_ : List Int, y_ = (x7_4.set ((ji70) : Int).toNat 0) := ⟨_, rfl⟩
                            replace H : (spec_CutRod.l2 k4 a1 (rd t183 a1) y196 (wrap64 (x8_3 + 1)) x11_3 (wrap64 (0 + 1)) l0_0 l0_1) = some (r1, r2, r3) := by first | (rw [hy196]; with_reducible exact H) | (have H2_ := (Option.bind_some _ _).symm.trans H; rw [hy196]; with_reducible exact H2_) | (have H2_ := (Option.bind_some _ _).symm.trans H; with_reducible exact H2_) | with_reducible exact H | (rw [hy196]; exact H) | exact H
                            have Ny196 := Aside0.mk hy196
                            clear hy196
                            have H' := Aside0.mk H
                            clear H
                            have hnb74 := NB180_181.out
                            have hnc74 := NB181_180.out
                            have hnb75 := NB180_191.out
                            have hnc75 := NB191_180.out
                            obtain ⟨hcz76_0, hfz76_0, hcz76_1, hfz76_1⟩ := cz2 BK180
                            have p195 : 0 ≤ (x11_3 : Int) := of_decide_eq_true (by first | (with_reducible assumption) | assumption)
                            have q195 : x11_3 < (l0_1.length : Int) := of_decide_eq_true (by first | (with_reducible assumption) | assumption)
                            obtain ⟨ad195, e195, hx195_0, hx195_1⟩ := at_T58 HR0_1.out x11_3 p195 q195
                            cases e195
                            replace hx195_0 := (HB.out.cell (World.block_lt_of_cell? w _ hx195_0)).trans hx195_0
                            replace hx195_1 := (HB.out.cell (World.block_lt_of_cell? w _ hx195_1)).trans hx195_1
                            replace p195 := eq_true p195
                            replace q195 := eq_true q195
                            have p73 : 0 ≤ ((ji70) : Int) := of_decide_eq_true (by first | (with_reducible assumption) | assumption)
                            have q73 : ((ji70) : Int) < ((x7_4.length : Int) : Int) := of_decide_eq_true (by first | (with_reducible assumption) | assumption)
                            obtain ⟨hx73_0, hf73_0⟩ := Kd.R_celln 0 HO_7.out ((ji70) : Int) p73 q73
                            replace p73 := eq_true p73
                            replace q73 := eq_true q73
                            have HP77 := Kd.R_putg HO_7.out ((ji70) : Int) 0
                            go_wp2_with (first | ((with_reducible refine gate_store (t := 3) (p := 88) rfl ?_); refine store_event (t := 3) (p := 88) (v := ?vo_w78) (w1 := (wr.setCell ⟨go38, ((ji70) : Int).toNat, none⟩ (.int .i64 0))) ?hg ?ho ?hn ?hr ?_; (case ho => rfl); (case hg => rfl); (case hn => rfl); (case hr => first | (go_simp; done) | (go_simp; rfl)); intro w78 hw; have hg : wr.grownBy w78 (some go38) := (by rw [hw]; exact HP77.2); have hp_ : Kd.R (Kd.int .i64) 3 w78 w.heap.size (fun _ => True) (.slice (some ⟨go38, 0, none⟩) x7_4.length co38) y196 := (by rw [hw, Ny196.out]; exact HP77.1); clear HP77; replace BK180 := Aside0.mk (blk_grown (g := gb180) (o := .cells #[.slice A0_0 l0_0.length c0_0, .slice (some ad195) l0_1.length c0_1] 27 (0, 0)) (tK BK180.out) hg (Kd.R_ne HO_7.out BK180.out (by decide))); replace BK181 := Aside0.mk (blk_grown (g := gb181) (o := .cells #[.slice none 0 0, .slice none 0 0] 27 (0, 0)) (tK BK181.out) hg (Kd.R_ne HO_7.out BK181.out (by decide))); replace BK191 := Aside0.mk (blk_grown (g := gb191) (o := .cells #[.slice none 0 0, .slice none 0 0] 27 (0, 0)) (tK BK191.out) hg (Kd.R_ne HO_7.out BK191.out (by decide))); replace HO_7 := Aside0.mk (hp_); replace HB := Aside0.mk ((by rw [hw]; exact below_set (HB.out) GB38.out : Below w.heap.size w w78)); clear hg hw hp_))
                            (try simp only [← hl7_4])
                            go_roundg k4
                            case measure => have := HJ2.out; have := HK2.out; have := HK3.out; have := HK4.out; omega
                            case rel => exact ⟨(y196), (wrap64 (0 + 1)), (by first | rfl | (simp; done) | (simp [wrap64]; done) | (simp [*]; done)), H', ⟨by have := HJ2.out; have := HK2.out; have := HK3.out; have := HK4.out; omega⟩, ⟨by (try simp only [hl7_3]); (try simp only [hl7_4]); (with_reducible repeat (first | apply Kd.R_alloc | apply Kd.R_drewN | apply Kd.R_drew)); exact HO_7.out⟩, ⟨by (try simp only [hl7_3]); (try simp only [hl7_4]); (with_reducible repeat (first | refine blk_drewN ?_ _ | refine blk_drew ?_ | refine blk_alloc ?_ _)); exact BK180.out⟩, ⟨by (try simp only [hl7_3]); (try simp only [hl7_4]); (with_reducible repeat (first | refine blk_drewN ?_ _ | refine blk_drew ?_ | refine blk_alloc ?_ _)); exact BK181.out⟩, ⟨by (try simp only [hl7_3]); (try simp only [hl7_4]); (with_reducible repeat (first | refine blk_drewN ?_ _ | refine blk_drew ?_ | refine blk_alloc ?_ _)); exact BK191.out⟩, ⟨tB HB.out⟩⟩
                           ·
                            rw [if_neg c72] at H
                            exact absurd H (by simp)
                          ·
                           rw [if_neg c71] at H
                           exact absurd H (by simp)
                        ·
                         rw [if_neg c65] at H
                         have c65b0 : decide (((rd_T58 l0_1 x11_3).f0) < 0) = false := decide_eq_false c65
                         clear c65
                         have H' := Aside0.mk H
                         clear H
                         have hnb79 := NB180_181.out
                         have hnc79 := NB181_180.out
                         have hnb80 := NB180_191.out
                         have hnc80 := NB191_180.out
                         obtain ⟨hcz81_0, hfz81_0, hcz81_1, hfz81_1⟩ := cz2 BK180
                         have p195 : 0 ≤ (x11_3 : Int) := of_decide_eq_true (by first | (with_reducible assumption) | assumption)
                         have q195 : x11_3 < (l0_1.length : Int) := of_decide_eq_true (by first | (with_reducible assumption) | assumption)
                         obtain ⟨ad195, e195, hx195_0, hx195_1⟩ := at_T58 HR0_1.out x11_3 p195 q195
                         cases e195
                         replace hx195_0 := (HB.out.cell (World.block_lt_of_cell? w _ hx195_0)).trans hx195_0
                         replace hx195_1 := (HB.out.cell (World.block_lt_of_cell? w _ hx195_1)).trans hx195_1
                         replace p195 := eq_true p195
                         replace q195 := eq_true q195
                         go_wp2
                         (try simp only [← hl7_4])
                         go_roundg k4
                         case measure => have := HJ2.out; have := HK2.out; have := HK3.out; have := HK4.out; omega
                         case rel => exact ⟨(x7_4), (wrap64 (0 + 1)), (by first | rfl | (simp; done) | (simp [wrap64]; done) | (simp [*]; done)), H', ⟨by have := HJ2.out; have := HK2.out; have := HK3.out; have := HK4.out; omega⟩, ⟨by (try simp only [hl7_3]); (try simp only [hl7_4]); (with_reducible repeat (first | apply Kd.R_alloc | apply Kd.R_drewN | apply Kd.R_drew)); exact HO_7.out⟩, ⟨by (try simp only [hl7_3]); (try simp only [hl7_4]); (with_reducible repeat (first | refine blk_drewN ?_ _ | refine blk_drew ?_ | refine blk_alloc ?_ _)); exact BK180.out⟩, ⟨by (try simp only [hl7_3]); (try simp only [hl7_4]); (with_reducible repeat (first | refine blk_drewN ?_ _ | refine blk_drew ?_ | refine blk_alloc ?_ _)); exact BK181.out⟩, ⟨by (try simp only [hl7_3]); (try simp only [hl7_4]); (with_reducible repeat (first | refine blk_drewN ?_ _ | refine blk_drew ?_ | refine blk_alloc ?_ _)); exact BK191.out⟩, ⟨tB HB.out⟩⟩
                       ·
                        rw [if_neg c64] at H
                        have c64b0 : (x12_4 == 0) = false := beq_eq_false_iff_ne.mpr c64
                        have c64b1 : (x12_4 != 0) = true := bne_iff_ne.mpr c64
                        by_cases c82 : x12_4 = 1
                        ·
                         subst c82
                         have H1 : (if ((rd_T58 l0_1 x11_3).f1) < 0 then (if (wrap64 (-((rd_T58 l0_1 x11_3).f1))) = a1 then (spec_CutRod.l2 k4 a1 (rd t183 a1) x7_4 (wrap64 (x8_3 + 1)) x11_3 (wrap64 (1 + 1)) l0_0 l0_1) else (if 0 ≤ (wrap64 (-((rd_T58 l0_1 x11_3).f1))) then (if (wrap64 (-((rd_T58 l0_1 x11_3).f1))) < (x7_4.length : Int) then (spec_CutRod.l2 k4 a1 (rd t183 a1) (x7_4.set ((wrap64 (-((rd_T58 l0_1 x11_3).f1))) : Int).toNat 0) (wrap64 (x8_3 + 1)) x11_3 (wrap64 (1 + 1)) l0_0 l0_1) else (none)) else (none))) else (spec_CutRod.l2 k4 a1 (rd t183 a1) x7_4 (wrap64 (x8_3 + 1)) x11_3 (wrap64 (1 + 1)) l0_0 l0_1)) = some (r1, r2, r3) := by rw [if_pos rfl] at H; exact H
                         clear H
                         have H := H1
                         clear H1
                         by_cases c83 : ((rd_T58 l0_1 x11_3).f1) < 0
                         ·
                          rw [if_pos c83] at H
                          have c83b0 : decide (((rd_T58 l0_1 x11_3).f1) < 0) = true := decide_eq_true c83
                          clear c83
                          by_cases c84 : (wrap64 (-((rd_T58 l0_1 x11_3).f1))) = a1
                          ·
                           rw [if_pos c84] at H
                           have c84b0 : ((wrap64 (-((rd_T58 l0_1 x11_3).f1))) == a1) = true := beq_iff_eq.mpr c84
                           have c84b1 : ((wrap64 (-((rd_T58 l0_1 x11_3).f1))) != a1) = false := bne_eq_false_iff_eq.mpr c84
                           clear c84
                           have H' := Aside0.mk H
                           clear H
                           have hnb85 := NB180_181.out
                           have hnc85 := NB181_180.out
                           have hnb86 := NB180_191.out
                           have hnc86 := NB191_180.out
                           obtain ⟨hcz87_0, hfz87_0, hcz87_1, hfz87_1⟩ := cz2 BK180
                           have p195 : 0 ≤ (x11_3 : Int) := of_decide_eq_true (by first | (with_reducible assumption) | assumption)
                           have q195 : x11_3 < (l0_1.length : Int) := of_decide_eq_true (by first | (with_reducible assumption) | assumption)
                           obtain ⟨ad195, e195, hx195_0, hx195_1⟩ := at_T58 HR0_1.out x11_3 p195 q195
                           cases e195
                           replace hx195_0 := (HB.out.cell (World.block_lt_of_cell? w _ hx195_0)).trans hx195_0
                           replace hx195_1 := (HB.out.cell (World.block_lt_of_cell? w _ hx195_1)).trans hx195_1
                           replace p195 := eq_true p195
                           replace q195 := eq_true q195
                           go_wp2
                           (try simp only [← hl7_4])
                           go_roundg k4
                           case measure => have := HJ2.out; have := HK2.out; have := HK3.out; have := HK4.out; omega
                           case rel => exact ⟨(x7_4), (wrap64 (1 + 1)), (by first | rfl | (simp; done) | (simp [wrap64]; done) | (simp [*]; done)), H', ⟨by have := HJ2.out; have := HK2.out; have := HK3.out; have := HK4.out; omega⟩, ⟨by (try simp only [hl7_3]); (try simp only [hl7_4]); (with_reducible repeat (first | apply Kd.R_alloc | apply Kd.R_drewN | apply Kd.R_drew)); exact HO_7.out⟩, ⟨by (try simp only [hl7_3]); (try simp only [hl7_4]); (with_reducible repeat (first | refine blk_drewN ?_ _ | refine blk_drew ?_ | refine blk_alloc ?_ _)); exact BK180.out⟩, ⟨by (try simp only [hl7_3]); (try simp only [hl7_4]); (with_reducible repeat (first | refine blk_drewN ?_ _ | refine blk_drew ?_ | refine blk_alloc ?_ _)); exact BK181.out⟩, ⟨by (try simp only [hl7_3]); (try simp only [hl7_4]); (with_reducible repeat (first | refine blk_drewN ?_ _ | refine blk_drew ?_ | refine blk_alloc ?_ _)); exact BK191.out⟩, ⟨tB HB.out⟩⟩
                          ·
                           rw [if_neg c84] at H
                           have c84b0 : ((wrap64 (-((rd_T58 l0_1 x11_3).f1))) == a1) = false := beq_eq_false_iff_ne.mpr c84
                           have c84b1 : ((wrap64 (-((rd_T58 l0_1 x11_3).f1))) != a1) = true := bne_iff_ne.mpr c84
                           obtain ⟨ji88, hji88⟩ : ∃ j_ : Int, (wrap64 (-((rd_T58 l0_1 x11_3).f1))) = j_ := ⟨_, rfl⟩
                           replace H : (if 0 ≤ (ji88) then (if (ji88) < (x7_4.length : Int) then (spec_CutRod.l2 k4 a1 (rd t183 a1) (x7_4.set ((ji88) : Int).toNat 0) (wrap64 (x8_3 + 1)) x11_3 (wrap64 (1 + 1)) l0_0 l0_1) else (none)) else (none)) = some (r1, r2, r3) := by first | (rw [hji88] at H; exact H) | (simp only [hji88] at H ⊢; exact H)
                           (try rw [hji88] at c84b0)
                           (try rw [hji88] at c84b1)
                           have hji88w : (IntKind.i64.wrap (-((rd_T58 l0_1 x11_3).f1))) = ji88 := (i64_w _).trans hji88
                           by_cases c89 : 0 ≤ (ji88)
                           ·
                            rw [if_pos c89] at H
                            have c89b0 : decide (0 ≤ (ji88)) = true := decide_eq_true c89
                            clear c89
                            by_cases c90 : (ji88) < (x7_4.length : Int)
                            ·
                             rw [if_pos c90] at H
                             have c90b0 : decide ((ji88) < (x7_4.length : Int)) = true := decide_eq_true c90
                             clear c90
                             obtain ⟨y197, hy197⟩ : ∃ y_ : List Int, y_ = (x7_4.set ((ji88) : Int).toNat 0) := ⟨_, rfl⟩
                             replace H : (spec_CutRod.l2 k4 a1 (rd t183 a1) y197 (wrap64 (x8_3 + 1)) x11_3 (wrap64 (1 + 1)) l0_0 l0_1) = some (r1, r2, r3) := by first | (rw [hy197]; with_reducible exact H) | (have H2_ := (Option.bind_some _ _).symm.trans H; rw [hy197]; with_reducible exact H2_) | (have H2_ := (Option.bind_some _ _).symm.trans H; with_reducible exact H2_) | with_reducible exact H | (rw [hy197]; exact H) | exact H
                             have Ny197 := Aside0.mk hy197
                             clear hy197
                             have H' := Aside0.mk H
                             clear H
                             have hnb92 := NB180_181.out
                             have hnc92 := NB181_180.out
                             have hnb93 := NB180_191.out
                             have hnc93 := NB191_180.out
                             obtain ⟨hcz94_0, hfz94_0, hcz94_1, hfz94_1⟩ := cz2 BK180
                             have p195 : 0 ≤ (x11_3 : Int) := of_decide_eq_true (by first | (with_reducible assumption) | assumption)
                             have q195 : x11_3 < (l0_1.length : Int) := of_decide_eq_true (by first | (with_reducible assumption) | assumption)
                             obtain ⟨ad195, e195, hx195_0, hx195_1⟩ := at_T58 HR0_1.out x11_3 p195 q195
                             cases e195
                             replace hx195_0 := (HB.out.cell (World.block_lt_of_cell? w _ hx195_0)).trans hx195_0
                             replace hx195_1 := (HB.out.cell (World.block_lt_of_cell? w _ hx195_1)).trans hx195_1
                             replace p195 := eq_true p195
                             replace q195 := eq_true q195
                             have p91 : 0 ≤ ((ji88) : Int) := of_decide_eq_true (by first | (with_reducible assumption) | assumption)
                             have q91 : ((ji88) : Int) < ((x7_4.length : Int) : Int) := of_decide_eq_true (by first | (with_reducible assumption) | assumption)
                             obtain ⟨hx91_0, hf91_0⟩ := Kd.R_celln 0 HO_7.out ((ji88) : Int) p91 q91
                             replace p91 := eq_true p91
                             replace q91 := eq_true q91
                             have HP95 := Kd.R_putg HO_7.out ((ji88) : Int) 0
                             go_wp2_with (first | ((with_reducible refine gate_store (t := 3) (p := 88) rfl ?_); refine store_event (t := 3) (p := 88) (v := ?vo_w96) (w1 := (wr.setCell ⟨go38, ((ji88) : Int).toNat, none⟩ (.int .i64 0))) ?hg ?ho ?hn ?hr ?_; (case ho => rfl); (case hg => rfl); (case hn => rfl); (case hr => first | (go_simp; done) | (go_simp; rfl)); intro w96 hw; have hg : wr.grownBy w96 (some go38) := (by rw [hw]; exact HP95.2); have hp_ : Kd.R (Kd.int .i64) 3 w96 w.heap.size (fun _ => True) (.slice (some ⟨go38, 0, none⟩) x7_4.length co38) y197 := (by rw [hw, Ny197.out]; exact HP95.1); clear HP95; replace BK180 := Aside0.mk (blk_grown (g := gb180) (o := .cells #[.slice A0_0 l0_0.length c0_0, .slice (some ad195) l0_1.length c0_1] 27 (0, 0)) (tK BK180.out) hg (Kd.R_ne HO_7.out BK180.out (by decide))); replace BK181 := Aside0.mk (blk_grown (g := gb181) (o := .cells #[.slice none 0 0, .slice none 0 0] 27 (0, 0)) (tK BK181.out) hg (Kd.R_ne HO_7.out BK181.out (by decide))); replace BK191 := Aside0.mk (blk_grown (g := gb191) (o := .cells #[.slice none 0 0, .slice none 0 0] 27 (0, 0)) (tK BK191.out) hg (Kd.R_ne HO_7.out BK191.out (by decide))); replace HO_7 := Aside0.mk (hp_); replace HB := Aside0.mk ((by rw [hw]; exact below_set (HB.out) GB38.out : Below w.heap.size w w96)); clear hg hw hp_))
                             (try simp only [← hl7_4])
                             go_roundg k4
                             case measure => have := HJ2.out; have := HK2.out; have := HK3.out; have := HK4.out; omega
                             case rel => exact ⟨(y197), (wrap64 (1 + 1)), (by first | rfl | (simp; done) | (simp [wrap64]; done) | (simp [*]; done)), H', ⟨by have := HJ2.out; have := HK2.out; have := HK3.out; have := HK4.out; omega⟩, ⟨by (try simp only [hl7_3]); (try simp only [hl7_4]); (with_reducible repeat (first | apply Kd.R_alloc | apply Kd.R_drewN | apply Kd.R_drew)); exact HO_7.out⟩, ⟨by (try simp only [hl7_3]); (try simp only [hl7_4]); (with_reducible repeat (first | refine blk_drewN ?_ _ | refine blk_drew ?_ | refine blk_alloc ?_ _)); exact BK180.out⟩, ⟨by (try simp only [hl7_3]); (try simp only [hl7_4]); (with_reducible repeat (first | refine blk_drewN ?_ _ | refine blk_drew ?_ | refine blk_alloc ?_ _)); exact BK181.out⟩, ⟨by (try simp only [hl7_3]); (try simp only [hl7_4]); (with_reducible repeat (first | refine blk_drewN ?_ _ | refine blk_drew ?_ | refine blk_alloc ?_ _)); exact BK191.out⟩, ⟨tB HB.out⟩⟩
                            ·
                             rw [if_neg c90] at H
                             exact absurd H (by simp)
                           ·
                            rw [if_neg c89] at H
                            exact absurd H (by simp)
                         ·
                          rw [if_neg c83] at H
                          have c83b0 : decide (((rd_T58 l0_1 x11_3).f1) < 0) = false := decide_eq_false c83
                          clear c83
                          have H' := Aside0.mk H
                          clear H
                          have hnb97 := NB180_181.out
                          have hnc97 := NB181_180.out
                          have hnb98 := NB180_191.out
                          have hnc98 := NB191_180.out
                          obtain ⟨hcz99_0, hfz99_0, hcz99_1, hfz99_1⟩ := cz2 BK180
                          have p195 : 0 ≤ (x11_3 : Int) := of_decide_eq_true (by first | (with_reducible assumption) | assumption)
                          have q195 : x11_3 < (l0_1.length : Int) := of_decide_eq_true (by first | (with_reducible assumption) | assumption)
                          obtain ⟨ad195, e195, hx195_0, hx195_1⟩ := at_T58 HR0_1.out x11_3 p195 q195
                          cases e195
                          replace hx195_0 := (HB.out.cell (World.block_lt_of_cell? w _ hx195_0)).trans hx195_0
                          replace hx195_1 := (HB.out.cell (World.block_lt_of_cell? w _ hx195_1)).trans hx195_1
                          replace p195 := eq_true p195
                          replace q195 := eq_true q195
                          go_wp2
                          (try simp only [← hl7_4])
                          go_roundg k4
                          case measure => have := HJ2.out; have := HK2.out; have := HK3.out; have := HK4.out; omega
                          case rel => exact ⟨(x7_4), (wrap64 (1 + 1)), (by first | rfl | (simp; done) | (simp [wrap64]; done) | (simp [*]; done)), H', ⟨by have := HJ2.out; have := HK2.out; have := HK3.out; have := HK4.out; omega⟩, ⟨by (try simp only [hl7_3]); (try simp only [hl7_4]); (with_reducible repeat (first | apply Kd.R_alloc | apply Kd.R_drewN | apply Kd.R_drew)); exact HO_7.out⟩, ⟨by (try simp only [hl7_3]); (try simp only [hl7_4]); (with_reducible repeat (first | refine blk_drewN ?_ _ | refine blk_drew ?_ | refine blk_alloc ?_ _)); exact BK180.out⟩, ⟨by (try simp only [hl7_3]); (try simp only [hl7_4]); (with_reducible repeat (first | refine blk_drewN ?_ _ | refine blk_drew ?_ | refine blk_alloc ?_ _)); exact BK181.out⟩, ⟨by (try simp only [hl7_3]); (try simp only [hl7_4]); (with_reducible repeat (first | refine blk_drewN ?_ _ | refine blk_drew ?_ | refine blk_alloc ?_ _)); exact BK191.out⟩, ⟨tB HB.out⟩⟩
                        ·
                         rw [if_neg c82] at H
                         exact absurd H (by simp)
                      ·
                       rw [if_neg c63] at H
                       exact absurd H (by simp)
                     ·
                      rw [if_neg c62] at H
                      exact absurd H (by simp)
                    ·
                     rw [if_neg c61] at H
                     have c61b0 : decide (x12_4 < 2) = false := decide_eq_false c61
                     clear c61
                     have H' := Aside0.mk H
                     clear H
                     go_wp2
                     (try simp only [← hl7_3, ← hl7_4])
                     go_roundg k4
                     case measure => have := HJ2.out; have := HK2.out; have := HK3.out; have := HK4.out; omega
                     case rel => exact ⟨(x7_4), ((wrap64 (x8_3 + 1))), (wrap64 (x11_3 + 1)), (by first | rfl | (simp; done) | (simp [wrap64]; done) | (simp [*]; done)), (by first | rfl | (simp; done) | (simp [wrap64]; done) | (simp [*]; done)), H', ⟨by have := HJ2.out; have := HK2.out; have := HK3.out; have := HK4.out; omega⟩, ⟨by (try simp only [hl7_3]); (try simp only [hl7_4]); (with_reducible repeat (first | apply Kd.R_alloc | apply Kd.R_drewN | apply Kd.R_drew)); exact HO_7.out⟩, ⟨by (try simp only [hl7_3]); (try simp only [hl7_4]); (with_reducible repeat (first | refine blk_drewN ?_ _ | refine blk_drew ?_ | refine blk_alloc ?_ _)); exact BK180.out⟩, ⟨by (try simp only [hl7_3]); (try simp only [hl7_4]); (with_reducible repeat (first | refine blk_drewN ?_ _ | refine blk_drew ?_ | refine blk_alloc ?_ _)); exact BK181.out⟩, ⟨by (try simp only [hl7_3]); (try simp only [hl7_4]); (with_reducible repeat (first | refine blk_drewN ?_ _ | refine blk_drew ?_ | refine blk_alloc ?_ _)); exact BK191.out⟩, ⟨tB HB.out⟩⟩
                ·
                 rw [if_neg c50] at H
                 exact absurd H (by simp)
               ·
                rw [if_neg c49] at H
                exact absurd H (by simp)
              ·
               rw [if_neg c48] at H
               have c48b0 : decide (x11_3 < (l0_0.length : Int)) = false := decide_eq_false c48
               clear c48
               have H' := Aside0.mk H
               clear H
               have hnb100 := NB180_181.out
               have hnc100 := NB181_180.out
               have hnb101 := NB180_191.out
               have hnc101 := NB191_180.out
               obtain ⟨hcz102_0, hfz102_0, hcz102_1, hfz102_1⟩ := cz2 BK180
               go_wp2
               go_loopg [14] k3 (fun kq v14 w' => ∃ (x14_4 : Int) (x192000_4 : List (S58)) (x192001_4 : List (S58)) (u192000 : Value) (u192001 : Value), v14 = .int .i64 x14_4 ∧ Aside0 (spec_CutRod.l3 kq a1 (rd t183 a1) x7_3 x14_4 l0_0 l0_1 x192000_4 x192001_4 = some (r1, r2, r3)) ∧ Aside0 (kq ≤ k3) ∧ Aside0 (Kd.R (Kd.int .i64) 3 w' w.heap.size (fun _ => True) (.slice (some ⟨go38, 0, none⟩) x7_3.length co38) x7_3) ∧ Aside0 (Kd.R k58 58 w' w.heap.size (fun k_ => some k_ ≠ (u192001 : Value).ownBlock) u192000 x192000_4) ∧ Aside0 (Kd.R k58 58 w' w.heap.size (fun k_ => some k_ ≠ (u192000 : Value).ownBlock) u192001 x192001_4) ∧ Aside0 (w'.heap[gb180]? = some (.cells #[(.slice A0_0 l0_0.length c0_0), (.slice A0_1 l0_1.length c0_1)] 27 (0, 0))) ∧ Aside0 (w'.heap[gb181]? = some (.cells #[(.slice none 0 0), (.slice none 0 0)] 27 (0, 0))) ∧ Aside0 (w'.heap[gb191]? = some (.cells #[u192000, u192001] 27 (0, 0))) ∧ Aside0 (Below w.heap.size w w'))
               case atStart => exact ⟨(0), (([] : List (S58))), (([] : List (S58))), (.slice none 0 0), (.slice none 0 0), (by first | rfl | (simp; done) | (simp [wrap64]; done) | (simp [*]; done)), H', ⟨Nat.le_refl _⟩, ⟨by (try simp only [hl7_3]); (with_reducible repeat (first | apply Kd.R_alloc | apply Kd.R_drewN | apply Kd.R_drew)); exact HO_7.out⟩, ⟨by (try simp only [hl7_3]); first | exact Kd.R_nil _ _ _ _ _ | exact Kd.N_nil _ _ _ _ _ | exact Kd.V_nil _ _ _ _ _ | exact Kd.Q_nil _ _ _ _ _ | exact Kd.S_nil _ _ _ _ _⟩, ⟨by (try simp only [hl7_3]); first | exact Kd.R_nil _ _ _ _ _ | exact Kd.N_nil _ _ _ _ _ | exact Kd.V_nil _ _ _ _ _ | exact Kd.Q_nil _ _ _ _ _ | exact Kd.S_nil _ _ _ _ _⟩, ⟨by (try simp only [hl7_3]); (with_reducible repeat (first | refine blk_drewN ?_ _ | refine blk_drew ?_ | refine blk_alloc ?_ _)); exact BK180.out⟩, ⟨by (try simp only [hl7_3]); (with_reducible repeat (first | refine blk_drewN ?_ _ | refine blk_drew ?_ | refine blk_alloc ?_ _)); exact BK181.out⟩, ⟨by (try simp only [hl7_3]); (with_reducible repeat (first | refine blk_drewN ?_ _ | refine blk_drew ?_ | refine blk_alloc ?_ _)); exact BK191.out⟩, ⟨tB HB.out⟩⟩
               case round =>
                clear H'
                try clear c1
                try clear p1
                try clear q1
                try clear hx1
                try clear c2
                try clear p2
                try clear c3
                try clear p3
                try clear q3
                try clear hx3
                try clear qi3
                try clear hf3
                try clear c4
                try clear c5
                try clear p5
                try clear q5
                try clear hx5
                try clear hf5
                try clear c6
                try clear p6
                try clear c7
                try clear p7
                try clear q7
                try clear hx7
                try clear hf7
                try clear c8
                try clear c9
                try clear p9
                try clear q9
                try clear hx9
                try clear hf9
                try clear c10
                try clear c11
                try clear c14
                try clear c15
                try clear c18
                try clear c18b0
                try clear p18
                try clear q18
                try clear hx18
                try clear c19
                try clear c19b0
                try clear p19
                try clear q19
                try clear hx19
                try clear c20
                try clear c20b0
                try clear c20b1
                try clear c21
                try clear c21b0
                try clear c21b1
                try clear c22
                try clear c29
                try clear c29b0
                try clear c30
                try clear c30b0
                try clear c31
                try clear c31b0
                try clear p32
                try clear q32
                try clear hx32
                try clear hf32
                try clear c33
                try clear c37
                try clear c37b0
                try clear c37b1
                try clear p38
                try clear q38
                try clear hx38
                try clear qi38
                try clear hf38
                try clear c39
                try clear c42
                try clear c43
                try clear c47
                try clear c48
                try clear c48b0
                try clear c49
                try clear c49b0
                try clear c50
                try clear c50b0
                try clear c51
                try clear c51b0
                try clear c52
                try clear c53
                try clear p55
                try clear q55
                try clear hx55
                try clear hf55
                try clear c56
                try clear c57
                try clear c59
                try clear c61
                try clear c61b0
                try clear c62
                try clear c62b0
                try clear c63
                try clear c63b0
                try clear c64
                try clear c64b0
                try clear c64b1
                try clear p64
                try clear c65
                try clear c65b0
                try clear c66
                try clear c66b0
                try clear c66b1
                try clear c67
                try clear c68
                try clear c71
                try clear c71b0
                try clear c72
                try clear c72b0
                try clear p73
                try clear q73
                try clear hx73
                try clear hf73
                try clear c74
                try clear c75
                try clear c79
                try clear c80
                try clear c82
                try clear c83
                try clear c83b0
                try clear c84
                try clear c84b0
                try clear c84b1
                try clear c85
                try clear c86
                try clear c89
                try clear c89b0
                try clear c90
                try clear c90b0
                try clear p91
                try clear q91
                try clear hx91
                try clear hf91
                try clear c92
                try clear c93
                try clear c97
                try clear c98
                try clear c100
                try clear c101
                try clear hcz102_0
                try clear hcz102_1
                try clear hcz12_0
                try clear hcz12_1
                try clear hcz16_0
                try clear hcz16_1
                try clear hcz23_0
                try clear hcz23_1
                try clear hcz26_0
                try clear hcz26_1
                try clear hcz34_0
                try clear hcz34_1
                try clear hcz40_0
                try clear hcz40_1
                try clear hcz44_0
                try clear hcz44_1
                try clear hcz54_0
                try clear hcz54_1
                try clear hcz58_0
                try clear hcz58_1
                try clear hcz69_0
                try clear hcz69_1
                try clear hcz76_0
                try clear hcz76_1
                try clear hcz81_0
                try clear hcz81_1
                try clear hcz87_0
                try clear hcz87_1
                try clear hcz94_0
                try clear hcz94_1
                try clear hcz99_0
                try clear hcz99_1
                try clear hcz9_0
                try clear hcz9_1
                try clear hfz102_0
                try clear hfz102_1
                try clear hfz12_0
                try clear hfz12_1
                try clear hfz16_0
                try clear hfz16_1
                try clear hfz23_0
                try clear hfz23_1
                try clear hfz26_0
                try clear hfz26_1
                try clear hfz34_0
                try clear hfz34_1
                try clear hfz40_0
                try clear hfz40_1
                try clear hfz44_0
                try clear hfz44_1
                try clear hfz54_0
                try clear hfz54_1
                try clear hfz58_0
                try clear hfz58_1
                try clear hfz69_0
                try clear hfz69_1
                try clear hfz76_0
                try clear hfz76_1
                try clear hfz81_0
                try clear hfz81_1
                try clear hfz87_0
                try clear hfz87_1
                try clear hfz94_0
                try clear hfz94_1
                try clear hfz99_0
                try clear hfz99_1
                try clear hfz9_0
                try clear hfz9_1
                try clear hx186_0
                try clear hx193_0
                try clear hx195_0
                try clear hx195_1
                try clear hx32_0
                try clear hx38_0
                try clear hx55_0
                try clear hx73_0
                try clear hx91_0
                try clear p1
                try clear p18
                try clear p186
                try clear p19
                try clear p193
                try clear p195
                try clear p2
                try clear p3
                try clear p32
                try clear p38
                try clear p5
                try clear p55
                try clear p6
                try clear p73
                try clear p91
                try clear q1
                try clear q18
                try clear q186
                try clear q19
                try clear q193
                try clear q195
                try clear q3
                try clear q32
                try clear q38
                try clear q5
                try clear q55
                try clear q73
                try clear q91
                obtain ⟨x14_4, x192000_4, x192001_4, u192000, u192001, rfl, HA, HK4, HO_7, HO_192000, HO_192001, BK180, BK181, BK191, HB⟩ := hrel
                cases gk with
                | zero => exact absurd HA.out (by simp [spec_CutRod.l3])
                | succ k4 =>
                 have H := HA.out
                 clear HA
                 simp only [spec_CutRod.l3] at H
                 by_cases c103 : x14_4 < (l0_0.length : Int)
                 ·
                  rw [if_pos c103] at H
                  have c103b0 : decide (x14_4 < (l0_0.length : Int)) = true := decide_eq_true c103
                  clear c103
                  by_cases c104 : 0 ≤ x14_4
                  ·
                   rw [if_pos c104] at H
                   have c104b0 : decide (0 ≤ x14_4) = true := decide_eq_true c104
                   clear c104
                   by_cases c105 : x14_4 < (x7_3.length : Int)
                   ·
                    rw [if_pos c105] at H
                    have c105b0 : decide (x14_4 < (x7_3.length : Int)) = true := decide_eq_true c105
                    clear c105
                    by_cases c106 : (rd x7_3 x14_4) < 0
                    ·
                     rw [if_pos c106] at H
                     have c106b0 : decide ((rd x7_3 x14_4) < 0) = true := decide_eq_true c106
                     clear c106
                     have H' := Aside0.mk H
                     clear H
                     have hnb107 := NB180_181.out
                     have hnc107 := NB181_180.out
                     have hnb108 := NB180_191.out
                     have hnc108 := NB191_180.out
                     obtain ⟨hcz109_0, hfz109_0, hcz109_1, hfz109_1⟩ := cz2 BK180
                     have p199 : 0 ≤ (x14_4 : Int) := of_decide_eq_true (by first | (with_reducible assumption) | assumption)
                     have q199 : x14_4 < (x7_3.length : Int) := of_decide_eq_true (by first | (with_reducible assumption) | assumption)
                     obtain ⟨ad199, e199, hx199_0⟩ := Kd.at_int (Kd.R_reads' HO_7.out).2.2 x14_4 p199 q199
                     obtain rfl : (⟨go38, 0, none⟩ : Addr) = ad199 := (by injection e199)
                     (first | simp only [add_plain] at hx199_0 | simp only [add_at] at hx199_0 | simp only [Addr.add, Nat.zero_add] at hx199_0 | skip)
                     replace p199 := eq_true p199
                     replace q199 := eq_true q199
                     go_wp2
                     go_roundg k4
                     case measure => have := HJ2.out; have := HK2.out; have := HK3.out; have := HK4.out; omega
                     case rel => exact ⟨(wrap64 (x14_4 + 1)), (x192000_4), (x192001_4), (u192000), (u192001), (by first | rfl | (simp; done) | (simp [wrap64]; done) | (simp [*]; done)), H', ⟨by have := HJ2.out; have := HK2.out; have := HK3.out; have := HK4.out; omega⟩, ⟨by (try simp only [hl7_3]); (with_reducible repeat (first | apply Kd.R_alloc | apply Kd.R_drewN | apply Kd.R_drew)); exact HO_7.out⟩, ⟨by (try simp only [hl7_3]); (with_reducible repeat (first | apply Kd.R_alloc | apply Kd.R_drewN | apply Kd.R_drew)); exact HO_192000.out⟩, ⟨by (try simp only [hl7_3]); (with_reducible repeat (first | apply Kd.R_alloc | apply Kd.R_drewN | apply Kd.R_drew)); exact HO_192001.out⟩, ⟨by (try simp only [hl7_3]); (with_reducible repeat (first | refine blk_drewN ?_ _ | refine blk_drew ?_ | refine blk_alloc ?_ _)); exact BK180.out⟩, ⟨by (try simp only [hl7_3]); (with_reducible repeat (first | refine blk_drewN ?_ _ | refine blk_drew ?_ | refine blk_alloc ?_ _)); exact BK181.out⟩, ⟨by (try simp only [hl7_3]); (with_reducible repeat (first | refine blk_drewN ?_ _ | refine blk_drew ?_ | refine blk_alloc ?_ _)); exact BK191.out⟩, ⟨tB HB.out⟩⟩
                    ·
                     rw [if_neg c106] at H
                     have c106b0 : decide ((rd x7_3 x14_4) < 0) = false := decide_eq_false c106
                     clear c106
                     by_cases c110 : x14_4 < (l0_1.length : Int)
                     ·
                      rw [if_pos c110] at H
                      have c110b0 : decide (x14_4 < (l0_1.length : Int)) = true := decide_eq_true c110
                      clear c110
                      have H' := Aside0.mk H
                      clear H
                      have hnb111 := NB180_181.out
                      have hnc111 := NB181_180.out
                      have hnb112 := NB180_191.out
                      have hnc112 := NB191_180.out
                      obtain ⟨hcz113_0, hfz113_0, hcz113_1, hfz113_1⟩ := cz2 BK180
                      have p199 : 0 ≤ (x14_4 : Int) := of_decide_eq_true (by first | (with_reducible assumption) | assumption)
                      have q199 : x14_4 < (x7_3.length : Int) := of_decide_eq_true (by first | (with_reducible assumption) | assumption)
                      obtain ⟨ad199, e199, hx199_0⟩ := Kd.at_int (Kd.R_reads' HO_7.out).2.2 x14_4 p199 q199
                      obtain rfl : (⟨go38, 0, none⟩ : Addr) = ad199 := (by injection e199)
                      (first | simp only [add_plain] at hx199_0 | simp only [add_at] at hx199_0 | simp only [Addr.add, Nat.zero_add] at hx199_0 | skip)
                      replace p199 := eq_true p199
                      replace q199 := eq_true q199
                      have p200 : 0 ≤ (x14_4 : Int) := of_decide_eq_true (by first | (with_reducible assumption) | assumption)
                      have q200 : x14_4 < (l0_1.length : Int) := of_decide_eq_true (by first | (with_reducible assumption) | assumption)
                      obtain ⟨ad200, e200, hx200_0, hx200_1⟩ := at_T58 HR0_1.out x14_4 p200 q200
                      cases e200
                      replace hx200_0 := (HB.out.cell (World.block_lt_of_cell? w _ hx200_0)).trans hx200_0
                      replace hx200_1 := (HB.out.cell (World.block_lt_of_cell? w _ hx200_1)).trans hx200_1
                      replace p200 := eq_true p200
                      replace q200 := eq_true q200
                      go_wp2_with (first | ((with_reducible refine gate_dst (N := 15) rfl ?_); refine box_event ?hg (N := 15) ?hd (cs := #[.int .i64 0, .int .i64 0]) (t := 58) ?hr ?_; (case hd => rfl); (case hg => rfl); (case hr => first | (go_simp; done) | (go_simp; rfl)); intro gb201 hg w114 hbox hb; replace HO_7 := Aside0.mk (Kd.R_below (tR HO_7.out) hb); replace HO_192000 := Aside0.mk (Kd.R_below (Kd.R_elderB (tR HO_192000.out) gb201 (Nat.le_of_eq hg.symm)) hb); replace HO_192001 := Aside0.mk (Kd.R_below (Kd.R_elderB (tR HO_192001.out) gb201 (Nat.le_of_eq hg.symm)) hb); have BK201 := Aside0.mk (hbox); have GW201 := Aside0.mk (bS HB.out hg); have GE201 := Aside0.mk (bS HB.out hg); replace HB := Aside0.mk (below_step (tB HB.out) hb); have NB180_201 := Aside0.mk (nL BK180.out hg); have NB201_180 := Aside0.mk (nG BK180.out hg); replace BK180 := bkB BK180 hb; have NB181_201 := Aside0.mk (nL BK181.out hg); have NB201_181 := Aside0.mk (nG BK181.out hg); replace BK181 := bkB BK181 hb; have NB191_201 := Aside0.mk (nL BK191.out hg); have NB201_191 := Aside0.mk (nG BK191.out hg); replace BK191 := bkB BK191 hb; clear hb hbox hg; have hnb115 := NB201_180.out; have hnc115 := NB180_201.out; have hnb116 := NB201_181.out; have hnc116 := NB181_201.out; have hnb117 := NB201_191.out; have hnc117 := NB191_201.out; obtain ⟨hcz118_0, hfz118_0, hcz118_1, hfz118_1⟩ := cz2 BK201))
                      go_loopg [16] k4 (fun kq v16 w' => ∃ (x16_5 : Int) (x202000_5 : Int) (x202001_5 : Int), v16 = .int .i64 x16_5 ∧ Aside0 (spec_CutRod.l4 kq a1 (rd t183 a1) x7_3 x14_4 x16_5 l0_0 l0_1 x192000_4 x192001_4 x202000_5 x202001_5 = some (r1, r2, r3)) ∧ Aside0 (kq ≤ k4) ∧ Aside0 (Kd.R (Kd.int .i64) 3 w' w.heap.size (fun _ => True) (.slice (some ⟨go38, 0, none⟩) x7_3.length co38) x7_3) ∧ Aside0 (Kd.R k58 58 w' w.heap.size (fun k_ => some k_ ≠ (u192001 : Value).ownBlock ∧ k_ ≠ gb201) u192000 x192000_4) ∧ Aside0 (Kd.R k58 58 w' w.heap.size (fun k_ => some k_ ≠ (u192000 : Value).ownBlock ∧ k_ ≠ gb201) u192001 x192001_4) ∧ Aside0 (w'.heap[gb180]? = some (.cells #[(.slice A0_0 l0_0.length c0_0), (.slice (some ad200) l0_1.length c0_1)] 27 (0, 0))) ∧ Aside0 (w'.heap[gb181]? = some (.cells #[(.slice none 0 0), (.slice none 0 0)] 27 (0, 0))) ∧ Aside0 (w'.heap[gb191]? = some (.cells #[u192000, u192001] 27 (0, 0))) ∧ Aside0 (w'.heap[gb201]? = some (.cells #[.int .i64 x202000_5, .int .i64 x202001_5] 58 (0, 0))) ∧ Aside0 (Below w.heap.size w w'))
                      case atStart => exact ⟨(0), ((rd_T58 l0_1 x14_4).f0), ((rd_T58 l0_1 x14_4).f1), (by first | rfl | (simp; done) | (simp [wrap64]; done) | (simp [*]; done)), H', ⟨Nat.le_refl _⟩, ⟨by (try simp only [hl7_3]); (with_reducible repeat (first | apply Kd.R_alloc | apply Kd.R_drewN | apply Kd.R_drew)); exact Kd.R_mono (Kd.R_far (p := ⟨gb201, 1, none⟩) (Kd.R_far (p := ⟨gb201, 0, none⟩) (Kd.R_types HO_7.out BK201.out (by decide)) (fun _ hk => hk.2) (.int .i64 ((rd_T58 l0_1 x14_4).f0))) (fun _ hk => hk.2) (.int .i64 ((rd_T58 l0_1 x14_4).f1))) (fun _ hk => trivial)⟩, ⟨by (try simp only [hl7_3]); (with_reducible repeat (first | apply Kd.R_alloc | apply Kd.R_drewN | apply Kd.R_drew)); exact Kd.R_mono (Kd.R_far (p := ⟨gb201, 1, none⟩) (Kd.R_far (p := ⟨gb201, 0, none⟩) (Kd.R_mono HO_192000.out (fun k_ hk => (⟨hk, hk.2⟩ : _ ∧ k_ ≠ gb201))) (fun _ hk => hk.2) (.int .i64 ((rd_T58 l0_1 x14_4).f0))) (fun _ hk => hk.2) (.int .i64 ((rd_T58 l0_1 x14_4).f1))) (fun _ hk => ⟨hk.1.1, hk.1.2⟩)⟩, ⟨by (try simp only [hl7_3]); (with_reducible repeat (first | apply Kd.R_alloc | apply Kd.R_drewN | apply Kd.R_drew)); exact Kd.R_mono (Kd.R_far (p := ⟨gb201, 1, none⟩) (Kd.R_far (p := ⟨gb201, 0, none⟩) (Kd.R_mono HO_192001.out (fun k_ hk => (⟨hk, hk.2⟩ : _ ∧ k_ ≠ gb201))) (fun _ hk => hk.2) (.int .i64 ((rd_T58 l0_1 x14_4).f0))) (fun _ hk => hk.2) (.int .i64 ((rd_T58 l0_1 x14_4).f1))) (fun _ hk => ⟨hk.1.1, hk.1.2⟩)⟩, ⟨by (try simp only [hl7_3]); (with_reducible repeat (first | refine blk_drewN ?_ _ | refine blk_drew ?_ | refine blk_alloc ?_ _)); refine blk_far ?_ NB180_201.out _; (with_reducible repeat (first | refine blk_drewN ?_ _ | refine blk_drew ?_ | refine blk_alloc ?_ _)); refine blk_far ?_ NB180_201.out _; (with_reducible repeat (first | refine blk_drewN ?_ _ | refine blk_drew ?_ | refine blk_alloc ?_ _)); exact BK180.out⟩, ⟨by (try simp only [hl7_3]); (with_reducible repeat (first | refine blk_drewN ?_ _ | refine blk_drew ?_ | refine blk_alloc ?_ _)); refine blk_far ?_ NB181_201.out _; (with_reducible repeat (first | refine blk_drewN ?_ _ | refine blk_drew ?_ | refine blk_alloc ?_ _)); refine blk_far ?_ NB181_201.out _; (with_reducible repeat (first | refine blk_drewN ?_ _ | refine blk_drew ?_ | refine blk_alloc ?_ _)); exact BK181.out⟩, ⟨by (try simp only [hl7_3]); (with_reducible repeat (first | refine blk_drewN ?_ _ | refine blk_drew ?_ | refine blk_alloc ?_ _)); refine blk_far ?_ NB191_201.out _; (with_reducible repeat (first | refine blk_drewN ?_ _ | refine blk_drew ?_ | refine blk_alloc ?_ _)); refine blk_far ?_ NB191_201.out _; (with_reducible repeat (first | refine blk_drewN ?_ _ | refine blk_drew ?_ | refine blk_alloc ?_ _)); exact BK191.out⟩, ⟨by (try simp only [hl7_3]); (with_reducible repeat (first | refine blk_drewN ?_ _ | refine blk_drew ?_ | refine blk_alloc ?_ _)); refine blk_put (cs := #[.int .i64 ((rd_T58 l0_1 x14_4).f0), .int .i64 0]) ?_ 1 _ rfl; (with_reducible repeat (first | refine blk_drewN ?_ _ | refine blk_drew ?_ | refine blk_alloc ?_ _)); refine blk_put (cs := #[.int .i64 0, .int .i64 0]) ?_ 0 _ rfl; (with_reducible repeat (first | refine blk_drewN ?_ _ | refine blk_drew ?_ | refine blk_alloc ?_ _)); exact BK201.out⟩, ⟨tB HB.out⟩⟩
                      case round =>
                       clear H'
                       try clear c1
                       try clear p1
                       try clear q1
                       try clear hx1
                       try clear c2
                       try clear p2
                       try clear q2
                       try clear hx2
                       try clear c3
                       try clear p3
                       try clear q3
                       try clear hx3
                       try clear qi3
                       try clear hf3
                       try clear c4
                       try clear c5
                       try clear p5
                       try clear q5
                       try clear hx5
                       try clear hf5
                       try clear c6
                       try clear p6
                       try clear c7
                       try clear p7
                       try clear q7
                       try clear hx7
                       try clear hf7
                       try clear c8
                       try clear c9
                       try clear p9
                       try clear q9
                       try clear hx9
                       try clear hf9
                       try clear c10
                       try clear c11
                       try clear c14
                       try clear c15
                       try clear c18
                       try clear c18b0
                       try clear p18
                       try clear q18
                       try clear hx18
                       try clear c19
                       try clear c19b0
                       try clear p19
                       try clear q19
                       try clear hx19
                       try clear c20
                       try clear c20b0
                       try clear c20b1
                       try clear p20
                       try clear q20
                       try clear hx20
                       try clear c21
                       try clear c21b0
                       try clear c21b1
                       try clear c22
                       try clear c29
                       try clear c29b0
                       try clear c30
                       try clear c30b0
                       try clear c31
                       try clear c31b0
                       try clear p32
                       try clear q32
                       try clear hx32
                       try clear hf32
                       try clear c33
                       try clear c37
                       try clear c37b0
                       try clear c37b1
                       try clear p38
                       try clear q38
                       try clear hx38
                       try clear qi38
                       try clear hf38
                       try clear c39
                       try clear c42
                       try clear c43
                       try clear c47
                       try clear c48
                       try clear c48b0
                       try clear c49
                       try clear c49b0
                       try clear c50
                       try clear c50b0
                       try clear c51
                       try clear c51b0
                       try clear c52
                       try clear c53
                       try clear p55
                       try clear q55
                       try clear hx55
                       try clear hf55
                       try clear c56
                       try clear c57
                       try clear c59
                       try clear c61
                       try clear c61b0
                       try clear c62
                       try clear c62b0
                       try clear c63
                       try clear c63b0
                       try clear c64
                       try clear c64b0
                       try clear c64b1
                       try clear p64
                       try clear c65
                       try clear c65b0
                       try clear c66
                       try clear c66b0
                       try clear c66b1
                       try clear c67
                       try clear c68
                       try clear c71
                       try clear c71b0
                       try clear c72
                       try clear c72b0
                       try clear p73
                       try clear q73
                       try clear hx73
                       try clear hf73
                       try clear c74
                       try clear c75
                       try clear c79
                       try clear c80
                       try clear c82
                       try clear c83
                       try clear c83b0
                       try clear c84
                       try clear c84b0
                       try clear c84b1
                       try clear c85
                       try clear c86
                       try clear c89
                       try clear c89b0
                       try clear c90
                       try clear c90b0
                       try clear p91
                       try clear q91
                       try clear hx91
                       try clear hf91
                       try clear c92
                       try clear c93
                       try clear c97
                       try clear c98
                       try clear c100
                       try clear c101
                       try clear c103
                       try clear c103b0
                       try clear c104
                       try clear c104b0
                       try clear c105
                       try clear c105b0
                       try clear c106
                       try clear c106b0
                       try clear c107
                       try clear c108
                       try clear c110
                       try clear c110b0
                       try clear c111
                       try clear c112
                       try clear c115
                       try clear c116
                       try clear c117
                       try clear hcz102_0
                       try clear hcz102_1
                       try clear hcz109_0
                       try clear hcz109_1
                       try clear hcz113_0
                       try clear hcz113_1
                       try clear hcz118_0
                       try clear hcz118_1
                       try clear hcz12_0
                       try clear hcz12_1
                       try clear hcz16_0
                       try clear hcz16_1
                       try clear hcz23_0
                       try clear hcz23_1
                       try clear hcz26_0
                       try clear hcz26_1
                       try clear hcz34_0
                       try clear hcz34_1
                       try clear hcz40_0
                       try clear hcz40_1
                       try clear hcz44_0
                       try clear hcz44_1
                       try clear hcz54_0
                       try clear hcz54_1
                       try clear hcz58_0
                       try clear hcz58_1
                       try clear hcz69_0
                       try clear hcz69_1
                       try clear hcz76_0
                       try clear hcz76_1
                       try clear hcz81_0
                       try clear hcz81_1
                       try clear hcz87_0
                       try clear hcz87_1
                       try clear hcz94_0
                       try clear hcz94_1
                       try clear hcz99_0
                       try clear hcz99_1
                       try clear hcz9_0
                       try clear hcz9_1
                       try clear hfz102_0
                       try clear hfz102_1
                       try clear hfz109_0
                       try clear hfz109_1
                       try clear hfz113_0
                       try clear hfz113_1
                       try clear hfz118_0
                       try clear hfz118_1
                       try clear hfz12_0
                       try clear hfz12_1
                       try clear hfz16_0
                       try clear hfz16_1
                       try clear hfz23_0
                       try clear hfz23_1
                       try clear hfz26_0
                       try clear hfz26_1
                       try clear hfz34_0
                       try clear hfz34_1
                       try clear hfz40_0
                       try clear hfz40_1
                       try clear hfz44_0
                       try clear hfz44_1
                       try clear hfz54_0
                       try clear hfz54_1
                       try clear hfz58_0
                       try clear hfz58_1
                       try clear hfz69_0
                       try clear hfz69_1
                       try clear hfz76_0
                       try clear hfz76_1
                       try clear hfz81_0
                       try clear hfz81_1
                       try clear hfz87_0
                       try clear hfz87_1
                       try clear hfz94_0
                       try clear hfz94_1
                       try clear hfz99_0
                       try clear hfz99_1
                       try clear hfz9_0
                       try clear hfz9_1
                       try clear hx186_0
                       try clear hx193_0
                       try clear hx195_0
                       try clear hx195_1
                       try clear hx199_0
                       try clear hx200_0
                       try clear hx200_1
                       try clear hx32_0
                       try clear hx38_0
                       try clear hx55_0
                       try clear hx73_0
                       try clear hx91_0
                       try clear p1
                       try clear p18
                       try clear p186
                       try clear p19
                       try clear p193
                       try clear p195
                       try clear p199
                       try clear p2
                       try clear p200
                       try clear p3
                       try clear p32
                       try clear p38
                       try clear p5
                       try clear p55
                       try clear p6
                       try clear p64
                       try clear p7
                       try clear p73
                       try clear p9
                       try clear p91
                       try clear q1
                       try clear q18
                       try clear q186
                       try clear q19
                       try clear q193
                       try clear q195
                       try clear q199
                       try clear q200
                       try clear q3
                       try clear q32
                       try clear q38
                       try clear q5
                       try clear q55
                       try clear q7
                       try clear q73
                       try clear q9
                       try clear q91
                       obtain ⟨x16_5, x202000_5, x202001_5, rfl, HA, HK5, HO_7, HO_192000, HO_192001, BK180, BK181, BK191, BK201, HB⟩ := hrel
                       cases gk with
                       | zero => exact absurd HA.out (by simp [spec_CutRod.l4])
                       | succ k5 =>
                        have H := HA.out
                        clear HA
                        simp only [spec_CutRod.l4] at H
                        by_cases c119 : x16_5 < 2
                        ·
                         rw [if_pos c119] at H
                         have c119b0 : decide (x16_5 < 2) = true := decide_eq_true c119
                         clear c119
                         by_cases c120 : x16_5 = 0
                         ·
                          subst c120
                          have H1 : (if x202000_5 = (wrap64 (-a1)) then (spec_CutRod.l4 k5 a1 (rd t183 a1) x7_3 x14_4 (wrap64 (0 + 1)) l0_0 l0_1 x192000_4 x192001_4 (rd t183 a1) x202001_5) else (if x202000_5 < 0 then (if 0 ≤ (wrap64 (-x202000_5)) then (if (wrap64 (-x202000_5)) < (x7_3.length : Int) then (spec_CutRod.l4 k5 a1 (rd t183 a1) x7_3 x14_4 (wrap64 (0 + 1)) l0_0 l0_1 x192000_4 x192001_4 (wrap64 (-(rd x7_3 (wrap64 (-x202000_5))))) x202001_5) else (none)) else (none)) else (spec_CutRod.l4 k5 a1 (rd t183 a1) x7_3 x14_4 (wrap64 (0 + 1)) l0_0 l0_1 x192000_4 x192001_4 x202000_5 x202001_5))) = some (r1, r2, r3) := by rw [if_pos rfl] at H; exact H
                          clear H
                          have H := H1
                          clear H1
                          by_cases c121 : x202000_5 = (wrap64 (-a1))
                          ·
                           rw [if_pos c121] at H
                           have c121b0 : (x202000_5 == (wrap64 (-a1))) = true := beq_iff_eq.mpr c121
                           have c121b1 : (x202000_5 != (wrap64 (-a1))) = false := bne_eq_false_iff_eq.mpr c121
                           clear c121
                           have H' := Aside0.mk H
                           clear H
                           have hnb122 := NB201_180.out
                           have hnc122 := NB180_201.out
                           have hnb123 := NB201_181.out
                           have hnc123 := NB181_201.out
                           have hnb124 := NB201_191.out
                           have hnc124 := NB191_201.out
                           obtain ⟨hcz125_0, hfz125_0, hcz125_1, hfz125_1⟩ := cz2 BK201
                           go_wp2
                           go_roundg k5
                           case measure => have := HJ2.out; have := HK2.out; have := HK3.out; have := HK4.out; have := HK5.out; omega
                           case rel => exact ⟨(wrap64 (0 + 1)), ((rd t183 a1)), (x202001_5), (by first | rfl | (simp; done) | (simp [wrap64]; done) | (simp [*]; done)), H', ⟨by have := HJ2.out; have := HK2.out; have := HK3.out; have := HK4.out; have := HK5.out; omega⟩, ⟨by (try simp only [hl7_3]); (with_reducible repeat (first | apply Kd.R_alloc | apply Kd.R_drewN | apply Kd.R_drew)); exact Kd.R_mono (Kd.R_far (p := ⟨gb201, 0, none⟩) (Kd.R_types HO_7.out BK201.out (by decide)) (fun _ hk => hk.2) (.int .i64 (rd t183 a1))) (fun _ hk => trivial)⟩, ⟨by (try simp only [hl7_3]); (with_reducible repeat (first | apply Kd.R_alloc | apply Kd.R_drewN | apply Kd.R_drew)); exact Kd.R_mono (Kd.R_far (p := ⟨gb201, 0, none⟩) (Kd.R_mono HO_192000.out (fun k_ hk => (⟨hk, hk.2⟩ : _ ∧ k_ ≠ gb201))) (fun _ hk => hk.2) (.int .i64 (rd t183 a1))) (fun _ hk => ⟨hk.1.1, hk.1.2⟩)⟩, ⟨by (try simp only [hl7_3]); (with_reducible repeat (first | apply Kd.R_alloc | apply Kd.R_drewN | apply Kd.R_drew)); exact Kd.R_mono (Kd.R_far (p := ⟨gb201, 0, none⟩) (Kd.R_mono HO_192001.out (fun k_ hk => (⟨hk, hk.2⟩ : _ ∧ k_ ≠ gb201))) (fun _ hk => hk.2) (.int .i64 (rd t183 a1))) (fun _ hk => ⟨hk.1.1, hk.1.2⟩)⟩, ⟨by (try simp only [hl7_3]); (with_reducible repeat (first | refine blk_drewN ?_ _ | refine blk_drew ?_ | refine blk_alloc ?_ _)); refine blk_far ?_ NB180_201.out _; (with_reducible repeat (first | refine blk_drewN ?_ _ | refine blk_drew ?_ | refine blk_alloc ?_ _)); exact BK180.out⟩, ⟨by (try simp only [hl7_3]); (with_reducible repeat (first | refine blk_drewN ?_ _ | refine blk_drew ?_ | refine blk_alloc ?_ _)); refine blk_far ?_ NB181_201.out _; (with_reducible repeat (first | refine blk_drewN ?_ _ | refine blk_drew ?_ | refine blk_alloc ?_ _)); exact BK181.out⟩, ⟨by (try simp only [hl7_3]); (with_reducible repeat (first | refine blk_drewN ?_ _ | refine blk_drew ?_ | refine blk_alloc ?_ _)); refine blk_far ?_ NB191_201.out _; (with_reducible repeat (first | refine blk_drewN ?_ _ | refine blk_drew ?_ | refine blk_alloc ?_ _)); exact BK191.out⟩, ⟨by (try simp only [hl7_3]); (with_reducible repeat (first | refine blk_drewN ?_ _ | refine blk_drew ?_ | refine blk_alloc ?_ _)); refine blk_put (cs := #[.int .i64 x202000_5, .int .i64 x202001_5]) ?_ 0 _ rfl; (with_reducible repeat (first | refine blk_drewN ?_ _ | refine blk_drew ?_ | refine blk_alloc ?_ _)); exact BK201.out⟩, ⟨tB HB.out⟩⟩
                          ·
                           rw [if_neg c121] at H
                           have c121b0 : (x202000_5 == (wrap64 (-a1))) = false := beq_eq_false_iff_ne.mpr c121
                           have c121b1 : (x202000_5 != (wrap64 (-a1))) = true := bne_iff_ne.mpr c121
                           by_cases c126 : x202000_5 < 0
                           ·
                            rw [if_pos c126] at H
                            have c126b0 : decide (x202000_5 < 0) = true := decide_eq_true c126
                            clear c126
                            obtain ⟨ji127, hji127⟩ : ∃ j_ : Int, (wrap64 (-x202000_5)) = j_ := ⟨_, rfl⟩
                            replace H : (if 0 ≤ (ji127) then (if (ji127) < (x7_3.length : Int) then (spec_CutRod.l4 k5 a1 (rd t183 a1) x7_3 x14_4 (wrap64 (0 + 1)) l0_0 l0_1 x192000_4 x192001_4 (wrap64 (-(rd x7_3 (ji127)))) x202001_5) else (none)) else (none)) = some (r1, r2, r3) := by first | (rw [hji127] at H; exact H) | (simp only [hji127] at H ⊢; exact H)
                            have hji127w : (IntKind.i64.wrap (-x202000_5)) = ji127 := (i64_w _).trans hji127
                            by_cases c128 : 0 ≤ (ji127)
                            ·
                             rw [if_pos c128] at H
                             have c128b0 : decide (0 ≤ (ji127)) = true := decide_eq_true c128
                             clear c128
                             by_cases c129 : (ji127) < (x7_3.length : Int)
                             ·
                              rw [if_pos c129] at H
                              have c129b0 : decide ((ji127) < (x7_3.length : Int)) = true := decide_eq_true c129
                              clear c129
                              have H' := Aside0.mk H
                              clear H
                              have hnb130 := NB201_180.out
                              have hnc130 := NB180_201.out
                              have hnb131 := NB201_181.out
                              have hnc131 := NB181_201.out
                              have hnb132 := NB201_191.out
                              have hnc132 := NB191_201.out
                              obtain ⟨hcz133_0, hfz133_0, hcz133_1, hfz133_1⟩ := cz2 BK201
                              have p209 : 0 ≤ ((ji127) : Int) := of_decide_eq_true (by first | (with_reducible assumption) | assumption)
                              have q209 : (ji127) < (x7_3.length : Int) := of_decide_eq_true (by first | (with_reducible assumption) | assumption)
                              obtain ⟨ad209, e209, hx209_0⟩ := Kd.at_int (Kd.R_reads' HO_7.out).2.2 (ji127) p209 q209
                              obtain rfl : (⟨go38, 0, none⟩ : Addr) = ad209 := (by injection e209)
                              (first | simp only [add_plain] at hx209_0 | simp only [add_at] at hx209_0 | simp only [Addr.add, Nat.zero_add] at hx209_0 | skip)
                              replace p209 := eq_true p209
                              replace q209 := eq_true q209
                              go_wp2
                              go_roundg k5
                              case measure => have := HJ2.out; have := HK2.out; have := HK3.out; have := HK4.out; have := HK5.out; omega
                              case rel => exact ⟨(wrap64 (0 + 1)), (wrap64 (-(rd x7_3 (ji127)))), (x202001_5), (by first | rfl | (simp; done) | (simp [wrap64]; done) | (simp [*]; done)), H', ⟨by have := HJ2.out; have := HK2.out; have := HK3.out; have := HK4.out; have := HK5.out; omega⟩, ⟨by (try simp only [hl7_3]); (with_reducible repeat (first | apply Kd.R_alloc | apply Kd.R_drewN | apply Kd.R_drew)); exact Kd.R_mono (Kd.R_far (p := ⟨gb201, 0, none⟩) (Kd.R_types HO_7.out BK201.out (by decide)) (fun _ hk => hk.2) (.int .i64 (wrap64 (-(rd x7_3 (ji127)))))) (fun _ hk => trivial)⟩, ⟨by (try simp only [hl7_3]); (with_reducible repeat (first | apply Kd.R_alloc | apply Kd.R_drewN | apply Kd.R_drew)); exact Kd.R_mono (Kd.R_far (p := ⟨gb201, 0, none⟩) (Kd.R_mono HO_192000.out (fun k_ hk => (⟨hk, hk.2⟩ : _ ∧ k_ ≠ gb201))) (fun _ hk => hk.2) (.int .i64 (wrap64 (-(rd x7_3 (ji127)))))) (fun _ hk => ⟨hk.1.1, hk.1.2⟩)⟩, ⟨by (try simp only [hl7_3]); (with_reducible repeat (first | apply Kd.R_alloc | apply Kd.R_drewN | apply Kd.R_drew)); exact Kd.R_mono (Kd.R_far (p := ⟨gb201, 0, none⟩) (Kd.R_mono HO_192001.out (fun k_ hk => (⟨hk, hk.2⟩ : _ ∧ k_ ≠ gb201))) (fun _ hk => hk.2) (.int .i64 (wrap64 (-(rd x7_3 (ji127)))))) (fun _ hk => ⟨hk.1.1, hk.1.2⟩)⟩, ⟨by (try simp only [hl7_3]); (with_reducible repeat (first | refine blk_drewN ?_ _ | refine blk_drew ?_ | refine blk_alloc ?_ _)); refine blk_far ?_ NB180_201.out _; (with_reducible repeat (first | refine blk_drewN ?_ _ | refine blk_drew ?_ | refine blk_alloc ?_ _)); exact BK180.out⟩, ⟨by (try simp only [hl7_3]); (with_reducible repeat (first | refine blk_drewN ?_ _ | refine blk_drew ?_ | refine blk_alloc ?_ _)); refine blk_far ?_ NB181_201.out _; (with_reducible repeat (first | refine blk_drewN ?_ _ | refine blk_drew ?_ | refine blk_alloc ?_ _)); exact BK181.out⟩, ⟨by (try simp only [hl7_3]); (with_reducible repeat (first | refine blk_drewN ?_ _ | refine blk_drew ?_ | refine blk_alloc ?_ _)); refine blk_far ?_ NB191_201.out _; (with_reducible repeat (first | refine blk_drewN ?_ _ | refine blk_drew ?_ | refine blk_alloc ?_ _)); exact BK191.out⟩, ⟨by (try simp only [hl7_3]); (with_reducible repeat (first | refine blk_drewN ?_ _ | refine blk_drew ?_ | refine blk_alloc ?_ _)); refine blk_put (cs := #[.int .i64 x202000_5, .int .i64 x202001_5]) ?_ 0 _ rfl; (with_reducible repeat (first | refine blk_drewN ?_ _ | refine blk_drew ?_ | refine blk_alloc ?_ _)); exact BK201.out⟩, ⟨tB HB.out⟩⟩
                             ·
                              rw [if_neg c129] at H
                              exact absurd H (by simp)
                            ·
                             rw [if_neg c128] at H
                             exact absurd H (by simp)
                           ·
                            rw [if_neg c126] at H
                            have c126b0 : decide (x202000_5 < 0) = false := decide_eq_false c126
                            clear c126
                            have H' := Aside0.mk H
                            clear H
                            have hnb134 := NB201_180.out
                            have hnc134 := NB180_201.out
                            have hnb135 := NB201_181.out
                            have hnc135 := NB181_201.out
                            have hnb136 := NB201_191.out
                            have hnc136 := NB191_201.out
                            obtain ⟨hcz137_0, hfz137_0, hcz137_1, hfz137_1⟩ := cz2 BK201
                            go_wp2
                            go_roundg k5
                            case measure => have := HJ2.out; have := HK2.out; have := HK3.out; have := HK4.out; have := HK5.out; omega
                            case rel => exact ⟨(wrap64 (0 + 1)), (x202000_5), (x202001_5), (by first | rfl | (simp; done) | (simp [wrap64]; done) | (simp [*]; done)), H', ⟨by have := HJ2.out; have := HK2.out; have := HK3.out; have := HK4.out; have := HK5.out; omega⟩, ⟨by (try simp only [hl7_3]); (with_reducible repeat (first | apply Kd.R_alloc | apply Kd.R_drewN | apply Kd.R_drew)); exact HO_7.out⟩, ⟨by (try simp only [hl7_3]); (with_reducible repeat (first | apply Kd.R_alloc | apply Kd.R_drewN | apply Kd.R_drew)); exact HO_192000.out⟩, ⟨by (try simp only [hl7_3]); (with_reducible repeat (first | apply Kd.R_alloc | apply Kd.R_drewN | apply Kd.R_drew)); exact HO_192001.out⟩, ⟨by (try simp only [hl7_3]); (with_reducible repeat (first | refine blk_drewN ?_ _ | refine blk_drew ?_ | refine blk_alloc ?_ _)); exact BK180.out⟩, ⟨by (try simp only [hl7_3]); (with_reducible repeat (first | refine blk_drewN ?_ _ | refine blk_drew ?_ | refine blk_alloc ?_ _)); exact BK181.out⟩, ⟨by (try simp only [hl7_3]); (with_reducible repeat (first | refine blk_drewN ?_ _ | refine blk_drew ?_ | refine blk_alloc ?_ _)); exact BK191.out⟩, ⟨by (try simp only [hl7_3]); (with_reducible repeat (first | refine blk_drewN ?_ _ | refine blk_drew ?_ | refine blk_alloc ?_ _)); exact BK201.out⟩, ⟨tB HB.out⟩⟩
                         ·
                          rw [if_neg c120] at H
                          have c120b0 : (x16_5 == 0) = false := beq_eq_false_iff_ne.mpr c120
                          have c120b1 : (x16_5 != 0) = true := bne_iff_ne.mpr c120
                          by_cases c138 : x16_5 = 1
                          ·
                           subst c138
                           have H1 : (if x202001_5 = (wrap64 (-a1)) then (spec_CutRod.l4 k5 a1 (rd t183 a1) x7_3 x14_4 (wrap64 (1 + 1)) l0_0 l0_1 x192000_4 x192001_4 x202000_5 (rd t183 a1)) else (if x202001_5 < 0 then (if 0 ≤ (wrap64 (-x202001_5)) then (if (wrap64 (-x202001_5)) < (x7_3.length : Int) then (spec_CutRod.l4 k5 a1 (rd t183 a1) x7_3 x14_4 (wrap64 (1 + 1)) l0_0 l0_1 x192000_4 x192001_4 x202000_5 (wrap64 (-(rd x7_3 (wrap64 (-x202001_5)))))) else (none)) else (none)) else (spec_CutRod.l4 k5 a1 (rd t183 a1) x7_3 x14_4 (wrap64 (1 + 1)) l0_0 l0_1 x192000_4 x192001_4 x202000_5 x202001_5))) = some (r1, r2, r3) := by rw [if_pos rfl] at H; exact H
                           clear H
                           have H := H1
                           clear H1
                           by_cases c139 : x202001_5 = (wrap64 (-a1))
                           ·
                            rw [if_pos c139] at H
                            have c139b0 : (x202001_5 == (wrap64 (-a1))) = true := beq_iff_eq.mpr c139
                            have c139b1 : (x202001_5 != (wrap64 (-a1))) = false := bne_eq_false_iff_eq.mpr c139
                            clear c139
                            have H' := Aside0.mk H
                            clear H
                            have hnb140 := NB201_180.out
                            have hnc140 := NB180_201.out
                            have hnb141 := NB201_181.out
                            have hnc141 := NB181_201.out
                            have hnb142 := NB201_191.out
                            have hnc142 := NB191_201.out
                            obtain ⟨hcz143_0, hfz143_0, hcz143_1, hfz143_1⟩ := cz2 BK201
                            go_wp2
                            go_roundg k5
                            case measure => have := HJ2.out; have := HK2.out; have := HK3.out; have := HK4.out; have := HK5.out; omega
                            case rel => exact ⟨(wrap64 (1 + 1)), (x202000_5), ((rd t183 a1)), (by first | rfl | (simp; done) | (simp [wrap64]; done) | (simp [*]; done)), H', ⟨by have := HJ2.out; have := HK2.out; have := HK3.out; have := HK4.out; have := HK5.out; omega⟩, ⟨by (try simp only [hl7_3]); (with_reducible repeat (first | apply Kd.R_alloc | apply Kd.R_drewN | apply Kd.R_drew)); exact Kd.R_mono (Kd.R_far (p := ⟨gb201, 1, none⟩) (Kd.R_types HO_7.out BK201.out (by decide)) (fun _ hk => hk.2) (.int .i64 (rd t183 a1))) (fun _ hk => trivial)⟩, ⟨by (try simp only [hl7_3]); (with_reducible repeat (first | apply Kd.R_alloc | apply Kd.R_drewN | apply Kd.R_drew)); exact Kd.R_mono (Kd.R_far (p := ⟨gb201, 1, none⟩) (Kd.R_mono HO_192000.out (fun k_ hk => (⟨hk, hk.2⟩ : _ ∧ k_ ≠ gb201))) (fun _ hk => hk.2) (.int .i64 (rd t183 a1))) (fun _ hk => ⟨hk.1.1, hk.1.2⟩)⟩, ⟨by (try simp only [hl7_3]); (with_reducible repeat (first | apply Kd.R_alloc | apply Kd.R_drewN | apply Kd.R_drew)); exact Kd.R_mono (Kd.R_far (p := ⟨gb201, 1, none⟩) (Kd.R_mono HO_192001.out (fun k_ hk => (⟨hk, hk.2⟩ : _ ∧ k_ ≠ gb201))) (fun _ hk => hk.2) (.int .i64 (rd t183 a1))) (fun _ hk => ⟨hk.1.1, hk.1.2⟩)⟩, ⟨by (try simp only [hl7_3]); (with_reducible repeat (first | refine blk_drewN ?_ _ | refine blk_drew ?_ | refine blk_alloc ?_ _)); refine blk_far ?_ NB180_201.out _; (with_reducible repeat (first | refine blk_drewN ?_ _ | refine blk_drew ?_ | refine blk_alloc ?_ _)); exact BK180.out⟩, ⟨by (try simp only [hl7_3]); (with_reducible repeat (first | refine blk_drewN ?_ _ | refine blk_drew ?_ | refine blk_alloc ?_ _)); refine blk_far ?_ NB181_201.out _; (with_reducible repeat (first | refine blk_drewN ?_ _ | refine blk_drew ?_ | refine blk_alloc ?_ _)); exact BK181.out⟩, ⟨by (try simp only [hl7_3]); (with_reducible repeat (first | refine blk_drewN ?_ _ | refine blk_drew ?_ | refine blk_alloc ?_ _)); refine blk_far ?_ NB191_201.out _; (with_reducible repeat (first | refine blk_drewN ?_ _ | refine blk_drew ?_ | refine blk_alloc ?_ _)); exact BK191.out⟩, ⟨by (try simp only [hl7_3]); (with_reducible repeat (first | refine blk_drewN ?_ _ | refine blk_drew ?_ | refine blk_alloc ?_ _)); refine blk_put (cs := #[.int .i64 x202000_5, .int .i64 x202001_5]) ?_ 1 _ rfl; (with_reducible repeat (first | refine blk_drewN ?_ _ | refine blk_drew ?_ | refine blk_alloc ?_ _)); exact BK201.out⟩, ⟨tB HB.out⟩⟩
                           ·
                            rw [if_neg c139] at H
                            have c139b0 : (x202001_5 == (wrap64 (-a1))) = false := beq_eq_false_iff_ne.mpr c139
                            have c139b1 : (x202001_5 != (wrap64 (-a1))) = true := bne_iff_ne.mpr c139
                            by_cases c144 : x202001_5 < 0
                            ·
                             rw [if_pos c144] at H
                             have c144b0 : decide (x202001_5 < 0) = true := decide_eq_true c144
                             clear c144
                             obtain ⟨ji145, hji145⟩ : ∃ j_ : Int, (wrap64 (-x202001_5)) = j_ := ⟨_, rfl⟩
                             replace H : (if 0 ≤ (ji145) then (if (ji145) < (x7_3.length : Int) then (spec_CutRod.l4 k5 a1 (rd t183 a1) x7_3 x14_4 (wrap64 (1 + 1)) l0_0 l0_1 x192000_4 x192001_4 x202000_5 (wrap64 (-(rd x7_3 (ji145))))) else (none)) else (none)) = some (r1, r2, r3) := by first | (rw [hji145] at H; exact H) | (simp only [hji145] at H ⊢; exact H)
                             have hji145w : (IntKind.i64.wrap (-x202001_5)) = ji145 := (i64_w _).trans hji145
                             by_cases c146 : 0 ≤ (ji145)
                             ·
                              rw [if_pos c146] at H
                              have c146b0 : decide (0 ≤ (ji145)) = true := decide_eq_true c146
                              clear c146
                              by_cases c147 : (ji145) < (x7_3.length : Int)
                              ·
                               rw [if_pos c147] at H
                               have c147b0 : decide ((ji145) < (x7_3.length : Int)) = true := decide_eq_true c147
                               clear c147
                               have H' := Aside0.mk H
                               clear H
                               have hnb148 := NB201_180.out
                               have hnc148 := NB180_201.out
                               have hnb149 := NB201_181.out
                               have hnc149 := NB181_201.out
                               have hnb150 := NB201_191.out
                               have hnc150 := NB191_201.out
                               obtain ⟨hcz151_0, hfz151_0, hcz151_1, hfz151_1⟩ := cz2 BK201
                               have p210 : 0 ≤ ((ji145) : Int) := of_decide_eq_true (by first | (with_reducible assumption) | assumption)
                               have q210 : (ji145) < (x7_3.length : Int) := of_decide_eq_true (by first | (with_reducible assumption) | assumption)
                               obtain ⟨ad210, e210, hx210_0⟩ := Kd.at_int (Kd.R_reads' HO_7.out).2.2 (ji145) p210 q210
                               obtain rfl : (⟨go38, 0, none⟩ : Addr) = ad210 := (by injection e210)
                               (first | simp only [add_plain] at hx210_0 | simp only [add_at] at hx210_0 | simp only [Addr.add, Nat.zero_add] at hx210_0 | skip)
                               replace p210 := eq_true p210
                               replace q210 := eq_true q210
                               go_wp2
                               go_roundg k5
                               case measure => have := HJ2.out; have := HK2.out; have := HK3.out; have := HK4.out; have := HK5.out; omega
                               case rel => exact ⟨(wrap64 (1 + 1)), (x202000_5), (wrap64 (-(rd x7_3 (ji145)))), (by first | rfl | (simp; done) | (simp [wrap64]; done) | (simp [*]; done)), H', ⟨by have := HJ2.out; have := HK2.out; have := HK3.out; have := HK4.out; have := HK5.out; omega⟩, ⟨by (try simp only [hl7_3]); (with_reducible repeat (first | apply Kd.R_alloc | apply Kd.R_drewN | apply Kd.R_drew)); exact Kd.R_mono (Kd.R_far (p := ⟨gb201, 1, none⟩) (Kd.R_types HO_7.out BK201.out (by decide)) (fun _ hk => hk.2) (.int .i64 (wrap64 (-(rd x7_3 (ji145)))))) (fun _ hk => trivial)⟩, ⟨by (try simp only [hl7_3]); (with_reducible repeat (first | apply Kd.R_alloc | apply Kd.R_drewN | apply Kd.R_drew)); exact Kd.R_mono (Kd.R_far (p := ⟨gb201, 1, none⟩) (Kd.R_mono HO_192000.out (fun k_ hk => (⟨hk, hk.2⟩ : _ ∧ k_ ≠ gb201))) (fun _ hk => hk.2) (.int .i64 (wrap64 (-(rd x7_3 (ji145)))))) (fun _ hk => ⟨hk.1.1, hk.1.2⟩)⟩, ⟨by (try simp only [hl7_3]); (with_reducible repeat (first | apply Kd.R_alloc | apply Kd.R_drewN | apply Kd.R_drew)); exact Kd.R_mono (Kd.R_far (p := ⟨gb201, 1, none⟩) (Kd.R_mono HO_192001.out (fun k_ hk => (⟨hk, hk.2⟩ : _ ∧ k_ ≠ gb201))) (fun _ hk => hk.2) (.int .i64 (wrap64 (-(rd x7_3 (ji145)))))) (fun _ hk => ⟨hk.1.1, hk.1.2⟩)⟩, ⟨by (try simp only [hl7_3]); (with_reducible repeat (first | refine blk_drewN ?_ _ | refine blk_drew ?_ | refine blk_alloc ?_ _)); refine blk_far ?_ NB180_201.out _; (with_reducible repeat (first | refine blk_drewN ?_ _ | refine blk_drew ?_ | refine blk_alloc ?_ _)); exact BK180.out⟩, ⟨by (try simp only [hl7_3]); (with_reducible repeat (first | refine blk_drewN ?_ _ | refine blk_drew ?_ | refine blk_alloc ?_ _)); refine blk_far ?_ NB181_201.out _; (with_reducible repeat (first | refine blk_drewN ?_ _ | refine blk_drew ?_ | refine blk_alloc ?_ _)); exact BK181.out⟩, ⟨by (try simp only [hl7_3]); (with_reducible repeat (first | refine blk_drewN ?_ _ | refine blk_drew ?_ | refine blk_alloc ?_ _)); refine blk_far ?_ NB191_201.out _; (with_reducible repeat (first | refine blk_drewN ?_ _ | refine blk_drew ?_ | refine blk_alloc ?_ _)); exact BK191.out⟩, ⟨by (try simp only [hl7_3]); (with_reducible repeat (first | refine blk_drewN ?_ _ | refine blk_drew ?_ | refine blk_alloc ?_ _)); refine blk_put (cs := #[.int .i64 x202000_5, .int .i64 x202001_5]) ?_ 1 _ rfl; (with_reducible repeat (first | refine blk_drewN ?_ _ | refine blk_drew ?_ | refine blk_alloc ?_ _)); exact BK201.out⟩, ⟨tB HB.out⟩⟩
                              ·
                               rw [if_neg c147] at H
                               exact absurd H (by simp)
                             ·
                              rw [if_neg c146] at H
                              exact absurd H (by simp)
                            ·
                             rw [if_neg c144] at H
                             have c144b0 : decide (x202001_5 < 0) = false := decide_eq_false c144
                             clear c144
                             have H' := Aside0.mk H
                             clear H
                             have hnb152 := NB201_180.out
                             have hnc152 := NB180_201.out
                             have hnb153 := NB201_181.out
                             have hnc153 := NB181_201.out
                             have hnb154 := NB201_191.out
                             have hnc154 := NB191_201.out
                             obtain ⟨hcz155_0, hfz155_0, hcz155_1, hfz155_1⟩ := cz2 BK201
                             go_wp2
                             go_roundg k5
                             case measure => have := HJ2.out; have := HK2.out; have := HK3.out; have := HK4.out; have := HK5.out; omega
                             case rel => exact ⟨(wrap64 (1 + 1)), (x202000_5), (x202001_5), (by first | rfl | (simp; done) | (simp [wrap64]; done) | (simp [*]; done)), H', ⟨by have := HJ2.out; have := HK2.out; have := HK3.out; have := HK4.out; have := HK5.out; omega⟩, ⟨by (try simp only [hl7_3]); (with_reducible repeat (first | apply Kd.R_alloc | apply Kd.R_drewN | apply Kd.R_drew)); exact HO_7.out⟩, ⟨by (try simp only [hl7_3]); (with_reducible repeat (first | apply Kd.R_alloc | apply Kd.R_drewN | apply Kd.R_drew)); exact HO_192000.out⟩, ⟨by (try simp only [hl7_3]); (with_reducible repeat (first | apply Kd.R_alloc | apply Kd.R_drewN | apply Kd.R_drew)); exact HO_192001.out⟩, ⟨by (try simp only [hl7_3]); (with_reducible repeat (first | refine blk_drewN ?_ _ | refine blk_drew ?_ | refine blk_alloc ?_ _)); exact BK180.out⟩, ⟨by (try simp only [hl7_3]); (with_reducible repeat (first | refine blk_drewN ?_ _ | refine blk_drew ?_ | refine blk_alloc ?_ _)); exact BK181.out⟩, ⟨by (try simp only [hl7_3]); (with_reducible repeat (first | refine blk_drewN ?_ _ | refine blk_drew ?_ | refine blk_alloc ?_ _)); exact BK191.out⟩, ⟨by (try simp only [hl7_3]); (with_reducible repeat (first | refine blk_drewN ?_ _ | refine blk_drew ?_ | refine blk_alloc ?_ _)); exact BK201.out⟩, ⟨tB HB.out⟩⟩
                          ·
                           rw [if_neg c138] at H
                           exact absurd H (by simp)
                        ·
                         rw [if_neg c119] at H
                         have c119b0 : decide (x16_5 < 2) = false := decide_eq_false c119
                         clear c119
                         by_cases c156 : 0 ≤ x14_4
                         ·
                          rw [if_pos c156] at H
                          have c156b0 : decide (0 ≤ x14_4) = true := decide_eq_true c156
                          clear c156
                          by_cases c157 : x14_4 < (l0_0.length : Int)
                          ·
                           rw [if_pos c157] at H
                           have c157b0 : decide (x14_4 < (l0_0.length : Int)) = true := decide_eq_true c157
                           clear c157
                           by_cases c158 : x192000_4.length < 8796093022208
                           ·
                            rw [if_pos c158] at H
                            have LMc158 := Aside0.mk c158
                            clear c158
                            obtain ⟨y203, hy203⟩ : ∃ y_ : List (S58), y_ = (x192000_4 ++ [(⟨(rd_T58 l0_0 x14_4).f0, (rd_T58 l0_0 x14_4).f1⟩ : S58)]) := ⟨_, rfl⟩
                            replace H : (if x192001_4.length < 8796093022208 then (spec_CutRod.l3 k5 a1 (rd t183 a1) x7_3 (wrap64 (x14_4 + 1)) l0_0 l0_1 y203 (x192001_4 ++ [(⟨x202000_5, x202001_5⟩ : S58)])) else (none)) = some (r1, r2, r3) := by first | (rw [hy203]; with_reducible exact H) | (have H2_ := (Option.bind_some _ _).symm.trans H; rw [hy203]; with_reducible exact H2_) | (have H2_ := (Option.bind_some _ _).symm.trans H; with_reducible exact H2_) | with_reducible exact H | (rw [hy203]; exact H) | exact H
                            have Ny203 := Aside0.mk hy203
                            clear hy203
                            by_cases c159 : x192001_4.length < 8796093022208
                            ·
                             rw [if_pos c159] at H
                             have LMc159 := Aside0.mk c159
                             clear c159
                             obtain ⟨y206, hy206⟩ : ∃ y_ : List (S58), y_ = (x192001_4 ++ [(⟨x202000_5, x202001_5⟩ : S58)]) := ⟨_, rfl⟩
                             replace H : (spec_CutRod.l3 k5 a1 (rd t183 a1) x7_3 (wrap64 (x14_4 + 1)) l0_0 l0_1 y203 y206) = some (r1, r2, r3) := by first | (rw [hy206]; with_reducible exact H) | (have H2_ := (Option.bind_some _ _).symm.trans H; rw [hy206]; with_reducible exact H2_) | (have H2_ := (Option.bind_some _ _).symm.trans H; with_reducible exact H2_) | with_reducible exact H | (rw [hy206]; exact H) | exact H
                             have Ny206 := Aside0.mk hy206
                             clear hy206
                             have H' := Aside0.mk H
                             clear H
                             try go_wp2
                             replace HO_7 := Aside0.mk (Kd.R_drew HO_7.out)
                             replace HO_192000 := Aside0.mk (Kd.R_drew HO_192000.out)
                             replace HO_192001 := Aside0.mk (Kd.R_drew HO_192001.out)
                             replace BK180 := Aside0.mk (blk_drew BK180.out)
                             replace BK181 := Aside0.mk (blk_drew BK181.out)
                             replace BK191 := Aside0.mk (blk_drew BK191.out)
                             replace BK201 := Aside0.mk (blk_drew BK201.out)
                             replace HB := Aside0.mk (below_drew1 HB.out)
                             have p202 : 0 ≤ (x14_4 : Int) := of_decide_eq_true (by first | (with_reducible assumption) | assumption)
                             have q202 : x14_4 < (l0_0.length : Int) := of_decide_eq_true (by first | (with_reducible assumption) | assumption)
                             obtain ⟨ad202, e202, hx202_0, hx202_1⟩ := at_T58 HR0_0.out x14_4 p202 q202
                             have hw202_1 := hx202_1
                             have hw202_0 := hx202_0
                             cases e202
                             replace hx202_0 := (HB.out.cell (World.block_lt_of_cell? w _ hx202_0)).trans hx202_0
                             replace hx202_1 := (HB.out.cell (World.block_lt_of_cell? w _ hx202_1)).trans hx202_1
                             replace p202 := eq_true p202
                             replace q202 := eq_true q202
                             refine start_ (n := 11) (S := fun w' => w'.cell? ⟨gb191, 0, none⟩ = some (u192000) ∧ w'.cell? ⟨gb191, 1, none⟩ = some (u192001) ∧ w'.cell? ⟨gb180, 0, none⟩ = some (.slice (some ad202) l0_0.length c0_0) ∧ w'.cell? ⟨gb180, 1, none⟩ = some (.slice (some ad200) l0_1.length c0_1) ∧ w'.cell? (ad202.add ((x14_4).toNat * 2)) = some (.int .i64 ((rd_T58 l0_0 x14_4).f0)) ∧ w'.cell? ⟨(ad202.add ((x14_4).toNat * 2)).block, (ad202.add ((x14_4).toNat * 2)).off + 1, none⟩ = some (.int .i64 ((rd_T58 l0_0 x14_4).f1))) (ds := [10]) #[false, false, false, false, false, false, false, false, false, false, false] (by kernel_rfl) rfl rfl ⟨(blk_cell BK191.out 0).trans rfl, (blk_cell BK191.out 1).trans rfl, (blk_cell BK180.out 0).trans rfl, (blk_cell BK180.out 1).trans rfl, ((HB.out.cell (World.block_lt_of_cell? w _ hw202_0)).trans hw202_0), ((HB.out.cell (World.block_lt_of_cell? w _ hw202_1)).trans hw202_1)⟩ (fun hHeld => ?_); refine with_tabW spec_CutRod.tab35 spec_CutRod.bits35 (fun HT_ HW_ => ?_)
                             generalize wr.drew = w160 at HO_7 HO_192000 HO_192001 BK180 BK181 BK191 BK201 HB hx202_0 hx202_1 hHeld ⊢
                             refine pure_ (i := 0) (N := some 133) (v := ?_) (a' := ?_) #[true, false, false, false, false, false, false, false, false, false, false] rfl rfl (any_of HT_.out (by kernel_rfl)) (fun _ _ _ h => h) (Or.inl ⟨by rfl, ?_⟩) ?_ ?_
                             rotate_left
                             ·
                              intro w'
                              go_simp
                              with_reducible rfl
                             rotate_left
                             ·
                              simp only [Act.put, List.setIfInBounds_toArray, List.set_cons_zero, List.set_cons_succ, i64_w, i32_w]
                              rfl
                             refine pure_ (i := 2) (N := some 135) (v := ?_) (a' := ?_) #[true, false, true, false, false, false, false, false, false, false, false] rfl rfl (any_of HT_.out (by kernel_rfl)) (fun _ _ _ h => h) (Or.inl ⟨by rfl, ?_⟩) ?_ ?_
                             rotate_left
                             ·
                              intro w'
                              go_simp
                              with_reducible rfl
                             rotate_left
                             ·
                              simp only [Act.put, List.setIfInBounds_toArray, List.set_cons_zero, List.set_cons_succ, i64_w, i32_w]
                              rfl
                             refine pure_ (i := 4) (N := some 137) (v := ?_) (a' := ?_) #[true, false, true, false, true, false, false, false, false, false, false] rfl rfl (any_of HT_.out (by kernel_rfl)) (fun _ _ _ h => h) (Or.inl ⟨by rfl, ?_⟩) ?_ ?_
                             rotate_left
                             ·
                              intro w'
                              go_simp
                              with_reducible rfl
                             rotate_left
                             ·
                              simp only [Act.put, List.setIfInBounds_toArray, List.set_cons_zero, List.set_cons_succ, i64_w, i32_w]
                              rfl
                             refine take_ (i := 1) (N := some 134) (v := ?_) (a' := ?_) #[true, true, true, false, true, false, false, false, false, false, false] rfl rfl (take_ofW HT_.out HW_.out (by kernel_rfl)) (fun _ _ _ h => h) (Or.inl ⟨by rfl, ?_⟩) hHeld ?_ ?_
                             rotate_left
                             ·
                              rintro w' ⟨s0, s1, s2, s3, s4, s5⟩
                              go_simp
                              with_reducible rfl
                             rotate_left
                             ·
                              simp only [Act.put, List.setIfInBounds_toArray, List.set_cons_zero, List.set_cons_succ, i64_w, i32_w]
                              rfl
                             refine take_ (i := 3) (N := some 136) (v := ?_) (a' := ?_) #[true, true, true, true, true, false, false, false, false, false, false] rfl rfl (take_ofW HT_.out HW_.out (by kernel_rfl)) (fun _ _ _ h => h) (Or.inl ⟨by rfl, ?_⟩) hHeld ?_ ?_
                             rotate_left
                             ·
                              rintro w' ⟨s0, s1, s2, s3, s4, s5⟩
                              go_simp
                              with_reducible rfl
                             rotate_left
                             ·
                              simp only [Act.put, List.setIfInBounds_toArray, List.set_cons_zero, List.set_cons_succ, i64_w, i32_w]
                              rfl
                             refine pure_ (i := 5) (N := some 138) (v := ?_) (a' := ?_) #[true, true, true, true, true, true, false, false, false, false, false] rfl rfl (any_of HT_.out (by kernel_rfl)) (fun _ _ _ h => h) (Or.inl ⟨by rfl, ?_⟩) ?_ ?_
                             rotate_left
                             ·
                              intro w'
                              go_simp
                              with_reducible rfl
                             rotate_left
                             ·
                              simp only [Act.put, List.setIfInBounds_toArray, List.set_cons_zero, List.set_cons_succ, i64_w, i32_w]
                              rfl
                             refine take_ (i := 6) (N := some 139) (v := ?_) (a' := ?_) #[true, true, true, true, true, true, true, false, false, false, false] rfl rfl (take_ofW HT_.out HW_.out (by kernel_rfl)) (fun _ _ _ h => h) (Or.inl ⟨by rfl, ?_⟩) hHeld ?_ ?_
                             rotate_left
                             ·
                              rintro w' ⟨s0, s1, s2, s3, s4, s5⟩
                              go_simp
                              with_reducible rfl
                             rotate_left
                             ·
                              simp only [Act.put, List.setIfInBounds_toArray, List.set_cons_zero, List.set_cons_succ, i64_w, i32_w]
                              rfl
                             refine one_ (i := 7) (N := some 140) #[true, true, true, true, true, true, true, true, false, false, false] rfl rfl (one_of HT_.out (by kernel_rfl)) (by decide) (fun K hK => ?_)
                             refine value_ (w1 := ?_) (v := ?_) (by rfl) rfl ?_ ?_
                             rotate_left 2
                             ·
                              go_simp
                              constructor
                              ·
                               rfl
                              ·
                               rfl
                             refine hK.out _ _ ⟨(blk_cell (blk_alloc BK191.out _) 0).trans rfl, (blk_cell (blk_alloc BK191.out _) 1).trans rfl, (blk_cell (blk_alloc BK180.out _) 0).trans rfl, (blk_cell (blk_alloc BK180.out _) 1).trans rfl, (World.cell?_alloc_lt _ _ _ (World.block_lt_of_cell? _ _ (((HB.out.cell (World.block_lt_of_cell? w _ hw202_0)).trans hw202_0)))).trans (((HB.out.cell (World.block_lt_of_cell? w _ hw202_0)).trans hw202_0)), (World.cell?_alloc_lt _ _ _ (World.block_lt_of_cell? _ _ (((HB.out.cell (World.block_lt_of_cell? w _ hw202_1)).trans hw202_1)))).trans (((HB.out.cell (World.block_lt_of_cell? w _ hw202_1)).trans hw202_1))⟩ (fun hHeld => ?_)
                             clear hK K
                             refine norm_ (a' := ?_) ?_ ?_
                             rotate_left
                             ·
                              show Act.put _ (some 140) _ = _
                              simp only [Act.put, List.setIfInBounds_toArray, List.set_cons_zero, List.set_cons_succ, i64_w, i32_w]
                              rfl
                             refine one_ (i := 8) (N := some 141) #[true, true, true, true, true, true, true, true, true, false, false] rfl rfl (one_of HT_.out (by kernel_rfl)) (by decide) (fun K hK => ?_)
                             refine Kd.R_append_step k58 (w0 := w) w.heap.size (by rfl) (.tmp 134) (.tmp 140) 22 58 (.agg #[(.int .i64 0), (.int .i64 0)]) 16 rfl Try.underlying22 info58 rfl (by decide) (by omega) u192000 x192000_4 (⟨(rd_T58 l0_0 x14_4).f0, (rd_T58 l0_0 x14_4).f1⟩ : S58) [.int .i64 ((rd_T58 l0_0 x14_4).f0), .int .i64 ((rd_T58 l0_0 x14_4).f1)] (fun k_ => some k_ ≠ (u192001 : Value).ownBlock ∧ k_ ≠ gb201) (fun _ => False) rfl rfl ?aP (fun _ hk => hk.elim) ?aF ?aO ?aB ?aS ?aL ?_
                             (case aP => exact k58_mkM _ _ _ (⟨(rd_T58 l0_0 x14_4).f0, (rd_T58 l0_0 x14_4).f1⟩ : S58))
                             (case aB => exact (tB HB.out))
                             (case aF => exact (fun k_ hk => ⟨Kd.fresh' (Kd.R_lt (tR HO_192001.out)) k_ hk, Kd.freshB (g := gb201) (o := .cells #[.int .i64 x202000_5, .int .i64 x202001_5] 58 (0, 0)) (tK BK201.out) k_ hk⟩))
                             (case aO => exact (tR HO_192000.out))
                             (case aS => exact (below_size (tB HB.out)))
                             (case aL => have := LMc158.out; omega)
                             intro v204 w161 ho hb hg hat
                             rw [← Ny203.out] at ho
                             replace HO_7 := Aside0.mk (Kd.R_over' (tR HO_7.out) (Kd.R_typed (tR HO_192000.out)) (by decide) hg)
                             replace HO_192001 := Aside0.mk (Kd.R_after (ok := (fun k_ => k_ ≠ gb201)) (by (with_reducible repeat (first | apply Kd.R_alloc | apply Kd.R_drewN | apply Kd.R_drew)); exact Kd.R_mono HO_192001.out (fun _ hk => ⟨hk.2, hk.1⟩)) hg hat)
                             replace BK180 := Aside0.mk (blk_grown (g := gb180) (o := .cells #[.slice (some ad202) l0_0.length c0_0, .slice (some ad200) l0_1.length c0_1] 27 (0, 0)) (tK BK180.out) hg (Kd.R_ne HO_192000.out BK180.out (by decide)))
                             replace BK181 := Aside0.mk (blk_grown (g := gb181) (o := .cells #[.slice none 0 0, .slice none 0 0] 27 (0, 0)) (tK BK181.out) hg (Kd.R_ne HO_192000.out BK181.out (by decide)))
                             replace BK191 := Aside0.mk (blk_grown (g := gb191) (o := .cells #[u192000, u192001] 27 (0, 0)) (tK BK191.out) hg (Kd.R_ne HO_192000.out BK191.out (by decide)))
                             replace BK201 := Aside0.mk (blk_grown (g := gb201) (o := .cells #[.int .i64 x202000_5, .int .i64 x202001_5] 58 (0, 0)) (tK BK201.out) hg (Kd.R_away HO_192000.out (fun _ hk => hk.2)))
                             replace HB := Aside0.mk (hb)
                             have HO205 := Aside0.mk (ho)
                             clear HO_192000
                             clear ho hb hg hat
                             obtain ⟨Ao162, co162, eo162⟩ := Kd.R_slice HO205.out
                             (first | subst eo162 | (injection eo162 with f1_ f2_ f3_; have f4_ := f1_.symm; have f5_ := f3_.symm; clear f1_ f2_ f3_; subst f4_; subst f5_))
                             refine hK.out _ _ ⟨(blk_cell BK191.out 0).trans rfl, (blk_cell BK191.out 1).trans rfl, (blk_cell BK180.out 0).trans rfl, (blk_cell BK180.out 1).trans rfl, ((HB.out.cell (World.block_lt_of_cell? w _ hw202_0)).trans hw202_0), ((HB.out.cell (World.block_lt_of_cell? w _ hw202_1)).trans hw202_1)⟩ (fun hHeld => ?_)
                             clear hK K
                             refine norm_ (a' := ?_) ?_ ?_
                             rotate_left
                             ·
                              show Act.put _ (some 141) _ = _
                              simp only [Act.put, List.setIfInBounds_toArray, List.set_cons_zero, List.set_cons_succ, i64_w, i32_w]
                              rfl
                             refine pure_ (i := 9) (N := some 142) (v := ?_) (a' := ?_) #[true, true, true, true, true, true, true, true, true, true, false] rfl rfl (any_of HT_.out (by kernel_rfl)) (fun _ _ _ h => h) (Or.inl ⟨by rfl, ?_⟩) ?_ ?_
                             rotate_left
                             ·
                              intro w'
                              go_simp
                              with_reducible rfl
                             rotate_left
                             ·
                              simp only [Act.put, List.setIfInBounds_toArray, List.set_cons_zero, List.set_cons_succ, i64_w, i32_w]
                              rfl
                             refine last_ (i := 10) (N := none) #[true, true, true, true, true, true, true, true, true, true, true] rfl rfl (one_of HT_.out (by kernel_rfl)) (by decide) (fun K hK => ?_)
                             have hs163 : w161.cell? ⟨gb191, 0, none⟩ = some (u192000) := (blk_cell BK191.out 0).trans rfl
                             have hfs163 := blk_frozen BK191.out 0
                             have hns163_0 := NB180_191.out
                             have hns163_1 := NB181_191.out
                             have hns163_3 := NB201_191.out
                             have hms163_0 := NB191_180.out
                             have hms163_1 := NB191_181.out
                             have hms163_3 := NB191_201.out
                             refine skip_ (w1 := ?_) (by rfl) rfl ?_ ?_
                             rotate_left
                             ·
                              go_simp
                              rfl
                             refine hK.out _ _ ?_
                             clear hK K
                             refine done_ (done_of HT_.out (by kernel_rfl)) ?_
                             have hnb164 := NB191_180.out
                             have hnc164 := NB180_191.out
                             have hnb165 := NB191_181.out
                             have hnc165 := NB181_191.out
                             have hnb166 := NB191_201.out
                             have hnc166 := NB201_191.out
                             obtain ⟨hcz167_0, hfz167_0, hcz167_1, hfz167_1⟩ := cz2 BK191
                             have hnb168 := NB201_180.out
                             have hnc168 := NB180_201.out
                             have hnb169 := NB201_181.out
                             have hnc169 := NB181_201.out
                             obtain ⟨hcz170_0, hfz170_0, hcz170_1, hfz170_1⟩ := cz2 BK201
                             try go_wp2_with (first | ((with_reducible refine gate_builtin (b := .append) (xs := #[.tmp 144, .tmp 146]) rfl ?_); at_builtin; refine Kd.R_append k58 (w0 := w) w.heap.size rfl (.tmp 144) (.tmp 146) 22 58 (.agg #[(.int .i64 0), (.int .i64 0)]) 16 rfl Try.underlying22 info58 rfl (by decide) (by omega) u192001 x192001_4 (⟨x202000_5, x202001_5⟩ : S58) [.int .i64 x202000_5, .int .i64 x202001_5] (fun k_ => some k_ ≠ (.slice Ao162 y203.length co162 : Value).ownBlock ∧ k_ ≠ gb201) (fun _ => False) rfl (by first | (go_simp; done) | (go_simp; rfl)) ?aP (fun _ hk => hk.elim) ?aF ?aO ?aB ?aS ?aL ?_; (case aP => exact k58_mkM _ _ _ (⟨x202000_5, x202001_5⟩ : S58)); (case aB => exact (tB HB.out)); (case aF => exact (fun k_ hk => ⟨Kd.fresh' (Kd.R_lt (by (with_reducible repeat (first | apply Kd.R_alloc | apply Kd.R_drewN | apply Kd.R_drew)); exact (Kd.R_mono (Kd.R_far (p := ⟨gb191, 0, none⟩) (Kd.R_types HO205.out BK191.out (by decide)) (fun _ hk => hk.2) (.slice Ao162 y203.length co162)) (fun _ h_ => h_.1)))) k_ hk, Kd.freshB (g := gb201) (o := .cells #[.int .i64 x202000_5, .int .i64 x202001_5] 58 (0, 0)) (by (with_reducible repeat (first | refine blk_drewN ?_ _ | refine blk_drew ?_ | refine blk_alloc ?_ _)); refine blk_far ?_ NB201_191.out _; (with_reducible repeat (first | refine blk_drewN ?_ _ | refine blk_drew ?_ | refine blk_alloc ?_ _)); exact BK201.out) k_ hk⟩)); (case aO => exact (by (with_reducible repeat (first | apply Kd.R_alloc | apply Kd.R_drewN | apply Kd.R_drew)); exact Kd.R_mono (Kd.R_far (p := ⟨gb191, 0, none⟩) (Kd.R_types HO_192001.out BK191.out (by decide)) (fun _ hk => hk.2) (.slice Ao162 y203.length co162)) (fun _ hk => ⟨hk.1.2, hk.1.1⟩))); (case aS => exact (below_size (tB HB.out))); (case aL => have := LMc159.out; omega); intro v207 w171 ho hb hg hat; rw [← Ny206.out] at ho; replace HO_7 := Aside0.mk (Kd.R_over' (by (with_reducible repeat (first | apply Kd.R_alloc | apply Kd.R_drewN | apply Kd.R_drew)); exact (Kd.R_mono (Kd.R_far (p := ⟨gb191, 0, none⟩) (Kd.R_types HO_7.out BK191.out (by decide)) (fun _ hk => hk.2) (.slice Ao162 y203.length co162)) (fun _ h_ => h_.1))) (Kd.R_typed (by (with_reducible repeat (first | apply Kd.R_alloc | apply Kd.R_drewN | apply Kd.R_drew)); exact (Kd.R_mono (Kd.R_far (p := ⟨gb191, 0, none⟩) (Kd.R_types HO_192001.out BK191.out (by decide)) (fun _ hk => hk.2) (.slice Ao162 y203.length co162)) (fun _ h_ => h_.1)))) (by decide) hg); replace BK180 := Aside0.mk (blk_grown (g := gb180) (o := .cells #[.slice (some ad202) l0_0.length c0_0, .slice (some ad200) l0_1.length c0_1] 27 (0, 0)) (by (with_reducible repeat (first | refine blk_drewN ?_ _ | refine blk_drew ?_ | refine blk_alloc ?_ _)); refine blk_far ?_ NB180_191.out _; (with_reducible repeat (first | refine blk_drewN ?_ _ | refine blk_drew ?_ | refine blk_alloc ?_ _)); exact BK180.out) hg (Kd.R_ne HO_192001.out BK180.out (by decide))); replace BK181 := Aside0.mk (blk_grown (g := gb181) (o := .cells #[.slice none 0 0, .slice none 0 0] 27 (0, 0)) (by (with_reducible repeat (first | refine blk_drewN ?_ _ | refine blk_drew ?_ | refine blk_alloc ?_ _)); refine blk_far ?_ NB181_191.out _; (with_reducible repeat (first | refine blk_drewN ?_ _ | refine blk_drew ?_ | refine blk_alloc ?_ _)); exact BK181.out) hg (Kd.R_ne HO_192001.out BK181.out (by decide))); replace BK201 := Aside0.mk (blk_grown (g := gb201) (o := .cells #[.int .i64 x202000_5, .int .i64 x202001_5] 58 (0, 0)) (by (with_reducible repeat (first | refine blk_drewN ?_ _ | refine blk_drew ?_ | refine blk_alloc ?_ _)); refine blk_far ?_ NB201_191.out _; (with_reducible repeat (first | refine blk_drewN ?_ _ | refine blk_drew ?_ | refine blk_alloc ?_ _)); exact BK201.out) hg (Kd.R_away HO_192001.out (fun _ hk => hk.1))); replace HO205 := Aside0.mk (Kd.R_after (ok := (fun k_ => k_ ≠ gb201)) (by (with_reducible repeat (first | apply Kd.R_alloc | apply Kd.R_drewN | apply Kd.R_drew)); exact Kd.R_mono (Kd.R_far (p := ⟨gb191, 0, none⟩) (Kd.R_types HO205.out BK191.out (by decide)) (fun _ hk => hk.2) (.slice Ao162 y203.length co162)) (fun _ hk => ⟨hk.1.2, hk.1.1⟩)) hg hat); replace BK191 := Aside0.mk (blk_grown (g := gb191) (o := .cells #[.slice Ao162 y203.length co162, u192001] 27 (0, 0)) (by (with_reducible repeat (first | refine blk_drewN ?_ _ | refine blk_drew ?_ | refine blk_alloc ?_ _)); refine blk_put (cs := #[u192000, u192001]) ?_ 0 _ rfl; (with_reducible repeat (first | refine blk_drewN ?_ _ | refine blk_drew ?_ | refine blk_alloc ?_ _)); exact BK191.out) hg (Kd.R_ne HO_192001.out BK191.out (by decide))); replace HB := Aside0.mk (hb); have HO208 := Aside0.mk (ho); clear HO_192001; clear ho hb hg hat; obtain ⟨Ao172, co172, eo172⟩ := Kd.R_slice HO208.out; subst eo172; obtain ⟨hcz173_0, hfz173_0, hcz173_1, hfz173_1⟩ := cz2 BK191))
                             go_roundg k5
                             case measure => have := HJ2.out; have := HK2.out; have := HK3.out; have := HK4.out; have := HK5.out; omega
                             case rel => exact ⟨(wrap64 (x14_4 + 1)), (y203), (y206), (.slice Ao162 y203.length co162), (.slice Ao172 y206.length co172), (by first | rfl | (simp; done) | (simp [wrap64]; done) | (simp [*]; done)), H', ⟨by have := HJ2.out; have := HK2.out; have := HK3.out; have := HK4.out; have := HK5.out; omega⟩, ⟨by (try simp only [hl7_3]); (with_reducible repeat (first | apply Kd.R_alloc | apply Kd.R_drewN | apply Kd.R_drew)); exact Kd.R_mono (Kd.R_far (p := ⟨gb191, 1, none⟩) (Kd.R_types HO_7.out BK191.out (by decide)) (fun _ hk => hk.2) (.slice Ao172 y206.length co172)) (fun _ hk => trivial)⟩, ⟨by (try simp only [hl7_3]); (with_reducible repeat (first | apply Kd.R_alloc | apply Kd.R_drewN | apply Kd.R_drew)); exact Kd.R_mono (Kd.R_far (p := ⟨gb191, 1, none⟩) (Kd.R_types HO205.out BK191.out (by decide)) (fun _ hk => hk.2) (.slice Ao172 y206.length co172)) (fun _ hk => hk.1.2)⟩, ⟨by (try simp only [hl7_3]); (with_reducible repeat (first | apply Kd.R_alloc | apply Kd.R_drewN | apply Kd.R_drew)); exact Kd.R_mono (Kd.R_far (p := ⟨gb191, 1, none⟩) (Kd.R_types HO208.out BK191.out (by decide)) (fun _ hk => hk.2) (.slice Ao172 y206.length co172)) (fun _ hk => hk.1.1)⟩, ⟨by (try simp only [hl7_3]); (with_reducible repeat (first | refine blk_drewN ?_ _ | refine blk_drew ?_ | refine blk_alloc ?_ _)); refine blk_far ?_ NB180_191.out _; (with_reducible repeat (first | refine blk_drewN ?_ _ | refine blk_drew ?_ | refine blk_alloc ?_ _)); exact BK180.out⟩, ⟨by (try simp only [hl7_3]); (with_reducible repeat (first | refine blk_drewN ?_ _ | refine blk_drew ?_ | refine blk_alloc ?_ _)); refine blk_far ?_ NB181_191.out _; (with_reducible repeat (first | refine blk_drewN ?_ _ | refine blk_drew ?_ | refine blk_alloc ?_ _)); exact BK181.out⟩, ⟨by (try simp only [hl7_3]); (with_reducible repeat (first | refine blk_drewN ?_ _ | refine blk_drew ?_ | refine blk_alloc ?_ _)); refine blk_put (cs := #[.slice Ao162 y203.length co162, u192001]) ?_ 1 _ rfl; (with_reducible repeat (first | refine blk_drewN ?_ _ | refine blk_drew ?_ | refine blk_alloc ?_ _)); exact BK191.out⟩, ⟨tB HB.out⟩⟩
                            ·
                             rw [if_neg c159] at H
                             exact absurd H (by simp)
                           ·
                            rw [if_neg c158] at H
                            exact absurd H (by simp)
                          ·
                           rw [if_neg c157] at H
                           exact absurd H (by simp)
                         ·
                          rw [if_neg c156] at H
                          exact absurd H (by simp)
                     ·
                      rw [if_neg c110] at H
                      exact absurd H (by simp)
                   ·
                    rw [if_neg c105] at H
                    exact absurd H (by simp)
                  ·
                   rw [if_neg c104] at H
                   exact absurd H (by simp)
                 ·
                  rw [if_neg c103] at H
                  have c103b0 : decide (x14_4 < (l0_0.length : Int)) = false := decide_eq_false c103
                  clear c103
                  replace H := Option.bind_eq_some_iff.mp H
                  obtain ⟨t198, A1740, H⟩ := H
                  replace H : (if t198 = true then (some (x192000_4, x192001_4, true)) else (some (([] : List (S58)), ([] : List (S58)), false))) = some (r1, r2, r3) := H
                  have A174 := Aside0.mk A1740
                  clear A1740
                  by_cases c175 : t198 = true
                  ·
                   subst c175
                   have H1 : (some (x192000_4, x192001_4, true)) = some (r1, r2, r3) := by rw [if_pos rfl] at H; exact H
                   clear H
                   have H := H1
                   clear H1
                   simp only [Option.some.injEq, Prod.mk.injEq] at H
                   obtain ⟨rfl, rfl, rfl⟩ := H
                   have hnb176 := NB180_181.out
                   have hnc176 := NB181_180.out
                   have hnb177 := NB180_191.out
                   have hnc177 := NB191_180.out
                   obtain ⟨hcz178_0, hfz178_0, hcz178_1, hfz178_1⟩ := cz2 BK180
                   have hnb179 := NB191_181.out
                   have hnc179 := NB181_191.out
                   obtain ⟨hcz180_0, hfz180_0, hcz180_1, hfz180_1⟩ := cz2 BK191
                   obtain ⟨Ao181, co181, eo181⟩ := Kd.R_slice HO_192000.out
                   subst eo181
                   obtain ⟨Ao182, co182, eo182⟩ := Kd.R_slice HO_192001.out
                   subst eo182
                   go_wp2_with (first | ((with_reducible refine gate_callee (f := 52) rfl ?_); refine goesL_ (some 150) rfl rfl Try.func52 (by kernel_rfl) rfl #[.agg #[.slice Ao181 x192000_4.length co181, .slice Ao182 x192001_4.length co182]] rfl tM ?_; (with_reducible refine (spec_l5Good.calls k4 _ _ x192000_4 _ _ x192001_4 true _ ?side1 ?side2 ?side3 ?side4 A174.out).mono ?_); (case side1 => exact tC (Kd.R_reads' HO_192000.out).2.2); (case side2 => exact (Kd.R_reads' HO_192000.out).2.1); (case side3 => exact tC (Kd.R_reads' HO_192001.out).2.2); (case side4 => exact (Kd.R_reads' HO_192001.out).2.1); rintro e w183 ⟨rfl, hb⟩; refine ⟨_, rfl, ?_⟩; replace HO_7 := Aside0.mk (Kd.R_below (tR HO_7.out) hb); replace HO_192000 := Aside0.mk (Kd.R_below (tR HO_192000.out) hb); replace HO_192001 := Aside0.mk (Kd.R_below (tR HO_192001.out) hb); replace BK180 := bkB BK180 hb; replace BK181 := bkB BK181 hb; replace BK191 := bkB BK191 hb; replace HB := Aside0.mk (below_step (tB HB.out) hb); (try clear hb); (try clear hb2); (try clear hk); (try clear hi); obtain ⟨hcz184_0, hfz184_0, hcz184_1, hfz184_1⟩ := cz2 BK191; obtain ⟨hcz185_0, hfz185_0, hcz185_1, hfz185_1⟩ := cz2 BK181))
                   refine bodyPost_ret (results_ct rfl _ _ gb181 27 #[.slice Ao181 x192000_4.length co181, .slice Ao182 x192001_4.length co182] (0, 0) _ rfl (by (with_reducible repeat (first | refine blk_drewN ?_ _ | refine blk_drew ?_ | refine blk_alloc ?_ _)); refine blk_put (cs := #[.slice Ao181 x192000_4.length co181, .slice none 0 0]) ?_ 1 _ rfl; (with_reducible repeat (first | refine blk_drewN ?_ _ | refine blk_drew ?_ | refine blk_alloc ?_ _)); refine blk_put (cs := #[.slice none 0 0, .slice none 0 0]) ?_ 0 _ rfl; (with_reducible repeat (first | refine blk_drewN ?_ _ | refine blk_drew ?_ | refine blk_alloc ?_ _)); exact BK181.out) Try.underlying27 rfl (by kernel_rfl)) rfl ?_
                   exact ⟨_, _, by first | rfl | (simp [errW_none, errW_some] <;> rfl) | (simp [*, errW_none, errW_some] <;> rfl), by (with_reducible repeat (first | apply Kd.R_alloc | apply Kd.R_drewN | apply Kd.R_drew)); exact Kd.R_mono (Kd.R_far (p := ⟨gb181, 1, none⟩) (Kd.R_far (p := ⟨gb181, 0, none⟩) (Kd.R_types HO_192000.out BK181.out (by decide)) (fun _ hk => hk.2) (.slice Ao181 x192000_4.length co181)) (fun _ hk => hk.2) (.slice Ao182 x192001_4.length co182)) (fun _ hk => hk.1), by (with_reducible repeat (first | apply Kd.R_alloc | apply Kd.R_drewN | apply Kd.R_drew)); exact Kd.R_mono (Kd.R_far (p := ⟨gb181, 1, none⟩) (Kd.R_far (p := ⟨gb181, 0, none⟩) (Kd.R_types HO_192001.out BK181.out (by decide)) (fun _ hk => hk.2) (.slice Ao181 x192000_4.length co181)) (fun _ hk => hk.2) (.slice Ao182 x192001_4.length co182)) (fun _ hk => hk.1), tB HB.out⟩
                  ·
                   replace c175 := Bool.eq_false_iff.mpr c175
                   subst c175
                   have H1 : (some (([] : List (S58)), ([] : List (S58)), false)) = some (r1, r2, r3) := by rw [if_neg (show ¬ (false = true) by decide)] at H; exact H
                   clear H
                   have H := H1
                   clear H1
                   simp only [Option.some.injEq, Prod.mk.injEq] at H
                   obtain ⟨rfl, rfl, rfl⟩ := H
                   have hnb186 := NB180_181.out
                   have hnc186 := NB181_180.out
                   have hnb187 := NB180_191.out
                   have hnc187 := NB191_180.out
                   obtain ⟨hcz188_0, hfz188_0, hcz188_1, hfz188_1⟩ := cz2 BK180
                   have hnb189 := NB191_181.out
                   have hnc189 := NB181_191.out
                   obtain ⟨hcz190_0, hfz190_0, hcz190_1, hfz190_1⟩ := cz2 BK191
                   obtain ⟨Ao191, co191, eo191⟩ := Kd.R_slice HO_192000.out
                   subst eo191
                   obtain ⟨Ao192, co192, eo192⟩ := Kd.R_slice HO_192001.out
                   subst eo192
                   go_wp2_with (first | ((with_reducible refine gate_callee (f := 52) rfl ?_); refine goesL_ (some 150) rfl rfl Try.func52 (by kernel_rfl) rfl #[.agg #[.slice Ao191 x192000_4.length co191, .slice Ao192 x192001_4.length co192]] rfl tM ?_; (with_reducible refine (spec_l5Good.calls k4 _ _ x192000_4 _ _ x192001_4 false _ ?side1 ?side2 ?side3 ?side4 A174.out).mono ?_); (case side1 => exact tC (Kd.R_reads' HO_192000.out).2.2); (case side2 => exact (Kd.R_reads' HO_192000.out).2.1); (case side3 => exact tC (Kd.R_reads' HO_192001.out).2.2); (case side4 => exact (Kd.R_reads' HO_192001.out).2.1); rintro e w193 ⟨rfl, hb⟩; refine ⟨_, rfl, ?_⟩; replace HO_7 := Aside0.mk (Kd.R_below (tR HO_7.out) hb); replace HO_192000 := Aside0.mk (Kd.R_below (tR HO_192000.out) hb); replace HO_192001 := Aside0.mk (Kd.R_below (tR HO_192001.out) hb); replace BK180 := bkB BK180 hb; replace BK181 := bkB BK181 hb; replace BK191 := bkB BK191 hb; replace HB := Aside0.mk (below_step (tB HB.out) hb); (try clear hb); (try clear hb2); (try clear hk); (try clear hi); obtain ⟨hcz194_0, hfz194_0, hcz194_1, hfz194_1⟩ := cz2 BK181))
                   refine bodyPost_ret (results_ct rfl _ _ gb181 27 #[.slice none 0 0, .slice none 0 0] (0, 0) _ rfl (by (with_reducible repeat (first | refine blk_drewN ?_ _ | refine blk_drew ?_ | refine blk_alloc ?_ _)); refine blk_put (cs := #[.slice none 0 0, .slice none 0 0]) ?_ 1 _ rfl; (with_reducible repeat (first | refine blk_drewN ?_ _ | refine blk_drew ?_ | refine blk_alloc ?_ _)); refine blk_put (cs := #[.slice none 0 0, .slice none 0 0]) ?_ 0 _ rfl; (with_reducible repeat (first | refine blk_drewN ?_ _ | refine blk_drew ?_ | refine blk_alloc ?_ _)); exact BK181.out) Try.underlying27 rfl (by kernel_rfl)) rfl ?_
                   exact ⟨_, _, by first | rfl | (simp [errW_none, errW_some] <;> rfl) | (simp [*, errW_none, errW_some] <;> rfl), by first | exact Kd.R_nil _ _ _ _ _ | exact Kd.N_nil _ _ _ _ _ | exact Kd.V_nil _ _ _ _ _ | exact Kd.Q_nil _ _ _ _ _ | exact Kd.S_nil _ _ _ _ _, by first | exact Kd.R_nil _ _ _ _ _ | exact Kd.N_nil _ _ _ _ _ | exact Kd.V_nil _ _ _ _ _ | exact Kd.Q_nil _ _ _ _ _ | exact Kd.S_nil _ _ _ _ _, tB HB.out⟩
           ·
            rw [if_neg c37] at H
            exact absurd H (by simp)
       ·
        rw [if_neg c21] at H
        exact absurd H (by simp)
      ·
       rw [if_neg c20] at H
       exact absurd H (by simp)
     ·
      rw [if_neg c19] at H
      exact absurd H (by simp)
    ·
     rw [if_neg c18] at H
     exact absurd H (by simp)

end Go.Proofs.Ytbdajkfihbaapaa.PFnExactCutRod

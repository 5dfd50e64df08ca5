/- Printed by the program print2.py over the translation: each function as a Lean function, and the proof that the call comes to its answer. -/
import Derived.Test.YtbdajkfihbaapaaZFnExactCutRodx0
import Derived.Test.YtbdajkfihbaapaaZFnExactCutRodx7
import Derived.Test.YtbdajkfihbaapaaZFnExactCutRodx8
import Derived.Test.YtbdajkfihbaapaaZFnExactCutRodx9
namespace Go.Proofs.Ytbdajkfihbaapaa.PFnExactCutRod
open Go.RowKit Go.Proofs.YtbdajkfihbaapaaW.PrintWords Go.Proofs.YtbdajkfihbaapaaW.PrintLast Go.Proofs.YtbdajkfihbaapaaW.PrintMore
attribute [local go_sem] max2_int min2_int max_two min_two max_three min_three max_four min_four   -- for this text's walks alone
set_option linter.unusedVariables false
set_option linter.unusedSimpArgs false

/-! ### impl_CutRod: function 48 -/
mutual
def impl_CutRod.j0 : Nat → Int → Bool → List (S58) → List (S58) → Option ((List (S58)) × (List (S58)) × Bool)
 | 0, _, _, _, _ => none
 | k + 1, x1, x30, x252000, x252001 => if x30 = true then (some (([] : List (S58)), ([] : List (S58)), false)) else (if 0 ≤ (x252000.length : Int) then (if ((x252000.length : Int) : Int).toNat ≤ 281474976710656 then ((some (List.replicate ((x252000.length : Int) : Int).toNat false : List Bool)).bind fun y255 => (if 0 ≤ x1 then (if x1 < (y255.length : Int) then (if ((x252000.length : Int) : Int).toNat ≤ 35184372088832 then (impl_CutRod.l0 k x1 (y255.set (x1 : Int).toNat true) (List.replicate ((x252000.length : Int) : Int).toNat 0) 0 (x252000.length : Int) 0 x252000 x252001) else (none)) else (none)) else (none))) else (none)) else (none))
def impl_CutRod.l0 : Nat → Int → List Bool → List Int → Int → Int → Int → List (S58) → List (S58) → Option ((List (S58)) × (List (S58)) × Bool)
 | 0, _, _, _, _, _, _, _, _ => none
 | k + 1, x1, x6, x7, x8, x45, x46, x252000, x252001 => if x46 < x45 then (if 0 ≤ x46 then (if x46 < (x6.length : Int) then (if rdOf false x6 x46 = true then (if x46 < (x252001.length : Int) then (impl_CutRod.l1 k x1 x6 x7 x8 x45 x46 0 x252000 x252001 ((rd_T58 x252001 x46).f0) ((rd_T58 x252001 x46).f1)) else (none)) else (if x46 < (x7.length : Int) then (impl_CutRod.l0 k x1 x6 (x7.set (x46 : Int).toNat x8) (wrap64 (x8 + 1)) x45 (wrap64 (x46 + 1)) x252000 x252001) else (none))) else (none)) else (none)) else ((impl_rodWeights.f k x252000 x252001).bind fun t267 => (if 0 ≤ x1 then (if x1 < (t267.length : Int) then (impl_CutRod.l2 k x1 x6 x7 (rd t267 x1) x252000 (x252000.length : Int) 0 x252000 x252001 ([] : List (S58)) ([] : List (S58))) else (none)) else (none)))
def impl_CutRod.l1 : Nat → Int → List Bool → List Int → Int → Int → Int → Int → List (S58) → List (S58) → Int → Int → Option ((List (S58)) × (List (S58)) × Bool)
 | 0, _, _, _, _, _, _, _, _, _, _, _ => none
 | k + 1, x1, x6, x7, x8, x45, x46, x65, x252000, x252001, x10064000, x10064001 => if x65 < 2 then (if x65 = 0 then (if x10064000 < 0 then (if 0 ≤ (wrap64 (-x10064000)) then (if (wrap64 (-x10064000)) < (x6.length : Int) then (impl_CutRod.l1 k x1 (x6.set ((wrap64 (-x10064000)) : Int).toNat true) x7 x8 x45 x46 (wrap64 (x65 + 1)) x252000 x252001 x10064000 x10064001) else (none)) else (none)) else (impl_CutRod.l1 k x1 x6 x7 x8 x45 x46 (wrap64 (x65 + 1)) x252000 x252001 x10064000 x10064001)) else (if x65 = 1 then (if x10064001 < 0 then (if 0 ≤ (wrap64 (-x10064001)) then (if (wrap64 (-x10064001)) < (x6.length : Int) then (impl_CutRod.l1 k x1 (x6.set ((wrap64 (-x10064001)) : Int).toNat true) x7 x8 x45 x46 (wrap64 (x65 + 1)) x252000 x252001 x10064000 x10064001) else (none)) else (none)) else (impl_CutRod.l1 k x1 x6 x7 x8 x45 x46 (wrap64 (x65 + 1)) x252000 x252001 x10064000 x10064001)) else (none))) else (impl_CutRod.l0 k x1 x6 x7 x8 x45 (wrap64 (x46 + 1)) x252000 x252001)
def impl_CutRod.l2 : Nat → Int → List Bool → List Int → Int → List (S58) → Int → Int → List (S58) → List (S58) → List (S58) → List (S58) → Option ((List (S58)) × (List (S58)) × Bool)
 | 0, _, _, _, _, _, _, _, _, _, _, _ => none
 | k + 1, x1, x6, x7, x12, x83, x84, x85, x252000, x252001, x272000, x272001 => if x85 < x84 then (if 0 ≤ x85 then (if x85 < (x83.length : Int) then (if x85 < (x6.length : Int) then (if rdOf false x6 x85 = true then (impl_CutRod.l2 k x1 x6 x7 x12 x83 x84 (wrap64 (x85 + 1)) x252000 x252001 x272000 x272001) else (if x85 < (x252001.length : Int) then (impl_CutRod.l3 k x1 x6 x7 x12 x83 x84 x85 0 x252000 x252001 x272000 x272001 ((rd_T58 x83 x85).f0) ((rd_T58 x83 x85).f1) ((rd_T58 x252001 x85).f0) ((rd_T58 x252001 x85).f1) ((rd_T58 x252001 x85).f0) ((rd_T58 x252001 x85).f1)) else (none))) else (none)) else (none)) else (none)) else ((impl_validMobile.f k x272000 x272001).bind fun bt272 => (some (bt272.1, bt272.2.1, bt272.2.2)))
def impl_CutRod.l3 : Nat → Int → List Bool → List Int → Int → List (S58) → Int → Int → Int → List (S58) → List (S58) → List (S58) → List (S58) → Int → Int → Int → Int → Int → Int → Option ((List (S58)) × (List (S58)) × Bool)
 | 0, _, _, _, _, _, _, _, _, _, _, _, _, _, _, _, _, _, _ => none
 | k + 1, x1, x6, x7, x12, x83, x84, x85, x100, x252000, x252001, x272000, x272001, x281000, x281001, x284000, x284001, x10099000, x10099001 => if x100 < 2 then (if x100 = 0 then (if x10099000 = (wrap64 (-x1)) then (impl_CutRod.l3 k x1 x6 x7 x12 x83 x84 x85 (wrap64 (x100 + 1)) x252000 x252001 x272000 x272001 x281000 x281001 x12 x284001 x10099000 x10099001) else (if x10099000 < 0 then (if 0 ≤ (wrap64 (-x10099000)) then (if (wrap64 (-x10099000)) < (x7.length : Int) then (impl_CutRod.l3 k x1 x6 x7 x12 x83 x84 x85 (wrap64 (x100 + 1)) x252000 x252001 x272000 x272001 x281000 x281001 (wrap64 (-(rd x7 (wrap64 (-x10099000))))) x284001 x10099000 x10099001) else (none)) else (none)) else (impl_CutRod.l3 k x1 x6 x7 x12 x83 x84 x85 (wrap64 (x100 + 1)) x252000 x252001 x272000 x272001 x281000 x281001 x284000 x284001 x10099000 x10099001))) else (if x100 = 1 then (if x10099001 = (wrap64 (-x1)) then (impl_CutRod.l3 k x1 x6 x7 x12 x83 x84 x85 (wrap64 (x100 + 1)) x252000 x252001 x272000 x272001 x281000 x281001 x284000 x12 x10099000 x10099001) else (if x10099001 < 0 then (if 0 ≤ (wrap64 (-x10099001)) then (if (wrap64 (-x10099001)) < (x7.length : Int) then (impl_CutRod.l3 k x1 x6 x7 x12 x83 x84 x85 (wrap64 (x100 + 1)) x252000 x252001 x272000 x272001 x281000 x281001 x284000 (wrap64 (-(rd x7 (wrap64 (-x10099001))))) x10099000 x10099001) else (none)) else (none)) else (impl_CutRod.l3 k x1 x6 x7 x12 x83 x84 x85 (wrap64 (x100 + 1)) x252000 x252001 x272000 x272001 x281000 x281001 x284000 x284001 x10099000 x10099001))) else (none))) else ((some (([(⟨x281000, x281001⟩ : S58)] : List (S58)) : List (S58))).bind fun y284 => (if x272000.length + y284.length < 8796093022208 then ((some (([(⟨x284000, x284001⟩ : S58)] : List (S58)) : List (S58))).bind fun y290 => (if x272001.length + y290.length < 8796093022208 then (impl_CutRod.l2 k x1 x6 x7 x12 x83 x84 (wrap64 (x85 + 1)) x252000 x252001 (x272000 ++ y284) (x272001 ++ y290)) else (none))) else (none)))
end
def impl_CutRod.f (k : Nat) (l0_0 : List (S58)) (l0_1 : List (S58)) (a1 : Int) : Option ((List (S58)) × (List (S58)) × Bool) := (impl_IsMobile.f k l0_0 l0_1).bind fun t253 => (if t253 = true then ((impl_within.f a1 1 (wrap64 ((l0_0.length : Int) - 1))).bind fun t254 => (impl_CutRod.j0 k a1 (!t254) l0_0 l0_1)) else (impl_CutRod.j0 k a1 true l0_0 l0_1))
theorem impl_CutRod.mono_l : ∀ k, (∀ y0 y1 y2 y3, LeO (impl_CutRod.j0 k y0 y1 y2 y3) (impl_CutRod.j0 (k + 1) y0 y1 y2 y3)) ∧ (∀ y0 y1 y2 y3 y4 y5 y6 y7, LeO (impl_CutRod.l0 k y0 y1 y2 y3 y4 y5 y6 y7) (impl_CutRod.l0 (k + 1) y0 y1 y2 y3 y4 y5 y6 y7)) ∧ (∀ y0 y1 y2 y3 y4 y5 y6 y7 y8 y9 y10, LeO (impl_CutRod.l1 k y0 y1 y2 y3 y4 y5 y6 y7 y8 y9 y10) (impl_CutRod.l1 (k + 1) y0 y1 y2 y3 y4 y5 y6 y7 y8 y9 y10)) ∧ (∀ y0 y1 y2 y3 y4 y5 y6 y7 y8 y9 y10, LeO (impl_CutRod.l2 k y0 y1 y2 y3 y4 y5 y6 y7 y8 y9 y10) (impl_CutRod.l2 (k + 1) y0 y1 y2 y3 y4 y5 y6 y7 y8 y9 y10)) ∧ (∀ y0 y1 y2 y3 y4 y5 y6 y7 y8 y9 y10 y11 y12 y13 y14 y15 y16 y17, LeO (impl_CutRod.l3 k y0 y1 y2 y3 y4 y5 y6 y7 y8 y9 y10 y11 y12 y13 y14 y15 y16 y17) (impl_CutRod.l3 (k + 1) y0 y1 y2 y3 y4 y5 y6 y7 y8 y9 y10 y11 y12 y13 y14 y15 y16 y17))
 | 0 => ⟨fun _ _ _ _ r h => by simp [impl_CutRod.j0] at h, fun _ _ _ _ _ _ _ _ r h => by simp [impl_CutRod.l0] at h, fun _ _ _ _ _ _ _ _ _ _ _ r h => by simp [impl_CutRod.l1] at h, fun _ _ _ _ _ _ _ _ _ _ _ r h => by simp [impl_CutRod.l2] at h, fun _ _ _ _ _ _ _ _ _ _ _ _ _ _ _ _ _ _ r h => by simp [impl_CutRod.l3] at h⟩
 | k + 1 => by
  obtain ⟨ih0, ih1, ih2, ih3, ih4⟩ := impl_CutRod.mono_l k
  refine ⟨?_, ?_, ?_, ?_, ?_⟩
  ·
   intro y0 y1 y2 y3
   unfold impl_CutRod.j0
   repeat' first
   | (with_reducible exact ih0 _ _ _ _)
   | (with_reducible exact ih1 _ _ _ _ _ _ _ _)
   | (with_reducible exact ih2 _ _ _ _ _ _ _ _ _ _ _)
   | (with_reducible exact ih3 _ _ _ _ _ _ _ _ _ _ _)
   | (with_reducible exact ih4 _ _ _ _ _ _ _ _ _ _ _ _ _ _ _ _ _ _)
   | (with_reducible exact impl_IsMobile.mono _ _ _)
   | (with_reducible exact impl_rodWeights.mono _ _ _)
   | (with_reducible exact impl_validMobile.mono _ _ _)
   | (with_reducible exact LeO.refl _)
   | (with_reducible exact LeO.none _)
   | (with_reducible refine LeO.ite ?_ ?_)
   | (with_reducible refine LeO.bind ?_ (fun _ => ?_))
   | exact ih0 _ _ _ _
   | exact ih1 _ _ _ _ _ _ _ _
   | exact ih2 _ _ _ _ _ _ _ _ _ _ _
   | exact ih3 _ _ _ _ _ _ _ _ _ _ _
   | exact ih4 _ _ _ _ _ _ _ _ _ _ _ _ _ _ _ _ _ _
   | exact impl_IsMobile.mono _ _ _
   | exact impl_rodWeights.mono _ _ _
   | exact impl_validMobile.mono _ _ _
   | exact LeO.none _
   | refine LeO.ite ?_ ?_
   | refine LeO.bind ?_ (fun _ => ?_)
  ·
   intro y0 y1 y2 y3 y4 y5 y6 y7
   unfold impl_CutRod.l0
   repeat' first
   | (with_reducible exact ih0 _ _ _ _)
   | (with_reducible exact ih1 _ _ _ _ _ _ _ _)
   | (with_reducible exact ih2 _ _ _ _ _ _ _ _ _ _ _)
   | (with_reducible exact ih3 _ _ _ _ _ _ _ _ _ _ _)
   | (with_reducible exact ih4 _ _ _ _ _ _ _ _ _ _ _ _ _ _ _ _ _ _)
   | (with_reducible exact impl_IsMobile.mono _ _ _)
   | (with_reducible exact impl_rodWeights.mono _ _ _)
   | (with_reducible exact impl_validMobile.mono _ _ _)
   | (with_reducible exact LeO.refl _)
   | (with_reducible exact LeO.none _)
   | (with_reducible refine LeO.ite ?_ ?_)
   | (with_reducible refine LeO.bind ?_ (fun _ => ?_))
   | exact ih0 _ _ _ _
   | exact ih1 _ _ _ _ _ _ _ _
   | exact ih2 _ _ _ _ _ _ _ _ _ _ _
   | exact ih3 _ _ _ _ _ _ _ _ _ _ _
   | exact ih4 _ _ _ _ _ _ _ _ _ _ _ _ _ _ _ _ _ _
   | exact impl_IsMobile.mono _ _ _
   | exact impl_rodWeights.mono _ _ _
   | exact impl_validMobile.mono _ _ _
   | exact LeO.none _
   | refine LeO.ite ?_ ?_
   | refine LeO.bind ?_ (fun _ => ?_)
  ·
   intro y0 y1 y2 y3 y4 y5 y6 y7 y8 y9 y10
   unfold impl_CutRod.l1
   repeat' first
   | (with_reducible exact ih0 _ _ _ _)
   | (with_reducible exact ih1 _ _ _ _ _ _ _ _)
   | (with_reducible exact ih2 _ _ _ _ _ _ _ _ _ _ _)
   | (with_reducible exact ih3 _ _ _ _ _ _ _ _ _ _ _)
   | (with_reducible exact ih4 _ _ _ _ _ _ _ _ _ _ _ _ _ _ _ _ _ _)
   | (with_reducible exact impl_IsMobile.mono _ _ _)
   | (with_reducible exact impl_rodWeights.mono _ _ _)
   | (with_reducible exact impl_validMobile.mono _ _ _)
   | (with_reducible exact LeO.refl _)
   | (with_reducible exact LeO.none _)
   | (with_reducible refine LeO.ite ?_ ?_)
   | (with_reducible refine LeO.bind ?_ (fun _ => ?_))
   | exact ih0 _ _ _ _
   | exact ih1 _ _ _ _ _ _ _ _
   | exact ih2 _ _ _ _ _ _ _ _ _ _ _
   | exact ih3 _ _ _ _ _ _ _ _ _ _ _
   | exact ih4 _ _ _ _ _ _ _ _ _ _ _ _ _ _ _ _ _ _
   | exact impl_IsMobile.mono _ _ _
   | exact impl_rodWeights.mono _ _ _
   | exact impl_validMobile.mono _ _ _
   | exact LeO.none _
   | refine LeO.ite ?_ ?_
   | refine LeO.bind ?_ (fun _ => ?_)
  ·
   intro y0 y1 y2 y3 y4 y5 y6 y7 y8 y9 y10
   unfold impl_CutRod.l2
   repeat' first
   | (with_reducible exact ih0 _ _ _ _)
   | (with_reducible exact ih1 _ _ _ _ _ _ _ _)
   | (with_reducible exact ih2 _ _ _ _ _ _ _ _ _ _ _)
   | (with_reducible exact ih3 _ _ _ _ _ _ _ _ _ _ _)
   | (with_reducible exact ih4 _ _ _ _ _ _ _ _ _ _ _ _ _ _ _ _ _ _)
   | (with_reducible exact impl_IsMobile.mono _ _ _)
   | (with_reducible exact impl_rodWeights.mono _ _ _)
   | (with_reducible exact impl_validMobile.mono _ _ _)
   | (with_reducible exact LeO.refl _)
   | (with_reducible exact LeO.none _)
   | (with_reducible refine LeO.ite ?_ ?_)
   | (with_reducible refine LeO.bind ?_ (fun _ => ?_))
   | exact ih0 _ _ _ _
   | exact ih1 _ _ _ _ _ _ _ _
   | exact ih2 _ _ _ _ _ _ _ _ _ _ _
   | exact ih3 _ _ _ _ _ _ _ _ _ _ _
   | exact ih4 _ _ _ _ _ _ _ _ _ _ _ _ _ _ _ _ _ _
   | exact impl_IsMobile.mono _ _ _
   | exact impl_rodWeights.mono _ _ _
   | exact impl_validMobile.mono _ _ _
   | exact LeO.none _
   | refine LeO.ite ?_ ?_
   | refine LeO.bind ?_ (fun _ => ?_)
  ·
   intro y0 y1 y2 y3 y4 y5 y6 y7 y8 y9 y10 y11 y12 y13 y14 y15 y16 y17
   unfold impl_CutRod.l3
   repeat' first
   | (with_reducible exact ih0 _ _ _ _)
   | (with_reducible exact ih1 _ _ _ _ _ _ _ _)
   | (with_reducible exact ih2 _ _ _ _ _ _ _ _ _ _ _)
   | (with_reducible exact ih3 _ _ _ _ _ _ _ _ _ _ _)
   | (with_reducible exact ih4 _ _ _ _ _ _ _ _ _ _ _ _ _ _ _ _ _ _)
   | (with_reducible exact impl_IsMobile.mono _ _ _)
   | (with_reducible exact impl_rodWeights.mono _ _ _)
   | (with_reducible exact impl_validMobile.mono _ _ _)
   | (with_reducible exact LeO.refl _)
   | (with_reducible exact LeO.none _)
   | (with_reducible refine LeO.ite ?_ ?_)
   | (with_reducible refine LeO.bind ?_ (fun _ => ?_))
   | exact ih0 _ _ _ _
   | exact ih1 _ _ _ _ _ _ _ _
   | exact ih2 _ _ _ _ _ _ _ _ _ _ _
   | exact ih3 _ _ _ _ _ _ _ _ _ _ _
   | exact ih4 _ _ _ _ _ _ _ _ _ _ _ _ _ _ _ _ _ _
   | exact impl_IsMobile.mono _ _ _
   | exact impl_rodWeights.mono _ _ _
   | exact impl_validMobile.mono _ _ _
   | exact LeO.none _
   | refine LeO.ite ?_ ?_
   | refine LeO.bind ?_ (fun _ => ?_)
theorem impl_CutRod.mono : ∀ a0 a1 a2 k, LeO (impl_CutRod.f k a0 a1 a2) (impl_CutRod.f (k + 1) a0 a1 a2) := by
 intro a0 a1 a2 k
 obtain ⟨ih0, ih1, ih2, ih3, ih4⟩ := impl_CutRod.mono_l k
 unfold impl_CutRod.f
 repeat' first
   | (with_reducible exact ih0 _ _ _ _)
   | (with_reducible exact ih1 _ _ _ _ _ _ _ _)
   | (with_reducible exact ih2 _ _ _ _ _ _ _ _ _ _ _)
   | (with_reducible exact ih3 _ _ _ _ _ _ _ _ _ _ _)
   | (with_reducible exact ih4 _ _ _ _ _ _ _ _ _ _ _ _ _ _ _ _ _ _)
   | (with_reducible exact impl_IsMobile.mono _ _ _)
   | (with_reducible exact impl_rodWeights.mono _ _ _)
   | (with_reducible exact impl_validMobile.mono _ _ _)
   | (with_reducible exact LeO.refl _)
   | (with_reducible exact LeO.none _)
   | (with_reducible refine LeO.ite ?_ ?_)
   | (with_reducible refine LeO.bind ?_ (fun _ => ?_))
   | exact ih0 _ _ _ _
   | exact ih1 _ _ _ _ _ _ _ _
   | exact ih2 _ _ _ _ _ _ _ _ _ _ _
   | exact ih3 _ _ _ _ _ _ _ _ _ _ _
   | exact ih4 _ _ _ _ _ _ _ _ _ _ _ _ _ _ _ _ _ _
   | exact impl_IsMobile.mono _ _ _
   | exact impl_rodWeights.mono _ _ _
   | exact impl_validMobile.mono _ _ _
   | exact LeO.none _
   | refine LeO.ite ?_ ?_
   | refine LeO.bind ?_ (fun _ => ?_)
def impl_CutRod.T33 : Bool × List (List Nat × List Nat) := (true, [([], []), ([0], [0]), ([], []), ([2], [2]), ([1, 3], [1, 3]), ([], []), ([5], [5]), ([], []), ([7], [7]), ([6, 8, 4], [6, 8]), ([0, 1, 2, 3, 4, 5, 6], []), ([10, 4, 9, 0, 1, 2, 3, 4, 5, 6], [4, 10]), ([0, 1, 2, 3, 4, 5, 6, 7, 8, 9, 10, 11], []), ([12, 9, 11, 0, 1, 2, 3, 4, 5, 6, 7, 8, 9, 10, 11], [9, 12])])
def impl_CutRod.B33 : List Nat := [0, 1, 0, 4, 15, 0, 32, 0, 128, 511, 127, 2047, 4095, 8191]
theorem impl_CutRod.tab33 : rtab .any (opsOf Try.f48 33) = impl_CutRod.T33 := by kernel_rfl
theorem impl_CutRod.bits33 : waitsOk impl_CutRod.T33.2 impl_CutRod.B33 = true := by kernel_rfl
set_option maxHeartbeats 8000000 in
set_option maxRecDepth 100000 in
theorem impl_CutRod.calls (k : Nat) (A0_0 : Option Addr) (c0_0 : Nat) (l0_0 : List (S58)) (A0_1 : Option Addr) (c0_1 : Nat) (l0_1 : List (S58)) (a1 : Int) (r1 : List (S58)) (r2 : List (S58)) (r3 : Bool) (w : World) (hr0_0 : Kd.C k58 w A0_0 l0_0.length l0_0) (hc0_0 : l0_0.length ≤ c0_0) (hr0_1 : Kd.C k58 w A0_1 l0_1.length l0_1) (hc0_1 : l0_1.length ≤ c0_1) (h : impl_CutRod.f k l0_0 l0_1 a1 = some (r1, r2, r3)) :
  Calls Try.prog 48 #[.agg #[.slice A0_0 l0_0.length c0_0, .slice A0_1 l0_1.length c0_1], .int .i64 a1] w fun e w' => ∃ v0_ v1_ : Value, e = .returned (.tuple #[.agg #[v0_, v1_], .bool r3]) ∧ Kd.R k58 58 w' w.heap.size (fun k_ => some k_ ≠ (v1_ : Value).ownBlock) v0_ r1 ∧ Kd.R k58 58 w' w.heap.size (fun k_ => some k_ ≠ (v0_ : Value).ownBlock) v1_ r2 ∧ Below w.heap.size w w' := by
 have hu27 := Try.underlying27
 have hu58 := Try.underlying58
 have hwz_ : wrap64 0 = 0 := by simp [wrap64]
 have hwo_ : wrap64 1 = 1 := by simp [wrap64]
 have hix58_0 : ∀ (e0_ e1_ : Value) (W_ : World), (Instr.index 58 (.agg #[e0_, e1_]) (.int .i64 0)).run Try.prog W_ = .ok e0_ W_ := fun _ _ _ => by kernel_rfl
 have hix58_1 : ∀ (e0_ e1_ : Value) (W_ : World), (Instr.index 58 (.agg #[e0_, e1_]) (.int .i64 1)).run Try.prog W_ = .ok e1_ W_ := fun _ _ _ => by kernel_rfl
 have HR0_0 := Aside0.mk hr0_0
 have HC0_0 := Aside0.mk hc0_0
 clear hr0_0 hc0_0
 have HR0_1 := Aside0.mk hr0_1
 have HC0_1 := Aside0.mk hc0_1
 clear hr0_1 hc0_1
 have HB := Aside0.mk (Below.refl w.heap.size w)
 have H : ((impl_IsMobile.f k l0_0 l0_1).bind fun t253 => (if t253 = true then ((impl_within.f a1 1 (wrap64 ((l0_0.length : Int) - 1))).bind fun t254 => (impl_CutRod.j0 k a1 (!t254) l0_0 l0_1)) else (impl_CutRod.j0 k a1 true l0_0 l0_1))) = some (r1, r2, r3) := h
 clear h
 have HC3 := Aside0.mk H
 clear H
 go_enter Try.func48, Try.ntmps48
 go_upto_region 1 with (first | ((with_reducible refine gate_dst (N := 2) rfl ?_); (try (refine gate_guard (by rfl) ?_; dsimp only)); refine box_event ?hg (N := 2) ?hd (cs := #[.slice A0_0 l0_0.length c0_0, .slice A0_1 l0_1.length c0_1]) (t := 27) ?hr ?_; (case hd => rfl); (case hg => rfl); (case hr => first | (go_simp; done) | (go_simp; rfl)); intro gb251 hg w4 hbox hb; have BK251 := Aside0.mk (hbox); have GW251 := Aside0.mk (bS HB.out hg); have GE251 := Aside0.mk (bS HB.out hg); replace HB := Aside0.mk (below_step (tB HB.out) hb); clear hb hbox hg) | ((with_reducible refine gate_dst (N := 4) rfl ?_); (try (refine gate_guard (by rfl) ?_; dsimp only)); refine box_event ?hg (N := 4) ?hd (cs := #[.slice none 0 0, .slice none 0 0]) (t := 27) ?hr ?_; (case hd => rfl); (case hg => rfl); (case hr => first | (go_simp; done) | (go_simp; rfl)); intro gb252 hg w5 hbox hb; have BK252 := Aside0.mk (hbox); have GW252 := Aside0.mk (bS HB.out hg); have GE252 := Aside0.mk (bS HB.out hg); replace HB := Aside0.mk (below_step (tB HB.out) hb); have NB251_252 := Aside0.mk (nL BK251.out hg); have NB252_251 := Aside0.mk (nG BK251.out hg); replace BK251 := bkB BK251 hb; clear hb hbox hg))
 (try simp only [Act.put, List.setIfInBounds_toArray, List.set_cons_zero, List.set_cons_succ])
 go_cut [30] (fun v30 wc => ∃ (kq : Nat) (x30_2 : Bool), v30 = .bool x30_2 ∧ Aside0 (impl_CutRod.j0 kq a1 x30_2 l0_0 l0_1 = some (r1, r2, r3)) ∧ Aside0 (kq ≤ k) ∧ Aside0 (wc.heap[gb251]? = some (.cells #[(.slice A0_0 l0_0.length c0_0), (.slice A0_1 l0_1.length c0_1)] 27 (0, 0))) ∧ Aside0 (wc.heap[gb252]? = some (.cells #[(.slice none 0 0), (.slice none 0 0)] 27 (0, 0))) ∧ Aside0 (Below w.heap.size w wc))
 case first =>
  have H := HC3.out
  clear HC3
  replace H := Option.bind_eq_some_iff.mp H
  obtain ⟨t253, A60, H⟩ := H
  replace H : (if t253 = true then ((impl_within.f a1 1 (wrap64 ((l0_0.length : Int) - 1))).bind fun t254 => (impl_CutRod.j0 k a1 (!t254) l0_0 l0_1)) else (impl_CutRod.j0 k a1 true l0_0 l0_1)) = some (r1, r2, r3) := H
  have A6 := Aside0.mk A60
  clear A60
  by_cases c7 : t253 = true
  ·
   subst c7
   have H1 : ((impl_within.f a1 1 (wrap64 ((l0_0.length : Int) - 1))).bind fun t254 => (impl_CutRod.j0 k a1 (!t254) l0_0 l0_1)) = some (r1, r2, r3) := by rw [if_pos rfl] at H; exact H
   clear H
   have H := H1
   clear H1
   replace H := Option.bind_eq_some_iff.mp H
   obtain ⟨t254, A80, H⟩ := H
   replace H : (impl_CutRod.j0 k a1 (!t254) l0_0 l0_1) = some (r1, r2, r3) := H
   have A8 := Aside0.mk A80
   clear A80
   have H' := Aside0.mk H
   clear H
   have hnb9 := NB251_252.out
   have hnc9 := NB252_251.out
   obtain ⟨hcz10_0, hfz10_0, hcz10_1, hfz10_1⟩ := cz2 BK251
   go_wp2_with (first | ((with_reducible refine gate_callee (f := 18) rfl ?_); refine goesL_ (some 20) rfl rfl Try.func18 (by kernel_rfl) rfl #[.agg #[.slice A0_0 l0_0.length c0_0, .slice A0_1 l0_1.length c0_1]] rfl tM ?_; (with_reducible refine (impl_IsMobile.calls k _ _ l0_0 _ _ l0_1 true _ ?side1 ?side2 ?side3 ?side4 A6.out).mono ?_); (case side1 => exact tC (Kd.C_below HR0_0.out HB.out)); (case side2 => exact HC0_0.out); (case side3 => exact tC (Kd.C_below HR0_1.out HB.out)); (case side4 => exact HC0_1.out); rintro e w11 ⟨rfl, hb⟩; refine ⟨_, rfl, ?_⟩; replace BK251 := bkB BK251 hb; replace BK252 := bkB BK252 hb; replace HB := Aside0.mk (below_step (tB HB.out) hb); (try clear hb); (try clear hb2); (try clear hk); (try clear hi); obtain ⟨hcz12_0, hfz12_0, hcz12_1, hfz12_1⟩ := cz2 BK251) | (go_at_call 54; (with_reducible refine (impl_within.calls a1 1 (wrap64 ((l0_0.length : Int) - 1)) t254 _ A8.out).mono ?_); rintro e w' ⟨rfl, ⟨nd, rfl⟩⟩))
   go_meet
   case rel => exact ⟨_, (!t254), (by first | rfl | (simp; done) | (simp [wrap64]; done) | (simp [*]; done)), H', ⟨by first | omega | exact Nat.le_refl _⟩, ⟨tK BK251.out⟩, ⟨tK BK252.out⟩, ⟨tB HB.out⟩⟩
  ·
   replace c7 := Bool.eq_false_iff.mpr c7
   subst c7
   have H1 : (impl_CutRod.j0 k a1 true l0_0 l0_1) = some (r1, r2, r3) := by rw [if_neg (show ¬ (false = true) by decide)] at H; exact H
   clear H
   have H := H1
   clear H1
   have H' := Aside0.mk H
   clear H
   have hnb13 := NB251_252.out
   have hnc13 := NB252_251.out
   obtain ⟨hcz14_0, hfz14_0, hcz14_1, hfz14_1⟩ := cz2 BK251
   go_wp2_with (first | ((with_reducible refine gate_callee (f := 18) rfl ?_); refine goesL_ (some 20) rfl rfl Try.func18 (by kernel_rfl) rfl #[.agg #[.slice A0_0 l0_0.length c0_0, .slice A0_1 l0_1.length c0_1]] rfl tM ?_; (with_reducible refine (impl_IsMobile.calls k _ _ l0_0 _ _ l0_1 false _ ?side1 ?side2 ?side3 ?side4 A6.out).mono ?_); (case side1 => exact tC (Kd.C_below HR0_0.out HB.out)); (case side2 => exact HC0_0.out); (case side3 => exact tC (Kd.C_below HR0_1.out HB.out)); (case side4 => exact HC0_1.out); rintro e w15 ⟨rfl, hb⟩; refine ⟨_, rfl, ?_⟩; replace BK251 := bkB BK251 hb; replace BK252 := bkB BK252 hb; replace HB := Aside0.mk (below_step (tB HB.out) hb); (try clear hb); (try clear hb2); (try clear hk); (try clear hi)))
   go_meet
   case rel => exact ⟨_, (true), (by first | rfl | (simp; done) | (simp [wrap64]; done) | (simp [*]; done)), H', ⟨by first | omega | exact Nat.le_refl _⟩, ⟨tK BK251.out⟩, ⟨tK BK252.out⟩, ⟨tB HB.out⟩⟩
 case rest =>
  clear HC3
  try clear c1
  try clear p2
  try clear c4
  try clear p6
  try clear c7
  try clear c9
  try clear c13
  try clear hcz10_0
  try clear hcz10_1
  try clear hcz12_0
  try clear hcz12_1
  try clear hcz14_0
  try clear hcz14_1
  try clear hfz10_0
  try clear hfz10_1
  try clear hfz12_0
  try clear hfz12_1
  try clear hfz14_0
  try clear hfz14_1
  obtain ⟨kq, x30_2, rfl, HA, HJ2, BK251, BK252, HB⟩ := hcut
  cases kq with
  | zero => exact absurd HA.out (by simp [impl_CutRod.j0])
  | succ kj2 =>
   have H := HA.out
   clear HA
   simp only [impl_CutRod.j0] at H
   by_cases c16 : x30_2 = true
   ·
    subst c16
    have H1 : (some (([] : List (S58)), ([] : List (S58)), false)) = some (r1, r2, r3) := by rw [if_pos rfl] at H; exact H
    clear H
    have H := H1
    clear H1
    simp only [Option.some.injEq, Prod.mk.injEq] at H
    obtain ⟨rfl, rfl, rfl⟩ := H
    have hnb17 := NB252_251.out
    have hnc17 := NB251_252.out
    obtain ⟨hcz18_0, hfz18_0, hcz18_1, hfz18_1⟩ := cz2 BK252
    go_wp2
    refine bodyPost_ret (results_ct rfl _ _ gb252 27 #[.slice none 0 0, .slice none 0 0] (0, 0) _ rfl (by (with_reducible repeat (first | refine blk_drewN ?_ _ | refine blk_drew ?_ | refine blk_alloc ?_ _)); refine blk_put (cs := #[.slice none 0 0, .slice none 0 0]) ?_ 1 _ rfl; (with_reducible repeat (first | refine blk_drewN ?_ _ | refine blk_drew ?_ | refine blk_alloc ?_ _)); refine blk_put (cs := #[.slice none 0 0, .slice none 0 0]) ?_ 0 _ rfl; (with_reducible repeat (first | refine blk_drewN ?_ _ | refine blk_drew ?_ | refine blk_alloc ?_ _)); exact BK252.out) Try.underlying27 rfl (by kernel_rfl)) rfl ?_
    exact ⟨_, _, by first | rfl | (simp [errW_none, errW_some] <;> rfl) | (simp [*, errW_none, errW_some] <;> rfl), by first | exact Kd.R_nil _ _ _ _ _ | exact Kd.N_nil _ _ _ _ _ | exact Kd.V_nil _ _ _ _ _ | exact Kd.Q_nil _ _ _ _ _ | exact Kd.S_nil _ _ _ _ _, by first | exact Kd.R_nil _ _ _ _ _ | exact Kd.N_nil _ _ _ _ _ | exact Kd.V_nil _ _ _ _ _ | exact Kd.Q_nil _ _ _ _ _ | exact Kd.S_nil _ _ _ _ _, tB HB.out⟩
   ·
    replace c16 := Bool.eq_false_iff.mpr c16
    subst c16
    have H1 : (if 0 ≤ (l0_0.length : Int) then (if ((l0_0.length : Int) : Int).toNat ≤ 281474976710656 then ((some (List.replicate ((l0_0.length : Int) : Int).toNat false : List Bool)).bind fun y255 => (if 0 ≤ a1 then (if a1 < (y255.length : Int) then (if ((l0_0.length : Int) : Int).toNat ≤ 35184372088832 then (impl_CutRod.l0 kj2 a1 (y255.set (a1 : Int).toNat true) (List.replicate ((l0_0.length : Int) : Int).toNat 0) 0 (l0_0.length : Int) 0 l0_0 l0_1) else (none)) else (none)) else (none))) else (none)) else (none)) = some (r1, r2, r3) := by rw [if_neg (show ¬ (false = true) by decide)] at H; exact H
    clear H
    have H := H1
    clear H1
    by_cases c19 : 0 ≤ (l0_0.length : Int)
    ·
     rw [if_pos c19] at H
     have c19b0 := eq_true c19
     have c19b1 : decide (0 ≤ (l0_0.length : Int)) = true := decide_eq_true c19
     clear c19
     by_cases c20 : ((l0_0.length : Int) : Int).toNat ≤ 281474976710656
     ·
      rw [if_pos c20] at H
      have c20b0 := eq_true c20
      have c20b1 : decide (((l0_0.length : Int) : Int).toNat ≤ 281474976710656) = true := decide_eq_true c20
      clear c20
      obtain ⟨y255, hy255⟩ : ∃ y_ : List Bool, y_ = (List.replicate ((l0_0.length : Int) : Int).toNat false) := ⟨_, rfl⟩
      replace H : (if 0 ≤ a1 then (if a1 < (y255.length : Int) then (if ((l0_0.length : Int) : Int).toNat ≤ 35184372088832 then (impl_CutRod.l0 kj2 a1 (y255.set (a1 : Int).toNat true) (List.replicate ((l0_0.length : Int) : Int).toNat 0) 0 (l0_0.length : Int) 0 l0_0 l0_1) else (none)) else (none)) else (none)) = some (r1, r2, r3) := by first | (rw [hy255]; with_reducible exact H) | (have H2_ := (Option.bind_some _ _).symm.trans H; rw [hy255]; with_reducible exact H2_) | (have H2_ := (Option.bind_some _ _).symm.trans H; with_reducible exact H2_) | with_reducible exact H | (rw [hy255]; exact H) | exact H
      have Ny255 := Aside0.mk hy255
      clear hy255
      by_cases c21 : 0 ≤ a1
      ·
       rw [if_pos c21] at H
       have c21b0 : decide (0 ≤ a1) = true := decide_eq_true c21
       clear c21
       by_cases c22 : a1 < (y255.length : Int)
       ·
        rw [if_pos c22] at H
        have c22b0 : decide (a1 < (y255.length : Int)) = true := decide_eq_true c22
        clear c22
        obtain ⟨y258, hy258⟩ : ∃ y_ : List Bool, y_ = (y255.set (a1 : Int).toNat true) := ⟨_, rfl⟩
        replace H : (if ((l0_0.length : Int) : Int).toNat ≤ 35184372088832 then (impl_CutRod.l0 kj2 a1 y258 (List.replicate ((l0_0.length : Int) : Int).toNat 0) 0 (l0_0.length : Int) 0 l0_0 l0_1) else (none)) = some (r1, r2, r3) := by first | (rw [hy258]; with_reducible exact H) | (have H2_ := (Option.bind_some _ _).symm.trans H; rw [hy258]; with_reducible exact H2_) | (have H2_ := (Option.bind_some _ _).symm.trans H; with_reducible exact H2_) | with_reducible exact H | (rw [hy258]; exact H) | exact H
        have Ny258 := Aside0.mk hy258
        clear hy258
        by_cases c24 : ((l0_0.length : Int) : Int).toNat ≤ 35184372088832
        ·
         rw [if_pos c24] at H
         have c24b0 := eq_true c24
         have c24b1 : decide (((l0_0.length : Int) : Int).toNat ≤ 35184372088832) = true := decide_eq_true c24
         clear c24
         obtain ⟨y259, hy259⟩ : ∃ y_ : List Int, y_ = (List.replicate ((l0_0.length : Int) : Int).toNat 0) := ⟨_, rfl⟩
         replace H : (impl_CutRod.l0 kj2 a1 y258 y259 0 (l0_0.length : Int) 0 l0_0 l0_1) = some (r1, r2, r3) := by first | (rw [hy259]; with_reducible exact H) | (have H2_ := (Option.bind_some _ _).symm.trans H; rw [hy259]; with_reducible exact H2_) | (have H2_ := (Option.bind_some _ _).symm.trans H; with_reducible exact H2_) | with_reducible exact H | (rw [hy259]; exact H) | exact H
         have Ny259 := Aside0.mk hy259
         clear hy259
         have H' := Aside0.mk H
         clear H
         have hnb25 := NB251_252.out
         have hnc25 := NB252_251.out
         obtain ⟨hcz26_0, hfz26_0, hcz26_1, hfz26_1⟩ := cz2 BK251
         go_wp2_with (first | ((with_reducible refine gate_dst (N := 35) rfl ?_); (try (refine gate_guard (by rfl) ?_; dsimp only)); refine Kd.R_make Kd.bool _ 4 rfl (N := 35) rfl 57 _ _ rfl (l0_0.length : Int) rfl rfl Try.underlying57 (.bool false) 1 info4 rfl (by decide) (by omega) false (ok := fun _ => True) (okp := fun _ => True) rfl (fun _ hk => hk) trivial (of_decide_eq_true (by first | (with_reducible assumption) | assumption)) (Nat.le_trans (Nat.mul_le_mul_right _ (of_decide_eq_true (by first | (with_reducible assumption) | assumption) : (l0_0.length : Int).toNat ≤ 281474976710656)) (by omega)) (Below.refl _ _) (Nat.le_refl _) ?_; intro v256 w27 ho28 hb hg_ hnew_; clear hg_ hnew_; (first | rw [← Ny255.out] at ho28 | (simp only [Int.reduceToNat] at ho28; rw [← Ny255.out] at ho28)); have HO257 := Aside0.mk (Kd.R_lower ho28 (below_size (tB HB.out))); replace BK251 := bkB BK251 hb; replace BK252 := bkB BK252 hb; replace HB := Aside0.mk (below_step (tB HB.out) hb); clear hb ho28; have p23 : 0 ≤ (a1 : Int) := of_decide_eq_true (by first | (with_reducible assumption) | assumption); have q23 : (a1 : Int) < ((y255.length : Int) : Int) := of_decide_eq_true (by first | (with_reducible assumption) | assumption); obtain ⟨go23, co23, eo23, gb23, gl23, cl23, HG23⟩ := Kd.R_form HO257.out (by omega); (first | cases eo23 | (injection eo23 with ea_ en_ ec_; (first | subst ea_ | (injection ea_ with ea_; subst ea_)); subst ec_; clear en_)); have GB23 := Aside0.mk gb23; have GG23 := Aside0.mk HG23; clear gb23 gl23 HG23; obtain ⟨hx23_0, hf23_0⟩ := Kd.R_celln false HO257.out (a1 : Int) p23 q23; replace p23 := eq_true p23; replace q23 := eq_true q23; obtain ⟨hy29_, hz29_⟩ := Kd.R_celln false HO257.out (a1 : Int) (of_decide_eq_true (by first | (with_reducible assumption) | assumption)) (of_decide_eq_true (by first | (with_reducible assumption) | assumption)); have HP29 := Kd.R_putg HO257.out (a1 : Int) true) | ((with_reducible refine gate_store (t := 4) (p := 38) rfl ?_); refine store_event (t := 4) (p := 38) (v := ?vo_w30) (w1 := (w27.setCell ⟨go23, (a1 : Int).toNat, none⟩ (.bool true))) ?hg ?ho ?hn ?hr ?_; (case ho => rfl); (case hg => rfl); (case hn => rfl); (case hr => first | (go_simp; done) | (go_simp; rfl)); intro w30 hw; have hg : w27.grownBy w30 (some go23) := (by rw [hw]; exact HP29.2); have hp_ : Kd.R Kd.bool 4 w30 w.heap.size (fun _ => True) (.slice (some ⟨go23, 0, none⟩) y255.length co23) y258 := (by rw [hw, Ny258.out]; exact HP29.1); clear HP29; replace BK251 := Aside0.mk (blk_grown (g := gb251) (o := .cells #[.slice A0_0 l0_0.length c0_0, .slice A0_1 l0_1.length c0_1] 27 (0, 0)) (tK BK251.out) hg (Kd.R_ne HO257.out BK251.out (by decide))); replace BK252 := Aside0.mk (blk_grown (g := gb252) (o := .cells #[.slice none 0 0, .slice none 0 0] 27 (0, 0)) (tK BK252.out) hg (Kd.R_ne HO257.out BK252.out (by decide))); replace HO257 := Aside0.mk (hp_); replace HB := Aside0.mk ((by rw [hw]; exact below_set (HB.out) GB23.out : Below w.heap.size w w30)); clear hg hw hp_; obtain ⟨hcz31_0, hfz31_0, hcz31_1, hfz31_1⟩ := cz2 BK251) | ((with_reducible refine gate_dst (N := 42) rfl ?_); (try (refine gate_guard (by rfl) ?_; dsimp only)); refine Kd.R_make (Kd.int .i64) _ 3 rfl (N := 42) rfl 37 _ _ rfl (l0_0.length : Int) rfl rfl Try.underlying37 (.int .i64 0) 8 info3 rfl (by decide) (by omega) 0 (ok := fun _ => True) (okp := fun _ => True) rfl (fun _ hk => hk) trivial (of_decide_eq_true (by first | (with_reducible assumption) | assumption)) (Nat.le_trans (Nat.mul_le_mul_right _ (of_decide_eq_true (by first | (with_reducible assumption) | assumption) : (l0_0.length : Int).toNat ≤ 35184372088832)) (by omega)) (Below.refl _ _) (Nat.le_refl _) ?_; intro v260 w32 ho33 hb hg_ hnew_; clear hg_ hnew_; (first | rw [← Ny259.out] at ho33 | (simp only [Int.reduceToNat] at ho33; rw [← Ny259.out] at ho33)); replace HO257 := Aside0.mk (Kd.R_below (tR HO257.out) hb); have HO261 := Aside0.mk (Kd.R_lower ho33 (below_size (tB HB.out))); replace BK251 := bkB BK251 hb; replace BK252 := bkB BK252 hb; replace HB := Aside0.mk (below_step (tB HB.out) hb); clear hb ho33; obtain ⟨hcz34_0, hfz34_0, hcz34_1, hfz34_1⟩ := cz2 BK251))
         go_loopg [8, 46] kj2 (fun kq v8 v46 w' => ∃ (x6_2 : List Bool) (x7_2 : List Int) (x8_2 : Int) (x46_2 : Int), v8 = .int .i64 x8_2 ∧ v46 = .int .i64 x46_2 ∧ Aside0 (impl_CutRod.l0 kq a1 x6_2 x7_2 x8_2 (l0_0.length : Int) x46_2 l0_0 l0_1 = some (r1, r2, r3)) ∧ Aside0 (kq ≤ kj2) ∧ Aside0 (Kd.R Kd.bool 4 w' w.heap.size (fun _ => True) (.slice (some ⟨go23, 0, none⟩) y255.length co23) x6_2) ∧ Aside0 (Kd.R (Kd.int .i64) 3 w' w.heap.size (fun _ => True) v260 x7_2) ∧ Aside0 (w'.heap[gb251]? = some (.cells #[(.slice A0_0 l0_0.length c0_0), (.slice A0_1 l0_1.length c0_1)] 27 (0, 0))) ∧ Aside0 (w'.heap[gb252]? = some (.cells #[(.slice none 0 0), (.slice none 0 0)] 27 (0, 0))) ∧ Aside0 (Below w.heap.size w w'))
         case atStart => exact ⟨(y258), (y259), (0), (0), (by first | rfl | (simp; done) | (simp [wrap64]; done) | (simp [*]; done)), (by first | rfl | (simp; done) | (simp [wrap64]; done) | (simp [*]; done)), H', ⟨Nat.le_refl _⟩, ⟨tR HO257.out⟩, ⟨tR HO261.out⟩, ⟨tK BK251.out⟩, ⟨tK BK252.out⟩, ⟨tB HB.out⟩⟩
         case round =>
          clear H'
          try clear c1
          try clear c2
          try clear p2
          try clear q2
          try clear hx2
          try clear hf2
          try clear c4
          try clear p6
          try clear c7
          try clear c9
          try clear c13
          try clear c16
          try clear c17
          try clear c18
          try clear c19
          try clear c19b0
          try clear c19b1
          try clear c20
          try clear c20b0
          try clear c20b1
          try clear c21
          try clear c21b0
          try clear c22
          try clear c22b0
          try clear p23
          try clear q23
          try clear hx23
          try clear hf23
          try clear c24
          try clear c24b0
          try clear c24b1
          try clear c25
          try clear hcz10_0
          try clear hcz10_1
          try clear hcz12_0
          try clear hcz12_1
          try clear hcz14_0
          try clear hcz14_1
          try clear hcz18_0
          try clear hcz18_1
          try clear hcz26_0
          try clear hcz26_1
          try clear hcz31_0
          try clear hcz31_1
          try clear hcz34_0
          try clear hcz34_1
          try clear hfz10_0
          try clear hfz10_1
          try clear hfz12_0
          try clear hfz12_1
          try clear hfz14_0
          try clear hfz14_1
          try clear hfz18_0
          try clear hfz18_1
          try clear hfz26_0
          try clear hfz26_1
          try clear hfz31_0
          try clear hfz31_1
          try clear hfz34_0
          try clear hfz34_1
          try clear hx23_0
          try clear p2
          try clear p23
          try clear p6
          try clear q23
          obtain ⟨x6_2, x7_2, x8_2, x46_2, rfl, rfl, HA, HK2, HO_6, HO_7, BK251, BK252, HB⟩ := hrel
          have hl6_2 := (Kd.R_reads' HO_6.out).1
          rw [hl6_2] at HO_6
          (try simp only [hl6_2])
          (try simp only [hl6_2] at BK251)
          (try simp only [hl6_2] at BK252)
          (try simp only [hl6_2] at HO_7)
          cases gk with
          | zero => exact absurd HA.out (by simp [impl_CutRod.l0])
          | succ k2 =>
           have H := HA.out
           clear HA
           simp only [impl_CutRod.l0] at H
           by_cases c35 : x46_2 < (l0_0.length : Int)
           ·
            rw [if_pos c35] at H
            have c35b0 : decide (x46_2 < (l0_0.length : Int)) = true := decide_eq_true c35
            clear c35
            by_cases c36 : 0 ≤ x46_2
            ·
             rw [if_pos c36] at H
             have c36b0 : decide (0 ≤ x46_2) = true := decide_eq_true c36
             clear c36
             by_cases c37 : x46_2 < (x6_2.length : Int)
             ·
              rw [if_pos c37] at H
              have c37b0 : decide (x46_2 < (x6_2.length : Int)) = true := decide_eq_true c37
              clear c37
              obtain ⟨bq38, hbq38⟩ : ∃ b_ : Bool, b_ = (rdOf false x6_2 x46_2) := ⟨_, rfl⟩
              replace H : (if bq38 = true then (if x46_2 < (l0_1.length : Int) then (impl_CutRod.l1 k2 a1 x6_2 x7_2 x8_2 (l0_0.length : Int) x46_2 0 l0_0 l0_1 ((rd_T58 l0_1 x46_2).f0) ((rd_T58 l0_1 x46_2).f1)) else (none)) else (if x46_2 < (x7_2.length : Int) then (impl_CutRod.l0 k2 a1 x6_2 (x7_2.set (x46_2 : Int).toNat x8_2) (wrap64 (x8_2 + 1)) (l0_0.length : Int) (wrap64 (x46_2 + 1)) l0_0 l0_1) else (none))) = some (r1, r2, r3) := by rw [← hbq38] at H; exact H
              have Nbq38 := Aside0.mk hbq38
              clear hbq38
              by_cases c39 : bq38 = true
              ·
               subst c39
               have H1 : (if x46_2 < (l0_1.length : Int) then (impl_CutRod.l1 k2 a1 x6_2 x7_2 x8_2 (l0_0.length : Int) x46_2 0 l0_0 l0_1 ((rd_T58 l0_1 x46_2).f0) ((rd_T58 l0_1 x46_2).f1)) else (none)) = some (r1, r2, r3) := by rw [if_pos rfl] at H; exact H
               clear H
               have H := H1
               clear H1
               by_cases c40 : x46_2 < (l0_1.length : Int)
               ·
                rw [if_pos c40] at H
                have c40b0 : decide (x46_2 < (l0_1.length : Int)) = true := decide_eq_true c40
                clear c40
                have H' := Aside0.mk H
                clear H
                have p262 : 0 ≤ (x46_2 : Int) := of_decide_eq_true (by first | (with_reducible assumption) | assumption)
                have q262 : x46_2 < (x6_2.length : Int) := of_decide_eq_true (by first | (with_reducible assumption) | assumption)
                obtain ⟨ad262, e262, hx262_0⟩ := Kd.at_bool (Kd.R_reads' HO_6.out).2.2 x46_2 p262 q262
                (try rw [← Nbq38.out] at hx262_0)
                obtain rfl : (⟨go23, 0, none⟩ : Addr) = ad262 := (by injection e262)
                (first | simp only [add_plain] at hx262_0 | simp only [add_at] at hx262_0 | simp only [Addr.add, Nat.zero_add] at hx262_0 | skip)
                replace p262 := eq_true p262
                replace q262 := eq_true q262
                have hnb41 := NB251_252.out
                have hnc41 := NB252_251.out
                obtain ⟨hcz42_0, hfz42_0, hcz42_1, hfz42_1⟩ := cz2 BK251
                have p264 : 0 ≤ (x46_2 : Int) := of_decide_eq_true (by first | (with_reducible assumption) | assumption)
                have q264 : x46_2 < (l0_1.length : Int) := of_decide_eq_true (by first | (with_reducible assumption) | assumption)
                obtain ⟨ad264, e264, hx264_0, hx264_1⟩ := at_T58 HR0_1.out x46_2 p264 q264
                cases e264
                replace hx264_0 := (HB.out.cell (World.block_lt_of_cell? w _ hx264_0)).trans hx264_0
                replace hx264_1 := (HB.out.cell (World.block_lt_of_cell? w _ hx264_1)).trans hx264_1
                replace p264 := eq_true p264
                replace q264 := eq_true q264
                go_wp2
                go_loopg [65] k2 (fun kq v65 w' => ∃ (x6_3 : List Bool) (x65_3 : Int), v65 = .int .i64 x65_3 ∧ Aside0 (impl_CutRod.l1 kq a1 x6_3 x7_2 x8_2 (l0_0.length : Int) x46_2 x65_3 l0_0 l0_1 ((rd_T58 l0_1 x46_2).f0) ((rd_T58 l0_1 x46_2).f1) = some (r1, r2, r3)) ∧ Aside0 (kq ≤ k2) ∧ Aside0 (Kd.R Kd.bool 4 w' w.heap.size (fun _ => True) (.slice (some ⟨go23, 0, none⟩) x6_2.length co23) x6_3) ∧ Aside0 (Kd.R (Kd.int .i64) 3 w' w.heap.size (fun _ => True) v260 x7_2) ∧ Aside0 (w'.heap[gb251]? = some (.cells #[(.slice A0_0 l0_0.length c0_0), (.slice (some ad264) l0_1.length c0_1)] 27 (0, 0))) ∧ Aside0 (w'.heap[gb252]? = some (.cells #[(.slice none 0 0), (.slice none 0 0)] 27 (0, 0))) ∧ Aside0 (Below w.heap.size w w'))
                case atStart => exact ⟨(x6_2), (0), (by first | rfl | (simp; done) | (simp [wrap64]; done) | (simp [*]; done)), H', ⟨Nat.le_refl _⟩, ⟨by (try simp only [hl6_2]); (with_reducible repeat (first | apply Kd.R_alloc | apply Kd.R_drewN | apply Kd.R_drew)); exact HO_6.out⟩, ⟨by (try simp only [hl6_2]); (with_reducible repeat (first | apply Kd.R_alloc | apply Kd.R_drewN | apply Kd.R_drew)); exact HO_7.out⟩, ⟨by (try simp only [hl6_2]); (with_reducible repeat (first | refine blk_drewN ?_ _ | refine blk_drew ?_ | refine blk_alloc ?_ _)); exact BK251.out⟩, ⟨by (try simp only [hl6_2]); (with_reducible repeat (first | refine blk_drewN ?_ _ | refine blk_drew ?_ | refine blk_alloc ?_ _)); exact BK252.out⟩, ⟨tB HB.out⟩⟩
                case round =>
                 clear H'
                 try clear c1
                 try clear c2
                 try clear p2
                 try clear q2
                 try clear hx2
                 try clear hf2
                 try clear c3
                 try clear q3
                 try clear c4
                 try clear p6
                 try clear c7
                 try clear c9
                 try clear c13
                 try clear c16
                 try clear c17
                 try clear c18
                 try clear c19
                 try clear c19b0
                 try clear c19b1
                 try clear c20
                 try clear c20b0
                 try clear c20b1
                 try clear c21
                 try clear c21b0
                 try clear c22
                 try clear c22b0
                 try clear p23
                 try clear q23
                 try clear hx23
                 try clear hf23
                 try clear c24
                 try clear c24b0
                 try clear c24b1
                 try clear c25
                 try clear p26
                 try clear q26
                 try clear hx26
                 try clear c35
                 try clear c35b0
                 try clear c36
                 try clear c36b0
                 try clear c37
                 try clear c37b0
                 try clear q38
                 try clear c39
                 try clear c40
                 try clear c40b0
                 try clear c41
                 try clear hcz10_0
                 try clear hcz10_1
                 try clear hcz12_0
                 try clear hcz12_1
                 try clear hcz14_0
                 try clear hcz14_1
                 try clear hcz18_0
                 try clear hcz18_1
                 try clear hcz26_0
                 try clear hcz26_1
                 try clear hcz31_0
                 try clear hcz31_1
                 try clear hcz34_0
                 try clear hcz34_1
                 try clear hcz42_0
                 try clear hcz42_1
                 try clear hfz10_0
                 try clear hfz10_1
                 try clear hfz12_0
                 try clear hfz12_1
                 try clear hfz14_0
                 try clear hfz14_1
                 try clear hfz18_0
                 try clear hfz18_1
                 try clear hfz26_0
                 try clear hfz26_1
                 try clear hfz31_0
                 try clear hfz31_1
                 try clear hfz34_0
                 try clear hfz34_1
                 try clear hfz42_0
                 try clear hfz42_1
                 try clear hx23_0
                 try clear hx262_0
                 try clear hx264_0
                 try clear hx264_1
                 try clear p2
                 try clear p23
                 try clear p262
                 try clear p264
                 try clear p6
                 try clear q2
                 try clear q23
                 try clear q262
                 try clear q264
                 obtain ⟨x6_3, x65_3, rfl, HA, HK3, HO_6, HO_7, BK251, BK252, HB⟩ := hrel
                 have hl6_3 := (Kd.R_reads' HO_6.out).1
                 rw [hl6_3] at HO_6
                 (try simp only [hl6_3])
                 (try simp only [hl6_3] at BK251)
                 (try simp only [hl6_3] at BK252)
                 (try simp only [hl6_3] at HO_7)
                 cases gk with
                 | zero => exact absurd HA.out (by simp [impl_CutRod.l1])
                 | succ k3 =>
                  have H := HA.out
                  clear HA
                  simp only [impl_CutRod.l1] at H
                  by_cases c43 : x65_3 < 2
                  ·
                   rw [if_pos c43] at H
                   have c43b0 : decide (x65_3 < 2) = true := decide_eq_true c43
                   clear c43
                   by_cases c44 : x65_3 = 0
                   ·
                    subst c44
                    have H1 : (if ((rd_T58 l0_1 x46_2).f0) < 0 then (if 0 ≤ (wrap64 (-((rd_T58 l0_1 x46_2).f0))) then (if (wrap64 (-((rd_T58 l0_1 x46_2).f0))) < (x6_3.length : Int) then (impl_CutRod.l1 k3 a1 (x6_3.set ((wrap64 (-((rd_T58 l0_1 x46_2).f0))) : Int).toNat true) x7_2 x8_2 (l0_0.length : Int) x46_2 (wrap64 (0 + 1)) l0_0 l0_1 ((rd_T58 l0_1 x46_2).f0) ((rd_T58 l0_1 x46_2).f1)) else (none)) else (none)) else (impl_CutRod.l1 k3 a1 x6_3 x7_2 x8_2 (l0_0.length : Int) x46_2 (wrap64 (0 + 1)) l0_0 l0_1 ((rd_T58 l0_1 x46_2).f0) ((rd_T58 l0_1 x46_2).f1))) = some (r1, r2, r3) := by rw [if_pos rfl] at H; exact H
                    clear H
                    have H := H1
                    clear H1
                    by_cases c45 : ((rd_T58 l0_1 x46_2).f0) < 0
                    ·
                     rw [if_pos c45] at H
                     have c45b0 : decide (((rd_T58 l0_1 x46_2).f0) < 0) = true := decide_eq_true c45
                     clear c45
                     obtain ⟨ji46, hji46⟩ : ∃ j_ : Int, (wrap64 (-((rd_T58 l0_1 x46_2).f0))) = j_ := ⟨_, rfl⟩
                     replace H : (if 0 ≤ (ji46) then (if (ji46) < (x6_3.length : Int) then (impl_CutRod.l1 k3 a1 (x6_3.set ((ji46) : Int).toNat true) x7_2 x8_2 (l0_0.length : Int) x46_2 (wrap64 (0 + 1)) l0_0 l0_1 ((rd_T58 l0_1 x46_2).f0) ((rd_T58 l0_1 x46_2).f1)) else (none)) else (none)) = some (r1, r2, r3) := by first | (rw [hji46] at H; exact H) | (simp only [hji46] at H ⊢; exact H)
                     have hji46w : (IntKind.i64.wrap (-((rd_T58 l0_1 x46_2).f0))) = ji46 := (i64_w _).trans hji46
                     by_cases c47 : 0 ≤ (ji46)
                     ·
                      rw [if_pos c47] at H
                      have c47b0 : decide (0 ≤ (ji46)) = true := decide_eq_true c47
                      clear c47
                      by_cases c48 : (ji46) < (x6_3.length : Int)
                      ·
                       rw [if_pos c48] at H
                       have c48b0 : decide ((ji46) < (x6_3.length : Int)) = true := decide_eq_true c48
                       clear c48
                       obtain ⟨y265, hy265⟩ : ∃ y_ : List Bool, y_ = (x6_3.set ((ji46) : Int).toNat true) := ⟨_, rfl⟩
                       replace H : (impl_CutRod.l1 k3 a1 y265 x7_2 x8_2 (l0_0.length : Int) x46_2 (wrap64 (0 + 1)) l0_0 l0_1 ((rd_T58 l0_1 x46_2).f0) ((rd_T58 l0_1 x46_2).f1)) = some (r1, r2, r3) := by first | (rw [hy265]; with_reducible exact H) | (have H2_ := (Option.bind_some _ _).symm.trans H; rw [hy265]; with_reducible exact H2_) | (have H2_ := (Option.bind_some _ _).symm.trans H; with_reducible exact H2_) | with_reducible exact H | (rw [hy265]; exact H) | exact H
                       have Ny265 := Aside0.mk hy265
                       clear hy265
                       have H' := Aside0.mk H
                       clear H
                       have p49 : 0 ≤ ((ji46) : Int) := of_decide_eq_true (by first | (with_reducible assumption) | assumption)
                       have q49 : ((ji46) : Int) < ((x6_3.length : Int) : Int) := of_decide_eq_true (by first | (with_reducible assumption) | assumption)
                       obtain ⟨hx49_0, hf49_0⟩ := Kd.R_celln false HO_6.out ((ji46) : Int) p49 q49
                       replace p49 := eq_true p49
                       replace q49 := eq_true q49
                       have HP50 := Kd.R_putg HO_6.out ((ji46) : Int) true
                       go_wp2_with (first | ((with_reducible refine gate_store (t := 4) (p := 73) rfl ?_); refine store_event (t := 4) (p := 73) (v := ?vo_w51) (w1 := (wr.setCell ⟨go23, ((ji46) : Int).toNat, none⟩ (.bool true))) ?hg ?ho ?hn ?hr ?_; (case ho => rfl); (case hg => rfl); (case hn => rfl); (case hr => first | (go_simp; done) | (go_simp; rfl)); intro w51 hw; have hg : wr.grownBy w51 (some go23) := (by rw [hw]; exact HP50.2); have hp_ : Kd.R Kd.bool 4 w51 w.heap.size (fun _ => True) (.slice (some ⟨go23, 0, none⟩) x6_3.length co23) y265 := (by rw [hw, Ny265.out]; exact HP50.1); clear HP50; replace HO_7 := Aside0.mk (Kd.R_over' (v := (.slice (some ⟨go23, 0, none⟩) x6_3.length co23)) (tR HO_7.out) (Kd.R_typed HO_6.out) (by decide) hg); replace BK251 := Aside0.mk (blk_grown (g := gb251) (o := .cells #[.slice A0_0 l0_0.length c0_0, .slice (some ad264) l0_1.length c0_1] 27 (0, 0)) (tK BK251.out) hg (Kd.R_ne HO_6.out BK251.out (by decide))); replace BK252 := Aside0.mk (blk_grown (g := gb252) (o := .cells #[.slice none 0 0, .slice none 0 0] 27 (0, 0)) (tK BK252.out) hg (Kd.R_ne HO_6.out BK252.out (by decide))); replace HO_6 := Aside0.mk (hp_); replace HB := Aside0.mk ((by rw [hw]; exact below_set (HB.out) GB23.out : Below w.heap.size w w51)); clear hg hw hp_))
                       (try simp only [← hl6_3])
                       go_roundg k3
                       case measure => have := HJ2.out; have := HK2.out; have := HK3.out; omega
                       case rel => exact ⟨(y265), (wrap64 (0 + 1)), (by first | rfl | (simp; done) | (simp [wrap64]; done) | (simp [*]; done)), H', ⟨by have := HJ2.out; have := HK2.out; have := HK3.out; omega⟩, ⟨by (try simp only [hl6_2]); (try simp only [hl6_3]); (with_reducible repeat (first | apply Kd.R_alloc | apply Kd.R_drewN | apply Kd.R_drew)); exact HO_6.out⟩, ⟨by (try simp only [hl6_2]); (try simp only [hl6_3]); (with_reducible repeat (first | apply Kd.R_alloc | apply Kd.R_drewN | apply Kd.R_drew)); exact HO_7.out⟩, ⟨by (try simp only [hl6_2]); (try simp only [hl6_3]); (with_reducible repeat (first | refine blk_drewN ?_ _ | refine blk_drew ?_ | refine blk_alloc ?_ _)); exact BK251.out⟩, ⟨by (try simp only [hl6_2]); (try simp only [hl6_3]); (with_reducible repeat (first | refine blk_drewN ?_ _ | refine blk_drew ?_ | refine blk_alloc ?_ _)); exact BK252.out⟩, ⟨tB HB.out⟩⟩
                      ·
                       rw [if_neg c48] at H
                       exact absurd H (by simp)
                     ·
                      rw [if_neg c47] at H
                      exact absurd H (by simp)
                    ·
                     rw [if_neg c45] at H
                     have c45b0 : decide (((rd_T58 l0_1 x46_2).f0) < 0) = false := decide_eq_false c45
                     clear c45
                     have H' := Aside0.mk H
                     clear H
                     go_wp2
                     (try simp only [← hl6_3])
                     go_roundg k3
                     case measure => have := HJ2.out; have := HK2.out; have := HK3.out; omega
                     case rel => exact ⟨(x6_3), (wrap64 (0 + 1)), (by first | rfl | (simp; done) | (simp [wrap64]; done) | (simp [*]; done)), H', ⟨by have := HJ2.out; have := HK2.out; have := HK3.out; omega⟩, ⟨by (try simp only [hl6_2]); (try simp only [hl6_3]); (with_reducible repeat (first | apply Kd.R_alloc | apply Kd.R_drewN | apply Kd.R_drew)); exact HO_6.out⟩, ⟨by (try simp only [hl6_2]); (try simp only [hl6_3]); (with_reducible repeat (first | apply Kd.R_alloc | apply Kd.R_drewN | apply Kd.R_drew)); exact HO_7.out⟩, ⟨by (try simp only [hl6_2]); (try simp only [hl6_3]); (with_reducible repeat (first | refine blk_drewN ?_ _ | refine blk_drew ?_ | refine blk_alloc ?_ _)); exact BK251.out⟩, ⟨by (try simp only [hl6_2]); (try simp only [hl6_3]); (with_reducible repeat (first | refine blk_drewN ?_ _ | refine blk_drew ?_ | refine blk_alloc ?_ _)); exact BK252.out⟩, ⟨tB HB.out⟩⟩
                   ·
                    rw [if_neg c44] at H
                    have c44b0 : (x65_3 == 0) = false := beq_eq_false_iff_ne.mpr c44
                    have c44b1 : (x65_3 != 0) = true := bne_iff_ne.mpr c44
                    by_cases c52 : x65_3 = 1
                    ·
                     subst c52
                     have H1 : (if ((rd_T58 l0_1 x46_2).f1) < 0 then (if 0 ≤ (wrap64 (-((rd_T58 l0_1 x46_2).f1))) then (if (wrap64 (-((rd_T58 l0_1 x46_2).f1))) < (x6_3.length : Int) then (impl_CutRod.l1 k3 a1 (x6_3.set ((wrap64 (-((rd_T58 l0_1 x46_2).f1))) : Int).toNat true) x7_2 x8_2 (l0_0.length : Int) x46_2 (wrap64 (1 + 1)) l0_0 l0_1 ((rd_T58 l0_1 x46_2).f0) ((rd_T58 l0_1 x46_2).f1)) else (none)) else (none)) else (impl_CutRod.l1 k3 a1 x6_3 x7_2 x8_2 (l0_0.length : Int) x46_2 (wrap64 (1 + 1)) l0_0 l0_1 ((rd_T58 l0_1 x46_2).f0) ((rd_T58 l0_1 x46_2).f1))) = some (r1, r2, r3) := by rw [if_pos rfl] at H; exact H
                     clear H
                     have H := H1
                     clear H1
                     by_cases c53 : ((rd_T58 l0_1 x46_2).f1) < 0
                     ·
                      rw [if_pos c53] at H
                      have c53b0 : decide (((rd_T58 l0_1 x46_2).f1) < 0) = true := decide_eq_true c53
                      clear c53
                      obtain ⟨ji54, hji54⟩ : ∃ j_ : Int, (wrap64 (-((rd_T58 l0_1 x46_2).f1))) = j_ := ⟨_, rfl⟩
                      replace H : (if 0 ≤ (ji54) then (if (ji54) < (x6_3.length : Int) then (impl_CutRod.l1 k3 a1 (x6_3.set ((ji54) : Int).toNat true) x7_2 x8_2 (l0_0.length : Int) x46_2 (wrap64 (1 + 1)) l0_0 l0_1 ((rd_T58 l0_1 x46_2).f0) ((rd_T58 l0_1 x46_2).f1)) else (none)) else (none)) = some (r1, r2, r3) := by first | (rw [hji54] at H; exact H) | (simp only [hji54] at H ⊢; exact H)
                      have hji54w : (IntKind.i64.wrap (-((rd_T58 l0_1 x46_2).f1))) = ji54 := (i64_w _).trans hji54
                      by_cases c55 : 0 ≤ (ji54)
                      ·
                       rw [if_pos c55] at H
                       have c55b0 : decide (0 ≤ (ji54)) = true := decide_eq_true c55
                       clear c55
                       by_cases c56 : (ji54) < (x6_3.length : Int)
                       ·
                        rw [if_pos c56] at H
                        have c56b0 : decide ((ji54) < (x6_3.length : Int)) = true := decide_eq_true c56
                        clear c56
                        obtain ⟨y266, hy266⟩ : ∃ y_ : List Bool, y_ = (x6_3.set ((ji54) : Int).toNat true) := ⟨_, rfl⟩
                        replace H : (impl_CutRod.l1 k3 a1 y266 x7_2 x8_2 (l0_0.length : Int) x46_2 (wrap64 (1 + 1)) l0_0 l0_1 ((rd_T58 l0_1 x46_2).f0) ((rd_T58 l0_1 x46_2).f1)) = some (r1, r2, r3) := by first | (rw [hy266]; with_reducible exact H) | (have H2_ := (Option.bind_some _ _).symm.trans H; rw [hy266]; with_reducible exact H2_) | (have H2_ := (Option.bind_some _ _).symm.trans H; with_reducible exact H2_) | with_reducible exact H | (rw [hy266]; exact H) | exact H
                        have Ny266 := Aside0.mk hy266
                        clear hy266
                        have H' := Aside0.mk H
                        clear H
                        have p57 : 0 ≤ ((ji54) : Int) := of_decide_eq_true (by first | (with_reducible assumption) | assumption)
                        have q57 : ((ji54) : Int) < ((x6_3.length : Int) : Int) := of_decide_eq_true (by first | (with_reducible assumption) | assumption)
                        obtain ⟨hx57_0, hf57_0⟩ := Kd.R_celln false HO_6.out ((ji54) : Int) p57 q57
                        replace p57 := eq_true p57
                        replace q57 := eq_true q57
                        have HP58 := Kd.R_putg HO_6.out ((ji54) : Int) true
                        go_wp2_with (first | ((with_reducible refine gate_store (t := 4) (p := 73) rfl ?_); refine store_event (t := 4) (p := 73) (v := ?vo_w59) (w1 := (wr.setCell ⟨go23, ((ji54) : Int).toNat, none⟩ (.bool true))) ?hg ?ho ?hn ?hr ?_; (case ho => rfl); (case hg => rfl); (case hn => rfl); (case hr => first | (go_simp; done) | (go_simp; rfl)); intro w59 hw; have hg : wr.grownBy w59 (some go23) := (by rw [hw]; exact HP58.2); have hp_ : Kd.R Kd.bool 4 w59 w.heap.size (fun _ => True) (.slice (some ⟨go23, 0, none⟩) x6_3.length co23) y266 := (by rw [hw, Ny266.out]; exact HP58.1); clear HP58; replace HO_7 := Aside0.mk (Kd.R_over' (v := (.slice (some ⟨go23, 0, none⟩) x6_3.length co23)) (tR HO_7.out) (Kd.R_typed HO_6.out) (by decide) hg); replace BK251 := Aside0.mk (blk_grown (g := gb251) (o := .cells #[.slice A0_0 l0_0.length c0_0, .slice (some ad264) l0_1.length c0_1] 27 (0, 0)) (tK BK251.out) hg (Kd.R_ne HO_6.out BK251.out (by decide))); replace BK252 := Aside0.mk (blk_grown (g := gb252) (o := .cells #[.slice none 0 0, .slice none 0 0] 27 (0, 0)) (tK BK252.out) hg (Kd.R_ne HO_6.out BK252.out (by decide))); replace HO_6 := Aside0.mk (hp_); replace HB := Aside0.mk ((by rw [hw]; exact below_set (HB.out) GB23.out : Below w.heap.size w w59)); clear hg hw hp_))
                        (try simp only [← hl6_3])
                        go_roundg k3
                        case measure => have := HJ2.out; have := HK2.out; have := HK3.out; omega
                        case rel => exact ⟨(y266), (wrap64 (1 + 1)), (by first | rfl | (simp; done) | (simp [wrap64]; done) | (simp [*]; done)), H', ⟨by have := HJ2.out; have := HK2.out; have := HK3.out; omega⟩, ⟨by (try simp only [hl6_2]); (try simp only [hl6_3]); (with_reducible repeat (first | apply Kd.R_alloc | apply Kd.R_drewN | apply Kd.R_drew)); exact HO_6.out⟩, ⟨by (try simp only [hl6_2]); (try simp only [hl6_3]); (with_reducible repeat (first | apply Kd.R_alloc | apply Kd.R_drewN | apply Kd.R_drew)); exact HO_7.out⟩, ⟨by (try simp only [hl6_2]); (try simp only [hl6_3]); (with_reducible repeat (first | refine blk_drewN ?_ _ | refine blk_drew ?_ | refine blk_alloc ?_ _)); exact BK251.out⟩, ⟨by (try simp only [hl6_2]); (try simp only [hl6_3]); (with_reducible repeat (first | refine blk_drewN ?_ _ | refine blk_drew ?_ | refine blk_alloc ?_ _)); exact BK252.out⟩, ⟨tB HB.out⟩⟩
                       ·
                        rw [if_neg c56] at H
                        exact absurd H (by simp)
                      ·
                       rw [if_neg c55] at H
                       exact absurd H (by simp)
                     ·
                      rw [if_neg c53] at H
                      have c53b0 : decide (((rd_T58 l0_1 x46_2).f1) < 0) = false := decide_eq_false c53
                      clear c53
                      have H' := Aside0.mk H
                      clear H
                      go_wp2
                      (try simp only [← hl6_3])
                      go_roundg k3
                      case measure => have := HJ2.out; have := HK2.out; have := HK3.out; omega
                      case rel => exact ⟨(x6_3), (wrap64 (1 + 1)), (by first | rfl | (simp; done) | (simp [wrap64]; done) | (simp [*]; done)), H', ⟨by have := HJ2.out; have := HK2.out; have := HK3.out; omega⟩, ⟨by (try simp only [hl6_2]); (try simp only [hl6_3]); (with_reducible repeat (first | apply Kd.R_alloc | apply Kd.R_drewN | apply Kd.R_drew)); exact HO_6.out⟩, ⟨by (try simp only [hl6_2]); (try simp only [hl6_3]); (with_reducible repeat (first | apply Kd.R_alloc | apply Kd.R_drewN | apply Kd.R_drew)); exact HO_7.out⟩, ⟨by (try simp only [hl6_2]); (try simp only [hl6_3]); (with_reducible repeat (first | refine blk_drewN ?_ _ | refine blk_drew ?_ | refine blk_alloc ?_ _)); exact BK251.out⟩, ⟨by (try simp only [hl6_2]); (try simp only [hl6_3]); (with_reducible repeat (first | refine blk_drewN ?_ _ | refine blk_drew ?_ | refine blk_alloc ?_ _)); exact BK252.out⟩, ⟨tB HB.out⟩⟩
                    ·
                     rw [if_neg c52] at H
                     exact absurd H (by simp)
                  ·
                   rw [if_neg c43] at H
                   have c43b0 : decide (x65_3 < 2) = false := decide_eq_false c43
                   clear c43
                   have H' := Aside0.mk H
                   clear H
                   go_wp2
                   (try simp only [← hl6_2, ← hl6_3])
                   go_roundg k3
                   case measure => have := HJ2.out; have := HK2.out; have := HK3.out; omega
                   case rel => exact ⟨(x6_3), (x7_2), (x8_2), (wrap64 (x46_2 + 1)), (by first | rfl | (simp; done) | (simp [wrap64]; done) | (simp [*]; done)), (by first | rfl | (simp; done) | (simp [wrap64]; done) | (simp [*]; done)), H', ⟨by have := HJ2.out; have := HK2.out; have := HK3.out; omega⟩, ⟨by (try simp only [hl6_2]); (try simp only [hl6_3]); (with_reducible repeat (first | apply Kd.R_alloc | apply Kd.R_drewN | apply Kd.R_drew)); exact HO_6.out⟩, ⟨by (try simp only [hl6_2]); (try simp only [hl6_3]); (with_reducible repeat (first | apply Kd.R_alloc | apply Kd.R_drewN | apply Kd.R_drew)); exact HO_7.out⟩, ⟨by (try simp only [hl6_2]); (try simp only [hl6_3]); (with_reducible repeat (first | refine blk_drewN ?_ _ | refine blk_drew ?_ | refine blk_alloc ?_ _)); exact BK251.out⟩, ⟨by (try simp only [hl6_2]); (try simp only [hl6_3]); (with_reducible repeat (first | refine blk_drewN ?_ _ | refine blk_drew ?_ | refine blk_alloc ?_ _)); exact BK252.out⟩, ⟨tB HB.out⟩⟩
               ·
                rw [if_neg c40] at H
                exact absurd H (by simp)
              ·
               replace c39 := Bool.eq_false_iff.mpr c39
               subst c39
               have H1 : (if x46_2 < (x7_2.length : Int) then (impl_CutRod.l0 k2 a1 x6_2 (x7_2.set (x46_2 : Int).toNat x8_2) (wrap64 (x8_2 + 1)) (l0_0.length : Int) (wrap64 (x46_2 + 1)) l0_0 l0_1) else (none)) = some (r1, r2, r3) := by rw [if_neg (show ¬ (false = true) by decide)] at H; exact H
               clear H
               have H := H1
               clear H1
               by_cases c60 : x46_2 < (x7_2.length : Int)
               ·
                rw [if_pos c60] at H
                have c60b0 : decide (x46_2 < (x7_2.length : Int)) = true := decide_eq_true c60
                clear c60
                obtain ⟨y263, hy263⟩ : ∃ y_ : List Int, y_ = (x7_2.set (x46_2 : Int).toNat x8_2) := ⟨_, rfl⟩
                replace H : (impl_CutRod.l0 k2 a1 x6_2 y263 (wrap64 (x8_2 + 1)) (l0_0.length : Int) (wrap64 (x46_2 + 1)) l0_0 l0_1) = some (r1, r2, r3) := by first | (rw [hy263]; with_reducible exact H) | (have H2_ := (Option.bind_some _ _).symm.trans H; rw [hy263]; with_reducible exact H2_) | (have H2_ := (Option.bind_some _ _).symm.trans H; with_reducible exact H2_) | with_reducible exact H | (rw [hy263]; exact H) | exact H
                have Ny263 := Aside0.mk hy263
                clear hy263
                have H' := Aside0.mk H
                clear H
                have p262 : 0 ≤ (x46_2 : Int) := of_decide_eq_true (by first | (with_reducible assumption) | assumption)
                have q262 : x46_2 < (x6_2.length : Int) := of_decide_eq_true (by first | (with_reducible assumption) | assumption)
                obtain ⟨ad262, e262, hx262_0⟩ := Kd.at_bool (Kd.R_reads' HO_6.out).2.2 x46_2 p262 q262
                (try rw [← Nbq38.out] at hx262_0)
                obtain rfl : (⟨go23, 0, none⟩ : Addr) = ad262 := (by injection e262)
                (first | simp only [add_plain] at hx262_0 | simp only [add_at] at hx262_0 | simp only [Addr.add, Nat.zero_add] at hx262_0 | skip)
                replace p262 := eq_true p262
                replace q262 := eq_true q262
                have p61 : 0 ≤ (x46_2 : Int) := of_decide_eq_true (by first | (with_reducible assumption) | assumption)
                have q61 : (x46_2 : Int) < ((x7_2.length : Int) : Int) := of_decide_eq_true (by first | (with_reducible assumption) | assumption)
                obtain ⟨go61, co61, eo61, gb61, gl61, cl61, HG61⟩ := Kd.R_form HO_7.out (by omega)
                (first | cases eo61 | (injection eo61 with ea_ en_ ec_; (first | subst ea_ | (injection ea_ with ea_; subst ea_)); subst ec_; clear en_))
                have GB61 := Aside0.mk gb61
                have GG61 := Aside0.mk HG61
                clear gb61 gl61 HG61
                obtain ⟨hx61_0, hf61_0⟩ := Kd.R_celln 0 HO_7.out (x46_2 : Int) p61 q61
                replace p61 := eq_true p61
                replace q61 := eq_true q61
                have HP62 := Kd.R_putg HO_7.out (x46_2 : Int) x8_2
                go_wp2_with (first | ((with_reducible refine gate_store (t := 3) (p := 57) rfl ?_); refine store_event (t := 3) (p := 57) (v := ?vo_w63) (w1 := (wr.setCell ⟨go61, (x46_2 : Int).toNat, none⟩ (.int .i64 x8_2))) ?hg ?ho ?hn ?hr ?_; (case ho => rfl); (case hg => rfl); (case hn => rfl); (case hr => first | (go_simp; done) | (go_simp; rfl)); intro w63 hw; have hg : wr.grownBy w63 (some go61) := (by rw [hw]; exact HP62.2); have hp_ : Kd.R (Kd.int .i64) 3 w63 w.heap.size (fun _ => True) (.slice (some ⟨go61, 0, none⟩) x7_2.length co61) y263 := (by rw [hw, Ny263.out]; exact HP62.1); clear HP62; replace HO_6 := Aside0.mk (Kd.R_over' (v := (.slice (some ⟨go61, 0, none⟩) x7_2.length co61)) (tR HO_6.out) (Kd.R_typed HO_7.out) (by decide) hg); replace BK251 := Aside0.mk (blk_grown (g := gb251) (o := .cells #[.slice A0_0 l0_0.length c0_0, .slice A0_1 l0_1.length c0_1] 27 (0, 0)) (tK BK251.out) hg (Kd.R_ne HO_7.out BK251.out (by decide))); replace BK252 := Aside0.mk (blk_grown (g := gb252) (o := .cells #[.slice none 0 0, .slice none 0 0] 27 (0, 0)) (tK BK252.out) hg (Kd.R_ne HO_7.out BK252.out (by decide))); replace HO_7 := Aside0.mk (hp_); replace HB := Aside0.mk ((by rw [hw]; exact below_set (HB.out) GB61.out : Below w.heap.size w w63)); clear hg hw hp_))
                (try simp only [← hl6_2])
                go_roundg k2
                case measure => have := HJ2.out; have := HK2.out; omega
                case rel => exact ⟨(x6_2), (y263), (wrap64 (x8_2 + 1)), (wrap64 (x46_2 + 1)), (by first | rfl | (simp; done) | (simp [wrap64]; done) | (simp [*]; done)), (by first | rfl | (simp; done) | (simp [wrap64]; done) | (simp [*]; done)), H', ⟨by have := HJ2.out; have := HK2.out; omega⟩, ⟨by (try simp only [hl6_2]); (with_reducible repeat (first | apply Kd.R_alloc | apply Kd.R_drewN | apply Kd.R_drew)); exact HO_6.out⟩, ⟨by (try simp only [hl6_2]); (with_reducible repeat (first | apply Kd.R_alloc | apply Kd.R_drewN | apply Kd.R_drew)); exact HO_7.out⟩, ⟨by (try simp only [hl6_2]); (with_reducible repeat (first | refine blk_drewN ?_ _ | refine blk_drew ?_ | refine blk_alloc ?_ _)); exact BK251.out⟩, ⟨by (try simp only [hl6_2]); (with_reducible repeat (first | refine blk_drewN ?_ _ | refine blk_drew ?_ | refine blk_alloc ?_ _)); exact BK252.out⟩, ⟨tB HB.out⟩⟩
               ·
                rw [if_neg c60] at H
                exact absurd H (by simp)
             ·
              rw [if_neg c37] at H
              exact absurd H (by simp)
            ·
             rw [if_neg c36] at H
             exact absurd H (by simp)
           ·
            rw [if_neg c35] at H
            have c35b0 : decide (x46_2 < (l0_0.length : Int)) = false := decide_eq_false c35
            clear c35
            replace H := Option.bind_eq_some_iff.mp H
            obtain ⟨t267, A640, H⟩ := H
            replace H : (if 0 ≤ a1 then (if a1 < (t267.length : Int) then (impl_CutRod.l2 k2 a1 x6_2 x7_2 (rd t267 a1) l0_0 (l0_0.length : Int) 0 l0_0 l0_1 ([] : List (S58)) ([] : List (S58))) else (none)) else (none)) = some (r1, r2, r3) := H
            have A64 := Aside0.mk A640
            clear A640
            by_cases c65 : 0 ≤ a1
            ·
             rw [if_pos c65] at H
             have c65b0 : decide (0 ≤ a1) = true := decide_eq_true c65
             clear c65
             by_cases c66 : a1 < (t267.length : Int)
             ·
              rw [if_pos c66] at H
              have c66b0 : decide (a1 < (t267.length : Int)) = true := decide_eq_true c66
              clear c66
              have H' := Aside0.mk H
              clear H
              have hnb67 := NB251_252.out
              have hnc67 := NB252_251.out
              obtain ⟨hcz68_0, hfz68_0, hcz68_1, hfz68_1⟩ := cz2 BK251
              go_wp2_with (first | ((with_reducible refine gate_callee (f := 64) rfl ?_); refine goesL_ (some 77) rfl rfl Try.func64 (by kernel_rfl) rfl #[.agg #[.slice A0_0 l0_0.length c0_0, .slice A0_1 l0_1.length c0_1]] rfl tM ?_; (with_reducible refine (impl_rodWeights.calls k2 _ _ l0_0 _ _ l0_1 t267 _ ?side1 ?side2 ?side3 ?side4 A64.out).mono ?_); (case side1 => exact tC (Kd.C_below HR0_0.out HB.out)); (case side2 => exact HC0_0.out); (case side3 => exact tC (Kd.C_below HR0_1.out HB.out)); (case side4 => exact HC0_1.out); rintro e w69 ⟨v268, rfl, ho0, hb⟩; refine ⟨_, rfl, ?_⟩; replace HO_6 := Aside0.mk (Kd.R_below (tR HO_6.out) hb); have HO269 := Aside0.mk (Kd.R_lower (Kd.R_new' ho0 (Kd.R_lt (tR HO_7.out))) (below_size (tB HB.out))); replace HO_7 := Aside0.mk (Kd.R_elder' (tR HO_7.out) (Kd.R_base ho0) hb); replace BK251 := bkB BK251 hb; replace BK252 := bkB BK252 hb; replace HB := Aside0.mk (below_step (tB HB.out) hb); (try clear hb); (try clear hb2); (try clear hk); (try clear hi); (try clear ho0); obtain ⟨Ao70, co70, eo70⟩ := Kd.R_slice HO269.out; subst eo70; have p270 : 0 ≤ (a1 : Int) := of_decide_eq_true (by first | (with_reducible assumption) | assumption); have q270 : a1 < (t267.length : Int) := of_decide_eq_true (by first | (with_reducible assumption) | assumption); obtain ⟨ad270, e270, hx270_0⟩ := Kd.at_int (Kd.R_reads' HO269.out).2.2 a1 p270 q270; cases e270; replace p270 := eq_true p270; replace q270 := eq_true q270) | ((with_reducible refine gate_dst (N := 13) rfl ?_); (try (refine gate_guard (by rfl) ?_; dsimp only)); refine box_event ?hg (N := 13) ?hd (cs := #[.slice none 0 0, .slice none 0 0]) (t := 27) ?hr ?_; (case hd => rfl); (case hg => rfl); (case hr => first | (go_simp; done) | (go_simp; rfl)); intro gb271 hg w71 hbox hb; replace HO_6 := Aside0.mk (Kd.R_below (tR HO_6.out) hb); replace HO_7 := Aside0.mk (Kd.R_below (tR HO_7.out) hb); replace HO269 := Aside0.mk (Kd.R_below (tR HO269.out) hb); have BK271 := Aside0.mk (hbox); have GW271 := Aside0.mk (bS HB.out hg); have GE271 := Aside0.mk (bS HB.out hg); replace HB := Aside0.mk (below_step (tB HB.out) hb); have NB251_271 := Aside0.mk (nL BK251.out hg); have NB271_251 := Aside0.mk (nG BK251.out hg); replace BK251 := bkB BK251 hb; have NB252_271 := Aside0.mk (nL BK252.out hg); have NB271_252 := Aside0.mk (nG BK252.out hg); replace BK252 := bkB BK252 hb; clear hb hbox hg; have hnb72 := NB271_251.out; have hnc72 := NB251_271.out; have hnb73 := NB271_252.out; have hnc73 := NB252_271.out; obtain ⟨hcz74_0, hfz74_0, hcz74_1, hfz74_1⟩ := cz2 BK271; obtain ⟨hcz75_0, hfz75_0, hcz75_1, hfz75_1⟩ := cz2 BK251))
              go_loopg [85] k2 (fun kq v85 w' => ∃ (x85_3 : Int) (x272000_3 : List (S58)) (x272001_3 : List (S58)) (u272000 : Value) (u272001 : Value), v85 = .int .i64 x85_3 ∧ Aside0 (impl_CutRod.l2 kq a1 x6_2 x7_2 (rd t267 a1) l0_0 (l0_0.length : Int) x85_3 l0_0 l0_1 x272000_3 x272001_3 = some (r1, r2, r3)) ∧ Aside0 (kq ≤ k2) ∧ Aside0 (Kd.R Kd.bool 4 w' w.heap.size (fun _ => True) (.slice (some ⟨go23, 0, none⟩) x6_2.length co23) x6_2) ∧ Aside0 (Kd.R (Kd.int .i64) 3 w' w.heap.size (fun _ => True) v260 x7_2) ∧ Aside0 (Kd.R k58 58 w' w.heap.size (fun k_ => some k_ ≠ (u272001 : Value).ownBlock) u272000 x272000_3) ∧ Aside0 (Kd.R k58 58 w' w.heap.size (fun k_ => some k_ ≠ (u272000 : Value).ownBlock) u272001 x272001_3) ∧ Aside0 (w'.heap[gb251]? = some (.cells #[(.slice A0_0 l0_0.length c0_0), (.slice A0_1 l0_1.length c0_1)] 27 (0, 0))) ∧ Aside0 (w'.heap[gb252]? = some (.cells #[(.slice none 0 0), (.slice none 0 0)] 27 (0, 0))) ∧ Aside0 (w'.heap[gb271]? = some (.cells #[u272000, u272001] 27 (0, 0))) ∧ Aside0 (Below w.heap.size w w'))
              case atStart => exact ⟨(0), (([] : List (S58))), (([] : List (S58))), (.slice none 0 0), (.slice none 0 0), (by first | rfl | (simp; done) | (simp [wrap64]; done) | (simp [*]; done)), H', ⟨Nat.le_refl _⟩, ⟨by (try simp only [hl6_2]); (with_reducible repeat (first | apply Kd.R_alloc | apply Kd.R_drewN | apply Kd.R_drew)); exact Kd.R_mono (Kd.R_far (p := ⟨gb271, 1, none⟩) (Kd.R_far (p := ⟨gb271, 0, none⟩) (Kd.R_types HO_6.out BK271.out (by decide)) (fun _ hk => hk.2) (.slice none 0 0)) (fun _ hk => hk.2) (.slice none 0 0)) (fun _ hk => trivial)⟩, ⟨by (try simp only [hl6_2]); (with_reducible repeat (first | apply Kd.R_alloc | apply Kd.R_drewN | apply Kd.R_drew)); exact Kd.R_mono (Kd.R_far (p := ⟨gb271, 1, none⟩) (Kd.R_far (p := ⟨gb271, 0, none⟩) (Kd.R_types HO_7.out BK271.out (by decide)) (fun _ hk => hk.2) (.slice none 0 0)) (fun _ hk => hk.2) (.slice none 0 0)) (fun _ hk => trivial)⟩, ⟨by (try simp only [hl6_2]); first | exact Kd.R_nil _ _ _ _ _ | exact Kd.N_nil _ _ _ _ _ | exact Kd.V_nil _ _ _ _ _ | exact Kd.Q_nil _ _ _ _ _ | exact Kd.S_nil _ _ _ _ _⟩, ⟨by (try simp only [hl6_2]); first | exact Kd.R_nil _ _ _ _ _ | exact Kd.N_nil _ _ _ _ _ | exact Kd.V_nil _ _ _ _ _ | exact Kd.Q_nil _ _ _ _ _ | exact Kd.S_nil _ _ _ _ _⟩, ⟨by (try simp only [hl6_2]); (with_reducible repeat (first | refine blk_drewN ?_ _ | refine blk_drew ?_ | refine blk_alloc ?_ _)); refine blk_far ?_ NB251_271.out _; (with_reducible repeat (first | refine blk_drewN ?_ _ | refine blk_drew ?_ | refine blk_alloc ?_ _)); refine blk_far ?_ NB251_271.out _; (with_reducible repeat (first | refine blk_drewN ?_ _ | refine blk_drew ?_ | refine blk_alloc ?_ _)); exact BK251.out⟩, ⟨by (try simp only [hl6_2]); (with_reducible repeat (first | refine blk_drewN ?_ _ | refine blk_drew ?_ | refine blk_alloc ?_ _)); refine blk_far ?_ NB252_271.out _; (with_reducible repeat (first | refine blk_drewN ?_ _ | refine blk_drew ?_ | refine blk_alloc ?_ _)); refine blk_far ?_ NB252_271.out _; (with_reducible repeat (first | refine blk_drewN ?_ _ | refine blk_drew ?_ | refine blk_alloc ?_ _)); exact BK252.out⟩, ⟨by (try simp only [hl6_2]); (with_reducible repeat (first | refine blk_drewN ?_ _ | refine blk_drew ?_ | refine blk_alloc ?_ _)); refine blk_put (cs := #[.slice none 0 0, .slice none 0 0]) ?_ 1 _ rfl; (with_reducible repeat (first | refine blk_drewN ?_ _ | refine blk_drew ?_ | refine blk_alloc ?_ _)); refine blk_put (cs := #[.slice none 0 0, .slice none 0 0]) ?_ 0 _ rfl; (with_reducible repeat (first | refine blk_drewN ?_ _ | refine blk_drew ?_ | refine blk_alloc ?_ _)); exact BK271.out⟩, ⟨tB HB.out⟩⟩
              case round =>
               clear H'
               try clear c1
               try clear c2
               try clear p2
               try clear q2
               try clear hx2
               try clear hf2
               try clear c3
               try clear q3
               try clear c4
               try clear p4
               try clear q4
               try clear hx4
               try clear hf4
               try clear c5
               try clear p5
               try clear q5
               try clear hx5
               try clear hf5
               try clear c6
               try clear p6
               try clear q6
               try clear hx6
               try clear hf6
               try clear c7
               try clear c9
               try clear c13
               try clear c16
               try clear c17
               try clear c18
               try clear c19
               try clear c19b0
               try clear c19b1
               try clear c20
               try clear c20b0
               try clear c20b1
               try clear c21
               try clear c21b0
               try clear c22
               try clear c22b0
               try clear p23
               try clear q23
               try clear hx23
               try clear hf23
               try clear c24
               try clear c24b0
               try clear c24b1
               try clear c25
               try clear p26
               try clear q26
               try clear hx26
               try clear p27
               try clear q27
               try clear hx27
               try clear c35
               try clear c35b0
               try clear c36
               try clear c36b0
               try clear c37
               try clear c37b0
               try clear q38
               try clear c39
               try clear c40
               try clear c40b0
               try clear c41
               try clear c43
               try clear c43b0
               try clear c44
               try clear c44b0
               try clear c44b1
               try clear c45
               try clear c45b0
               try clear c47
               try clear c47b0
               try clear c48
               try clear c48b0
               try clear p49
               try clear q49
               try clear hx49
               try clear hf49
               try clear c52
               try clear c53
               try clear c53b0
               try clear c55
               try clear c55b0
               try clear c56
               try clear c56b0
               try clear p57
               try clear q57
               try clear hx57
               try clear hf57
               try clear c60
               try clear c60b0
               try clear p61
               try clear q61
               try clear hx61
               try clear hf61
               try clear c64
               try clear p64
               try clear c65
               try clear c65b0
               try clear c66
               try clear c66b0
               try clear c67
               try clear c72
               try clear c73
               try clear hcz10_0
               try clear hcz10_1
               try clear hcz12_0
               try clear hcz12_1
               try clear hcz14_0
               try clear hcz14_1
               try clear hcz18_0
               try clear hcz18_1
               try clear hcz26_0
               try clear hcz26_1
               try clear hcz31_0
               try clear hcz31_1
               try clear hcz34_0
               try clear hcz34_1
               try clear hcz42_0
               try clear hcz42_1
               try clear hcz68_0
               try clear hcz68_1
               try clear hcz74_0
               try clear hcz74_1
               try clear hcz75_0
               try clear hcz75_1
               try clear hfz10_0
               try clear hfz10_1
               try clear hfz12_0
               try clear hfz12_1
               try clear hfz14_0
               try clear hfz14_1
               try clear hfz18_0
               try clear hfz18_1
               try clear hfz26_0
               try clear hfz26_1
               try clear hfz31_0
               try clear hfz31_1
               try clear hfz34_0
               try clear hfz34_1
               try clear hfz42_0
               try clear hfz42_1
               try clear hfz68_0
               try clear hfz68_1
               try clear hfz74_0
               try clear hfz74_1
               try clear hfz75_0
               try clear hfz75_1
               try clear hx23_0
               try clear hx262_0
               try clear hx264_0
               try clear hx264_1
               try clear hx270_0
               try clear hx49_0
               try clear hx57_0
               try clear hx61_0
               try clear p2
               try clear p23
               try clear p26
               try clear p262
               try clear p264
               try clear p270
               try clear p49
               try clear p57
               try clear p6
               try clear p61
               try clear q2
               try clear q23
               try clear q26
               try clear q262
               try clear q264
               try clear q270
               try clear q3
               try clear q38
               try clear q49
               try clear q57
               try clear q61
               obtain ⟨x85_3, x272000_3, x272001_3, u272000, u272001, rfl, HA, HK3, HO_6, HO_7, HO_272000, HO_272001, BK251, BK252, BK271, HB⟩ := hrel
               cases gk with
               | zero => exact absurd HA.out (by simp [impl_CutRod.l2])
               | succ k3 =>
                have H := HA.out
                clear HA
                simp only [impl_CutRod.l2] at H
                by_cases c76 : x85_3 < (l0_0.length : Int)
                ·
                 rw [if_pos c76] at H
                 have c76b0 : decide (x85_3 < (l0_0.length : Int)) = true := decide_eq_true c76
                 clear c76
                 by_cases c77 : 0 ≤ x85_3
                 ·
                  rw [if_pos c77] at H
                  have c77b0 : decide (0 ≤ x85_3) = true := decide_eq_true c77
                  clear c77
                  by_cases c78 : x85_3 < (l0_0.length : Int)
                  ·
                   rw [if_pos c78] at H
                   have c78b0 : decide (x85_3 < (l0_0.length : Int)) = true := decide_eq_true c78
                   clear c78
                   by_cases c79 : x85_3 < (x6_2.length : Int)
                   ·
                    rw [if_pos c79] at H
                    have c79b0 : decide (x85_3 < (x6_2.length : Int)) = true := decide_eq_true c79
                    clear c79
                    obtain ⟨bq80, hbq80⟩ : ∃ b_ : Bool, b_ = (rdOf false x6_2 x85_3) := ⟨_, rfl⟩
                    replace H : (if bq80 = true then (impl_CutRod.l2 k3 a1 x6_2 x7_2 (rd t267 a1) l0_0 (l0_0.length : Int) (wrap64 (x85_3 + 1)) l0_0 l0_1 x272000_3 x272001_3) else (if x85_3 < (l0_1.length : Int) then (impl_CutRod.l3 k3 a1 x6_2 x7_2 (rd t267 a1) l0_0 (l0_0.length : Int) x85_3 0 l0_0 l0_1 x272000_3 x272001_3 ((rd_T58 l0_0 x85_3).f0) ((rd_T58 l0_0 x85_3).f1) ((rd_T58 l0_1 x85_3).f0) ((rd_T58 l0_1 x85_3).f1) ((rd_T58 l0_1 x85_3).f0) ((rd_T58 l0_1 x85_3).f1)) else (none))) = some (r1, r2, r3) := by rw [← hbq80] at H; exact H
                    have Nbq80 := Aside0.mk hbq80
                    clear hbq80
                    by_cases c81 : bq80 = true
                    ·
                     subst c81
                     have H1 : (impl_CutRod.l2 k3 a1 x6_2 x7_2 (rd t267 a1) l0_0 (l0_0.length : Int) (wrap64 (x85_3 + 1)) l0_0 l0_1 x272000_3 x272001_3) = some (r1, r2, r3) := by rw [if_pos rfl] at H; exact H
                     clear H
                     have H := H1
                     clear H1
                     have H' := Aside0.mk H
                     clear H
                     have p279 : 0 ≤ (x85_3 : Int) := of_decide_eq_true (by first | (with_reducible assumption) | assumption)
                     have q279 : x85_3 < (l0_0.length : Int) := of_decide_eq_true (by first | (with_reducible assumption) | assumption)
                     obtain ⟨ad279, e279, hx279_0, hx279_1⟩ := at_T58 HR0_0.out x85_3 p279 q279
                     cases e279
                     replace hx279_0 := (HB.out.cell (World.block_lt_of_cell? w _ hx279_0)).trans hx279_0
                     replace hx279_1 := (HB.out.cell (World.block_lt_of_cell? w _ hx279_1)).trans hx279_1
                     replace p279 := eq_true p279
                     replace q279 := eq_true q279
                     go_wp2_with (first | ((with_reducible refine gate_dst (N := 15) rfl ?_); (try (refine gate_guard (by rfl) ?_; dsimp only)); refine box_event ?hg (N := 15) ?hd (cs := #[.int .i64 0, .int .i64 0]) (t := 58) ?hr ?_; (case hd => rfl); (case hg => rfl); (case hr => first | (go_simp; done) | (go_simp; rfl)); intro gb280 hg w82 hbox hb; replace HO_6 := Aside0.mk (Kd.R_below (tR HO_6.out) hb); replace HO_7 := Aside0.mk (Kd.R_below (tR HO_7.out) hb); replace HO_272000 := Aside0.mk (Kd.R_below (Kd.R_elderB (tR HO_272000.out) gb280 (Nat.le_of_eq hg.symm)) hb); replace HO_272001 := Aside0.mk (Kd.R_below (Kd.R_elderB (tR HO_272001.out) gb280 (Nat.le_of_eq hg.symm)) hb); have BK280 := Aside0.mk (hbox); have GW280 := Aside0.mk (bS HB.out hg); have GE280 := Aside0.mk (bS HB.out hg); replace HB := Aside0.mk (below_step (tB HB.out) hb); have NB251_280 := Aside0.mk (nL BK251.out hg); have NB280_251 := Aside0.mk (nG BK251.out hg); replace BK251 := bkB BK251 hb; have NB252_280 := Aside0.mk (nL BK252.out hg); have NB280_252 := Aside0.mk (nG BK252.out hg); replace BK252 := bkB BK252 hb; have NB271_280 := Aside0.mk (nL BK271.out hg); have NB280_271 := Aside0.mk (nG BK271.out hg); replace BK271 := bkB BK271 hb; clear hb hbox hg; have hnb83 := NB280_251.out; have hnc83 := NB251_280.out; have hnb84 := NB280_252.out; have hnc84 := NB252_280.out; have hnb85 := NB280_271.out; have hnc85 := NB271_280.out; obtain ⟨hcz86_0, hfz86_0, hcz86_1, hfz86_1⟩ := cz2 BK280; have p281 : 0 ≤ (x85_3 : Int) := of_decide_eq_true (by first | (with_reducible assumption) | assumption); have q281 : x85_3 < (x6_2.length : Int) := of_decide_eq_true (by first | (with_reducible assumption) | assumption); obtain ⟨ad281, e281, hx281_0⟩ := Kd.at_bool (Kd.R_reads' HO_6.out).2.2 x85_3 p281 q281; (try rw [← Nbq80.out] at hx281_0); obtain rfl : (⟨go23, 0, none⟩ : Addr) = ad281 := (by injection e281); (first | simp only [add_plain] at hx281_0 | simp only [add_at] at hx281_0 | simp only [Addr.add, Nat.zero_add] at hx281_0 | skip); have hn281_0 : (⟨go23, 0, none⟩ : Addr).block ≠ gb280 := Kd.own_blk (Kd.R_ne HO_6.out BK280.out (by decide)); have hn281_1 : (⟨go23, 0, none⟩ : Addr).block ≠ gb280 := Kd.own_blk (Kd.R_ne HO_6.out BK280.out (by decide)); replace hx281_0 := (cell_far (p := ⟨gb280, 0, none⟩) (by first | (rw [add_block]; exact hn281_0) | (show (Addr.add _ _).block ≠ _; rw [add_block]; exact hn281_0) | exact hn281_0) (.int .i64 ((rd_T58 l0_0 x85_3).f0))).trans hx281_0; replace hx281_0 := (cell_far (p := ⟨gb280, 1, none⟩) (by first | (rw [add_block]; exact hn281_1) | (show (Addr.add _ _).block ≠ _; rw [add_block]; exact hn281_1) | exact hn281_1) (.int .i64 ((rd_T58 l0_0 x85_3).f1))).trans hx281_0; clear hn281_0; clear hn281_1; replace p281 := eq_true p281; replace q281 := eq_true q281))
                     go_roundg k3
                     case measure => have := HJ2.out; have := HK2.out; have := HK3.out; omega
                     case rel => exact ⟨(wrap64 (x85_3 + 1)), (x272000_3), (x272001_3), (u272000), (u272001), (by first | rfl | (simp; done) | (simp [wrap64]; done) | (simp [*]; done)), H', ⟨by have := HJ2.out; have := HK2.out; have := HK3.out; omega⟩, ⟨by (try simp only [hl6_2]); (with_reducible repeat (first | apply Kd.R_alloc | apply Kd.R_drewN | apply Kd.R_drew)); exact Kd.R_mono (Kd.R_far (p := ⟨gb280, 1, none⟩) (Kd.R_far (p := ⟨gb280, 0, none⟩) (Kd.R_types HO_6.out BK280.out (by decide)) (fun _ hk => hk.2) (.int .i64 ((rd_T58 l0_0 x85_3).f0))) (fun _ hk => hk.2) (.int .i64 ((rd_T58 l0_0 x85_3).f1))) (fun _ hk => trivial)⟩, ⟨by (try simp only [hl6_2]); (with_reducible repeat (first | apply Kd.R_alloc | apply Kd.R_drewN | apply Kd.R_drew)); exact Kd.R_mono (Kd.R_far (p := ⟨gb280, 1, none⟩) (Kd.R_far (p := ⟨gb280, 0, none⟩) (Kd.R_types HO_7.out BK280.out (by decide)) (fun _ hk => hk.2) (.int .i64 ((rd_T58 l0_0 x85_3).f0))) (fun _ hk => hk.2) (.int .i64 ((rd_T58 l0_0 x85_3).f1))) (fun _ hk => trivial)⟩, ⟨by (try simp only [hl6_2]); (with_reducible repeat (first | apply Kd.R_alloc | apply Kd.R_drewN | apply Kd.R_drew)); exact Kd.R_mono (Kd.R_far (p := ⟨gb280, 1, none⟩) (Kd.R_far (p := ⟨gb280, 0, none⟩) (Kd.R_mono HO_272000.out (fun k_ hk => (⟨hk, hk.2⟩ : _ ∧ k_ ≠ gb280))) (fun _ hk => hk.2) (.int .i64 ((rd_T58 l0_0 x85_3).f0))) (fun _ hk => hk.2) (.int .i64 ((rd_T58 l0_0 x85_3).f1))) (fun _ hk => hk.1.1)⟩, ⟨by (try simp only [hl6_2]); (with_reducible repeat (first | apply Kd.R_alloc | apply Kd.R_drewN | apply Kd.R_drew)); exact Kd.R_mono (Kd.R_far (p := ⟨gb280, 1, none⟩) (Kd.R_far (p := ⟨gb280, 0, none⟩) (Kd.R_mono HO_272001.out (fun k_ hk => (⟨hk, hk.2⟩ : _ ∧ k_ ≠ gb280))) (fun _ hk => hk.2) (.int .i64 ((rd_T58 l0_0 x85_3).f0))) (fun _ hk => hk.2) (.int .i64 ((rd_T58 l0_0 x85_3).f1))) (fun _ hk => hk.1.1)⟩, ⟨by (try simp only [hl6_2]); (with_reducible repeat (first | refine blk_drewN ?_ _ | refine blk_drew ?_ | refine blk_alloc ?_ _)); refine blk_far ?_ NB251_280.out _; (with_reducible repeat (first | refine blk_drewN ?_ _ | refine blk_drew ?_ | refine blk_alloc ?_ _)); refine blk_far ?_ NB251_280.out _; (with_reducible repeat (first | refine blk_drewN ?_ _ | refine blk_drew ?_ | refine blk_alloc ?_ _)); exact BK251.out⟩, ⟨by (try simp only [hl6_2]); (with_reducible repeat (first | refine blk_drewN ?_ _ | refine blk_drew ?_ | refine blk_alloc ?_ _)); refine blk_far ?_ NB252_280.out _; (with_reducible repeat (first | refine blk_drewN ?_ _ | refine blk_drew ?_ | refine blk_alloc ?_ _)); refine blk_far ?_ NB252_280.out _; (with_reducible repeat (first | refine blk_drewN ?_ _ | refine blk_drew ?_ | refine blk_alloc ?_ _)); exact BK252.out⟩, ⟨by (try simp only [hl6_2]); (with_reducible repeat (first | refine blk_drewN ?_ _ | refine blk_drew ?_ | refine blk_alloc ?_ _)); refine blk_far ?_ NB271_280.out _; (with_reducible repeat (first | refine blk_drewN ?_ _ | refine blk_drew ?_ | refine blk_alloc ?_ _)); refine blk_far ?_ NB271_280.out _; (with_reducible repeat (first | refine blk_drewN ?_ _ | refine blk_drew ?_ | refine blk_alloc ?_ _)); exact BK271.out⟩, ⟨tB HB.out⟩⟩
                    ·
                     replace c81 := Bool.eq_false_iff.mpr c81
                     subst c81
                     have H1 : (if x85_3 < (l0_1.length : Int) then (impl_CutRod.l3 k3 a1 x6_2 x7_2 (rd t267 a1) l0_0 (l0_0.length : Int) x85_3 0 l0_0 l0_1 x272000_3 x272001_3 ((rd_T58 l0_0 x85_3).f0) ((rd_T58 l0_0 x85_3).f1) ((rd_T58 l0_1 x85_3).f0) ((rd_T58 l0_1 x85_3).f1) ((rd_T58 l0_1 x85_3).f0) ((rd_T58 l0_1 x85_3).f1)) else (none)) = some (r1, r2, r3) := by rw [if_neg (show ¬ (false = true) by decide)] at H; exact H
                     clear H
                     have H := H1
                     clear H1
                     by_cases c87 : x85_3 < (l0_1.length : Int)
                     ·
                      rw [if_pos c87] at H
                      have c87b0 : decide (x85_3 < (l0_1.length : Int)) = true := decide_eq_true c87
                      clear c87
                      have H' := Aside0.mk H
                      clear H
                      have p279 : 0 ≤ (x85_3 : Int) := of_decide_eq_true (by first | (with_reducible assumption) | assumption)
                      have q279 : x85_3 < (l0_0.length : Int) := of_decide_eq_true (by first | (with_reducible assumption) | assumption)
                      obtain ⟨ad279, e279, hx279_0, hx279_1⟩ := at_T58 HR0_0.out x85_3 p279 q279
                      cases e279
                      replace hx279_0 := (HB.out.cell (World.block_lt_of_cell? w _ hx279_0)).trans hx279_0
                      replace hx279_1 := (HB.out.cell (World.block_lt_of_cell? w _ hx279_1)).trans hx279_1
                      replace p279 := eq_true p279
                      replace q279 := eq_true q279
                      go_wp2_with (first | ((with_reducible refine gate_dst (N := 15) rfl ?_); (try (refine gate_guard (by rfl) ?_; dsimp only)); refine box_event ?hg (N := 15) ?hd (cs := #[.int .i64 0, .int .i64 0]) (t := 58) ?hr ?_; (case hd => rfl); (case hg => rfl); (case hr => first | (go_simp; done) | (go_simp; rfl)); intro gb280 hg w88 hbox hb; replace HO_6 := Aside0.mk (Kd.R_below (tR HO_6.out) hb); replace HO_7 := Aside0.mk (Kd.R_below (tR HO_7.out) hb); replace HO_272000 := Aside0.mk (Kd.R_below (Kd.R_elderB (tR HO_272000.out) gb280 (Nat.le_of_eq hg.symm)) hb); replace HO_272001 := Aside0.mk (Kd.R_below (Kd.R_elderB (tR HO_272001.out) gb280 (Nat.le_of_eq hg.symm)) hb); have BK280 := Aside0.mk (hbox); have GW280 := Aside0.mk (bS HB.out hg); have GE280 := Aside0.mk (bS HB.out hg); replace HB := Aside0.mk (below_step (tB HB.out) hb); have NB251_280 := Aside0.mk (nL BK251.out hg); have NB280_251 := Aside0.mk (nG BK251.out hg); replace BK251 := bkB BK251 hb; have NB252_280 := Aside0.mk (nL BK252.out hg); have NB280_252 := Aside0.mk (nG BK252.out hg); replace BK252 := bkB BK252 hb; have NB271_280 := Aside0.mk (nL BK271.out hg); have NB280_271 := Aside0.mk (nG BK271.out hg); replace BK271 := bkB BK271 hb; clear hb hbox hg; have hnb89 := NB280_251.out; have hnc89 := NB251_280.out; have hnb90 := NB280_252.out; have hnc90 := NB252_280.out; have hnb91 := NB280_271.out; have hnc91 := NB271_280.out; obtain ⟨hcz92_0, hfz92_0, hcz92_1, hfz92_1⟩ := cz2 BK280; have p281 : 0 ≤ (x85_3 : Int) := of_decide_eq_true (by first | (with_reducible assumption) | assumption); have q281 : x85_3 < (x6_2.length : Int) := of_decide_eq_true (by first | (with_reducible assumption) | assumption); obtain ⟨ad281, e281, hx281_0⟩ := Kd.at_bool (Kd.R_reads' HO_6.out).2.2 x85_3 p281 q281; (try rw [← Nbq80.out] at hx281_0); obtain rfl : (⟨go23, 0, none⟩ : Addr) = ad281 := (by injection e281); (first | simp only [add_plain] at hx281_0 | simp only [add_at] at hx281_0 | simp only [Addr.add, Nat.zero_add] at hx281_0 | skip); have hn281_0 : (⟨go23, 0, none⟩ : Addr).block ≠ gb280 := Kd.own_blk (Kd.R_ne HO_6.out BK280.out (by decide)); have hn281_1 : (⟨go23, 0, none⟩ : Addr).block ≠ gb280 := Kd.own_blk (Kd.R_ne HO_6.out BK280.out (by decide)); replace hx281_0 := (cell_far (p := ⟨gb280, 0, none⟩) (by first | (rw [add_block]; exact hn281_0) | (show (Addr.add _ _).block ≠ _; rw [add_block]; exact hn281_0) | exact hn281_0) (.int .i64 ((rd_T58 l0_0 x85_3).f0))).trans hx281_0; replace hx281_0 := (cell_far (p := ⟨gb280, 1, none⟩) (by first | (rw [add_block]; exact hn281_1) | (show (Addr.add _ _).block ≠ _; rw [add_block]; exact hn281_1) | exact hn281_1) (.int .i64 ((rd_T58 l0_0 x85_3).f1))).trans hx281_0; clear hn281_0; clear hn281_1; replace p281 := eq_true p281; replace q281 := eq_true q281; have hnb93 := NB251_252.out; have hnc93 := NB252_251.out; have hnb94 := NB251_271.out; have hnc94 := NB271_251.out; obtain ⟨hcz95_0, hfz95_0, hcz95_1, hfz95_1⟩ := cz2 BK251; have p282 : 0 ≤ (x85_3 : Int) := of_decide_eq_true (by first | (with_reducible assumption) | assumption); have q282 : x85_3 < (l0_1.length : Int) := of_decide_eq_true (by first | (with_reducible assumption) | assumption); obtain ⟨ad282, e282, hx282_0, hx282_1⟩ := at_T58 HR0_1.out x85_3 p282 q282; cases e282; have hn282_0 : ad282.block ≠ gb280 := Nat.ne_of_lt (Nat.lt_of_lt_of_le (by have := World.block_lt_of_cell? _ _ hx282_0; first | rwa [add_block] at this | exact this) GW280.out); have hn282_1 : ad282.block ≠ gb280 := Nat.ne_of_lt (Nat.lt_of_lt_of_le (by have := World.block_lt_of_cell? _ _ hx282_0; first | rwa [add_block] at this | exact this) GW280.out); replace hx282_0 := (HB.out.cell (World.block_lt_of_cell? w _ hx282_0)).trans hx282_0; replace hx282_1 := (HB.out.cell (World.block_lt_of_cell? w _ hx282_1)).trans hx282_1; replace hx282_0 := (cell_far (p := ⟨gb280, 0, none⟩) (by first | (rw [add_block]; exact hn282_0) | (show (Addr.add _ _).block ≠ _; rw [add_block]; exact hn282_0) | exact hn282_0) (.int .i64 ((rd_T58 l0_0 x85_3).f0))).trans hx282_0; replace hx282_1 := (cell_far (p := ⟨gb280, 0, none⟩) (by first | (rw [add_block]; exact hn282_0) | (show (Addr.add _ _).block ≠ _; rw [add_block]; exact hn282_0) | exact hn282_0) (.int .i64 ((rd_T58 l0_0 x85_3).f0))).trans hx282_1; replace hx282_0 := (cell_far (p := ⟨gb280, 1, none⟩) (by first | (rw [add_block]; exact hn282_1) | (show (Addr.add _ _).block ≠ _; rw [add_block]; exact hn282_1) | exact hn282_1) (.int .i64 ((rd_T58 l0_0 x85_3).f1))).trans hx282_0; replace hx282_1 := (cell_far (p := ⟨gb280, 1, none⟩) (by first | (rw [add_block]; exact hn282_1) | (show (Addr.add _ _).block ≠ _; rw [add_block]; exact hn282_1) | exact hn282_1) (.int .i64 ((rd_T58 l0_0 x85_3).f1))).trans hx282_1; clear hn282_0; clear hn282_1; replace p282 := eq_true p282; replace q282 := eq_true q282) | ((with_reducible refine gate_dst (N := 16) rfl ?_); (try (refine gate_guard (by rfl) ?_; dsimp only)); refine box_event ?hg (N := 16) ?hd (cs := #[.int .i64 0, .int .i64 0]) (t := 58) ?hr ?_; (case hd => rfl); (case hg => rfl); (case hr => first | (go_simp; done) | (go_simp; rfl)); intro gb283 hg w96 hbox hb; replace HO_6 := Aside0.mk (Kd.R_below (by (with_reducible repeat (first | apply Kd.R_alloc | apply Kd.R_drewN | apply Kd.R_drew)); exact (Kd.R_mono (Kd.R_far (p := ⟨gb280, 1, none⟩) (Kd.R_far (p := ⟨gb280, 0, none⟩) (Kd.R_types HO_6.out BK280.out (by decide)) (fun _ hk => hk.2) (.int .i64 ((rd_T58 l0_0 x85_3).f0))) (fun _ hk => hk.2) (.int .i64 ((rd_T58 l0_0 x85_3).f1))) (fun _ h_ => h_.1))) hb); replace HO_7 := Aside0.mk (Kd.R_below (by (with_reducible repeat (first | apply Kd.R_alloc | apply Kd.R_drewN | apply Kd.R_drew)); exact (Kd.R_mono (Kd.R_far (p := ⟨gb280, 1, none⟩) (Kd.R_far (p := ⟨gb280, 0, none⟩) (Kd.R_types HO_7.out BK280.out (by decide)) (fun _ hk => hk.2) (.int .i64 ((rd_T58 l0_0 x85_3).f0))) (fun _ hk => hk.2) (.int .i64 ((rd_T58 l0_0 x85_3).f1))) (fun _ h_ => h_.1))) hb); replace HO_272000 := Aside0.mk (Kd.R_below (Kd.R_elderB (by (with_reducible repeat (first | apply Kd.R_alloc | apply Kd.R_drewN | apply Kd.R_drew)); exact (Kd.R_mono (Kd.R_far (p := ⟨gb280, 1, none⟩) (Kd.R_far (p := ⟨gb280, 0, none⟩) (Kd.R_mono HO_272000.out (fun k_ hk => (⟨hk, hk.2⟩ : _ ∧ k_ ≠ gb280))) (fun _ hk => hk.2) (.int .i64 ((rd_T58 l0_0 x85_3).f0))) (fun _ hk => hk.2) (.int .i64 ((rd_T58 l0_0 x85_3).f1))) (fun _ h_ => h_.1))) gb283 (Nat.le_of_eq hg.symm)) hb); replace HO_272001 := Aside0.mk (Kd.R_below (Kd.R_elderB (by (with_reducible repeat (first | apply Kd.R_alloc | apply Kd.R_drewN | apply Kd.R_drew)); exact (Kd.R_mono (Kd.R_far (p := ⟨gb280, 1, none⟩) (Kd.R_far (p := ⟨gb280, 0, none⟩) (Kd.R_mono HO_272001.out (fun k_ hk => (⟨hk, hk.2⟩ : _ ∧ k_ ≠ gb280))) (fun _ hk => hk.2) (.int .i64 ((rd_T58 l0_0 x85_3).f0))) (fun _ hk => hk.2) (.int .i64 ((rd_T58 l0_0 x85_3).f1))) (fun _ h_ => h_.1))) gb283 (Nat.le_of_eq hg.symm)) hb); have BK283 := Aside0.mk (hbox); have GW283 := Aside0.mk (bS HB.out hg); have GE283 := Aside0.mk (bS HB.out hg); replace HB := Aside0.mk (below_step (tB HB.out) hb); have NB251_283 := Aside0.mk ((by rw [hg]; exact Nat.ne_of_lt (blk_lt (g := gb251) (o := .cells #[.slice (some ad279) l0_0.length c0_0, .slice (some ad282) l0_1.length c0_1] 27 (0, 0)) (by (with_reducible repeat (first | refine blk_drewN ?_ _ | refine blk_drew ?_ | refine blk_alloc ?_ _)); refine blk_far ?_ NB251_280.out _; (with_reducible repeat (first | refine blk_drewN ?_ _ | refine blk_drew ?_ | refine blk_alloc ?_ _)); refine blk_far ?_ NB251_280.out _; (with_reducible repeat (first | refine blk_drewN ?_ _ | refine blk_drew ?_ | refine blk_alloc ?_ _)); exact BK251.out)) : gb251 ≠ gb283)); have NB283_251 := Aside0.mk ((by rw [hg]; exact Nat.ne_of_gt (blk_lt (g := gb251) (o := .cells #[.slice (some ad279) l0_0.length c0_0, .slice (some ad282) l0_1.length c0_1] 27 (0, 0)) (by (with_reducible repeat (first | refine blk_drewN ?_ _ | refine blk_drew ?_ | refine blk_alloc ?_ _)); refine blk_far ?_ NB251_280.out _; (with_reducible repeat (first | refine blk_drewN ?_ _ | refine blk_drew ?_ | refine blk_alloc ?_ _)); refine blk_far ?_ NB251_280.out _; (with_reducible repeat (first | refine blk_drewN ?_ _ | refine blk_drew ?_ | refine blk_alloc ?_ _)); exact BK251.out)) : gb283 ≠ gb251)); replace BK251 := Aside0.mk (blk_below (g := gb251) (o := .cells #[.slice (some ad279) l0_0.length c0_0, .slice (some ad282) l0_1.length c0_1] 27 (0, 0)) (by (with_reducible repeat (first | refine blk_drewN ?_ _ | refine blk_drew ?_ | refine blk_alloc ?_ _)); refine blk_far ?_ NB251_280.out _; (with_reducible repeat (first | refine blk_drewN ?_ _ | refine blk_drew ?_ | refine blk_alloc ?_ _)); refine blk_far ?_ NB251_280.out _; (with_reducible repeat (first | refine blk_drewN ?_ _ | refine blk_drew ?_ | refine blk_alloc ?_ _)); exact BK251.out) hb); have NB252_283 := Aside0.mk ((by rw [hg]; exact Nat.ne_of_lt (blk_lt (g := gb252) (o := .cells #[.slice none 0 0, .slice none 0 0] 27 (0, 0)) (by (with_reducible repeat (first | refine blk_drewN ?_ _ | refine blk_drew ?_ | refine blk_alloc ?_ _)); refine blk_far ?_ NB252_280.out _; (with_reducible repeat (first | refine blk_drewN ?_ _ | refine blk_drew ?_ | refine blk_alloc ?_ _)); refine blk_far ?_ NB252_280.out _; (with_reducible repeat (first | refine blk_drewN ?_ _ | refine blk_drew ?_ | refine blk_alloc ?_ _)); exact BK252.out)) : gb252 ≠ gb283)); have NB283_252 := Aside0.mk ((by rw [hg]; exact Nat.ne_of_gt (blk_lt (g := gb252) (o := .cells #[.slice none 0 0, .slice none 0 0] 27 (0, 0)) (by (with_reducible repeat (first | refine blk_drewN ?_ _ | refine blk_drew ?_ | refine blk_alloc ?_ _)); refine blk_far ?_ NB252_280.out _; (with_reducible repeat (first | refine blk_drewN ?_ _ | refine blk_drew ?_ | refine blk_alloc ?_ _)); refine blk_far ?_ NB252_280.out _; (with_reducible repeat (first | refine blk_drewN ?_ _ | refine blk_drew ?_ | refine blk_alloc ?_ _)); exact BK252.out)) : gb283 ≠ gb252)); replace BK252 := Aside0.mk (blk_below (g := gb252) (o := .cells #[.slice none 0 0, .slice none 0 0] 27 (0, 0)) (by (with_reducible repeat (first | refine blk_drewN ?_ _ | refine blk_drew ?_ | refine blk_alloc ?_ _)); refine blk_far ?_ NB252_280.out _; (with_reducible repeat (first | refine blk_drewN ?_ _ | refine blk_drew ?_ | refine blk_alloc ?_ _)); refine blk_far ?_ NB252_280.out _; (with_reducible repeat (first | refine blk_drewN ?_ _ | refine blk_drew ?_ | refine blk_alloc ?_ _)); exact BK252.out) hb); have NB271_283 := Aside0.mk ((by rw [hg]; exact Nat.ne_of_lt (blk_lt (g := gb271) (o := .cells #[u272000, u272001] 27 (0, 0)) (by (with_reducible repeat (first | refine blk_drewN ?_ _ | refine blk_drew ?_ | refine blk_alloc ?_ _)); refine blk_far ?_ NB271_280.out _; (with_reducible repeat (first | refine blk_drewN ?_ _ | refine blk_drew ?_ | refine blk_alloc ?_ _)); refine blk_far ?_ NB271_280.out _; (with_reducible repeat (first | refine blk_drewN ?_ _ | refine blk_drew ?_ | refine blk_alloc ?_ _)); exact BK271.out)) : gb271 ≠ gb283)); have NB283_271 := Aside0.mk ((by rw [hg]; exact Nat.ne_of_gt (blk_lt (g := gb271) (o := .cells #[u272000, u272001] 27 (0, 0)) (by (with_reducible repeat (first | refine blk_drewN ?_ _ | refine blk_drew ?_ | refine blk_alloc ?_ _)); refine blk_far ?_ NB271_280.out _; (with_reducible repeat (first | refine blk_drewN ?_ _ | refine blk_drew ?_ | refine blk_alloc ?_ _)); refine blk_far ?_ NB271_280.out _; (with_reducible repeat (first | refine blk_drewN ?_ _ | refine blk_drew ?_ | refine blk_alloc ?_ _)); exact BK271.out)) : gb283 ≠ gb271)); replace BK271 := Aside0.mk (blk_below (g := gb271) (o := .cells #[u272000, u272001] 27 (0, 0)) (by (with_reducible repeat (first | refine blk_drewN ?_ _ | refine blk_drew ?_ | refine blk_alloc ?_ _)); refine blk_far ?_ NB271_280.out _; (with_reducible repeat (first | refine blk_drewN ?_ _ | refine blk_drew ?_ | refine blk_alloc ?_ _)); refine blk_far ?_ NB271_280.out _; (with_reducible repeat (first | refine blk_drewN ?_ _ | refine blk_drew ?_ | refine blk_alloc ?_ _)); exact BK271.out) hb); have NB280_283 := Aside0.mk ((by rw [hg]; exact Nat.ne_of_lt (blk_lt (g := gb280) (o := .cells #[.int .i64 ((rd_T58 l0_0 x85_3).f0), .int .i64 ((rd_T58 l0_0 x85_3).f1)] 58 (0, 0)) (by (with_reducible repeat (first | refine blk_drewN ?_ _ | refine blk_drew ?_ | refine blk_alloc ?_ _)); refine blk_put (cs := #[.int .i64 ((rd_T58 l0_0 x85_3).f0), .int .i64 0]) ?_ 1 _ rfl; (with_reducible repeat (first | refine blk_drewN ?_ _ | refine blk_drew ?_ | refine blk_alloc ?_ _)); refine blk_put (cs := #[.int .i64 0, .int .i64 0]) ?_ 0 _ rfl; (with_reducible repeat (first | refine blk_drewN ?_ _ | refine blk_drew ?_ | refine blk_alloc ?_ _)); exact BK280.out)) : gb280 ≠ gb283)); have NB283_280 := Aside0.mk ((by rw [hg]; exact Nat.ne_of_gt (blk_lt (g := gb280) (o := .cells #[.int .i64 ((rd_T58 l0_0 x85_3).f0), .int .i64 ((rd_T58 l0_0 x85_3).f1)] 58 (0, 0)) (by (with_reducible repeat (first | refine blk_drewN ?_ _ | refine blk_drew ?_ | refine blk_alloc ?_ _)); refine blk_put (cs := #[.int .i64 ((rd_T58 l0_0 x85_3).f0), .int .i64 0]) ?_ 1 _ rfl; (with_reducible repeat (first | refine blk_drewN ?_ _ | refine blk_drew ?_ | refine blk_alloc ?_ _)); refine blk_put (cs := #[.int .i64 0, .int .i64 0]) ?_ 0 _ rfl; (with_reducible repeat (first | refine blk_drewN ?_ _ | refine blk_drew ?_ | refine blk_alloc ?_ _)); exact BK280.out)) : gb283 ≠ gb280)); replace BK280 := Aside0.mk (blk_below (g := gb280) (o := .cells #[.int .i64 ((rd_T58 l0_0 x85_3).f0), .int .i64 ((rd_T58 l0_0 x85_3).f1)] 58 (0, 0)) (by (with_reducible repeat (first | refine blk_drewN ?_ _ | refine blk_drew ?_ | refine blk_alloc ?_ _)); refine blk_put (cs := #[.int .i64 ((rd_T58 l0_0 x85_3).f0), .int .i64 0]) ?_ 1 _ rfl; (with_reducible repeat (first | refine blk_drewN ?_ _ | refine blk_drew ?_ | refine blk_alloc ?_ _)); refine blk_put (cs := #[.int .i64 0, .int .i64 0]) ?_ 0 _ rfl; (with_reducible repeat (first | refine blk_drewN ?_ _ | refine blk_drew ?_ | refine blk_alloc ?_ _)); exact BK280.out) hb); clear hb hbox hg; have hnb97 := NB283_251.out; have hnc97 := NB251_283.out; have hnb98 := NB283_252.out; have hnc98 := NB252_283.out; have hnb99 := NB283_271.out; have hnc99 := NB271_283.out; have hnb100 := NB283_280.out; have hnc100 := NB280_283.out; obtain ⟨hcz101_0, hfz101_0, hcz101_1, hfz101_1⟩ := cz2 BK283))
                      go_loopg [100] k3 (fun kq v100 w' => ∃ (x100_4 : Int) (x284000_4 : Int) (x284001_4 : Int), v100 = .int .i64 x100_4 ∧ Aside0 (impl_CutRod.l3 kq a1 x6_2 x7_2 (rd t267 a1) l0_0 (l0_0.length : Int) x85_3 x100_4 l0_0 l0_1 x272000_3 x272001_3 ((rd_T58 l0_0 x85_3).f0) ((rd_T58 l0_0 x85_3).f1) x284000_4 x284001_4 ((rd_T58 l0_1 x85_3).f0) ((rd_T58 l0_1 x85_3).f1) = some (r1, r2, r3)) ∧ Aside0 (kq ≤ k3) ∧ Aside0 (Kd.R Kd.bool 4 w' w.heap.size (fun _ => True) (.slice (some ⟨go23, 0, none⟩) x6_2.length co23) x6_2) ∧ Aside0 (Kd.R (Kd.int .i64) 3 w' w.heap.size (fun _ => True) v260 x7_2) ∧ Aside0 (Kd.R k58 58 w' w.heap.size (fun k_ => some k_ ≠ (u272001 : Value).ownBlock ∧ k_ ≠ gb280 ∧ k_ ≠ gb283) u272000 x272000_3) ∧ Aside0 (Kd.R k58 58 w' w.heap.size (fun k_ => some k_ ≠ (u272000 : Value).ownBlock ∧ k_ ≠ gb280 ∧ k_ ≠ gb283) u272001 x272001_3) ∧ Aside0 (w'.heap[gb251]? = some (.cells #[(.slice (some ad279) l0_0.length c0_0), (.slice (some ad282) l0_1.length c0_1)] 27 (0, 0))) ∧ Aside0 (w'.heap[gb252]? = some (.cells #[(.slice none 0 0), (.slice none 0 0)] 27 (0, 0))) ∧ Aside0 (w'.heap[gb271]? = some (.cells #[u272000, u272001] 27 (0, 0))) ∧ Aside0 (w'.heap[gb280]? = some (.cells #[.int .i64 ((rd_T58 l0_0 x85_3).f0), .int .i64 ((rd_T58 l0_0 x85_3).f1)] 58 (0, 0))) ∧ Aside0 (w'.heap[gb283]? = some (.cells #[.int .i64 x284000_4, .int .i64 x284001_4] 58 (0, 0))) ∧ Aside0 (Below w.heap.size w w'))
                      case atStart => exact ⟨(0), ((rd_T58 l0_1 x85_3).f0), ((rd_T58 l0_1 x85_3).f1), (by first | rfl | (simp; done) | (simp [wrap64]; done) | (simp [*]; done)), H', ⟨Nat.le_refl _⟩, ⟨by (try simp only [hl6_2]); (with_reducible repeat (first | apply Kd.R_alloc | apply Kd.R_drewN | apply Kd.R_drew)); exact Kd.R_mono (Kd.R_far (p := ⟨gb283, 1, none⟩) (Kd.R_far (p := ⟨gb283, 0, none⟩) (Kd.R_types HO_6.out BK283.out (by decide)) (fun _ hk => hk.2) (.int .i64 ((rd_T58 l0_1 x85_3).f0))) (fun _ hk => hk.2) (.int .i64 ((rd_T58 l0_1 x85_3).f1))) (fun _ hk => trivial)⟩, ⟨by (try simp only [hl6_2]); (with_reducible repeat (first | apply Kd.R_alloc | apply Kd.R_drewN | apply Kd.R_drew)); exact Kd.R_mono (Kd.R_far (p := ⟨gb283, 1, none⟩) (Kd.R_far (p := ⟨gb283, 0, none⟩) (Kd.R_types HO_7.out BK283.out (by decide)) (fun _ hk => hk.2) (.int .i64 ((rd_T58 l0_1 x85_3).f0))) (fun _ hk => hk.2) (.int .i64 ((rd_T58 l0_1 x85_3).f1))) (fun _ hk => trivial)⟩, ⟨by (try simp only [hl6_2]); (with_reducible repeat (first | apply Kd.R_alloc | apply Kd.R_drewN | apply Kd.R_drew)); exact Kd.R_mono (Kd.R_far (p := ⟨gb283, 1, none⟩) (Kd.R_far (p := ⟨gb283, 0, none⟩) (Kd.R_mono HO_272000.out (fun k_ hk => (⟨hk, hk.2⟩ : _ ∧ k_ ≠ gb283))) (fun _ hk => hk.2) (.int .i64 ((rd_T58 l0_1 x85_3).f0))) (fun _ hk => hk.2) (.int .i64 ((rd_T58 l0_1 x85_3).f1))) (fun _ hk => ⟨hk.1.1.1, ⟨hk.1.1.2, hk.1.2⟩⟩)⟩, ⟨by (try simp only [hl6_2]); (with_reducible repeat (first | apply Kd.R_alloc | apply Kd.R_drewN | apply Kd.R_drew)); exact Kd.R_mono (Kd.R_far (p := ⟨gb283, 1, none⟩) (Kd.R_far (p := ⟨gb283, 0, none⟩) (Kd.R_mono HO_272001.out (fun k_ hk => (⟨hk, hk.2⟩ : _ ∧ k_ ≠ gb283))) (fun _ hk => hk.2) (.int .i64 ((rd_T58 l0_1 x85_3).f0))) (fun _ hk => hk.2) (.int .i64 ((rd_T58 l0_1 x85_3).f1))) (fun _ hk => ⟨hk.1.1.1, ⟨hk.1.1.2, hk.1.2⟩⟩)⟩, ⟨by (try simp only [hl6_2]); (with_reducible repeat (first | refine blk_drewN ?_ _ | refine blk_drew ?_ | refine blk_alloc ?_ _)); refine blk_far ?_ NB251_283.out _; (with_reducible repeat (first | refine blk_drewN ?_ _ | refine blk_drew ?_ | refine blk_alloc ?_ _)); refine blk_far ?_ NB251_283.out _; (with_reducible repeat (first | refine blk_drewN ?_ _ | refine blk_drew ?_ | refine blk_alloc ?_ _)); exact BK251.out⟩, ⟨by (try simp only [hl6_2]); (with_reducible repeat (first | refine blk_drewN ?_ _ | refine blk_drew ?_ | refine blk_alloc ?_ _)); refine blk_far ?_ NB252_283.out _; (with_reducible repeat (first | refine blk_drewN ?_ _ | refine blk_drew ?_ | refine blk_alloc ?_ _)); refine blk_far ?_ NB252_283.out _; (with_reducible repeat (first | refine blk_drewN ?_ _ | refine blk_drew ?_ | refine blk_alloc ?_ _)); exact BK252.out⟩, ⟨by (try simp only [hl6_2]); (with_reducible repeat (first | refine blk_drewN ?_ _ | refine blk_drew ?_ | refine blk_alloc ?_ _)); refine blk_far ?_ NB271_283.out _; (with_reducible repeat (first | refine blk_drewN ?_ _ | refine blk_drew ?_ | refine blk_alloc ?_ _)); refine blk_far ?_ NB271_283.out _; (with_reducible repeat (first | refine blk_drewN ?_ _ | refine blk_drew ?_ | refine blk_alloc ?_ _)); exact BK271.out⟩, ⟨by (try simp only [hl6_2]); (with_reducible repeat (first | refine blk_drewN ?_ _ | refine blk_drew ?_ | refine blk_alloc ?_ _)); refine blk_far ?_ NB280_283.out _; (with_reducible repeat (first | refine blk_drewN ?_ _ | refine blk_drew ?_ | refine blk_alloc ?_ _)); refine blk_far ?_ NB280_283.out _; (with_reducible repeat (first | refine blk_drewN ?_ _ | refine blk_drew ?_ | refine blk_alloc ?_ _)); exact BK280.out⟩, ⟨by (try simp only [hl6_2]); (with_reducible repeat (first | refine blk_drewN ?_ _ | refine blk_drew ?_ | refine blk_alloc ?_ _)); refine blk_put (cs := #[.int .i64 ((rd_T58 l0_1 x85_3).f0), .int .i64 0]) ?_ 1 _ rfl; (with_reducible repeat (first | refine blk_drewN ?_ _ | refine blk_drew ?_ | refine blk_alloc ?_ _)); refine blk_put (cs := #[.int .i64 0, .int .i64 0]) ?_ 0 _ rfl; (with_reducible repeat (first | refine blk_drewN ?_ _ | refine blk_drew ?_ | refine blk_alloc ?_ _)); exact BK283.out⟩, ⟨tB HB.out⟩⟩
                      case round =>
                       clear H'
                       try clear c1
                       try clear c2
                       try clear p2
                       try clear q2
                       try clear hx2
                       try clear hf2
                       try clear c3
                       try clear q3
                       try clear c4
                       try clear p4
                       try clear q4
                       try clear hx4
                       try clear hf4
                       try clear c5
                       try clear p5
                       try clear q5
                       try clear hx5
                       try clear hf5
                       try clear c6
                       try clear p6
                       try clear q6
                       try clear hx6
                       try clear hf6
                       try clear c7
                       try clear c8
                       try clear q8
                       try clear c9
                       try clear c10
                       try clear c13
                       try clear c16
                       try clear c17
                       try clear c18
                       try clear c19
                       try clear c19b0
                       try clear c19b1
                       try clear c20
                       try clear c20b0
                       try clear c20b1
                       try clear c21
                       try clear c21b0
                       try clear c22
                       try clear c22b0
                       try clear p23
                       try clear q23
                       try clear hx23
                       try clear hf23
                       try clear c24
                       try clear c24b0
                       try clear c24b1
                       try clear c25
                       try clear p26
                       try clear q26
                       try clear hx26
                       try clear p27
                       try clear q27
                       try clear hx27
                       try clear p28
                       try clear q28
                       try clear hx28
                       try clear c35
                       try clear c35b0
                       try clear c36
                       try clear c36b0
                       try clear c37
                       try clear c37b0
                       try clear q38
                       try clear c39
                       try clear c40
                       try clear c40b0
                       try clear c41
                       try clear c43
                       try clear c43b0
                       try clear c44
                       try clear c44b0
                       try clear c44b1
                       try clear c45
                       try clear c45b0
                       try clear c47
                       try clear c47b0
                       try clear c48
                       try clear c48b0
                       try clear p49
                       try clear q49
                       try clear hx49
                       try clear hf49
                       try clear c52
                       try clear c53
                       try clear c53b0
                       try clear c55
                       try clear c55b0
                       try clear c56
                       try clear c56b0
                       try clear p57
                       try clear q57
                       try clear hx57
                       try clear hf57
                       try clear c60
                       try clear c60b0
                       try clear p61
                       try clear q61
                       try clear hx61
                       try clear hf61
                       try clear c64
                       try clear p64
                       try clear c65
                       try clear c65b0
                       try clear c66
                       try clear c66b0
                       try clear c67
                       try clear c72
                       try clear c73
                       try clear c76
                       try clear c76b0
                       try clear c77
                       try clear c77b0
                       try clear c78
                       try clear c78b0
                       try clear c79
                       try clear c79b0
                       try clear q80
                       try clear c81
                       try clear c83
                       try clear c84
                       try clear c85
                       try clear c87
                       try clear c87b0
                       try clear c89
                       try clear c90
                       try clear c91
                       try clear c93
                       try clear c94
                       try clear c97
                       try clear c98
                       try clear c99
                       try clear c100
                       try clear hcz101_0
                       try clear hcz101_1
                       try clear hcz10_0
                       try clear hcz10_1
                       try clear hcz12_0
                       try clear hcz12_1
                       try clear hcz14_0
                       try clear hcz14_1
                       try clear hcz18_0
                       try clear hcz18_1
                       try clear hcz26_0
                       try clear hcz26_1
                       try clear hcz31_0
                       try clear hcz31_1
                       try clear hcz34_0
                       try clear hcz34_1
                       try clear hcz42_0
                       try clear hcz42_1
                       try clear hcz68_0
                       try clear hcz68_1
                       try clear hcz74_0
                       try clear hcz74_1
                       try clear hcz75_0
                       try clear hcz75_1
                       try clear hcz86_0
                       try clear hcz86_1
                       try clear hcz92_0
                       try clear hcz92_1
                       try clear hcz95_0
                       try clear hcz95_1
                       try clear hfz101_0
                       try clear hfz101_1
                       try clear hfz10_0
                       try clear hfz10_1
                       try clear hfz12_0
                       try clear hfz12_1
                       try clear hfz14_0
                       try clear hfz14_1
                       try clear hfz18_0
                       try clear hfz18_1
                       try clear hfz26_0
                       try clear hfz26_1
                       try clear hfz31_0
                       try clear hfz31_1
                       try clear hfz34_0
                       try clear hfz34_1
                       try clear hfz42_0
                       try clear hfz42_1
                       try clear hfz68_0
                       try clear hfz68_1
                       try clear hfz74_0
                       try clear hfz74_1
                       try clear hfz75_0
                       try clear hfz75_1
                       try clear hfz86_0
                       try clear hfz86_1
                       try clear hfz92_0
                       try clear hfz92_1
                       try clear hfz95_0
                       try clear hfz95_1
                       try clear hx23_0
                       try clear hx262_0
                       try clear hx264_0
                       try clear hx264_1
                       try clear hx270_0
                       try clear hx279_0
                       try clear hx279_1
                       try clear hx281_0
                       try clear hx282_0
                       try clear hx282_1
                       try clear hx49_0
                       try clear hx57_0
                       try clear hx61_0
                       try clear p2
                       try clear p23
                       try clear p26
                       try clear p262
                       try clear p264
                       try clear p27
                       try clear p270
                       try clear p279
                       try clear p281
                       try clear p282
                       try clear p4
                       try clear p49
                       try clear p5
                       try clear p57
                       try clear p6
                       try clear p61
                       try clear p64
                       try clear q2
                       try clear q23
                       try clear q26
                       try clear q262
                       try clear q264
                       try clear q27
                       try clear q270
                       try clear q279
                       try clear q281
                       try clear q282
                       try clear q3
                       try clear q38
                       try clear q4
                       try clear q49
                       try clear q5
                       try clear q57
                       try clear q6
                       try clear q61
                       obtain ⟨x100_4, x284000_4, x284001_4, rfl, HA, HK4, HO_6, HO_7, HO_272000, HO_272001, BK251, BK252, BK271, BK280, BK283, HB⟩ := hrel
                       cases gk with
                       | zero => exact absurd HA.out (by simp [impl_CutRod.l3])
                       | succ k4 =>
                        have H := HA.out
                        clear HA
                        simp only [impl_CutRod.l3] at H
                        by_cases c102 : x100_4 < 2
                        ·
                         rw [if_pos c102] at H
                         have c102b0 : decide (x100_4 < 2) = true := decide_eq_true c102
                         clear c102
                         by_cases c103 : x100_4 = 0
                         ·
                          subst c103
                          have H1 : (if ((rd_T58 l0_1 x85_3).f0) = (wrap64 (-a1)) then (impl_CutRod.l3 k4 a1 x6_2 x7_2 (rd t267 a1) l0_0 (l0_0.length : Int) x85_3 (wrap64 (0 + 1)) l0_0 l0_1 x272000_3 x272001_3 ((rd_T58 l0_0 x85_3).f0) ((rd_T58 l0_0 x85_3).f1) (rd t267 a1) x284001_4 ((rd_T58 l0_1 x85_3).f0) ((rd_T58 l0_1 x85_3).f1)) else (if ((rd_T58 l0_1 x85_3).f0) < 0 then (if 0 ≤ (wrap64 (-((rd_T58 l0_1 x85_3).f0))) then (if (wrap64 (-((rd_T58 l0_1 x85_3).f0))) < (x7_2.length : Int) then (impl_CutRod.l3 k4 a1 x6_2 x7_2 (rd t267 a1) l0_0 (l0_0.length : Int) x85_3 (wrap64 (0 + 1)) l0_0 l0_1 x272000_3 x272001_3 ((rd_T58 l0_0 x85_3).f0) ((rd_T58 l0_0 x85_3).f1) (wrap64 (-(rd x7_2 (wrap64 (-((rd_T58 l0_1 x85_3).f0)))))) x284001_4 ((rd_T58 l0_1 x85_3).f0) ((rd_T58 l0_1 x85_3).f1)) else (none)) else (none)) else (impl_CutRod.l3 k4 a1 x6_2 x7_2 (rd t267 a1) l0_0 (l0_0.length : Int) x85_3 (wrap64 (0 + 1)) l0_0 l0_1 x272000_3 x272001_3 ((rd_T58 l0_0 x85_3).f0) ((rd_T58 l0_0 x85_3).f1) x284000_4 x284001_4 ((rd_T58 l0_1 x85_3).f0) ((rd_T58 l0_1 x85_3).f1)))) = some (r1, r2, r3) := by rw [if_pos rfl] at H; exact H
                          clear H
                          have H := H1
                          clear H1
                          by_cases c104 : ((rd_T58 l0_1 x85_3).f0) = (wrap64 (-a1))
                          ·
                           rw [if_pos c104] at H
                           have c104b0 : (((rd_T58 l0_1 x85_3).f0) == (wrap64 (-a1))) = true := beq_iff_eq.mpr c104
                           have c104b1 : (((rd_T58 l0_1 x85_3).f0) != (wrap64 (-a1))) = false := bne_eq_false_iff_eq.mpr c104
                           clear c104
                           have H' := Aside0.mk H
                           clear H
                           have hnb105 := NB283_251.out
                           have hnc105 := NB251_283.out
                           have hnb106 := NB283_252.out
                           have hnc106 := NB252_283.out
                           have hnb107 := NB283_271.out
                           have hnc107 := NB271_283.out
                           have hnb108 := NB283_280.out
                           have hnc108 := NB280_283.out
                           obtain ⟨hcz109_0, hfz109_0, hcz109_1, hfz109_1⟩ := cz2 BK283
                           go_wp2
                           go_roundg k4
                           case measure => have := HJ2.out; have := HK2.out; have := HK3.out; have := HK4.out; omega
                           case rel => exact ⟨(wrap64 (0 + 1)), ((rd t267 a1)), (x284001_4), (by first | rfl | (simp; done) | (simp [wrap64]; done) | (simp [*]; done)), H', ⟨by have := HJ2.out; have := HK2.out; have := HK3.out; have := HK4.out; omega⟩, ⟨by (try simp only [hl6_2]); (with_reducible repeat (first | apply Kd.R_alloc | apply Kd.R_drewN | apply Kd.R_drew)); exact Kd.R_mono (Kd.R_far (p := ⟨gb283, 0, none⟩) (Kd.R_types HO_6.out BK283.out (by decide)) (fun _ hk => hk.2) (.int .i64 (rd t267 a1))) (fun _ hk => trivial)⟩, ⟨by (try simp only [hl6_2]); (with_reducible repeat (first | apply Kd.R_alloc | apply Kd.R_drewN | apply Kd.R_drew)); exact Kd.R_mono (Kd.R_far (p := ⟨gb283, 0, none⟩) (Kd.R_types HO_7.out BK283.out (by decide)) (fun _ hk => hk.2) (.int .i64 (rd t267 a1))) (fun _ hk => trivial)⟩, ⟨by (try simp only [hl6_2]); (with_reducible repeat (first | apply Kd.R_alloc | apply Kd.R_drewN | apply Kd.R_drew)); exact Kd.R_mono (Kd.R_far (p := ⟨gb283, 0, none⟩) (Kd.R_mono HO_272000.out (fun k_ hk => (⟨hk, hk.2.2⟩ : _ ∧ k_ ≠ gb283))) (fun _ hk => hk.2) (.int .i64 (rd t267 a1))) (fun _ hk => ⟨hk.1.1, ⟨hk.1.2.1, hk.1.2.2⟩⟩)⟩, ⟨by (try simp only [hl6_2]); (with_reducible repeat (first | apply Kd.R_alloc | apply Kd.R_drewN | apply Kd.R_drew)); exact Kd.R_mono (Kd.R_far (p := ⟨gb283, 0, none⟩) (Kd.R_mono HO_272001.out (fun k_ hk => (⟨hk, hk.2.2⟩ : _ ∧ k_ ≠ gb283))) (fun _ hk => hk.2) (.int .i64 (rd t267 a1))) (fun _ hk => ⟨hk.1.1, ⟨hk.1.2.1, hk.1.2.2⟩⟩)⟩, ⟨by (try simp only [hl6_2]); (with_reducible repeat (first | refine blk_drewN ?_ _ | refine blk_drew ?_ | refine blk_alloc ?_ _)); refine blk_far ?_ NB251_283.out _; (with_reducible repeat (first | refine blk_drewN ?_ _ | refine blk_drew ?_ | refine blk_alloc ?_ _)); exact BK251.out⟩, ⟨by (try simp only [hl6_2]); (with_reducible repeat (first | refine blk_drewN ?_ _ | refine blk_drew ?_ | refine blk_alloc ?_ _)); refine blk_far ?_ NB252_283.out _; (with_reducible repeat (first | refine blk_drewN ?_ _ | refine blk_drew ?_ | refine blk_alloc ?_ _)); exact BK252.out⟩, ⟨by (try simp only [hl6_2]); (with_reducible repeat (first | refine blk_drewN ?_ _ | refine blk_drew ?_ | refine blk_alloc ?_ _)); refine blk_far ?_ NB271_283.out _; (with_reducible repeat (first | refine blk_drewN ?_ _ | refine blk_drew ?_ | refine blk_alloc ?_ _)); exact BK271.out⟩, ⟨by (try simp only [hl6_2]); (with_reducible repeat (first | refine blk_drewN ?_ _ | refine blk_drew ?_ | refine blk_alloc ?_ _)); refine blk_far ?_ NB280_283.out _; (with_reducible repeat (first | refine blk_drewN ?_ _ | refine blk_drew ?_ | refine blk_alloc ?_ _)); exact BK280.out⟩, ⟨by (try simp only [hl6_2]); (with_reducible repeat (first | refine blk_drewN ?_ _ | refine blk_drew ?_ | refine blk_alloc ?_ _)); refine blk_put (cs := #[.int .i64 x284000_4, .int .i64 x284001_4]) ?_ 0 _ rfl; (with_reducible repeat (first | refine blk_drewN ?_ _ | refine blk_drew ?_ | refine blk_alloc ?_ _)); exact BK283.out⟩, ⟨tB HB.out⟩⟩
                          ·
                           rw [if_neg c104] at H
                           have c104b0 : (((rd_T58 l0_1 x85_3).f0) == (wrap64 (-a1))) = false := beq_eq_false_iff_ne.mpr c104
                           have c104b1 : (((rd_T58 l0_1 x85_3).f0) != (wrap64 (-a1))) = true := bne_iff_ne.mpr c104
                           by_cases c110 : ((rd_T58 l0_1 x85_3).f0) < 0
                           ·
                            rw [if_pos c110] at H
                            have c110b0 : decide (((rd_T58 l0_1 x85_3).f0) < 0) = true := decide_eq_true c110
                            clear c110
                            obtain ⟨ji111, hji111⟩ : ∃ j_ : Int, (wrap64 (-((rd_T58 l0_1 x85_3).f0))) = j_ := ⟨_, rfl⟩
                            replace H : (if 0 ≤ (ji111) then (if (ji111) < (x7_2.length : Int) then (impl_CutRod.l3 k4 a1 x6_2 x7_2 (rd t267 a1) l0_0 (l0_0.length : Int) x85_3 (wrap64 (0 + 1)) l0_0 l0_1 x272000_3 x272001_3 ((rd_T58 l0_0 x85_3).f0) ((rd_T58 l0_0 x85_3).f1) (wrap64 (-(rd x7_2 (ji111)))) x284001_4 ((rd_T58 l0_1 x85_3).f0) ((rd_T58 l0_1 x85_3).f1)) else (none)) else (none)) = some (r1, r2, r3) := by first | (rw [hji111] at H; exact H) | (simp only [hji111] at H ⊢; exact H)
                            have hji111w : (IntKind.i64.wrap (-((rd_T58 l0_1 x85_3).f0))) = ji111 := (i64_w _).trans hji111
                            by_cases c112 : 0 ≤ (ji111)
                            ·
                             rw [if_pos c112] at H
                             have c112b0 : decide (0 ≤ (ji111)) = true := decide_eq_true c112
                             clear c112
                             by_cases c113 : (ji111) < (x7_2.length : Int)
                             ·
                              rw [if_pos c113] at H
                              have c113b0 : decide ((ji111) < (x7_2.length : Int)) = true := decide_eq_true c113
                              clear c113
                              have H' := Aside0.mk H
                              clear H
                              obtain ⟨Ao114, co114, eo114⟩ := Kd.R_slice HO_7.out
                              subst eo114
                              have p296 : 0 ≤ ((ji111) : Int) := of_decide_eq_true (by first | (with_reducible assumption) | assumption)
                              have q296 : (ji111) < (x7_2.length : Int) := of_decide_eq_true (by first | (with_reducible assumption) | assumption)
                              obtain ⟨ad296, e296, hx296_0⟩ := Kd.at_int (Kd.R_reads' HO_7.out).2.2 (ji111) p296 q296
                              cases e296
                              replace p296 := eq_true p296
                              replace q296 := eq_true q296
                              have hnb115 := NB283_251.out
                              have hnc115 := NB251_283.out
                              have hnb116 := NB283_252.out
                              have hnc116 := NB252_283.out
                              have hnb117 := NB283_271.out
                              have hnc117 := NB271_283.out
                              have hnb118 := NB283_280.out
                              have hnc118 := NB280_283.out
                              obtain ⟨hcz119_0, hfz119_0, hcz119_1, hfz119_1⟩ := cz2 BK283
                              go_wp2
                              go_roundg k4
                              case measure => have := HJ2.out; have := HK2.out; have := HK3.out; have := HK4.out; omega
                              case rel => exact ⟨(wrap64 (0 + 1)), (wrap64 (-(rd x7_2 (ji111)))), (x284001_4), (by first | rfl | (simp; done) | (simp [wrap64]; done) | (simp [*]; done)), H', ⟨by have := HJ2.out; have := HK2.out; have := HK3.out; have := HK4.out; omega⟩, ⟨by (try simp only [hl6_2]); (with_reducible repeat (first | apply Kd.R_alloc | apply Kd.R_drewN | apply Kd.R_drew)); exact Kd.R_mono (Kd.R_far (p := ⟨gb283, 0, none⟩) (Kd.R_types HO_6.out BK283.out (by decide)) (fun _ hk => hk.2) (.int .i64 (wrap64 (-(rd x7_2 (ji111)))))) (fun _ hk => trivial)⟩, ⟨by (try simp only [hl6_2]); (with_reducible repeat (first | apply Kd.R_alloc | apply Kd.R_drewN | apply Kd.R_drew)); exact Kd.R_mono (Kd.R_far (p := ⟨gb283, 0, none⟩) (Kd.R_types HO_7.out BK283.out (by decide)) (fun _ hk => hk.2) (.int .i64 (wrap64 (-(rd x7_2 (ji111)))))) (fun _ hk => trivial)⟩, ⟨by (try simp only [hl6_2]); (with_reducible repeat (first | apply Kd.R_alloc | apply Kd.R_drewN | apply Kd.R_drew)); exact Kd.R_mono (Kd.R_far (p := ⟨gb283, 0, none⟩) (Kd.R_mono HO_272000.out (fun k_ hk => (⟨hk, hk.2.2⟩ : _ ∧ k_ ≠ gb283))) (fun _ hk => hk.2) (.int .i64 (wrap64 (-(rd x7_2 (ji111)))))) (fun _ hk => ⟨hk.1.1, ⟨hk.1.2.1, hk.1.2.2⟩⟩)⟩, ⟨by (try simp only [hl6_2]); (with_reducible repeat (first | apply Kd.R_alloc | apply Kd.R_drewN | apply Kd.R_drew)); exact Kd.R_mono (Kd.R_far (p := ⟨gb283, 0, none⟩) (Kd.R_mono HO_272001.out (fun k_ hk => (⟨hk, hk.2.2⟩ : _ ∧ k_ ≠ gb283))) (fun _ hk => hk.2) (.int .i64 (wrap64 (-(rd x7_2 (ji111)))))) (fun _ hk => ⟨hk.1.1, ⟨hk.1.2.1, hk.1.2.2⟩⟩)⟩, ⟨by (try simp only [hl6_2]); (with_reducible repeat (first | refine blk_drewN ?_ _ | refine blk_drew ?_ | refine blk_alloc ?_ _)); refine blk_far ?_ NB251_283.out _; (with_reducible repeat (first | refine blk_drewN ?_ _ | refine blk_drew ?_ | refine blk_alloc ?_ _)); exact BK251.out⟩, ⟨by (try simp only [hl6_2]); (with_reducible repeat (first | refine blk_drewN ?_ _ | refine blk_drew ?_ | refine blk_alloc ?_ _)); refine blk_far ?_ NB252_283.out _; (with_reducible repeat (first | refine blk_drewN ?_ _ | refine blk_drew ?_ | refine blk_alloc ?_ _)); exact BK252.out⟩, ⟨by (try simp only [hl6_2]); (with_reducible repeat (first | refine blk_drewN ?_ _ | refine blk_drew ?_ | refine blk_alloc ?_ _)); refine blk_far ?_ NB271_283.out _; (with_reducible repeat (first | refine blk_drewN ?_ _ | refine blk_drew ?_ | refine blk_alloc ?_ _)); exact BK271.out⟩, ⟨by (try simp only [hl6_2]); (with_reducible repeat (first | refine blk_drewN ?_ _ | refine blk_drew ?_ | refine blk_alloc ?_ _)); refine blk_far ?_ NB280_283.out _; (with_reducible repeat (first | refine blk_drewN ?_ _ | refine blk_drew ?_ | refine blk_alloc ?_ _)); exact BK280.out⟩, ⟨by (try simp only [hl6_2]); (with_reducible repeat (first | refine blk_drewN ?_ _ | refine blk_drew ?_ | refine blk_alloc ?_ _)); refine blk_put (cs := #[.int .i64 x284000_4, .int .i64 x284001_4]) ?_ 0 _ rfl; (with_reducible repeat (first | refine blk_drewN ?_ _ | refine blk_drew ?_ | refine blk_alloc ?_ _)); exact BK283.out⟩, ⟨tB HB.out⟩⟩
                             ·
                              rw [if_neg c113] at H
                              exact absurd H (by simp)
                            ·
                             rw [if_neg c112] at H
                             exact absurd H (by simp)
                           ·
                            rw [if_neg c110] at H
                            have c110b0 : decide (((rd_T58 l0_1 x85_3).f0) < 0) = false := decide_eq_false c110
                            clear c110
                            have H' := Aside0.mk H
                            clear H
                            go_wp2
                            go_roundg k4
                            case measure => have := HJ2.out; have := HK2.out; have := HK3.out; have := HK4.out; omega
                            case rel => exact ⟨(wrap64 (0 + 1)), (x284000_4), (x284001_4), (by first | rfl | (simp; done) | (simp [wrap64]; done) | (simp [*]; done)), H', ⟨by have := HJ2.out; have := HK2.out; have := HK3.out; have := HK4.out; omega⟩, ⟨by (try simp only [hl6_2]); (with_reducible repeat (first | apply Kd.R_alloc | apply Kd.R_drewN | apply Kd.R_drew)); exact HO_6.out⟩, ⟨by (try simp only [hl6_2]); (with_reducible repeat (first | apply Kd.R_alloc | apply Kd.R_drewN | apply Kd.R_drew)); exact HO_7.out⟩, ⟨by (try simp only [hl6_2]); (with_reducible repeat (first | apply Kd.R_alloc | apply Kd.R_drewN | apply Kd.R_drew)); exact HO_272000.out⟩, ⟨by (try simp only [hl6_2]); (with_reducible repeat (first | apply Kd.R_alloc | apply Kd.R_drewN | apply Kd.R_drew)); exact HO_272001.out⟩, ⟨by (try simp only [hl6_2]); (with_reducible repeat (first | refine blk_drewN ?_ _ | refine blk_drew ?_ | refine blk_alloc ?_ _)); exact BK251.out⟩, ⟨by (try simp only [hl6_2]); (with_reducible repeat (first | refine blk_drewN ?_ _ | refine blk_drew ?_ | refine blk_alloc ?_ _)); exact BK252.out⟩, ⟨by (try simp only [hl6_2]); (with_reducible repeat (first | refine blk_drewN ?_ _ | refine blk_drew ?_ | refine blk_alloc ?_ _)); exact BK271.out⟩, ⟨by (try simp only [hl6_2]); (with_reducible repeat (first | refine blk_drewN ?_ _ | refine blk_drew ?_ | refine blk_alloc ?_ _)); exact BK280.out⟩, ⟨by (try simp only [hl6_2]); (with_reducible repeat (first | refine blk_drewN ?_ _ | refine blk_drew ?_ | refine blk_alloc ?_ _)); exact BK283.out⟩, ⟨tB HB.out⟩⟩
                         ·
                          rw [if_neg c103] at H
                          have c103b0 : (x100_4 == 0) = false := beq_eq_false_iff_ne.mpr c103
                          have c103b1 : (x100_4 != 0) = true := bne_iff_ne.mpr c103
                          by_cases c120 : x100_4 = 1
                          ·
                           subst c120
                           have H1 : (if ((rd_T58 l0_1 x85_3).f1) = (wrap64 (-a1)) then (impl_CutRod.l3 k4 a1 x6_2 x7_2 (rd t267 a1) l0_0 (l0_0.length : Int) x85_3 (wrap64 (1 + 1)) l0_0 l0_1 x272000_3 x272001_3 ((rd_T58 l0_0 x85_3).f0) ((rd_T58 l0_0 x85_3).f1) x284000_4 (rd t267 a1) ((rd_T58 l0_1 x85_3).f0) ((rd_T58 l0_1 x85_3).f1)) else (if ((rd_T58 l0_1 x85_3).f1) < 0 then (if 0 ≤ (wrap64 (-((rd_T58 l0_1 x85_3).f1))) then (if (wrap64 (-((rd_T58 l0_1 x85_3).f1))) < (x7_2.length : Int) then (impl_CutRod.l3 k4 a1 x6_2 x7_2 (rd t267 a1) l0_0 (l0_0.length : Int) x85_3 (wrap64 (1 + 1)) l0_0 l0_1 x272000_3 x272001_3 ((rd_T58 l0_0 x85_3).f0) ((rd_T58 l0_0 x85_3).f1) x284000_4 (wrap64 (-(rd x7_2 (wrap64 (-((rd_T58 l0_1 x85_3).f1)))))) ((rd_T58 l0_1 x85_3).f0) ((rd_T58 l0_1 x85_3).f1)) else (none)) else (none)) else (impl_CutRod.l3 k4 a1 x6_2 x7_2 (rd t267 a1) l0_0 (l0_0.length : Int) x85_3 (wrap64 (1 + 1)) l0_0 l0_1 x272000_3 x272001_3 ((rd_T58 l0_0 x85_3).f0) ((rd_T58 l0_0 x85_3).f1) x284000_4 x284001_4 ((rd_T58 l0_1 x85_3).f0) ((rd_T58 l0_1 x85_3).f1)))) = some (r1, r2, r3) := by rw [if_pos rfl] at H; exact H
                           clear H
                           have H := H1
                           clear H1
                           by_cases c121 : ((rd_T58 l0_1 x85_3).f1) = (wrap64 (-a1))
                           ·
                            rw [if_pos c121] at H
                            have c121b0 : (((rd_T58 l0_1 x85_3).f1) == (wrap64 (-a1))) = true := beq_iff_eq.mpr c121
                            have c121b1 : (((rd_T58 l0_1 x85_3).f1) != (wrap64 (-a1))) = false := bne_eq_false_iff_eq.mpr c121
                            clear c121
                            have H' := Aside0.mk H
                            clear H
                            have hnb122 := NB283_251.out
                            have hnc122 := NB251_283.out
                            have hnb123 := NB283_252.out
                            have hnc123 := NB252_283.out
                            have hnb124 := NB283_271.out
                            have hnc124 := NB271_283.out
                            have hnb125 := NB283_280.out
                            have hnc125 := NB280_283.out
                            obtain ⟨hcz126_0, hfz126_0, hcz126_1, hfz126_1⟩ := cz2 BK283
                            go_wp2
                            go_roundg k4
                            case measure => have := HJ2.out; have := HK2.out; have := HK3.out; have := HK4.out; omega
                            case rel => exact ⟨(wrap64 (1 + 1)), (x284000_4), ((rd t267 a1)), (by first | rfl | (simp; done) | (simp [wrap64]; done) | (simp [*]; done)), H', ⟨by have := HJ2.out; have := HK2.out; have := HK3.out; have := HK4.out; omega⟩, ⟨by (try simp only [hl6_2]); (with_reducible repeat (first | apply Kd.R_alloc | apply Kd.R_drewN | apply Kd.R_drew)); exact Kd.R_mono (Kd.R_far (p := ⟨gb283, 1, none⟩) (Kd.R_types HO_6.out BK283.out (by decide)) (fun _ hk => hk.2) (.int .i64 (rd t267 a1))) (fun _ hk => trivial)⟩, ⟨by (try simp only [hl6_2]); (with_reducible repeat (first | apply Kd.R_alloc | apply Kd.R_drewN | apply Kd.R_drew)); exact Kd.R_mono (Kd.R_far (p := ⟨gb283, 1, none⟩) (Kd.R_types HO_7.out BK283.out (by decide)) (fun _ hk => hk.2) (.int .i64 (rd t267 a1))) (fun _ hk => trivial)⟩, ⟨by (try simp only [hl6_2]); (with_reducible repeat (first | apply Kd.R_alloc | apply Kd.R_drewN | apply Kd.R_drew)); exact Kd.R_mono (Kd.R_far (p := ⟨gb283, 1, none⟩) (Kd.R_mono HO_272000.out (fun k_ hk => (⟨hk, hk.2.2⟩ : _ ∧ k_ ≠ gb283))) (fun _ hk => hk.2) (.int .i64 (rd t267 a1))) (fun _ hk => ⟨hk.1.1, ⟨hk.1.2.1, hk.1.2.2⟩⟩)⟩, ⟨by (try simp only [hl6_2]); (with_reducible repeat (first | apply Kd.R_alloc | apply Kd.R_drewN | apply Kd.R_drew)); exact Kd.R_mono (Kd.R_far (p := ⟨gb283, 1, none⟩) (Kd.R_mono HO_272001.out (fun k_ hk => (⟨hk, hk.2.2⟩ : _ ∧ k_ ≠ gb283))) (fun _ hk => hk.2) (.int .i64 (rd t267 a1))) (fun _ hk => ⟨hk.1.1, ⟨hk.1.2.1, hk.1.2.2⟩⟩)⟩, ⟨by (try simp only [hl6_2]); (with_reducible repeat (first | refine blk_drewN ?_ _ | refine blk_drew ?_ | refine blk_alloc ?_ _)); refine blk_far ?_ NB251_283.out _; (with_reducible repeat (first | refine blk_drewN ?_ _ | refine blk_drew ?_ | refine blk_alloc ?_ _)); exact BK251.out⟩, ⟨by (try simp only [hl6_2]); (with_reducible repeat (first | refine blk_drewN ?_ _ | refine blk_drew ?_ | refine blk_alloc ?_ _)); refine blk_far ?_ NB252_283.out _; (with_reducible repeat (first | refine blk_drewN ?_ _ | refine blk_drew ?_ | refine blk_alloc ?_ _)); exact BK252.out⟩, ⟨by (try simp only [hl6_2]); (with_reducible repeat (first | refine blk_drewN ?_ _ | refine blk_drew ?_ | refine blk_alloc ?_ _)); refine blk_far ?_ NB271_283.out _; (with_reducible repeat (first | refine blk_drewN ?_ _ | refine blk_drew ?_ | refine blk_alloc ?_ _)); exact BK271.out⟩, ⟨by (try simp only [hl6_2]); (with_reducible repeat (first | refine blk_drewN ?_ _ | refine blk_drew ?_ | refine blk_alloc ?_ _)); refine blk_far ?_ NB280_283.out _; (with_reducible repeat (first | refine blk_drewN ?_ _ | refine blk_drew ?_ | refine blk_alloc ?_ _)); exact BK280.out⟩, ⟨by (try simp only [hl6_2]); (with_reducible repeat (first | refine blk_drewN ?_ _ | refine blk_drew ?_ | refine blk_alloc ?_ _)); refine blk_put (cs := #[.int .i64 x284000_4, .int .i64 x284001_4]) ?_ 1 _ rfl; (with_reducible repeat (first | refine blk_drewN ?_ _ | refine blk_drew ?_ | refine blk_alloc ?_ _)); exact BK283.out⟩, ⟨tB HB.out⟩⟩
                           ·
                            rw [if_neg c121] at H
                            have c121b0 : (((rd_T58 l0_1 x85_3).f1) == (wrap64 (-a1))) = false := beq_eq_false_iff_ne.mpr c121
                            have c121b1 : (((rd_T58 l0_1 x85_3).f1) != (wrap64 (-a1))) = true := bne_iff_ne.mpr c121
                            by_cases c127 : ((rd_T58 l0_1 x85_3).f1) < 0
                            ·
                             rw [if_pos c127] at H
                             have c127b0 : decide (((rd_T58 l0_1 x85_3).f1) < 0) = true := decide_eq_true c127
                             clear c127
                             obtain ⟨ji128, hji128⟩ : ∃ j_ : Int, (wrap64 (-((rd_T58 l0_1 x85_3).f1))) = j_ := ⟨_, rfl⟩
                             replace H : (if 0 ≤ (ji128) then (if (ji128) < (x7_2.length : Int) then (impl_CutRod.l3 k4 a1 x6_2 x7_2 (rd t267 a1) l0_0 (l0_0.length : Int) x85_3 (wrap64 (1 + 1)) l0_0 l0_1 x272000_3 x272001_3 ((rd_T58 l0_0 x85_3).f0) ((rd_T58 l0_0 x85_3).f1) x284000_4 (wrap64 (-(rd x7_2 (ji128)))) ((rd_T58 l0_1 x85_3).f0) ((rd_T58 l0_1 x85_3).f1)) else (none)) else (none)) = some (r1, r2, r3) := by first | (rw [hji128] at H; exact H) | (simp only [hji128] at H ⊢; exact H)
                             have hji128w : (IntKind.i64.wrap (-((rd_T58 l0_1 x85_3).f1))) = ji128 := (i64_w _).trans hji128
                             by_cases c129 : 0 ≤ (ji128)
                             ·
                              rw [if_pos c129] at H
                              have c129b0 : decide (0 ≤ (ji128)) = true := decide_eq_true c129
                              clear c129
                              by_cases c130 : (ji128) < (x7_2.length : Int)
                              ·
                               rw [if_pos c130] at H
                               have c130b0 : decide ((ji128) < (x7_2.length : Int)) = true := decide_eq_true c130
                               clear c130
                               have H' := Aside0.mk H
                               clear H
                               obtain ⟨Ao131, co131, eo131⟩ := Kd.R_slice HO_7.out
                               subst eo131
                               have p297 : 0 ≤ ((ji128) : Int) := of_decide_eq_true (by first | (with_reducible assumption) | assumption)
                               have q297 : (ji128) < (x7_2.length : Int) := of_decide_eq_true (by first | (with_reducible assumption) | assumption)
                               obtain ⟨ad297, e297, hx297_0⟩ := Kd.at_int (Kd.R_reads' HO_7.out).2.2 (ji128) p297 q297
                               cases e297
                               replace p297 := eq_true p297
                               replace q297 := eq_true q297
                               have hnb132 := NB283_251.out
                               have hnc132 := NB251_283.out
                               have hnb133 := NB283_252.out
                               have hnc133 := NB252_283.out
                               have hnb134 := NB283_271.out
                               have hnc134 := NB271_283.out
                               have hnb135 := NB283_280.out
                               have hnc135 := NB280_283.out
                               obtain ⟨hcz136_0, hfz136_0, hcz136_1, hfz136_1⟩ := cz2 BK283
                               go_wp2
                               go_roundg k4
                               case measure => have := HJ2.out; have := HK2.out; have := HK3.out; have := HK4.out; omega
                               case rel => exact ⟨(wrap64 (1 + 1)), (x284000_4), (wrap64 (-(rd x7_2 (ji128)))), (by first | rfl | (simp; done) | (simp [wrap64]; done) | (simp [*]; done)), H', ⟨by have := HJ2.out; have := HK2.out; have := HK3.out; have := HK4.out; omega⟩, ⟨by (try simp only [hl6_2]); (with_reducible repeat (first | apply Kd.R_alloc | apply Kd.R_drewN | apply Kd.R_drew)); exact Kd.R_mono (Kd.R_far (p := ⟨gb283, 1, none⟩) (Kd.R_types HO_6.out BK283.out (by decide)) (fun _ hk => hk.2) (.int .i64 (wrap64 (-(rd x7_2 (ji128)))))) (fun _ hk => trivial)⟩, ⟨by (try simp only [hl6_2]); (with_reducible repeat (first | apply Kd.R_alloc | apply Kd.R_drewN | apply Kd.R_drew)); exact Kd.R_mono (Kd.R_far (p := ⟨gb283, 1, none⟩) (Kd.R_types HO_7.out BK283.out (by decide)) (fun _ hk => hk.2) (.int .i64 (wrap64 (-(rd x7_2 (ji128)))))) (fun _ hk => trivial)⟩, ⟨by (try simp only [hl6_2]); (with_reducible repeat (first | apply Kd.R_alloc | apply Kd.R_drewN | apply Kd.R_drew)); exact Kd.R_mono (Kd.R_far (p := ⟨gb283, 1, none⟩) (Kd.R_mono HO_272000.out (fun k_ hk => (⟨hk, hk.2.2⟩ : _ ∧ k_ ≠ gb283))) (fun _ hk => hk.2) (.int .i64 (wrap64 (-(rd x7_2 (ji128)))))) (fun _ hk => ⟨hk.1.1, ⟨hk.1.2.1, hk.1.2.2⟩⟩)⟩, ⟨by (try simp only [hl6_2]); (with_reducible repeat (first | apply Kd.R_alloc | apply Kd.R_drewN | apply Kd.R_drew)); exact Kd.R_mono (Kd.R_far (p := ⟨gb283, 1, none⟩) (Kd.R_mono HO_272001.out (fun k_ hk => (⟨hk, hk.2.2⟩ : _ ∧ k_ ≠ gb283))) (fun _ hk => hk.2) (.int .i64 (wrap64 (-(rd x7_2 (ji128)))))) (fun _ hk => ⟨hk.1.1, ⟨hk.1.2.1, hk.1.2.2⟩⟩)⟩, ⟨by (try simp only [hl6_2]); (with_reducible repeat (first | refine blk_drewN ?_ _ | refine blk_drew ?_ | refine blk_alloc ?_ _)); refine blk_far ?_ NB251_283.out _; (with_reducible repeat (first | refine blk_drewN ?_ _ | refine blk_drew ?_ | refine blk_alloc ?_ _)); exact BK251.out⟩, ⟨by (try simp only [hl6_2]); (with_reducible repeat (first | refine blk_drewN ?_ _ | refine blk_drew ?_ | refine blk_alloc ?_ _)); refine blk_far ?_ NB252_283.out _; (with_reducible repeat (first | refine blk_drewN ?_ _ | refine blk_drew ?_ | refine blk_alloc ?_ _)); exact BK252.out⟩, ⟨by (try simp only [hl6_2]); (with_reducible repeat (first | refine blk_drewN ?_ _ | refine blk_drew ?_ | refine blk_alloc ?_ _)); refine blk_far ?_ NB271_283.out _; (with_reducible repeat (first | refine blk_drewN ?_ _ | refine blk_drew ?_ | refine blk_alloc ?_ _)); exact BK271.out⟩, ⟨by (try simp only [hl6_2]); (with_reducible repeat (first | refine blk_drewN ?_ _ | refine blk_drew ?_ | refine blk_alloc ?_ _)); refine blk_far ?_ NB280_283.out _; (with_reducible repeat (first | refine blk_drewN ?_ _ | refine blk_drew ?_ | refine blk_alloc ?_ _)); exact BK280.out⟩, ⟨by (try simp only [hl6_2]); (with_reducible repeat (first | refine blk_drewN ?_ _ | refine blk_drew ?_ | refine blk_alloc ?_ _)); refine blk_put (cs := #[.int .i64 x284000_4, .int .i64 x284001_4]) ?_ 1 _ rfl; (with_reducible repeat (first | refine blk_drewN ?_ _ | refine blk_drew ?_ | refine blk_alloc ?_ _)); exact BK283.out⟩, ⟨tB HB.out⟩⟩
                              ·
                               rw [if_neg c130] at H
                               exact absurd H (by simp)
                             ·
                              rw [if_neg c129] at H
                              exact absurd H (by simp)
                            ·
                             rw [if_neg c127] at H
                             have c127b0 : decide (((rd_T58 l0_1 x85_3).f1) < 0) = false := decide_eq_false c127
                             clear c127
                             have H' := Aside0.mk H
                             clear H
                             go_wp2
                             go_roundg k4
                             case measure => have := HJ2.out; have := HK2.out; have := HK3.out; have := HK4.out; omega
                             case rel => exact ⟨(wrap64 (1 + 1)), (x284000_4), (x284001_4), (by first | rfl | (simp; done) | (simp [wrap64]; done) | (simp [*]; done)), H', ⟨by have := HJ2.out; have := HK2.out; have := HK3.out; have := HK4.out; omega⟩, ⟨by (try simp only [hl6_2]); (with_reducible repeat (first | apply Kd.R_alloc | apply Kd.R_drewN | apply Kd.R_drew)); exact HO_6.out⟩, ⟨by (try simp only [hl6_2]); (with_reducible repeat (first | apply Kd.R_alloc | apply Kd.R_drewN | apply Kd.R_drew)); exact HO_7.out⟩, ⟨by (try simp only [hl6_2]); (with_reducible repeat (first | apply Kd.R_alloc | apply Kd.R_drewN | apply Kd.R_drew)); exact HO_272000.out⟩, ⟨by (try simp only [hl6_2]); (with_reducible repeat (first | apply Kd.R_alloc | apply Kd.R_drewN | apply Kd.R_drew)); exact HO_272001.out⟩, ⟨by (try simp only [hl6_2]); (with_reducible repeat (first | refine blk_drewN ?_ _ | refine blk_drew ?_ | refine blk_alloc ?_ _)); exact BK251.out⟩, ⟨by (try simp only [hl6_2]); (with_reducible repeat (first | refine blk_drewN ?_ _ | refine blk_drew ?_ | refine blk_alloc ?_ _)); exact BK252.out⟩, ⟨by (try simp only [hl6_2]); (with_reducible repeat (first | refine blk_drewN ?_ _ | refine blk_drew ?_ | refine blk_alloc ?_ _)); exact BK271.out⟩, ⟨by (try simp only [hl6_2]); (with_reducible repeat (first | refine blk_drewN ?_ _ | refine blk_drew ?_ | refine blk_alloc ?_ _)); exact BK280.out⟩, ⟨by (try simp only [hl6_2]); (with_reducible repeat (first | refine blk_drewN ?_ _ | refine blk_drew ?_ | refine blk_alloc ?_ _)); exact BK283.out⟩, ⟨tB HB.out⟩⟩
                          ·
                           rw [if_neg c120] at H
                           exact absurd H (by simp)
                        ·
                         rw [if_neg c102] at H
                         have c102b0 : decide (x100_4 < 2) = false := decide_eq_false c102
                         clear c102
                         obtain ⟨y284, hy284⟩ : ∃ y_ : List (S58), y_ = (([(⟨((rd_T58 l0_0 x85_3).f0), ((rd_T58 l0_0 x85_3).f1)⟩ : S58)] : List (S58))) := ⟨_, rfl⟩
                         replace H : (if x272000_3.length + y284.length < 8796093022208 then ((some (([(⟨x284000_4, x284001_4⟩ : S58)] : List (S58)) : List (S58))).bind fun y290 => (if x272001_3.length + y290.length < 8796093022208 then (impl_CutRod.l2 k4 a1 x6_2 x7_2 (rd t267 a1) l0_0 (l0_0.length : Int) (wrap64 (x85_3 + 1)) l0_0 l0_1 (x272000_3 ++ y284) (x272001_3 ++ y290)) else (none))) else (none)) = some (r1, r2, r3) := by first | (rw [hy284]; with_reducible exact H) | (have H2_ := (Option.bind_some _ _).symm.trans H; rw [hy284]; with_reducible exact H2_) | (have H2_ := (Option.bind_some _ _).symm.trans H; with_reducible exact H2_) | with_reducible exact H | (rw [hy284]; exact H) | exact H
                         have Ny284 := Aside0.mk hy284
                         clear hy284
                         by_cases c137 : x272000_3.length + y284.length < 8796093022208
                         ·
                          rw [if_pos c137] at H
                          have LMc137 := Aside0.mk c137
                          clear c137
                          obtain ⟨y287, hy287⟩ : ∃ y_ : List (S58), y_ = (x272000_3 ++ y284) := ⟨_, rfl⟩
                          replace H : ((some (([(⟨x284000_4, x284001_4⟩ : S58)] : List (S58)) : List (S58))).bind fun y290 => (if x272001_3.length + y290.length < 8796093022208 then (impl_CutRod.l2 k4 a1 x6_2 x7_2 (rd t267 a1) l0_0 (l0_0.length : Int) (wrap64 (x85_3 + 1)) l0_0 l0_1 y287 (x272001_3 ++ y290)) else (none))) = some (r1, r2, r3) := by first | (rw [hy287]; with_reducible exact H) | (have H2_ := (Option.bind_some _ _).symm.trans H; rw [hy287]; with_reducible exact H2_) | (have H2_ := (Option.bind_some _ _).symm.trans H; with_reducible exact H2_) | with_reducible exact H | (rw [hy287]; exact H) | exact H
                          have Ny287 := Aside0.mk hy287
                          clear hy287
                          obtain ⟨y290, hy290⟩ : ∃ y_ : List (S58), y_ = (([(⟨x284000_4, x284001_4⟩ : S58)] : List (S58))) := ⟨_, rfl⟩
                          replace H : (if x272001_3.length + y290.length < 8796093022208 then (impl_CutRod.l2 k4 a1 x6_2 x7_2 (rd t267 a1) l0_0 (l0_0.length : Int) (wrap64 (x85_3 + 1)) l0_0 l0_1 y287 (x272001_3 ++ y290)) else (none)) = some (r1, r2, r3) := by first | (rw [hy290]; with_reducible exact H) | (have H2_ := (Option.bind_some _ _).symm.trans H; rw [hy290]; with_reducible exact H2_) | (have H2_ := (Option.bind_some _ _).symm.trans H; with_reducible exact H2_) | with_reducible exact H | (rw [hy290]; exact H) | exact H
                          have Ny290 := Aside0.mk hy290
                          clear hy290
                          by_cases c138 : x272001_3.length + y290.length < 8796093022208
                          ·
                           rw [if_pos c138] at H
                           have LMc138 := Aside0.mk c138
                           clear c138
                           obtain ⟨y293, hy293⟩ : ∃ y_ : List (S58), y_ = (x272001_3 ++ y290) := ⟨_, rfl⟩
                           replace H : (impl_CutRod.l2 k4 a1 x6_2 x7_2 (rd t267 a1) l0_0 (l0_0.length : Int) (wrap64 (x85_3 + 1)) l0_0 l0_1 y287 y293) = some (r1, r2, r3) := by first | (rw [hy293]; with_reducible exact H) | (have H2_ := (Option.bind_some _ _).symm.trans H; rw [hy293]; with_reducible exact H2_) | (have H2_ := (Option.bind_some _ _).symm.trans H; with_reducible exact H2_) | with_reducible exact H | (rw [hy293]; exact H) | exact H
                           have Ny293 := Aside0.mk hy293
                           clear hy293
                           have H' := Aside0.mk H
                           clear H
                           obtain ⟨Ao139, co139, eo139⟩ := Kd.R_slice HO_272000.out
                           subst eo139
                           obtain ⟨Ao140, co140, eo140⟩ := Kd.R_slice HO_272001.out
                           subst eo140
                           try go_wp2
                           replace HO_6 := Aside0.mk (Kd.R_drew HO_6.out)
                           replace HO_7 := Aside0.mk (Kd.R_drew HO_7.out)
                           replace HO_272000 := Aside0.mk (Kd.R_drew HO_272000.out)
                           replace HO_272001 := Aside0.mk (Kd.R_drew HO_272001.out)
                           replace BK251 := Aside0.mk (blk_drew BK251.out)
                           replace BK252 := Aside0.mk (blk_drew BK252.out)
                           replace BK271 := Aside0.mk (blk_drew BK271.out)
                           replace BK280 := Aside0.mk (blk_drew BK280.out)
                           replace BK283 := Aside0.mk (blk_drew BK283.out)
                           replace HB := Aside0.mk (below_drew1 HB.out)
                           refine start_ (n := 14) (S := fun w' => w'.cell? ⟨gb271, 0, none⟩ = some (.slice Ao139 x272000_3.length co139) ∧ w'.cell? ⟨gb271, 1, none⟩ = some (.slice Ao140 x272001_3.length co140) ∧ w'.cell? ⟨gb280, 0, none⟩ = some (.int .i64 ((rd_T58 l0_0 x85_3).f0)) ∧ w'.cell? ⟨gb280, 1, none⟩ = some (.int .i64 ((rd_T58 l0_0 x85_3).f1)) ∧ w'.cell? ⟨gb283, 0, none⟩ = some (.int .i64 x284000_4) ∧ w'.cell? ⟨gb283, 1, none⟩ = some (.int .i64 x284001_4)) (ds := [11, 13]) #[false, false, false, false, false, false, false, false, false, false, false, false, false, false] (by kernel_rfl) rfl rfl ⟨(blk_cell BK271.out 0).trans rfl, (blk_cell BK271.out 1).trans rfl, (blk_cell BK280.out 0).trans rfl, (blk_cell BK280.out 1).trans rfl, (blk_cell BK283.out 0).trans rfl, (blk_cell BK283.out 1).trans rfl⟩ (fun hHeld => ?_); refine with_tabW impl_CutRod.tab33 impl_CutRod.bits33 (fun HT_ HW_ => ?_)
                           generalize wr.drew = w141 at HO_6 HO_7 HO_272000 HO_272001 BK251 BK252 BK271 BK280 BK283 HB hHeld ⊢
                           refine pure_ (i := 0) (N := some 124) (v := ?_) (a' := ?_) #[true, false, false, false, false, false, false, false, false, false, false, false, false, false] rfl rfl (any_of HT_.out (by kernel_rfl)) (fun _ _ _ h => h) (Or.inl ⟨by rfl, ?_⟩) ?_ ?_
                           rotate_left
                           ·
                            intro w'
                            go_simp
                            with_reducible rfl
                           rotate_left
                           ·
                            simp only [Act.put, List.setIfInBounds_toArray, List.set_cons_zero, List.set_cons_succ, i64_w, i32_w]
                            rfl
                           refine pure_ (i := 5) (N := some 129) (v := ?_) (a' := ?_) #[true, false, false, false, false, true, false, false, false, false, false, false, false, false] rfl rfl (any_of HT_.out (by kernel_rfl)) (fun _ _ _ h => h) (Or.inl ⟨by rfl, ?_⟩) ?_ ?_
                           rotate_left
                           ·
                            intro w'
                            go_simp
                            with_reducible rfl
                           rotate_left
                           ·
                            simp only [Act.put, List.setIfInBounds_toArray, List.set_cons_zero, List.set_cons_succ, i64_w, i32_w]
                            rfl
                           refine take_ (i := 1) (N := some 125) (v := ?_) (a' := ?_) #[true, true, false, false, false, true, false, false, false, false, false, false, false, false] rfl rfl (take_ofW HT_.out HW_.out (by kernel_rfl)) (fun _ _ _ h => h) (Or.inl ⟨by rfl, ?_⟩) hHeld ?_ ?_
                           rotate_left
                           ·
                            rintro w' ⟨s0, s1, s2, s3, s4, s5⟩
                            go_simp
                            with_reducible rfl
                           rotate_left
                           ·
                            simp only [Act.put, List.setIfInBounds_toArray, List.set_cons_zero, List.set_cons_succ, i64_w, i32_w]
                            rfl
                           refine take_ (i := 2) (N := some 126) (v := ?_) (a' := ?_) #[true, true, true, false, false, true, false, false, false, false, false, false, false, false] rfl rfl (take_ofW HT_.out HW_.out (by kernel_rfl)) (fun _ _ _ h => h) (Or.inl ⟨by rfl, ?_⟩) hHeld ?_ ?_
                           rotate_left
                           ·
                            rintro w' ⟨s0, s1, s2, s3, s4, s5⟩
                            go_simp
                            with_reducible rfl
                           rotate_left
                           ·
                            simp only [Act.put, List.setIfInBounds_toArray, List.set_cons_zero, List.set_cons_succ, i64_w, i32_w]
                            rfl
                           refine take_ (i := 6) (N := some 130) (v := ?_) (a' := ?_) #[true, true, true, false, false, true, true, false, false, false, false, false, false, false] rfl rfl (take_ofW HT_.out HW_.out (by kernel_rfl)) (fun _ _ _ h => h) (Or.inl ⟨by rfl, ?_⟩) hHeld ?_ ?_
                           rotate_left
                           ·
                            rintro w' ⟨s0, s1, s2, s3, s4, s5⟩
                            go_simp
                            with_reducible rfl
                           rotate_left
                           ·
                            simp only [Act.put, List.setIfInBounds_toArray, List.set_cons_zero, List.set_cons_succ, i64_w, i32_w]
                            rfl
                           refine take_ (i := 7) (N := some 131) (v := ?_) (a' := ?_) #[true, true, true, false, false, true, true, true, false, false, false, false, false, false] rfl rfl (take_ofW HT_.out HW_.out (by kernel_rfl)) (fun _ _ _ h => h) (Or.inl ⟨by rfl, ?_⟩) hHeld ?_ ?_
                           rotate_left
                           ·
                            rintro w' ⟨s0, s1, s2, s3, s4, s5⟩
                            go_simp
                            with_reducible rfl
                           rotate_left
                           ·
                            simp only [Act.put, List.setIfInBounds_toArray, List.set_cons_zero, List.set_cons_succ, i64_w, i32_w]
                            rfl
                           refine join_ (σ := Value × Value × Value) 4 #[true, true, true, true, true, true, true, true, true, false, true, false, false, false] (fun s_ => [(127, s_.1), (128, s_.2.1), (132, s_.2.2), (134, .pointer (some ⟨gb271, 0, none⟩))]) (fun s_ w' => (w'.cell? ⟨gb271, 0, none⟩ = some (.slice Ao139 x272000_3.length co139) ∧ w'.cell? ⟨gb271, 1, none⟩ = some (.slice Ao140 x272001_3.length co140) ∧ w'.cell? ⟨gb280, 0, none⟩ = some (.int .i64 ((rd_T58 l0_0 x85_3).f0)) ∧ w'.cell? ⟨gb280, 1, none⟩ = some (.int .i64 ((rd_T58 l0_0 x85_3).f1)) ∧ w'.cell? ⟨gb283, 0, none⟩ = some (.int .i64 x284000_4) ∧ w'.cell? ⟨gb283, 1, none⟩ = some (.int .i64 x284001_4)) ∧ (Kd.R k58 58 w' w.heap.size (fun k_ => some k_ ≠ (s_.2.1 : Value).ownBlock ∧ some k_ ≠ (s_.2.2 : Value).ownBlock ∧ some k_ ≠ (.slice Ao140 x272001_3.length co140 : Value).ownBlock ∧ k_ ≠ gb280 ∧ k_ ≠ gb283) s_.1 y284) ∧ (Kd.R k58 58 w' w.heap.size (fun k_ => some k_ ≠ (s_.1 : Value).ownBlock ∧ some k_ ≠ (s_.2.2 : Value).ownBlock ∧ some k_ ≠ (.slice Ao140 x272001_3.length co140 : Value).ownBlock ∧ k_ ≠ gb280 ∧ k_ ≠ gb283) s_.2.1 y287) ∧ (Kd.R k58 58 w' w.heap.size (fun k_ => some k_ ≠ (s_.1 : Value).ownBlock ∧ some k_ ≠ (s_.2.1 : Value).ownBlock ∧ some k_ ≠ (.slice Ao140 x272001_3.length co140 : Value).ownBlock ∧ k_ ≠ gb280 ∧ k_ ≠ gb283) s_.2.2 y290) ∧ (Kd.R k58 58 w' w.heap.size (fun k_ => some k_ ≠ (s_.1 : Value).ownBlock ∧ some k_ ≠ (s_.2.1 : Value).ownBlock ∧ some k_ ≠ (s_.2.2 : Value).ownBlock ∧ k_ ≠ gb280 ∧ k_ ≠ gb283) (.slice Ao140 x272001_3.length co140) x272001_3) ∧ (Kd.R Kd.bool 4 w' w.heap.size (fun _ => True) (.slice (some ⟨go23, 0, none⟩) x6_2.length co23) x6_2) ∧ (Kd.R (Kd.int .i64) 3 w' w.heap.size (fun _ => True) v260 x7_2) ∧ (w'.heap[gb251]? = some (.cells #[.slice (some ad279) l0_0.length c0_0, .slice (some ad282) l0_1.length c0_1] 27 (0, 0))) ∧ (w'.heap[gb252]? = some (.cells #[.slice none 0 0, .slice none 0 0] 27 (0, 0))) ∧ (w'.heap[gb271]? = some (.cells #[.slice Ao139 x272000_3.length co139, .slice Ao140 x272001_3.length co140] 27 (0, 0))) ∧ (w'.heap[gb280]? = some (.cells #[.int .i64 ((rd_T58 l0_0 x85_3).f0), .int .i64 ((rd_T58 l0_0 x85_3).f1)] 58 (0, 0))) ∧ (w'.heap[gb283]? = some (.cells #[.int .i64 x284000_4, .int .i64 x284001_4] 58 (0, 0))) ∧ (Below w.heap.size w w')) ?_ ?_
                           rotate_left
                           ·
                            intro hCont
                            refine two_ (i := 3) (j := 8) (Ni := some 127) (Nj := some 132) #[true, true, true, true, false, true, true, true, false, false, false, false, false, false] #[true, true, true, false, false, true, true, true, true, false, false, false, false, false] rfl rfl rfl rfl (two_of HT_.out (by kernel_rfl)) (by decide) (by decide) (fun K hK => ?_) (fun K hK => ?_)
                            ·
                             skip
                             refine Kd.R_lit_step k58 _ 58 ?hg (N := 127) ?hd (xs := ([(⟨((rd_T58 l0_0 x85_3).f0), ((rd_T58 l0_0 x85_3).f1)⟩ : S58)] : List (S58))) (inner := [.int .i64 ((rd_T58 l0_0 x85_3).f0), .int .i64 ((rd_T58 l0_0 x85_3).f1)]) (ok := fun _ => True) (okp := fun _ => True) ?hr ?hp (fun _ hk => hk) trivial (Below.refl _ _) (Nat.le_refl _) (by simp) ?_; (case hd => rfl); (case hg => rfl); (case hr => first | (go_simp; done) | (go_simp; rfl)); (case hp => exact (Reps.c2 (show Kd.M k58 _ _ _ (⟨((rd_T58 l0_0 x85_3).f0), ((rd_T58 l0_0 x85_3).f1)⟩ : S58) [.int .i64 ((rd_T58 l0_0 x85_3).f0), .int .i64 ((rd_T58 l0_0 x85_3).f1)] from (k58_mkM _ _ _ (⟨((rd_T58 l0_0 x85_3).f0), ((rd_T58 l0_0 x85_3).f1)⟩ : S58) )) (Reps.none _ _)))
                             intro v285 w142 ho143 hb hg_ hnew_
                             clear hg_ hnew_
                             (first | rw [← Ny284.out] at ho143 | (simp only [Int.reduceToNat] at ho143; rw [← Ny284.out] at ho143))
                             replace HO_6 := Aside0.mk (Kd.R_below (tR HO_6.out) hb)
                             replace HO_7 := Aside0.mk (Kd.R_below (tR HO_7.out) hb)
                             have HO286 := Aside0.mk (Kd.R_lower (Kd.R_newB (Kd.R_newB (Kd.R_new' (Kd.R_new' ho143 (Kd.R_lt (tR HO_272000.out))) (Kd.R_lt (tR HO_272001.out))) (g := gb280) (o := .cells #[.int .i64 ((rd_T58 l0_0 x85_3).f0), .int .i64 ((rd_T58 l0_0 x85_3).f1)] 58 (0, 0)) (tK BK280.out)) (g := gb283) (o := .cells #[.int .i64 x284000_4, .int .i64 x284001_4] 58 (0, 0)) (tK BK283.out)) (below_size (tB HB.out)))
                             replace HO_272000 := Aside0.mk (Kd.R_elder' (tR HO_272000.out) (Kd.R_base ho143) hb)
                             replace HO_272001 := Aside0.mk (Kd.R_elder' (tR HO_272001.out) (Kd.R_base ho143) hb)
                             replace BK251 := bkB BK251 hb
                             replace BK252 := bkB BK252 hb
                             replace BK271 := bkB BK271 hb
                             replace BK280 := bkB BK280 hb
                             replace BK283 := bkB BK283 hb
                             replace HB := Aside0.mk (below_step (tB HB.out) hb)
                             clear hb ho143
                             obtain ⟨Ao145, co145, eo145⟩ := Kd.R_slice HO286.out
                             (first | subst eo145 | (injection eo145 with f1_ f2_ f3_; have f4_ := f1_.symm; have f5_ := f3_.symm; clear f1_ f2_ f3_; subst f4_; subst f5_))
                             refine hK.out _ _ ⟨(blk_cell BK271.out 0).trans rfl, (blk_cell BK271.out 1).trans rfl, (blk_cell BK280.out 0).trans rfl, (blk_cell BK280.out 1).trans rfl, (blk_cell BK283.out 0).trans rfl, (blk_cell BK283.out 1).trans rfl⟩ (fun hHeld => ?_)
                             clear hK K
                             refine norm_ (a' := ?_) ?_ ?_
                             rotate_left
                             ·
                              show Act.put _ (some 127) _ = _
                              simp only [Act.put, List.setIfInBounds_toArray, List.set_cons_zero, List.set_cons_succ, i64_w, i32_w]
                              rfl
                             refine two_ (i := 4) (j := 8) (Ni := some 128) (Nj := some 132) #[true, true, true, true, true, true, true, true, false, false, false, false, false, false] #[true, true, true, true, false, true, true, true, true, false, false, false, false, false] rfl rfl rfl rfl (two_of HT_.out (by kernel_rfl)) (by decide) (by decide) (fun K hK => ?_) (fun K hK => ?_)
                             ·
                              skip
                              refine Kd.R_append_rows_step k58 (w0 := w) w.heap.size (by rfl) (.tmp 125) (.tmp 127) 22 58 (.agg #[(.int .i64 0), (.int .i64 0)]) 16 rfl Try.underlying22 info58 rfl (by decide) (by omega) (.slice Ao139 x272000_3.length co139) x272000_3 y284 _ _ _ (fun k_ => some k_ ≠ (.slice Ao140 x272001_3.length co140 : Value).ownBlock ∧ some k_ ≠ (.slice Ao145 y284.length co145 : Value).ownBlock ∧ k_ ≠ gb280 ∧ k_ ≠ gb283) (fun _ => False) rfl rfl ?aO ?aR (fun _ _ h => h) (fun _ h => h.elim) ?aF ?aB ?aS ?aL ?_
                              (case aR => exact tC (Kd.R_reads' HO286.out).2.2)
                              (case aB => exact (tB HB.out))
                              (case aF => exact (fun k_ hk => ⟨Kd.fresh' (Kd.R_lt (tR HO_272001.out)) k_ hk, Kd.fresh' (Kd.R_lt (tR HO286.out)) k_ hk, Kd.freshB (g := gb280) (o := .cells #[.int .i64 ((rd_T58 l0_0 x85_3).f0), .int .i64 ((rd_T58 l0_0 x85_3).f1)] 58 (0, 0)) (tK BK280.out) k_ hk, Kd.freshB (g := gb283) (o := .cells #[.int .i64 x284000_4, .int .i64 x284001_4] 58 (0, 0)) (tK BK283.out) k_ hk⟩))
                              (case aO => exact (by (with_reducible repeat (first | apply Kd.R_alloc | apply Kd.R_drewN | apply Kd.R_drew)); exact Kd.R_mono HO_272000.out (fun _ hk => ⟨hk.1.1, ⟨hk.2, ⟨hk.1.2.1, hk.1.2.2⟩⟩⟩)))
                              (case aS => exact (below_size (tB HB.out)))
                              (case aL => have := LMc137.out; omega)
                              intro v288 w144 ho hb hg hat
                              rw [← Ny287.out] at ho
                              replace HO_6 := Aside0.mk (Kd.R_over' (tR HO_6.out) (Kd.R_typed (tR HO_272000.out)) (by decide) hg)
                              replace HO_7 := Aside0.mk (Kd.R_over' (tR HO_7.out) (Kd.R_typed (tR HO_272000.out)) (by decide) hg)
                              replace HO_272001 := Aside0.mk (Kd.R_after (ok := (fun k_ => some k_ ≠ (.slice Ao145 y284.length co145 : Value).ownBlock ∧ k_ ≠ gb280 ∧ k_ ≠ gb283)) (by (with_reducible repeat (first | apply Kd.R_alloc | apply Kd.R_drewN | apply Kd.R_drew)); exact Kd.R_mono HO_272001.out (fun _ hk => ⟨⟨hk.2, ⟨hk.1.2.1, hk.1.2.2⟩⟩, hk.1.1⟩)) hg hat)
                              replace BK251 := Aside0.mk (blk_grown (g := gb251) (o := .cells #[.slice (some ad279) l0_0.length c0_0, .slice (some ad282) l0_1.length c0_1] 27 (0, 0)) (tK BK251.out) hg (Kd.R_ne HO_272000.out BK251.out (by decide)))
                              replace BK252 := Aside0.mk (blk_grown (g := gb252) (o := .cells #[.slice none 0 0, .slice none 0 0] 27 (0, 0)) (tK BK252.out) hg (Kd.R_ne HO_272000.out BK252.out (by decide)))
                              replace BK271 := Aside0.mk (blk_grown (g := gb271) (o := .cells #[.slice Ao139 x272000_3.length co139, .slice Ao140 x272001_3.length co140] 27 (0, 0)) (tK BK271.out) hg (Kd.R_ne HO_272000.out BK271.out (by decide)))
                              replace BK280 := Aside0.mk (blk_grown (g := gb280) (o := .cells #[.int .i64 ((rd_T58 l0_0 x85_3).f0), .int .i64 ((rd_T58 l0_0 x85_3).f1)] 58 (0, 0)) (tK BK280.out) hg (Kd.R_away HO_272000.out (fun _ hk => hk.1.2.1)))
                              replace BK283 := Aside0.mk (blk_grown (g := gb283) (o := .cells #[.int .i64 x284000_4, .int .i64 x284001_4] 58 (0, 0)) (tK BK283.out) hg (Kd.R_away HO_272000.out (fun _ hk => hk.1.2.2)))
                              replace HO286 := Aside0.mk (Kd.R_after (ok := (fun k_ => some k_ ≠ (.slice Ao140 x272001_3.length co140 : Value).ownBlock ∧ k_ ≠ gb280 ∧ k_ ≠ gb283)) (by (with_reducible repeat (first | apply Kd.R_alloc | apply Kd.R_drewN | apply Kd.R_drew)); exact Kd.R_mono HO286.out (fun _ hk => ⟨⟨hk.1.1.2, ⟨hk.1.2, hk.2⟩⟩, hk.1.1.1.2⟩)) hg hat)
                              replace HB := Aside0.mk (hb)
                              have HO289 := Aside0.mk (ho)
                              clear HO_272000
                              clear ho hb hg hat
                              refine hK.out _ _ ⟨(blk_cell BK271.out 0).trans rfl, (blk_cell BK271.out 1).trans rfl, (blk_cell BK280.out 0).trans rfl, (blk_cell BK280.out 1).trans rfl, (blk_cell BK283.out 0).trans rfl, (blk_cell BK283.out 1).trans rfl⟩ (fun hHeld => ?_)
                              clear hK K
                              refine norm_ (a' := ?_) ?_ ?_
                              rotate_left
                              ·
                               show Act.put _ (some 128) _ = _
                               simp only [Act.put, List.setIfInBounds_toArray, List.set_cons_zero, List.set_cons_succ, i64_w, i32_w]
                               rfl
                              refine pure_ (i := 10) (N := some 134) (v := ?_) (a' := ?_) #[true, true, true, true, true, true, true, true, false, false, true, false, false, false] rfl rfl (any_of HT_.out (by kernel_rfl)) (fun _ _ _ h => h) (Or.inl ⟨by rfl, ?_⟩) ?_ ?_
                              rotate_left
                              ·
                               intro w'
                               go_simp
                               with_reducible rfl
                              rotate_left
                              ·
                               simp only [Act.put, List.setIfInBounds_toArray, List.set_cons_zero, List.set_cons_succ, i64_w, i32_w]
                               rfl
                              refine one_ (i := 8) (N := some 132) #[true, true, true, true, true, true, true, true, true, false, true, false, false, false] rfl rfl (one_of HT_.out (by kernel_rfl)) (by decide) (fun K hK => ?_)
                              refine Kd.R_lit_step k58 _ 58 ?hg (N := 132) ?hd (xs := ([(⟨x284000_4, x284001_4⟩ : S58)] : List (S58))) (inner := [.int .i64 x284000_4, .int .i64 x284001_4]) (ok := fun _ => True) (okp := fun _ => True) ?hr ?hp (fun _ hk => hk) trivial (Below.refl _ _) (Nat.le_refl _) (by simp) ?_; (case hd => rfl); (case hg => rfl); (case hr => first | (go_simp; done) | (go_simp; rfl)); (case hp => exact (Reps.c2 (show Kd.M k58 _ _ _ (⟨x284000_4, x284001_4⟩ : S58) [.int .i64 x284000_4, .int .i64 x284001_4] from (k58_mkM _ _ _ (⟨x284000_4, x284001_4⟩ : S58) )) (Reps.none _ _)))
                              intro v291 w146 ho147 hb hg_ hnew_
                              clear hg_ hnew_
                              (first | rw [← Ny290.out] at ho147 | (simp only [Int.reduceToNat] at ho147; rw [← Ny290.out] at ho147))
                              replace HO_6 := Aside0.mk (Kd.R_below (tR HO_6.out) hb)
                              replace HO_7 := Aside0.mk (Kd.R_below (tR HO_7.out) hb)
                              have HO292 := Aside0.mk (Kd.R_lower (Kd.R_newB (Kd.R_newB (Kd.R_new' (Kd.R_new' (Kd.R_new' ho147 (Kd.R_lt (tR HO_272001.out))) (Kd.R_lt (tR HO286.out))) (Kd.R_lt (tR HO289.out))) (g := gb280) (o := .cells #[.int .i64 ((rd_T58 l0_0 x85_3).f0), .int .i64 ((rd_T58 l0_0 x85_3).f1)] 58 (0, 0)) (tK BK280.out)) (g := gb283) (o := .cells #[.int .i64 x284000_4, .int .i64 x284001_4] 58 (0, 0)) (tK BK283.out)) (below_size (tB HB.out)))
                              replace HO_272001 := Aside0.mk (Kd.R_elder' (tR HO_272001.out) (Kd.R_base ho147) hb)
                              replace HO286 := Aside0.mk (Kd.R_elder' (tR HO286.out) (Kd.R_base ho147) hb)
                              replace HO289 := Aside0.mk (Kd.R_elder' (tR HO289.out) (Kd.R_base ho147) hb)
                              replace BK251 := bkB BK251 hb
                              replace BK252 := bkB BK252 hb
                              replace BK271 := bkB BK271 hb
                              replace BK280 := bkB BK280 hb
                              replace BK283 := bkB BK283 hb
                              replace HB := Aside0.mk (below_step (tB HB.out) hb)
                              clear hb ho147
                              refine hK.out _ _ ⟨(blk_cell BK271.out 0).trans rfl, (blk_cell BK271.out 1).trans rfl, (blk_cell BK280.out 0).trans rfl, (blk_cell BK280.out 1).trans rfl, (blk_cell BK283.out 0).trans rfl, (blk_cell BK283.out 1).trans rfl⟩ (fun hHeld => ?_)
                              clear hK K
                              refine norm_ (a' := ?_) ?_ ?_
                              rotate_left
                              ·
                               show Act.put _ (some 132) _ = _
                               simp only [Act.put, List.setIfInBounds_toArray, List.set_cons_zero, List.set_cons_succ, i64_w, i32_w]
                               rfl
                              exact norm_ (by simp only [putAll, Act.put, List.setIfInBounds_toArray, List.set_cons_zero, List.set_cons_succ]) (hCont (.slice Ao145 y284.length co145, v288, v291) _ ⟨hHeld, (by (with_reducible repeat (first | apply Kd.R_alloc | apply Kd.R_drewN | apply Kd.R_drew)); exact Kd.R_mono HO286.out (fun _ hk => ⟨hk.1.2, ⟨hk.2, ⟨hk.1.1.1, ⟨hk.1.1.2.1, hk.1.1.2.2⟩⟩⟩⟩)), (by (with_reducible repeat (first | apply Kd.R_alloc | apply Kd.R_drewN | apply Kd.R_drew)); exact Kd.R_mono HO289.out (fun _ hk => ⟨hk.1.2.1, ⟨hk.2, ⟨hk.1.1, ⟨hk.1.2.2.1, hk.1.2.2.2⟩⟩⟩⟩)), (by (with_reducible repeat (first | apply Kd.R_alloc | apply Kd.R_drewN | apply Kd.R_drew)); exact Kd.R_mono HO292.out (fun _ hk => ⟨hk.1.1.1.2, ⟨hk.1.1.2, ⟨hk.1.1.1.1.2, ⟨hk.1.2, hk.2⟩⟩⟩⟩)), (by (with_reducible repeat (first | apply Kd.R_alloc | apply Kd.R_drewN | apply Kd.R_drew)); exact Kd.R_mono HO_272001.out (fun _ hk => ⟨hk.1.1.1, ⟨hk.1.2, ⟨hk.2, ⟨hk.1.1.2.1, hk.1.1.2.2⟩⟩⟩⟩)), (tR HO_6.out), (tR HO_7.out), (tK BK251.out), (tK BK252.out), (tK BK271.out), (tK BK280.out), (tK BK283.out), (tB HB.out)⟩)
                             ·
                              skip
                              refine Kd.R_lit_step k58 _ 58 ?hg (N := 132) ?hd (xs := ([(⟨x284000_4, x284001_4⟩ : S58)] : List (S58))) (inner := [.int .i64 x284000_4, .int .i64 x284001_4]) (ok := fun _ => True) (okp := fun _ => True) ?hr ?hp (fun _ hk => hk) trivial (Below.refl _ _) (Nat.le_refl _) (by simp) ?_; (case hd => rfl); (case hg => rfl); (case hr => first | (go_simp; done) | (go_simp; rfl)); (case hp => exact (Reps.c2 (show Kd.M k58 _ _ _ (⟨x284000_4, x284001_4⟩ : S58) [.int .i64 x284000_4, .int .i64 x284001_4] from (k58_mkM _ _ _ (⟨x284000_4, x284001_4⟩ : S58) )) (Reps.none _ _)))
                              intro v291 w144 ho145 hb hg_ hnew_
                              clear hg_ hnew_
                              (first | rw [← Ny290.out] at ho145 | (simp only [Int.reduceToNat] at ho145; rw [← Ny290.out] at ho145))
                              replace HO_6 := Aside0.mk (Kd.R_below (tR HO_6.out) hb)
                              replace HO_7 := Aside0.mk (Kd.R_below (tR HO_7.out) hb)
                              have HO292 := Aside0.mk (Kd.R_lower (Kd.R_newB (Kd.R_newB (Kd.R_new' (Kd.R_new' (Kd.R_new' ho145 (Kd.R_lt (tR HO_272000.out))) (Kd.R_lt (tR HO_272001.out))) (Kd.R_lt (tR HO286.out))) (g := gb280) (o := .cells #[.int .i64 ((rd_T58 l0_0 x85_3).f0), .int .i64 ((rd_T58 l0_0 x85_3).f1)] 58 (0, 0)) (tK BK280.out)) (g := gb283) (o := .cells #[.int .i64 x284000_4, .int .i64 x284001_4] 58 (0, 0)) (tK BK283.out)) (below_size (tB HB.out)))
                              replace HO_272000 := Aside0.mk (Kd.R_elder' (tR HO_272000.out) (Kd.R_base ho145) hb)
                              replace HO_272001 := Aside0.mk (Kd.R_elder' (tR HO_272001.out) (Kd.R_base ho145) hb)
                              replace HO286 := Aside0.mk (Kd.R_elder' (tR HO286.out) (Kd.R_base ho145) hb)
                              replace BK251 := bkB BK251 hb
                              replace BK252 := bkB BK252 hb
                              replace BK271 := bkB BK271 hb
                              replace BK280 := bkB BK280 hb
                              replace BK283 := bkB BK283 hb
                              replace HB := Aside0.mk (below_step (tB HB.out) hb)
                              clear hb ho145
                              obtain ⟨Ao147, co147, eo147⟩ := Kd.R_slice HO286.out
                              (first | subst eo147 | (injection eo147 with f1_ f2_ f3_; have f4_ := f1_.symm; have f5_ := f3_.symm; clear f1_ f2_ f3_; subst f4_; subst f5_))
                              refine hK.out _ _ ⟨(blk_cell BK271.out 0).trans rfl, (blk_cell BK271.out 1).trans rfl, (blk_cell BK280.out 0).trans rfl, (blk_cell BK280.out 1).trans rfl, (blk_cell BK283.out 0).trans rfl, (blk_cell BK283.out 1).trans rfl⟩ (fun hHeld => ?_)
                              clear hK K
                              refine norm_ (a' := ?_) ?_ ?_
                              rotate_left
                              ·
                               show Act.put _ (some 132) _ = _
                               simp only [Act.put, List.setIfInBounds_toArray, List.set_cons_zero, List.set_cons_succ, i64_w, i32_w]
                               rfl
                              refine one_ (i := 4) (N := some 128) #[true, true, true, true, true, true, true, true, true, false, false, false, false, false] rfl rfl (one_of HT_.out (by kernel_rfl)) (by decide) (fun K hK => ?_)
                              refine Kd.R_append_rows_step k58 (w0 := w) w.heap.size (by rfl) (.tmp 125) (.tmp 127) 22 58 (.agg #[(.int .i64 0), (.int .i64 0)]) 16 rfl Try.underlying22 info58 rfl (by decide) (by omega) (.slice Ao139 x272000_3.length co139) x272000_3 y284 _ _ _ (fun k_ => some k_ ≠ (.slice Ao140 x272001_3.length co140 : Value).ownBlock ∧ some k_ ≠ (.slice Ao147 y284.length co147 : Value).ownBlock ∧ some k_ ≠ (v291 : Value).ownBlock ∧ k_ ≠ gb280 ∧ k_ ≠ gb283) (fun _ => False) rfl rfl ?aO ?aR (fun _ _ h => h) (fun _ h => h.elim) ?aF ?aB ?aS ?aL ?_
                              (case aR => exact tC (Kd.R_reads' HO286.out).2.2)
                              (case aB => exact (tB HB.out))
                              (case aF => exact (fun k_ hk => ⟨Kd.fresh' (Kd.R_lt (tR HO_272001.out)) k_ hk, Kd.fresh' (Kd.R_lt (tR HO286.out)) k_ hk, Kd.fresh' (Kd.R_lt (tR HO292.out)) k_ hk, Kd.freshB (g := gb280) (o := .cells #[.int .i64 ((rd_T58 l0_0 x85_3).f0), .int .i64 ((rd_T58 l0_0 x85_3).f1)] 58 (0, 0)) (tK BK280.out) k_ hk, Kd.freshB (g := gb283) (o := .cells #[.int .i64 x284000_4, .int .i64 x284001_4] 58 (0, 0)) (tK BK283.out) k_ hk⟩))
                              (case aO => exact (by (with_reducible repeat (first | apply Kd.R_alloc | apply Kd.R_drewN | apply Kd.R_drew)); exact Kd.R_mono HO_272000.out (fun _ hk => ⟨hk.1.1.1, ⟨hk.1.2, ⟨hk.2, ⟨hk.1.1.2.1, hk.1.1.2.2⟩⟩⟩⟩)))
                              (case aS => exact (below_size (tB HB.out)))
                              (case aL => have := LMc137.out; omega)
                              intro v288 w146 ho hb hg hat
                              rw [← Ny287.out] at ho
                              replace HO_6 := Aside0.mk (Kd.R_over' (tR HO_6.out) (Kd.R_typed (tR HO_272000.out)) (by decide) hg)
                              replace HO_7 := Aside0.mk (Kd.R_over' (tR HO_7.out) (Kd.R_typed (tR HO_272000.out)) (by decide) hg)
                              replace HO_272001 := Aside0.mk (Kd.R_after (ok := (fun k_ => some k_ ≠ (.slice Ao147 y284.length co147 : Value).ownBlock ∧ some k_ ≠ (v291 : Value).ownBlock ∧ k_ ≠ gb280 ∧ k_ ≠ gb283)) (by (with_reducible repeat (first | apply Kd.R_alloc | apply Kd.R_drewN | apply Kd.R_drew)); exact Kd.R_mono HO_272001.out (fun _ hk => ⟨⟨hk.1.2, ⟨hk.2, ⟨hk.1.1.2.1, hk.1.1.2.2⟩⟩⟩, hk.1.1.1⟩)) hg hat)
                              replace BK251 := Aside0.mk (blk_grown (g := gb251) (o := .cells #[.slice (some ad279) l0_0.length c0_0, .slice (some ad282) l0_1.length c0_1] 27 (0, 0)) (tK BK251.out) hg (Kd.R_ne HO_272000.out BK251.out (by decide)))
                              replace BK252 := Aside0.mk (blk_grown (g := gb252) (o := .cells #[.slice none 0 0, .slice none 0 0] 27 (0, 0)) (tK BK252.out) hg (Kd.R_ne HO_272000.out BK252.out (by decide)))
                              replace BK271 := Aside0.mk (blk_grown (g := gb271) (o := .cells #[.slice Ao139 x272000_3.length co139, .slice Ao140 x272001_3.length co140] 27 (0, 0)) (tK BK271.out) hg (Kd.R_ne HO_272000.out BK271.out (by decide)))
                              replace BK280 := Aside0.mk (blk_grown (g := gb280) (o := .cells #[.int .i64 ((rd_T58 l0_0 x85_3).f0), .int .i64 ((rd_T58 l0_0 x85_3).f1)] 58 (0, 0)) (tK BK280.out) hg (Kd.R_away HO_272000.out (fun _ hk => hk.1.1.2.1)))
                              replace BK283 := Aside0.mk (blk_grown (g := gb283) (o := .cells #[.int .i64 x284000_4, .int .i64 x284001_4] 58 (0, 0)) (tK BK283.out) hg (Kd.R_away HO_272000.out (fun _ hk => hk.1.1.2.2)))
                              replace HO286 := Aside0.mk (Kd.R_after (ok := (fun k_ => some k_ ≠ (.slice Ao140 x272001_3.length co140 : Value).ownBlock ∧ some k_ ≠ (v291 : Value).ownBlock ∧ k_ ≠ gb280 ∧ k_ ≠ gb283)) (by (with_reducible repeat (first | apply Kd.R_alloc | apply Kd.R_drewN | apply Kd.R_drew)); exact Kd.R_mono HO286.out (fun _ hk => ⟨⟨hk.1.1.1.2, ⟨hk.2, ⟨hk.1.1.2, hk.1.2⟩⟩⟩, hk.1.1.1.1.2⟩)) hg hat)
                              replace HO292 := Aside0.mk (Kd.R_after (ok := (fun k_ => some k_ ≠ (.slice Ao140 x272001_3.length co140 : Value).ownBlock ∧ some k_ ≠ (.slice Ao147 y284.length co147 : Value).ownBlock ∧ k_ ≠ gb280 ∧ k_ ≠ gb283)) (by (with_reducible repeat (first | apply Kd.R_alloc | apply Kd.R_drewN | apply Kd.R_drew)); exact Kd.R_mono HO292.out (fun _ hk => ⟨⟨hk.1.1.1.2, ⟨hk.1.1.2, ⟨hk.1.2, hk.2⟩⟩⟩, hk.1.1.1.1.2⟩)) hg hat)
                              replace HB := Aside0.mk (hb)
                              have HO289 := Aside0.mk (ho)
                              clear HO_272000
                              clear ho hb hg hat
                              refine hK.out _ _ ⟨(blk_cell BK271.out 0).trans rfl, (blk_cell BK271.out 1).trans rfl, (blk_cell BK280.out 0).trans rfl, (blk_cell BK280.out 1).trans rfl, (blk_cell BK283.out 0).trans rfl, (blk_cell BK283.out 1).trans rfl⟩ (fun hHeld => ?_)
                              clear hK K
                              refine norm_ (a' := ?_) ?_ ?_
                              rotate_left
                              ·
                               show Act.put _ (some 128) _ = _
                               simp only [Act.put, List.setIfInBounds_toArray, List.set_cons_zero, List.set_cons_succ, i64_w, i32_w]
                               rfl
                              refine pure_ (i := 10) (N := some 134) (v := ?_) (a' := ?_) #[true, true, true, true, true, true, true, true, true, false, true, false, false, false] rfl rfl (any_of HT_.out (by kernel_rfl)) (fun _ _ _ h => h) (Or.inl ⟨by rfl, ?_⟩) ?_ ?_
                              rotate_left
                              ·
                               intro w'
                               go_simp
                               with_reducible rfl
                              rotate_left
                              ·
                               simp only [Act.put, List.setIfInBounds_toArray, List.set_cons_zero, List.set_cons_succ, i64_w, i32_w]
                               rfl
                              exact norm_ (by simp only [putAll, Act.put, List.setIfInBounds_toArray, List.set_cons_zero, List.set_cons_succ]) (hCont (.slice Ao147 y284.length co147, v288, v291) _ ⟨hHeld, (by (with_reducible repeat (first | apply Kd.R_alloc | apply Kd.R_drewN | apply Kd.R_drew)); exact Kd.R_mono HO286.out (fun _ hk => ⟨hk.2, ⟨hk.1.2.1, ⟨hk.1.1, ⟨hk.1.2.2.1, hk.1.2.2.2⟩⟩⟩⟩)), (by (with_reducible repeat (first | apply Kd.R_alloc | apply Kd.R_drewN | apply Kd.R_drew)); exact Kd.R_mono HO289.out (fun _ hk => ⟨hk.2.1, ⟨hk.2.2.1, ⟨hk.1, ⟨hk.2.2.2.1, hk.2.2.2.2⟩⟩⟩⟩)), (by (with_reducible repeat (first | apply Kd.R_alloc | apply Kd.R_drewN | apply Kd.R_drew)); exact Kd.R_mono HO292.out (fun _ hk => ⟨hk.1.2.1, ⟨hk.2, ⟨hk.1.1, ⟨hk.1.2.2.1, hk.1.2.2.2⟩⟩⟩⟩)), (by (with_reducible repeat (first | apply Kd.R_alloc | apply Kd.R_drewN | apply Kd.R_drew)); exact Kd.R_mono HO_272001.out (fun _ hk => ⟨hk.1.1, ⟨hk.2, ⟨hk.1.2.1, ⟨hk.1.2.2.1, hk.1.2.2.2⟩⟩⟩⟩)), (tR HO_6.out), (tR HO_7.out), (tK BK251.out), (tK BK252.out), (tK BK271.out), (tK BK280.out), (tK BK283.out), (tB HB.out)⟩)
                            ·
                             skip
                             refine Kd.R_lit_step k58 _ 58 ?hg (N := 132) ?hd (xs := ([(⟨x284000_4, x284001_4⟩ : S58)] : List (S58))) (inner := [.int .i64 x284000_4, .int .i64 x284001_4]) (ok := fun _ => True) (okp := fun _ => True) ?hr ?hp (fun _ hk => hk) trivial (Below.refl _ _) (Nat.le_refl _) (by simp) ?_; (case hd => rfl); (case hg => rfl); (case hr => first | (go_simp; done) | (go_simp; rfl)); (case hp => exact (Reps.c2 (show Kd.M k58 _ _ _ (⟨x284000_4, x284001_4⟩ : S58) [.int .i64 x284000_4, .int .i64 x284001_4] from (k58_mkM _ _ _ (⟨x284000_4, x284001_4⟩ : S58) )) (Reps.none _ _)))
                             intro v291 w142 ho143 hb hg_ hnew_
                             clear hg_ hnew_
                             (first | rw [← Ny290.out] at ho143 | (simp only [Int.reduceToNat] at ho143; rw [← Ny290.out] at ho143))
                             replace HO_6 := Aside0.mk (Kd.R_below (tR HO_6.out) hb)
                             replace HO_7 := Aside0.mk (Kd.R_below (tR HO_7.out) hb)
                             have HO292 := Aside0.mk (Kd.R_lower (Kd.R_newB (Kd.R_newB (Kd.R_new' (Kd.R_new' ho143 (Kd.R_lt (tR HO_272000.out))) (Kd.R_lt (tR HO_272001.out))) (g := gb280) (o := .cells #[.int .i64 ((rd_T58 l0_0 x85_3).f0), .int .i64 ((rd_T58 l0_0 x85_3).f1)] 58 (0, 0)) (tK BK280.out)) (g := gb283) (o := .cells #[.int .i64 x284000_4, .int .i64 x284001_4] 58 (0, 0)) (tK BK283.out)) (below_size (tB HB.out)))
                             replace HO_272000 := Aside0.mk (Kd.R_elder' (tR HO_272000.out) (Kd.R_base ho143) hb)
                             replace HO_272001 := Aside0.mk (Kd.R_elder' (tR HO_272001.out) (Kd.R_base ho143) hb)
                             replace BK251 := bkB BK251 hb
                             replace BK252 := bkB BK252 hb
                             replace BK271 := bkB BK271 hb
                             replace BK280 := bkB BK280 hb
                             replace BK283 := bkB BK283 hb
                             replace HB := Aside0.mk (below_step (tB HB.out) hb)
                             clear hb ho143
                             refine hK.out _ _ ⟨(blk_cell BK271.out 0).trans rfl, (blk_cell BK271.out 1).trans rfl, (blk_cell BK280.out 0).trans rfl, (blk_cell BK280.out 1).trans rfl, (blk_cell BK283.out 0).trans rfl, (blk_cell BK283.out 1).trans rfl⟩ (fun hHeld => ?_)
                             clear hK K
                             refine norm_ (a' := ?_) ?_ ?_
                             rotate_left
                             ·
                              show Act.put _ (some 132) _ = _
                              simp only [Act.put, List.setIfInBounds_toArray, List.set_cons_zero, List.set_cons_succ, i64_w, i32_w]
                              rfl
                             refine one_ (i := 3) (N := some 127) #[true, true, true, true, false, true, true, true, true, false, false, false, false, false] rfl rfl (one_of HT_.out (by kernel_rfl)) (by decide) (fun K hK => ?_)
                             refine Kd.R_lit_step k58 _ 58 ?hg (N := 127) ?hd (xs := ([(⟨((rd_T58 l0_0 x85_3).f0), ((rd_T58 l0_0 x85_3).f1)⟩ : S58)] : List (S58))) (inner := [.int .i64 ((rd_T58 l0_0 x85_3).f0), .int .i64 ((rd_T58 l0_0 x85_3).f1)]) (ok := fun _ => True) (okp := fun _ => True) ?hr ?hp (fun _ hk => hk) trivial (Below.refl _ _) (Nat.le_refl _) (by simp) ?_; (case hd => rfl); (case hg => rfl); (case hr => first | (go_simp; done) | (go_simp; rfl)); (case hp => exact (Reps.c2 (show Kd.M k58 _ _ _ (⟨((rd_T58 l0_0 x85_3).f0), ((rd_T58 l0_0 x85_3).f1)⟩ : S58) [.int .i64 ((rd_T58 l0_0 x85_3).f0), .int .i64 ((rd_T58 l0_0 x85_3).f1)] from (k58_mkM _ _ _ (⟨((rd_T58 l0_0 x85_3).f0), ((rd_T58 l0_0 x85_3).f1)⟩ : S58) )) (Reps.none _ _)))
                             intro v285 w144 ho145 hb hg_ hnew_
                             clear hg_ hnew_
                             (first | rw [← Ny284.out] at ho145 | (simp only [Int.reduceToNat] at ho145; rw [← Ny284.out] at ho145))
                             replace HO_6 := Aside0.mk (Kd.R_below (tR HO_6.out) hb)
                             replace HO_7 := Aside0.mk (Kd.R_below (tR HO_7.out) hb)
                             have HO286 := Aside0.mk (Kd.R_lower (Kd.R_newB (Kd.R_newB (Kd.R_new' (Kd.R_new' (Kd.R_new' ho145 (Kd.R_lt (tR HO_272000.out))) (Kd.R_lt (tR HO_272001.out))) (Kd.R_lt (tR HO292.out))) (g := gb280) (o := .cells #[.int .i64 ((rd_T58 l0_0 x85_3).f0), .int .i64 ((rd_T58 l0_0 x85_3).f1)] 58 (0, 0)) (tK BK280.out)) (g := gb283) (o := .cells #[.int .i64 x284000_4, .int .i64 x284001_4] 58 (0, 0)) (tK BK283.out)) (below_size (tB HB.out)))
                             replace HO_272000 := Aside0.mk (Kd.R_elder' (tR HO_272000.out) (Kd.R_base ho145) hb)
                             replace HO_272001 := Aside0.mk (Kd.R_elder' (tR HO_272001.out) (Kd.R_base ho145) hb)
                             replace HO292 := Aside0.mk (Kd.R_elder' (tR HO292.out) (Kd.R_base ho145) hb)
                             replace BK251 := bkB BK251 hb
                             replace BK252 := bkB BK252 hb
                             replace BK271 := bkB BK271 hb
                             replace BK280 := bkB BK280 hb
                             replace BK283 := bkB BK283 hb
                             replace HB := Aside0.mk (below_step (tB HB.out) hb)
                             clear hb ho145
                             obtain ⟨Ao147, co147, eo147⟩ := Kd.R_slice HO286.out
                             (first | subst eo147 | (injection eo147 with f1_ f2_ f3_; have f4_ := f1_.symm; have f5_ := f3_.symm; clear f1_ f2_ f3_; subst f4_; subst f5_))
                             refine hK.out _ _ ⟨(blk_cell BK271.out 0).trans rfl, (blk_cell BK271.out 1).trans rfl, (blk_cell BK280.out 0).trans rfl, (blk_cell BK280.out 1).trans rfl, (blk_cell BK283.out 0).trans rfl, (blk_cell BK283.out 1).trans rfl⟩ (fun hHeld => ?_)
                             clear hK K
                             refine norm_ (a' := ?_) ?_ ?_
                             rotate_left
                             ·
                              show Act.put _ (some 127) _ = _
                              simp only [Act.put, List.setIfInBounds_toArray, List.set_cons_zero, List.set_cons_succ, i64_w, i32_w]
                              rfl
                             refine one_ (i := 4) (N := some 128) #[true, true, true, true, true, true, true, true, true, false, false, false, false, false] rfl rfl (one_of HT_.out (by kernel_rfl)) (by decide) (fun K hK => ?_)
                             refine Kd.R_append_rows_step k58 (w0 := w) w.heap.size (by rfl) (.tmp 125) (.tmp 127) 22 58 (.agg #[(.int .i64 0), (.int .i64 0)]) 16 rfl Try.underlying22 info58 rfl (by decide) (by omega) (.slice Ao139 x272000_3.length co139) x272000_3 y284 _ _ _ (fun k_ => some k_ ≠ (.slice Ao140 x272001_3.length co140 : Value).ownBlock ∧ some k_ ≠ (v291 : Value).ownBlock ∧ some k_ ≠ (.slice Ao147 y284.length co147 : Value).ownBlock ∧ k_ ≠ gb280 ∧ k_ ≠ gb283) (fun _ => False) rfl rfl ?aO ?aR (fun _ _ h => h) (fun _ h => h.elim) ?aF ?aB ?aS ?aL ?_
                             (case aR => exact tC (Kd.R_reads' HO286.out).2.2)
                             (case aB => exact (tB HB.out))
                             (case aF => exact (fun k_ hk => ⟨Kd.fresh' (Kd.R_lt (tR HO_272001.out)) k_ hk, Kd.fresh' (Kd.R_lt (tR HO292.out)) k_ hk, Kd.fresh' (Kd.R_lt (tR HO286.out)) k_ hk, Kd.freshB (g := gb280) (o := .cells #[.int .i64 ((rd_T58 l0_0 x85_3).f0), .int .i64 ((rd_T58 l0_0 x85_3).f1)] 58 (0, 0)) (tK BK280.out) k_ hk, Kd.freshB (g := gb283) (o := .cells #[.int .i64 x284000_4, .int .i64 x284001_4] 58 (0, 0)) (tK BK283.out) k_ hk⟩))
                             (case aO => exact (by (with_reducible repeat (first | apply Kd.R_alloc | apply Kd.R_drewN | apply Kd.R_drew)); exact Kd.R_mono HO_272000.out (fun _ hk => ⟨hk.1.1.1, ⟨hk.1.2, ⟨hk.2, ⟨hk.1.1.2.1, hk.1.1.2.2⟩⟩⟩⟩)))
                             (case aS => exact (below_size (tB HB.out)))
                             (case aL => have := LMc137.out; omega)
                             intro v288 w146 ho hb hg hat
                             rw [← Ny287.out] at ho
                             replace HO_6 := Aside0.mk (Kd.R_over' (tR HO_6.out) (Kd.R_typed (tR HO_272000.out)) (by decide) hg)
                             replace HO_7 := Aside0.mk (Kd.R_over' (tR HO_7.out) (Kd.R_typed (tR HO_272000.out)) (by decide) hg)
                             replace HO_272001 := Aside0.mk (Kd.R_after (ok := (fun k_ => some k_ ≠ (v291 : Value).ownBlock ∧ some k_ ≠ (.slice Ao147 y284.length co147 : Value).ownBlock ∧ k_ ≠ gb280 ∧ k_ ≠ gb283)) (by (with_reducible repeat (first | apply Kd.R_alloc | apply Kd.R_drewN | apply Kd.R_drew)); exact Kd.R_mono HO_272001.out (fun _ hk => ⟨⟨hk.1.2, ⟨hk.2, ⟨hk.1.1.2.1, hk.1.1.2.2⟩⟩⟩, hk.1.1.1⟩)) hg hat)
                             replace BK251 := Aside0.mk (blk_grown (g := gb251) (o := .cells #[.slice (some ad279) l0_0.length c0_0, .slice (some ad282) l0_1.length c0_1] 27 (0, 0)) (tK BK251.out) hg (Kd.R_ne HO_272000.out BK251.out (by decide)))
                             replace BK252 := Aside0.mk (blk_grown (g := gb252) (o := .cells #[.slice none 0 0, .slice none 0 0] 27 (0, 0)) (tK BK252.out) hg (Kd.R_ne HO_272000.out BK252.out (by decide)))
                             replace BK271 := Aside0.mk (blk_grown (g := gb271) (o := .cells #[.slice Ao139 x272000_3.length co139, .slice Ao140 x272001_3.length co140] 27 (0, 0)) (tK BK271.out) hg (Kd.R_ne HO_272000.out BK271.out (by decide)))
                             replace BK280 := Aside0.mk (blk_grown (g := gb280) (o := .cells #[.int .i64 ((rd_T58 l0_0 x85_3).f0), .int .i64 ((rd_T58 l0_0 x85_3).f1)] 58 (0, 0)) (tK BK280.out) hg (Kd.R_away HO_272000.out (fun _ hk => hk.1.1.2.1)))
                             replace BK283 := Aside0.mk (blk_grown (g := gb283) (o := .cells #[.int .i64 x284000_4, .int .i64 x284001_4] 58 (0, 0)) (tK BK283.out) hg (Kd.R_away HO_272000.out (fun _ hk => hk.1.1.2.2)))
                             replace HO292 := Aside0.mk (Kd.R_after (ok := (fun k_ => some k_ ≠ (.slice Ao140 x272001_3.length co140 : Value).ownBlock ∧ some k_ ≠ (.slice Ao147 y284.length co147 : Value).ownBlock ∧ k_ ≠ gb280 ∧ k_ ≠ gb283)) (by (with_reducible repeat (first | apply Kd.R_alloc | apply Kd.R_drewN | apply Kd.R_drew)); exact Kd.R_mono HO292.out (fun _ hk => ⟨⟨hk.1.1.1.2, ⟨hk.2, ⟨hk.1.1.2, hk.1.2⟩⟩⟩, hk.1.1.1.1.2⟩)) hg hat)
                             replace HO286 := Aside0.mk (Kd.R_after (ok := (fun k_ => some k_ ≠ (.slice Ao140 x272001_3.length co140 : Value).ownBlock ∧ some k_ ≠ (v291 : Value).ownBlock ∧ k_ ≠ gb280 ∧ k_ ≠ gb283)) (by (with_reducible repeat (first | apply Kd.R_alloc | apply Kd.R_drewN | apply Kd.R_drew)); exact Kd.R_mono HO286.out (fun _ hk => ⟨⟨hk.1.1.1.2, ⟨hk.1.1.2, ⟨hk.1.2, hk.2⟩⟩⟩, hk.1.1.1.1.2⟩)) hg hat)
                             replace HB := Aside0.mk (hb)
                             have HO289 := Aside0.mk (ho)
                             clear HO_272000
                             clear ho hb hg hat
                             refine hK.out _ _ ⟨(blk_cell BK271.out 0).trans rfl, (blk_cell BK271.out 1).trans rfl, (blk_cell BK280.out 0).trans rfl, (blk_cell BK280.out 1).trans rfl, (blk_cell BK283.out 0).trans rfl, (blk_cell BK283.out 1).trans rfl⟩ (fun hHeld => ?_)
                             clear hK K
                             refine norm_ (a' := ?_) ?_ ?_
                             rotate_left
                             ·
                              show Act.put _ (some 128) _ = _
                              simp only [Act.put, List.setIfInBounds_toArray, List.set_cons_zero, List.set_cons_succ, i64_w, i32_w]
                              rfl
                             refine pure_ (i := 10) (N := some 134) (v := ?_) (a' := ?_) #[true, true, true, true, true, true, true, true, true, false, true, false, false, false] rfl rfl (any_of HT_.out (by kernel_rfl)) (fun _ _ _ h => h) (Or.inl ⟨by rfl, ?_⟩) ?_ ?_
                             rotate_left
                             ·
                              intro w'
                              go_simp
                              with_reducible rfl
                             rotate_left
                             ·
                              simp only [Act.put, List.setIfInBounds_toArray, List.set_cons_zero, List.set_cons_succ, i64_w, i32_w]
                              rfl
                             exact norm_ (by simp only [putAll, Act.put, List.setIfInBounds_toArray, List.set_cons_zero, List.set_cons_succ]) (hCont (.slice Ao147 y284.length co147, v288, v291) _ ⟨hHeld, (by (with_reducible repeat (first | apply Kd.R_alloc | apply Kd.R_drewN | apply Kd.R_drew)); exact Kd.R_mono HO286.out (fun _ hk => ⟨hk.2, ⟨hk.1.2.1, ⟨hk.1.1, ⟨hk.1.2.2.1, hk.1.2.2.2⟩⟩⟩⟩)), (by (with_reducible repeat (first | apply Kd.R_alloc | apply Kd.R_drewN | apply Kd.R_drew)); exact Kd.R_mono HO289.out (fun _ hk => ⟨hk.2.2.1, ⟨hk.2.1, ⟨hk.1, ⟨hk.2.2.2.1, hk.2.2.2.2⟩⟩⟩⟩)), (by (with_reducible repeat (first | apply Kd.R_alloc | apply Kd.R_drewN | apply Kd.R_drew)); exact Kd.R_mono HO292.out (fun _ hk => ⟨hk.1.2.1, ⟨hk.2, ⟨hk.1.1, ⟨hk.1.2.2.1, hk.1.2.2.2⟩⟩⟩⟩)), (by (with_reducible repeat (first | apply Kd.R_alloc | apply Kd.R_drewN | apply Kd.R_drew)); exact Kd.R_mono HO_272001.out (fun _ hk => ⟨hk.1.2.1, ⟨hk.2, ⟨hk.1.1, ⟨hk.1.2.2.1, hk.1.2.2.2⟩⟩⟩⟩)), (tR HO_6.out), (tR HO_7.out), (tK BK251.out), (tK BK252.out), (tK BK271.out), (tK BK280.out), (tK BK283.out), (tB HB.out)⟩)
                           rintro ⟨v285, v288, v291⟩ w148 ⟨hS_, h0_, h1_, h2_, h3_, h4_, h5_, h6_, h7_, h8_, h9_, h10_, h11_⟩
                           have n0_ : Aside0 (Kd.R k58 58 w148 w.heap.size (fun k_ => some k_ ≠ (v288 : Value).ownBlock ∧ some k_ ≠ (v291 : Value).ownBlock ∧ some k_ ≠ (.slice Ao140 x272001_3.length co140 : Value).ownBlock ∧ k_ ≠ gb280 ∧ k_ ≠ gb283) v285 y284) := ⟨h0_⟩
                           have n1_ : Aside0 (Kd.R k58 58 w148 w.heap.size (fun k_ => some k_ ≠ (v285 : Value).ownBlock ∧ some k_ ≠ (v291 : Value).ownBlock ∧ some k_ ≠ (.slice Ao140 x272001_3.length co140 : Value).ownBlock ∧ k_ ≠ gb280 ∧ k_ ≠ gb283) v288 y287) := ⟨h1_⟩
                           have n2_ : Aside0 (Kd.R k58 58 w148 w.heap.size (fun k_ => some k_ ≠ (v285 : Value).ownBlock ∧ some k_ ≠ (v288 : Value).ownBlock ∧ some k_ ≠ (.slice Ao140 x272001_3.length co140 : Value).ownBlock ∧ k_ ≠ gb280 ∧ k_ ≠ gb283) v291 y290) := ⟨h2_⟩
                           have n3_ : Aside0 (Kd.R k58 58 w148 w.heap.size (fun k_ => some k_ ≠ (v285 : Value).ownBlock ∧ some k_ ≠ (v288 : Value).ownBlock ∧ some k_ ≠ (v291 : Value).ownBlock ∧ k_ ≠ gb280 ∧ k_ ≠ gb283) (.slice Ao140 x272001_3.length co140) x272001_3) := ⟨h3_⟩
                           have n4_ : Aside0 (Kd.R Kd.bool 4 w148 w.heap.size (fun _ => True) (.slice (some ⟨go23, 0, none⟩) x6_2.length co23) x6_2) := ⟨h4_⟩
                           have n5_ : Aside0 (Kd.R (Kd.int .i64) 3 w148 w.heap.size (fun _ => True) v260 x7_2) := ⟨h5_⟩
                           have n6_ : Aside0 (w148.heap[gb251]? = some (.cells #[.slice (some ad279) l0_0.length c0_0, .slice (some ad282) l0_1.length c0_1] 27 (0, 0))) := ⟨h6_⟩
                           have n7_ : Aside0 (w148.heap[gb252]? = some (.cells #[.slice none 0 0, .slice none 0 0] 27 (0, 0))) := ⟨h7_⟩
                           have n8_ : Aside0 (w148.heap[gb271]? = some (.cells #[.slice Ao139 x272000_3.length co139, .slice Ao140 x272001_3.length co140] 27 (0, 0))) := ⟨h8_⟩
                           have n9_ : Aside0 (w148.heap[gb280]? = some (.cells #[.int .i64 ((rd_T58 l0_0 x85_3).f0), .int .i64 ((rd_T58 l0_0 x85_3).f1)] 58 (0, 0))) := ⟨h9_⟩
                           have n10_ : Aside0 (w148.heap[gb283]? = some (.cells #[.int .i64 x284000_4, .int .i64 x284001_4] 58 (0, 0))) := ⟨h10_⟩
                           have n11_ : Aside0 (Below w.heap.size w w148) := ⟨h11_⟩
                           clear HO_6
                           clear HO_7
                           clear HO_272000
                           clear HO_272001
                           clear BK251
                           clear BK252
                           clear BK271
                           clear BK280
                           clear BK283
                           clear HB
                           clear h0_ h1_ h2_ h3_ h4_ h5_ h6_ h7_ h8_ h9_ h10_ h11_
                           have HO286 := n0_
                           have HO289 := n1_
                           have HO292 := n2_
                           have HO_272001 := n3_
                           have HO_6 := n4_
                           have HO_7 := n5_
                           have BK251 := n6_
                           have BK252 := n7_
                           have BK271 := n8_
                           have BK280 := n9_
                           have BK283 := n10_
                           have HB := n11_
                           clear n0_ n1_ n2_ n3_ n4_ n5_ n6_ n7_ n8_ n9_ n10_ n11_
                           have hHeld : w148.cell? ⟨gb271, 0, none⟩ = some (.slice Ao139 x272000_3.length co139) ∧ w148.cell? ⟨gb271, 1, none⟩ = some (.slice Ao140 x272001_3.length co140) ∧ w148.cell? ⟨gb280, 0, none⟩ = some (.int .i64 ((rd_T58 l0_0 x85_3).f0)) ∧ w148.cell? ⟨gb280, 1, none⟩ = some (.int .i64 ((rd_T58 l0_0 x85_3).f1)) ∧ w148.cell? ⟨gb283, 0, none⟩ = some (.int .i64 x284000_4) ∧ w148.cell? ⟨gb283, 1, none⟩ = some (.int .i64 x284001_4) := hS_
                           obtain ⟨Ao150, co150, eo150⟩ := Kd.R_slice HO292.out
                           (first | subst eo150 | (injection eo150 with f1_ f2_ f3_; have f4_ := f1_.symm; have f5_ := f3_.symm; clear f1_ f2_ f3_; subst f4_; subst f5_))
                           refine norm_ (a' := ?_) ?_ ?_
                           rotate_left
                           ·
                            simp only [putAll, Act.put, List.setIfInBounds_toArray, List.set_cons_zero, List.set_cons_succ]
                            rfl
                           refine one_ (i := 9) (N := some 133) #[true, true, true, true, true, true, true, true, true, true, true, false, false, false] rfl rfl (one_of HT_.out (by kernel_rfl)) (by decide) (fun K hK => ?_)
                           refine Kd.R_append_rows_step k58 (w0 := w) w.heap.size (by rfl) (.tmp 130) (.tmp 132) 22 58 (.agg #[(.int .i64 0), (.int .i64 0)]) 16 rfl Try.underlying22 info58 rfl (by decide) (by omega) (.slice Ao140 x272001_3.length co140) x272001_3 y290 _ _ _ (fun k_ => some k_ ≠ (v285 : Value).ownBlock ∧ some k_ ≠ (v288 : Value).ownBlock ∧ some k_ ≠ (.slice Ao150 y290.length co150 : Value).ownBlock ∧ k_ ≠ gb280 ∧ k_ ≠ gb283) (fun _ => False) rfl rfl ?aO ?aR (fun _ _ h => h) (fun _ h => h.elim) ?aF ?aB ?aS ?aL ?_
                           (case aR => exact tC (Kd.R_reads' HO292.out).2.2)
                           (case aB => exact (tB HB.out))
                           (case aF => exact (fun k_ hk => ⟨Kd.fresh' (Kd.R_lt (tR HO286.out)) k_ hk, Kd.fresh' (Kd.R_lt (tR HO289.out)) k_ hk, Kd.fresh' (Kd.R_lt (tR HO292.out)) k_ hk, Kd.freshB (g := gb280) (o := .cells #[.int .i64 ((rd_T58 l0_0 x85_3).f0), .int .i64 ((rd_T58 l0_0 x85_3).f1)] 58 (0, 0)) (tK BK280.out) k_ hk, Kd.freshB (g := gb283) (o := .cells #[.int .i64 x284000_4, .int .i64 x284001_4] 58 (0, 0)) (tK BK283.out) k_ hk⟩))
                           (case aO => exact (tR HO_272001.out))
                           (case aS => exact (below_size (tB HB.out)))
                           (case aL => have := LMc138.out; omega)
                           intro v294 w149 ho hb hg hat
                           rw [← Ny293.out] at ho
                           replace HO_6 := Aside0.mk (Kd.R_over' (tR HO_6.out) (Kd.R_typed (tR HO_272001.out)) (by decide) hg)
                           replace HO_7 := Aside0.mk (Kd.R_over' (tR HO_7.out) (Kd.R_typed (tR HO_272001.out)) (by decide) hg)
                           replace BK251 := Aside0.mk (blk_grown (g := gb251) (o := .cells #[.slice (some ad279) l0_0.length c0_0, .slice (some ad282) l0_1.length c0_1] 27 (0, 0)) (tK BK251.out) hg (Kd.R_ne HO_272001.out BK251.out (by decide)))
                           replace BK252 := Aside0.mk (blk_grown (g := gb252) (o := .cells #[.slice none 0 0, .slice none 0 0] 27 (0, 0)) (tK BK252.out) hg (Kd.R_ne HO_272001.out BK252.out (by decide)))
                           replace BK271 := Aside0.mk (blk_grown (g := gb271) (o := .cells #[.slice Ao139 x272000_3.length co139, .slice Ao140 x272001_3.length co140] 27 (0, 0)) (tK BK271.out) hg (Kd.R_ne HO_272001.out BK271.out (by decide)))
                           replace BK280 := Aside0.mk (blk_grown (g := gb280) (o := .cells #[.int .i64 ((rd_T58 l0_0 x85_3).f0), .int .i64 ((rd_T58 l0_0 x85_3).f1)] 58 (0, 0)) (tK BK280.out) hg (Kd.R_away HO_272001.out (fun _ hk => hk.2.2.2.1)))
                           replace BK283 := Aside0.mk (blk_grown (g := gb283) (o := .cells #[.int .i64 x284000_4, .int .i64 x284001_4] 58 (0, 0)) (tK BK283.out) hg (Kd.R_away HO_272001.out (fun _ hk => hk.2.2.2.2)))
                           replace HO286 := Aside0.mk (Kd.R_after (ok := (fun k_ => some k_ ≠ (v288 : Value).ownBlock ∧ some k_ ≠ (.slice Ao150 y290.length co150 : Value).ownBlock ∧ k_ ≠ gb280 ∧ k_ ≠ gb283)) (by (with_reducible repeat (first | apply Kd.R_alloc | apply Kd.R_drewN | apply Kd.R_drew)); exact Kd.R_mono HO286.out (fun _ hk => ⟨⟨hk.1, ⟨hk.2.1, ⟨hk.2.2.2.1, hk.2.2.2.2⟩⟩⟩, hk.2.2.1⟩)) hg hat)
                           replace HO289 := Aside0.mk (Kd.R_after (ok := (fun k_ => some k_ ≠ (v285 : Value).ownBlock ∧ some k_ ≠ (.slice Ao150 y290.length co150 : Value).ownBlock ∧ k_ ≠ gb280 ∧ k_ ≠ gb283)) (by (with_reducible repeat (first | apply Kd.R_alloc | apply Kd.R_drewN | apply Kd.R_drew)); exact Kd.R_mono HO289.out (fun _ hk => ⟨⟨hk.1, ⟨hk.2.1, ⟨hk.2.2.2.1, hk.2.2.2.2⟩⟩⟩, hk.2.2.1⟩)) hg hat)
                           replace HO292 := Aside0.mk (Kd.R_after (ok := (fun k_ => some k_ ≠ (v285 : Value).ownBlock ∧ some k_ ≠ (v288 : Value).ownBlock ∧ k_ ≠ gb280 ∧ k_ ≠ gb283)) (by (with_reducible repeat (first | apply Kd.R_alloc | apply Kd.R_drewN | apply Kd.R_drew)); exact Kd.R_mono HO292.out (fun _ hk => ⟨⟨hk.1, ⟨hk.2.1, ⟨hk.2.2.2.1, hk.2.2.2.2⟩⟩⟩, hk.2.2.1⟩)) hg hat)
                           replace HB := Aside0.mk (hb)
                           have HO295 := Aside0.mk (ho)
                           clear HO_272001
                           clear ho hb hg hat
                           obtain ⟨Ao151, co151, eo151⟩ := Kd.R_slice HO289.out
                           (first | subst eo151 | (injection eo151 with f1_ f2_ f3_; have f4_ := f1_.symm; have f5_ := f3_.symm; clear f1_ f2_ f3_; subst f4_; subst f5_))
                           obtain ⟨Ao153, co153, eo153⟩ := Kd.R_slice HO295.out
                           (first | subst eo153 | (injection eo153 with f1_ f2_ f3_; have f4_ := f1_.symm; have f5_ := f3_.symm; clear f1_ f2_ f3_; subst f4_; subst f5_))
                           refine hK.out _ _ ⟨(blk_cell BK271.out 0).trans rfl, (blk_cell BK271.out 1).trans rfl, (blk_cell BK280.out 0).trans rfl, (blk_cell BK280.out 1).trans rfl, (blk_cell BK283.out 0).trans rfl, (blk_cell BK283.out 1).trans rfl⟩ (fun hHeld => ?_)
                           clear hK K
                           refine norm_ (a' := ?_) ?_ ?_
                           rotate_left
                           ·
                            show Act.put _ (some 133) _ = _
                            simp only [Act.put, List.setIfInBounds_toArray, List.set_cons_zero, List.set_cons_succ, i64_w, i32_w]
                            rfl
                           refine last_ (i := 11) (N := none) #[true, true, true, true, true, true, true, true, true, true, true, true, false, false] rfl rfl (one_of HT_.out (by kernel_rfl)) (by decide) (fun K hK => ?_)
                           have hs152 : w149.cell? ⟨gb271, 0, none⟩ = some (.slice Ao139 x272000_3.length co139) := (blk_cell BK271.out 0).trans rfl
                           have hfs152 := blk_frozen BK271.out 0
                           have hns152_0 := NB251_271.out
                           have hns152_1 := NB252_271.out
                           have hns152_3 := NB280_271.out
                           have hns152_4 := NB283_271.out
                           have hms152_0 := NB271_251.out
                           have hms152_1 := NB271_252.out
                           have hms152_3 := NB271_280.out
                           have hms152_4 := NB271_283.out
                           refine skip_ (w1 := ?_) (by rfl) rfl ?_ ?_
                           rotate_left
                           ·
                            go_simp
                            rfl
                           refine hK.out _ _ ?_
                           clear hK K
                           refine pure_ (i := 12) (N := some 135) (v := ?_) (a' := ?_) #[true, true, true, true, true, true, true, true, true, true, true, true, true, false] rfl rfl (any_of HT_.out (by kernel_rfl)) (fun _ _ _ h => h) (Or.inl ⟨by rfl, ?_⟩) ?_ ?_
                           rotate_left
                           ·
                            intro w'
                            go_simp
                            with_reducible rfl
                           rotate_left
                           ·
                            simp only [Act.put, List.setIfInBounds_toArray, List.set_cons_zero, List.set_cons_succ, i64_w, i32_w]
                            rfl
                           refine last_ (i := 13) (N := none) #[true, true, true, true, true, true, true, true, true, true, true, true, true, true] rfl rfl (one_of HT_.out (by kernel_rfl)) (by decide) (fun K hK => ?_)
                           have hs154 : w149.cell? ⟨gb271, 1, none⟩ = some (.slice Ao140 x272001_3.length co140) := (blk_cell BK271.out 1).trans rfl
                           have hfs154 := blk_frozen BK271.out 1
                           have hns154_0 := NB251_271.out
                           have hns154_1 := NB252_271.out
                           have hns154_3 := NB280_271.out
                           have hns154_4 := NB283_271.out
                           have hms154_0 := NB271_251.out
                           have hms154_1 := NB271_252.out
                           have hms154_3 := NB271_280.out
                           have hms154_4 := NB271_283.out
                           refine skip_ (w1 := ?_) (by rfl) rfl ?_ ?_
                           rotate_left
                           ·
                            go_simp
                            rfl
                           refine hK.out _ _ ?_
                           clear hK K
                           refine done_ (done_of HT_.out (by kernel_rfl)) ?_
                           try go_wp2
                           go_roundg k4
                           case measure => have := HJ2.out; have := HK2.out; have := HK3.out; have := HK4.out; omega
                           case rel => exact ⟨(wrap64 (x85_3 + 1)), (y287), (y293), (.slice Ao151 y287.length co151), (.slice Ao153 y293.length co153), (by first | rfl | (simp; done) | (simp [wrap64]; done) | (simp [*]; done)), H', ⟨by have := HJ2.out; have := HK2.out; have := HK3.out; have := HK4.out; omega⟩, ⟨by (try simp only [hl6_2]); (with_reducible repeat (first | apply Kd.R_alloc | apply Kd.R_drewN | apply Kd.R_drew)); exact Kd.R_mono (Kd.R_far (p := ⟨gb271, 1, none⟩) (Kd.R_far (p := ⟨gb271, 0, none⟩) (Kd.R_types HO_6.out BK271.out (by decide)) (fun _ hk => hk.2) (.slice Ao151 y287.length co151)) (fun _ hk => hk.2) (.slice Ao153 y293.length co153)) (fun _ hk => trivial)⟩, ⟨by (try simp only [hl6_2]); (with_reducible repeat (first | apply Kd.R_alloc | apply Kd.R_drewN | apply Kd.R_drew)); exact Kd.R_mono (Kd.R_far (p := ⟨gb271, 1, none⟩) (Kd.R_far (p := ⟨gb271, 0, none⟩) (Kd.R_types HO_7.out BK271.out (by decide)) (fun _ hk => hk.2) (.slice Ao151 y287.length co151)) (fun _ hk => hk.2) (.slice Ao153 y293.length co153)) (fun _ hk => trivial)⟩, ⟨by (try simp only [hl6_2]); (with_reducible repeat (first | apply Kd.R_alloc | apply Kd.R_drewN | apply Kd.R_drew)); exact Kd.R_mono (Kd.R_far (p := ⟨gb271, 1, none⟩) (Kd.R_far (p := ⟨gb271, 0, none⟩) (Kd.R_types HO289.out BK271.out (by decide)) (fun _ hk => hk.2) (.slice Ao151 y287.length co151)) (fun _ hk => hk.2) (.slice Ao153 y293.length co153)) (fun _ hk => hk.1.2)⟩, ⟨by (try simp only [hl6_2]); (with_reducible repeat (first | apply Kd.R_alloc | apply Kd.R_drewN | apply Kd.R_drew)); exact Kd.R_mono (Kd.R_far (p := ⟨gb271, 1, none⟩) (Kd.R_far (p := ⟨gb271, 0, none⟩) (Kd.R_types HO295.out BK271.out (by decide)) (fun _ hk => hk.2) (.slice Ao151 y287.length co151)) (fun _ hk => hk.2) (.slice Ao153 y293.length co153)) (fun _ hk => hk.1.2.1)⟩, ⟨by (try simp only [hl6_2]); (with_reducible repeat (first | refine blk_drewN ?_ _ | refine blk_drew ?_ | refine blk_alloc ?_ _)); refine blk_far ?_ NB251_271.out _; (with_reducible repeat (first | refine blk_drewN ?_ _ | refine blk_drew ?_ | refine blk_alloc ?_ _)); refine blk_far ?_ NB251_271.out _; (with_reducible repeat (first | refine blk_drewN ?_ _ | refine blk_drew ?_ | refine blk_alloc ?_ _)); exact BK251.out⟩, ⟨by (try simp only [hl6_2]); (with_reducible repeat (first | refine blk_drewN ?_ _ | refine blk_drew ?_ | refine blk_alloc ?_ _)); refine blk_far ?_ NB252_271.out _; (with_reducible repeat (first | refine blk_drewN ?_ _ | refine blk_drew ?_ | refine blk_alloc ?_ _)); refine blk_far ?_ NB252_271.out _; (with_reducible repeat (first | refine blk_drewN ?_ _ | refine blk_drew ?_ | refine blk_alloc ?_ _)); exact BK252.out⟩, ⟨by (try simp only [hl6_2]); (with_reducible repeat (first | refine blk_drewN ?_ _ | refine blk_drew ?_ | refine blk_alloc ?_ _)); refine blk_put (cs := #[.slice Ao151 y287.length co151, .slice Ao140 x272001_3.length co140]) ?_ 1 _ rfl; (with_reducible repeat (first | refine blk_drewN ?_ _ | refine blk_drew ?_ | refine blk_alloc ?_ _)); refine blk_put (cs := #[.slice Ao139 x272000_3.length co139, .slice Ao140 x272001_3.length co140]) ?_ 0 _ rfl; (with_reducible repeat (first | refine blk_drewN ?_ _ | refine blk_drew ?_ | refine blk_alloc ?_ _)); exact BK271.out⟩, ⟨tB HB.out⟩⟩
                          ·
                           rw [if_neg c138] at H
                           exact absurd H (by simp)
                         ·
                          rw [if_neg c137] at H
                          exact absurd H (by simp)
                     ·
                      rw [if_neg c87] at H
                      exact absurd H (by simp)
                   ·
                    rw [if_neg c79] at H
                    exact absurd H (by simp)
                  ·
                   rw [if_neg c78] at H
                   exact absurd H (by simp)
                 ·
                  rw [if_neg c77] at H
                  exact absurd H (by simp)
                ·
                 rw [if_neg c76] at H
                 have c76b0 : decide (x85_3 < (l0_0.length : Int)) = false := decide_eq_false c76
                 clear c76
                 replace H := Option.bind_eq_some_iff.mp H
                 obtain ⟨⟨t272, t275, t278⟩, A1550, H⟩ := H
                 replace H : (some (t272, t275, t278)) = some (r1, r2, r3) := H
                 have A155 := Aside0.mk A1550
                 clear A1550
                 simp only [Option.some.injEq, Prod.mk.injEq] at H
                 obtain ⟨rfl, rfl, rfl⟩ := H
                 have hnb156 := NB271_251.out
                 have hnc156 := NB251_271.out
                 have hnb157 := NB271_252.out
                 have hnc157 := NB252_271.out
                 obtain ⟨hcz158_0, hfz158_0, hcz158_1, hfz158_1⟩ := cz2 BK271
                 obtain ⟨Ao159, co159, eo159⟩ := Kd.R_slice HO_272000.out
                 subst eo159
                 obtain ⟨Ao160, co160, eo160⟩ := Kd.R_slice HO_272001.out
                 subst eo160
                 go_wp2_with (first | ((with_reducible refine gate_callee (f := 75) rfl ?_); refine goesL_ (some 138) rfl rfl Try.func75 (by kernel_rfl) rfl #[.agg #[.slice Ao159 x272000_3.length co159, .slice Ao160 x272001_3.length co160]] rfl tM ?_; (with_reducible refine (impl_validMobile.calls k3 (fun k_ => some k_ = (.slice Ao159 x272000_3.length co159 : Value).ownBlock) (.slice Ao159 x272000_3.length co159) x272000_3 (fun k_ => some k_ = (.slice Ao160 x272001_3.length co160 : Value).ownBlock) (.slice Ao160 x272001_3.length co160) x272001_3 t272 t275 t278 w _ ?side1 ?side2 ?side3 ?side4 ?side5 A155.out).mono ?_); (case side1 => repeat (first | (with_reducible first | exact HB.out | apply below_alloc | apply pw_below_drewN | apply below_drew1 | refine below_set ?_ GE251.out | refine below_set ?_ GE252.out | refine below_set ?_ GE271.out) | exact HB.out)); (case side2 => exact Kd.R_tight rfl HO_272000.out); (case side3 => exact fun k_ e_ => (HO_272000.out.1 k_ e_.symm)); (case side4 => exact Kd.R_tight rfl HO_272001.out); (case side5 => exact fun k_ e_ => (HO_272001.out.1 k_ e_.symm)); rintro e w161 ⟨v273, v276, rfl, ho0, ho1, hb, hkp⟩; refine ⟨_, rfl, ?_⟩; replace HO_6 := Aside0.mk (Kd.R_mono (ok' := fun k_ => True) (Kd.R_keptB ((Kd.R_apart' (Kd.R_apart' HO_6.out (Kd.R_typed HO_272000.out) (by decide)) (Kd.R_typed HO_272001.out) (by decide))) hkp (fun k_ hk_ hs_ => Or.elim hs_ (fun e_ => (hk_.1.2) e_) (fun e_ => (hk_.2) e_))) (fun k_ hk_ => trivial)); replace HO_7 := Aside0.mk (Kd.R_mono (ok' := fun k_ => True) (Kd.R_keptB ((Kd.R_apart' (Kd.R_apart' HO_7.out (Kd.R_typed HO_272000.out) (by decide)) (Kd.R_typed HO_272001.out) (by decide))) hkp (fun k_ hk_ hs_ => Or.elim hs_ (fun e_ => (hk_.1.2) e_) (fun e_ => (hk_.2) e_))) (fun k_ hk_ => trivial)); replace BK251 := Aside0.mk (blk_kept (tK BK251.out) hkp (fun hs_ => Or.elim hs_ (fun e_ => (fun e_ => (Kd.R_ne HO_272000.out BK251.out (by decide)) e_) e_) (fun e_ => (fun e_ => (Kd.R_ne HO_272001.out BK251.out (by decide)) e_) e_))); replace BK252 := Aside0.mk (blk_kept (tK BK252.out) hkp (fun hs_ => Or.elim hs_ (fun e_ => (fun e_ => (Kd.R_ne HO_272000.out BK252.out (by decide)) e_) e_) (fun e_ => (fun e_ => (Kd.R_ne HO_272001.out BK252.out (by decide)) e_) e_))); replace BK271 := Aside0.mk (blk_kept (tK BK271.out) hkp (fun hs_ => Or.elim hs_ (fun e_ => (fun e_ => (Kd.R_ne HO_272000.out BK271.out (by decide)) e_) e_) (fun e_ => (fun e_ => (Kd.R_ne HO_272001.out BK271.out (by decide)) e_) e_))); have HO274 := Aside0.mk (Kd.R_mono (ok' := fun k_ => some k_ ≠ (v276 : Value).ownBlock) ho0 (fun k_ hk_ => hk_.2)); have HO277 := Aside0.mk (Kd.R_mono (ok' := fun k_ => some k_ ≠ (v273 : Value).ownBlock) ho1 (fun k_ hk_ => hk_.2)); replace HB := Aside0.mk (hb); clear HO_272000; clear HO_272001; (try clear hb); (try clear hkp); (try clear ho0); (try clear ho1); obtain ⟨Ao162, co162, eo162⟩ := Kd.R_slice HO274.out; subst eo162; have hnb163 := NB252_251.out; have hnc163 := NB251_252.out; obtain ⟨hcz164_0, hfz164_0, hcz164_1, hfz164_1⟩ := cz2 BK252; obtain ⟨Ao165, co165, eo165⟩ := Kd.R_slice HO277.out; subst eo165))
                 refine bodyPost_ret (results_ct rfl _ _ gb252 27 #[.slice Ao162 t272.length co162, .slice Ao165 t275.length co165] (0, 0) _ rfl (by (with_reducible repeat (first | refine blk_drewN ?_ _ | refine blk_drew ?_ | refine blk_alloc ?_ _)); refine blk_put (cs := #[.slice Ao162 t272.length co162, .slice none 0 0]) ?_ 1 _ rfl; (with_reducible repeat (first | refine blk_drewN ?_ _ | refine blk_drew ?_ | refine blk_alloc ?_ _)); refine blk_put (cs := #[.slice none 0 0, .slice none 0 0]) ?_ 0 _ rfl; (with_reducible repeat (first | refine blk_drewN ?_ _ | refine blk_drew ?_ | refine blk_alloc ?_ _)); exact BK252.out) Try.underlying27 rfl (by kernel_rfl)) rfl ?_
                 exact ⟨_, _, by first | rfl | (simp [errW_none, errW_some] <;> rfl) | (simp [*, errW_none, errW_some] <;> rfl), by (with_reducible repeat (first | apply Kd.R_alloc | apply Kd.R_drewN | apply Kd.R_drew)); exact Kd.R_mono (Kd.R_far (p := ⟨gb252, 1, none⟩) (Kd.R_far (p := ⟨gb252, 0, none⟩) (Kd.R_types HO274.out BK252.out (by decide)) (fun _ hk => hk.2) (.slice Ao162 t272.length co162)) (fun _ hk => hk.2) (.slice Ao165 t275.length co165)) (fun _ hk => hk.1), by (with_reducible repeat (first | apply Kd.R_alloc | apply Kd.R_drewN | apply Kd.R_drew)); exact Kd.R_mono (Kd.R_far (p := ⟨gb252, 1, none⟩) (Kd.R_far (p := ⟨gb252, 0, none⟩) (Kd.R_types HO277.out BK252.out (by decide)) (fun _ hk => hk.2) (.slice Ao162 t272.length co162)) (fun _ hk => hk.2) (.slice Ao165 t275.length co165)) (fun _ hk => hk.1), tB HB.out⟩
             ·
              rw [if_neg c66] at H
              exact absurd H (by simp)
            ·
             rw [if_neg c65] at H
             exact absurd H (by simp)
        ·
         rw [if_neg c24] at H
         exact absurd H (by simp)
       ·
        rw [if_neg c22] at H
        exact absurd H (by simp)
      ·
       rw [if_neg c21] at H
       exact absurd H (by simp)
     ·
      rw [if_neg c20] at H
      exact absurd H (by simp)
    ·
     rw [if_neg c19] at H
     exact absurd H (by simp)

end Go.Proofs.Ytbdajkfihbaapaa.PFnExactCutRod

/- Printed by the program print2.py over the translation: each function as a Lean function, and the proof that the call comes to its answer. -/
import Derived.Test.YtigijeedekjeiaaPFnExactShiftPilex0
import Derived.Test.YtigijeedekjeiaaPFnExactShiftPilex1
import Derived.Test.YtigijeedekjeiaaPFnExactShiftPilex4
import Derived.Test.YtigijeedekjeiaaPFnExactShiftPilex5
namespace Go.Proofs.Ytigijeedekjeiaa.PFnExactShiftPile
open Go.RowKit Go.Proofs.YtigijeedekjeiaaW.PrintWords Go.Proofs.YtigijeedekjeiaaW.PrintLast Go.Proofs.YtigijeedekjeiaaW.PrintMore
attribute [local go_sem] max2_int min2_int max_two min_two max_three min_three max_four min_four   -- for this text's walks alone
set_option linter.unusedVariables false
set_option linter.unusedSimpArgs false

/-! ### laws_FnExactShiftPile: function 12 -/
mutual
def laws_FnExactShiftPile.j0 : Nat → Int → Bool → Bool → Bool → Int → List Int → List Int → Int → List Int → List Int → Int → List Int → List Int → Int → List Int → List Int → Option (Bool)
 | 0, _, _, _, _, _, _, _, _, _, _, _, _, _, _, _, _ => none
 | k + 1, x1, x7, x10, x44, x231000, x231001, x231002, x248000, x248001, x248002, x256000, x256001, x256002, x265000, x265001, x265002 => if x44 = true then (some false) else ((laws_toPile.f k x231000 x231001 x231002).bind fun bt266 => ((laws_eqPile.f k x256000 x256001 x256002 bt266.1 bt266.2.1 bt266.2.2).bind fun t273 => (if t273 = true then ((laws_markPile.f k x256000 x256001 x256002 1).bind fun bt274 => (if bt274.1 < 0 then (laws_FnExactShiftPile.j1 k x1 x7 true x231000 x231001 x231002 x248000 x248001 x248002 x265000 x265001 x265002) else ((laws_eqPile.f k x265000 x265001 x265002 x248000 x248001 x248002).bind fun t277 => (if t277 = true then (laws_FnExactShiftPile.j1 k x1 x7 (x10 != x7) x231000 x231001 x231002 x248000 x248001 x248002 x265000 x265001 x265002) else (laws_FnExactShiftPile.j1 k x1 x7 true x231000 x231001 x231002 x248000 x248001 x248002 x265000 x265001 x265002))))) else (some false))))
def laws_FnExactShiftPile.j1 : Nat → Int → Bool → Bool → Int → List Int → List Int → Int → List Int → List Int → Int → List Int → List Int → Option (Bool)
 | 0, _, _, _, _, _, _, _, _, _, _, _, _ => none
 | k + 1, x1, x7, x65, x231000, x231001, x231002, x248000, x248001, x248002, x265000, x265001, x265002 => if x65 = true then (some false) else ((laws_markPile.f k x265000 x265001 x265002 1).bind fun bt278 => ((laws_heldPile.f k x265000 bt278.2.1 bt278.2.2 1).bind fun t281 => (if t281 < 0 then (some false) else (if t281 = bt278.1 then ((laws_toPile.f k x231000 x231001 x231002).bind fun bt282 => ((impl_ShiftPile.f k bt282.1 bt282.2.1 bt282.2.2 x1).bind fun bt289 => ((laws_eqPile.f k bt289.1 bt289.2.1 bt289.2.2.1 x248000 x248001 x248002).bind fun t298 => (if t298 = true then (laws_FnExactShiftPile.j2 k bt278.1 (bt289.2.2.2 != x7) x265000 bt278.2.1 bt278.2.2) else (laws_FnExactShiftPile.j2 k bt278.1 true x265000 bt278.2.1 bt278.2.2))))) else (some false)))))
def laws_FnExactShiftPile.j2 : Nat → Int → Bool → Int → List Int → List Int → Option (Bool)
 | 0, _, _, _, _, _ => none
 | k + 1, x12, x92, x265000, x265001, x265002 => if x92 = true then (some false) else ((laws_heldPile.f k x265000 x265001 x265002 1).bind fun t299 => (if t299 < 0 then (some false) else (if t299 = x12 then (some true) else (some false))))
end
def laws_FnExactShiftPile.f (k : Nat) (a0_0 : Int) (l0_1 : List Int) (l0_2 : List Int) (a1 : Int) : Option (Bool) := (laws_szPile.f a0_0 l0_1 l0_2 1048576).bind fun t231 => (if t231 < 0 then (some true) else ((laws_toPile.f k a0_0 l0_1 l0_2).bind fun bt232 => ((spec_ShiftPile.f k bt232.1 bt232.2.1 bt232.2.2 a1).bind fun bt239 => ((laws_toPile.f k a0_0 l0_1 l0_2).bind fun bt248 => ((impl_ShiftPile.f k bt248.1 bt248.2.1 bt248.2.2 a1).bind fun bt256 => ((laws_eqPile.f k bt256.1 bt256.2.1 bt256.2.2.1 bt239.1 bt239.2.1 bt239.2.2.1).bind fun t265 => (if t265 = true then (laws_FnExactShiftPile.j0 k a1 bt239.2.2.2 bt256.2.2.2 (bt256.2.2.2 != bt239.2.2.2) a0_0 l0_1 l0_2 bt239.1 bt239.2.1 bt239.2.2.1 bt248.1 bt248.2.1 bt248.2.2 bt256.1 bt256.2.1 bt256.2.2.1) else (laws_FnExactShiftPile.j0 k a1 bt239.2.2.2 bt256.2.2.2 true a0_0 l0_1 l0_2 bt239.1 bt239.2.1 bt239.2.2.1 bt248.1 bt248.2.1 bt248.2.2 bt256.1 bt256.2.1 bt256.2.2.1))))))))
theorem laws_FnExactShiftPile.mono_l : ∀ k, (∀ y0 y1 y2 y3 y4 y5 y6 y7 y8 y9 y10 y11 y12 y13 y14 y15, LeO (laws_FnExactShiftPile.j0 k y0 y1 y2 y3 y4 y5 y6 y7 y8 y9 y10 y11 y12 y13 y14 y15) (laws_FnExactShiftPile.j0 (k + 1) y0 y1 y2 y3 y4 y5 y6 y7 y8 y9 y10 y11 y12 y13 y14 y15)) ∧ (∀ y0 y1 y2 y3 y4 y5 y6 y7 y8 y9 y10 y11, LeO (laws_FnExactShiftPile.j1 k y0 y1 y2 y3 y4 y5 y6 y7 y8 y9 y10 y11) (laws_FnExactShiftPile.j1 (k + 1) y0 y1 y2 y3 y4 y5 y6 y7 y8 y9 y10 y11)) ∧ (∀ y0 y1 y2 y3 y4, LeO (laws_FnExactShiftPile.j2 k y0 y1 y2 y3 y4) (laws_FnExactShiftPile.j2 (k + 1) y0 y1 y2 y3 y4))
 | 0 => ⟨fun _ _ _ _ _ _ _ _ _ _ _ _ _ _ _ _ r h => by simp [laws_FnExactShiftPile.j0] at h, fun _ _ _ _ _ _ _ _ _ _ _ _ r h => by simp [laws_FnExactShiftPile.j1] at h, fun _ _ _ _ _ r h => by simp [laws_FnExactShiftPile.j2] at h⟩
 | k + 1 => by
  obtain ⟨ih0, ih1, ih2⟩ := laws_FnExactShiftPile.mono_l k
  refine ⟨?_, ?_, ?_⟩
  ·
   intro y0 y1 y2 y3 y4 y5 y6 y7 y8 y9 y10 y11 y12 y13 y14 y15
   unfold laws_FnExactShiftPile.j0
   repeat' first
   | (with_reducible exact ih0 _ _ _ _ _ _ _ _ _ _ _ _ _ _ _ _)
   | (with_reducible exact ih1 _ _ _ _ _ _ _ _ _ _ _ _)
   | (with_reducible exact ih2 _ _ _ _ _)
   | (with_reducible exact impl_ShiftPile.mono _ _ _ _ _)
   | (with_reducible exact laws_eqPile.mono _ _ _ _ _ _ _)
   | (with_reducible exact laws_heldPile.mono _ _ _ _ _)
   | (with_reducible exact laws_markPile.mono _ _ _ _ _)
   | (with_reducible exact laws_toPile.mono _ _ _ _)
   | (with_reducible exact spec_ShiftPile.mono _ _ _ _ _)
   | (with_reducible exact LeO.refl _)
   | (with_reducible exact LeO.none _)
   | (with_reducible refine LeO.ite ?_ ?_)
   | (with_reducible refine LeO.bind ?_ (fun _ => ?_))
   | exact ih0 _ _ _ _ _ _ _ _ _ _ _ _ _ _ _ _
   | exact ih1 _ _ _ _ _ _ _ _ _ _ _ _
   | exact ih2 _ _ _ _ _
   | exact impl_ShiftPile.mono _ _ _ _ _
   | exact laws_eqPile.mono _ _ _ _ _ _ _
   | exact laws_heldPile.mono _ _ _ _ _
   | exact laws_markPile.mono _ _ _ _ _
   | exact laws_toPile.mono _ _ _ _
   | exact spec_ShiftPile.mono _ _ _ _ _
   | exact LeO.none _
   | refine LeO.ite ?_ ?_
   | refine LeO.bind ?_ (fun _ => ?_)
  ·
   intro y0 y1 y2 y3 y4 y5 y6 y7 y8 y9 y10 y11
   unfold laws_FnExactShiftPile.j1
   repeat' first
   | (with_reducible exact ih0 _ _ _ _ _ _ _ _ _ _ _ _ _ _ _ _)
   | (with_reducible exact ih1 _ _ _ _ _ _ _ _ _ _ _ _)
   | (with_reducible exact ih2 _ _ _ _ _)
   | (with_reducible exact impl_ShiftPile.mono _ _ _ _ _)
   | (with_reducible exact laws_eqPile.mono _ _ _ _ _ _ _)
   | (with_reducible exact laws_heldPile.mono _ _ _ _ _)
   | (with_reducible exact laws_markPile.mono _ _ _ _ _)
   | (with_reducible exact laws_toPile.mono _ _ _ _)
   | (with_reducible exact spec_ShiftPile.mono _ _ _ _ _)
   | (with_reducible exact LeO.refl _)
   | (with_reducible exact LeO.none _)
   | (with_reducible refine LeO.ite ?_ ?_)
   | (with_reducible refine LeO.bind ?_ (fun _ => ?_))
   | exact ih0 _ _ _ _ _ _ _ _ _ _ _ _ _ _ _ _
   | exact ih1 _ _ _ _ _ _ _ _ _ _ _ _
   | exact ih2 _ _ _ _ _
   | exact impl_ShiftPile.mono _ _ _ _ _
   | exact laws_eqPile.mono _ _ _ _ _ _ _
   | exact laws_heldPile.mono _ _ _ _ _
   | exact laws_markPile.mono _ _ _ _ _
   | exact laws_toPile.mono _ _ _ _
   | exact spec_ShiftPile.mono _ _ _ _ _
   | exact LeO.none _
   | refine LeO.ite ?_ ?_
   | refine LeO.bind ?_ (fun _ => ?_)
  ·
   intro y0 y1 y2 y3 y4
   unfold laws_FnExactShiftPile.j2
   repeat' first
   | (with_reducible exact ih0 _ _ _ _ _ _ _ _ _ _ _ _ _ _ _ _)
   | (with_reducible exact ih1 _ _ _ _ _ _ _ _ _ _ _ _)
   | (with_reducible exact ih2 _ _ _ _ _)
   | (with_reducible exact impl_ShiftPile.mono _ _ _ _ _)
   | (with_reducible exact laws_eqPile.mono _ _ _ _ _ _ _)
   | (with_reducible exact laws_heldPile.mono _ _ _ _ _)
   | (with_reducible exact laws_markPile.mono _ _ _ _ _)
   | (with_reducible exact laws_toPile.mono _ _ _ _)
   | (with_reducible exact spec_ShiftPile.mono _ _ _ _ _)
   | (with_reducible exact LeO.refl _)
   | (with_reducible exact LeO.none _)
   | (with_reducible refine LeO.ite ?_ ?_)
   | (with_reducible refine LeO.bind ?_ (fun _ => ?_))
   | exact ih0 _ _ _ _ _ _ _ _ _ _ _ _ _ _ _ _
   | exact ih1 _ _ _ _ _ _ _ _ _ _ _ _
   | exact ih2 _ _ _ _ _
   | exact impl_ShiftPile.mono _ _ _ _ _
   | exact laws_eqPile.mono _ _ _ _ _ _ _
   | exact laws_heldPile.mono _ _ _ _ _
   | exact laws_markPile.mono _ _ _ _ _
   | exact laws_toPile.mono _ _ _ _
   | exact spec_ShiftPile.mono _ _ _ _ _
   | exact LeO.none _
   | refine LeO.ite ?_ ?_
   | refine LeO.bind ?_ (fun _ => ?_)
theorem laws_FnExactShiftPile.mono : ∀ a0 a1 a2 a3 k, LeO (laws_FnExactShiftPile.f k a0 a1 a2 a3) (laws_FnExactShiftPile.f (k + 1) a0 a1 a2 a3) := by
 intro a0 a1 a2 a3 k
 obtain ⟨ih0, ih1, ih2⟩ := laws_FnExactShiftPile.mono_l k
 unfold laws_FnExactShiftPile.f
 repeat' first
   | (with_reducible exact ih0 _ _ _ _ _ _ _ _ _ _ _ _ _ _ _ _)
   | (with_reducible exact ih1 _ _ _ _ _ _ _ _ _ _ _ _)
   | (with_reducible exact ih2 _ _ _ _ _)
   | (with_reducible exact impl_ShiftPile.mono _ _ _ _ _)
   | (with_reducible exact laws_eqPile.mono _ _ _ _ _ _ _)
   | (with_reducible exact laws_heldPile.mono _ _ _ _ _)
   | (with_reducible exact laws_markPile.mono _ _ _ _ _)
   | (with_reducible exact laws_toPile.mono _ _ _ _)
   | (with_reducible exact spec_ShiftPile.mono _ _ _ _ _)
   | (with_reducible exact LeO.refl _)
   | (with_reducible exact LeO.none _)
   | (with_reducible refine LeO.ite ?_ ?_)
   | (with_reducible refine LeO.bind ?_ (fun _ => ?_))
   | exact ih0 _ _ _ _ _ _ _ _ _ _ _ _ _ _ _ _
   | exact ih1 _ _ _ _ _ _ _ _ _ _ _ _
   | exact ih2 _ _ _ _ _
   | exact impl_ShiftPile.mono _ _ _ _ _
   | exact laws_eqPile.mono _ _ _ _ _ _ _
   | exact laws_heldPile.mono _ _ _ _ _
   | exact laws_markPile.mono _ _ _ _ _
   | exact laws_toPile.mono _ _ _ _
   | exact spec_ShiftPile.mono _ _ _ _ _
   | exact LeO.none _
   | refine LeO.ite ?_ ?_
   | refine LeO.bind ?_ (fun _ => ?_)
set_option maxHeartbeats 8000000 in
set_option maxRecDepth 100000 in
theorem laws_FnExactShiftPile.calls (k : Nat) (a0_0 : Int) (A0_1 : Option Addr) (c0_1 : Nat) (l0_1 : List Int) (A0_2 : Option Addr) (c0_2 : Nat) (l0_2 : List Int) (a1 : Int) (r : Bool) (w : World) (hr0_1 : Kd.C (Kd.int .i64) w A0_1 l0_1.length l0_1) (hc0_1 : l0_1.length ≤ c0_1) (hr0_2 : Kd.C (Kd.int .i64) w A0_2 l0_2.length l0_2) (hc0_2 : l0_2.length ≤ c0_2) (h : laws_FnExactShiftPile.f k a0_0 l0_1 l0_2 a1 = some r) :
  Calls Try.prog 12 #[.agg #[.int .i64 a0_0, .slice A0_1 l0_1.length c0_1, .slice A0_2 l0_2.length c0_2], .int .i64 a1] w fun e w' => e = .returned (.bool r) ∧ Below w.heap.size w w' := by
 have hu24 := Try.underlying24
 have hu28 := Try.underlying28
 have HR0_1 := Aside0.mk hr0_1
 have HC0_1 := Aside0.mk hc0_1
 clear hr0_1 hc0_1
 have HR0_2 := Aside0.mk hr0_2
 have HC0_2 := Aside0.mk hc0_2
 clear hr0_2 hc0_2
 have HB := Aside0.mk (Below.refl w.heap.size w)
 have H : ((laws_szPile.f a0_0 l0_1 l0_2 1048576).bind fun t231 => (if t231 < 0 then (some true) else ((laws_toPile.f k a0_0 l0_1 l0_2).bind fun bt232 => ((spec_ShiftPile.f k bt232.1 bt232.2.1 bt232.2.2 a1).bind fun bt239 => ((laws_toPile.f k a0_0 l0_1 l0_2).bind fun bt248 => ((impl_ShiftPile.f k bt248.1 bt248.2.1 bt248.2.2 a1).bind fun bt256 => ((laws_eqPile.f k bt256.1 bt256.2.1 bt256.2.2.1 bt239.1 bt239.2.1 bt239.2.2.1).bind fun t265 => (if t265 = true then (laws_FnExactShiftPile.j0 k a1 bt239.2.2.2 bt256.2.2.2 (bt256.2.2.2 != bt239.2.2.2) a0_0 l0_1 l0_2 bt239.1 bt239.2.1 bt239.2.2.1 bt248.1 bt248.2.1 bt248.2.2 bt256.1 bt256.2.1 bt256.2.2.1) else (laws_FnExactShiftPile.j0 k a1 bt239.2.2.2 bt256.2.2.2 true a0_0 l0_1 l0_2 bt239.1 bt239.2.1 bt239.2.2.1 bt248.1 bt248.2.1 bt248.2.2 bt256.1 bt256.2.1 bt256.2.2.1))))))))) = some r := h
 clear h
 replace H := Option.bind_eq_some_iff.mp H
 obtain ⟨t231, A30, H⟩ := H
 replace H : (if t231 < 0 then (some true) else ((laws_toPile.f k a0_0 l0_1 l0_2).bind fun bt232 => ((spec_ShiftPile.f k bt232.1 bt232.2.1 bt232.2.2 a1).bind fun bt239 => ((laws_toPile.f k a0_0 l0_1 l0_2).bind fun bt248 => ((impl_ShiftPile.f k bt248.1 bt248.2.1 bt248.2.2 a1).bind fun bt256 => ((laws_eqPile.f k bt256.1 bt256.2.1 bt256.2.2.1 bt239.1 bt239.2.1 bt239.2.2.1).bind fun t265 => (if t265 = true then (laws_FnExactShiftPile.j0 k a1 bt239.2.2.2 bt256.2.2.2 (bt256.2.2.2 != bt239.2.2.2) a0_0 l0_1 l0_2 bt239.1 bt239.2.1 bt239.2.2.1 bt248.1 bt248.2.1 bt248.2.2 bt256.1 bt256.2.1 bt256.2.2.1) else (laws_FnExactShiftPile.j0 k a1 bt239.2.2.2 bt256.2.2.2 true a0_0 l0_1 l0_2 bt239.1 bt239.2.1 bt239.2.2.1 bt248.1 bt248.2.1 bt248.2.2 bt256.1 bt256.2.1 bt256.2.2.1)))))))) = some r := H
 have A3 := Aside0.mk A30
 clear A30
 by_cases c4 : t231 < 0
 ·
  rw [if_pos c4] at H
  have c4b0 : decide (t231 < 0) = true := decide_eq_true c4
  clear c4
  obtain rfl := Option.some.inj H
  go_enter Try.func12, Try.ntmps12
  go_wp2_with (first | ((with_reducible refine gate_dst (N := 2) rfl ?_); refine box_event ?hg (N := 2) ?hd (cs := #[.int .i64 a0_0, .slice A0_1 l0_1.length c0_1, .slice A0_2 l0_2.length c0_2]) (t := 24) ?hr ?_; (case hd => rfl); (case hg => rfl); (case hr => first | (go_simp; done) | (go_simp; rfl)); intro gb230 hg w5 hbox hb; have BK230 := Aside0.mk (hbox); have GW230 := Aside0.mk (bS HB.out hg); have GE230 := Aside0.mk (bS HB.out hg); replace HB := Aside0.mk (below_step (tB HB.out) hb); clear hb hbox hg; obtain ⟨hcz6_0, hfz6_0, hcz6_1, hfz6_1, hcz6_2, hfz6_2⟩ := cz3 BK230) | ((with_reducible refine gate_callee (f := 15) rfl ?_); refine goesL_ (some 18) rfl rfl Try.func15 (by kernel_rfl) rfl #[.agg #[.int .i64 a0_0, .slice A0_1 l0_1.length c0_1, .slice A0_2 l0_2.length c0_2], .int .i64 1048576] rfl tM ?_; (with_reducible refine (laws_szPile.calls a0_0 _ _ l0_1 _ _ l0_2 1048576 t231 _ ?side1 ?side2 ?side3 ?side4 A3.out).mono ?_); (case side1 => exact tC (Kd.C_below HR0_1.out HB.out)); (case side2 => exact HC0_1.out); (case side3 => exact tC (Kd.C_below HR0_2.out HB.out)); (case side4 => exact HC0_2.out); rintro e w7 ⟨rfl, hb⟩; refine ⟨_, rfl, ?_⟩; replace BK230 := bkB BK230 hb; replace HB := Aside0.mk (below_step (tB HB.out) hb); (try clear hb); (try clear hb2); (try clear hk); (try clear hi)))
  go_ret
  exact ⟨by first | rfl | (simp [errW_none, errW_some] <;> rfl) | (simp [*, errW_none, errW_some] <;> rfl), tB HB.out⟩
 ·
  rw [if_neg c4] at H
  have c4b0 : decide (t231 < 0) = false := decide_eq_false c4
  clear c4
  replace H := Option.bind_eq_some_iff.mp H
  obtain ⟨⟨t232, t233, t236⟩, A80, H⟩ := H
  replace H : ((spec_ShiftPile.f k t232 t233 t236 a1).bind fun bt239 => ((laws_toPile.f k a0_0 l0_1 l0_2).bind fun bt248 => ((impl_ShiftPile.f k bt248.1 bt248.2.1 bt248.2.2 a1).bind fun bt256 => ((laws_eqPile.f k bt256.1 bt256.2.1 bt256.2.2.1 bt239.1 bt239.2.1 bt239.2.2.1).bind fun t265 => (if t265 = true then (laws_FnExactShiftPile.j0 k a1 bt239.2.2.2 bt256.2.2.2 (bt256.2.2.2 != bt239.2.2.2) a0_0 l0_1 l0_2 bt239.1 bt239.2.1 bt239.2.2.1 bt248.1 bt248.2.1 bt248.2.2 bt256.1 bt256.2.1 bt256.2.2.1) else (laws_FnExactShiftPile.j0 k a1 bt239.2.2.2 bt256.2.2.2 true a0_0 l0_1 l0_2 bt239.1 bt239.2.1 bt239.2.2.1 bt248.1 bt248.2.1 bt248.2.2 bt256.1 bt256.2.1 bt256.2.2.1)))))) = some r := H
  have A8 := Aside0.mk A80
  clear A80
  replace H := Option.bind_eq_some_iff.mp H
  obtain ⟨⟨t239, t240, t243, t246⟩, A90, H⟩ := H
  replace H : ((laws_toPile.f k a0_0 l0_1 l0_2).bind fun bt248 => ((impl_ShiftPile.f k bt248.1 bt248.2.1 bt248.2.2 a1).bind fun bt256 => ((laws_eqPile.f k bt256.1 bt256.2.1 bt256.2.2.1 t239 t240 t243).bind fun t265 => (if t265 = true then (laws_FnExactShiftPile.j0 k a1 t246 bt256.2.2.2 (bt256.2.2.2 != t246) a0_0 l0_1 l0_2 t239 t240 t243 bt248.1 bt248.2.1 bt248.2.2 bt256.1 bt256.2.1 bt256.2.2.1) else (laws_FnExactShiftPile.j0 k a1 t246 bt256.2.2.2 true a0_0 l0_1 l0_2 t239 t240 t243 bt248.1 bt248.2.1 bt248.2.2 bt256.1 bt256.2.1 bt256.2.2.1))))) = some r := H
  have A9 := Aside0.mk A90
  clear A90
  replace H := Option.bind_eq_some_iff.mp H
  obtain ⟨⟨t248, t249, t252⟩, A100, H⟩ := H
  replace H : ((impl_ShiftPile.f k t248 t249 t252 a1).bind fun bt256 => ((laws_eqPile.f k bt256.1 bt256.2.1 bt256.2.2.1 t239 t240 t243).bind fun t265 => (if t265 = true then (laws_FnExactShiftPile.j0 k a1 t246 bt256.2.2.2 (bt256.2.2.2 != t246) a0_0 l0_1 l0_2 t239 t240 t243 t248 t249 t252 bt256.1 bt256.2.1 bt256.2.2.1) else (laws_FnExactShiftPile.j0 k a1 t246 bt256.2.2.2 true a0_0 l0_1 l0_2 t239 t240 t243 t248 t249 t252 bt256.1 bt256.2.1 bt256.2.2.1)))) = some r := H
  have A10 := Aside0.mk A100
  clear A100
  replace H := Option.bind_eq_some_iff.mp H
  obtain ⟨⟨t256, t257, t260, t263⟩, A110, H⟩ := H
  replace H : ((laws_eqPile.f k t256 t257 t260 t239 t240 t243).bind fun t265 => (if t265 = true then (laws_FnExactShiftPile.j0 k a1 t246 t263 (t263 != t246) a0_0 l0_1 l0_2 t239 t240 t243 t248 t249 t252 t256 t257 t260) else (laws_FnExactShiftPile.j0 k a1 t246 t263 true a0_0 l0_1 l0_2 t239 t240 t243 t248 t249 t252 t256 t257 t260))) = some r := H
  have A11 := Aside0.mk A110
  clear A110
  have HC12 := Aside0.mk H
  clear H
  go_enter Try.func12, Try.ntmps12
  go_upto_region 8 with (first | ((with_reducible refine gate_dst (N := 2) rfl ?_); refine box_event ?hg (N := 2) ?hd (cs := #[.int .i64 a0_0, .slice A0_1 l0_1.length c0_1, .slice A0_2 l0_2.length c0_2]) (t := 24) ?hr ?_; (case hd => rfl); (case hg => rfl); (case hr => first | (go_simp; done) | (go_simp; rfl)); intro gb230 hg w13 hbox hb; have BK230 := Aside0.mk (hbox); have GW230 := Aside0.mk (bS HB.out hg); have GE230 := Aside0.mk (bS HB.out hg); replace HB := Aside0.mk (below_step (tB HB.out) hb); clear hb hbox hg; obtain ⟨hcz14_0, hfz14_0, hcz14_1, hfz14_1, hcz14_2, hfz14_2⟩ := cz3 BK230) | ((with_reducible refine gate_callee (f := 15) rfl ?_); refine goesL_ (some 18) rfl rfl Try.func15 (by kernel_rfl) rfl #[.agg #[.int .i64 a0_0, .slice A0_1 l0_1.length c0_1, .slice A0_2 l0_2.length c0_2], .int .i64 1048576] rfl tM ?_; (with_reducible refine (laws_szPile.calls a0_0 _ _ l0_1 _ _ l0_2 1048576 t231 _ ?side1 ?side2 ?side3 ?side4 A3.out).mono ?_); (case side1 => exact tC (Kd.C_below HR0_1.out HB.out)); (case side2 => exact HC0_1.out); (case side3 => exact tC (Kd.C_below HR0_2.out HB.out)); (case side4 => exact HC0_2.out); rintro e w15 ⟨rfl, hb⟩; refine ⟨_, rfl, ?_⟩; replace BK230 := bkB BK230 hb; replace HB := Aside0.mk (below_step (tB HB.out) hb); (try clear hb); (try clear hb2); (try clear hk); (try clear hi); obtain ⟨hcz16_0, hfz16_0, hcz16_1, hfz16_1, hcz16_2, hfz16_2⟩ := cz3 BK230) | ((with_reducible refine gate_callee (f := 17) rfl ?_); refine goesL_ (some 23) rfl rfl Try.func17 (by kernel_rfl) rfl #[.agg #[.int .i64 a0_0, .slice A0_1 l0_1.length c0_1, .slice A0_2 l0_2.length c0_2]] rfl tM ?_; (with_reducible refine (laws_toPile.calls k a0_0 _ _ l0_1 _ _ l0_2 t232 t233 t236 _ ?side1 ?side2 ?side3 ?side4 A8.out).mono ?_); (case side1 => exact tC (Kd.C_below HR0_1.out HB.out)); (case side2 => exact HC0_1.out); (case side3 => exact tC (Kd.C_below HR0_2.out HB.out)); (case side4 => exact HC0_2.out); rintro e w17 ⟨v234, v237, rfl, ho0, ho1, hb⟩; refine ⟨_, rfl, ?_⟩; have HO235 := Aside0.mk (Kd.R_lower ho0 (below_size (tB HB.out))); have HO238 := Aside0.mk (Kd.R_lower ho1 (below_size (tB HB.out))); replace BK230 := bkB BK230 hb; replace HB := Aside0.mk (below_step (tB HB.out) hb); (try clear hb); (try clear hb2); (try clear hk); (try clear hi); (try clear ho0); (try clear ho1); obtain ⟨Ao18, co18, eo18⟩ := Kd.R_slice HO235.out; subst eo18; obtain ⟨Ao19, co19, eo19⟩ := Kd.R_slice HO238.out; subst eo19) | ((with_reducible refine gate_callee (f := 39) rfl ?_); refine goesL_ (some 25) rfl rfl Try.func39 (by kernel_rfl) rfl #[.agg #[.int .i64 t232, .slice Ao18 t233.length co18, .slice Ao19 t236.length co19], .int .i64 a1] rfl tM ?_; (with_reducible refine (spec_ShiftPile.calls k t232 _ _ t233 _ _ t236 a1 t239 t240 t243 t246 _ ?side1 ?side2 ?side3 ?side4 A9.out).mono ?_); (case side1 => exact tC (Kd.R_reads' HO235.out).2.2); (case side2 => exact (Kd.R_reads' HO235.out).2.1); (case side3 => exact tC (Kd.R_reads' HO238.out).2.2); (case side4 => exact (Kd.R_reads' HO238.out).2.1); rintro e w20 ⟨v241, v244, rfl, ho0, ho1, hb⟩; refine ⟨_, rfl, ?_⟩; have HO242 := Aside0.mk (Kd.R_lower (Kd.R_new' (Kd.R_new' ho0 (Kd.R_lt (tR HO235.out))) (Kd.R_lt (tR HO238.out))) (below_size (tB HB.out))); have HO245 := Aside0.mk (Kd.R_lower (Kd.R_new' (Kd.R_new' ho1 (Kd.R_lt (tR HO235.out))) (Kd.R_lt (tR HO238.out))) (below_size (tB HB.out))); replace HO235 := Aside0.mk (Kd.R_mono (Kd.R_told (Kd.R_told (Kd.R_old (tR HO235.out) hb) (Kd.R_base ho0)) (Kd.R_base ho1)) (fun _ h_ => h_.1)); replace HO238 := Aside0.mk (Kd.R_mono (Kd.R_told (Kd.R_told (Kd.R_old (tR HO238.out) hb) (Kd.R_base ho0)) (Kd.R_base ho1)) (fun _ h_ => h_.1)); replace BK230 := bkB BK230 hb; replace HB := Aside0.mk (below_step (tB HB.out) hb); (try clear hb); (try clear hb2); (try clear hk); (try clear hi); (try clear ho0); (try clear ho1)) | ((with_reducible refine gate_dst (N := 6) rfl ?_); refine box_event ?hg (N := 6) ?hd (cs := #[.int .i64 0, .slice none 0 0, .slice none 0 0]) (t := 28) ?hr ?_; (case hd => rfl); (case hg => rfl); (case hr => first | (go_simp; done) | (go_simp; rfl)); intro gb247 hg w21 hbox hb; replace HO235 := Aside0.mk (Kd.R_below (tR HO235.out) hb); replace HO238 := Aside0.mk (Kd.R_below (tR HO238.out) hb); replace HO242 := Aside0.mk (Kd.R_below (tR HO242.out) hb); replace HO245 := Aside0.mk (Kd.R_below (tR HO245.out) hb); have BK247 := Aside0.mk (hbox); have GW247 := Aside0.mk (bS HB.out hg); have GE247 := Aside0.mk (bS HB.out hg); replace HB := Aside0.mk (below_step (tB HB.out) hb); have NB230_247 := Aside0.mk (nL BK230.out hg); have NB247_230 := Aside0.mk (nG BK230.out hg); replace BK230 := bkB BK230 hb; clear hb hbox hg; have hnb22 := NB247_230.out; have hnc22 := NB230_247.out; obtain ⟨hcz23_0, hfz23_0, hcz23_1, hfz23_1, hcz23_2, hfz23_2⟩ := cz3 BK247; obtain ⟨Ao24, co24, eo24⟩ := Kd.R_slice HO242.out; subst eo24; obtain ⟨Ao25, co25, eo25⟩ := Kd.R_slice HO245.out; subst eo25; obtain ⟨hcz26_0, hfz26_0, hcz26_1, hfz26_1, hcz26_2, hfz26_2⟩ := cz3 BK230) | ((with_reducible refine gate_callee (f := 17) rfl ?_); refine goesL_ (some 29) rfl rfl Try.func17 (by kernel_rfl) rfl #[.agg #[.int .i64 a0_0, .slice A0_1 l0_1.length c0_1, .slice A0_2 l0_2.length c0_2]] rfl tM ?_; (with_reducible refine (laws_toPile.calls k a0_0 _ _ l0_1 _ _ l0_2 t248 t249 t252 _ ?side1 ?side2 ?side3 ?side4 A10.out).mono ?_); (case side1 => exact Kd.C_below HR0_1.out (tB HB.out)); (case side2 => exact HC0_1.out); (case side3 => exact Kd.C_below HR0_2.out (tB HB.out)); (case side4 => exact HC0_2.out); rintro e w27 ⟨v250, v253, rfl, ho0, ho1, hb⟩; refine ⟨_, rfl, ?_⟩; have HO251 := Aside0.mk (Kd.R_lower (Kd.R_new' (Kd.R_new' (Kd.R_new' (Kd.R_new' ho0 (Kd.R_lt (by (with_reducible repeat (first | apply Kd.R_alloc | apply Kd.R_drewN | apply Kd.R_drew)); exact (Kd.R_mono (Kd.R_far (p := ⟨gb247, 2, none⟩) (Kd.R_far (p := ⟨gb247, 1, none⟩) (Kd.R_far (p := ⟨gb247, 0, none⟩) (Kd.R_types HO235.out BK247.out (by decide)) (fun _ hk => hk.2) (.int .i64 t239)) (fun _ hk => hk.2) (.slice Ao24 t240.length co24)) (fun _ hk => hk.2) (.slice Ao25 t243.length co25)) (fun _ h_ => h_.1))))) (Kd.R_lt (by (with_reducible repeat (first | apply Kd.R_alloc | apply Kd.R_drewN | apply Kd.R_drew)); exact (Kd.R_mono (Kd.R_far (p := ⟨gb247, 2, none⟩) (Kd.R_far (p := ⟨gb247, 1, none⟩) (Kd.R_far (p := ⟨gb247, 0, none⟩) (Kd.R_types HO238.out BK247.out (by decide)) (fun _ hk => hk.2) (.int .i64 t239)) (fun _ hk => hk.2) (.slice Ao24 t240.length co24)) (fun _ hk => hk.2) (.slice Ao25 t243.length co25)) (fun _ h_ => h_.1))))) (Kd.R_lt (by (with_reducible repeat (first | apply Kd.R_alloc | apply Kd.R_drewN | apply Kd.R_drew)); exact (Kd.R_mono (Kd.R_far (p := ⟨gb247, 2, none⟩) (Kd.R_far (p := ⟨gb247, 1, none⟩) (Kd.R_far (p := ⟨gb247, 0, none⟩) (Kd.R_types HO242.out BK247.out (by decide)) (fun _ hk => hk.2) (.int .i64 t239)) (fun _ hk => hk.2) (.slice Ao24 t240.length co24)) (fun _ hk => hk.2) (.slice Ao25 t243.length co25)) (fun _ h_ => h_.1))))) (Kd.R_lt (by (with_reducible repeat (first | apply Kd.R_alloc | apply Kd.R_drewN | apply Kd.R_drew)); exact (Kd.R_mono (Kd.R_far (p := ⟨gb247, 2, none⟩) (Kd.R_far (p := ⟨gb247, 1, none⟩) (Kd.R_far (p := ⟨gb247, 0, none⟩) (Kd.R_types HO245.out BK247.out (by decide)) (fun _ hk => hk.2) (.int .i64 t239)) (fun _ hk => hk.2) (.slice Ao24 t240.length co24)) (fun _ hk => hk.2) (.slice Ao25 t243.length co25)) (fun _ h_ => h_.1))))) (below_size (tB HB.out))); have HO254 := Aside0.mk (Kd.R_lower (Kd.R_new' (Kd.R_new' (Kd.R_new' (Kd.R_new' ho1 (Kd.R_lt (by (with_reducible repeat (first | apply Kd.R_alloc | apply Kd.R_drewN | apply Kd.R_drew)); exact (Kd.R_mono (Kd.R_far (p := ⟨gb247, 2, none⟩) (Kd.R_far (p := ⟨gb247, 1, none⟩) (Kd.R_far (p := ⟨gb247, 0, none⟩) (Kd.R_types HO235.out BK247.out (by decide)) (fun _ hk => hk.2) (.int .i64 t239)) (fun _ hk => hk.2) (.slice Ao24 t240.length co24)) (fun _ hk => hk.2) (.slice Ao25 t243.length co25)) (fun _ h_ => h_.1))))) (Kd.R_lt (by (with_reducible repeat (first | apply Kd.R_alloc | apply Kd.R_drewN | apply Kd.R_drew)); exact (Kd.R_mono (Kd.R_far (p := ⟨gb247, 2, none⟩) (Kd.R_far (p := ⟨gb247, 1, none⟩) (Kd.R_far (p := ⟨gb247, 0, none⟩) (Kd.R_types HO238.out BK247.out (by decide)) (fun _ hk => hk.2) (.int .i64 t239)) (fun _ hk => hk.2) (.slice Ao24 t240.length co24)) (fun _ hk => hk.2) (.slice Ao25 t243.length co25)) (fun _ h_ => h_.1))))) (Kd.R_lt (by (with_reducible repeat (first | apply Kd.R_alloc | apply Kd.R_drewN | apply Kd.R_drew)); exact (Kd.R_mono (Kd.R_far (p := ⟨gb247, 2, none⟩) (Kd.R_far (p := ⟨gb247, 1, none⟩) (Kd.R_far (p := ⟨gb247, 0, none⟩) (Kd.R_types HO242.out BK247.out (by decide)) (fun _ hk => hk.2) (.int .i64 t239)) (fun _ hk => hk.2) (.slice Ao24 t240.length co24)) (fun _ hk => hk.2) (.slice Ao25 t243.length co25)) (fun _ h_ => h_.1))))) (Kd.R_lt (by (with_reducible repeat (first | apply Kd.R_alloc | apply Kd.R_drewN | apply Kd.R_drew)); exact (Kd.R_mono (Kd.R_far (p := ⟨gb247, 2, none⟩) (Kd.R_far (p := ⟨gb247, 1, none⟩) (Kd.R_far (p := ⟨gb247, 0, none⟩) (Kd.R_types HO245.out BK247.out (by decide)) (fun _ hk => hk.2) (.int .i64 t239)) (fun _ hk => hk.2) (.slice Ao24 t240.length co24)) (fun _ hk => hk.2) (.slice Ao25 t243.length co25)) (fun _ h_ => h_.1))))) (below_size (tB HB.out))); replace HO235 := Aside0.mk (Kd.R_mono (Kd.R_told (Kd.R_told (Kd.R_old (by (with_reducible repeat (first | apply Kd.R_alloc | apply Kd.R_drewN | apply Kd.R_drew)); exact (Kd.R_mono (Kd.R_far (p := ⟨gb247, 2, none⟩) (Kd.R_far (p := ⟨gb247, 1, none⟩) (Kd.R_far (p := ⟨gb247, 0, none⟩) (Kd.R_types HO235.out BK247.out (by decide)) (fun _ hk => hk.2) (.int .i64 t239)) (fun _ hk => hk.2) (.slice Ao24 t240.length co24)) (fun _ hk => hk.2) (.slice Ao25 t243.length co25)) (fun _ h_ => h_.1))) hb) (Kd.R_base ho0)) (Kd.R_base ho1)) (fun _ h_ => h_.1)); replace HO238 := Aside0.mk (Kd.R_mono (Kd.R_told (Kd.R_told (Kd.R_old (by (with_reducible repeat (first | apply Kd.R_alloc | apply Kd.R_drewN | apply Kd.R_drew)); exact (Kd.R_mono (Kd.R_far (p := ⟨gb247, 2, none⟩) (Kd.R_far (p := ⟨gb247, 1, none⟩) (Kd.R_far (p := ⟨gb247, 0, none⟩) (Kd.R_types HO238.out BK247.out (by decide)) (fun _ hk => hk.2) (.int .i64 t239)) (fun _ hk => hk.2) (.slice Ao24 t240.length co24)) (fun _ hk => hk.2) (.slice Ao25 t243.length co25)) (fun _ h_ => h_.1))) hb) (Kd.R_base ho0)) (Kd.R_base ho1)) (fun _ h_ => h_.1)); replace HO242 := Aside0.mk (Kd.R_mono (Kd.R_told (Kd.R_told (Kd.R_old (by (with_reducible repeat (first | apply Kd.R_alloc | apply Kd.R_drewN | apply Kd.R_drew)); exact (Kd.R_mono (Kd.R_far (p := ⟨gb247, 2, none⟩) (Kd.R_far (p := ⟨gb247, 1, none⟩) (Kd.R_far (p := ⟨gb247, 0, none⟩) (Kd.R_types HO242.out BK247.out (by decide)) (fun _ hk => hk.2) (.int .i64 t239)) (fun _ hk => hk.2) (.slice Ao24 t240.length co24)) (fun _ hk => hk.2) (.slice Ao25 t243.length co25)) (fun _ h_ => h_.1))) hb) (Kd.R_base ho0)) (Kd.R_base ho1)) (fun _ h_ => h_.1)); replace HO245 := Aside0.mk (Kd.R_mono (Kd.R_told (Kd.R_told (Kd.R_old (by (with_reducible repeat (first | apply Kd.R_alloc | apply Kd.R_drewN | apply Kd.R_drew)); exact (Kd.R_mono (Kd.R_far (p := ⟨gb247, 2, none⟩) (Kd.R_far (p := ⟨gb247, 1, none⟩) (Kd.R_far (p := ⟨gb247, 0, none⟩) (Kd.R_types HO245.out BK247.out (by decide)) (fun _ hk => hk.2) (.int .i64 t239)) (fun _ hk => hk.2) (.slice Ao24 t240.length co24)) (fun _ hk => hk.2) (.slice Ao25 t243.length co25)) (fun _ h_ => h_.1))) hb) (Kd.R_base ho0)) (Kd.R_base ho1)) (fun _ h_ => h_.1)); replace BK230 := Aside0.mk (blk_below (g := gb230) (o := .cells #[.int .i64 a0_0, .slice A0_1 l0_1.length c0_1, .slice A0_2 l0_2.length c0_2] 24 (0, 0)) (by (with_reducible repeat (first | refine blk_drewN ?_ _ | refine blk_drew ?_ | refine blk_alloc ?_ _)); refine blk_far ?_ NB230_247.out _; (with_reducible repeat (first | refine blk_drewN ?_ _ | refine blk_drew ?_ | refine blk_alloc ?_ _)); refine blk_far ?_ NB230_247.out _; (with_reducible repeat (first | refine blk_drewN ?_ _ | refine blk_drew ?_ | refine blk_alloc ?_ _)); refine blk_far ?_ NB230_247.out _; (with_reducible repeat (first | refine blk_drewN ?_ _ | refine blk_drew ?_ | refine blk_alloc ?_ _)); exact BK230.out) hb); replace BK247 := Aside0.mk (blk_below (g := gb247) (o := .cells #[.int .i64 t239, .slice Ao24 t240.length co24, .slice Ao25 t243.length co25] 28 (0, 0)) (by (with_reducible repeat (first | refine blk_drewN ?_ _ | refine blk_drew ?_ | refine blk_alloc ?_ _)); refine blk_put (cs := #[.int .i64 t239, .slice Ao24 t240.length co24, .slice none 0 0]) ?_ 2 _ rfl; (with_reducible repeat (first | refine blk_drewN ?_ _ | refine blk_drew ?_ | refine blk_alloc ?_ _)); refine blk_put (cs := #[.int .i64 t239, .slice none 0 0, .slice none 0 0]) ?_ 1 _ rfl; (with_reducible repeat (first | refine blk_drewN ?_ _ | refine blk_drew ?_ | refine blk_alloc ?_ _)); refine blk_put (cs := #[.int .i64 0, .slice none 0 0, .slice none 0 0]) ?_ 0 _ rfl; (with_reducible repeat (first | refine blk_drewN ?_ _ | refine blk_drew ?_ | refine blk_alloc ?_ _)); exact BK247.out) hb); replace HB := Aside0.mk (below_step (tB HB.out) hb); (try clear hb); (try clear hb2); (try clear hk); (try clear hi); (try clear ho0); (try clear ho1)) | ((with_reducible refine gate_dst (N := 8) rfl ?_); refine box_event ?hg (N := 8) ?hd (cs := #[.int .i64 0, .slice none 0 0, .slice none 0 0]) (t := 28) ?hr ?_; (case hd => rfl); (case hg => rfl); (case hr => first | (go_simp; done) | (go_simp; rfl)); intro gb255 hg w28 hbox hb; replace HO235 := Aside0.mk (Kd.R_below (tR HO235.out) hb); replace HO238 := Aside0.mk (Kd.R_below (tR HO238.out) hb); replace HO242 := Aside0.mk (Kd.R_below (tR HO242.out) hb); replace HO245 := Aside0.mk (Kd.R_below (tR HO245.out) hb); replace HO251 := Aside0.mk (Kd.R_below (tR HO251.out) hb); replace HO254 := Aside0.mk (Kd.R_below (tR HO254.out) hb); have BK255 := Aside0.mk (hbox); have GW255 := Aside0.mk (bS HB.out hg); have GE255 := Aside0.mk (bS HB.out hg); replace HB := Aside0.mk (below_step (tB HB.out) hb); have NB230_255 := Aside0.mk (nL BK230.out hg); have NB255_230 := Aside0.mk (nG BK230.out hg); replace BK230 := bkB BK230 hb; have NB247_255 := Aside0.mk (nL BK247.out hg); have NB255_247 := Aside0.mk (nG BK247.out hg); replace BK247 := bkB BK247 hb; clear hb hbox hg; have hnb29 := NB255_230.out; have hnc29 := NB230_255.out; have hnb30 := NB255_247.out; have hnc30 := NB247_255.out; obtain ⟨hcz31_0, hfz31_0, hcz31_1, hfz31_1, hcz31_2, hfz31_2⟩ := cz3 BK255; obtain ⟨Ao32, co32, eo32⟩ := Kd.R_slice HO251.out; subst eo32; obtain ⟨Ao33, co33, eo33⟩ := Kd.R_slice HO254.out; subst eo33) | ((with_reducible refine gate_callee (f := 40) rfl ?_); refine goesL_ (some 33) rfl rfl Try.func40 (by kernel_rfl) rfl #[.agg #[.int .i64 t248, .slice Ao32 t249.length co32, .slice Ao33 t252.length co33], .int .i64 a1] rfl tM ?_; (with_reducible refine (impl_ShiftPile.calls k t248 _ _ t249 _ _ t252 a1 t256 t257 t260 t263 _ ?side1 ?side2 ?side3 ?side4 A11.out).mono ?_); (case side1 => refine (Kd.R_reads' (e := 3) (base := w.heap.size) (ok := fun k_ => ((((some k_ ≠ (.slice Ao33 t252.length co33 : Value).ownBlock ∧ some k_ ≠ (.slice Ao18 t233.length co18 : Value).ownBlock) ∧ some k_ ≠ (.slice Ao19 t236.length co19 : Value).ownBlock) ∧ some k_ ≠ (.slice Ao24 t240.length co24 : Value).ownBlock) ∧ some k_ ≠ (.slice Ao25 t243.length co25 : Value).ownBlock)) (n := t249.length) (c := co32) ?_).2.2; exact (by (with_reducible repeat (first | apply Kd.R_alloc | apply Kd.R_drewN | apply Kd.R_drew)); exact (Kd.R_mono (Kd.R_far (p := ⟨gb255, 2, none⟩) (Kd.R_far (p := ⟨gb255, 1, none⟩) (Kd.R_far (p := ⟨gb255, 0, none⟩) (Kd.R_types HO251.out BK255.out (by decide)) (fun _ hk => hk.2) (.int .i64 t248)) (fun _ hk => hk.2) (.slice Ao32 t249.length co32)) (fun _ hk => hk.2) (.slice Ao33 t252.length co33)) (fun _ h_ => h_.1)))); (case side2 => exact (Kd.R_reads' HO251.out).2.1); (case side3 => refine (Kd.R_reads' (e := 3) (base := w.heap.size) (ok := fun k_ => ((((some k_ ≠ (.slice Ao32 t249.length co32 : Value).ownBlock ∧ some k_ ≠ (.slice Ao18 t233.length co18 : Value).ownBlock) ∧ some k_ ≠ (.slice Ao19 t236.length co19 : Value).ownBlock) ∧ some k_ ≠ (.slice Ao24 t240.length co24 : Value).ownBlock) ∧ some k_ ≠ (.slice Ao25 t243.length co25 : Value).ownBlock)) (n := t252.length) (c := co33) ?_).2.2; exact (by (with_reducible repeat (first | apply Kd.R_alloc | apply Kd.R_drewN | apply Kd.R_drew)); exact (Kd.R_mono (Kd.R_far (p := ⟨gb255, 2, none⟩) (Kd.R_far (p := ⟨gb255, 1, none⟩) (Kd.R_far (p := ⟨gb255, 0, none⟩) (Kd.R_types HO254.out BK255.out (by decide)) (fun _ hk => hk.2) (.int .i64 t248)) (fun _ hk => hk.2) (.slice Ao32 t249.length co32)) (fun _ hk => hk.2) (.slice Ao33 t252.length co33)) (fun _ h_ => h_.1)))); (case side4 => exact (Kd.R_reads' HO254.out).2.1); rintro e w34 ⟨v258, v261, rfl, ho0, ho1, hb⟩; refine ⟨_, rfl, ?_⟩; have HO259 := Aside0.mk (Kd.R_lower (Kd.R_new' (Kd.R_new' (Kd.R_new' (Kd.R_new' (Kd.R_new' (Kd.R_new' ho0 (Kd.R_lt (by (with_reducible repeat (first | apply Kd.R_alloc | apply Kd.R_drewN | apply Kd.R_drew)); exact (Kd.R_mono (Kd.R_far (p := ⟨gb255, 2, none⟩) (Kd.R_far (p := ⟨gb255, 1, none⟩) (Kd.R_far (p := ⟨gb255, 0, none⟩) (Kd.R_types HO235.out BK255.out (by decide)) (fun _ hk => hk.2) (.int .i64 t248)) (fun _ hk => hk.2) (.slice Ao32 t249.length co32)) (fun _ hk => hk.2) (.slice Ao33 t252.length co33)) (fun _ h_ => h_.1))))) (Kd.R_lt (by (with_reducible repeat (first | apply Kd.R_alloc | apply Kd.R_drewN | apply Kd.R_drew)); exact (Kd.R_mono (Kd.R_far (p := ⟨gb255, 2, none⟩) (Kd.R_far (p := ⟨gb255, 1, none⟩) (Kd.R_far (p := ⟨gb255, 0, none⟩) (Kd.R_types HO238.out BK255.out (by decide)) (fun _ hk => hk.2) (.int .i64 t248)) (fun _ hk => hk.2) (.slice Ao32 t249.length co32)) (fun _ hk => hk.2) (.slice Ao33 t252.length co33)) (fun _ h_ => h_.1))))) (Kd.R_lt (by (with_reducible repeat (first | apply Kd.R_alloc | apply Kd.R_drewN | apply Kd.R_drew)); exact (Kd.R_mono (Kd.R_far (p := ⟨gb255, 2, none⟩) (Kd.R_far (p := ⟨gb255, 1, none⟩) (Kd.R_far (p := ⟨gb255, 0, none⟩) (Kd.R_types HO242.out BK255.out (by decide)) (fun _ hk => hk.2) (.int .i64 t248)) (fun _ hk => hk.2) (.slice Ao32 t249.length co32)) (fun _ hk => hk.2) (.slice Ao33 t252.length co33)) (fun _ h_ => h_.1))))) (Kd.R_lt (by (with_reducible repeat (first | apply Kd.R_alloc | apply Kd.R_drewN | apply Kd.R_drew)); exact (Kd.R_mono (Kd.R_far (p := ⟨gb255, 2, none⟩) (Kd.R_far (p := ⟨gb255, 1, none⟩) (Kd.R_far (p := ⟨gb255, 0, none⟩) (Kd.R_types HO245.out BK255.out (by decide)) (fun _ hk => hk.2) (.int .i64 t248)) (fun _ hk => hk.2) (.slice Ao32 t249.length co32)) (fun _ hk => hk.2) (.slice Ao33 t252.length co33)) (fun _ h_ => h_.1))))) (Kd.R_lt (by (with_reducible repeat (first | apply Kd.R_alloc | apply Kd.R_drewN | apply Kd.R_drew)); exact (Kd.R_mono (Kd.R_far (p := ⟨gb255, 2, none⟩) (Kd.R_far (p := ⟨gb255, 1, none⟩) (Kd.R_far (p := ⟨gb255, 0, none⟩) (Kd.R_types HO251.out BK255.out (by decide)) (fun _ hk => hk.2) (.int .i64 t248)) (fun _ hk => hk.2) (.slice Ao32 t249.length co32)) (fun _ hk => hk.2) (.slice Ao33 t252.length co33)) (fun _ h_ => h_.1))))) (Kd.R_lt (by (with_reducible repeat (first | apply Kd.R_alloc | apply Kd.R_drewN | apply Kd.R_drew)); exact (Kd.R_mono (Kd.R_far (p := ⟨gb255, 2, none⟩) (Kd.R_far (p := ⟨gb255, 1, none⟩) (Kd.R_far (p := ⟨gb255, 0, none⟩) (Kd.R_types HO254.out BK255.out (by decide)) (fun _ hk => hk.2) (.int .i64 t248)) (fun _ hk => hk.2) (.slice Ao32 t249.length co32)) (fun _ hk => hk.2) (.slice Ao33 t252.length co33)) (fun _ h_ => h_.1))))) (below_size (tB HB.out))); have HO262 := Aside0.mk (Kd.R_lower (Kd.R_new' (Kd.R_new' (Kd.R_new' (Kd.R_new' (Kd.R_new' (Kd.R_new' ho1 (Kd.R_lt (by (with_reducible repeat (first | apply Kd.R_alloc | apply Kd.R_drewN | apply Kd.R_drew)); exact (Kd.R_mono (Kd.R_far (p := ⟨gb255, 2, none⟩) (Kd.R_far (p := ⟨gb255, 1, none⟩) (Kd.R_far (p := ⟨gb255, 0, none⟩) (Kd.R_types HO235.out BK255.out (by decide)) (fun _ hk => hk.2) (.int .i64 t248)) (fun _ hk => hk.2) (.slice Ao32 t249.length co32)) (fun _ hk => hk.2) (.slice Ao33 t252.length co33)) (fun _ h_ => h_.1))))) (Kd.R_lt (by (with_reducible repeat (first | apply Kd.R_alloc | apply Kd.R_drewN | apply Kd.R_drew)); exact (Kd.R_mono (Kd.R_far (p := ⟨gb255, 2, none⟩) (Kd.R_far (p := ⟨gb255, 1, none⟩) (Kd.R_far (p := ⟨gb255, 0, none⟩) (Kd.R_types HO238.out BK255.out (by decide)) (fun _ hk => hk.2) (.int .i64 t248)) (fun _ hk => hk.2) (.slice Ao32 t249.length co32)) (fun _ hk => hk.2) (.slice Ao33 t252.length co33)) (fun _ h_ => h_.1))))) (Kd.R_lt (by (with_reducible repeat (first | apply Kd.R_alloc | apply Kd.R_drewN | apply Kd.R_drew)); exact (Kd.R_mono (Kd.R_far (p := ⟨gb255, 2, none⟩) (Kd.R_far (p := ⟨gb255, 1, none⟩) (Kd.R_far (p := ⟨gb255, 0, none⟩) (Kd.R_types HO242.out BK255.out (by decide)) (fun _ hk => hk.2) (.int .i64 t248)) (fun _ hk => hk.2) (.slice Ao32 t249.length co32)) (fun _ hk => hk.2) (.slice Ao33 t252.length co33)) (fun _ h_ => h_.1))))) (Kd.R_lt (by (with_reducible repeat (first | apply Kd.R_alloc | apply Kd.R_drewN | apply Kd.R_drew)); exact (Kd.R_mono (Kd.R_far (p := ⟨gb255, 2, none⟩) (Kd.R_far (p := ⟨gb255, 1, none⟩) (Kd.R_far (p := ⟨gb255, 0, none⟩) (Kd.R_types HO245.out BK255.out (by decide)) (fun _ hk => hk.2) (.int .i64 t248)) (fun _ hk => hk.2) (.slice Ao32 t249.length co32)) (fun _ hk => hk.2) (.slice Ao33 t252.length co33)) (fun _ h_ => h_.1))))) (Kd.R_lt (by (with_reducible repeat (first | apply Kd.R_alloc | apply Kd.R_drewN | apply Kd.R_drew)); exact (Kd.R_mono (Kd.R_far (p := ⟨gb255, 2, none⟩) (Kd.R_far (p := ⟨gb255, 1, none⟩) (Kd.R_far (p := ⟨gb255, 0, none⟩) (Kd.R_types HO251.out BK255.out (by decide)) (fun _ hk => hk.2) (.int .i64 t248)) (fun _ hk => hk.2) (.slice Ao32 t249.length co32)) (fun _ hk => hk.2) (.slice Ao33 t252.length co33)) (fun _ h_ => h_.1))))) (Kd.R_lt (by (with_reducible repeat (first | apply Kd.R_alloc | apply Kd.R_drewN | apply Kd.R_drew)); exact (Kd.R_mono (Kd.R_far (p := ⟨gb255, 2, none⟩) (Kd.R_far (p := ⟨gb255, 1, none⟩) (Kd.R_far (p := ⟨gb255, 0, none⟩) (Kd.R_types HO254.out BK255.out (by decide)) (fun _ hk => hk.2) (.int .i64 t248)) (fun _ hk => hk.2) (.slice Ao32 t249.length co32)) (fun _ hk => hk.2) (.slice Ao33 t252.length co33)) (fun _ h_ => h_.1))))) (below_size (tB HB.out))); replace HO235 := Aside0.mk (Kd.R_mono (Kd.R_told (Kd.R_told (Kd.R_old (by (with_reducible repeat (first | apply Kd.R_alloc | apply Kd.R_drewN | apply Kd.R_drew)); exact (Kd.R_mono (Kd.R_far (p := ⟨gb255, 2, none⟩) (Kd.R_far (p := ⟨gb255, 1, none⟩) (Kd.R_far (p := ⟨gb255, 0, none⟩) (Kd.R_types HO235.out BK255.out (by decide)) (fun _ hk => hk.2) (.int .i64 t248)) (fun _ hk => hk.2) (.slice Ao32 t249.length co32)) (fun _ hk => hk.2) (.slice Ao33 t252.length co33)) (fun _ h_ => h_.1))) hb) (Kd.R_base ho0)) (Kd.R_base ho1)) (fun _ h_ => h_.1)); replace HO238 := Aside0.mk (Kd.R_mono (Kd.R_told (Kd.R_told (Kd.R_old (by (with_reducible repeat (first | apply Kd.R_alloc | apply Kd.R_drewN | apply Kd.R_drew)); exact (Kd.R_mono (Kd.R_far (p := ⟨gb255, 2, none⟩) (Kd.R_far (p := ⟨gb255, 1, none⟩) (Kd.R_far (p := ⟨gb255, 0, none⟩) (Kd.R_types HO238.out BK255.out (by decide)) (fun _ hk => hk.2) (.int .i64 t248)) (fun _ hk => hk.2) (.slice Ao32 t249.length co32)) (fun _ hk => hk.2) (.slice Ao33 t252.length co33)) (fun _ h_ => h_.1))) hb) (Kd.R_base ho0)) (Kd.R_base ho1)) (fun _ h_ => h_.1)); replace HO242 := Aside0.mk (Kd.R_mono (Kd.R_told (Kd.R_told (Kd.R_old (by (with_reducible repeat (first | apply Kd.R_alloc | apply Kd.R_drewN | apply Kd.R_drew)); exact (Kd.R_mono (Kd.R_far (p := ⟨gb255, 2, none⟩) (Kd.R_far (p := ⟨gb255, 1, none⟩) (Kd.R_far (p := ⟨gb255, 0, none⟩) (Kd.R_types HO242.out BK255.out (by decide)) (fun _ hk => hk.2) (.int .i64 t248)) (fun _ hk => hk.2) (.slice Ao32 t249.length co32)) (fun _ hk => hk.2) (.slice Ao33 t252.length co33)) (fun _ h_ => h_.1))) hb) (Kd.R_base ho0)) (Kd.R_base ho1)) (fun _ h_ => h_.1)); replace HO245 := Aside0.mk (Kd.R_mono (Kd.R_told (Kd.R_told (Kd.R_old (by (with_reducible repeat (first | apply Kd.R_alloc | apply Kd.R_drewN | apply Kd.R_drew)); exact (Kd.R_mono (Kd.R_far (p := ⟨gb255, 2, none⟩) (Kd.R_far (p := ⟨gb255, 1, none⟩) (Kd.R_far (p := ⟨gb255, 0, none⟩) (Kd.R_types HO245.out BK255.out (by decide)) (fun _ hk => hk.2) (.int .i64 t248)) (fun _ hk => hk.2) (.slice Ao32 t249.length co32)) (fun _ hk => hk.2) (.slice Ao33 t252.length co33)) (fun _ h_ => h_.1))) hb) (Kd.R_base ho0)) (Kd.R_base ho1)) (fun _ h_ => h_.1)); replace HO251 := Aside0.mk (Kd.R_mono (Kd.R_told (Kd.R_told (Kd.R_old (by (with_reducible repeat (first | apply Kd.R_alloc | apply Kd.R_drewN | apply Kd.R_drew)); exact (Kd.R_mono (Kd.R_far (p := ⟨gb255, 2, none⟩) (Kd.R_far (p := ⟨gb255, 1, none⟩) (Kd.R_far (p := ⟨gb255, 0, none⟩) (Kd.R_types HO251.out BK255.out (by decide)) (fun _ hk => hk.2) (.int .i64 t248)) (fun _ hk => hk.2) (.slice Ao32 t249.length co32)) (fun _ hk => hk.2) (.slice Ao33 t252.length co33)) (fun _ h_ => h_.1))) hb) (Kd.R_base ho0)) (Kd.R_base ho1)) (fun _ h_ => h_.1)); replace HO254 := Aside0.mk (Kd.R_mono (Kd.R_told (Kd.R_told (Kd.R_old (by (with_reducible repeat (first | apply Kd.R_alloc | apply Kd.R_drewN | apply Kd.R_drew)); exact (Kd.R_mono (Kd.R_far (p := ⟨gb255, 2, none⟩) (Kd.R_far (p := ⟨gb255, 1, none⟩) (Kd.R_far (p := ⟨gb255, 0, none⟩) (Kd.R_types HO254.out BK255.out (by decide)) (fun _ hk => hk.2) (.int .i64 t248)) (fun _ hk => hk.2) (.slice Ao32 t249.length co32)) (fun _ hk => hk.2) (.slice Ao33 t252.length co33)) (fun _ h_ => h_.1))) hb) (Kd.R_base ho0)) (Kd.R_base ho1)) (fun _ h_ => h_.1)); replace BK230 := Aside0.mk (blk_below (g := gb230) (o := .cells #[.int .i64 a0_0, .slice A0_1 l0_1.length c0_1, .slice A0_2 l0_2.length c0_2] 24 (0, 0)) (by (with_reducible repeat (first | refine blk_drewN ?_ _ | refine blk_drew ?_ | refine blk_alloc ?_ _)); refine blk_far ?_ NB230_255.out _; (with_reducible repeat (first | refine blk_drewN ?_ _ | refine blk_drew ?_ | refine blk_alloc ?_ _)); refine blk_far ?_ NB230_255.out _; (with_reducible repeat (first | refine blk_drewN ?_ _ | refine blk_drew ?_ | refine blk_alloc ?_ _)); refine blk_far ?_ NB230_255.out _; (with_reducible repeat (first | refine blk_drewN ?_ _ | refine blk_drew ?_ | refine blk_alloc ?_ _)); exact BK230.out) hb); replace BK247 := Aside0.mk (blk_below (g := gb247) (o := .cells #[.int .i64 t239, .slice Ao24 t240.length co24, .slice Ao25 t243.length co25] 28 (0, 0)) (by (with_reducible repeat (first | refine blk_drewN ?_ _ | refine blk_drew ?_ | refine blk_alloc ?_ _)); refine blk_far ?_ NB247_255.out _; (with_reducible repeat (first | refine blk_drewN ?_ _ | refine blk_drew ?_ | refine blk_alloc ?_ _)); refine blk_far ?_ NB247_255.out _; (with_reducible repeat (first | refine blk_drewN ?_ _ | refine blk_drew ?_ | refine blk_alloc ?_ _)); refine blk_far ?_ NB247_255.out _; (with_reducible repeat (first | refine blk_drewN ?_ _ | refine blk_drew ?_ | refine blk_alloc ?_ _)); exact BK247.out) hb); replace BK255 := Aside0.mk (blk_below (g := gb255) (o := .cells #[.int .i64 t248, .slice Ao32 t249.length co32, .slice Ao33 t252.length co33] 28 (0, 0)) (by (with_reducible repeat (first | refine blk_drewN ?_ _ | refine blk_drew ?_ | refine blk_alloc ?_ _)); refine blk_put (cs := #[.int .i64 t248, .slice Ao32 t249.length co32, .slice none 0 0]) ?_ 2 _ rfl; (with_reducible repeat (first | refine blk_drewN ?_ _ | refine blk_drew ?_ | refine blk_alloc ?_ _)); refine blk_put (cs := #[.int .i64 t248, .slice none 0 0, .slice none 0 0]) ?_ 1 _ rfl; (with_reducible repeat (first | refine blk_drewN ?_ _ | refine blk_drew ?_ | refine blk_alloc ?_ _)); refine blk_put (cs := #[.int .i64 0, .slice none 0 0, .slice none 0 0]) ?_ 0 _ rfl; (with_reducible repeat (first | refine blk_drewN ?_ _ | refine blk_drew ?_ | refine blk_alloc ?_ _)); exact BK255.out) hb); replace HB := Aside0.mk (below_step (tB HB.out) hb); (try clear hb); (try clear hb2); (try clear hk); (try clear hi); (try clear ho0); (try clear ho1)) | ((with_reducible refine gate_dst (N := 9) rfl ?_); refine box_event ?hg (N := 9) ?hd (cs := #[.int .i64 0, .slice none 0 0, .slice none 0 0]) (t := 28) ?hr ?_; (case hd => rfl); (case hg => rfl); (case hr => first | (go_simp; done) | (go_simp; rfl)); intro gb264 hg w35 hbox hb; replace HO235 := Aside0.mk (Kd.R_below (tR HO235.out) hb); replace HO238 := Aside0.mk (Kd.R_below (tR HO238.out) hb); replace HO242 := Aside0.mk (Kd.R_below (tR HO242.out) hb); replace HO245 := Aside0.mk (Kd.R_below (tR HO245.out) hb); replace HO251 := Aside0.mk (Kd.R_below (tR HO251.out) hb); replace HO254 := Aside0.mk (Kd.R_below (tR HO254.out) hb); replace HO259 := Aside0.mk (Kd.R_below (tR HO259.out) hb); replace HO262 := Aside0.mk (Kd.R_below (tR HO262.out) hb); have BK264 := Aside0.mk (hbox); have GW264 := Aside0.mk (bS HB.out hg); have GE264 := Aside0.mk (bS HB.out hg); replace HB := Aside0.mk (below_step (tB HB.out) hb); have NB230_264 := Aside0.mk (nL BK230.out hg); have NB264_230 := Aside0.mk (nG BK230.out hg); replace BK230 := bkB BK230 hb; have NB247_264 := Aside0.mk (nL BK247.out hg); have NB264_247 := Aside0.mk (nG BK247.out hg); replace BK247 := bkB BK247 hb; have NB255_264 := Aside0.mk (nL BK255.out hg); have NB264_255 := Aside0.mk (nG BK255.out hg); replace BK255 := bkB BK255 hb; clear hb hbox hg; have hnb36 := NB264_230.out; have hnc36 := NB230_264.out; have hnb37 := NB264_247.out; have hnc37 := NB247_264.out; have hnb38 := NB264_255.out; have hnc38 := NB255_264.out; obtain ⟨hcz39_0, hfz39_0, hcz39_1, hfz39_1, hcz39_2, hfz39_2⟩ := cz3 BK264; obtain ⟨Ao40, co40, eo40⟩ := Kd.R_slice HO259.out; subst eo40; obtain ⟨Ao41, co41, eo41⟩ := Kd.R_slice HO262.out; subst eo41))
  (try simp only [Act.put, List.setIfInBounds_toArray, List.set_cons_zero, List.set_cons_succ])
  go_cut [44] (fun v44 wc => ∃ (kq : Nat) (x44_11 : Bool), v44 = .bool x44_11 ∧ Aside0 (laws_FnExactShiftPile.j0 kq a1 t246 t263 x44_11 a0_0 l0_1 l0_2 t239 t240 t243 t248 t249 t252 t256 t257 t260 = some r) ∧ Aside0 (kq ≤ k) ∧ Aside0 (Kd.R (Kd.int .i64) 3 wc w.heap.size (fun k_ => some k_ ≠ ((.slice Ao25 t243.length co25) : Value).ownBlock ∧ some k_ ≠ ((.slice Ao32 t249.length co32) : Value).ownBlock ∧ some k_ ≠ ((.slice Ao33 t252.length co33) : Value).ownBlock ∧ some k_ ≠ ((.slice Ao40 t257.length co40) : Value).ownBlock ∧ some k_ ≠ ((.slice Ao41 t260.length co41) : Value).ownBlock) (.slice Ao24 t240.length co24) t240) ∧ Aside0 (Kd.R (Kd.int .i64) 3 wc w.heap.size (fun k_ => some k_ ≠ ((.slice Ao24 t240.length co24) : Value).ownBlock ∧ some k_ ≠ ((.slice Ao32 t249.length co32) : Value).ownBlock ∧ some k_ ≠ ((.slice Ao33 t252.length co33) : Value).ownBlock ∧ some k_ ≠ ((.slice Ao40 t257.length co40) : Value).ownBlock ∧ some k_ ≠ ((.slice Ao41 t260.length co41) : Value).ownBlock) (.slice Ao25 t243.length co25) t243) ∧ Aside0 (Kd.R (Kd.int .i64) 3 wc w.heap.size (fun k_ => some k_ ≠ ((.slice Ao24 t240.length co24) : Value).ownBlock ∧ some k_ ≠ ((.slice Ao25 t243.length co25) : Value).ownBlock ∧ some k_ ≠ ((.slice Ao33 t252.length co33) : Value).ownBlock ∧ some k_ ≠ ((.slice Ao40 t257.length co40) : Value).ownBlock ∧ some k_ ≠ ((.slice Ao41 t260.length co41) : Value).ownBlock) (.slice Ao32 t249.length co32) t249) ∧ Aside0 (Kd.R (Kd.int .i64) 3 wc w.heap.size (fun k_ => some k_ ≠ ((.slice Ao24 t240.length co24) : Value).ownBlock ∧ some k_ ≠ ((.slice Ao25 t243.length co25) : Value).ownBlock ∧ some k_ ≠ ((.slice Ao32 t249.length co32) : Value).ownBlock ∧ some k_ ≠ ((.slice Ao40 t257.length co40) : Value).ownBlock ∧ some k_ ≠ ((.slice Ao41 t260.length co41) : Value).ownBlock) (.slice Ao33 t252.length co33) t252) ∧ Aside0 (Kd.R (Kd.int .i64) 3 wc w.heap.size (fun k_ => some k_ ≠ ((.slice Ao24 t240.length co24) : Value).ownBlock ∧ some k_ ≠ ((.slice Ao25 t243.length co25) : Value).ownBlock ∧ some k_ ≠ ((.slice Ao32 t249.length co32) : Value).ownBlock ∧ some k_ ≠ ((.slice Ao33 t252.length co33) : Value).ownBlock ∧ some k_ ≠ ((.slice Ao41 t260.length co41) : Value).ownBlock) (.slice Ao40 t257.length co40) t257) ∧ Aside0 (Kd.R (Kd.int .i64) 3 wc w.heap.size (fun k_ => some k_ ≠ ((.slice Ao24 t240.length co24) : Value).ownBlock ∧ some k_ ≠ ((.slice Ao25 t243.length co25) : Value).ownBlock ∧ some k_ ≠ ((.slice Ao32 t249.length co32) : Value).ownBlock ∧ some k_ ≠ ((.slice Ao33 t252.length co33) : Value).ownBlock ∧ some k_ ≠ ((.slice Ao40 t257.length co40) : Value).ownBlock) (.slice Ao41 t260.length co41) t260) ∧ Aside0 (wc.heap[gb230]? = some (.cells #[.int .i64 a0_0, (.slice A0_1 l0_1.length c0_1), (.slice A0_2 l0_2.length c0_2)] 24 (0, 0))) ∧ Aside0 (wc.heap[gb247]? = some (.cells #[.int .i64 t239, (.slice Ao24 t240.length co24), (.slice Ao25 t243.length co25)] 28 (0, 0))) ∧ Aside0 (wc.heap[gb255]? = some (.cells #[.int .i64 t248, (.slice Ao32 t249.length co32), (.slice Ao33 t252.length co33)] 28 (0, 0))) ∧ Aside0 (wc.heap[gb264]? = some (.cells #[.int .i64 t256, (.slice Ao40 t257.length co40), (.slice Ao41 t260.length co41)] 28 (0, 0))) ∧ Aside0 (Below w.heap.size w wc))
  case first =>
   have H := HC12.out
   clear HC12
   replace H := Option.bind_eq_some_iff.mp H
   obtain ⟨t265, A420, H⟩ := H
   replace H : (if t265 = true then (laws_FnExactShiftPile.j0 k a1 t246 t263 (t263 != t246) a0_0 l0_1 l0_2 t239 t240 t243 t248 t249 t252 t256 t257 t260) else (laws_FnExactShiftPile.j0 k a1 t246 t263 true a0_0 l0_1 l0_2 t239 t240 t243 t248 t249 t252 t256 t257 t260)) = some r := H
   have A42 := Aside0.mk A420
   clear A420
   by_cases c43 : t265 = true
   ·
    subst c43
    have H1 : (laws_FnExactShiftPile.j0 k a1 t246 t263 (t263 != t246) a0_0 l0_1 l0_2 t239 t240 t243 t248 t249 t252 t256 t257 t260) = some r := by rw [if_pos rfl] at H; exact H
    clear H
    have H := H1
    clear H1
    have H' := Aside0.mk H
    clear H
    have hnb44 := NB264_230.out
    have hnc44 := NB230_264.out
    have hnb45 := NB264_247.out
    have hnc45 := NB247_264.out
    have hnb46 := NB264_255.out
    have hnc46 := NB255_264.out
    obtain ⟨hcz47_0, hfz47_0, hcz47_1, hfz47_1, hcz47_2, hfz47_2⟩ := cz3 BK264
    have hnb48 := NB247_230.out
    have hnc48 := NB230_247.out
    have hnb49 := NB247_255.out
    have hnc49 := NB255_247.out
    obtain ⟨hcz50_0, hfz50_0, hcz50_1, hfz50_1, hcz50_2, hfz50_2⟩ := cz3 BK247
    go_wp2_with (first | ((with_reducible refine gate_callee (f := 19) rfl ?_); refine goesL_ (some 38) rfl rfl Try.func19 (by kernel_rfl) rfl #[.agg #[.int .i64 t256, .slice Ao40 t257.length co40, .slice Ao41 t260.length co41], .agg #[.int .i64 t239, .slice Ao24 t240.length co24, .slice Ao25 t243.length co25]] rfl tM ?_; (with_reducible refine (laws_eqPile.calls k t256 _ _ t257 _ _ t260 t239 _ _ t240 _ _ t243 true _ ?side1 ?side2 ?side3 ?side4 ?side5 ?side6 ?side7 ?side8 A42.out).mono ?_); (case side1 => refine (Kd.R_reads' (e := 3) (base := w.heap.size) (ok := fun k_ => ((((((some k_ ≠ (.slice Ao41 t260.length co41 : Value).ownBlock ∧ some k_ ≠ (.slice Ao18 t233.length co18 : Value).ownBlock) ∧ some k_ ≠ (.slice Ao19 t236.length co19 : Value).ownBlock) ∧ some k_ ≠ (.slice Ao24 t240.length co24 : Value).ownBlock) ∧ some k_ ≠ (.slice Ao25 t243.length co25 : Value).ownBlock) ∧ some k_ ≠ (.slice Ao32 t249.length co32 : Value).ownBlock) ∧ some k_ ≠ (.slice Ao33 t252.length co33 : Value).ownBlock)) (n := t257.length) (c := co40) ?_).2.2; exact (by (with_reducible repeat (first | apply Kd.R_alloc | apply Kd.R_drewN | apply Kd.R_drew)); exact (Kd.R_mono (Kd.R_far (p := ⟨gb264, 2, none⟩) (Kd.R_far (p := ⟨gb264, 1, none⟩) (Kd.R_far (p := ⟨gb264, 0, none⟩) (Kd.R_types HO259.out BK264.out (by decide)) (fun _ hk => hk.2) (.int .i64 t256)) (fun _ hk => hk.2) (.slice Ao40 t257.length co40)) (fun _ hk => hk.2) (.slice Ao41 t260.length co41)) (fun _ h_ => h_.1)))); (case side2 => exact (Kd.R_reads' HO259.out).2.1); (case side3 => refine (Kd.R_reads' (e := 3) (base := w.heap.size) (ok := fun k_ => ((((((some k_ ≠ (.slice Ao40 t257.length co40 : Value).ownBlock ∧ some k_ ≠ (.slice Ao18 t233.length co18 : Value).ownBlock) ∧ some k_ ≠ (.slice Ao19 t236.length co19 : Value).ownBlock) ∧ some k_ ≠ (.slice Ao24 t240.length co24 : Value).ownBlock) ∧ some k_ ≠ (.slice Ao25 t243.length co25 : Value).ownBlock) ∧ some k_ ≠ (.slice Ao32 t249.length co32 : Value).ownBlock) ∧ some k_ ≠ (.slice Ao33 t252.length co33 : Value).ownBlock)) (n := t260.length) (c := co41) ?_).2.2; exact (by (with_reducible repeat (first | apply Kd.R_alloc | apply Kd.R_drewN | apply Kd.R_drew)); exact (Kd.R_mono (Kd.R_far (p := ⟨gb264, 2, none⟩) (Kd.R_far (p := ⟨gb264, 1, none⟩) (Kd.R_far (p := ⟨gb264, 0, none⟩) (Kd.R_types HO262.out BK264.out (by decide)) (fun _ hk => hk.2) (.int .i64 t256)) (fun _ hk => hk.2) (.slice Ao40 t257.length co40)) (fun _ hk => hk.2) (.slice Ao41 t260.length co41)) (fun _ h_ => h_.1)))); (case side4 => exact (Kd.R_reads' HO262.out).2.1); (case side5 => refine (Kd.R_reads' (e := 3) (base := w.heap.size) (ok := fun k_ => ((((((some k_ ≠ (.slice Ao25 t243.length co25 : Value).ownBlock ∧ some k_ ≠ (.slice Ao18 t233.length co18 : Value).ownBlock) ∧ some k_ ≠ (.slice Ao19 t236.length co19 : Value).ownBlock) ∧ some k_ ≠ (.slice Ao32 t249.length co32 : Value).ownBlock) ∧ some k_ ≠ (.slice Ao33 t252.length co33 : Value).ownBlock) ∧ some k_ ≠ (.slice Ao40 t257.length co40 : Value).ownBlock) ∧ some k_ ≠ (.slice Ao41 t260.length co41 : Value).ownBlock)) (n := t240.length) (c := co24) ?_).2.2; exact (by (with_reducible repeat (first | apply Kd.R_alloc | apply Kd.R_drewN | apply Kd.R_drew)); exact (Kd.R_mono (Kd.R_far (p := ⟨gb264, 2, none⟩) (Kd.R_far (p := ⟨gb264, 1, none⟩) (Kd.R_far (p := ⟨gb264, 0, none⟩) (Kd.R_types HO242.out BK264.out (by decide)) (fun _ hk => hk.2) (.int .i64 t256)) (fun _ hk => hk.2) (.slice Ao40 t257.length co40)) (fun _ hk => hk.2) (.slice Ao41 t260.length co41)) (fun _ h_ => h_.1)))); (case side6 => exact (Kd.R_reads' HO242.out).2.1); (case side7 => refine (Kd.R_reads' (e := 3) (base := w.heap.size) (ok := fun k_ => ((((((some k_ ≠ (.slice Ao24 t240.length co24 : Value).ownBlock ∧ some k_ ≠ (.slice Ao18 t233.length co18 : Value).ownBlock) ∧ some k_ ≠ (.slice Ao19 t236.length co19 : Value).ownBlock) ∧ some k_ ≠ (.slice Ao32 t249.length co32 : Value).ownBlock) ∧ some k_ ≠ (.slice Ao33 t252.length co33 : Value).ownBlock) ∧ some k_ ≠ (.slice Ao40 t257.length co40 : Value).ownBlock) ∧ some k_ ≠ (.slice Ao41 t260.length co41 : Value).ownBlock)) (n := t243.length) (c := co25) ?_).2.2; exact (by (with_reducible repeat (first | apply Kd.R_alloc | apply Kd.R_drewN | apply Kd.R_drew)); exact (Kd.R_mono (Kd.R_far (p := ⟨gb264, 2, none⟩) (Kd.R_far (p := ⟨gb264, 1, none⟩) (Kd.R_far (p := ⟨gb264, 0, none⟩) (Kd.R_types HO245.out BK264.out (by decide)) (fun _ hk => hk.2) (.int .i64 t256)) (fun _ hk => hk.2) (.slice Ao40 t257.length co40)) (fun _ hk => hk.2) (.slice Ao41 t260.length co41)) (fun _ h_ => h_.1)))); (case side8 => exact (Kd.R_reads' HO245.out).2.1); rintro e w51 ⟨rfl, hb⟩; refine ⟨_, rfl, ?_⟩; replace HO235 := Aside0.mk (Kd.R_below (by (with_reducible repeat (first | apply Kd.R_alloc | apply Kd.R_drewN | apply Kd.R_drew)); exact (Kd.R_mono (Kd.R_far (p := ⟨gb264, 2, none⟩) (Kd.R_far (p := ⟨gb264, 1, none⟩) (Kd.R_far (p := ⟨gb264, 0, none⟩) (Kd.R_types HO235.out BK264.out (by decide)) (fun _ hk => hk.2) (.int .i64 t256)) (fun _ hk => hk.2) (.slice Ao40 t257.length co40)) (fun _ hk => hk.2) (.slice Ao41 t260.length co41)) (fun _ h_ => h_.1))) hb); replace HO238 := Aside0.mk (Kd.R_below (by (with_reducible repeat (first | apply Kd.R_alloc | apply Kd.R_drewN | apply Kd.R_drew)); exact (Kd.R_mono (Kd.R_far (p := ⟨gb264, 2, none⟩) (Kd.R_far (p := ⟨gb264, 1, none⟩) (Kd.R_far (p := ⟨gb264, 0, none⟩) (Kd.R_types HO238.out BK264.out (by decide)) (fun _ hk => hk.2) (.int .i64 t256)) (fun _ hk => hk.2) (.slice Ao40 t257.length co40)) (fun _ hk => hk.2) (.slice Ao41 t260.length co41)) (fun _ h_ => h_.1))) hb); replace HO242 := Aside0.mk (Kd.R_below (by (with_reducible repeat (first | apply Kd.R_alloc | apply Kd.R_drewN | apply Kd.R_drew)); exact (Kd.R_mono (Kd.R_far (p := ⟨gb264, 2, none⟩) (Kd.R_far (p := ⟨gb264, 1, none⟩) (Kd.R_far (p := ⟨gb264, 0, none⟩) (Kd.R_types HO242.out BK264.out (by decide)) (fun _ hk => hk.2) (.int .i64 t256)) (fun _ hk => hk.2) (.slice Ao40 t257.length co40)) (fun _ hk => hk.2) (.slice Ao41 t260.length co41)) (fun _ h_ => h_.1))) hb); replace HO245 := Aside0.mk (Kd.R_below (by (with_reducible repeat (first | apply Kd.R_alloc | apply Kd.R_drewN | apply Kd.R_drew)); exact (Kd.R_mono (Kd.R_far (p := ⟨gb264, 2, none⟩) (Kd.R_far (p := ⟨gb264, 1, none⟩) (Kd.R_far (p := ⟨gb264, 0, none⟩) (Kd.R_types HO245.out BK264.out (by decide)) (fun _ hk => hk.2) (.int .i64 t256)) (fun _ hk => hk.2) (.slice Ao40 t257.length co40)) (fun _ hk => hk.2) (.slice Ao41 t260.length co41)) (fun _ h_ => h_.1))) hb); replace HO251 := Aside0.mk (Kd.R_below (by (with_reducible repeat (first | apply Kd.R_alloc | apply Kd.R_drewN | apply Kd.R_drew)); exact (Kd.R_mono (Kd.R_far (p := ⟨gb264, 2, none⟩) (Kd.R_far (p := ⟨gb264, 1, none⟩) (Kd.R_far (p := ⟨gb264, 0, none⟩) (Kd.R_types HO251.out BK264.out (by decide)) (fun _ hk => hk.2) (.int .i64 t256)) (fun _ hk => hk.2) (.slice Ao40 t257.length co40)) (fun _ hk => hk.2) (.slice Ao41 t260.length co41)) (fun _ h_ => h_.1))) hb); replace HO254 := Aside0.mk (Kd.R_below (by (with_reducible repeat (first | apply Kd.R_alloc | apply Kd.R_drewN | apply Kd.R_drew)); exact (Kd.R_mono (Kd.R_far (p := ⟨gb264, 2, none⟩) (Kd.R_far (p := ⟨gb264, 1, none⟩) (Kd.R_far (p := ⟨gb264, 0, none⟩) (Kd.R_types HO254.out BK264.out (by decide)) (fun _ hk => hk.2) (.int .i64 t256)) (fun _ hk => hk.2) (.slice Ao40 t257.length co40)) (fun _ hk => hk.2) (.slice Ao41 t260.length co41)) (fun _ h_ => h_.1))) hb); replace HO259 := Aside0.mk (Kd.R_below (by (with_reducible repeat (first | apply Kd.R_alloc | apply Kd.R_drewN | apply Kd.R_drew)); exact (Kd.R_mono (Kd.R_far (p := ⟨gb264, 2, none⟩) (Kd.R_far (p := ⟨gb264, 1, none⟩) (Kd.R_far (p := ⟨gb264, 0, none⟩) (Kd.R_types HO259.out BK264.out (by decide)) (fun _ hk => hk.2) (.int .i64 t256)) (fun _ hk => hk.2) (.slice Ao40 t257.length co40)) (fun _ hk => hk.2) (.slice Ao41 t260.length co41)) (fun _ h_ => h_.1))) hb); replace HO262 := Aside0.mk (Kd.R_below (by (with_reducible repeat (first | apply Kd.R_alloc | apply Kd.R_drewN | apply Kd.R_drew)); exact (Kd.R_mono (Kd.R_far (p := ⟨gb264, 2, none⟩) (Kd.R_far (p := ⟨gb264, 1, none⟩) (Kd.R_far (p := ⟨gb264, 0, none⟩) (Kd.R_types HO262.out BK264.out (by decide)) (fun _ hk => hk.2) (.int .i64 t256)) (fun _ hk => hk.2) (.slice Ao40 t257.length co40)) (fun _ hk => hk.2) (.slice Ao41 t260.length co41)) (fun _ h_ => h_.1))) hb); replace BK230 := Aside0.mk (blk_below (g := gb230) (o := .cells #[.int .i64 a0_0, .slice A0_1 l0_1.length c0_1, .slice A0_2 l0_2.length c0_2] 24 (0, 0)) (by (with_reducible repeat (first | refine blk_drewN ?_ _ | refine blk_drew ?_ | refine blk_alloc ?_ _)); refine blk_far ?_ NB230_264.out _; (with_reducible repeat (first | refine blk_drewN ?_ _ | refine blk_drew ?_ | refine blk_alloc ?_ _)); refine blk_far ?_ NB230_264.out _; (with_reducible repeat (first | refine blk_drewN ?_ _ | refine blk_drew ?_ | refine blk_alloc ?_ _)); refine blk_far ?_ NB230_264.out _; (with_reducible repeat (first | refine blk_drewN ?_ _ | refine blk_drew ?_ | refine blk_alloc ?_ _)); exact BK230.out) hb); replace BK247 := Aside0.mk (blk_below (g := gb247) (o := .cells #[.int .i64 t239, .slice Ao24 t240.length co24, .slice Ao25 t243.length co25] 28 (0, 0)) (by (with_reducible repeat (first | refine blk_drewN ?_ _ | refine blk_drew ?_ | refine blk_alloc ?_ _)); refine blk_far ?_ NB247_264.out _; (with_reducible repeat (first | refine blk_drewN ?_ _ | refine blk_drew ?_ | refine blk_alloc ?_ _)); refine blk_far ?_ NB247_264.out _; (with_reducible repeat (first | refine blk_drewN ?_ _ | refine blk_drew ?_ | refine blk_alloc ?_ _)); refine blk_far ?_ NB247_264.out _; (with_reducible repeat (first | refine blk_drewN ?_ _ | refine blk_drew ?_ | refine blk_alloc ?_ _)); exact BK247.out) hb); replace BK255 := Aside0.mk (blk_below (g := gb255) (o := .cells #[.int .i64 t248, .slice Ao32 t249.length co32, .slice Ao33 t252.length co33] 28 (0, 0)) (by (with_reducible repeat (first | refine blk_drewN ?_ _ | refine blk_drew ?_ | refine blk_alloc ?_ _)); refine blk_far ?_ NB255_264.out _; (with_reducible repeat (first | refine blk_drewN ?_ _ | refine blk_drew ?_ | refine blk_alloc ?_ _)); refine blk_far ?_ NB255_264.out _; (with_reducible repeat (first | refine blk_drewN ?_ _ | refine blk_drew ?_ | refine blk_alloc ?_ _)); refine blk_far ?_ NB255_264.out _; (with_reducible repeat (first | refine blk_drewN ?_ _ | refine blk_drew ?_ | refine blk_alloc ?_ _)); exact BK255.out) hb); replace BK264 := Aside0.mk (blk_below (g := gb264) (o := .cells #[.int .i64 t256, .slice Ao40 t257.length co40, .slice Ao41 t260.length co41] 28 (0, 0)) (by (with_reducible repeat (first | refine blk_drewN ?_ _ | refine blk_drew ?_ | refine blk_alloc ?_ _)); refine blk_put (cs := #[.int .i64 t256, .slice Ao40 t257.length co40, .slice none 0 0]) ?_ 2 _ rfl; (with_reducible repeat (first | refine blk_drewN ?_ _ | refine blk_drew ?_ | refine blk_alloc ?_ _)); refine blk_put (cs := #[.int .i64 t256, .slice none 0 0, .slice none 0 0]) ?_ 1 _ rfl; (with_reducible repeat (first | refine blk_drewN ?_ _ | refine blk_drew ?_ | refine blk_alloc ?_ _)); refine blk_put (cs := #[.int .i64 0, .slice none 0 0, .slice none 0 0]) ?_ 0 _ rfl; (with_reducible repeat (first | refine blk_drewN ?_ _ | refine blk_drew ?_ | refine blk_alloc ?_ _)); exact BK264.out) hb); replace HB := Aside0.mk (below_step (tB HB.out) hb); (try clear hb); (try clear hb2); (try clear hk); (try clear hi)))
    go_meet
    case rel => exact ⟨_, ((t263 != t246)), (by first | rfl | (simp; done) | (simp [wrap64]; done) | (simp [*]; done)), H', ⟨by first | omega | exact Nat.le_refl _⟩, ⟨by (with_reducible repeat (first | apply Kd.R_alloc | apply Kd.R_drewN | apply Kd.R_drew)); exact Kd.R_mono HO242.out (fun _ hk => ⟨hk.1.1.1.1.1.1, ⟨hk.1.1.1.2, ⟨hk.1.1.2, ⟨hk.1.2, hk.2⟩⟩⟩⟩)⟩, ⟨by (with_reducible repeat (first | apply Kd.R_alloc | apply Kd.R_drewN | apply Kd.R_drew)); exact Kd.R_mono HO245.out (fun _ hk => ⟨hk.1.1.1.1.1.1, ⟨hk.1.1.1.2, ⟨hk.1.1.2, ⟨hk.1.2, hk.2⟩⟩⟩⟩)⟩, ⟨by (with_reducible repeat (first | apply Kd.R_alloc | apply Kd.R_drewN | apply Kd.R_drew)); exact Kd.R_mono HO251.out (fun _ hk => ⟨hk.1.1.1.2, ⟨hk.1.1.2, ⟨hk.1.1.1.1.1.1, ⟨hk.1.2, hk.2⟩⟩⟩⟩)⟩, ⟨by (with_reducible repeat (first | apply Kd.R_alloc | apply Kd.R_drewN | apply Kd.R_drew)); exact Kd.R_mono HO254.out (fun _ hk => ⟨hk.1.1.1.2, ⟨hk.1.1.2, ⟨hk.1.1.1.1.1.1, ⟨hk.1.2, hk.2⟩⟩⟩⟩)⟩, ⟨by (with_reducible repeat (first | apply Kd.R_alloc | apply Kd.R_drewN | apply Kd.R_drew)); exact Kd.R_mono HO259.out (fun _ hk => ⟨hk.1.1.1.2, ⟨hk.1.1.2, ⟨hk.1.2, ⟨hk.2, hk.1.1.1.1.1.1⟩⟩⟩⟩)⟩, ⟨by (with_reducible repeat (first | apply Kd.R_alloc | apply Kd.R_drewN | apply Kd.R_drew)); exact Kd.R_mono HO262.out (fun _ hk => ⟨hk.1.1.1.2, ⟨hk.1.1.2, ⟨hk.1.2, ⟨hk.2, hk.1.1.1.1.1.1⟩⟩⟩⟩)⟩, ⟨tK BK230.out⟩, ⟨tK BK247.out⟩, ⟨tK BK255.out⟩, ⟨tK BK264.out⟩, ⟨tB HB.out⟩⟩
   ·
    replace c43 := Bool.eq_false_iff.mpr c43
    subst c43
    have H1 : (laws_FnExactShiftPile.j0 k a1 t246 t263 true a0_0 l0_1 l0_2 t239 t240 t243 t248 t249 t252 t256 t257 t260) = some r := by rw [if_neg (show ¬ (false = true) by decide)] at H; exact H
    clear H
    have H := H1
    clear H1
    have H' := Aside0.mk H
    clear H
    have hnb52 := NB264_230.out
    have hnc52 := NB230_264.out
    have hnb53 := NB264_247.out
    have hnc53 := NB247_264.out
    have hnb54 := NB264_255.out
    have hnc54 := NB255_264.out
    obtain ⟨hcz55_0, hfz55_0, hcz55_1, hfz55_1, hcz55_2, hfz55_2⟩ := cz3 BK264
    have hnb56 := NB247_230.out
    have hnc56 := NB230_247.out
    have hnb57 := NB247_255.out
    have hnc57 := NB255_247.out
    obtain ⟨hcz58_0, hfz58_0, hcz58_1, hfz58_1, hcz58_2, hfz58_2⟩ := cz3 BK247
    go_wp2_with (first | ((with_reducible refine gate_callee (f := 19) rfl ?_); refine goesL_ (some 38) rfl rfl Try.func19 (by kernel_rfl) rfl #[.agg #[.int .i64 t256, .slice Ao40 t257.length co40, .slice Ao41 t260.length co41], .agg #[.int .i64 t239, .slice Ao24 t240.length co24, .slice Ao25 t243.length co25]] rfl tM ?_; (with_reducible refine (laws_eqPile.calls k t256 _ _ t257 _ _ t260 t239 _ _ t240 _ _ t243 false _ ?side1 ?side2 ?side3 ?side4 ?side5 ?side6 ?side7 ?side8 A42.out).mono ?_); (case side1 => refine (Kd.R_reads' (e := 3) (base := w.heap.size) (ok := fun k_ => ((((((some k_ ≠ (.slice Ao41 t260.length co41 : Value).ownBlock ∧ some k_ ≠ (.slice Ao18 t233.length co18 : Value).ownBlock) ∧ some k_ ≠ (.slice Ao19 t236.length co19 : Value).ownBlock) ∧ some k_ ≠ (.slice Ao24 t240.length co24 : Value).ownBlock) ∧ some k_ ≠ (.slice Ao25 t243.length co25 : Value).ownBlock) ∧ some k_ ≠ (.slice Ao32 t249.length co32 : Value).ownBlock) ∧ some k_ ≠ (.slice Ao33 t252.length co33 : Value).ownBlock)) (n := t257.length) (c := co40) ?_).2.2; exact (by (with_reducible repeat (first | apply Kd.R_alloc | apply Kd.R_drewN | apply Kd.R_drew)); exact (Kd.R_mono (Kd.R_far (p := ⟨gb264, 2, none⟩) (Kd.R_far (p := ⟨gb264, 1, none⟩) (Kd.R_far (p := ⟨gb264, 0, none⟩) (Kd.R_types HO259.out BK264.out (by decide)) (fun _ hk => hk.2) (.int .i64 t256)) (fun _ hk => hk.2) (.slice Ao40 t257.length co40)) (fun _ hk => hk.2) (.slice Ao41 t260.length co41)) (fun _ h_ => h_.1)))); (case side2 => exact (Kd.R_reads' HO259.out).2.1); (case side3 => refine (Kd.R_reads' (e := 3) (base := w.heap.size) (ok := fun k_ => ((((((some k_ ≠ (.slice Ao40 t257.length co40 : Value).ownBlock ∧ some k_ ≠ (.slice Ao18 t233.length co18 : Value).ownBlock) ∧ some k_ ≠ (.slice Ao19 t236.length co19 : Value).ownBlock) ∧ some k_ ≠ (.slice Ao24 t240.length co24 : Value).ownBlock) ∧ some k_ ≠ (.slice Ao25 t243.length co25 : Value).ownBlock) ∧ some k_ ≠ (.slice Ao32 t249.length co32 : Value).ownBlock) ∧ some k_ ≠ (.slice Ao33 t252.length co33 : Value).ownBlock)) (n := t260.length) (c := co41) ?_).2.2; exact (by (with_reducible repeat (first | apply Kd.R_alloc | apply Kd.R_drewN | apply Kd.R_drew)); exact (Kd.R_mono (Kd.R_far (p := ⟨gb264, 2, none⟩) (Kd.R_far (p := ⟨gb264, 1, none⟩) (Kd.R_far (p := ⟨gb264, 0, none⟩) (Kd.R_types HO262.out BK264.out (by decide)) (fun _ hk => hk.2) (.int .i64 t256)) (fun _ hk => hk.2) (.slice Ao40 t257.length co40)) (fun _ hk => hk.2) (.slice Ao41 t260.length co41)) (fun _ h_ => h_.1)))); (case side4 => exact (Kd.R_reads' HO262.out).2.1); (case side5 => refine (Kd.R_reads' (e := 3) (base := w.heap.size) (ok := fun k_ => ((((((some k_ ≠ (.slice Ao25 t243.length co25 : Value).ownBlock ∧ some k_ ≠ (.slice Ao18 t233.length co18 : Value).ownBlock) ∧ some k_ ≠ (.slice Ao19 t236.length co19 : Value).ownBlock) ∧ some k_ ≠ (.slice Ao32 t249.length co32 : Value).ownBlock) ∧ some k_ ≠ (.slice Ao33 t252.length co33 : Value).ownBlock) ∧ some k_ ≠ (.slice Ao40 t257.length co40 : Value).ownBlock) ∧ some k_ ≠ (.slice Ao41 t260.length co41 : Value).ownBlock)) (n := t240.length) (c := co24) ?_).2.2; exact (by (with_reducible repeat (first | apply Kd.R_alloc | apply Kd.R_drewN | apply Kd.R_drew)); exact (Kd.R_mono (Kd.R_far (p := ⟨gb264, 2, none⟩) (Kd.R_far (p := ⟨gb264, 1, none⟩) (Kd.R_far (p := ⟨gb264, 0, none⟩) (Kd.R_types HO242.out BK264.out (by decide)) (fun _ hk => hk.2) (.int .i64 t256)) (fun _ hk => hk.2) (.slice Ao40 t257.length co40)) (fun _ hk => hk.2) (.slice Ao41 t260.length co41)) (fun _ h_ => h_.1)))); (case side6 => exact (Kd.R_reads' HO242.out).2.1); (case side7 => refine (Kd.R_reads' (e := 3) (base := w.heap.size) (ok := fun k_ => ((((((some k_ ≠ (.slice Ao24 t240.length co24 : Value).ownBlock ∧ some k_ ≠ (.slice Ao18 t233.length co18 : Value).ownBlock) ∧ some k_ ≠ (.slice Ao19 t236.length co19 : Value).ownBlock) ∧ some k_ ≠ (.slice Ao32 t249.length co32 : Value).ownBlock) ∧ some k_ ≠ (.slice Ao33 t252.length co33 : Value).ownBlock) ∧ some k_ ≠ (.slice Ao40 t257.length co40 : Value).ownBlock) ∧ some k_ ≠ (.slice Ao41 t260.length co41 : Value).ownBlock)) (n := t243.length) (c := co25) ?_).2.2; exact (by (with_reducible repeat (first | apply Kd.R_alloc | apply Kd.R_drewN | apply Kd.R_drew)); exact (Kd.R_mono (Kd.R_far (p := ⟨gb264, 2, none⟩) (Kd.R_far (p := ⟨gb264, 1, none⟩) (Kd.R_far (p := ⟨gb264, 0, none⟩) (Kd.R_types HO245.out BK264.out (by decide)) (fun _ hk => hk.2) (.int .i64 t256)) (fun _ hk => hk.2) (.slice Ao40 t257.length co40)) (fun _ hk => hk.2) (.slice Ao41 t260.length co41)) (fun _ h_ => h_.1)))); (case side8 => exact (Kd.R_reads' HO245.out).2.1); rintro e w59 ⟨rfl, hb⟩; refine ⟨_, rfl, ?_⟩; replace HO235 := Aside0.mk (Kd.R_below (by (with_reducible repeat (first | apply Kd.R_alloc | apply Kd.R_drewN | apply Kd.R_drew)); exact (Kd.R_mono (Kd.R_far (p := ⟨gb264, 2, none⟩) (Kd.R_far (p := ⟨gb264, 1, none⟩) (Kd.R_far (p := ⟨gb264, 0, none⟩) (Kd.R_types HO235.out BK264.out (by decide)) (fun _ hk => hk.2) (.int .i64 t256)) (fun _ hk => hk.2) (.slice Ao40 t257.length co40)) (fun _ hk => hk.2) (.slice Ao41 t260.length co41)) (fun _ h_ => h_.1))) hb); replace HO238 := Aside0.mk (Kd.R_below (by (with_reducible repeat (first | apply Kd.R_alloc | apply Kd.R_drewN | apply Kd.R_drew)); exact (Kd.R_mono (Kd.R_far (p := ⟨gb264, 2, none⟩) (Kd.R_far (p := ⟨gb264, 1, none⟩) (Kd.R_far (p := ⟨gb264, 0, none⟩) (Kd.R_types HO238.out BK264.out (by decide)) (fun _ hk => hk.2) (.int .i64 t256)) (fun _ hk => hk.2) (.slice Ao40 t257.length co40)) (fun _ hk => hk.2) (.slice Ao41 t260.length co41)) (fun _ h_ => h_.1))) hb); replace HO242 := Aside0.mk (Kd.R_below (by (with_reducible repeat (first | apply Kd.R_alloc | apply Kd.R_drewN | apply Kd.R_drew)); exact (Kd.R_mono (Kd.R_far (p := ⟨gb264, 2, none⟩) (Kd.R_far (p := ⟨gb264, 1, none⟩) (Kd.R_far (p := ⟨gb264, 0, none⟩) (Kd.R_types HO242.out BK264.out (by decide)) (fun _ hk => hk.2) (.int .i64 t256)) (fun _ hk => hk.2) (.slice Ao40 t257.length co40)) (fun _ hk => hk.2) (.slice Ao41 t260.length co41)) (fun _ h_ => h_.1))) hb); replace HO245 := Aside0.mk (Kd.R_below (by (with_reducible repeat (first | apply Kd.R_alloc | apply Kd.R_drewN | apply Kd.R_drew)); exact (Kd.R_mono (Kd.R_far (p := ⟨gb264, 2, none⟩) (Kd.R_far (p := ⟨gb264, 1, none⟩) (Kd.R_far (p := ⟨gb264, 0, none⟩) (Kd.R_types HO245.out BK264.out (by decide)) (fun _ hk => hk.2) (.int .i64 t256)) (fun _ hk => hk.2) (.slice Ao40 t257.length co40)) (fun _ hk => hk.2) (.slice Ao41 t260.length co41)) (fun _ h_ => h_.1))) hb); replace HO251 := Aside0.mk (Kd.R_below (by (with_reducible repeat (first | apply Kd.R_alloc | apply Kd.R_drewN | apply Kd.R_drew)); exact (Kd.R_mono (Kd.R_far (p := ⟨gb264, 2, none⟩) (Kd.R_far (p := ⟨gb264, 1, none⟩) (Kd.R_far (p := ⟨gb264, 0, none⟩) (Kd.R_types HO251.out BK264.out (by decide)) (fun _ hk => hk.2) (.int .i64 t256)) (fun _ hk => hk.2) (.slice Ao40 t257.length co40)) (fun _ hk => hk.2) (.slice Ao41 t260.length co41)) (fun _ h_ => h_.1))) hb); replace HO254 := Aside0.mk (Kd.R_below (by (with_reducible repeat (first | apply Kd.R_alloc | apply Kd.R_drewN | apply Kd.R_drew)); exact (Kd.R_mono (Kd.R_far (p := ⟨gb264, 2, none⟩) (Kd.R_far (p := ⟨gb264, 1, none⟩) (Kd.R_far (p := ⟨gb264, 0, none⟩) (Kd.R_types HO254.out BK264.out (by decide)) (fun _ hk => hk.2) (.int .i64 t256)) (fun _ hk => hk.2) (.slice Ao40 t257.length co40)) (fun _ hk => hk.2) (.slice Ao41 t260.length co41)) (fun _ h_ => h_.1))) hb); replace HO259 := Aside0.mk (Kd.R_below (by (with_reducible repeat (first | apply Kd.R_alloc | apply Kd.R_drewN | apply Kd.R_drew)); exact (Kd.R_mono (Kd.R_far (p := ⟨gb264, 2, none⟩) (Kd.R_far (p := ⟨gb264, 1, none⟩) (Kd.R_far (p := ⟨gb264, 0, none⟩) (Kd.R_types HO259.out BK264.out (by decide)) (fun _ hk => hk.2) (.int .i64 t256)) (fun _ hk => hk.2) (.slice Ao40 t257.length co40)) (fun _ hk => hk.2) (.slice Ao41 t260.length co41)) (fun _ h_ => h_.1))) hb); replace HO262 := Aside0.mk (Kd.R_below (by (with_reducible repeat (first | apply Kd.R_alloc | apply Kd.R_drewN | apply Kd.R_drew)); exact (Kd.R_mono (Kd.R_far (p := ⟨gb264, 2, none⟩) (Kd.R_far (p := ⟨gb264, 1, none⟩) (Kd.R_far (p := ⟨gb264, 0, none⟩) (Kd.R_types HO262.out BK264.out (by decide)) (fun _ hk => hk.2) (.int .i64 t256)) (fun _ hk => hk.2) (.slice Ao40 t257.length co40)) (fun _ hk => hk.2) (.slice Ao41 t260.length co41)) (fun _ h_ => h_.1))) hb); replace BK230 := Aside0.mk (blk_below (g := gb230) (o := .cells #[.int .i64 a0_0, .slice A0_1 l0_1.length c0_1, .slice A0_2 l0_2.length c0_2] 24 (0, 0)) (by (with_reducible repeat (first | refine blk_drewN ?_ _ | refine blk_drew ?_ | refine blk_alloc ?_ _)); refine blk_far ?_ NB230_264.out _; (with_reducible repeat (first | refine blk_drewN ?_ _ | refine blk_drew ?_ | refine blk_alloc ?_ _)); refine blk_far ?_ NB230_264.out _; (with_reducible repeat (first | refine blk_drewN ?_ _ | refine blk_drew ?_ | refine blk_alloc ?_ _)); refine blk_far ?_ NB230_264.out _; (with_reducible repeat (first | refine blk_drewN ?_ _ | refine blk_drew ?_ | refine blk_alloc ?_ _)); exact BK230.out) hb); replace BK247 := Aside0.mk (blk_below (g := gb247) (o := .cells #[.int .i64 t239, .slice Ao24 t240.length co24, .slice Ao25 t243.length co25] 28 (0, 0)) (by (with_reducible repeat (first | refine blk_drewN ?_ _ | refine blk_drew ?_ | refine blk_alloc ?_ _)); refine blk_far ?_ NB247_264.out _; (with_reducible repeat (first | refine blk_drewN ?_ _ | refine blk_drew ?_ | refine blk_alloc ?_ _)); refine blk_far ?_ NB247_264.out _; (with_reducible repeat (first | refine blk_drewN ?_ _ | refine blk_drew ?_ | refine blk_alloc ?_ _)); refine blk_far ?_ NB247_264.out _; (with_reducible repeat (first | refine blk_drewN ?_ _ | refine blk_drew ?_ | refine blk_alloc ?_ _)); exact BK247.out) hb); replace BK255 := Aside0.mk (blk_below (g := gb255) (o := .cells #[.int .i64 t248, .slice Ao32 t249.length co32, .slice Ao33 t252.length co33] 28 (0, 0)) (by (with_reducible repeat (first | refine blk_drewN ?_ _ | refine blk_drew ?_ | refine blk_alloc ?_ _)); refine blk_far ?_ NB255_264.out _; (with_reducible repeat (first | refine blk_drewN ?_ _ | refine blk_drew ?_ | refine blk_alloc ?_ _)); refine blk_far ?_ NB255_264.out _; (with_reducible repeat (first | refine blk_drewN ?_ _ | refine blk_drew ?_ | refine blk_alloc ?_ _)); refine blk_far ?_ NB255_264.out _; (with_reducible repeat (first | refine blk_drewN ?_ _ | refine blk_drew ?_ | refine blk_alloc ?_ _)); exact BK255.out) hb); replace BK264 := Aside0.mk (blk_below (g := gb264) (o := .cells #[.int .i64 t256, .slice Ao40 t257.length co40, .slice Ao41 t260.length co41] 28 (0, 0)) (by (with_reducible repeat (first | refine blk_drewN ?_ _ | refine blk_drew ?_ | refine blk_alloc ?_ _)); refine blk_put (cs := #[.int .i64 t256, .slice Ao40 t257.length co40, .slice none 0 0]) ?_ 2 _ rfl; (with_reducible repeat (first | refine blk_drewN ?_ _ | refine blk_drew ?_ | refine blk_alloc ?_ _)); refine blk_put (cs := #[.int .i64 t256, .slice none 0 0, .slice none 0 0]) ?_ 1 _ rfl; (with_reducible repeat (first | refine blk_drewN ?_ _ | refine blk_drew ?_ | refine blk_alloc ?_ _)); refine blk_put (cs := #[.int .i64 0, .slice none 0 0, .slice none 0 0]) ?_ 0 _ rfl; (with_reducible repeat (first | refine blk_drewN ?_ _ | refine blk_drew ?_ | refine blk_alloc ?_ _)); exact BK264.out) hb); replace HB := Aside0.mk (below_step (tB HB.out) hb); (try clear hb); (try clear hb2); (try clear hk); (try clear hi)))
    go_meet
    case rel => exact ⟨_, (true), (by first | rfl | (simp; done) | (simp [wrap64]; done) | (simp [*]; done)), H', ⟨by first | omega | exact Nat.le_refl _⟩, ⟨by (with_reducible repeat (first | apply Kd.R_alloc | apply Kd.R_drewN | apply Kd.R_drew)); exact Kd.R_mono HO242.out (fun _ hk => ⟨hk.1.1.1.1.1.1, ⟨hk.1.1.1.2, ⟨hk.1.1.2, ⟨hk.1.2, hk.2⟩⟩⟩⟩)⟩, ⟨by (with_reducible repeat (first | apply Kd.R_alloc | apply Kd.R_drewN | apply Kd.R_drew)); exact Kd.R_mono HO245.out (fun _ hk => ⟨hk.1.1.1.1.1.1, ⟨hk.1.1.1.2, ⟨hk.1.1.2, ⟨hk.1.2, hk.2⟩⟩⟩⟩)⟩, ⟨by (with_reducible repeat (first | apply Kd.R_alloc | apply Kd.R_drewN | apply Kd.R_drew)); exact Kd.R_mono HO251.out (fun _ hk => ⟨hk.1.1.1.2, ⟨hk.1.1.2, ⟨hk.1.1.1.1.1.1, ⟨hk.1.2, hk.2⟩⟩⟩⟩)⟩, ⟨by (with_reducible repeat (first | apply Kd.R_alloc | apply Kd.R_drewN | apply Kd.R_drew)); exact Kd.R_mono HO254.out (fun _ hk => ⟨hk.1.1.1.2, ⟨hk.1.1.2, ⟨hk.1.1.1.1.1.1, ⟨hk.1.2, hk.2⟩⟩⟩⟩)⟩, ⟨by (with_reducible repeat (first | apply Kd.R_alloc | apply Kd.R_drewN | apply Kd.R_drew)); exact Kd.R_mono HO259.out (fun _ hk => ⟨hk.1.1.1.2, ⟨hk.1.1.2, ⟨hk.1.2, ⟨hk.2, hk.1.1.1.1.1.1⟩⟩⟩⟩)⟩, ⟨by (with_reducible repeat (first | apply Kd.R_alloc | apply Kd.R_drewN | apply Kd.R_drew)); exact Kd.R_mono HO262.out (fun _ hk => ⟨hk.1.1.1.2, ⟨hk.1.1.2, ⟨hk.1.2, ⟨hk.2, hk.1.1.1.1.1.1⟩⟩⟩⟩)⟩, ⟨tK BK230.out⟩, ⟨tK BK247.out⟩, ⟨tK BK255.out⟩, ⟨tK BK264.out⟩, ⟨tB HB.out⟩⟩
  case rest =>
   clear HC12
   try clear c1
   try clear c2
   try clear p2
   try clear c3
   try clear c4
   try clear c4b0
   try clear c5
   try clear p6
   try clear c12
   try clear c15
   try clear c17
   try clear c19
   try clear c22
   try clear c29
   try clear c30
   try clear c36
   try clear c37
   try clear c38
   try clear c39
   try clear c40
   try clear c43
   try clear c44
   try clear c45
   try clear c46
   try clear c48
   try clear c49
   try clear c52
   try clear c53
   try clear c54
   try clear c56
   try clear c57
   try clear hcz14_0
   try clear hcz14_1
   try clear hcz14_2
   try clear hcz16_0
   try clear hcz16_1
   try clear hcz16_2
   try clear hcz23_0
   try clear hcz23_1
   try clear hcz23_2
   try clear hcz26_0
   try clear hcz26_1
   try clear hcz26_2
   try clear hcz31_0
   try clear hcz31_1
   try clear hcz31_2
   try clear hcz39_0
   try clear hcz39_1
   try clear hcz39_2
   try clear hcz47_0
   try clear hcz47_1
   try clear hcz47_2
   try clear hcz50_0
   try clear hcz50_1
   try clear hcz50_2
   try clear hcz55_0
   try clear hcz55_1
   try clear hcz55_2
   try clear hcz58_0
   try clear hcz58_1
   try clear hcz58_2
   try clear hcz6_0
   try clear hcz6_1
   try clear hcz6_2
   try clear hfz14_0
   try clear hfz14_1
   try clear hfz14_2
   try clear hfz16_0
   try clear hfz16_1
   try clear hfz16_2
   try clear hfz23_0
   try clear hfz23_1
   try clear hfz23_2
   try clear hfz26_0
   try clear hfz26_1
   try clear hfz26_2
   try clear hfz31_0
   try clear hfz31_1
   try clear hfz31_2
   try clear hfz39_0
   try clear hfz39_1
   try clear hfz39_2
   try clear hfz47_0
   try clear hfz47_1
   try clear hfz47_2
   try clear hfz50_0
   try clear hfz50_1
   try clear hfz50_2
   try clear hfz55_0
   try clear hfz55_1
   try clear hfz55_2
   try clear hfz58_0
   try clear hfz58_1
   try clear hfz58_2
   try clear hfz6_0
   try clear hfz6_1
   try clear hfz6_2
   obtain ⟨kq, x44_11, rfl, HA, HJ11, HO_248001, HO_248002, HO_256001, HO_256002, HO_265001, HO_265002, BK230, BK247, BK255, BK264, HB⟩ := hcut
   cases kq with
   | zero => exact absurd HA.out (by simp [laws_FnExactShiftPile.j0])
   | succ kj11 =>
    have H := HA.out
    clear HA
    simp only [laws_FnExactShiftPile.j0] at H
    by_cases c60 : x44_11 = true
    ·
     subst c60
     have H1 : (some false) = some r := by rw [if_pos rfl] at H; exact H
     clear H
     have H := H1
     clear H1
     obtain rfl := Option.some.inj H
     go_wp2
     go_ret
     exact ⟨by first | rfl | (simp [errW_none, errW_some] <;> rfl) | (simp [*, errW_none, errW_some] <;> rfl), tB HB.out⟩
    ·
     replace c60 := Bool.eq_false_iff.mpr c60
     subst c60
     have H1 : ((laws_toPile.f kj11 a0_0 l0_1 l0_2).bind fun bt266 => ((laws_eqPile.f kj11 t248 t249 t252 bt266.1 bt266.2.1 bt266.2.2).bind fun t273 => (if t273 = true then ((laws_markPile.f kj11 t248 t249 t252 1).bind fun bt274 => (if bt274.1 < 0 then (laws_FnExactShiftPile.j1 kj11 a1 t246 true a0_0 l0_1 l0_2 t239 t240 t243 t256 t257 t260) else ((laws_eqPile.f kj11 t256 t257 t260 t239 t240 t243).bind fun t277 => (if t277 = true then (laws_FnExactShiftPile.j1 kj11 a1 t246 (t263 != t246) a0_0 l0_1 l0_2 t239 t240 t243 t256 t257 t260) else (laws_FnExactShiftPile.j1 kj11 a1 t246 true a0_0 l0_1 l0_2 t239 t240 t243 t256 t257 t260))))) else (some false)))) = some r := by rw [if_neg (show ¬ (false = true) by decide)] at H; exact H
     clear H
     have H := H1
     clear H1
     replace H := Option.bind_eq_some_iff.mp H
     obtain ⟨⟨t266, t267, t270⟩, A610, H⟩ := H
     replace H : ((laws_eqPile.f kj11 t248 t249 t252 t266 t267 t270).bind fun t273 => (if t273 = true then ((laws_markPile.f kj11 t248 t249 t252 1).bind fun bt274 => (if bt274.1 < 0 then (laws_FnExactShiftPile.j1 kj11 a1 t246 true a0_0 l0_1 l0_2 t239 t240 t243 t256 t257 t260) else ((laws_eqPile.f kj11 t256 t257 t260 t239 t240 t243).bind fun t277 => (if t277 = true then (laws_FnExactShiftPile.j1 kj11 a1 t246 (t263 != t246) a0_0 l0_1 l0_2 t239 t240 t243 t256 t257 t260) else (laws_FnExactShiftPile.j1 kj11 a1 t246 true a0_0 l0_1 l0_2 t239 t240 t243 t256 t257 t260))))) else (some false))) = some r := H
     have A61 := Aside0.mk A610
     clear A610
     replace H := Option.bind_eq_some_iff.mp H
     obtain ⟨t273, A620, H⟩ := H
     replace H : (if t273 = true then ((laws_markPile.f kj11 t248 t249 t252 1).bind fun bt274 => (if bt274.1 < 0 then (laws_FnExactShiftPile.j1 kj11 a1 t246 true a0_0 l0_1 l0_2 t239 t240 t243 t256 t257 t260) else ((laws_eqPile.f kj11 t256 t257 t260 t239 t240 t243).bind fun t277 => (if t277 = true then (laws_FnExactShiftPile.j1 kj11 a1 t246 (t263 != t246) a0_0 l0_1 l0_2 t239 t240 t243 t256 t257 t260) else (laws_FnExactShiftPile.j1 kj11 a1 t246 true a0_0 l0_1 l0_2 t239 t240 t243 t256 t257 t260))))) else (some false)) = some r := H
     have A62 := Aside0.mk A620
     clear A620
     by_cases c63 : t273 = true
     ·
      subst c63
      have H1 : ((laws_markPile.f kj11 t248 t249 t252 1).bind fun bt274 => (if bt274.1 < 0 then (laws_FnExactShiftPile.j1 kj11 a1 t246 true a0_0 l0_1 l0_2 t239 t240 t243 t256 t257 t260) else ((laws_eqPile.f kj11 t256 t257 t260 t239 t240 t243).bind fun t277 => (if t277 = true then (laws_FnExactShiftPile.j1 kj11 a1 t246 (t263 != t246) a0_0 l0_1 l0_2 t239 t240 t243 t256 t257 t260) else (laws_FnExactShiftPile.j1 kj11 a1 t246 true a0_0 l0_1 l0_2 t239 t240 t243 t256 t257 t260))))) = some r := by rw [if_pos rfl] at H; exact H
      clear H
      have H := H1
      clear H1
      replace H := Option.bind_eq_some_iff.mp H
      obtain ⟨⟨t274, t275, t276⟩, A640, H⟩ := H
      replace H : (if t274 < 0 then (laws_FnExactShiftPile.j1 kj11 a1 t246 true a0_0 l0_1 l0_2 t239 t240 t243 t256 t257 t260) else ((laws_eqPile.f kj11 t256 t257 t260 t239 t240 t243).bind fun t277 => (if t277 = true then (laws_FnExactShiftPile.j1 kj11 a1 t246 (t263 != t246) a0_0 l0_1 l0_2 t239 t240 t243 t256 t257 t260) else (laws_FnExactShiftPile.j1 kj11 a1 t246 true a0_0 l0_1 l0_2 t239 t240 t243 t256 t257 t260)))) = some r := H
      have A64 := Aside0.mk A640
      clear A640
      have HC65 := Aside0.mk H
      clear H
      try go_wp2
      replace HO_248001 := Aside0.mk (Kd.R_drew HO_248001.out)
      replace HO_248002 := Aside0.mk (Kd.R_drew HO_248002.out)
      replace HO_256001 := Aside0.mk (Kd.R_drew HO_256001.out)
      replace HO_256002 := Aside0.mk (Kd.R_drew HO_256002.out)
      replace HO_265001 := Aside0.mk (Kd.R_drew HO_265001.out)
      replace HO_265002 := Aside0.mk (Kd.R_drew HO_265002.out)
      replace BK230 := Aside0.mk (blk_drew BK230.out)
      replace BK247 := Aside0.mk (blk_drew BK247.out)
      replace BK255 := Aside0.mk (blk_drew BK255.out)
      replace BK264 := Aside0.mk (blk_drew BK264.out)
      replace HB := Aside0.mk (below_drew1 HB.out)
      refine start_ (n := 5) (S := fun w' => w'.cell? ⟨gb255, 0, none⟩ = some (.int .i64 t248) ∧ w'.cell? ⟨gb255, 1, none⟩ = some (.slice Ao32 t249.length co32) ∧ w'.cell? ⟨gb255, 2, none⟩ = some (.slice Ao33 t252.length co33) ∧ w'.cell? ⟨gb230, 0, none⟩ = some (.int .i64 a0_0) ∧ w'.cell? ⟨gb230, 1, none⟩ = some (.slice A0_1 l0_1.length c0_1) ∧ w'.cell? ⟨gb230, 2, none⟩ = some (.slice A0_2 l0_2.length c0_2)) (ds := []) #[false, false, false, false, false] (by kernel_rfl) rfl rfl ⟨(blk_cell BK255.out 0).trans rfl, (blk_cell BK255.out 1).trans rfl, (blk_cell BK255.out 2).trans rfl, (blk_cell BK230.out 0).trans rfl, (blk_cell BK230.out 1).trans rfl, (blk_cell BK230.out 2).trans rfl⟩ (fun hHeld => ?_)
      generalize wc.drew = w66 at HO_248001 HO_248002 HO_256001 HO_256002 HO_265001 HO_265002 BK230 BK247 BK255 BK264 HB hHeld ⊢
      refine take_ (i := 0) (N := some 45) (v := ?_) (a' := ?_) #[true, false, false, false, false] rfl rfl (by kernel_rfl) (fun _ _ _ h => h) (Or.inl ⟨by rfl, ?_⟩) hHeld ?_ ?_
      rotate_left
      ·
       rintro w' ⟨s0, s1, s2, s3, s4, s5⟩
       go_simp
       with_reducible rfl
      rotate_left
      ·
       simp only [Act.put, List.setIfInBounds_toArray, List.set_cons_zero, List.set_cons_succ, i64_w, i32_w]
       rfl
      refine take_ (i := 1) (N := some 46) (v := ?_) (a' := ?_) #[true, true, false, false, false] rfl rfl (by kernel_rfl) (fun _ _ _ h => h) (Or.inl ⟨by rfl, ?_⟩) hHeld ?_ ?_
      rotate_left
      ·
       rintro w' ⟨s0, s1, s2, s3, s4, s5⟩
       go_simp
       with_reducible rfl
      rotate_left
      ·
       simp only [Act.put, List.setIfInBounds_toArray, List.set_cons_zero, List.set_cons_succ, i64_w, i32_w]
       rfl
      refine one_ (i := 2) (N := some 47) #[true, true, true, false, false] rfl rfl (by kernel_rfl) (by decide) (fun K hK => ?_)
      refine goes_ Try.func17 (by kernel_rfl) rfl #[.agg #[.int .i64 a0_0, .slice A0_1 l0_1.length c0_1, .slice A0_2 l0_2.length c0_2]] (by rfl) rfl rfl tM ?_
      with_reducible refine (laws_toPile.calls kj11 a0_0 _ _ l0_1 _ _ l0_2 t266 t267 t270 _ ?side1 ?side2 ?side3 ?side4 A61.out).mono ?_
      (case side1 => exact tC (Kd.C_below HR0_1.out HB.out))
      (case side2 => exact HC0_1.out)
      (case side3 => exact tC (Kd.C_below HR0_2.out HB.out))
      (case side4 => exact HC0_2.out)
      rintro e w67 ⟨v268, v271, rfl, ho0, ho1, hb⟩
      refine ⟨_, rfl, ?_⟩
      have HO269 := Aside0.mk (Kd.R_lower (Kd.R_new' (Kd.R_new' (Kd.R_new' (Kd.R_new' (Kd.R_new' (Kd.R_new' ho0 (Kd.R_lt (tR HO_248001.out))) (Kd.R_lt (tR HO_248002.out))) (Kd.R_lt (tR HO_256001.out))) (Kd.R_lt (tR HO_256002.out))) (Kd.R_lt (tR HO_265001.out))) (Kd.R_lt (tR HO_265002.out))) (below_size (tB HB.out)))
      have HO272 := Aside0.mk (Kd.R_lower (Kd.R_new' (Kd.R_new' (Kd.R_new' (Kd.R_new' (Kd.R_new' (Kd.R_new' ho1 (Kd.R_lt (tR HO_248001.out))) (Kd.R_lt (tR HO_248002.out))) (Kd.R_lt (tR HO_256001.out))) (Kd.R_lt (tR HO_256002.out))) (Kd.R_lt (tR HO_265001.out))) (Kd.R_lt (tR HO_265002.out))) (below_size (tB HB.out)))
      replace HO_248001 := Aside0.mk (Kd.R_mono (Kd.R_told (Kd.R_told (Kd.R_old (tR HO_248001.out) hb) (Kd.R_base ho0)) (Kd.R_base ho1)) (fun _ h_ => h_.1))
      replace HO_248002 := Aside0.mk (Kd.R_mono (Kd.R_told (Kd.R_told (Kd.R_old (tR HO_248002.out) hb) (Kd.R_base ho0)) (Kd.R_base ho1)) (fun _ h_ => h_.1))
      replace HO_256001 := Aside0.mk (Kd.R_mono (Kd.R_told (Kd.R_told (Kd.R_old (tR HO_256001.out) hb) (Kd.R_base ho0)) (Kd.R_base ho1)) (fun _ h_ => h_.1))
      replace HO_256002 := Aside0.mk (Kd.R_mono (Kd.R_told (Kd.R_told (Kd.R_old (tR HO_256002.out) hb) (Kd.R_base ho0)) (Kd.R_base ho1)) (fun _ h_ => h_.1))
      replace HO_265001 := Aside0.mk (Kd.R_mono (Kd.R_told (Kd.R_told (Kd.R_old (tR HO_265001.out) hb) (Kd.R_base ho0)) (Kd.R_base ho1)) (fun _ h_ => h_.1))
      replace HO_265002 := Aside0.mk (Kd.R_mono (Kd.R_told (Kd.R_told (Kd.R_old (tR HO_265002.out) hb) (Kd.R_base ho0)) (Kd.R_base ho1)) (fun _ h_ => h_.1))
      replace BK230 := bkB BK230 hb
      replace BK247 := bkB BK247 hb
      replace BK255 := bkB BK255 hb
      replace BK264 := bkB BK264 hb
      replace HB := Aside0.mk (below_step (tB HB.out) hb)
      (try clear hb)
      (try clear hb2)
      (try clear hk)
      (try clear hi)
      (try clear ho0)
      (try clear ho1)
      obtain ⟨Ao68, co68, eo68⟩ := Kd.R_slice HO269.out
      (first | subst eo68 | (injection eo68 with f1_ f2_ f3_; have f4_ := f1_.symm; have f5_ := f3_.symm; clear f1_ f2_ f3_; subst f4_; subst f5_))
      obtain ⟨Ao69, co69, eo69⟩ := Kd.R_slice HO272.out
      (first | subst eo69 | (injection eo69 with f1_ f2_ f3_; have f4_ := f1_.symm; have f5_ := f3_.symm; clear f1_ f2_ f3_; subst f4_; subst f5_))
      refine hK.out _ _ ⟨(blk_cell BK255.out 0).trans rfl, (blk_cell BK255.out 1).trans rfl, (blk_cell BK255.out 2).trans rfl, (blk_cell BK230.out 0).trans rfl, (blk_cell BK230.out 1).trans rfl, (blk_cell BK230.out 2).trans rfl⟩ (fun hHeld => ?_)
      clear hK K
      refine norm_ (a' := ?_) ?_ ?_
      rotate_left
      ·
       show Act.put _ (some 47) _ = _
       simp only [Act.put, List.setIfInBounds_toArray, List.set_cons_zero, List.set_cons_succ, i64_w, i32_w]
       rfl
      refine one_ (i := 3) (N := some 48) #[true, true, true, true, false] rfl rfl (by kernel_rfl) (by decide) (fun K hK => ?_)
      refine goes_ Try.func19 (by kernel_rfl) rfl #[.agg #[.int .i64 t248, .slice Ao32 t249.length co32, .slice Ao33 t252.length co33], .agg #[.int .i64 t266, .slice Ao68 t267.length co68, .slice Ao69 t270.length co69]] (by rfl) rfl rfl tM ?_
      with_reducible refine (laws_eqPile.calls kj11 t248 _ _ t249 _ _ t252 t266 _ _ t267 _ _ t270 true _ ?side1 ?side2 ?side3 ?side4 ?side5 ?side6 ?side7 ?side8 A62.out).mono ?_
      (case side1 => exact tC (Kd.R_reads' HO_256001.out).2.2)
      (case side2 => exact (Kd.R_reads' HO_256001.out).2.1)
      (case side3 => exact tC (Kd.R_reads' HO_256002.out).2.2)
      (case side4 => exact (Kd.R_reads' HO_256002.out).2.1)
      (case side5 => exact tC (Kd.R_reads' HO269.out).2.2)
      (case side6 => exact (Kd.R_reads' HO269.out).2.1)
      (case side7 => exact tC (Kd.R_reads' HO272.out).2.2)
      (case side8 => exact (Kd.R_reads' HO272.out).2.1)
      rintro e w70 ⟨rfl, hb⟩
      refine ⟨_, rfl, ?_⟩
      replace HO_248001 := Aside0.mk (Kd.R_below (tR HO_248001.out) hb)
      replace HO_248002 := Aside0.mk (Kd.R_below (tR HO_248002.out) hb)
      replace HO_256001 := Aside0.mk (Kd.R_below (tR HO_256001.out) hb)
      replace HO_256002 := Aside0.mk (Kd.R_below (tR HO_256002.out) hb)
      replace HO_265001 := Aside0.mk (Kd.R_below (tR HO_265001.out) hb)
      replace HO_265002 := Aside0.mk (Kd.R_below (tR HO_265002.out) hb)
      replace HO269 := Aside0.mk (Kd.R_below (tR HO269.out) hb)
      replace HO272 := Aside0.mk (Kd.R_below (tR HO272.out) hb)
      replace BK230 := bkB BK230 hb
      replace BK247 := bkB BK247 hb
      replace BK255 := bkB BK255 hb
      replace BK264 := bkB BK264 hb
      replace HB := Aside0.mk (below_step (tB HB.out) hb)
      (try clear hb)
      (try clear hb2)
      (try clear hk)
      (try clear hi)
      refine hK.out _ _ ⟨(blk_cell BK255.out 0).trans rfl, (blk_cell BK255.out 1).trans rfl, (blk_cell BK255.out 2).trans rfl, (blk_cell BK230.out 0).trans rfl, (blk_cell BK230.out 1).trans rfl, (blk_cell BK230.out 2).trans rfl⟩ (fun hHeld => ?_)
      clear hK K
      refine norm_ (a' := ?_) ?_ ?_
      rotate_left
      ·
       show Act.put _ (some 48) _ = _
       simp only [Act.put, List.setIfInBounds_toArray, List.set_cons_zero, List.set_cons_succ, i64_w, i32_w]
       rfl
      refine pure_ (i := 4) (N := some 49) (v := ?_) (a' := ?_) #[true, true, true, true, true] rfl rfl (by kernel_rfl) (fun _ _ _ h => h) (Or.inl ⟨by rfl, ?_⟩) ?_ ?_
      rotate_left
      ·
       intro w'
       go_simp
       with_reducible rfl
      rotate_left
      ·
       simp only [Act.put, List.setIfInBounds_toArray, List.set_cons_zero, List.set_cons_succ, i64_w, i32_w]
       rfl
      refine done_ (by kernel_rfl) ?_
      have hnb71 := NB255_230.out
      have hnc71 := NB230_255.out
      have hnb72 := NB255_247.out
      have hnc72 := NB247_255.out
      have hnb73 := NB255_264.out
      have hnc73 := NB264_255.out
      obtain ⟨hcz74_0, hfz74_0, hcz74_1, hfz74_1, hcz74_2, hfz74_2⟩ := cz3 BK255
      go_upto_region 14 with (first | ((with_reducible refine gate_callee (f := 24) rfl ?_); refine goesL_ (some 52) rfl rfl Try.func24 (by kernel_rfl) rfl #[.agg #[.int .i64 t248, .slice Ao32 t249.length co32, .slice Ao33 t252.length co33], .int .i64 1] rfl tM ?_; (with_reducible refine (laws_markPile.calls kj11 t248 (fun k_ => some k_ = (.slice Ao32 t249.length co32 : Value).ownBlock) (.slice Ao32 t249.length co32) t249 (fun k_ => some k_ = (.slice Ao33 t252.length co33 : Value).ownBlock) (.slice Ao33 t252.length co33) t252 1 t274 t275 t276 w _ ?side1 ?side2 ?side3 ?side4 ?side5 A64.out).mono ?_); (case side1 => repeat (first | (with_reducible first | exact HB.out | apply below_alloc | apply pw_below_drewN | apply below_drew1 | refine below_set ?_ GE230.out | refine below_set ?_ GE247.out | refine below_set ?_ GE255.out | refine below_set ?_ GE264.out) | exact HB.out)); (case side2 => exact Kd.R_tight rfl HO_256001.out); (case side3 => exact fun k_ e_ => (HO_256001.out.1 k_ e_.symm).1.1.2.2.1); (case side4 => exact Kd.R_tight rfl HO_256002.out); (case side5 => exact fun k_ e_ => (HO_256002.out.1 k_ e_.symm).1.1.2.2.1); rintro e w75 ⟨rfl, hy0, hy1, hb, hkp⟩; refine ⟨_, rfl, ?_⟩; replace HO_248001 := Aside0.mk (Kd.R_mono (ok' := fun k_ => some k_ ≠ (.slice Ao25 t243.length co25 : Value).ownBlock ∧ some k_ ≠ (.slice Ao32 t249.length co32 : Value).ownBlock ∧ some k_ ≠ (.slice Ao33 t252.length co33 : Value).ownBlock ∧ some k_ ≠ (.slice Ao40 t257.length co40 : Value).ownBlock ∧ some k_ ≠ (.slice Ao41 t260.length co41 : Value).ownBlock ∧ some k_ ≠ (.slice Ao68 t267.length co68 : Value).ownBlock ∧ some k_ ≠ (.slice Ao69 t270.length co69 : Value).ownBlock) (Kd.R_keptB (HO_248001.out) hkp (fun k_ hk_ hs_ => Or.elim hs_ (fun e_ => (hk_.1.1.2.1) e_) (fun e_ => (hk_.1.1.2.2.1) e_))) (fun k_ hk_ => ⟨hk_.1.1.1.1, hk_.1.1.1.2.1, hk_.1.1.1.2.2.1, hk_.1.1.1.2.2.2.1, hk_.1.1.1.2.2.2.2, hk_.1.1.2, hk_.1.2⟩)); replace HO_248002 := Aside0.mk (Kd.R_mono (ok' := fun k_ => some k_ ≠ (.slice Ao24 t240.length co24 : Value).ownBlock ∧ some k_ ≠ (.slice Ao32 t249.length co32 : Value).ownBlock ∧ some k_ ≠ (.slice Ao33 t252.length co33 : Value).ownBlock ∧ some k_ ≠ (.slice Ao40 t257.length co40 : Value).ownBlock ∧ some k_ ≠ (.slice Ao41 t260.length co41 : Value).ownBlock ∧ some k_ ≠ (.slice Ao68 t267.length co68 : Value).ownBlock ∧ some k_ ≠ (.slice Ao69 t270.length co69 : Value).ownBlock) (Kd.R_keptB (HO_248002.out) hkp (fun k_ hk_ hs_ => Or.elim hs_ (fun e_ => (hk_.1.1.2.1) e_) (fun e_ => (hk_.1.1.2.2.1) e_))) (fun k_ hk_ => ⟨hk_.1.1.1.1, hk_.1.1.1.2.1, hk_.1.1.1.2.2.1, hk_.1.1.1.2.2.2.1, hk_.1.1.1.2.2.2.2, hk_.1.1.2, hk_.1.2⟩)); replace HO_265001 := Aside0.mk (Kd.R_mono (ok' := fun k_ => some k_ ≠ (.slice Ao24 t240.length co24 : Value).ownBlock ∧ some k_ ≠ (.slice Ao25 t243.length co25 : Value).ownBlock ∧ some k_ ≠ (.slice Ao32 t249.length co32 : Value).ownBlock ∧ some k_ ≠ (.slice Ao33 t252.length co33 : Value).ownBlock ∧ some k_ ≠ (.slice Ao41 t260.length co41 : Value).ownBlock ∧ some k_ ≠ (.slice Ao68 t267.length co68 : Value).ownBlock ∧ some k_ ≠ (.slice Ao69 t270.length co69 : Value).ownBlock) (Kd.R_keptB (HO_265001.out) hkp (fun k_ hk_ hs_ => Or.elim hs_ (fun e_ => (hk_.1.1.2.2.1) e_) (fun e_ => (hk_.1.1.2.2.2.1) e_))) (fun k_ hk_ => ⟨hk_.1.1.1.1, hk_.1.1.1.2.1, hk_.1.1.1.2.2.1, hk_.1.1.1.2.2.2.1, hk_.1.1.1.2.2.2.2, hk_.1.1.2, hk_.1.2⟩)); replace HO_265002 := Aside0.mk (Kd.R_mono (ok' := fun k_ => some k_ ≠ (.slice Ao24 t240.length co24 : Value).ownBlock ∧ some k_ ≠ (.slice Ao25 t243.length co25 : Value).ownBlock ∧ some k_ ≠ (.slice Ao32 t249.length co32 : Value).ownBlock ∧ some k_ ≠ (.slice Ao33 t252.length co33 : Value).ownBlock ∧ some k_ ≠ (.slice Ao40 t257.length co40 : Value).ownBlock ∧ some k_ ≠ (.slice Ao68 t267.length co68 : Value).ownBlock ∧ some k_ ≠ (.slice Ao69 t270.length co69 : Value).ownBlock) (Kd.R_keptB (HO_265002.out) hkp (fun k_ hk_ hs_ => Or.elim hs_ (fun e_ => (hk_.1.1.2.2.1) e_) (fun e_ => (hk_.1.1.2.2.2.1) e_))) (fun k_ hk_ => ⟨hk_.1.1.1.1, hk_.1.1.1.2.1, hk_.1.1.1.2.2.1, hk_.1.1.1.2.2.2.1, hk_.1.1.1.2.2.2.2, hk_.1.1.2, hk_.1.2⟩)); replace BK230 := Aside0.mk (blk_kept (tK BK230.out) hkp (fun hs_ => Or.elim hs_ (fun e_ => (fun e_ => (Kd.R_ne HO_256001.out BK230.out (by decide)) e_) e_) (fun e_ => (fun e_ => (Kd.R_ne HO_256002.out BK230.out (by decide)) e_) e_))); replace BK247 := Aside0.mk (blk_kept (tK BK247.out) hkp (fun hs_ => Or.elim hs_ (fun e_ => (fun e_ => (Kd.R_ne HO_256001.out BK247.out (by decide)) e_) e_) (fun e_ => (fun e_ => (Kd.R_ne HO_256002.out BK247.out (by decide)) e_) e_))); replace BK255 := Aside0.mk (blk_kept (tK BK255.out) hkp (fun hs_ => Or.elim hs_ (fun e_ => (fun e_ => (Kd.R_ne HO_256001.out BK255.out (by decide)) e_) e_) (fun e_ => (fun e_ => (Kd.R_ne HO_256002.out BK255.out (by decide)) e_) e_))); replace BK264 := Aside0.mk (blk_kept (tK BK264.out) hkp (fun hs_ => Or.elim hs_ (fun e_ => (fun e_ => (Kd.R_ne HO_256001.out BK264.out (by decide)) e_) e_) (fun e_ => (fun e_ => (Kd.R_ne HO_256002.out BK264.out (by decide)) e_) e_))); replace HO_256001 := Aside0.mk (Kd.R_reok rfl hy0 (fun k_ e_ => HO_256001.out.1 k_ e_)); replace HO_256002 := Aside0.mk (Kd.R_reok rfl hy1 (fun k_ e_ => HO_256002.out.1 k_ e_)); replace HO269 := Aside0.mk (Kd.R_mono (ok' := fun k_ => some k_ ≠ (.slice Ao24 t240.length co24 : Value).ownBlock ∧ some k_ ≠ (.slice Ao25 t243.length co25 : Value).ownBlock ∧ some k_ ≠ (.slice Ao32 t249.length co32 : Value).ownBlock ∧ some k_ ≠ (.slice Ao33 t252.length co33 : Value).ownBlock ∧ some k_ ≠ (.slice Ao40 t257.length co40 : Value).ownBlock ∧ some k_ ≠ (.slice Ao41 t260.length co41 : Value).ownBlock ∧ some k_ ≠ (.slice Ao69 t270.length co69 : Value).ownBlock) (Kd.R_keptB (HO269.out) hkp (fun k_ hk_ hs_ => Or.elim hs_ (fun e_ => (hk_.1.1.1.2) e_) (fun e_ => (hk_.1.1.2) e_))) (fun k_ hk_ => ⟨hk_.1.1.1.1.1.1.2, hk_.1.1.1.1.1.2, hk_.1.1.1.1.2, hk_.1.1.1.2, hk_.1.1.2, hk_.1.2, hk_.1.1.1.1.1.1.1⟩)); replace HO272 := Aside0.mk (Kd.R_mono (ok' := fun k_ => some k_ ≠ (.slice Ao24 t240.length co24 : Value).ownBlock ∧ some k_ ≠ (.slice Ao25 t243.length co25 : Value).ownBlock ∧ some k_ ≠ (.slice Ao32 t249.length co32 : Value).ownBlock ∧ some k_ ≠ (.slice Ao33 t252.length co33 : Value).ownBlock ∧ some k_ ≠ (.slice Ao40 t257.length co40 : Value).ownBlock ∧ some k_ ≠ (.slice Ao41 t260.length co41 : Value).ownBlock ∧ some k_ ≠ (.slice Ao68 t267.length co68 : Value).ownBlock) (Kd.R_keptB (HO272.out) hkp (fun k_ hk_ hs_ => Or.elim hs_ (fun e_ => (hk_.1.1.1.2) e_) (fun e_ => (hk_.1.1.2) e_))) (fun k_ hk_ => ⟨hk_.1.1.1.1.1.1.2, hk_.1.1.1.1.1.2, hk_.1.1.1.1.2, hk_.1.1.1.2, hk_.1.1.2, hk_.1.2, hk_.1.1.1.1.1.1.1⟩)); replace HB := Aside0.mk (hb); (try clear hb); (try clear hkp); (try clear hy0); (try clear hy1)))
      (try simp only [Act.put, List.setIfInBounds_toArray, List.set_cons_zero, List.set_cons_succ])
      go_cut [65] (fun v65 wc => ∃ (kq : Nat) (x65_64 : Bool), v65 = .bool x65_64 ∧ Aside0 (laws_FnExactShiftPile.j1 kq a1 t246 x65_64 a0_0 l0_1 l0_2 t239 t240 t243 t256 t257 t260 = some r) ∧ Aside0 (kq ≤ kj11) ∧ Aside0 (Kd.R (Kd.int .i64) 3 wc w.heap.size (fun k_ => some k_ ≠ ((.slice Ao25 t243.length co25) : Value).ownBlock ∧ some k_ ≠ ((.slice Ao32 t249.length co32) : Value).ownBlock ∧ some k_ ≠ ((.slice Ao33 t252.length co33) : Value).ownBlock ∧ some k_ ≠ ((.slice Ao40 t257.length co40) : Value).ownBlock ∧ some k_ ≠ ((.slice Ao41 t260.length co41) : Value).ownBlock) (.slice Ao24 t240.length co24) t240) ∧ Aside0 (Kd.R (Kd.int .i64) 3 wc w.heap.size (fun k_ => some k_ ≠ ((.slice Ao24 t240.length co24) : Value).ownBlock ∧ some k_ ≠ ((.slice Ao32 t249.length co32) : Value).ownBlock ∧ some k_ ≠ ((.slice Ao33 t252.length co33) : Value).ownBlock ∧ some k_ ≠ ((.slice Ao40 t257.length co40) : Value).ownBlock ∧ some k_ ≠ ((.slice Ao41 t260.length co41) : Value).ownBlock) (.slice Ao25 t243.length co25) t243) ∧ Aside0 (Kd.R (Kd.int .i64) 3 wc w.heap.size (fun k_ => some k_ ≠ ((.slice Ao24 t240.length co24) : Value).ownBlock ∧ some k_ ≠ ((.slice Ao25 t243.length co25) : Value).ownBlock ∧ some k_ ≠ ((.slice Ao33 t252.length co33) : Value).ownBlock ∧ some k_ ≠ ((.slice Ao40 t257.length co40) : Value).ownBlock ∧ some k_ ≠ ((.slice Ao41 t260.length co41) : Value).ownBlock) (.slice Ao32 t249.length co32) t275) ∧ Aside0 (Kd.R (Kd.int .i64) 3 wc w.heap.size (fun k_ => some k_ ≠ ((.slice Ao24 t240.length co24) : Value).ownBlock ∧ some k_ ≠ ((.slice Ao25 t243.length co25) : Value).ownBlock ∧ some k_ ≠ ((.slice Ao32 t249.length co32) : Value).ownBlock ∧ some k_ ≠ ((.slice Ao40 t257.length co40) : Value).ownBlock ∧ some k_ ≠ ((.slice Ao41 t260.length co41) : Value).ownBlock) (.slice Ao33 t252.length co33) t276) ∧ Aside0 (Kd.R (Kd.int .i64) 3 wc w.heap.size (fun k_ => some k_ ≠ ((.slice Ao24 t240.length co24) : Value).ownBlock ∧ some k_ ≠ ((.slice Ao25 t243.length co25) : Value).ownBlock ∧ some k_ ≠ ((.slice Ao32 t249.length co32) : Value).ownBlock ∧ some k_ ≠ ((.slice Ao33 t252.length co33) : Value).ownBlock ∧ some k_ ≠ ((.slice Ao41 t260.length co41) : Value).ownBlock) (.slice Ao40 t257.length co40) t257) ∧ Aside0 (Kd.R (Kd.int .i64) 3 wc w.heap.size (fun k_ => some k_ ≠ ((.slice Ao24 t240.length co24) : Value).ownBlock ∧ some k_ ≠ ((.slice Ao25 t243.length co25) : Value).ownBlock ∧ some k_ ≠ ((.slice Ao32 t249.length co32) : Value).ownBlock ∧ some k_ ≠ ((.slice Ao33 t252.length co33) : Value).ownBlock ∧ some k_ ≠ ((.slice Ao40 t257.length co40) : Value).ownBlock) (.slice Ao41 t260.length co41) t260) ∧ Aside0 (wc.heap[gb230]? = some (.cells #[.int .i64 a0_0, (.slice A0_1 l0_1.length c0_1), (.slice A0_2 l0_2.length c0_2)] 24 (0, 0))) ∧ Aside0 (wc.heap[gb247]? = some (.cells #[.int .i64 t239, (.slice Ao24 t240.length co24), (.slice Ao25 t243.length co25)] 28 (0, 0))) ∧ Aside0 (wc.heap[gb255]? = some (.cells #[.int .i64 t248, (.slice Ao32 t249.length co32), (.slice Ao33 t252.length co33)] 28 (0, 0))) ∧ Aside0 (wc.heap[gb264]? = some (.cells #[.int .i64 t256, (.slice Ao40 t257.length co40), (.slice Ao41 t260.length co41)] 28 (0, 0))) ∧ Aside0 (Below w.heap.size w wc))
      case first =>
       have H := HC65.out
       clear HC65
       by_cases c76 : t274 < 0
       ·
        rw [if_pos c76] at H
        have c76b0 : decide (t274 < 0) = true := decide_eq_true c76
        clear c76
        (first | rw [c76b0] | (simp only [i64_w, i32_w]; rw [c76b0]) | skip)
        have H' := Aside0.mk H
        clear H
        go_wp2
        go_meet
        case rel => exact ⟨_, (true), (by first | rfl | (simp; done) | (simp [wrap64]; done) | (simp [*]; done)), H', ⟨by have := HJ11.out; first | omega | exact Nat.le_refl _⟩, ⟨by (with_reducible repeat (first | apply Kd.R_alloc | apply Kd.R_drewN | apply Kd.R_drew)); exact Kd.R_mono HO_248001.out (fun _ hk => ⟨hk.1, ⟨hk.2.1, ⟨hk.2.2.1, ⟨hk.2.2.2.1, hk.2.2.2.2.1⟩⟩⟩⟩)⟩, ⟨by (with_reducible repeat (first | apply Kd.R_alloc | apply Kd.R_drewN | apply Kd.R_drew)); exact Kd.R_mono HO_248002.out (fun _ hk => ⟨hk.1, ⟨hk.2.1, ⟨hk.2.2.1, ⟨hk.2.2.2.1, hk.2.2.2.2.1⟩⟩⟩⟩)⟩, ⟨by (with_reducible repeat (first | apply Kd.R_alloc | apply Kd.R_drewN | apply Kd.R_drew)); exact Kd.R_mono HO_256001.out (fun _ hk => ⟨hk.1.1.1, ⟨hk.1.1.2.1, ⟨hk.1.1.2.2.1, ⟨hk.1.1.2.2.2.1, hk.1.1.2.2.2.2⟩⟩⟩⟩)⟩, ⟨by (with_reducible repeat (first | apply Kd.R_alloc | apply Kd.R_drewN | apply Kd.R_drew)); exact Kd.R_mono HO_256002.out (fun _ hk => ⟨hk.1.1.1, ⟨hk.1.1.2.1, ⟨hk.1.1.2.2.1, ⟨hk.1.1.2.2.2.1, hk.1.1.2.2.2.2⟩⟩⟩⟩)⟩, ⟨by (with_reducible repeat (first | apply Kd.R_alloc | apply Kd.R_drewN | apply Kd.R_drew)); exact Kd.R_mono HO_265001.out (fun _ hk => ⟨hk.1, ⟨hk.2.1, ⟨hk.2.2.1, ⟨hk.2.2.2.1, hk.2.2.2.2.1⟩⟩⟩⟩)⟩, ⟨by (with_reducible repeat (first | apply Kd.R_alloc | apply Kd.R_drewN | apply Kd.R_drew)); exact Kd.R_mono HO_265002.out (fun _ hk => ⟨hk.1, ⟨hk.2.1, ⟨hk.2.2.1, ⟨hk.2.2.2.1, hk.2.2.2.2.1⟩⟩⟩⟩)⟩, ⟨tK BK230.out⟩, ⟨tK BK247.out⟩, ⟨tK BK255.out⟩, ⟨tK BK264.out⟩, ⟨tB HB.out⟩⟩
       ·
        rw [if_neg c76] at H
        have c76b0 : decide (t274 < 0) = false := decide_eq_false c76
        clear c76
        (first | rw [c76b0] | (simp only [i64_w, i32_w]; rw [c76b0]) | skip)
        replace H := Option.bind_eq_some_iff.mp H
        obtain ⟨t277, A770, H⟩ := H
        replace H : (if t277 = true then (laws_FnExactShiftPile.j1 kj11 a1 t246 (t263 != t246) a0_0 l0_1 l0_2 t239 t240 t243 t256 t257 t260) else (laws_FnExactShiftPile.j1 kj11 a1 t246 true a0_0 l0_1 l0_2 t239 t240 t243 t256 t257 t260)) = some r := H
        have A77 := Aside0.mk A770
        clear A770
        by_cases c78 : t277 = true
        ·
         subst c78
         have H1 : (laws_FnExactShiftPile.j1 kj11 a1 t246 (t263 != t246) a0_0 l0_1 l0_2 t239 t240 t243 t256 t257 t260) = some r := by rw [if_pos rfl] at H; exact H
         clear H
         have H := H1
         clear H1
         have H' := Aside0.mk H
         clear H
         have hnb79 := NB264_230.out
         have hnc79 := NB230_264.out
         have hnb80 := NB264_247.out
         have hnc80 := NB247_264.out
         have hnb81 := NB264_255.out
         have hnc81 := NB255_264.out
         obtain ⟨hcz82_0, hfz82_0, hcz82_1, hfz82_1, hcz82_2, hfz82_2⟩ := cz3 BK264
         have hnb83 := NB247_230.out
         have hnc83 := NB230_247.out
         have hnb84 := NB247_255.out
         have hnc84 := NB255_247.out
         obtain ⟨hcz85_0, hfz85_0, hcz85_1, hfz85_1, hcz85_2, hfz85_2⟩ := cz3 BK247
         go_wp2_with (first | (go_at_call 19; (with_reducible refine (laws_eqPile.calls kj11 t256 _ _ t257 _ _ t260 t239 _ _ t240 _ _ t243 true _ ?side1 ?side2 ?side3 ?side4 ?side5 ?side6 ?side7 ?side8 A77.out).mono ?_); (case side1 => exact tC (Kd.R_reads' HO_265001.out).2.2); (case side2 => exact (Kd.R_reads' HO_265001.out).2.1); (case side3 => exact tC (Kd.R_reads' HO_265002.out).2.2); (case side4 => exact (Kd.R_reads' HO_265002.out).2.1); (case side5 => exact tC (Kd.R_reads' HO_248001.out).2.2); (case side6 => exact (Kd.R_reads' HO_248001.out).2.1); (case side7 => exact tC (Kd.R_reads' HO_248002.out).2.2); (case side8 => exact (Kd.R_reads' HO_248002.out).2.1); rintro e w86 ⟨rfl, hb⟩; replace HO_248001 := Aside0.mk (Kd.R_below (tR HO_248001.out) hb); replace HO_248002 := Aside0.mk (Kd.R_below (tR HO_248002.out) hb); replace HO_256001 := Aside0.mk (Kd.R_below (tR HO_256001.out) hb); replace HO_256002 := Aside0.mk (Kd.R_below (tR HO_256002.out) hb); replace HO_265001 := Aside0.mk (Kd.R_below (tR HO_265001.out) hb); replace HO_265002 := Aside0.mk (Kd.R_below (tR HO_265002.out) hb); replace HO269 := Aside0.mk (Kd.R_below (tR HO269.out) hb); replace HO272 := Aside0.mk (Kd.R_below (tR HO272.out) hb); replace BK230 := bkB BK230 hb; replace BK247 := bkB BK247 hb; replace BK255 := bkB BK255 hb; replace BK264 := bkB BK264 hb; replace HB := Aside0.mk (below_step (tB HB.out) hb); (try clear hb); (try clear hb2); (try clear hk); (try clear hi)))
         go_meet
         case rel => exact ⟨_, ((t263 != t246)), (by first | rfl | (simp; done) | (simp [wrap64]; done) | (simp [*]; done)), H', ⟨by have := HJ11.out; first | omega | exact Nat.le_refl _⟩, ⟨by (with_reducible repeat (first | apply Kd.R_alloc | apply Kd.R_drewN | apply Kd.R_drew)); exact Kd.R_mono HO_248001.out (fun _ hk => ⟨hk.1, ⟨hk.2.1, ⟨hk.2.2.1, ⟨hk.2.2.2.1, hk.2.2.2.2.1⟩⟩⟩⟩)⟩, ⟨by (with_reducible repeat (first | apply Kd.R_alloc | apply Kd.R_drewN | apply Kd.R_drew)); exact Kd.R_mono HO_248002.out (fun _ hk => ⟨hk.1, ⟨hk.2.1, ⟨hk.2.2.1, ⟨hk.2.2.2.1, hk.2.2.2.2.1⟩⟩⟩⟩)⟩, ⟨by (with_reducible repeat (first | apply Kd.R_alloc | apply Kd.R_drewN | apply Kd.R_drew)); exact Kd.R_mono HO_256001.out (fun _ hk => ⟨hk.1.1.1, ⟨hk.1.1.2.1, ⟨hk.1.1.2.2.1, ⟨hk.1.1.2.2.2.1, hk.1.1.2.2.2.2⟩⟩⟩⟩)⟩, ⟨by (with_reducible repeat (first | apply Kd.R_alloc | apply Kd.R_drewN | apply Kd.R_drew)); exact Kd.R_mono HO_256002.out (fun _ hk => ⟨hk.1.1.1, ⟨hk.1.1.2.1, ⟨hk.1.1.2.2.1, ⟨hk.1.1.2.2.2.1, hk.1.1.2.2.2.2⟩⟩⟩⟩)⟩, ⟨by (with_reducible repeat (first | apply Kd.R_alloc | apply Kd.R_drewN | apply Kd.R_drew)); exact Kd.R_mono HO_265001.out (fun _ hk => ⟨hk.1, ⟨hk.2.1, ⟨hk.2.2.1, ⟨hk.2.2.2.1, hk.2.2.2.2.1⟩⟩⟩⟩)⟩, ⟨by (with_reducible repeat (first | apply Kd.R_alloc | apply Kd.R_drewN | apply Kd.R_drew)); exact Kd.R_mono HO_265002.out (fun _ hk => ⟨hk.1, ⟨hk.2.1, ⟨hk.2.2.1, ⟨hk.2.2.2.1, hk.2.2.2.2.1⟩⟩⟩⟩)⟩, ⟨tK BK230.out⟩, ⟨tK BK247.out⟩, ⟨tK BK255.out⟩, ⟨tK BK264.out⟩, ⟨tB HB.out⟩⟩
        ·
         replace c78 := Bool.eq_false_iff.mpr c78
         subst c78
         have H1 : (laws_FnExactShiftPile.j1 kj11 a1 t246 true a0_0 l0_1 l0_2 t239 t240 t243 t256 t257 t260) = some r := by rw [if_neg (show ¬ (false = true) by decide)] at H; exact H
         clear H
         have H := H1
         clear H1
         have H' := Aside0.mk H
         clear H
         have hnb87 := NB264_230.out
         have hnc87 := NB230_264.out
         have hnb88 := NB264_247.out
         have hnc88 := NB247_264.out
         have hnb89 := NB264_255.out
         have hnc89 := NB255_264.out
         obtain ⟨hcz90_0, hfz90_0, hcz90_1, hfz90_1, hcz90_2, hfz90_2⟩ := cz3 BK264
         have hnb91 := NB247_230.out
         have hnc91 := NB230_247.out
         have hnb92 := NB247_255.out
         have hnc92 := NB255_247.out
         obtain ⟨hcz93_0, hfz93_0, hcz93_1, hfz93_1, hcz93_2, hfz93_2⟩ := cz3 BK247
         go_wp2_with (first | (go_at_call 19; (with_reducible refine (laws_eqPile.calls kj11 t256 _ _ t257 _ _ t260 t239 _ _ t240 _ _ t243 false _ ?side1 ?side2 ?side3 ?side4 ?side5 ?side6 ?side7 ?side8 A77.out).mono ?_); (case side1 => exact tC (Kd.R_reads' HO_265001.out).2.2); (case side2 => exact (Kd.R_reads' HO_265001.out).2.1); (case side3 => exact tC (Kd.R_reads' HO_265002.out).2.2); (case side4 => exact (Kd.R_reads' HO_265002.out).2.1); (case side5 => exact tC (Kd.R_reads' HO_248001.out).2.2); (case side6 => exact (Kd.R_reads' HO_248001.out).2.1); (case side7 => exact tC (Kd.R_reads' HO_248002.out).2.2); (case side8 => exact (Kd.R_reads' HO_248002.out).2.1); rintro e w94 ⟨rfl, hb⟩; replace HO_248001 := Aside0.mk (Kd.R_below (tR HO_248001.out) hb); replace HO_248002 := Aside0.mk (Kd.R_below (tR HO_248002.out) hb); replace HO_256001 := Aside0.mk (Kd.R_below (tR HO_256001.out) hb); replace HO_256002 := Aside0.mk (Kd.R_below (tR HO_256002.out) hb); replace HO_265001 := Aside0.mk (Kd.R_below (tR HO_265001.out) hb); replace HO_265002 := Aside0.mk (Kd.R_below (tR HO_265002.out) hb); replace HO269 := Aside0.mk (Kd.R_below (tR HO269.out) hb); replace HO272 := Aside0.mk (Kd.R_below (tR HO272.out) hb); replace BK230 := bkB BK230 hb; replace BK247 := bkB BK247 hb; replace BK255 := bkB BK255 hb; replace BK264 := bkB BK264 hb; replace HB := Aside0.mk (below_step (tB HB.out) hb); (try clear hb); (try clear hb2); (try clear hk); (try clear hi)))
         go_meet
         case rel => exact ⟨_, (true), (by first | rfl | (simp; done) | (simp [wrap64]; done) | (simp [*]; done)), H', ⟨by have := HJ11.out; first | omega | exact Nat.le_refl _⟩, ⟨by (with_reducible repeat (first | apply Kd.R_alloc | apply Kd.R_drewN | apply Kd.R_drew)); exact Kd.R_mono HO_248001.out (fun _ hk => ⟨hk.1, ⟨hk.2.1, ⟨hk.2.2.1, ⟨hk.2.2.2.1, hk.2.2.2.2.1⟩⟩⟩⟩)⟩, ⟨by (with_reducible repeat (first | apply Kd.R_alloc | apply Kd.R_drewN | apply Kd.R_drew)); exact Kd.R_mono HO_248002.out (fun _ hk => ⟨hk.1, ⟨hk.2.1, ⟨hk.2.2.1, ⟨hk.2.2.2.1, hk.2.2.2.2.1⟩⟩⟩⟩)⟩, ⟨by (with_reducible repeat (first | apply Kd.R_alloc | apply Kd.R_drewN | apply Kd.R_drew)); exact Kd.R_mono HO_256001.out (fun _ hk => ⟨hk.1.1.1, ⟨hk.1.1.2.1, ⟨hk.1.1.2.2.1, ⟨hk.1.1.2.2.2.1, hk.1.1.2.2.2.2⟩⟩⟩⟩)⟩, ⟨by (with_reducible repeat (first | apply Kd.R_alloc | apply Kd.R_drewN | apply Kd.R_drew)); exact Kd.R_mono HO_256002.out (fun _ hk => ⟨hk.1.1.1, ⟨hk.1.1.2.1, ⟨hk.1.1.2.2.1, ⟨hk.1.1.2.2.2.1, hk.1.1.2.2.2.2⟩⟩⟩⟩)⟩, ⟨by (with_reducible repeat (first | apply Kd.R_alloc | apply Kd.R_drewN | apply Kd.R_drew)); exact Kd.R_mono HO_265001.out (fun _ hk => ⟨hk.1, ⟨hk.2.1, ⟨hk.2.2.1, ⟨hk.2.2.2.1, hk.2.2.2.2.1⟩⟩⟩⟩)⟩, ⟨by (with_reducible repeat (first | apply Kd.R_alloc | apply Kd.R_drewN | apply Kd.R_drew)); exact Kd.R_mono HO_265002.out (fun _ hk => ⟨hk.1, ⟨hk.2.1, ⟨hk.2.2.1, ⟨hk.2.2.2.1, hk.2.2.2.2.1⟩⟩⟩⟩)⟩, ⟨tK BK230.out⟩, ⟨tK BK247.out⟩, ⟨tK BK255.out⟩, ⟨tK BK264.out⟩, ⟨tB HB.out⟩⟩
      case rest =>
       clear HC65
       try clear c1
       try clear c2
       try clear p2
       try clear c3
       try clear c4
       try clear c4b0
       try clear c5
       try clear c6
       try clear p6
       try clear c7
       try clear c8
       try clear c9
       try clear c12
       try clear c15
       try clear c17
       try clear c19
       try clear c22
       try clear c24
       try clear c29
       try clear c30
       try clear c36
       try clear c37
       try clear c38
       try clear c39
       try clear c40
       try clear c43
       try clear c44
       try clear c45
       try clear c46
       try clear c48
       try clear c49
       try clear c52
       try clear c53
       try clear c54
       try clear c56
       try clear c57
       try clear c60
       try clear c63
       try clear p64
       try clear c71
       try clear c72
       try clear c73
       try clear c76
       try clear c76b0
       try clear c78
       try clear c79
       try clear c80
       try clear c81
       try clear c83
       try clear c84
       try clear c87
       try clear c88
       try clear c89
       try clear c91
       try clear c92
       try clear hcz14_0
       try clear hcz14_1
       try clear hcz14_2
       try clear hcz16_0
       try clear hcz16_1
       try clear hcz16_2
       try clear hcz23_0
       try clear hcz23_1
       try clear hcz23_2
       try clear hcz26_0
       try clear hcz26_1
       try clear hcz26_2
       try clear hcz31_0
       try clear hcz31_1
       try clear hcz31_2
       try clear hcz39_0
       try clear hcz39_1
       try clear hcz39_2
       try clear hcz47_0
       try clear hcz47_1
       try clear hcz47_2
       try clear hcz50_0
       try clear hcz50_1
       try clear hcz50_2
       try clear hcz55_0
       try clear hcz55_1
       try clear hcz55_2
       try clear hcz58_0
       try clear hcz58_1
       try clear hcz58_2
       try clear hcz6_0
       try clear hcz6_1
       try clear hcz6_2
       try clear hcz74_0
       try clear hcz74_1
       try clear hcz74_2
       try clear hcz82_0
       try clear hcz82_1
       try clear hcz82_2
       try clear hcz85_0
       try clear hcz85_1
       try clear hcz85_2
       try clear hcz90_0
       try clear hcz90_1
       try clear hcz90_2
       try clear hcz93_0
       try clear hcz93_1
       try clear hcz93_2
       try clear hfz14_0
       try clear hfz14_1
       try clear hfz14_2
       try clear hfz16_0
       try clear hfz16_1
       try clear hfz16_2
       try clear hfz23_0
       try clear hfz23_1
       try clear hfz23_2
       try clear hfz26_0
       try clear hfz26_1
       try clear hfz26_2
       try clear hfz31_0
       try clear hfz31_1
       try clear hfz31_2
       try clear hfz39_0
       try clear hfz39_1
       try clear hfz39_2
       try clear hfz47_0
       try clear hfz47_1
       try clear hfz47_2
       try clear hfz50_0
       try clear hfz50_1
       try clear hfz50_2
       try clear hfz55_0
       try clear hfz55_1
       try clear hfz55_2
       try clear hfz58_0
       try clear hfz58_1
       try clear hfz58_2
       try clear hfz6_0
       try clear hfz6_1
       try clear hfz6_2
       try clear hfz74_0
       try clear hfz74_1
       try clear hfz74_2
       try clear hfz82_0
       try clear hfz82_1
       try clear hfz82_2
       try clear hfz85_0
       try clear hfz85_1
       try clear hfz85_2
       try clear hfz90_0
       try clear hfz90_1
       try clear hfz90_2
       try clear hfz93_0
       try clear hfz93_1
       try clear hfz93_2
       try clear p2
       try clear p6
       obtain ⟨kq, x65_64, rfl, HA, HJ64, HO_248001, HO_248002, HO_256001, HO_256002, HO_265001, HO_265002, BK230, BK247, BK255, BK264, HB⟩ := hcut
       have hl256001_64 := (Kd.R_reads' HO_256001.out).1
       rw [hl256001_64] at HO_256001
       (try simp only [hl256001_64])
       (try simp only [hl256001_64] at BK230)
       (try simp only [hl256001_64] at BK247)
       (try simp only [hl256001_64] at BK255)
       (try simp only [hl256001_64] at BK264)
       (try simp only [hl256001_64] at HO_248001)
       (try simp only [hl256001_64] at HO_248002)
       (try simp only [hl256001_64] at HO_256002)
       (try simp only [hl256001_64] at HO_265001)
       (try simp only [hl256001_64] at HO_265002)
       have hl256002_64 := (Kd.R_reads' HO_256002.out).1
       rw [hl256002_64] at HO_256002
       (try simp only [hl256002_64])
       (try simp only [hl256002_64] at BK230)
       (try simp only [hl256002_64] at BK247)
       (try simp only [hl256002_64] at BK255)
       (try simp only [hl256002_64] at BK264)
       (try simp only [hl256002_64] at HO_248001)
       (try simp only [hl256002_64] at HO_248002)
       (try simp only [hl256002_64] at HO_256001)
       (try simp only [hl256002_64] at HO_265001)
       (try simp only [hl256002_64] at HO_265002)
       cases kq with
       | zero => exact absurd HA.out (by simp [laws_FnExactShiftPile.j1])
       | succ kj64 =>
        have H := HA.out
        clear HA
        simp only [laws_FnExactShiftPile.j1] at H
        by_cases c95 : x65_64 = true
        ·
         subst c95
         have H1 : (some false) = some r := by rw [if_pos rfl] at H; exact H
         clear H
         have H := H1
         clear H1
         obtain rfl := Option.some.inj H
         go_wp2
         go_ret
         exact ⟨by first | rfl | (simp [errW_none, errW_some] <;> rfl) | (simp [*, errW_none, errW_some] <;> rfl), tB HB.out⟩
        ·
         replace c95 := Bool.eq_false_iff.mpr c95
         subst c95
         have H1 : ((laws_markPile.f kj64 t256 t257 t260 1).bind fun bt278 => ((laws_heldPile.f kj64 t256 bt278.2.1 bt278.2.2 1).bind fun t281 => (if t281 < 0 then (some false) else (if t281 = bt278.1 then ((laws_toPile.f kj64 a0_0 l0_1 l0_2).bind fun bt282 => ((impl_ShiftPile.f kj64 bt282.1 bt282.2.1 bt282.2.2 a1).bind fun bt289 => ((laws_eqPile.f kj64 bt289.1 bt289.2.1 bt289.2.2.1 t239 t240 t243).bind fun t298 => (if t298 = true then (laws_FnExactShiftPile.j2 kj64 bt278.1 (bt289.2.2.2 != t246) t256 bt278.2.1 bt278.2.2) else (laws_FnExactShiftPile.j2 kj64 bt278.1 true t256 bt278.2.1 bt278.2.2))))) else (some false))))) = some r := by rw [if_neg (show ¬ (false = true) by decide)] at H; exact H
         clear H
         have H := H1
         clear H1
         replace H := Option.bind_eq_some_iff.mp H
         obtain ⟨⟨t278, t279, t280⟩, A960, H⟩ := H
         replace H : ((laws_heldPile.f kj64 t256 t279 t280 1).bind fun t281 => (if t281 < 0 then (some false) else (if t281 = t278 then ((laws_toPile.f kj64 a0_0 l0_1 l0_2).bind fun bt282 => ((impl_ShiftPile.f kj64 bt282.1 bt282.2.1 bt282.2.2 a1).bind fun bt289 => ((laws_eqPile.f kj64 bt289.1 bt289.2.1 bt289.2.2.1 t239 t240 t243).bind fun t298 => (if t298 = true then (laws_FnExactShiftPile.j2 kj64 t278 (bt289.2.2.2 != t246) t256 t279 t280) else (laws_FnExactShiftPile.j2 kj64 t278 true t256 t279 t280))))) else (some false)))) = some r := H
         have A96 := Aside0.mk A960
         clear A960
         replace H := Option.bind_eq_some_iff.mp H
         obtain ⟨t281, A970, H⟩ := H
         replace H : (if t281 < 0 then (some false) else (if t281 = t278 then ((laws_toPile.f kj64 a0_0 l0_1 l0_2).bind fun bt282 => ((impl_ShiftPile.f kj64 bt282.1 bt282.2.1 bt282.2.2 a1).bind fun bt289 => ((laws_eqPile.f kj64 bt289.1 bt289.2.1 bt289.2.2.1 t239 t240 t243).bind fun t298 => (if t298 = true then (laws_FnExactShiftPile.j2 kj64 t278 (bt289.2.2.2 != t246) t256 t279 t280) else (laws_FnExactShiftPile.j2 kj64 t278 true t256 t279 t280))))) else (some false))) = some r := H
         have A97 := Aside0.mk A970
         clear A970
         by_cases c98 : t281 < 0
         ·
          rw [if_pos c98] at H
          have c98b0 : decide (t281 < 0) = true := decide_eq_true c98
          clear c98
          obtain rfl := Option.some.inj H
          have hnb99 := NB264_230.out
          have hnc99 := NB230_264.out
          have hnb100 := NB264_247.out
          have hnc100 := NB247_264.out
          have hnb101 := NB264_255.out
          have hnc101 := NB255_264.out
          obtain ⟨hcz102_0, hfz102_0, hcz102_1, hfz102_1, hcz102_2, hfz102_2⟩ := cz3 BK264
          go_wp2_with (first | ((with_reducible refine gate_callee (f := 24) rfl ?_); refine goesL_ (some 68) rfl rfl Try.func24 (by kernel_rfl) rfl #[.agg #[.int .i64 t256, .slice Ao40 t257.length co40, .slice Ao41 t260.length co41], .int .i64 1] rfl tM ?_; (with_reducible refine (laws_markPile.calls kj64 t256 (fun k_ => some k_ = (.slice Ao40 t257.length co40 : Value).ownBlock) (.slice Ao40 t257.length co40) t257 (fun k_ => some k_ = (.slice Ao41 t260.length co41 : Value).ownBlock) (.slice Ao41 t260.length co41) t260 1 t278 t279 t280 w _ ?side1 ?side2 ?side3 ?side4 ?side5 A96.out).mono ?_); (case side1 => repeat (first | (with_reducible first | exact HB.out | apply below_alloc | apply pw_below_drewN | apply below_drew1 | refine below_set ?_ GE230.out | refine below_set ?_ GE247.out | refine below_set ?_ GE255.out | refine below_set ?_ GE264.out) | exact HB.out)); (case side2 => exact Kd.R_tight rfl HO_265001.out); (case side3 => exact fun k_ e_ => (HO_265001.out.1 k_ e_.symm).2.2.2.2); (case side4 => exact Kd.R_tight rfl HO_265002.out); (case side5 => exact fun k_ e_ => (HO_265002.out.1 k_ e_.symm).2.2.2.2); rintro e w103 ⟨rfl, hy0, hy1, hb, hkp⟩; refine ⟨_, rfl, ?_⟩; replace HO_248001 := Aside0.mk (Kd.R_mono (ok' := fun k_ => some k_ ≠ (.slice Ao25 t243.length co25 : Value).ownBlock ∧ some k_ ≠ (.slice Ao32 t275.length co32 : Value).ownBlock ∧ some k_ ≠ (.slice Ao33 t276.length co33 : Value).ownBlock ∧ some k_ ≠ (.slice Ao40 t257.length co40 : Value).ownBlock ∧ some k_ ≠ (.slice Ao41 t260.length co41 : Value).ownBlock) (Kd.R_keptB (HO_248001.out) hkp (fun k_ hk_ hs_ => Or.elim hs_ (fun e_ => (hk_.2.2.2.1) e_) (fun e_ => (hk_.2.2.2.2) e_))) (fun k_ hk_ => ⟨hk_.1.1, hk_.1.2.1, hk_.1.2.2.1, hk_.1.2.2.2.1, hk_.1.2.2.2.2⟩)); replace HO_248002 := Aside0.mk (Kd.R_mono (ok' := fun k_ => some k_ ≠ (.slice Ao24 t240.length co24 : Value).ownBlock ∧ some k_ ≠ (.slice Ao32 t275.length co32 : Value).ownBlock ∧ some k_ ≠ (.slice Ao33 t276.length co33 : Value).ownBlock ∧ some k_ ≠ (.slice Ao40 t257.length co40 : Value).ownBlock ∧ some k_ ≠ (.slice Ao41 t260.length co41 : Value).ownBlock) (Kd.R_keptB (HO_248002.out) hkp (fun k_ hk_ hs_ => Or.elim hs_ (fun e_ => (hk_.2.2.2.1) e_) (fun e_ => (hk_.2.2.2.2) e_))) (fun k_ hk_ => ⟨hk_.1.1, hk_.1.2.1, hk_.1.2.2.1, hk_.1.2.2.2.1, hk_.1.2.2.2.2⟩)); replace HO_256001 := Aside0.mk (Kd.R_mono (ok' := fun k_ => some k_ ≠ (.slice Ao24 t240.length co24 : Value).ownBlock ∧ some k_ ≠ (.slice Ao25 t243.length co25 : Value).ownBlock ∧ some k_ ≠ (.slice Ao33 t276.length co33 : Value).ownBlock ∧ some k_ ≠ (.slice Ao40 t257.length co40 : Value).ownBlock ∧ some k_ ≠ (.slice Ao41 t260.length co41 : Value).ownBlock) (Kd.R_keptB (HO_256001.out) hkp (fun k_ hk_ hs_ => Or.elim hs_ (fun e_ => (hk_.2.2.2.1) e_) (fun e_ => (hk_.2.2.2.2) e_))) (fun k_ hk_ => ⟨hk_.1.1, hk_.1.2.1, hk_.1.2.2.1, hk_.1.2.2.2.1, hk_.1.2.2.2.2⟩)); replace HO_256002 := Aside0.mk (Kd.R_mono (ok' := fun k_ => some k_ ≠ (.slice Ao24 t240.length co24 : Value).ownBlock ∧ some k_ ≠ (.slice Ao25 t243.length co25 : Value).ownBlock ∧ some k_ ≠ (.slice Ao32 t275.length co32 : Value).ownBlock ∧ some k_ ≠ (.slice Ao40 t257.length co40 : Value).ownBlock ∧ some k_ ≠ (.slice Ao41 t260.length co41 : Value).ownBlock) (Kd.R_keptB (HO_256002.out) hkp (fun k_ hk_ hs_ => Or.elim hs_ (fun e_ => (hk_.2.2.2.1) e_) (fun e_ => (hk_.2.2.2.2) e_))) (fun k_ hk_ => ⟨hk_.1.1, hk_.1.2.1, hk_.1.2.2.1, hk_.1.2.2.2.1, hk_.1.2.2.2.2⟩)); replace BK230 := Aside0.mk (blk_kept (tK BK230.out) hkp (fun hs_ => Or.elim hs_ (fun e_ => (fun e_ => (Kd.R_ne HO_265001.out BK230.out (by decide)) e_) e_) (fun e_ => (fun e_ => (Kd.R_ne HO_265002.out BK230.out (by decide)) e_) e_))); replace BK247 := Aside0.mk (blk_kept (tK BK247.out) hkp (fun hs_ => Or.elim hs_ (fun e_ => (fun e_ => (Kd.R_ne HO_265001.out BK247.out (by decide)) e_) e_) (fun e_ => (fun e_ => (Kd.R_ne HO_265002.out BK247.out (by decide)) e_) e_))); replace BK255 := Aside0.mk (blk_kept (tK BK255.out) hkp (fun hs_ => Or.elim hs_ (fun e_ => (fun e_ => (Kd.R_ne HO_265001.out BK255.out (by decide)) e_) e_) (fun e_ => (fun e_ => (Kd.R_ne HO_265002.out BK255.out (by decide)) e_) e_))); replace BK264 := Aside0.mk (blk_kept (tK BK264.out) hkp (fun hs_ => Or.elim hs_ (fun e_ => (fun e_ => (Kd.R_ne HO_265001.out BK264.out (by decide)) e_) e_) (fun e_ => (fun e_ => (Kd.R_ne HO_265002.out BK264.out (by decide)) e_) e_))); replace HO_265001 := Aside0.mk (Kd.R_reok rfl hy0 (fun k_ e_ => HO_265001.out.1 k_ e_)); replace HO_265002 := Aside0.mk (Kd.R_reok rfl hy1 (fun k_ e_ => HO_265002.out.1 k_ e_)); replace HB := Aside0.mk (hb); (try clear hb); (try clear hkp); (try clear hy0); (try clear hy1); obtain ⟨hcz104_0, hfz104_0, hcz104_1, hfz104_1, hcz104_2, hfz104_2⟩ := cz3 BK264) | ((with_reducible refine gate_callee (f := 25) rfl ?_); refine goesL_ (some 71) rfl rfl Try.func25 (by kernel_rfl) rfl #[.agg #[.int .i64 t256, .slice Ao40 t279.length co40, .slice Ao41 t280.length co41], .int .i64 1] rfl (by (try simp only [List.map_toArray, List.map_cons, List.map_nil]); first | done | (rw [show t279.length = t257.length from (Kd.R_reads' HO_265001.out).1.symm, show t280.length = t260.length from (Kd.R_reads' HO_265002.out).1.symm] <;> rfl) | rfl | (simp only [List.length_drop, List.length_take]; rfl)) ?_; (with_reducible refine (laws_heldPile.calls kj64 t256 _ _ t279 _ _ t280 1 t281 _ ?side1 ?side2 ?side3 ?side4 A97.out).mono ?_); (case side1 => exact tC (Kd.R_reads' HO_265001.out).2.2); (case side2 => rw [show t279.length = t257.length from (Kd.R_reads' HO_265001.out).1.symm]; exact (Kd.R_reads' HO_265001.out).2.1); (case side3 => exact tC (Kd.R_reads' HO_265002.out).2.2); (case side4 => rw [show t280.length = t260.length from (Kd.R_reads' HO_265002.out).1.symm]; exact (Kd.R_reads' HO_265002.out).2.1); rintro e w105 ⟨rfl, hb⟩; refine ⟨_, rfl, ?_⟩; replace HO_248001 := Aside0.mk (Kd.R_below (tR HO_248001.out) hb); replace HO_248002 := Aside0.mk (Kd.R_below (tR HO_248002.out) hb); replace HO_256001 := Aside0.mk (Kd.R_below (tR HO_256001.out) hb); replace HO_256002 := Aside0.mk (Kd.R_below (tR HO_256002.out) hb); replace HO_265001 := Aside0.mk (Kd.R_below (tR HO_265001.out) hb); replace HO_265002 := Aside0.mk (Kd.R_below (tR HO_265002.out) hb); replace BK230 := bkB BK230 hb; replace BK247 := bkB BK247 hb; replace BK255 := bkB BK255 hb; replace BK264 := bkB BK264 hb; replace HB := Aside0.mk (below_step (tB HB.out) hb); (try clear hb); (try clear hb2); (try clear hk); (try clear hi)))
          go_ret
          exact ⟨by first | rfl | (simp [errW_none, errW_some] <;> rfl) | (simp [*, errW_none, errW_some] <;> rfl), tB HB.out⟩
         ·
          rw [if_neg c98] at H
          have c98b0 : decide (t281 < 0) = false := decide_eq_false c98
          clear c98
          by_cases c106 : t281 = t278
          ·
           rw [if_pos c106] at H
           have c106b0 : (t281 == t278) = true := beq_iff_eq.mpr c106
           have c106b1 : (t281 != t278) = false := bne_eq_false_iff_eq.mpr c106
           clear c106
           replace H := Option.bind_eq_some_iff.mp H
           obtain ⟨⟨t282, t283, t286⟩, A1070, H⟩ := H
           replace H : ((impl_ShiftPile.f kj64 t282 t283 t286 a1).bind fun bt289 => ((laws_eqPile.f kj64 bt289.1 bt289.2.1 bt289.2.2.1 t239 t240 t243).bind fun t298 => (if t298 = true then (laws_FnExactShiftPile.j2 kj64 t278 (bt289.2.2.2 != t246) t256 t279 t280) else (laws_FnExactShiftPile.j2 kj64 t278 true t256 t279 t280)))) = some r := H
           have A107 := Aside0.mk A1070
           clear A1070
           replace H := Option.bind_eq_some_iff.mp H
           obtain ⟨⟨t289, t290, t293, t296⟩, A1080, H⟩ := H
           replace H : ((laws_eqPile.f kj64 t289 t290 t293 t239 t240 t243).bind fun t298 => (if t298 = true then (laws_FnExactShiftPile.j2 kj64 t278 (t296 != t246) t256 t279 t280) else (laws_FnExactShiftPile.j2 kj64 t278 true t256 t279 t280))) = some r := H
           have A108 := Aside0.mk A1080
           clear A1080
           have HC109 := Aside0.mk H
           clear H
           have hnb110 := NB264_230.out
           have hnc110 := NB230_264.out
           have hnb111 := NB264_247.out
           have hnc111 := NB247_264.out
           have hnb112 := NB264_255.out
           have hnc112 := NB255_264.out
           obtain ⟨hcz113_0, hfz113_0, hcz113_1, hfz113_1, hcz113_2, hfz113_2⟩ := cz3 BK264
           go_upto_region 25 with (first | ((with_reducible refine gate_callee (f := 24) rfl ?_); refine goesL_ (some 68) rfl rfl Try.func24 (by kernel_rfl) rfl #[.agg #[.int .i64 t256, .slice Ao40 t257.length co40, .slice Ao41 t260.length co41], .int .i64 1] rfl tM ?_; (with_reducible refine (laws_markPile.calls kj64 t256 (fun k_ => some k_ = (.slice Ao40 t257.length co40 : Value).ownBlock) (.slice Ao40 t257.length co40) t257 (fun k_ => some k_ = (.slice Ao41 t260.length co41 : Value).ownBlock) (.slice Ao41 t260.length co41) t260 1 t278 t279 t280 w _ ?side1 ?side2 ?side3 ?side4 ?side5 A96.out).mono ?_); (case side1 => repeat (first | (with_reducible first | exact HB.out | apply below_alloc | apply pw_below_drewN | apply below_drew1 | refine below_set ?_ GE230.out | refine below_set ?_ GE247.out | refine below_set ?_ GE255.out | refine below_set ?_ GE264.out) | exact HB.out)); (case side2 => exact Kd.R_tight rfl HO_265001.out); (case side3 => exact fun k_ e_ => (HO_265001.out.1 k_ e_.symm).2.2.2.2); (case side4 => exact Kd.R_tight rfl HO_265002.out); (case side5 => exact fun k_ e_ => (HO_265002.out.1 k_ e_.symm).2.2.2.2); rintro e w114 ⟨rfl, hy0, hy1, hb, hkp⟩; refine ⟨_, rfl, ?_⟩; replace HO_248001 := Aside0.mk (Kd.R_mono (ok' := fun k_ => some k_ ≠ (.slice Ao25 t243.length co25 : Value).ownBlock ∧ some k_ ≠ (.slice Ao32 t275.length co32 : Value).ownBlock ∧ some k_ ≠ (.slice Ao33 t276.length co33 : Value).ownBlock ∧ some k_ ≠ (.slice Ao40 t257.length co40 : Value).ownBlock ∧ some k_ ≠ (.slice Ao41 t260.length co41 : Value).ownBlock) (Kd.R_keptB (HO_248001.out) hkp (fun k_ hk_ hs_ => Or.elim hs_ (fun e_ => (hk_.2.2.2.1) e_) (fun e_ => (hk_.2.2.2.2) e_))) (fun k_ hk_ => ⟨hk_.1.1, hk_.1.2.1, hk_.1.2.2.1, hk_.1.2.2.2.1, hk_.1.2.2.2.2⟩)); replace HO_248002 := Aside0.mk (Kd.R_mono (ok' := fun k_ => some k_ ≠ (.slice Ao24 t240.length co24 : Value).ownBlock ∧ some k_ ≠ (.slice Ao32 t275.length co32 : Value).ownBlock ∧ some k_ ≠ (.slice Ao33 t276.length co33 : Value).ownBlock ∧ some k_ ≠ (.slice Ao40 t257.length co40 : Value).ownBlock ∧ some k_ ≠ (.slice Ao41 t260.length co41 : Value).ownBlock) (Kd.R_keptB (HO_248002.out) hkp (fun k_ hk_ hs_ => Or.elim hs_ (fun e_ => (hk_.2.2.2.1) e_) (fun e_ => (hk_.2.2.2.2) e_))) (fun k_ hk_ => ⟨hk_.1.1, hk_.1.2.1, hk_.1.2.2.1, hk_.1.2.2.2.1, hk_.1.2.2.2.2⟩)); replace HO_256001 := Aside0.mk (Kd.R_mono (ok' := fun k_ => some k_ ≠ (.slice Ao24 t240.length co24 : Value).ownBlock ∧ some k_ ≠ (.slice Ao25 t243.length co25 : Value).ownBlock ∧ some k_ ≠ (.slice Ao33 t276.length co33 : Value).ownBlock ∧ some k_ ≠ (.slice Ao40 t257.length co40 : Value).ownBlock ∧ some k_ ≠ (.slice Ao41 t260.length co41 : Value).ownBlock) (Kd.R_keptB (HO_256001.out) hkp (fun k_ hk_ hs_ => Or.elim hs_ (fun e_ => (hk_.2.2.2.1) e_) (fun e_ => (hk_.2.2.2.2) e_))) (fun k_ hk_ => ⟨hk_.1.1, hk_.1.2.1, hk_.1.2.2.1, hk_.1.2.2.2.1, hk_.1.2.2.2.2⟩)); replace HO_256002 := Aside0.mk (Kd.R_mono (ok' := fun k_ => some k_ ≠ (.slice Ao24 t240.length co24 : Value).ownBlock ∧ some k_ ≠ (.slice Ao25 t243.length co25 : Value).ownBlock ∧ some k_ ≠ (.slice Ao32 t275.length co32 : Value).ownBlock ∧ some k_ ≠ (.slice Ao40 t257.length co40 : Value).ownBlock ∧ some k_ ≠ (.slice Ao41 t260.length co41 : Value).ownBlock) (Kd.R_keptB (HO_256002.out) hkp (fun k_ hk_ hs_ => Or.elim hs_ (fun e_ => (hk_.2.2.2.1) e_) (fun e_ => (hk_.2.2.2.2) e_))) (fun k_ hk_ => ⟨hk_.1.1, hk_.1.2.1, hk_.1.2.2.1, hk_.1.2.2.2.1, hk_.1.2.2.2.2⟩)); replace BK230 := Aside0.mk (blk_kept (tK BK230.out) hkp (fun hs_ => Or.elim hs_ (fun e_ => (fun e_ => (Kd.R_ne HO_265001.out BK230.out (by decide)) e_) e_) (fun e_ => (fun e_ => (Kd.R_ne HO_265002.out BK230.out (by decide)) e_) e_))); replace BK247 := Aside0.mk (blk_kept (tK BK247.out) hkp (fun hs_ => Or.elim hs_ (fun e_ => (fun e_ => (Kd.R_ne HO_265001.out BK247.out (by decide)) e_) e_) (fun e_ => (fun e_ => (Kd.R_ne HO_265002.out BK247.out (by decide)) e_) e_))); replace BK255 := Aside0.mk (blk_kept (tK BK255.out) hkp (fun hs_ => Or.elim hs_ (fun e_ => (fun e_ => (Kd.R_ne HO_265001.out BK255.out (by decide)) e_) e_) (fun e_ => (fun e_ => (Kd.R_ne HO_265002.out BK255.out (by decide)) e_) e_))); replace BK264 := Aside0.mk (blk_kept (tK BK264.out) hkp (fun hs_ => Or.elim hs_ (fun e_ => (fun e_ => (Kd.R_ne HO_265001.out BK264.out (by decide)) e_) e_) (fun e_ => (fun e_ => (Kd.R_ne HO_265002.out BK264.out (by decide)) e_) e_))); replace HO_265001 := Aside0.mk (Kd.R_reok rfl hy0 (fun k_ e_ => HO_265001.out.1 k_ e_)); replace HO_265002 := Aside0.mk (Kd.R_reok rfl hy1 (fun k_ e_ => HO_265002.out.1 k_ e_)); replace HB := Aside0.mk (hb); (try clear hb); (try clear hkp); (try clear hy0); (try clear hy1); obtain ⟨hcz115_0, hfz115_0, hcz115_1, hfz115_1, hcz115_2, hfz115_2⟩ := cz3 BK264) | ((with_reducible refine gate_callee (f := 25) rfl ?_); refine goesL_ (some 71) rfl rfl Try.func25 (by kernel_rfl) rfl #[.agg #[.int .i64 t256, .slice Ao40 t279.length co40, .slice Ao41 t280.length co41], .int .i64 1] rfl (by (try simp only [List.map_toArray, List.map_cons, List.map_nil]); first | done | (rw [show t279.length = t257.length from (Kd.R_reads' HO_265001.out).1.symm, show t280.length = t260.length from (Kd.R_reads' HO_265002.out).1.symm] <;> rfl) | rfl | (simp only [List.length_drop, List.length_take]; rfl)) ?_; (with_reducible refine (laws_heldPile.calls kj64 t256 _ _ t279 _ _ t280 1 t281 _ ?side1 ?side2 ?side3 ?side4 A97.out).mono ?_); (case side1 => exact tC (Kd.R_reads' HO_265001.out).2.2); (case side2 => rw [show t279.length = t257.length from (Kd.R_reads' HO_265001.out).1.symm]; exact (Kd.R_reads' HO_265001.out).2.1); (case side3 => exact tC (Kd.R_reads' HO_265002.out).2.2); (case side4 => rw [show t280.length = t260.length from (Kd.R_reads' HO_265002.out).1.symm]; exact (Kd.R_reads' HO_265002.out).2.1); rintro e w116 ⟨rfl, hb⟩; refine ⟨_, rfl, ?_⟩; replace HO_248001 := Aside0.mk (Kd.R_below (tR HO_248001.out) hb); replace HO_248002 := Aside0.mk (Kd.R_below (tR HO_248002.out) hb); replace HO_256001 := Aside0.mk (Kd.R_below (tR HO_256001.out) hb); replace HO_256002 := Aside0.mk (Kd.R_below (tR HO_256002.out) hb); replace HO_265001 := Aside0.mk (Kd.R_below (tR HO_265001.out) hb); replace HO_265002 := Aside0.mk (Kd.R_below (tR HO_265002.out) hb); replace BK230 := bkB BK230 hb; replace BK247 := bkB BK247 hb; replace BK255 := bkB BK255 hb; replace BK264 := bkB BK264 hb; replace HB := Aside0.mk (below_step (tB HB.out) hb); (try clear hb); (try clear hb2); (try clear hk); (try clear hi); have hnb117 := NB230_247.out; have hnc117 := NB247_230.out; have hnb118 := NB230_255.out; have hnc118 := NB255_230.out; obtain ⟨hcz119_0, hfz119_0, hcz119_1, hfz119_1, hcz119_2, hfz119_2⟩ := cz3 BK230) | ((with_reducible refine gate_callee (f := 17) rfl ?_); refine goesL_ (some 79) rfl rfl Try.func17 (by kernel_rfl) rfl #[.agg #[.int .i64 a0_0, .slice A0_1 l0_1.length c0_1, .slice A0_2 l0_2.length c0_2]] rfl tM ?_; (with_reducible refine (laws_toPile.calls kj64 a0_0 _ _ l0_1 _ _ l0_2 t282 t283 t286 _ ?side1 ?side2 ?side3 ?side4 A107.out).mono ?_); (case side1 => exact tC (Kd.C_below HR0_1.out HB.out)); (case side2 => exact HC0_1.out); (case side3 => exact tC (Kd.C_below HR0_2.out HB.out)); (case side4 => exact HC0_2.out); rintro e w120 ⟨v284, v287, rfl, ho0, ho1, hb⟩; refine ⟨_, rfl, ?_⟩; have HO285 := Aside0.mk (Kd.R_lower (Kd.R_new' (Kd.R_new' (Kd.R_new' (Kd.R_new' (Kd.R_new' (Kd.R_new' ho0 (Kd.R_lt (tR HO_248001.out))) (Kd.R_lt (tR HO_248002.out))) (Kd.R_lt (tR HO_256001.out))) (Kd.R_lt (tR HO_256002.out))) (Kd.R_lt (tR HO_265001.out))) (Kd.R_lt (tR HO_265002.out))) (below_size (tB HB.out))); have HO288 := Aside0.mk (Kd.R_lower (Kd.R_new' (Kd.R_new' (Kd.R_new' (Kd.R_new' (Kd.R_new' (Kd.R_new' ho1 (Kd.R_lt (tR HO_248001.out))) (Kd.R_lt (tR HO_248002.out))) (Kd.R_lt (tR HO_256001.out))) (Kd.R_lt (tR HO_256002.out))) (Kd.R_lt (tR HO_265001.out))) (Kd.R_lt (tR HO_265002.out))) (below_size (tB HB.out))); replace HO_248001 := Aside0.mk (Kd.R_mono (Kd.R_told (Kd.R_told (Kd.R_old (tR HO_248001.out) hb) (Kd.R_base ho0)) (Kd.R_base ho1)) (fun _ h_ => h_.1)); replace HO_248002 := Aside0.mk (Kd.R_mono (Kd.R_told (Kd.R_told (Kd.R_old (tR HO_248002.out) hb) (Kd.R_base ho0)) (Kd.R_base ho1)) (fun _ h_ => h_.1)); replace HO_256001 := Aside0.mk (Kd.R_mono (Kd.R_told (Kd.R_told (Kd.R_old (tR HO_256001.out) hb) (Kd.R_base ho0)) (Kd.R_base ho1)) (fun _ h_ => h_.1)); replace HO_256002 := Aside0.mk (Kd.R_mono (Kd.R_told (Kd.R_told (Kd.R_old (tR HO_256002.out) hb) (Kd.R_base ho0)) (Kd.R_base ho1)) (fun _ h_ => h_.1)); replace HO_265001 := Aside0.mk (Kd.R_mono (Kd.R_told (Kd.R_told (Kd.R_old (tR HO_265001.out) hb) (Kd.R_base ho0)) (Kd.R_base ho1)) (fun _ h_ => h_.1)); replace HO_265002 := Aside0.mk (Kd.R_mono (Kd.R_told (Kd.R_told (Kd.R_old (tR HO_265002.out) hb) (Kd.R_base ho0)) (Kd.R_base ho1)) (fun _ h_ => h_.1)); replace BK230 := bkB BK230 hb; replace BK247 := bkB BK247 hb; replace BK255 := bkB BK255 hb; replace BK264 := bkB BK264 hb; replace HB := Aside0.mk (below_step (tB HB.out) hb); (try clear hb); (try clear hb2); (try clear hk); (try clear hi); (try clear ho0); (try clear ho1); obtain ⟨Ao121, co121, eo121⟩ := Kd.R_slice HO285.out; subst eo121; obtain ⟨Ao122, co122, eo122⟩ := Kd.R_slice HO288.out; subst eo122) | ((with_reducible refine gate_callee (f := 40) rfl ?_); refine goesL_ (some 81) rfl rfl Try.func40 (by kernel_rfl) rfl #[.agg #[.int .i64 t282, .slice Ao121 t283.length co121, .slice Ao122 t286.length co122], .int .i64 a1] rfl tM ?_; (with_reducible refine (impl_ShiftPile.calls kj64 t282 _ _ t283 _ _ t286 a1 t289 t290 t293 t296 _ ?side1 ?side2 ?side3 ?side4 A108.out).mono ?_); (case side1 => exact tC (Kd.R_reads' HO285.out).2.2); (case side2 => exact (Kd.R_reads' HO285.out).2.1); (case side3 => exact tC (Kd.R_reads' HO288.out).2.2); (case side4 => exact (Kd.R_reads' HO288.out).2.1); rintro e w123 ⟨v291, v294, rfl, ho0, ho1, hb⟩; refine ⟨_, rfl, ?_⟩; have HO292 := Aside0.mk (Kd.R_lower (Kd.R_new' (Kd.R_new' (Kd.R_new' (Kd.R_new' (Kd.R_new' (Kd.R_new' (Kd.R_new' (Kd.R_new' ho0 (Kd.R_lt (tR HO_248001.out))) (Kd.R_lt (tR HO_248002.out))) (Kd.R_lt (tR HO_256001.out))) (Kd.R_lt (tR HO_256002.out))) (Kd.R_lt (tR HO_265001.out))) (Kd.R_lt (tR HO_265002.out))) (Kd.R_lt (tR HO285.out))) (Kd.R_lt (tR HO288.out))) (below_size (tB HB.out))); have HO295 := Aside0.mk (Kd.R_lower (Kd.R_new' (Kd.R_new' (Kd.R_new' (Kd.R_new' (Kd.R_new' (Kd.R_new' (Kd.R_new' (Kd.R_new' ho1 (Kd.R_lt (tR HO_248001.out))) (Kd.R_lt (tR HO_248002.out))) (Kd.R_lt (tR HO_256001.out))) (Kd.R_lt (tR HO_256002.out))) (Kd.R_lt (tR HO_265001.out))) (Kd.R_lt (tR HO_265002.out))) (Kd.R_lt (tR HO285.out))) (Kd.R_lt (tR HO288.out))) (below_size (tB HB.out))); replace HO_248001 := Aside0.mk (Kd.R_mono (Kd.R_told (Kd.R_told (Kd.R_old (tR HO_248001.out) hb) (Kd.R_base ho0)) (Kd.R_base ho1)) (fun _ h_ => h_.1)); replace HO_248002 := Aside0.mk (Kd.R_mono (Kd.R_told (Kd.R_told (Kd.R_old (tR HO_248002.out) hb) (Kd.R_base ho0)) (Kd.R_base ho1)) (fun _ h_ => h_.1)); replace HO_256001 := Aside0.mk (Kd.R_mono (Kd.R_told (Kd.R_told (Kd.R_old (tR HO_256001.out) hb) (Kd.R_base ho0)) (Kd.R_base ho1)) (fun _ h_ => h_.1)); replace HO_256002 := Aside0.mk (Kd.R_mono (Kd.R_told (Kd.R_told (Kd.R_old (tR HO_256002.out) hb) (Kd.R_base ho0)) (Kd.R_base ho1)) (fun _ h_ => h_.1)); replace HO_265001 := Aside0.mk (Kd.R_mono (Kd.R_told (Kd.R_told (Kd.R_old (tR HO_265001.out) hb) (Kd.R_base ho0)) (Kd.R_base ho1)) (fun _ h_ => h_.1)); replace HO_265002 := Aside0.mk (Kd.R_mono (Kd.R_told (Kd.R_told (Kd.R_old (tR HO_265002.out) hb) (Kd.R_base ho0)) (Kd.R_base ho1)) (fun _ h_ => h_.1)); replace HO285 := Aside0.mk (Kd.R_mono (Kd.R_told (Kd.R_told (Kd.R_old (tR HO285.out) hb) (Kd.R_base ho0)) (Kd.R_base ho1)) (fun _ h_ => h_.1)); replace HO288 := Aside0.mk (Kd.R_mono (Kd.R_told (Kd.R_told (Kd.R_old (tR HO288.out) hb) (Kd.R_base ho0)) (Kd.R_base ho1)) (fun _ h_ => h_.1)); replace BK230 := bkB BK230 hb; replace BK247 := bkB BK247 hb; replace BK255 := bkB BK255 hb; replace BK264 := bkB BK264 hb; replace HB := Aside0.mk (below_step (tB HB.out) hb); (try clear hb); (try clear hb2); (try clear hk); (try clear hi); (try clear ho0); (try clear ho1)) | ((with_reducible refine gate_dst (N := 14) rfl ?_); refine box_event ?hg (N := 14) ?hd (cs := #[.int .i64 0, .slice none 0 0, .slice none 0 0]) (t := 28) ?hr ?_; (case hd => rfl); (case hg => rfl); (case hr => first | (go_simp; done) | (go_simp; rfl)); intro gb297 hg w124 hbox hb; replace HO_248001 := Aside0.mk (Kd.R_below (tR HO_248001.out) hb); replace HO_248002 := Aside0.mk (Kd.R_below (tR HO_248002.out) hb); replace HO_256001 := Aside0.mk (Kd.R_below (tR HO_256001.out) hb); replace HO_256002 := Aside0.mk (Kd.R_below (tR HO_256002.out) hb); replace HO_265001 := Aside0.mk (Kd.R_below (tR HO_265001.out) hb); replace HO_265002 := Aside0.mk (Kd.R_below (tR HO_265002.out) hb); replace HO285 := Aside0.mk (Kd.R_below (tR HO285.out) hb); replace HO288 := Aside0.mk (Kd.R_below (tR HO288.out) hb); replace HO292 := Aside0.mk (Kd.R_below (tR HO292.out) hb); replace HO295 := Aside0.mk (Kd.R_below (tR HO295.out) hb); have BK297 := Aside0.mk (hbox); have GW297 := Aside0.mk (bS HB.out hg); have GE297 := Aside0.mk (bS HB.out hg); replace HB := Aside0.mk (below_step (tB HB.out) hb); have NB230_297 := Aside0.mk (nL BK230.out hg); have NB297_230 := Aside0.mk (nG BK230.out hg); replace BK230 := bkB BK230 hb; have NB247_297 := Aside0.mk (nL BK247.out hg); have NB297_247 := Aside0.mk (nG BK247.out hg); replace BK247 := bkB BK247 hb; have NB255_297 := Aside0.mk (nL BK255.out hg); have NB297_255 := Aside0.mk (nG BK255.out hg); replace BK255 := bkB BK255 hb; have NB264_297 := Aside0.mk (nL BK264.out hg); have NB297_264 := Aside0.mk (nG BK264.out hg); replace BK264 := bkB BK264 hb; clear hb hbox hg; have hnb125 := NB297_230.out; have hnc125 := NB230_297.out; have hnb126 := NB297_247.out; have hnc126 := NB247_297.out; have hnb127 := NB297_255.out; have hnc127 := NB255_297.out; have hnb128 := NB297_264.out; have hnc128 := NB264_297.out; obtain ⟨hcz129_0, hfz129_0, hcz129_1, hfz129_1, hcz129_2, hfz129_2⟩ := cz3 BK297; obtain ⟨Ao130, co130, eo130⟩ := Kd.R_slice HO292.out; subst eo130; obtain ⟨Ao131, co131, eo131⟩ := Kd.R_slice HO295.out; subst eo131))
           (try simp only [Act.put, List.setIfInBounds_toArray, List.set_cons_zero, List.set_cons_succ])
           go_cut [92] (fun v92 wc => ∃ (kq : Nat) (x92_108 : Bool), v92 = .bool x92_108 ∧ Aside0 (laws_FnExactShiftPile.j2 kq t278 x92_108 t256 t279 t280 = some r) ∧ Aside0 (kq ≤ kj64) ∧ Aside0 (Kd.R (Kd.int .i64) 3 wc w.heap.size (fun k_ => some k_ ≠ ((.slice Ao25 t243.length co25) : Value).ownBlock ∧ some k_ ≠ ((.slice Ao32 t275.length co32) : Value).ownBlock ∧ some k_ ≠ ((.slice Ao33 t276.length co33) : Value).ownBlock ∧ some k_ ≠ ((.slice Ao40 t257.length co40) : Value).ownBlock ∧ some k_ ≠ ((.slice Ao41 t260.length co41) : Value).ownBlock ∧ some k_ ≠ ((.slice Ao130 t290.length co130) : Value).ownBlock ∧ some k_ ≠ ((.slice Ao131 t293.length co131) : Value).ownBlock) (.slice Ao24 t240.length co24) t240) ∧ Aside0 (Kd.R (Kd.int .i64) 3 wc w.heap.size (fun k_ => some k_ ≠ ((.slice Ao24 t240.length co24) : Value).ownBlock ∧ some k_ ≠ ((.slice Ao32 t275.length co32) : Value).ownBlock ∧ some k_ ≠ ((.slice Ao33 t276.length co33) : Value).ownBlock ∧ some k_ ≠ ((.slice Ao40 t257.length co40) : Value).ownBlock ∧ some k_ ≠ ((.slice Ao41 t260.length co41) : Value).ownBlock ∧ some k_ ≠ ((.slice Ao130 t290.length co130) : Value).ownBlock ∧ some k_ ≠ ((.slice Ao131 t293.length co131) : Value).ownBlock) (.slice Ao25 t243.length co25) t243) ∧ Aside0 (Kd.R (Kd.int .i64) 3 wc w.heap.size (fun k_ => some k_ ≠ ((.slice Ao24 t240.length co24) : Value).ownBlock ∧ some k_ ≠ ((.slice Ao25 t243.length co25) : Value).ownBlock ∧ some k_ ≠ ((.slice Ao33 t276.length co33) : Value).ownBlock ∧ some k_ ≠ ((.slice Ao40 t257.length co40) : Value).ownBlock ∧ some k_ ≠ ((.slice Ao41 t260.length co41) : Value).ownBlock ∧ some k_ ≠ ((.slice Ao130 t290.length co130) : Value).ownBlock ∧ some k_ ≠ ((.slice Ao131 t293.length co131) : Value).ownBlock) (.slice Ao32 t275.length co32) t275) ∧ Aside0 (Kd.R (Kd.int .i64) 3 wc w.heap.size (fun k_ => some k_ ≠ ((.slice Ao24 t240.length co24) : Value).ownBlock ∧ some k_ ≠ ((.slice Ao25 t243.length co25) : Value).ownBlock ∧ some k_ ≠ ((.slice Ao32 t275.length co32) : Value).ownBlock ∧ some k_ ≠ ((.slice Ao40 t257.length co40) : Value).ownBlock ∧ some k_ ≠ ((.slice Ao41 t260.length co41) : Value).ownBlock ∧ some k_ ≠ ((.slice Ao130 t290.length co130) : Value).ownBlock ∧ some k_ ≠ ((.slice Ao131 t293.length co131) : Value).ownBlock) (.slice Ao33 t276.length co33) t276) ∧ Aside0 (Kd.R (Kd.int .i64) 3 wc w.heap.size (fun k_ => some k_ ≠ ((.slice Ao24 t240.length co24) : Value).ownBlock ∧ some k_ ≠ ((.slice Ao25 t243.length co25) : Value).ownBlock ∧ some k_ ≠ ((.slice Ao32 t275.length co32) : Value).ownBlock ∧ some k_ ≠ ((.slice Ao33 t276.length co33) : Value).ownBlock ∧ some k_ ≠ ((.slice Ao41 t260.length co41) : Value).ownBlock ∧ some k_ ≠ ((.slice Ao130 t290.length co130) : Value).ownBlock ∧ some k_ ≠ ((.slice Ao131 t293.length co131) : Value).ownBlock) (.slice Ao40 t257.length co40) t279) ∧ Aside0 (Kd.R (Kd.int .i64) 3 wc w.heap.size (fun k_ => some k_ ≠ ((.slice Ao24 t240.length co24) : Value).ownBlock ∧ some k_ ≠ ((.slice Ao25 t243.length co25) : Value).ownBlock ∧ some k_ ≠ ((.slice Ao32 t275.length co32) : Value).ownBlock ∧ some k_ ≠ ((.slice Ao33 t276.length co33) : Value).ownBlock ∧ some k_ ≠ ((.slice Ao40 t257.length co40) : Value).ownBlock ∧ some k_ ≠ ((.slice Ao130 t290.length co130) : Value).ownBlock ∧ some k_ ≠ ((.slice Ao131 t293.length co131) : Value).ownBlock) (.slice Ao41 t260.length co41) t280) ∧ Aside0 (Kd.R (Kd.int .i64) 3 wc w.heap.size (fun k_ => some k_ ≠ ((.slice Ao24 t240.length co24) : Value).ownBlock ∧ some k_ ≠ ((.slice Ao25 t243.length co25) : Value).ownBlock ∧ some k_ ≠ ((.slice Ao32 t275.length co32) : Value).ownBlock ∧ some k_ ≠ ((.slice Ao33 t276.length co33) : Value).ownBlock ∧ some k_ ≠ ((.slice Ao40 t257.length co40) : Value).ownBlock ∧ some k_ ≠ ((.slice Ao41 t260.length co41) : Value).ownBlock ∧ some k_ ≠ ((.slice Ao131 t293.length co131) : Value).ownBlock) (.slice Ao130 t290.length co130) t290) ∧ Aside0 (Kd.R (Kd.int .i64) 3 wc w.heap.size (fun k_ => some k_ ≠ ((.slice Ao24 t240.length co24) : Value).ownBlock ∧ some k_ ≠ ((.slice Ao25 t243.length co25) : Value).ownBlock ∧ some k_ ≠ ((.slice Ao32 t275.length co32) : Value).ownBlock ∧ some k_ ≠ ((.slice Ao33 t276.length co33) : Value).ownBlock ∧ some k_ ≠ ((.slice Ao40 t257.length co40) : Value).ownBlock ∧ some k_ ≠ ((.slice Ao41 t260.length co41) : Value).ownBlock ∧ some k_ ≠ ((.slice Ao130 t290.length co130) : Value).ownBlock) (.slice Ao131 t293.length co131) t293) ∧ Aside0 (wc.heap[gb230]? = some (.cells #[.int .i64 a0_0, (.slice A0_1 l0_1.length c0_1), (.slice A0_2 l0_2.length c0_2)] 24 (0, 0))) ∧ Aside0 (wc.heap[gb247]? = some (.cells #[.int .i64 t239, (.slice Ao24 t240.length co24), (.slice Ao25 t243.length co25)] 28 (0, 0))) ∧ Aside0 (wc.heap[gb255]? = some (.cells #[.int .i64 t248, (.slice Ao32 t275.length co32), (.slice Ao33 t276.length co33)] 28 (0, 0))) ∧ Aside0 (wc.heap[gb264]? = some (.cells #[.int .i64 t256, (.slice Ao40 t257.length co40), (.slice Ao41 t260.length co41)] 28 (0, 0))) ∧ Aside0 (wc.heap[gb297]? = some (.cells #[.int .i64 t289, (.slice Ao130 t290.length co130), (.slice Ao131 t293.length co131)] 28 (0, 0))) ∧ Aside0 (Below w.heap.size w wc))
           case first =>
            have H := HC109.out
            clear HC109
            replace H := Option.bind_eq_some_iff.mp H
            obtain ⟨t298, A1320, H⟩ := H
            replace H : (if t298 = true then (laws_FnExactShiftPile.j2 kj64 t278 (t296 != t246) t256 t279 t280) else (laws_FnExactShiftPile.j2 kj64 t278 true t256 t279 t280)) = some r := H
            have A132 := Aside0.mk A1320
            clear A1320
            by_cases c133 : t298 = true
            ·
             subst c133
             have H1 : (laws_FnExactShiftPile.j2 kj64 t278 (t296 != t246) t256 t279 t280) = some r := by rw [if_pos rfl] at H; exact H
             clear H
             have H := H1
             clear H1
             have H' := Aside0.mk H
             clear H
             have hnb134 := NB297_230.out
             have hnc134 := NB230_297.out
             have hnb135 := NB297_247.out
             have hnc135 := NB247_297.out
             have hnb136 := NB297_255.out
             have hnc136 := NB255_297.out
             have hnb137 := NB297_264.out
             have hnc137 := NB264_297.out
             obtain ⟨hcz138_0, hfz138_0, hcz138_1, hfz138_1, hcz138_2, hfz138_2⟩ := cz3 BK297
             have hnb139 := NB247_230.out
             have hnc139 := NB230_247.out
             have hnb140 := NB247_255.out
             have hnc140 := NB255_247.out
             have hnb141 := NB247_264.out
             have hnc141 := NB264_247.out
             obtain ⟨hcz142_0, hfz142_0, hcz142_1, hfz142_1, hcz142_2, hfz142_2⟩ := cz3 BK247
             go_wp2_with (first | ((with_reducible refine gate_callee (f := 19) rfl ?_); refine goesL_ (some 86) rfl rfl Try.func19 (by kernel_rfl) rfl #[.agg #[.int .i64 t289, .slice Ao130 t290.length co130, .slice Ao131 t293.length co131], .agg #[.int .i64 t239, .slice Ao24 t240.length co24, .slice Ao25 t243.length co25]] rfl tM ?_; (with_reducible refine (laws_eqPile.calls kj64 t289 _ _ t290 _ _ t293 t239 _ _ t240 _ _ t243 true _ ?side1 ?side2 ?side3 ?side4 ?side5 ?side6 ?side7 ?side8 A132.out).mono ?_); (case side1 => refine (Kd.R_reads' (e := 3) (base := w.heap.size) (ok := fun k_ => ((((((((some k_ ≠ (.slice Ao131 t293.length co131 : Value).ownBlock ∧ some k_ ≠ (.slice Ao24 t240.length co24 : Value).ownBlock) ∧ some k_ ≠ (.slice Ao25 t243.length co25 : Value).ownBlock) ∧ some k_ ≠ (.slice Ao32 t275.length co32 : Value).ownBlock) ∧ some k_ ≠ (.slice Ao33 t276.length co33 : Value).ownBlock) ∧ some k_ ≠ (.slice Ao40 t257.length co40 : Value).ownBlock) ∧ some k_ ≠ (.slice Ao41 t260.length co41 : Value).ownBlock) ∧ some k_ ≠ (.slice Ao121 t283.length co121 : Value).ownBlock) ∧ some k_ ≠ (.slice Ao122 t286.length co122 : Value).ownBlock)) (n := t290.length) (c := co130) ?_).2.2; exact (by (with_reducible repeat (first | apply Kd.R_alloc | apply Kd.R_drewN | apply Kd.R_drew)); exact (Kd.R_mono (Kd.R_far (p := ⟨gb297, 2, none⟩) (Kd.R_far (p := ⟨gb297, 1, none⟩) (Kd.R_far (p := ⟨gb297, 0, none⟩) (Kd.R_types HO292.out BK297.out (by decide)) (fun _ hk => hk.2) (.int .i64 t289)) (fun _ hk => hk.2) (.slice Ao130 t290.length co130)) (fun _ hk => hk.2) (.slice Ao131 t293.length co131)) (fun _ h_ => h_.1)))); (case side2 => exact (Kd.R_reads' HO292.out).2.1); (case side3 => refine (Kd.R_reads' (e := 3) (base := w.heap.size) (ok := fun k_ => ((((((((some k_ ≠ (.slice Ao130 t290.length co130 : Value).ownBlock ∧ some k_ ≠ (.slice Ao24 t240.length co24 : Value).ownBlock) ∧ some k_ ≠ (.slice Ao25 t243.length co25 : Value).ownBlock) ∧ some k_ ≠ (.slice Ao32 t275.length co32 : Value).ownBlock) ∧ some k_ ≠ (.slice Ao33 t276.length co33 : Value).ownBlock) ∧ some k_ ≠ (.slice Ao40 t257.length co40 : Value).ownBlock) ∧ some k_ ≠ (.slice Ao41 t260.length co41 : Value).ownBlock) ∧ some k_ ≠ (.slice Ao121 t283.length co121 : Value).ownBlock) ∧ some k_ ≠ (.slice Ao122 t286.length co122 : Value).ownBlock)) (n := t293.length) (c := co131) ?_).2.2; exact (by (with_reducible repeat (first | apply Kd.R_alloc | apply Kd.R_drewN | apply Kd.R_drew)); exact (Kd.R_mono (Kd.R_far (p := ⟨gb297, 2, none⟩) (Kd.R_far (p := ⟨gb297, 1, none⟩) (Kd.R_far (p := ⟨gb297, 0, none⟩) (Kd.R_types HO295.out BK297.out (by decide)) (fun _ hk => hk.2) (.int .i64 t289)) (fun _ hk => hk.2) (.slice Ao130 t290.length co130)) (fun _ hk => hk.2) (.slice Ao131 t293.length co131)) (fun _ h_ => h_.1)))); (case side4 => exact (Kd.R_reads' HO295.out).2.1); (case side5 => refine (Kd.R_reads' (e := 3) (base := w.heap.size) (ok := fun k_ => (((((some k_ ≠ (.slice Ao25 t243.length co25 : Value).ownBlock ∧ (some k_ ≠ (.slice Ao32 t275.length co32 : Value).ownBlock ∧ (some k_ ≠ (.slice Ao33 t276.length co33 : Value).ownBlock ∧ (some k_ ≠ (.slice Ao40 t257.length co40 : Value).ownBlock ∧ some k_ ≠ (.slice Ao41 t260.length co41 : Value).ownBlock)))) ∧ some k_ ≠ (.slice Ao121 t283.length co121 : Value).ownBlock) ∧ some k_ ≠ (.slice Ao122 t286.length co122 : Value).ownBlock) ∧ some k_ ≠ (.slice Ao130 t290.length co130 : Value).ownBlock) ∧ some k_ ≠ (.slice Ao131 t293.length co131 : Value).ownBlock)) (n := t240.length) (c := co24) ?_).2.2; exact (by (with_reducible repeat (first | apply Kd.R_alloc | apply Kd.R_drewN | apply Kd.R_drew)); exact (Kd.R_mono (Kd.R_far (p := ⟨gb297, 2, none⟩) (Kd.R_far (p := ⟨gb297, 1, none⟩) (Kd.R_far (p := ⟨gb297, 0, none⟩) (Kd.R_types HO_248001.out BK297.out (by decide)) (fun _ hk => hk.2) (.int .i64 t289)) (fun _ hk => hk.2) (.slice Ao130 t290.length co130)) (fun _ hk => hk.2) (.slice Ao131 t293.length co131)) (fun _ h_ => h_.1)))); (case side6 => exact (Kd.R_reads' HO_248001.out).2.1); (case side7 => refine (Kd.R_reads' (e := 3) (base := w.heap.size) (ok := fun k_ => (((((some k_ ≠ (.slice Ao24 t240.length co24 : Value).ownBlock ∧ (some k_ ≠ (.slice Ao32 t275.length co32 : Value).ownBlock ∧ (some k_ ≠ (.slice Ao33 t276.length co33 : Value).ownBlock ∧ (some k_ ≠ (.slice Ao40 t257.length co40 : Value).ownBlock ∧ some k_ ≠ (.slice Ao41 t260.length co41 : Value).ownBlock)))) ∧ some k_ ≠ (.slice Ao121 t283.length co121 : Value).ownBlock) ∧ some k_ ≠ (.slice Ao122 t286.length co122 : Value).ownBlock) ∧ some k_ ≠ (.slice Ao130 t290.length co130 : Value).ownBlock) ∧ some k_ ≠ (.slice Ao131 t293.length co131 : Value).ownBlock)) (n := t243.length) (c := co25) ?_).2.2; exact (by (with_reducible repeat (first | apply Kd.R_alloc | apply Kd.R_drewN | apply Kd.R_drew)); exact (Kd.R_mono (Kd.R_far (p := ⟨gb297, 2, none⟩) (Kd.R_far (p := ⟨gb297, 1, none⟩) (Kd.R_far (p := ⟨gb297, 0, none⟩) (Kd.R_types HO_248002.out BK297.out (by decide)) (fun _ hk => hk.2) (.int .i64 t289)) (fun _ hk => hk.2) (.slice Ao130 t290.length co130)) (fun _ hk => hk.2) (.slice Ao131 t293.length co131)) (fun _ h_ => h_.1)))); (case side8 => exact (Kd.R_reads' HO_248002.out).2.1); rintro e w143 ⟨rfl, hb⟩; refine ⟨_, rfl, ?_⟩; replace HO_248001 := Aside0.mk (Kd.R_below (by (with_reducible repeat (first | apply Kd.R_alloc | apply Kd.R_drewN | apply Kd.R_drew)); exact (Kd.R_mono (Kd.R_far (p := ⟨gb297, 2, none⟩) (Kd.R_far (p := ⟨gb297, 1, none⟩) (Kd.R_far (p := ⟨gb297, 0, none⟩) (Kd.R_types HO_248001.out BK297.out (by decide)) (fun _ hk => hk.2) (.int .i64 t289)) (fun _ hk => hk.2) (.slice Ao130 t290.length co130)) (fun _ hk => hk.2) (.slice Ao131 t293.length co131)) (fun _ h_ => h_.1))) hb); replace HO_248002 := Aside0.mk (Kd.R_below (by (with_reducible repeat (first | apply Kd.R_alloc | apply Kd.R_drewN | apply Kd.R_drew)); exact (Kd.R_mono (Kd.R_far (p := ⟨gb297, 2, none⟩) (Kd.R_far (p := ⟨gb297, 1, none⟩) (Kd.R_far (p := ⟨gb297, 0, none⟩) (Kd.R_types HO_248002.out BK297.out (by decide)) (fun _ hk => hk.2) (.int .i64 t289)) (fun _ hk => hk.2) (.slice Ao130 t290.length co130)) (fun _ hk => hk.2) (.slice Ao131 t293.length co131)) (fun _ h_ => h_.1))) hb); replace HO_256001 := Aside0.mk (Kd.R_below (by (with_reducible repeat (first | apply Kd.R_alloc | apply Kd.R_drewN | apply Kd.R_drew)); exact (Kd.R_mono (Kd.R_far (p := ⟨gb297, 2, none⟩) (Kd.R_far (p := ⟨gb297, 1, none⟩) (Kd.R_far (p := ⟨gb297, 0, none⟩) (Kd.R_types HO_256001.out BK297.out (by decide)) (fun _ hk => hk.2) (.int .i64 t289)) (fun _ hk => hk.2) (.slice Ao130 t290.length co130)) (fun _ hk => hk.2) (.slice Ao131 t293.length co131)) (fun _ h_ => h_.1))) hb); replace HO_256002 := Aside0.mk (Kd.R_below (by (with_reducible repeat (first | apply Kd.R_alloc | apply Kd.R_drewN | apply Kd.R_drew)); exact (Kd.R_mono (Kd.R_far (p := ⟨gb297, 2, none⟩) (Kd.R_far (p := ⟨gb297, 1, none⟩) (Kd.R_far (p := ⟨gb297, 0, none⟩) (Kd.R_types HO_256002.out BK297.out (by decide)) (fun _ hk => hk.2) (.int .i64 t289)) (fun _ hk => hk.2) (.slice Ao130 t290.length co130)) (fun _ hk => hk.2) (.slice Ao131 t293.length co131)) (fun _ h_ => h_.1))) hb); replace HO_265001 := Aside0.mk (Kd.R_below (by (with_reducible repeat (first | apply Kd.R_alloc | apply Kd.R_drewN | apply Kd.R_drew)); exact (Kd.R_mono (Kd.R_far (p := ⟨gb297, 2, none⟩) (Kd.R_far (p := ⟨gb297, 1, none⟩) (Kd.R_far (p := ⟨gb297, 0, none⟩) (Kd.R_types HO_265001.out BK297.out (by decide)) (fun _ hk => hk.2) (.int .i64 t289)) (fun _ hk => hk.2) (.slice Ao130 t290.length co130)) (fun _ hk => hk.2) (.slice Ao131 t293.length co131)) (fun _ h_ => h_.1))) hb); replace HO_265002 := Aside0.mk (Kd.R_below (by (with_reducible repeat (first | apply Kd.R_alloc | apply Kd.R_drewN | apply Kd.R_drew)); exact (Kd.R_mono (Kd.R_far (p := ⟨gb297, 2, none⟩) (Kd.R_far (p := ⟨gb297, 1, none⟩) (Kd.R_far (p := ⟨gb297, 0, none⟩) (Kd.R_types HO_265002.out BK297.out (by decide)) (fun _ hk => hk.2) (.int .i64 t289)) (fun _ hk => hk.2) (.slice Ao130 t290.length co130)) (fun _ hk => hk.2) (.slice Ao131 t293.length co131)) (fun _ h_ => h_.1))) hb); replace HO285 := Aside0.mk (Kd.R_below (by (with_reducible repeat (first | apply Kd.R_alloc | apply Kd.R_drewN | apply Kd.R_drew)); exact (Kd.R_mono (Kd.R_far (p := ⟨gb297, 2, none⟩) (Kd.R_far (p := ⟨gb297, 1, none⟩) (Kd.R_far (p := ⟨gb297, 0, none⟩) (Kd.R_types HO285.out BK297.out (by decide)) (fun _ hk => hk.2) (.int .i64 t289)) (fun _ hk => hk.2) (.slice Ao130 t290.length co130)) (fun _ hk => hk.2) (.slice Ao131 t293.length co131)) (fun _ h_ => h_.1))) hb); replace HO288 := Aside0.mk (Kd.R_below (by (with_reducible repeat (first | apply Kd.R_alloc | apply Kd.R_drewN | apply Kd.R_drew)); exact (Kd.R_mono (Kd.R_far (p := ⟨gb297, 2, none⟩) (Kd.R_far (p := ⟨gb297, 1, none⟩) (Kd.R_far (p := ⟨gb297, 0, none⟩) (Kd.R_types HO288.out BK297.out (by decide)) (fun _ hk => hk.2) (.int .i64 t289)) (fun _ hk => hk.2) (.slice Ao130 t290.length co130)) (fun _ hk => hk.2) (.slice Ao131 t293.length co131)) (fun _ h_ => h_.1))) hb); replace HO292 := Aside0.mk (Kd.R_below (by (with_reducible repeat (first | apply Kd.R_alloc | apply Kd.R_drewN | apply Kd.R_drew)); exact (Kd.R_mono (Kd.R_far (p := ⟨gb297, 2, none⟩) (Kd.R_far (p := ⟨gb297, 1, none⟩) (Kd.R_far (p := ⟨gb297, 0, none⟩) (Kd.R_types HO292.out BK297.out (by decide)) (fun _ hk => hk.2) (.int .i64 t289)) (fun _ hk => hk.2) (.slice Ao130 t290.length co130)) (fun _ hk => hk.2) (.slice Ao131 t293.length co131)) (fun _ h_ => h_.1))) hb); replace HO295 := Aside0.mk (Kd.R_below (by (with_reducible repeat (first | apply Kd.R_alloc | apply Kd.R_drewN | apply Kd.R_drew)); exact (Kd.R_mono (Kd.R_far (p := ⟨gb297, 2, none⟩) (Kd.R_far (p := ⟨gb297, 1, none⟩) (Kd.R_far (p := ⟨gb297, 0, none⟩) (Kd.R_types HO295.out BK297.out (by decide)) (fun _ hk => hk.2) (.int .i64 t289)) (fun _ hk => hk.2) (.slice Ao130 t290.length co130)) (fun _ hk => hk.2) (.slice Ao131 t293.length co131)) (fun _ h_ => h_.1))) hb); replace BK230 := Aside0.mk (blk_below (g := gb230) (o := .cells #[.int .i64 a0_0, .slice A0_1 l0_1.length c0_1, .slice A0_2 l0_2.length c0_2] 24 (0, 0)) (by (with_reducible repeat (first | refine blk_drewN ?_ _ | refine blk_drew ?_ | refine blk_alloc ?_ _)); refine blk_far ?_ NB230_297.out _; (with_reducible repeat (first | refine blk_drewN ?_ _ | refine blk_drew ?_ | refine blk_alloc ?_ _)); refine blk_far ?_ NB230_297.out _; (with_reducible repeat (first | refine blk_drewN ?_ _ | refine blk_drew ?_ | refine blk_alloc ?_ _)); refine blk_far ?_ NB230_297.out _; (with_reducible repeat (first | refine blk_drewN ?_ _ | refine blk_drew ?_ | refine blk_alloc ?_ _)); exact BK230.out) hb); replace BK247 := Aside0.mk (blk_below (g := gb247) (o := .cells #[.int .i64 t239, .slice Ao24 t240.length co24, .slice Ao25 t243.length co25] 28 (0, 0)) (by (with_reducible repeat (first | refine blk_drewN ?_ _ | refine blk_drew ?_ | refine blk_alloc ?_ _)); refine blk_far ?_ NB247_297.out _; (with_reducible repeat (first | refine blk_drewN ?_ _ | refine blk_drew ?_ | refine blk_alloc ?_ _)); refine blk_far ?_ NB247_297.out _; (with_reducible repeat (first | refine blk_drewN ?_ _ | refine blk_drew ?_ | refine blk_alloc ?_ _)); refine blk_far ?_ NB247_297.out _; (with_reducible repeat (first | refine blk_drewN ?_ _ | refine blk_drew ?_ | refine blk_alloc ?_ _)); exact BK247.out) hb); replace BK255 := Aside0.mk (blk_below (g := gb255) (o := .cells #[.int .i64 t248, .slice Ao32 t275.length co32, .slice Ao33 t276.length co33] 28 (0, 0)) (by (with_reducible repeat (first | refine blk_drewN ?_ _ | refine blk_drew ?_ | refine blk_alloc ?_ _)); refine blk_far ?_ NB255_297.out _; (with_reducible repeat (first | refine blk_drewN ?_ _ | refine blk_drew ?_ | refine blk_alloc ?_ _)); refine blk_far ?_ NB255_297.out _; (with_reducible repeat (first | refine blk_drewN ?_ _ | refine blk_drew ?_ | refine blk_alloc ?_ _)); refine blk_far ?_ NB255_297.out _; (with_reducible repeat (first | refine blk_drewN ?_ _ | refine blk_drew ?_ | refine blk_alloc ?_ _)); exact BK255.out) hb); replace BK264 := Aside0.mk (blk_below (g := gb264) (o := .cells #[.int .i64 t256, .slice Ao40 t257.length co40, .slice Ao41 t260.length co41] 28 (0, 0)) (by (with_reducible repeat (first | refine blk_drewN ?_ _ | refine blk_drew ?_ | refine blk_alloc ?_ _)); refine blk_far ?_ NB264_297.out _; (with_reducible repeat (first | refine blk_drewN ?_ _ | refine blk_drew ?_ | refine blk_alloc ?_ _)); refine blk_far ?_ NB264_297.out _; (with_reducible repeat (first | refine blk_drewN ?_ _ | refine blk_drew ?_ | refine blk_alloc ?_ _)); refine blk_far ?_ NB264_297.out _; (with_reducible repeat (first | refine blk_drewN ?_ _ | refine blk_drew ?_ | refine blk_alloc ?_ _)); exact BK264.out) hb); replace BK297 := Aside0.mk (blk_below (g := gb297) (o := .cells #[.int .i64 t289, .slice Ao130 t290.length co130, .slice Ao131 t293.length co131] 28 (0, 0)) (by (with_reducible repeat (first | refine blk_drewN ?_ _ | refine blk_drew ?_ | refine blk_alloc ?_ _)); refine blk_put (cs := #[.int .i64 t289, .slice Ao130 t290.length co130, .slice none 0 0]) ?_ 2 _ rfl; (with_reducible repeat (first | refine blk_drewN ?_ _ | refine blk_drew ?_ | refine blk_alloc ?_ _)); refine blk_put (cs := #[.int .i64 t289, .slice none 0 0, .slice none 0 0]) ?_ 1 _ rfl; (with_reducible repeat (first | refine blk_drewN ?_ _ | refine blk_drew ?_ | refine blk_alloc ?_ _)); refine blk_put (cs := #[.int .i64 0, .slice none 0 0, .slice none 0 0]) ?_ 0 _ rfl; (with_reducible repeat (first | refine blk_drewN ?_ _ | refine blk_drew ?_ | refine blk_alloc ?_ _)); exact BK297.out) hb); replace HB := Aside0.mk (below_step (tB HB.out) hb); (try clear hb); (try clear hb2); (try clear hk); (try clear hi)))
             go_meet
             case rel => exact ⟨_, ((t296 != t246)), (by first | rfl | (simp; done) | (simp [wrap64]; done) | (simp [*]; done)), H', ⟨by have := HJ11.out; have := HJ64.out; first | omega | exact Nat.le_refl _⟩, ⟨by (try simp only [hl256001_64]); (try simp only [hl256002_64]); (with_reducible repeat (first | apply Kd.R_alloc | apply Kd.R_drewN | apply Kd.R_drew)); exact Kd.R_mono HO_248001.out (fun _ hk => ⟨hk.1.1.1.1.1, ⟨hk.1.1.1.1.2.1, ⟨hk.1.1.1.1.2.2.1, ⟨hk.1.1.1.1.2.2.2.1, ⟨hk.1.1.1.1.2.2.2.2, ⟨hk.1.2, hk.2⟩⟩⟩⟩⟩⟩)⟩, ⟨by (try simp only [hl256001_64]); (try simp only [hl256002_64]); (with_reducible repeat (first | apply Kd.R_alloc | apply Kd.R_drewN | apply Kd.R_drew)); exact Kd.R_mono HO_248002.out (fun _ hk => ⟨hk.1.1.1.1.1, ⟨hk.1.1.1.1.2.1, ⟨hk.1.1.1.1.2.2.1, ⟨hk.1.1.1.1.2.2.2.1, ⟨hk.1.1.1.1.2.2.2.2, ⟨hk.1.2, hk.2⟩⟩⟩⟩⟩⟩)⟩, ⟨by (try simp only [hl256001_64]); (try simp only [hl256002_64]); (with_reducible repeat (first | apply Kd.R_alloc | apply Kd.R_drewN | apply Kd.R_drew)); exact Kd.R_mono HO_256001.out (fun _ hk => ⟨hk.1.1.1.1.1, ⟨hk.1.1.1.1.2.1, ⟨hk.1.1.1.1.2.2.1, ⟨hk.1.1.1.1.2.2.2.1, ⟨hk.1.1.1.1.2.2.2.2, ⟨hk.1.2, hk.2⟩⟩⟩⟩⟩⟩)⟩, ⟨by (try simp only [hl256001_64]); (try simp only [hl256002_64]); (with_reducible repeat (first | apply Kd.R_alloc | apply Kd.R_drewN | apply Kd.R_drew)); exact Kd.R_mono HO_256002.out (fun _ hk => ⟨hk.1.1.1.1.1, ⟨hk.1.1.1.1.2.1, ⟨hk.1.1.1.1.2.2.1, ⟨hk.1.1.1.1.2.2.2.1, ⟨hk.1.1.1.1.2.2.2.2, ⟨hk.1.2, hk.2⟩⟩⟩⟩⟩⟩)⟩, ⟨by (try simp only [hl256001_64]); (try simp only [hl256002_64]); (with_reducible repeat (first | apply Kd.R_alloc | apply Kd.R_drewN | apply Kd.R_drew)); exact Kd.R_mono HO_265001.out (fun _ hk => ⟨hk.1.1.1.1.1, ⟨hk.1.1.1.1.2.1, ⟨hk.1.1.1.1.2.2.1, ⟨hk.1.1.1.1.2.2.2.1, ⟨hk.1.1.1.1.2.2.2.2, ⟨hk.1.2, hk.2⟩⟩⟩⟩⟩⟩)⟩, ⟨by (try simp only [hl256001_64]); (try simp only [hl256002_64]); (with_reducible repeat (first | apply Kd.R_alloc | apply Kd.R_drewN | apply Kd.R_drew)); exact Kd.R_mono HO_265002.out (fun _ hk => ⟨hk.1.1.1.1.1, ⟨hk.1.1.1.1.2.1, ⟨hk.1.1.1.1.2.2.1, ⟨hk.1.1.1.1.2.2.2.1, ⟨hk.1.1.1.1.2.2.2.2, ⟨hk.1.2, hk.2⟩⟩⟩⟩⟩⟩)⟩, ⟨by (try simp only [hl256001_64]); (try simp only [hl256002_64]); (with_reducible repeat (first | apply Kd.R_alloc | apply Kd.R_drewN | apply Kd.R_drew)); exact Kd.R_mono HO292.out (fun _ hk => ⟨hk.1.1.1.1.1.1.1.2, ⟨hk.1.1.1.1.1.1.2, ⟨hk.1.1.1.1.1.2, ⟨hk.1.1.1.1.2, ⟨hk.1.1.1.2, ⟨hk.1.1.2, hk.1.1.1.1.1.1.1.1⟩⟩⟩⟩⟩⟩)⟩, ⟨by (try simp only [hl256001_64]); (try simp only [hl256002_64]); (with_reducible repeat (first | apply Kd.R_alloc | apply Kd.R_drewN | apply Kd.R_drew)); exact Kd.R_mono HO295.out (fun _ hk => ⟨hk.1.1.1.1.1.1.1.2, ⟨hk.1.1.1.1.1.1.2, ⟨hk.1.1.1.1.1.2, ⟨hk.1.1.1.1.2, ⟨hk.1.1.1.2, ⟨hk.1.1.2, hk.1.1.1.1.1.1.1.1⟩⟩⟩⟩⟩⟩)⟩, ⟨by (try simp only [hl256001_64]); (try simp only [hl256002_64]); (with_reducible repeat (first | refine blk_drewN ?_ _ | refine blk_drew ?_ | refine blk_alloc ?_ _)); exact BK230.out⟩, ⟨by (try simp only [hl256001_64]); (try simp only [hl256002_64]); (with_reducible repeat (first | refine blk_drewN ?_ _ | refine blk_drew ?_ | refine blk_alloc ?_ _)); exact BK247.out⟩, ⟨by (try simp only [hl256001_64]); (try simp only [hl256002_64]); (with_reducible repeat (first | refine blk_drewN ?_ _ | refine blk_drew ?_ | refine blk_alloc ?_ _)); exact BK255.out⟩, ⟨by (try simp only [hl256001_64]); (try simp only [hl256002_64]); (with_reducible repeat (first | refine blk_drewN ?_ _ | refine blk_drew ?_ | refine blk_alloc ?_ _)); exact BK264.out⟩, ⟨by (try simp only [hl256001_64]); (try simp only [hl256002_64]); (with_reducible repeat (first | refine blk_drewN ?_ _ | refine blk_drew ?_ | refine blk_alloc ?_ _)); exact BK297.out⟩, ⟨tB HB.out⟩⟩
            ·
             replace c133 := Bool.eq_false_iff.mpr c133
             subst c133
             have H1 : (laws_FnExactShiftPile.j2 kj64 t278 true t256 t279 t280) = some r := by rw [if_neg (show ¬ (false = true) by decide)] at H; exact H
             clear H
             have H := H1
             clear H1
             have H' := Aside0.mk H
             clear H
             have hnb144 := NB297_230.out
             have hnc144 := NB230_297.out
             have hnb145 := NB297_247.out
             have hnc145 := NB247_297.out
             have hnb146 := NB297_255.out
             have hnc146 := NB255_297.out
             have hnb147 := NB297_264.out
             have hnc147 := NB264_297.out
             obtain ⟨hcz148_0, hfz148_0, hcz148_1, hfz148_1, hcz148_2, hfz148_2⟩ := cz3 BK297
             have hnb149 := NB247_230.out
             have hnc149 := NB230_247.out
             have hnb150 := NB247_255.out
             have hnc150 := NB255_247.out
             have hnb151 := NB247_264.out
             have hnc151 := NB264_247.out
             obtain ⟨hcz152_0, hfz152_0, hcz152_1, hfz152_1, hcz152_2, hfz152_2⟩ := cz3 BK247
             go_wp2_with (first | ((with_reducible refine gate_callee (f := 19) rfl ?_); refine goesL_ (some 86) rfl rfl Try.func19 (by kernel_rfl) rfl #[.agg #[.int .i64 t289, .slice Ao130 t290.length co130, .slice Ao131 t293.length co131], .agg #[.int .i64 t239, .slice Ao24 t240.length co24, .slice Ao25 t243.length co25]] rfl tM ?_; (with_reducible refine (laws_eqPile.calls kj64 t289 _ _ t290 _ _ t293 t239 _ _ t240 _ _ t243 false _ ?side1 ?side2 ?side3 ?side4 ?side5 ?side6 ?side7 ?side8 A132.out).mono ?_); (case side1 => refine (Kd.R_reads' (e := 3) (base := w.heap.size) (ok := fun k_ => ((((((((some k_ ≠ (.slice Ao131 t293.length co131 : Value).ownBlock ∧ some k_ ≠ (.slice Ao24 t240.length co24 : Value).ownBlock) ∧ some k_ ≠ (.slice Ao25 t243.length co25 : Value).ownBlock) ∧ some k_ ≠ (.slice Ao32 t275.length co32 : Value).ownBlock) ∧ some k_ ≠ (.slice Ao33 t276.length co33 : Value).ownBlock) ∧ some k_ ≠ (.slice Ao40 t257.length co40 : Value).ownBlock) ∧ some k_ ≠ (.slice Ao41 t260.length co41 : Value).ownBlock) ∧ some k_ ≠ (.slice Ao121 t283.length co121 : Value).ownBlock) ∧ some k_ ≠ (.slice Ao122 t286.length co122 : Value).ownBlock)) (n := t290.length) (c := co130) ?_).2.2; exact (by (with_reducible repeat (first | apply Kd.R_alloc | apply Kd.R_drewN | apply Kd.R_drew)); exact (Kd.R_mono (Kd.R_far (p := ⟨gb297, 2, none⟩) (Kd.R_far (p := ⟨gb297, 1, none⟩) (Kd.R_far (p := ⟨gb297, 0, none⟩) (Kd.R_types HO292.out BK297.out (by decide)) (fun _ hk => hk.2) (.int .i64 t289)) (fun _ hk => hk.2) (.slice Ao130 t290.length co130)) (fun _ hk => hk.2) (.slice Ao131 t293.length co131)) (fun _ h_ => h_.1)))); (case side2 => exact (Kd.R_reads' HO292.out).2.1); (case side3 => refine (Kd.R_reads' (e := 3) (base := w.heap.size) (ok := fun k_ => ((((((((some k_ ≠ (.slice Ao130 t290.length co130 : Value).ownBlock ∧ some k_ ≠ (.slice Ao24 t240.length co24 : Value).ownBlock) ∧ some k_ ≠ (.slice Ao25 t243.length co25 : Value).ownBlock) ∧ some k_ ≠ (.slice Ao32 t275.length co32 : Value).ownBlock) ∧ some k_ ≠ (.slice Ao33 t276.length co33 : Value).ownBlock) ∧ some k_ ≠ (.slice Ao40 t257.length co40 : Value).ownBlock) ∧ some k_ ≠ (.slice Ao41 t260.length co41 : Value).ownBlock) ∧ some k_ ≠ (.slice Ao121 t283.length co121 : Value).ownBlock) ∧ some k_ ≠ (.slice Ao122 t286.length co122 : Value).ownBlock)) (n := t293.length) (c := co131) ?_).2.2; exact (by (with_reducible repeat (first | apply Kd.R_alloc | apply Kd.R_drewN | apply Kd.R_drew)); exact (Kd.R_mono (Kd.R_far (p := ⟨gb297, 2, none⟩) (Kd.R_far (p := ⟨gb297, 1, none⟩) (Kd.R_far (p := ⟨gb297, 0, none⟩) (Kd.R_types HO295.out BK297.out (by decide)) (fun _ hk => hk.2) (.int .i64 t289)) (fun _ hk => hk.2) (.slice Ao130 t290.length co130)) (fun _ hk => hk.2) (.slice Ao131 t293.length co131)) (fun _ h_ => h_.1)))); (case side4 => exact (Kd.R_reads' HO295.out).2.1); (case side5 => refine (Kd.R_reads' (e := 3) (base := w.heap.size) (ok := fun k_ => (((((some k_ ≠ (.slice Ao25 t243.length co25 : Value).ownBlock ∧ (some k_ ≠ (.slice Ao32 t275.length co32 : Value).ownBlock ∧ (some k_ ≠ (.slice Ao33 t276.length co33 : Value).ownBlock ∧ (some k_ ≠ (.slice Ao40 t257.length co40 : Value).ownBlock ∧ some k_ ≠ (.slice Ao41 t260.length co41 : Value).ownBlock)))) ∧ some k_ ≠ (.slice Ao121 t283.length co121 : Value).ownBlock) ∧ some k_ ≠ (.slice Ao122 t286.length co122 : Value).ownBlock) ∧ some k_ ≠ (.slice Ao130 t290.length co130 : Value).ownBlock) ∧ some k_ ≠ (.slice Ao131 t293.length co131 : Value).ownBlock)) (n := t240.length) (c := co24) ?_).2.2; exact (by (with_reducible repeat (first | apply Kd.R_alloc | apply Kd.R_drewN | apply Kd.R_drew)); exact (Kd.R_mono (Kd.R_far (p := ⟨gb297, 2, none⟩) (Kd.R_far (p := ⟨gb297, 1, none⟩) (Kd.R_far (p := ⟨gb297, 0, none⟩) (Kd.R_types HO_248001.out BK297.out (by decide)) (fun _ hk => hk.2) (.int .i64 t289)) (fun _ hk => hk.2) (.slice Ao130 t290.length co130)) (fun _ hk => hk.2) (.slice Ao131 t293.length co131)) (fun _ h_ => h_.1)))); (case side6 => exact (Kd.R_reads' HO_248001.out).2.1); (case side7 => refine (Kd.R_reads' (e := 3) (base := w.heap.size) (ok := fun k_ => (((((some k_ ≠ (.slice Ao24 t240.length co24 : Value).ownBlock ∧ (some k_ ≠ (.slice Ao32 t275.length co32 : Value).ownBlock ∧ (some k_ ≠ (.slice Ao33 t276.length co33 : Value).ownBlock ∧ (some k_ ≠ (.slice Ao40 t257.length co40 : Value).ownBlock ∧ some k_ ≠ (.slice Ao41 t260.length co41 : Value).ownBlock)))) ∧ some k_ ≠ (.slice Ao121 t283.length co121 : Value).ownBlock) ∧ some k_ ≠ (.slice Ao122 t286.length co122 : Value).ownBlock) ∧ some k_ ≠ (.slice Ao130 t290.length co130 : Value).ownBlock) ∧ some k_ ≠ (.slice Ao131 t293.length co131 : Value).ownBlock)) (n := t243.length) (c := co25) ?_).2.2; exact (by (with_reducible repeat (first | apply Kd.R_alloc | apply Kd.R_drewN | apply Kd.R_drew)); exact (Kd.R_mono (Kd.R_far (p := ⟨gb297, 2, none⟩) (Kd.R_far (p := ⟨gb297, 1, none⟩) (Kd.R_far (p := ⟨gb297, 0, none⟩) (Kd.R_types HO_248002.out BK297.out (by decide)) (fun _ hk => hk.2) (.int .i64 t289)) (fun _ hk => hk.2) (.slice Ao130 t290.length co130)) (fun _ hk => hk.2) (.slice Ao131 t293.length co131)) (fun _ h_ => h_.1)))); (case side8 => exact (Kd.R_reads' HO_248002.out).2.1); rintro e w153 ⟨rfl, hb⟩; refine ⟨_, rfl, ?_⟩; replace HO_248001 := Aside0.mk (Kd.R_below (by (with_reducible repeat (first | apply Kd.R_alloc | apply Kd.R_drewN | apply Kd.R_drew)); exact (Kd.R_mono (Kd.R_far (p := ⟨gb297, 2, none⟩) (Kd.R_far (p := ⟨gb297, 1, none⟩) (Kd.R_far (p := ⟨gb297, 0, none⟩) (Kd.R_types HO_248001.out BK297.out (by decide)) (fun _ hk => hk.2) (.int .i64 t289)) (fun _ hk => hk.2) (.slice Ao130 t290.length co130)) (fun _ hk => hk.2) (.slice Ao131 t293.length co131)) (fun _ h_ => h_.1))) hb); replace HO_248002 := Aside0.mk (Kd.R_below (by (with_reducible repeat (first | apply Kd.R_alloc | apply Kd.R_drewN | apply Kd.R_drew)); exact (Kd.R_mono (Kd.R_far (p := ⟨gb297, 2, none⟩) (Kd.R_far (p := ⟨gb297, 1, none⟩) (Kd.R_far (p := ⟨gb297, 0, none⟩) (Kd.R_types HO_248002.out BK297.out (by decide)) (fun _ hk => hk.2) (.int .i64 t289)) (fun _ hk => hk.2) (.slice Ao130 t290.length co130)) (fun _ hk => hk.2) (.slice Ao131 t293.length co131)) (fun _ h_ => h_.1))) hb); replace HO_256001 := Aside0.mk (Kd.R_below (by (with_reducible repeat (first | apply Kd.R_alloc | apply Kd.R_drewN | apply Kd.R_drew)); exact (Kd.R_mono (Kd.R_far (p := ⟨gb297, 2, none⟩) (Kd.R_far (p := ⟨gb297, 1, none⟩) (Kd.R_far (p := ⟨gb297, 0, none⟩) (Kd.R_types HO_256001.out BK297.out (by decide)) (fun _ hk => hk.2) (.int .i64 t289)) (fun _ hk => hk.2) (.slice Ao130 t290.length co130)) (fun _ hk => hk.2) (.slice Ao131 t293.length co131)) (fun _ h_ => h_.1))) hb); replace HO_256002 := Aside0.mk (Kd.R_below (by (with_reducible repeat (first | apply Kd.R_alloc | apply Kd.R_drewN | apply Kd.R_drew)); exact (Kd.R_mono (Kd.R_far (p := ⟨gb297, 2, none⟩) (Kd.R_far (p := ⟨gb297, 1, none⟩) (Kd.R_far (p := ⟨gb297, 0, none⟩) (Kd.R_types HO_256002.out BK297.out (by decide)) (fun _ hk => hk.2) (.int .i64 t289)) (fun _ hk => hk.2) (.slice Ao130 t290.length co130)) (fun _ hk => hk.2) (.slice Ao131 t293.length co131)) (fun _ h_ => h_.1))) hb); replace HO_265001 := Aside0.mk (Kd.R_below (by (with_reducible repeat (first | apply Kd.R_alloc | apply Kd.R_drewN | apply Kd.R_drew)); exact (Kd.R_mono (Kd.R_far (p := ⟨gb297, 2, none⟩) (Kd.R_far (p := ⟨gb297, 1, none⟩) (Kd.R_far (p := ⟨gb297, 0, none⟩) (Kd.R_types HO_265001.out BK297.out (by decide)) (fun _ hk => hk.2) (.int .i64 t289)) (fun _ hk => hk.2) (.slice Ao130 t290.length co130)) (fun _ hk => hk.2) (.slice Ao131 t293.length co131)) (fun _ h_ => h_.1))) hb); replace HO_265002 := Aside0.mk (Kd.R_below (by (with_reducible repeat (first | apply Kd.R_alloc | apply Kd.R_drewN | apply Kd.R_drew)); exact (Kd.R_mono (Kd.R_far (p := ⟨gb297, 2, none⟩) (Kd.R_far (p := ⟨gb297, 1, none⟩) (Kd.R_far (p := ⟨gb297, 0, none⟩) (Kd.R_types HO_265002.out BK297.out (by decide)) (fun _ hk => hk.2) (.int .i64 t289)) (fun _ hk => hk.2) (.slice Ao130 t290.length co130)) (fun _ hk => hk.2) (.slice Ao131 t293.length co131)) (fun _ h_ => h_.1))) hb); replace HO285 := Aside0.mk (Kd.R_below (by (with_reducible repeat (first | apply Kd.R_alloc | apply Kd.R_drewN | apply Kd.R_drew)); exact (Kd.R_mono (Kd.R_far (p := ⟨gb297, 2, none⟩) (Kd.R_far (p := ⟨gb297, 1, none⟩) (Kd.R_far (p := ⟨gb297, 0, none⟩) (Kd.R_types HO285.out BK297.out (by decide)) (fun _ hk => hk.2) (.int .i64 t289)) (fun _ hk => hk.2) (.slice Ao130 t290.length co130)) (fun _ hk => hk.2) (.slice Ao131 t293.length co131)) (fun _ h_ => h_.1))) hb); replace HO288 := Aside0.mk (Kd.R_below (by (with_reducible repeat (first | apply Kd.R_alloc | apply Kd.R_drewN | apply Kd.R_drew)); exact (Kd.R_mono (Kd.R_far (p := ⟨gb297, 2, none⟩) (Kd.R_far (p := ⟨gb297, 1, none⟩) (Kd.R_far (p := ⟨gb297, 0, none⟩) (Kd.R_types HO288.out BK297.out (by decide)) (fun _ hk => hk.2) (.int .i64 t289)) (fun _ hk => hk.2) (.slice Ao130 t290.length co130)) (fun _ hk => hk.2) (.slice Ao131 t293.length co131)) (fun _ h_ => h_.1))) hb); replace HO292 := Aside0.mk (Kd.R_below (by (with_reducible repeat (first | apply Kd.R_alloc | apply Kd.R_drewN | apply Kd.R_drew)); exact (Kd.R_mono (Kd.R_far (p := ⟨gb297, 2, none⟩) (Kd.R_far (p := ⟨gb297, 1, none⟩) (Kd.R_far (p := ⟨gb297, 0, none⟩) (Kd.R_types HO292.out BK297.out (by decide)) (fun _ hk => hk.2) (.int .i64 t289)) (fun _ hk => hk.2) (.slice Ao130 t290.length co130)) (fun _ hk => hk.2) (.slice Ao131 t293.length co131)) (fun _ h_ => h_.1))) hb); replace HO295 := Aside0.mk (Kd.R_below (by (with_reducible repeat (first | apply Kd.R_alloc | apply Kd.R_drewN | apply Kd.R_drew)); exact (Kd.R_mono (Kd.R_far (p := ⟨gb297, 2, none⟩) (Kd.R_far (p := ⟨gb297, 1, none⟩) (Kd.R_far (p := ⟨gb297, 0, none⟩) (Kd.R_types HO295.out BK297.out (by decide)) (fun _ hk => hk.2) (.int .i64 t289)) (fun _ hk => hk.2) (.slice Ao130 t290.length co130)) (fun _ hk => hk.2) (.slice Ao131 t293.length co131)) (fun _ h_ => h_.1))) hb); replace BK230 := Aside0.mk (blk_below (g := gb230) (o := .cells #[.int .i64 a0_0, .slice A0_1 l0_1.length c0_1, .slice A0_2 l0_2.length c0_2] 24 (0, 0)) (by (with_reducible repeat (first | refine blk_drewN ?_ _ | refine blk_drew ?_ | refine blk_alloc ?_ _)); refine blk_far ?_ NB230_297.out _; (with_reducible repeat (first | refine blk_drewN ?_ _ | refine blk_drew ?_ | refine blk_alloc ?_ _)); refine blk_far ?_ NB230_297.out _; (with_reducible repeat (first | refine blk_drewN ?_ _ | refine blk_drew ?_ | refine blk_alloc ?_ _)); refine blk_far ?_ NB230_297.out _; (with_reducible repeat (first | refine blk_drewN ?_ _ | refine blk_drew ?_ | refine blk_alloc ?_ _)); exact BK230.out) hb); replace BK247 := Aside0.mk (blk_below (g := gb247) (o := .cells #[.int .i64 t239, .slice Ao24 t240.length co24, .slice Ao25 t243.length co25] 28 (0, 0)) (by (with_reducible repeat (first | refine blk_drewN ?_ _ | refine blk_drew ?_ | refine blk_alloc ?_ _)); refine blk_far ?_ NB247_297.out _; (with_reducible repeat (first | refine blk_drewN ?_ _ | refine blk_drew ?_ | refine blk_alloc ?_ _)); refine blk_far ?_ NB247_297.out _; (with_reducible repeat (first | refine blk_drewN ?_ _ | refine blk_drew ?_ | refine blk_alloc ?_ _)); refine blk_far ?_ NB247_297.out _; (with_reducible repeat (first | refine blk_drewN ?_ _ | refine blk_drew ?_ | refine blk_alloc ?_ _)); exact BK247.out) hb); replace BK255 := Aside0.mk (blk_below (g := gb255) (o := .cells #[.int .i64 t248, .slice Ao32 t275.length co32, .slice Ao33 t276.length co33] 28 (0, 0)) (by (with_reducible repeat (first | refine blk_drewN ?_ _ | refine blk_drew ?_ | refine blk_alloc ?_ _)); refine blk_far ?_ NB255_297.out _; (with_reducible repeat (first | refine blk_drewN ?_ _ | refine blk_drew ?_ | refine blk_alloc ?_ _)); refine blk_far ?_ NB255_297.out _; (with_reducible repeat (first | refine blk_drewN ?_ _ | refine blk_drew ?_ | refine blk_alloc ?_ _)); refine blk_far ?_ NB255_297.out _; (with_reducible repeat (first | refine blk_drewN ?_ _ | refine blk_drew ?_ | refine blk_alloc ?_ _)); exact BK255.out) hb); replace BK264 := Aside0.mk (blk_below (g := gb264) (o := .cells #[.int .i64 t256, .slice Ao40 t257.length co40, .slice Ao41 t260.length co41] 28 (0, 0)) (by (with_reducible repeat (first | refine blk_drewN ?_ _ | refine blk_drew ?_ | refine blk_alloc ?_ _)); refine blk_far ?_ NB264_297.out _; (with_reducible repeat (first | refine blk_drewN ?_ _ | refine blk_drew ?_ | refine blk_alloc ?_ _)); refine blk_far ?_ NB264_297.out _; (with_reducible repeat (first | refine blk_drewN ?_ _ | refine blk_drew ?_ | refine blk_alloc ?_ _)); refine blk_far ?_ NB264_297.out _; (with_reducible repeat (first | refine blk_drewN ?_ _ | refine blk_drew ?_ | refine blk_alloc ?_ _)); exact BK264.out) hb); replace BK297 := Aside0.mk (blk_below (g := gb297) (o := .cells #[.int .i64 t289, .slice Ao130 t290.length co130, .slice Ao131 t293.length co131] 28 (0, 0)) (by (with_reducible repeat (first | refine blk_drewN ?_ _ | refine blk_drew ?_ | refine blk_alloc ?_ _)); refine blk_put (cs := #[.int .i64 t289, .slice Ao130 t290.length co130, .slice none 0 0]) ?_ 2 _ rfl; (with_reducible repeat (first | refine blk_drewN ?_ _ | refine blk_drew ?_ | refine blk_alloc ?_ _)); refine blk_put (cs := #[.int .i64 t289, .slice none 0 0, .slice none 0 0]) ?_ 1 _ rfl; (with_reducible repeat (first | refine blk_drewN ?_ _ | refine blk_drew ?_ | refine blk_alloc ?_ _)); refine blk_put (cs := #[.int .i64 0, .slice none 0 0, .slice none 0 0]) ?_ 0 _ rfl; (with_reducible repeat (first | refine blk_drewN ?_ _ | refine blk_drew ?_ | refine blk_alloc ?_ _)); exact BK297.out) hb); replace HB := Aside0.mk (below_step (tB HB.out) hb); (try clear hb); (try clear hb2); (try clear hk); (try clear hi)))
             go_meet
             case rel => exact ⟨_, (true), (by first | rfl | (simp; done) | (simp [wrap64]; done) | (simp [*]; done)), H', ⟨by have := HJ11.out; have := HJ64.out; first | omega | exact Nat.le_refl _⟩, ⟨by (try simp only [hl256001_64]); (try simp only [hl256002_64]); (with_reducible repeat (first | apply Kd.R_alloc | apply Kd.R_drewN | apply Kd.R_drew)); exact Kd.R_mono HO_248001.out (fun _ hk => ⟨hk.1.1.1.1.1, ⟨hk.1.1.1.1.2.1, ⟨hk.1.1.1.1.2.2.1, ⟨hk.1.1.1.1.2.2.2.1, ⟨hk.1.1.1.1.2.2.2.2, ⟨hk.1.2, hk.2⟩⟩⟩⟩⟩⟩)⟩, ⟨by (try simp only [hl256001_64]); (try simp only [hl256002_64]); (with_reducible repeat (first | apply Kd.R_alloc | apply Kd.R_drewN | apply Kd.R_drew)); exact Kd.R_mono HO_248002.out (fun _ hk => ⟨hk.1.1.1.1.1, ⟨hk.1.1.1.1.2.1, ⟨hk.1.1.1.1.2.2.1, ⟨hk.1.1.1.1.2.2.2.1, ⟨hk.1.1.1.1.2.2.2.2, ⟨hk.1.2, hk.2⟩⟩⟩⟩⟩⟩)⟩, ⟨by (try simp only [hl256001_64]); (try simp only [hl256002_64]); (with_reducible repeat (first | apply Kd.R_alloc | apply Kd.R_drewN | apply Kd.R_drew)); exact Kd.R_mono HO_256001.out (fun _ hk => ⟨hk.1.1.1.1.1, ⟨hk.1.1.1.1.2.1, ⟨hk.1.1.1.1.2.2.1, ⟨hk.1.1.1.1.2.2.2.1, ⟨hk.1.1.1.1.2.2.2.2, ⟨hk.1.2, hk.2⟩⟩⟩⟩⟩⟩)⟩, ⟨by (try simp only [hl256001_64]); (try simp only [hl256002_64]); (with_reducible repeat (first | apply Kd.R_alloc | apply Kd.R_drewN | apply Kd.R_drew)); exact Kd.R_mono HO_256002.out (fun _ hk => ⟨hk.1.1.1.1.1, ⟨hk.1.1.1.1.2.1, ⟨hk.1.1.1.1.2.2.1, ⟨hk.1.1.1.1.2.2.2.1, ⟨hk.1.1.1.1.2.2.2.2, ⟨hk.1.2, hk.2⟩⟩⟩⟩⟩⟩)⟩, ⟨by (try simp only [hl256001_64]); (try simp only [hl256002_64]); (with_reducible repeat (first | apply Kd.R_alloc | apply Kd.R_drewN | apply Kd.R_drew)); exact Kd.R_mono HO_265001.out (fun _ hk => ⟨hk.1.1.1.1.1, ⟨hk.1.1.1.1.2.1, ⟨hk.1.1.1.1.2.2.1, ⟨hk.1.1.1.1.2.2.2.1, ⟨hk.1.1.1.1.2.2.2.2, ⟨hk.1.2, hk.2⟩⟩⟩⟩⟩⟩)⟩, ⟨by (try simp only [hl256001_64]); (try simp only [hl256002_64]); (with_reducible repeat (first | apply Kd.R_alloc | apply Kd.R_drewN | apply Kd.R_drew)); exact Kd.R_mono HO_265002.out (fun _ hk => ⟨hk.1.1.1.1.1, ⟨hk.1.1.1.1.2.1, ⟨hk.1.1.1.1.2.2.1, ⟨hk.1.1.1.1.2.2.2.1, ⟨hk.1.1.1.1.2.2.2.2, ⟨hk.1.2, hk.2⟩⟩⟩⟩⟩⟩)⟩, ⟨by (try simp only [hl256001_64]); (try simp only [hl256002_64]); (with_reducible repeat (first | apply Kd.R_alloc | apply Kd.R_drewN | apply Kd.R_drew)); exact Kd.R_mono HO292.out (fun _ hk => ⟨hk.1.1.1.1.1.1.1.2, ⟨hk.1.1.1.1.1.1.2, ⟨hk.1.1.1.1.1.2, ⟨hk.1.1.1.1.2, ⟨hk.1.1.1.2, ⟨hk.1.1.2, hk.1.1.1.1.1.1.1.1⟩⟩⟩⟩⟩⟩)⟩, ⟨by (try simp only [hl256001_64]); (try simp only [hl256002_64]); (with_reducible repeat (first | apply Kd.R_alloc | apply Kd.R_drewN | apply Kd.R_drew)); exact Kd.R_mono HO295.out (fun _ hk => ⟨hk.1.1.1.1.1.1.1.2, ⟨hk.1.1.1.1.1.1.2, ⟨hk.1.1.1.1.1.2, ⟨hk.1.1.1.1.2, ⟨hk.1.1.1.2, ⟨hk.1.1.2, hk.1.1.1.1.1.1.1.1⟩⟩⟩⟩⟩⟩)⟩, ⟨by (try simp only [hl256001_64]); (try simp only [hl256002_64]); (with_reducible repeat (first | refine blk_drewN ?_ _ | refine blk_drew ?_ | refine blk_alloc ?_ _)); exact BK230.out⟩, ⟨by (try simp only [hl256001_64]); (try simp only [hl256002_64]); (with_reducible repeat (first | refine blk_drewN ?_ _ | refine blk_drew ?_ | refine blk_alloc ?_ _)); exact BK247.out⟩, ⟨by (try simp only [hl256001_64]); (try simp only [hl256002_64]); (with_reducible repeat (first | refine blk_drewN ?_ _ | refine blk_drew ?_ | refine blk_alloc ?_ _)); exact BK255.out⟩, ⟨by (try simp only [hl256001_64]); (try simp only [hl256002_64]); (with_reducible repeat (first | refine blk_drewN ?_ _ | refine blk_drew ?_ | refine blk_alloc ?_ _)); exact BK264.out⟩, ⟨by (try simp only [hl256001_64]); (try simp only [hl256002_64]); (with_reducible repeat (first | refine blk_drewN ?_ _ | refine blk_drew ?_ | refine blk_alloc ?_ _)); exact BK297.out⟩, ⟨tB HB.out⟩⟩
           case rest =>
            clear HC109
            try clear c1
            try clear c2
            try clear p2
            try clear c3
            try clear c4
            try clear c4b0
            try clear c5
            try clear c6
            try clear p6
            try clear c7
            try clear c8
            try clear c9
            try clear c10
            try clear c11
            try clear c12
            try clear c13
            try clear c14
            try clear c15
            try clear c17
            try clear c19
            try clear c22
            try clear c24
            try clear c25
            try clear c29
            try clear c30
            try clear c36
            try clear c37
            try clear c38
            try clear c39
            try clear c40
            try clear c43
            try clear c44
            try clear c45
            try clear c46
            try clear c48
            try clear c49
            try clear c52
            try clear c53
            try clear c54
            try clear c56
            try clear c57
            try clear c60
            try clear c63
            try clear p64
            try clear c71
            try clear c72
            try clear c73
            try clear c76
            try clear c76b0
            try clear c78
            try clear c79
            try clear c80
            try clear c81
            try clear c83
            try clear c84
            try clear c87
            try clear c88
            try clear c89
            try clear c91
            try clear c92
            try clear c95
            try clear c98
            try clear c98b0
            try clear c99
            try clear c100
            try clear c101
            try clear c106
            try clear c106b0
            try clear c106b1
            try clear c110
            try clear c111
            try clear c112
            try clear c117
            try clear c118
            try clear c125
            try clear c126
            try clear c127
            try clear c128
            try clear c133
            try clear c134
            try clear c135
            try clear c136
            try clear c137
            try clear c139
            try clear c140
            try clear c141
            try clear c144
            try clear c145
            try clear c146
            try clear c147
            try clear c149
            try clear c150
            try clear c151
            try clear hcz102_0
            try clear hcz102_1
            try clear hcz102_2
            try clear hcz104_0
            try clear hcz104_1
            try clear hcz104_2
            try clear hcz113_0
            try clear hcz113_1
            try clear hcz113_2
            try clear hcz115_0
            try clear hcz115_1
            try clear hcz115_2
            try clear hcz119_0
            try clear hcz119_1
            try clear hcz119_2
            try clear hcz129_0
            try clear hcz129_1
            try clear hcz129_2
            try clear hcz138_0
            try clear hcz138_1
            try clear hcz138_2
            try clear hcz142_0
            try clear hcz142_1
            try clear hcz142_2
            try clear hcz148_0
            try clear hcz148_1
            try clear hcz148_2
            try clear hcz14_0
            try clear hcz14_1
            try clear hcz14_2
            try clear hcz152_0
            try clear hcz152_1
            try clear hcz152_2
            try clear hcz16_0
            try clear hcz16_1
            try clear hcz16_2
            try clear hcz23_0
            try clear hcz23_1
            try clear hcz23_2
            try clear hcz26_0
            try clear hcz26_1
            try clear hcz26_2
            try clear hcz31_0
            try clear hcz31_1
            try clear hcz31_2
            try clear hcz39_0
            try clear hcz39_1
            try clear hcz39_2
            try clear hcz47_0
            try clear hcz47_1
            try clear hcz47_2
            try clear hcz50_0
            try clear hcz50_1
            try clear hcz50_2
            try clear hcz55_0
            try clear hcz55_1
            try clear hcz55_2
            try clear hcz58_0
            try clear hcz58_1
            try clear hcz58_2
            try clear hcz6_0
            try clear hcz6_1
            try clear hcz6_2
            try clear hcz74_0
            try clear hcz74_1
            try clear hcz74_2
            try clear hcz82_0
            try clear hcz82_1
            try clear hcz82_2
            try clear hcz85_0
            try clear hcz85_1
            try clear hcz85_2
            try clear hcz90_0
            try clear hcz90_1
            try clear hcz90_2
            try clear hcz93_0
            try clear hcz93_1
            try clear hcz93_2
            try clear hfz102_0
            try clear hfz102_1
            try clear hfz102_2
            try clear hfz104_0
            try clear hfz104_1
            try clear hfz104_2
            try clear hfz113_0
            try clear hfz113_1
            try clear hfz113_2
            try clear hfz115_0
            try clear hfz115_1
            try clear hfz115_2
            try clear hfz119_0
            try clear hfz119_1
            try clear hfz119_2
            try clear hfz129_0
            try clear hfz129_1
            try clear hfz129_2
            try clear hfz138_0
            try clear hfz138_1
            try clear hfz138_2
            try clear hfz142_0
            try clear hfz142_1
            try clear hfz142_2
            try clear hfz148_0
            try clear hfz148_1
            try clear hfz148_2
            try clear hfz14_0
            try clear hfz14_1
            try clear hfz14_2
            try clear hfz152_0
            try clear hfz152_1
            try clear hfz152_2
            try clear hfz16_0
            try clear hfz16_1
            try clear hfz16_2
            try clear hfz23_0
            try clear hfz23_1
            try clear hfz23_2
            try clear hfz26_0
            try clear hfz26_1
            try clear hfz26_2
            try clear hfz31_0
            try clear hfz31_1
            try clear hfz31_2
            try clear hfz39_0
            try clear hfz39_1
            try clear hfz39_2
            try clear hfz47_0
            try clear hfz47_1
            try clear hfz47_2
            try clear hfz50_0
            try clear hfz50_1
            try clear hfz50_2
            try clear hfz55_0
            try clear hfz55_1
            try clear hfz55_2
            try clear hfz58_0
            try clear hfz58_1
            try clear hfz58_2
            try clear hfz6_0
            try clear hfz6_1
            try clear hfz6_2
            try clear hfz74_0
            try clear hfz74_1
            try clear hfz74_2
            try clear hfz82_0
            try clear hfz82_1
            try clear hfz82_2
            try clear hfz85_0
            try clear hfz85_1
            try clear hfz85_2
            try clear hfz90_0
            try clear hfz90_1
            try clear hfz90_2
            try clear hfz93_0
            try clear hfz93_1
            try clear hfz93_2
            try clear p2
            try clear p6
            try clear p64
            obtain ⟨kq, x92_108, rfl, HA, HJ108, HO_248001, HO_248002, HO_256001, HO_256002, HO_265001, HO_265002, HO_298001, HO_298002, BK230, BK247, BK255, BK264, BK297, HB⟩ := hcut
            have hl265001_108 := (Kd.R_reads' HO_265001.out).1
            rw [hl265001_108] at HO_265001
            (try simp only [hl265001_108])
            (try simp only [hl265001_108] at BK230)
            (try simp only [hl265001_108] at BK247)
            (try simp only [hl265001_108] at BK255)
            (try simp only [hl265001_108] at BK264)
            (try simp only [hl265001_108] at BK297)
            (try simp only [hl265001_108] at HO_248001)
            (try simp only [hl265001_108] at HO_248002)
            (try simp only [hl265001_108] at HO_256001)
            (try simp only [hl265001_108] at HO_256002)
            (try simp only [hl265001_108] at HO_265002)
            (try simp only [hl265001_108] at HO_298001)
            (try simp only [hl265001_108] at HO_298002)
            have hl265002_108 := (Kd.R_reads' HO_265002.out).1
            rw [hl265002_108] at HO_265002
            (try simp only [hl265002_108])
            (try simp only [hl265002_108] at BK230)
            (try simp only [hl265002_108] at BK247)
            (try simp only [hl265002_108] at BK255)
            (try simp only [hl265002_108] at BK264)
            (try simp only [hl265002_108] at BK297)
            (try simp only [hl265002_108] at HO_248001)
            (try simp only [hl265002_108] at HO_248002)
            (try simp only [hl265002_108] at HO_256001)
            (try simp only [hl265002_108] at HO_256002)
            (try simp only [hl265002_108] at HO_265001)
            (try simp only [hl265002_108] at HO_298001)
            (try simp only [hl265002_108] at HO_298002)
            cases kq with
            | zero => exact absurd HA.out (by simp [laws_FnExactShiftPile.j2])
            | succ kj108 =>
             have H := HA.out
             clear HA
             simp only [laws_FnExactShiftPile.j2] at H
             by_cases c154 : x92_108 = true
             ·
              subst c154
              have H1 : (some false) = some r := by rw [if_pos rfl] at H; exact H
              clear H
              have H := H1
              clear H1
              obtain rfl := Option.some.inj H
              go_wp2
              go_ret
              exact ⟨by first | rfl | (simp [errW_none, errW_some] <;> rfl) | (simp [*, errW_none, errW_some] <;> rfl), tB HB.out⟩
             ·
              replace c154 := Bool.eq_false_iff.mpr c154
              subst c154
              have H1 : ((laws_heldPile.f kj108 t256 t279 t280 1).bind fun t299 => (if t299 < 0 then (some false) else (if t299 = t278 then (some true) else (some false)))) = some r := by rw [if_neg (show ¬ (false = true) by decide)] at H; exact H
              clear H
              have H := H1
              clear H1
              replace H := Option.bind_eq_some_iff.mp H
              obtain ⟨t299, A1550, H⟩ := H
              replace H : (if t299 < 0 then (some false) else (if t299 = t278 then (some true) else (some false))) = some r := H
              have A155 := Aside0.mk A1550
              clear A1550
              by_cases c156 : t299 < 0
              ·
               rw [if_pos c156] at H
               have c156b0 : decide (t299 < 0) = true := decide_eq_true c156
               clear c156
               obtain rfl := Option.some.inj H
               have hnb157 := NB264_230.out
               have hnc157 := NB230_264.out
               have hnb158 := NB264_247.out
               have hnc158 := NB247_264.out
               have hnb159 := NB264_255.out
               have hnc159 := NB255_264.out
               have hnb160 := NB264_297.out
               have hnc160 := NB297_264.out
               obtain ⟨hcz161_0, hfz161_0, hcz161_1, hfz161_1, hcz161_2, hfz161_2⟩ := cz3 BK264
               go_wp2_with (first | ((with_reducible refine gate_callee (f := 25) rfl ?_); refine goesL_ (some 95) rfl rfl Try.func25 (by kernel_rfl) rfl #[.agg #[.int .i64 t256, .slice Ao40 t279.length co40, .slice Ao41 t280.length co41], .int .i64 1] rfl tM ?_; (with_reducible refine (laws_heldPile.calls kj108 t256 _ _ t279 _ _ t280 1 t299 _ ?side1 ?side2 ?side3 ?side4 A155.out).mono ?_); (case side1 => exact tC (Kd.R_reads' HO_265001.out).2.2); (case side2 => exact (Kd.R_reads' HO_265001.out).2.1); (case side3 => exact tC (Kd.R_reads' HO_265002.out).2.2); (case side4 => exact (Kd.R_reads' HO_265002.out).2.1); rintro e w162 ⟨rfl, hb⟩; refine ⟨_, rfl, ?_⟩; replace HO_248001 := Aside0.mk (Kd.R_below (tR HO_248001.out) hb); replace HO_248002 := Aside0.mk (Kd.R_below (tR HO_248002.out) hb); replace HO_256001 := Aside0.mk (Kd.R_below (tR HO_256001.out) hb); replace HO_256002 := Aside0.mk (Kd.R_below (tR HO_256002.out) hb); replace HO_265001 := Aside0.mk (Kd.R_below (tR HO_265001.out) hb); replace HO_265002 := Aside0.mk (Kd.R_below (tR HO_265002.out) hb); replace HO_298001 := Aside0.mk (Kd.R_below (tR HO_298001.out) hb); replace HO_298002 := Aside0.mk (Kd.R_below (tR HO_298002.out) hb); replace BK230 := bkB BK230 hb; replace BK247 := bkB BK247 hb; replace BK255 := bkB BK255 hb; replace BK264 := bkB BK264 hb; replace BK297 := bkB BK297 hb; replace HB := Aside0.mk (below_step (tB HB.out) hb); (try clear hb); (try clear hb2); (try clear hk); (try clear hi)))
               go_ret
               exact ⟨by first | rfl | (simp [errW_none, errW_some] <;> rfl) | (simp [*, errW_none, errW_some] <;> rfl), tB HB.out⟩
              ·
               rw [if_neg c156] at H
               have c156b0 : decide (t299 < 0) = false := decide_eq_false c156
               clear c156
               by_cases c163 : t299 = t278
               ·
                rw [if_pos c163] at H
                have c163b0 : (t299 == t278) = true := beq_iff_eq.mpr c163
                have c163b1 : (t299 != t278) = false := bne_eq_false_iff_eq.mpr c163
                clear c163
                obtain rfl := Option.some.inj H
                have hnb164 := NB264_230.out
                have hnc164 := NB230_264.out
                have hnb165 := NB264_247.out
                have hnc165 := NB247_264.out
                have hnb166 := NB264_255.out
                have hnc166 := NB255_264.out
                have hnb167 := NB264_297.out
                have hnc167 := NB297_264.out
                obtain ⟨hcz168_0, hfz168_0, hcz168_1, hfz168_1, hcz168_2, hfz168_2⟩ := cz3 BK264
                go_wp2_with (first | ((with_reducible refine gate_callee (f := 25) rfl ?_); refine goesL_ (some 95) rfl rfl Try.func25 (by kernel_rfl) rfl #[.agg #[.int .i64 t256, .slice Ao40 t279.length co40, .slice Ao41 t280.length co41], .int .i64 1] rfl tM ?_; (with_reducible refine (laws_heldPile.calls kj108 t256 _ _ t279 _ _ t280 1 t299 _ ?side1 ?side2 ?side3 ?side4 A155.out).mono ?_); (case side1 => exact tC (Kd.R_reads' HO_265001.out).2.2); (case side2 => exact (Kd.R_reads' HO_265001.out).2.1); (case side3 => exact tC (Kd.R_reads' HO_265002.out).2.2); (case side4 => exact (Kd.R_reads' HO_265002.out).2.1); rintro e w169 ⟨rfl, hb⟩; refine ⟨_, rfl, ?_⟩; replace HO_248001 := Aside0.mk (Kd.R_below (tR HO_248001.out) hb); replace HO_248002 := Aside0.mk (Kd.R_below (tR HO_248002.out) hb); replace HO_256001 := Aside0.mk (Kd.R_below (tR HO_256001.out) hb); replace HO_256002 := Aside0.mk (Kd.R_below (tR HO_256002.out) hb); replace HO_265001 := Aside0.mk (Kd.R_below (tR HO_265001.out) hb); replace HO_265002 := Aside0.mk (Kd.R_below (tR HO_265002.out) hb); replace HO_298001 := Aside0.mk (Kd.R_below (tR HO_298001.out) hb); replace HO_298002 := Aside0.mk (Kd.R_below (tR HO_298002.out) hb); replace BK230 := bkB BK230 hb; replace BK247 := bkB BK247 hb; replace BK255 := bkB BK255 hb; replace BK264 := bkB BK264 hb; replace BK297 := bkB BK297 hb; replace HB := Aside0.mk (below_step (tB HB.out) hb); (try clear hb); (try clear hb2); (try clear hk); (try clear hi)))
                go_ret
                exact ⟨by first | rfl | (simp [errW_none, errW_some] <;> rfl) | (simp [*, errW_none, errW_some] <;> rfl), tB HB.out⟩
               ·
                rw [if_neg c163] at H
                have c163b0 : (t299 == t278) = false := beq_eq_false_iff_ne.mpr c163
                have c163b1 : (t299 != t278) = true := bne_iff_ne.mpr c163
                obtain rfl := Option.some.inj H
                have hnb170 := NB264_230.out
                have hnc170 := NB230_264.out
                have hnb171 := NB264_247.out
                have hnc171 := NB247_264.out
                have hnb172 := NB264_255.out
                have hnc172 := NB255_264.out
                have hnb173 := NB264_297.out
                have hnc173 := NB297_264.out
                obtain ⟨hcz174_0, hfz174_0, hcz174_1, hfz174_1, hcz174_2, hfz174_2⟩ := cz3 BK264
                go_wp2_with (first | ((with_reducible refine gate_callee (f := 25) rfl ?_); refine goesL_ (some 95) rfl rfl Try.func25 (by kernel_rfl) rfl #[.agg #[.int .i64 t256, .slice Ao40 t279.length co40, .slice Ao41 t280.length co41], .int .i64 1] rfl tM ?_; (with_reducible refine (laws_heldPile.calls kj108 t256 _ _ t279 _ _ t280 1 t299 _ ?side1 ?side2 ?side3 ?side4 A155.out).mono ?_); (case side1 => exact tC (Kd.R_reads' HO_265001.out).2.2); (case side2 => exact (Kd.R_reads' HO_265001.out).2.1); (case side3 => exact tC (Kd.R_reads' HO_265002.out).2.2); (case side4 => exact (Kd.R_reads' HO_265002.out).2.1); rintro e w175 ⟨rfl, hb⟩; refine ⟨_, rfl, ?_⟩; replace HO_248001 := Aside0.mk (Kd.R_below (tR HO_248001.out) hb); replace HO_248002 := Aside0.mk (Kd.R_below (tR HO_248002.out) hb); replace HO_256001 := Aside0.mk (Kd.R_below (tR HO_256001.out) hb); replace HO_256002 := Aside0.mk (Kd.R_below (tR HO_256002.out) hb); replace HO_265001 := Aside0.mk (Kd.R_below (tR HO_265001.out) hb); replace HO_265002 := Aside0.mk (Kd.R_below (tR HO_265002.out) hb); replace HO_298001 := Aside0.mk (Kd.R_below (tR HO_298001.out) hb); replace HO_298002 := Aside0.mk (Kd.R_below (tR HO_298002.out) hb); replace BK230 := bkB BK230 hb; replace BK247 := bkB BK247 hb; replace BK255 := bkB BK255 hb; replace BK264 := bkB BK264 hb; replace BK297 := bkB BK297 hb; replace HB := Aside0.mk (below_step (tB HB.out) hb); (try clear hb); (try clear hb2); (try clear hk); (try clear hi)))
                go_ret
                exact ⟨by first | rfl | (simp [errW_none, errW_some] <;> rfl) | (simp [*, errW_none, errW_some] <;> rfl), tB HB.out⟩
          ·
           rw [if_neg c106] at H
           have c106b0 : (t281 == t278) = false := beq_eq_false_iff_ne.mpr c106
           have c106b1 : (t281 != t278) = true := bne_iff_ne.mpr c106
           obtain rfl := Option.some.inj H
           have hnb176 := NB264_230.out
           have hnc176 := NB230_264.out
           have hnb177 := NB264_247.out
           have hnc177 := NB247_264.out
           have hnb178 := NB264_255.out
           have hnc178 := NB255_264.out
           obtain ⟨hcz179_0, hfz179_0, hcz179_1, hfz179_1, hcz179_2, hfz179_2⟩ := cz3 BK264
           go_wp2_with (first | ((with_reducible refine gate_callee (f := 24) rfl ?_); refine goesL_ (some 68) rfl rfl Try.func24 (by kernel_rfl) rfl #[.agg #[.int .i64 t256, .slice Ao40 t257.length co40, .slice Ao41 t260.length co41], .int .i64 1] rfl tM ?_; (with_reducible refine (laws_markPile.calls kj64 t256 (fun k_ => some k_ = (.slice Ao40 t257.length co40 : Value).ownBlock) (.slice Ao40 t257.length co40) t257 (fun k_ => some k_ = (.slice Ao41 t260.length co41 : Value).ownBlock) (.slice Ao41 t260.length co41) t260 1 t278 t279 t280 w _ ?side1 ?side2 ?side3 ?side4 ?side5 A96.out).mono ?_); (case side1 => repeat (first | (with_reducible first | exact HB.out | apply below_alloc | apply pw_below_drewN | apply below_drew1 | refine below_set ?_ GE230.out | refine below_set ?_ GE247.out | refine below_set ?_ GE255.out | refine below_set ?_ GE264.out) | exact HB.out)); (case side2 => exact Kd.R_tight rfl HO_265001.out); (case side3 => exact fun k_ e_ => (HO_265001.out.1 k_ e_.symm).2.2.2.2); (case side4 => exact Kd.R_tight rfl HO_265002.out); (case side5 => exact fun k_ e_ => (HO_265002.out.1 k_ e_.symm).2.2.2.2); rintro e w180 ⟨rfl, hy0, hy1, hb, hkp⟩; refine ⟨_, rfl, ?_⟩; replace HO_248001 := Aside0.mk (Kd.R_mono (ok' := fun k_ => some k_ ≠ (.slice Ao25 t243.length co25 : Value).ownBlock ∧ some k_ ≠ (.slice Ao32 t275.length co32 : Value).ownBlock ∧ some k_ ≠ (.slice Ao33 t276.length co33 : Value).ownBlock ∧ some k_ ≠ (.slice Ao40 t257.length co40 : Value).ownBlock ∧ some k_ ≠ (.slice Ao41 t260.length co41 : Value).ownBlock) (Kd.R_keptB (HO_248001.out) hkp (fun k_ hk_ hs_ => Or.elim hs_ (fun e_ => (hk_.2.2.2.1) e_) (fun e_ => (hk_.2.2.2.2) e_))) (fun k_ hk_ => ⟨hk_.1.1, hk_.1.2.1, hk_.1.2.2.1, hk_.1.2.2.2.1, hk_.1.2.2.2.2⟩)); replace HO_248002 := Aside0.mk (Kd.R_mono (ok' := fun k_ => some k_ ≠ (.slice Ao24 t240.length co24 : Value).ownBlock ∧ some k_ ≠ (.slice Ao32 t275.length co32 : Value).ownBlock ∧ some k_ ≠ (.slice Ao33 t276.length co33 : Value).ownBlock ∧ some k_ ≠ (.slice Ao40 t257.length co40 : Value).ownBlock ∧ some k_ ≠ (.slice Ao41 t260.length co41 : Value).ownBlock) (Kd.R_keptB (HO_248002.out) hkp (fun k_ hk_ hs_ => Or.elim hs_ (fun e_ => (hk_.2.2.2.1) e_) (fun e_ => (hk_.2.2.2.2) e_))) (fun k_ hk_ => ⟨hk_.1.1, hk_.1.2.1, hk_.1.2.2.1, hk_.1.2.2.2.1, hk_.1.2.2.2.2⟩)); replace HO_256001 := Aside0.mk (Kd.R_mono (ok' := fun k_ => some k_ ≠ (.slice Ao24 t240.length co24 : Value).ownBlock ∧ some k_ ≠ (.slice Ao25 t243.length co25 : Value).ownBlock ∧ some k_ ≠ (.slice Ao33 t276.length co33 : Value).ownBlock ∧ some k_ ≠ (.slice Ao40 t257.length co40 : Value).ownBlock ∧ some k_ ≠ (.slice Ao41 t260.length co41 : Value).ownBlock) (Kd.R_keptB (HO_256001.out) hkp (fun k_ hk_ hs_ => Or.elim hs_ (fun e_ => (hk_.2.2.2.1) e_) (fun e_ => (hk_.2.2.2.2) e_))) (fun k_ hk_ => ⟨hk_.1.1, hk_.1.2.1, hk_.1.2.2.1, hk_.1.2.2.2.1, hk_.1.2.2.2.2⟩)); replace HO_256002 := Aside0.mk (Kd.R_mono (ok' := fun k_ => some k_ ≠ (.slice Ao24 t240.length co24 : Value).ownBlock ∧ some k_ ≠ (.slice Ao25 t243.length co25 : Value).ownBlock ∧ some k_ ≠ (.slice Ao32 t275.length co32 : Value).ownBlock ∧ some k_ ≠ (.slice Ao40 t257.length co40 : Value).ownBlock ∧ some k_ ≠ (.slice Ao41 t260.length co41 : Value).ownBlock) (Kd.R_keptB (HO_256002.out) hkp (fun k_ hk_ hs_ => Or.elim hs_ (fun e_ => (hk_.2.2.2.1) e_) (fun e_ => (hk_.2.2.2.2) e_))) (fun k_ hk_ => ⟨hk_.1.1, hk_.1.2.1, hk_.1.2.2.1, hk_.1.2.2.2.1, hk_.1.2.2.2.2⟩)); replace BK230 := Aside0.mk (blk_kept (tK BK230.out) hkp (fun hs_ => Or.elim hs_ (fun e_ => (fun e_ => (Kd.R_ne HO_265001.out BK230.out (by decide)) e_) e_) (fun e_ => (fun e_ => (Kd.R_ne HO_265002.out BK230.out (by decide)) e_) e_))); replace BK247 := Aside0.mk (blk_kept (tK BK247.out) hkp (fun hs_ => Or.elim hs_ (fun e_ => (fun e_ => (Kd.R_ne HO_265001.out BK247.out (by decide)) e_) e_) (fun e_ => (fun e_ => (Kd.R_ne HO_265002.out BK247.out (by decide)) e_) e_))); replace BK255 := Aside0.mk (blk_kept (tK BK255.out) hkp (fun hs_ => Or.elim hs_ (fun e_ => (fun e_ => (Kd.R_ne HO_265001.out BK255.out (by decide)) e_) e_) (fun e_ => (fun e_ => (Kd.R_ne HO_265002.out BK255.out (by decide)) e_) e_))); replace BK264 := Aside0.mk (blk_kept (tK BK264.out) hkp (fun hs_ => Or.elim hs_ (fun e_ => (fun e_ => (Kd.R_ne HO_265001.out BK264.out (by decide)) e_) e_) (fun e_ => (fun e_ => (Kd.R_ne HO_265002.out BK264.out (by decide)) e_) e_))); replace HO_265001 := Aside0.mk (Kd.R_reok rfl hy0 (fun k_ e_ => HO_265001.out.1 k_ e_)); replace HO_265002 := Aside0.mk (Kd.R_reok rfl hy1 (fun k_ e_ => HO_265002.out.1 k_ e_)); replace HB := Aside0.mk (hb); (try clear hb); (try clear hkp); (try clear hy0); (try clear hy1); obtain ⟨hcz181_0, hfz181_0, hcz181_1, hfz181_1, hcz181_2, hfz181_2⟩ := cz3 BK264) | ((with_reducible refine gate_callee (f := 25) rfl ?_); refine goesL_ (some 71) rfl rfl Try.func25 (by kernel_rfl) rfl #[.agg #[.int .i64 t256, .slice Ao40 t279.length co40, .slice Ao41 t280.length co41], .int .i64 1] rfl (by (try simp only [List.map_toArray, List.map_cons, List.map_nil]); first | done | (rw [show t279.length = t257.length from (Kd.R_reads' HO_265001.out).1.symm, show t280.length = t260.length from (Kd.R_reads' HO_265002.out).1.symm] <;> rfl) | rfl | (simp only [List.length_drop, List.length_take]; rfl)) ?_; (with_reducible refine (laws_heldPile.calls kj64 t256 _ _ t279 _ _ t280 1 t281 _ ?side1 ?side2 ?side3 ?side4 A97.out).mono ?_); (case side1 => exact tC (Kd.R_reads' HO_265001.out).2.2); (case side2 => rw [show t279.length = t257.length from (Kd.R_reads' HO_265001.out).1.symm]; exact (Kd.R_reads' HO_265001.out).2.1); (case side3 => exact tC (Kd.R_reads' HO_265002.out).2.2); (case side4 => rw [show t280.length = t260.length from (Kd.R_reads' HO_265002.out).1.symm]; exact (Kd.R_reads' HO_265002.out).2.1); rintro e w182 ⟨rfl, hb⟩; refine ⟨_, rfl, ?_⟩; replace HO_248001 := Aside0.mk (Kd.R_below (tR HO_248001.out) hb); replace HO_248002 := Aside0.mk (Kd.R_below (tR HO_248002.out) hb); replace HO_256001 := Aside0.mk (Kd.R_below (tR HO_256001.out) hb); replace HO_256002 := Aside0.mk (Kd.R_below (tR HO_256002.out) hb); replace HO_265001 := Aside0.mk (Kd.R_below (tR HO_265001.out) hb); replace HO_265002 := Aside0.mk (Kd.R_below (tR HO_265002.out) hb); replace BK230 := bkB BK230 hb; replace BK247 := bkB BK247 hb; replace BK255 := bkB BK255 hb; replace BK264 := bkB BK264 hb; replace HB := Aside0.mk (below_step (tB HB.out) hb); (try clear hb); (try clear hb2); (try clear hk); (try clear hi)))
           go_ret
           exact ⟨by first | rfl | (simp [errW_none, errW_some] <;> rfl) | (simp [*, errW_none, errW_some] <;> rfl), tB HB.out⟩
     ·
      replace c63 := Bool.eq_false_iff.mpr c63
      subst c63
      have H1 : (some false) = some r := by rw [if_neg (show ¬ (false = true) by decide)] at H; exact H
      clear H
      have H := H1
      clear H1
      obtain rfl := Option.some.inj H
      try go_wp2
      replace HO_248001 := Aside0.mk (Kd.R_drew HO_248001.out)
      replace HO_248002 := Aside0.mk (Kd.R_drew HO_248002.out)
      replace HO_256001 := Aside0.mk (Kd.R_drew HO_256001.out)
      replace HO_256002 := Aside0.mk (Kd.R_drew HO_256002.out)
      replace HO_265001 := Aside0.mk (Kd.R_drew HO_265001.out)
      replace HO_265002 := Aside0.mk (Kd.R_drew HO_265002.out)
      replace BK230 := Aside0.mk (blk_drew BK230.out)
      replace BK247 := Aside0.mk (blk_drew BK247.out)
      replace BK255 := Aside0.mk (blk_drew BK255.out)
      replace BK264 := Aside0.mk (blk_drew BK264.out)
      replace HB := Aside0.mk (below_drew1 HB.out)
      refine start_ (n := 5) (S := fun w' => w'.cell? ⟨gb255, 0, none⟩ = some (.int .i64 t248) ∧ w'.cell? ⟨gb255, 1, none⟩ = some (.slice Ao32 t249.length co32) ∧ w'.cell? ⟨gb255, 2, none⟩ = some (.slice Ao33 t252.length co33) ∧ w'.cell? ⟨gb230, 0, none⟩ = some (.int .i64 a0_0) ∧ w'.cell? ⟨gb230, 1, none⟩ = some (.slice A0_1 l0_1.length c0_1) ∧ w'.cell? ⟨gb230, 2, none⟩ = some (.slice A0_2 l0_2.length c0_2)) (ds := []) #[false, false, false, false, false] (by kernel_rfl) rfl rfl ⟨(blk_cell BK255.out 0).trans rfl, (blk_cell BK255.out 1).trans rfl, (blk_cell BK255.out 2).trans rfl, (blk_cell BK230.out 0).trans rfl, (blk_cell BK230.out 1).trans rfl, (blk_cell BK230.out 2).trans rfl⟩ (fun hHeld => ?_)
      generalize wc.drew = w183 at HO_248001 HO_248002 HO_256001 HO_256002 HO_265001 HO_265002 BK230 BK247 BK255 BK264 HB hHeld ⊢
      refine take_ (i := 0) (N := some 45) (v := ?_) (a' := ?_) #[true, false, false, false, false] rfl rfl (by kernel_rfl) (fun _ _ _ h => h) (Or.inl ⟨by rfl, ?_⟩) hHeld ?_ ?_
      rotate_left
      ·
       rintro w' ⟨s0, s1, s2, s3, s4, s5⟩
       go_simp
       with_reducible rfl
      rotate_left
      ·
       simp only [Act.put, List.setIfInBounds_toArray, List.set_cons_zero, List.set_cons_succ, i64_w, i32_w]
       rfl
      refine take_ (i := 1) (N := some 46) (v := ?_) (a' := ?_) #[true, true, false, false, false] rfl rfl (by kernel_rfl) (fun _ _ _ h => h) (Or.inl ⟨by rfl, ?_⟩) hHeld ?_ ?_
      rotate_left
      ·
       rintro w' ⟨s0, s1, s2, s3, s4, s5⟩
       go_simp
       with_reducible rfl
      rotate_left
      ·
       simp only [Act.put, List.setIfInBounds_toArray, List.set_cons_zero, List.set_cons_succ, i64_w, i32_w]
       rfl
      refine one_ (i := 2) (N := some 47) #[true, true, true, false, false] rfl rfl (by kernel_rfl) (by decide) (fun K hK => ?_)
      refine goes_ Try.func17 (by kernel_rfl) rfl #[.agg #[.int .i64 a0_0, .slice A0_1 l0_1.length c0_1, .slice A0_2 l0_2.length c0_2]] (by rfl) rfl rfl tM ?_
      with_reducible refine (laws_toPile.calls kj11 a0_0 _ _ l0_1 _ _ l0_2 t266 t267 t270 _ ?side1 ?side2 ?side3 ?side4 A61.out).mono ?_
      (case side1 => exact tC (Kd.C_below HR0_1.out HB.out))
      (case side2 => exact HC0_1.out)
      (case side3 => exact tC (Kd.C_below HR0_2.out HB.out))
      (case side4 => exact HC0_2.out)
      rintro e w184 ⟨v268, v271, rfl, ho0, ho1, hb⟩
      refine ⟨_, rfl, ?_⟩
      have HO269 := Aside0.mk (Kd.R_lower (Kd.R_new' (Kd.R_new' (Kd.R_new' (Kd.R_new' (Kd.R_new' (Kd.R_new' ho0 (Kd.R_lt (tR HO_248001.out))) (Kd.R_lt (tR HO_248002.out))) (Kd.R_lt (tR HO_256001.out))) (Kd.R_lt (tR HO_256002.out))) (Kd.R_lt (tR HO_265001.out))) (Kd.R_lt (tR HO_265002.out))) (below_size (tB HB.out)))
      have HO272 := Aside0.mk (Kd.R_lower (Kd.R_new' (Kd.R_new' (Kd.R_new' (Kd.R_new' (Kd.R_new' (Kd.R_new' ho1 (Kd.R_lt (tR HO_248001.out))) (Kd.R_lt (tR HO_248002.out))) (Kd.R_lt (tR HO_256001.out))) (Kd.R_lt (tR HO_256002.out))) (Kd.R_lt (tR HO_265001.out))) (Kd.R_lt (tR HO_265002.out))) (below_size (tB HB.out)))
      replace HO_248001 := Aside0.mk (Kd.R_mono (Kd.R_told (Kd.R_told (Kd.R_old (tR HO_248001.out) hb) (Kd.R_base ho0)) (Kd.R_base ho1)) (fun _ h_ => h_.1))
      replace HO_248002 := Aside0.mk (Kd.R_mono (Kd.R_told (Kd.R_told (Kd.R_old (tR HO_248002.out) hb) (Kd.R_base ho0)) (Kd.R_base ho1)) (fun _ h_ => h_.1))
      replace HO_256001 := Aside0.mk (Kd.R_mono (Kd.R_told (Kd.R_told (Kd.R_old (tR HO_256001.out) hb) (Kd.R_base ho0)) (Kd.R_base ho1)) (fun _ h_ => h_.1))
      replace HO_256002 := Aside0.mk (Kd.R_mono (Kd.R_told (Kd.R_told (Kd.R_old (tR HO_256002.out) hb) (Kd.R_base ho0)) (Kd.R_base ho1)) (fun _ h_ => h_.1))
      replace HO_265001 := Aside0.mk (Kd.R_mono (Kd.R_told (Kd.R_told (Kd.R_old (tR HO_265001.out) hb) (Kd.R_base ho0)) (Kd.R_base ho1)) (fun _ h_ => h_.1))
      replace HO_265002 := Aside0.mk (Kd.R_mono (Kd.R_told (Kd.R_told (Kd.R_old (tR HO_265002.out) hb) (Kd.R_base ho0)) (Kd.R_base ho1)) (fun _ h_ => h_.1))
      replace BK230 := bkB BK230 hb
      replace BK247 := bkB BK247 hb
      replace BK255 := bkB BK255 hb
      replace BK264 := bkB BK264 hb
      replace HB := Aside0.mk (below_step (tB HB.out) hb)
      (try clear hb)
      (try clear hb2)
      (try clear hk)
      (try clear hi)
      (try clear ho0)
      (try clear ho1)
      obtain ⟨Ao185, co185, eo185⟩ := Kd.R_slice HO269.out
      (first | subst eo185 | (injection eo185 with f1_ f2_ f3_; have f4_ := f1_.symm; have f5_ := f3_.symm; clear f1_ f2_ f3_; subst f4_; subst f5_))
      obtain ⟨Ao186, co186, eo186⟩ := Kd.R_slice HO272.out
      (first | subst eo186 | (injection eo186 with f1_ f2_ f3_; have f4_ := f1_.symm; have f5_ := f3_.symm; clear f1_ f2_ f3_; subst f4_; subst f5_))
      refine hK.out _ _ ⟨(blk_cell BK255.out 0).trans rfl, (blk_cell BK255.out 1).trans rfl, (blk_cell BK255.out 2).trans rfl, (blk_cell BK230.out 0).trans rfl, (blk_cell BK230.out 1).trans rfl, (blk_cell BK230.out 2).trans rfl⟩ (fun hHeld => ?_)
      clear hK K
      refine norm_ (a' := ?_) ?_ ?_
      rotate_left
      ·
       show Act.put _ (some 47) _ = _
       simp only [Act.put, List.setIfInBounds_toArray, List.set_cons_zero, List.set_cons_succ, i64_w, i32_w]
       rfl
      refine one_ (i := 3) (N := some 48) #[true, true, true, true, false] rfl rfl (by kernel_rfl) (by decide) (fun K hK => ?_)
      refine goes_ Try.func19 (by kernel_rfl) rfl #[.agg #[.int .i64 t248, .slice Ao32 t249.length co32, .slice Ao33 t252.length co33], .agg #[.int .i64 t266, .slice Ao185 t267.length co185, .slice Ao186 t270.length co186]] (by rfl) rfl rfl tM ?_
      with_reducible refine (laws_eqPile.calls kj11 t248 _ _ t249 _ _ t252 t266 _ _ t267 _ _ t270 false _ ?side1 ?side2 ?side3 ?side4 ?side5 ?side6 ?side7 ?side8 A62.out).mono ?_
      (case side1 => exact tC (Kd.R_reads' HO_256001.out).2.2)
      (case side2 => exact (Kd.R_reads' HO_256001.out).2.1)
      (case side3 => exact tC (Kd.R_reads' HO_256002.out).2.2)
      (case side4 => exact (Kd.R_reads' HO_256002.out).2.1)
      (case side5 => exact tC (Kd.R_reads' HO269.out).2.2)
      (case side6 => exact (Kd.R_reads' HO269.out).2.1)
      (case side7 => exact tC (Kd.R_reads' HO272.out).2.2)
      (case side8 => exact (Kd.R_reads' HO272.out).2.1)
      rintro e w187 ⟨rfl, hb⟩
      refine ⟨_, rfl, ?_⟩
      replace HO_248001 := Aside0.mk (Kd.R_below (tR HO_248001.out) hb)
      replace HO_248002 := Aside0.mk (Kd.R_below (tR HO_248002.out) hb)
      replace HO_256001 := Aside0.mk (Kd.R_below (tR HO_256001.out) hb)
      replace HO_256002 := Aside0.mk (Kd.R_below (tR HO_256002.out) hb)
      replace HO_265001 := Aside0.mk (Kd.R_below (tR HO_265001.out) hb)
      replace HO_265002 := Aside0.mk (Kd.R_below (tR HO_265002.out) hb)
      replace HO269 := Aside0.mk (Kd.R_below (tR HO269.out) hb)
      replace HO272 := Aside0.mk (Kd.R_below (tR HO272.out) hb)
      replace BK230 := bkB BK230 hb
      replace BK247 := bkB BK247 hb
      replace BK255 := bkB BK255 hb
      replace BK264 := bkB BK264 hb
      replace HB := Aside0.mk (below_step (tB HB.out) hb)
      (try clear hb)
      (try clear hb2)
      (try clear hk)
      (try clear hi)
      refine hK.out _ _ ⟨(blk_cell BK255.out 0).trans rfl, (blk_cell BK255.out 1).trans rfl, (blk_cell BK255.out 2).trans rfl, (blk_cell BK230.out 0).trans rfl, (blk_cell BK230.out 1).trans rfl, (blk_cell BK230.out 2).trans rfl⟩ (fun hHeld => ?_)
      clear hK K
      refine norm_ (a' := ?_) ?_ ?_
      rotate_left
      ·
       show Act.put _ (some 48) _ = _
       simp only [Act.put, List.setIfInBounds_toArray, List.set_cons_zero, List.set_cons_succ, i64_w, i32_w]
       rfl
      refine pure_ (i := 4) (N := some 49) (v := ?_) (a' := ?_) #[true, true, true, true, true] rfl rfl (by kernel_rfl) (fun _ _ _ h => h) (Or.inl ⟨by rfl, ?_⟩) ?_ ?_
      rotate_left
      ·
       intro w'
       go_simp
       with_reducible rfl
      rotate_left
      ·
       simp only [Act.put, List.setIfInBounds_toArray, List.set_cons_zero, List.set_cons_succ, i64_w, i32_w]
       rfl
      refine done_ (by kernel_rfl) ?_
      try go_wp2
      go_ret
      exact ⟨by first | rfl | (simp [errW_none, errW_some] <;> rfl) | (simp [*, errW_none, errW_some] <;> rfl), tB HB.out⟩

end Go.Proofs.Ytigijeedekjeiaa.PFnExactShiftPile

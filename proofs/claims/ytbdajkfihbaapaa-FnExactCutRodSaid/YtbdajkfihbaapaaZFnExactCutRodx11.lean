/- Printed by the program print2.py over the translation: each function as a Lean function, and the proof that the call comes to its answer. -/
import Derived.Test.YtbdajkfihbaapaaZFnExactCutRodx0
import Derived.Test.YtbdajkfihbaapaaZFnExactCutRodx1
import Derived.Test.YtbdajkfihbaapaaZFnExactCutRodx2
import Derived.Test.YtbdajkfihbaapaaZFnExactCutRodx3
import Derived.Test.YtbdajkfihbaapaaZFnExactCutRodx6
import Derived.Test.YtbdajkfihbaapaaZFnExactCutRodx10
namespace Go.Proofs.Ytbdajkfihbaapaa.PFnExactCutRod
open Go.RowKit Go.Proofs.YtbdajkfihbaapaaW.PrintWords Go.Proofs.YtbdajkfihbaapaaW.PrintLast Go.Proofs.YtbdajkfihbaapaaW.PrintMore
attribute [local go_sem] max2_int min2_int max_two min_two max_three min_three max_four min_four   -- for this text's walks alone
set_option linter.unusedVariables false
set_option linter.unusedSimpArgs false

/-! ### laws_FnExactCutRod: function 13 -/
mutual
def laws_FnExactCutRod.j0 : Nat → Int → Bool → Bool → Bool → List (S58) → List (S58) → List (S58) → List (S58) → List (S58) → List (S58) → List (S58) → List (S58) → Option (Bool)
 | 0, _, _, _, _, _, _, _, _, _, _, _, _ => none
 | k + 1, x1, x7, x10, x44, x299000, x299001, x314000, x314001, x321000, x321001, x329000, x329001 => if x44 = true then (some false) else ((laws_toMobile.f k x299000 x299001).bind fun bt330 => ((laws_eqMobile.f k x321000 x321001 bt330.1 bt330.2).bind fun t336 => (if t336 = true then ((laws_markMobile.f k x321000 x321001 1).bind fun bt337 => (if bt337.1 < 0 then (laws_FnExactCutRod.j1 k x1 x7 true x299000 x299001 x314000 x314001 x329000 x329001) else ((laws_eqMobile.f k x329000 x329001 x314000 x314001).bind fun t340 => (if t340 = true then (laws_FnExactCutRod.j1 k x1 x7 (x10 != x7) x299000 x299001 x314000 x314001 x329000 x329001) else (laws_FnExactCutRod.j1 k x1 x7 true x299000 x299001 x314000 x314001 x329000 x329001))))) else (some false))))
def laws_FnExactCutRod.j1 : Nat → Int → Bool → Bool → List (S58) → List (S58) → List (S58) → List (S58) → List (S58) → List (S58) → Option (Bool)
 | 0, _, _, _, _, _, _, _, _, _ => none
 | k + 1, x1, x7, x65, x299000, x299001, x314000, x314001, x329000, x329001 => if x65 = true then (some false) else ((laws_markMobile.f k x329000 x329001 1).bind fun bt341 => ((laws_heldMobile.f k bt341.2.1 bt341.2.2 1).bind fun t344 => (if t344 < 0 then (some false) else (if t344 = bt341.1 then ((laws_toMobile.f k x299000 x299001).bind fun bt345 => ((impl_CutRod.f k bt345.1 bt345.2 x1).bind fun bt351 => ((laws_eqMobile.f k bt351.1 bt351.2.1 x314000 x314001).bind fun t359 => (if t359 = true then (laws_FnExactCutRod.j2 k bt341.1 (bt351.2.2 != x7) bt341.2.1 bt341.2.2) else (laws_FnExactCutRod.j2 k bt341.1 true bt341.2.1 bt341.2.2))))) else (some false)))))
def laws_FnExactCutRod.j2 : Nat → Int → Bool → List (S58) → List (S58) → Option (Bool)
 | 0, _, _, _, _ => none
 | k + 1, x12, x92, x329000, x329001 => if x92 = true then (some false) else ((laws_heldMobile.f k x329000 x329001 1).bind fun t360 => (if t360 < 0 then (some false) else (if t360 = x12 then (some true) else (some false))))
end
def laws_FnExactCutRod.f (k : Nat) (l0_0 : List (S58)) (l0_1 : List (S58)) (a1 : Int) : Option (Bool) := (laws_szMobile.f l0_0 l0_1 1048576).bind fun t299 => (if t299 < 0 then (some true) else ((laws_toMobile.f k l0_0 l0_1).bind fun bt300 => ((spec_CutRod.f k bt300.1 bt300.2 a1).bind fun bt306 => ((laws_toMobile.f k l0_0 l0_1).bind fun bt314 => ((impl_CutRod.f k bt314.1 bt314.2 a1).bind fun bt321 => ((laws_eqMobile.f k bt321.1 bt321.2.1 bt306.1 bt306.2.1).bind fun t329 => (if t329 = true then (laws_FnExactCutRod.j0 k a1 bt306.2.2 bt321.2.2 (bt321.2.2 != bt306.2.2) l0_0 l0_1 bt306.1 bt306.2.1 bt314.1 bt314.2 bt321.1 bt321.2.1) else (laws_FnExactCutRod.j0 k a1 bt306.2.2 bt321.2.2 true l0_0 l0_1 bt306.1 bt306.2.1 bt314.1 bt314.2 bt321.1 bt321.2.1))))))))
theorem laws_FnExactCutRod.mono_l : ∀ k, (∀ y0 y1 y2 y3 y4 y5 y6 y7 y8 y9 y10 y11, LeO (laws_FnExactCutRod.j0 k y0 y1 y2 y3 y4 y5 y6 y7 y8 y9 y10 y11) (laws_FnExactCutRod.j0 (k + 1) y0 y1 y2 y3 y4 y5 y6 y7 y8 y9 y10 y11)) ∧ (∀ y0 y1 y2 y3 y4 y5 y6 y7 y8, LeO (laws_FnExactCutRod.j1 k y0 y1 y2 y3 y4 y5 y6 y7 y8) (laws_FnExactCutRod.j1 (k + 1) y0 y1 y2 y3 y4 y5 y6 y7 y8)) ∧ (∀ y0 y1 y2 y3, LeO (laws_FnExactCutRod.j2 k y0 y1 y2 y3) (laws_FnExactCutRod.j2 (k + 1) y0 y1 y2 y3))
 | 0 => ⟨fun _ _ _ _ _ _ _ _ _ _ _ _ r h => by simp [laws_FnExactCutRod.j0] at h, fun _ _ _ _ _ _ _ _ _ r h => by simp [laws_FnExactCutRod.j1] at h, fun _ _ _ _ r h => by simp [laws_FnExactCutRod.j2] at h⟩
 | k + 1 => by
  obtain ⟨ih0, ih1, ih2⟩ := laws_FnExactCutRod.mono_l k
  refine ⟨?_, ?_, ?_⟩
  ·
   intro y0 y1 y2 y3 y4 y5 y6 y7 y8 y9 y10 y11
   unfold laws_FnExactCutRod.j0
   repeat' first
   | (with_reducible exact ih0 _ _ _ _ _ _ _ _ _ _ _ _)
   | (with_reducible exact ih1 _ _ _ _ _ _ _ _ _)
   | (with_reducible exact ih2 _ _ _ _)
   | (with_reducible exact impl_CutRod.mono _ _ _ _)
   | (with_reducible exact laws_eqMobile.mono _ _ _ _ _)
   | (with_reducible exact laws_heldMobile.mono _ _ _ _)
   | (with_reducible exact laws_markMobile.mono _ _ _ _)
   | (with_reducible exact laws_toMobile.mono _ _ _)
   | (with_reducible exact spec_CutRod.mono _ _ _ _)
   | (with_reducible exact LeO.refl _)
   | (with_reducible exact LeO.none _)
   | (with_reducible refine LeO.ite ?_ ?_)
   | (with_reducible refine LeO.bind ?_ (fun _ => ?_))
   | exact ih0 _ _ _ _ _ _ _ _ _ _ _ _
   | exact ih1 _ _ _ _ _ _ _ _ _
   | exact ih2 _ _ _ _
   | exact impl_CutRod.mono _ _ _ _
   | exact laws_eqMobile.mono _ _ _ _ _
   | exact laws_heldMobile.mono _ _ _ _
   | exact laws_markMobile.mono _ _ _ _
   | exact laws_toMobile.mono _ _ _
   | exact spec_CutRod.mono _ _ _ _
   | exact LeO.none _
   | refine LeO.ite ?_ ?_
   | refine LeO.bind ?_ (fun _ => ?_)
  ·
   intro y0 y1 y2 y3 y4 y5 y6 y7 y8
   unfold laws_FnExactCutRod.j1
   repeat' first
   | (with_reducible exact ih0 _ _ _ _ _ _ _ _ _ _ _ _)
   | (with_reducible exact ih1 _ _ _ _ _ _ _ _ _)
   | (with_reducible exact ih2 _ _ _ _)
   | (with_reducible exact impl_CutRod.mono _ _ _ _)
   | (with_reducible exact laws_eqMobile.mono _ _ _ _ _)
   | (with_reducible exact laws_heldMobile.mono _ _ _ _)
   | (with_reducible exact laws_markMobile.mono _ _ _ _)
   | (with_reducible exact laws_toMobile.mono _ _ _)
   | (with_reducible exact spec_CutRod.mono _ _ _ _)
   | (with_reducible exact LeO.refl _)
   | (with_reducible exact LeO.none _)
   | (with_reducible refine LeO.ite ?_ ?_)
   | (with_reducible refine LeO.bind ?_ (fun _ => ?_))
   | exact ih0 _ _ _ _ _ _ _ _ _ _ _ _
   | exact ih1 _ _ _ _ _ _ _ _ _
   | exact ih2 _ _ _ _
   | exact impl_CutRod.mono _ _ _ _
   | exact laws_eqMobile.mono _ _ _ _ _
   | exact laws_heldMobile.mono _ _ _ _
   | exact laws_markMobile.mono _ _ _ _
   | exact laws_toMobile.mono _ _ _
   | exact spec_CutRod.mono _ _ _ _
   | exact LeO.none _
   | refine LeO.ite ?_ ?_
   | refine LeO.bind ?_ (fun _ => ?_)
  ·
   intro y0 y1 y2 y3
   unfold laws_FnExactCutRod.j2
   repeat' first
   | (with_reducible exact ih0 _ _ _ _ _ _ _ _ _ _ _ _)
   | (with_reducible exact ih1 _ _ _ _ _ _ _ _ _)
   | (with_reducible exact ih2 _ _ _ _)
   | (with_reducible exact impl_CutRod.mono _ _ _ _)
   | (with_reducible exact laws_eqMobile.mono _ _ _ _ _)
   | (with_reducible exact laws_heldMobile.mono _ _ _ _)
   | (with_reducible exact laws_markMobile.mono _ _ _ _)
   | (with_reducible exact laws_toMobile.mono _ _ _)
   | (with_reducible exact spec_CutRod.mono _ _ _ _)
   | (with_reducible exact LeO.refl _)
   | (with_reducible exact LeO.none _)
   | (with_reducible refine LeO.ite ?_ ?_)
   | (with_reducible refine LeO.bind ?_ (fun _ => ?_))
   | exact ih0 _ _ _ _ _ _ _ _ _ _ _ _
   | exact ih1 _ _ _ _ _ _ _ _ _
   | exact ih2 _ _ _ _
   | exact impl_CutRod.mono _ _ _ _
   | exact laws_eqMobile.mono _ _ _ _ _
   | exact laws_heldMobile.mono _ _ _ _
   | exact laws_markMobile.mono _ _ _ _
   | exact laws_toMobile.mono _ _ _
   | exact spec_CutRod.mono _ _ _ _
   | exact LeO.none _
   | refine LeO.ite ?_ ?_
   | refine LeO.bind ?_ (fun _ => ?_)
theorem laws_FnExactCutRod.mono : ∀ a0 a1 a2 k, LeO (laws_FnExactCutRod.f k a0 a1 a2) (laws_FnExactCutRod.f (k + 1) a0 a1 a2) := by
 intro a0 a1 a2 k
 obtain ⟨ih0, ih1, ih2⟩ := laws_FnExactCutRod.mono_l k
 unfold laws_FnExactCutRod.f
 repeat' first
   | (with_reducible exact ih0 _ _ _ _ _ _ _ _ _ _ _ _)
   | (with_reducible exact ih1 _ _ _ _ _ _ _ _ _)
   | (with_reducible exact ih2 _ _ _ _)
   | (with_reducible exact impl_CutRod.mono _ _ _ _)
   | (with_reducible exact laws_eqMobile.mono _ _ _ _ _)
   | (with_reducible exact laws_heldMobile.mono _ _ _ _)
   | (with_reducible exact laws_markMobile.mono _ _ _ _)
   | (with_reducible exact laws_toMobile.mono _ _ _)
   | (with_reducible exact spec_CutRod.mono _ _ _ _)
   | (with_reducible exact LeO.refl _)
   | (with_reducible exact LeO.none _)
   | (with_reducible refine LeO.ite ?_ ?_)
   | (with_reducible refine LeO.bind ?_ (fun _ => ?_))
   | exact ih0 _ _ _ _ _ _ _ _ _ _ _ _
   | exact ih1 _ _ _ _ _ _ _ _ _
   | exact ih2 _ _ _ _
   | exact impl_CutRod.mono _ _ _ _
   | exact laws_eqMobile.mono _ _ _ _ _
   | exact laws_heldMobile.mono _ _ _ _
   | exact laws_markMobile.mono _ _ _ _
   | exact laws_toMobile.mono _ _ _
   | exact spec_CutRod.mono _ _ _ _
   | exact LeO.none _
   | refine LeO.ite ?_ ?_
   | refine LeO.bind ?_ (fun _ => ?_)
set_option maxHeartbeats 8000000 in
set_option maxRecDepth 100000 in
theorem laws_FnExactCutRod.calls (k : Nat) (A0_0 : Option Addr) (c0_0 : Nat) (l0_0 : List (S58)) (A0_1 : Option Addr) (c0_1 : Nat) (l0_1 : List (S58)) (a1 : Int) (r : Bool) (w : World) (hr0_0 : Kd.C k58 w A0_0 l0_0.length l0_0) (hc0_0 : l0_0.length ≤ c0_0) (hr0_1 : Kd.C k58 w A0_1 l0_1.length l0_1) (hc0_1 : l0_1.length ≤ c0_1) (h : laws_FnExactCutRod.f k l0_0 l0_1 a1 = some r) :
  Calls Try.prog 13 #[.agg #[.slice A0_0 l0_0.length c0_0, .slice A0_1 l0_1.length c0_1], .int .i64 a1] w fun e w' => e = .returned (.bool r) ∧ Below w.heap.size w w' := by
 have hu24 := Try.underlying24
 have hu27 := Try.underlying27
 have HR0_0 := Aside0.mk hr0_0
 have HC0_0 := Aside0.mk hc0_0
 clear hr0_0 hc0_0
 have HR0_1 := Aside0.mk hr0_1
 have HC0_1 := Aside0.mk hc0_1
 clear hr0_1 hc0_1
 have HB := Aside0.mk (Below.refl w.heap.size w)
 have H : ((laws_szMobile.f l0_0 l0_1 1048576).bind fun t299 => (if t299 < 0 then (some true) else ((laws_toMobile.f k l0_0 l0_1).bind fun bt300 => ((spec_CutRod.f k bt300.1 bt300.2 a1).bind fun bt306 => ((laws_toMobile.f k l0_0 l0_1).bind fun bt314 => ((impl_CutRod.f k bt314.1 bt314.2 a1).bind fun bt321 => ((laws_eqMobile.f k bt321.1 bt321.2.1 bt306.1 bt306.2.1).bind fun t329 => (if t329 = true then (laws_FnExactCutRod.j0 k a1 bt306.2.2 bt321.2.2 (bt321.2.2 != bt306.2.2) l0_0 l0_1 bt306.1 bt306.2.1 bt314.1 bt314.2 bt321.1 bt321.2.1) else (laws_FnExactCutRod.j0 k a1 bt306.2.2 bt321.2.2 true l0_0 l0_1 bt306.1 bt306.2.1 bt314.1 bt314.2 bt321.1 bt321.2.1))))))))) = some r := h
 clear h
 replace H := Option.bind_eq_some_iff.mp H
 obtain ⟨t299, A30, H⟩ := H
 replace H : (if t299 < 0 then (some true) else ((laws_toMobile.f k l0_0 l0_1).bind fun bt300 => ((spec_CutRod.f k bt300.1 bt300.2 a1).bind fun bt306 => ((laws_toMobile.f k l0_0 l0_1).bind fun bt314 => ((impl_CutRod.f k bt314.1 bt314.2 a1).bind fun bt321 => ((laws_eqMobile.f k bt321.1 bt321.2.1 bt306.1 bt306.2.1).bind fun t329 => (if t329 = true then (laws_FnExactCutRod.j0 k a1 bt306.2.2 bt321.2.2 (bt321.2.2 != bt306.2.2) l0_0 l0_1 bt306.1 bt306.2.1 bt314.1 bt314.2 bt321.1 bt321.2.1) else (laws_FnExactCutRod.j0 k a1 bt306.2.2 bt321.2.2 true l0_0 l0_1 bt306.1 bt306.2.1 bt314.1 bt314.2 bt321.1 bt321.2.1)))))))) = some r := H
 have A3 := Aside0.mk A30
 clear A30
 by_cases c4 : t299 < 0
 ·
  rw [if_pos c4] at H
  have c4b0 : decide (t299 < 0) = true := decide_eq_true c4
  clear c4
  obtain rfl := Option.some.inj H
  go_enter Try.func13, Try.ntmps13
  go_wp2_with (first | ((with_reducible refine gate_dst (N := 2) rfl ?_); refine box_event ?hg (N := 2) ?hd (cs := #[.slice A0_0 l0_0.length c0_0, .slice A0_1 l0_1.length c0_1]) (t := 24) ?hr ?_; (case hd => rfl); (case hg => rfl); (case hr => first | (go_simp; done) | (go_simp; rfl)); intro gb298 hg w5 hbox hb; have BK298 := Aside0.mk (hbox); have GW298 := Aside0.mk (bS HB.out hg); have GE298 := Aside0.mk (bS HB.out hg); replace HB := Aside0.mk (below_step (tB HB.out) hb); clear hb hbox hg; obtain ⟨hcz6_0, hfz6_0, hcz6_1, hfz6_1⟩ := cz2 BK298) | ((with_reducible refine gate_callee (f := 15) rfl ?_); refine goesL_ (some 18) rfl rfl Try.func15 (by kernel_rfl) rfl #[.agg #[.slice A0_0 l0_0.length c0_0, .slice A0_1 l0_1.length c0_1], .int .i64 1048576] rfl tM ?_; (with_reducible refine (laws_szMobile.calls _ _ l0_0 _ _ l0_1 1048576 t299 _ ?side1 ?side2 ?side3 ?side4 A3.out).mono ?_); (case side1 => exact tC (Kd.C_below HR0_0.out HB.out)); (case side2 => exact HC0_0.out); (case side3 => exact tC (Kd.C_below HR0_1.out HB.out)); (case side4 => exact HC0_1.out); rintro e w7 ⟨rfl, hb⟩; refine ⟨_, rfl, ?_⟩; replace BK298 := bkB BK298 hb; replace HB := Aside0.mk (below_step (tB HB.out) hb); (try clear hb); (try clear hb2); (try clear hk); (try clear hi)))
  go_ret
  exact ⟨by first | rfl | (simp [errW_none, errW_some] <;> rfl) | (simp [*, errW_none, errW_some] <;> rfl), tB HB.out⟩
 ·
  rw [if_neg c4] at H
  have c4b0 : decide (t299 < 0) = false := decide_eq_false c4
  clear c4
  replace H := Option.bind_eq_some_iff.mp H
  obtain ⟨⟨t300, t303⟩, A80, H⟩ := H
  replace H : ((spec_CutRod.f k t300 t303 a1).bind fun bt306 => ((laws_toMobile.f k l0_0 l0_1).bind fun bt314 => ((impl_CutRod.f k bt314.1 bt314.2 a1).bind fun bt321 => ((laws_eqMobile.f k bt321.1 bt321.2.1 bt306.1 bt306.2.1).bind fun t329 => (if t329 = true then (laws_FnExactCutRod.j0 k a1 bt306.2.2 bt321.2.2 (bt321.2.2 != bt306.2.2) l0_0 l0_1 bt306.1 bt306.2.1 bt314.1 bt314.2 bt321.1 bt321.2.1) else (laws_FnExactCutRod.j0 k a1 bt306.2.2 bt321.2.2 true l0_0 l0_1 bt306.1 bt306.2.1 bt314.1 bt314.2 bt321.1 bt321.2.1)))))) = some r := H
  have A8 := Aside0.mk A80
  clear A80
  replace H := Option.bind_eq_some_iff.mp H
  obtain ⟨⟨t306, t309, t312⟩, A90, H⟩ := H
  replace H : ((laws_toMobile.f k l0_0 l0_1).bind fun bt314 => ((impl_CutRod.f k bt314.1 bt314.2 a1).bind fun bt321 => ((laws_eqMobile.f k bt321.1 bt321.2.1 t306 t309).bind fun t329 => (if t329 = true then (laws_FnExactCutRod.j0 k a1 t312 bt321.2.2 (bt321.2.2 != t312) l0_0 l0_1 t306 t309 bt314.1 bt314.2 bt321.1 bt321.2.1) else (laws_FnExactCutRod.j0 k a1 t312 bt321.2.2 true l0_0 l0_1 t306 t309 bt314.1 bt314.2 bt321.1 bt321.2.1))))) = some r := H
  have A9 := Aside0.mk A90
  clear A90
  replace H := Option.bind_eq_some_iff.mp H
  obtain ⟨⟨t314, t317⟩, A100, H⟩ := H
  replace H : ((impl_CutRod.f k t314 t317 a1).bind fun bt321 => ((laws_eqMobile.f k bt321.1 bt321.2.1 t306 t309).bind fun t329 => (if t329 = true then (laws_FnExactCutRod.j0 k a1 t312 bt321.2.2 (bt321.2.2 != t312) l0_0 l0_1 t306 t309 t314 t317 bt321.1 bt321.2.1) else (laws_FnExactCutRod.j0 k a1 t312 bt321.2.2 true l0_0 l0_1 t306 t309 t314 t317 bt321.1 bt321.2.1)))) = some r := H
  have A10 := Aside0.mk A100
  clear A100
  replace H := Option.bind_eq_some_iff.mp H
  obtain ⟨⟨t321, t324, t327⟩, A110, H⟩ := H
  replace H : ((laws_eqMobile.f k t321 t324 t306 t309).bind fun t329 => (if t329 = true then (laws_FnExactCutRod.j0 k a1 t312 t327 (t327 != t312) l0_0 l0_1 t306 t309 t314 t317 t321 t324) else (laws_FnExactCutRod.j0 k a1 t312 t327 true l0_0 l0_1 t306 t309 t314 t317 t321 t324))) = some r := H
  have A11 := Aside0.mk A110
  clear A110
  have HC12 := Aside0.mk H
  clear H
  go_enter Try.func13, Try.ntmps13
  go_upto_region 8 with (first | ((with_reducible refine gate_dst (N := 2) rfl ?_); refine box_event ?hg (N := 2) ?hd (cs := #[.slice A0_0 l0_0.length c0_0, .slice A0_1 l0_1.length c0_1]) (t := 24) ?hr ?_; (case hd => rfl); (case hg => rfl); (case hr => first | (go_simp; done) | (go_simp; rfl)); intro gb298 hg w13 hbox hb; have BK298 := Aside0.mk (hbox); have GW298 := Aside0.mk (bS HB.out hg); have GE298 := Aside0.mk (bS HB.out hg); replace HB := Aside0.mk (below_step (tB HB.out) hb); clear hb hbox hg; obtain ⟨hcz14_0, hfz14_0, hcz14_1, hfz14_1⟩ := cz2 BK298) | ((with_reducible refine gate_callee (f := 15) rfl ?_); refine goesL_ (some 18) rfl rfl Try.func15 (by kernel_rfl) rfl #[.agg #[.slice A0_0 l0_0.length c0_0, .slice A0_1 l0_1.length c0_1], .int .i64 1048576] rfl tM ?_; (with_reducible refine (laws_szMobile.calls _ _ l0_0 _ _ l0_1 1048576 t299 _ ?side1 ?side2 ?side3 ?side4 A3.out).mono ?_); (case side1 => exact tC (Kd.C_below HR0_0.out HB.out)); (case side2 => exact HC0_0.out); (case side3 => exact tC (Kd.C_below HR0_1.out HB.out)); (case side4 => exact HC0_1.out); rintro e w15 ⟨rfl, hb⟩; refine ⟨_, rfl, ?_⟩; replace BK298 := bkB BK298 hb; replace HB := Aside0.mk (below_step (tB HB.out) hb); (try clear hb); (try clear hb2); (try clear hk); (try clear hi); obtain ⟨hcz16_0, hfz16_0, hcz16_1, hfz16_1⟩ := cz2 BK298) | ((with_reducible refine gate_callee (f := 17) rfl ?_); refine goesL_ (some 23) rfl rfl Try.func17 (by kernel_rfl) rfl #[.agg #[.slice A0_0 l0_0.length c0_0, .slice A0_1 l0_1.length c0_1]] rfl tM ?_; (with_reducible refine (laws_toMobile.calls k _ _ l0_0 _ _ l0_1 t300 t303 _ ?side1 ?side2 ?side3 ?side4 A8.out).mono ?_); (case side1 => exact tC (Kd.C_below HR0_0.out HB.out)); (case side2 => exact HC0_0.out); (case side3 => exact tC (Kd.C_below HR0_1.out HB.out)); (case side4 => exact HC0_1.out); rintro e w17 ⟨v301, v304, rfl, ho0, ho1, hb⟩; refine ⟨_, rfl, ?_⟩; have HO302 := Aside0.mk (Kd.R_lower ho0 (below_size (tB HB.out))); have HO305 := Aside0.mk (Kd.R_lower ho1 (below_size (tB HB.out))); replace BK298 := bkB BK298 hb; replace HB := Aside0.mk (below_step (tB HB.out) hb); (try clear hb); (try clear hb2); (try clear hk); (try clear hi); (try clear ho0); (try clear ho1); obtain ⟨Ao18, co18, eo18⟩ := Kd.R_slice HO302.out; subst eo18; obtain ⟨Ao19, co19, eo19⟩ := Kd.R_slice HO305.out; subst eo19) | ((with_reducible refine gate_callee (f := 47) rfl ?_); refine goesL_ (some 25) rfl rfl Try.func47 (by kernel_rfl) rfl #[.agg #[.slice Ao18 t300.length co18, .slice Ao19 t303.length co19], .int .i64 a1] rfl tM ?_; (with_reducible refine (spec_CutRod.calls k _ _ t300 _ _ t303 a1 t306 t309 t312 _ ?side1 ?side2 ?side3 ?side4 A9.out).mono ?_); (case side1 => exact tC (Kd.R_reads' HO302.out).2.2); (case side2 => exact (Kd.R_reads' HO302.out).2.1); (case side3 => exact tC (Kd.R_reads' HO305.out).2.2); (case side4 => exact (Kd.R_reads' HO305.out).2.1); rintro e w20 ⟨v307, v310, rfl, ho0, ho1, hb⟩; refine ⟨_, rfl, ?_⟩; have HO308 := Aside0.mk (Kd.R_lower (Kd.R_new' (Kd.R_new' ho0 (Kd.R_lt (tR HO302.out))) (Kd.R_lt (tR HO305.out))) (below_size (tB HB.out))); have HO311 := Aside0.mk (Kd.R_lower (Kd.R_new' (Kd.R_new' ho1 (Kd.R_lt (tR HO302.out))) (Kd.R_lt (tR HO305.out))) (below_size (tB HB.out))); replace HO302 := Aside0.mk (Kd.R_mono (Kd.R_told (Kd.R_told (Kd.R_old (tR HO302.out) hb) (Kd.R_base ho0)) (Kd.R_base ho1)) (fun _ h_ => h_.1)); replace HO305 := Aside0.mk (Kd.R_mono (Kd.R_told (Kd.R_told (Kd.R_old (tR HO305.out) hb) (Kd.R_base ho0)) (Kd.R_base ho1)) (fun _ h_ => h_.1)); replace BK298 := bkB BK298 hb; replace HB := Aside0.mk (below_step (tB HB.out) hb); (try clear hb); (try clear hb2); (try clear hk); (try clear hi); (try clear ho0); (try clear ho1)) | ((with_reducible refine gate_dst (N := 6) rfl ?_); refine box_event ?hg (N := 6) ?hd (cs := #[.slice none 0 0, .slice none 0 0]) (t := 27) ?hr ?_; (case hd => rfl); (case hg => rfl); (case hr => first | (go_simp; done) | (go_simp; rfl)); intro gb313 hg w21 hbox hb; replace HO302 := Aside0.mk (Kd.R_below (tR HO302.out) hb); replace HO305 := Aside0.mk (Kd.R_below (tR HO305.out) hb); replace HO308 := Aside0.mk (Kd.R_below (tR HO308.out) hb); replace HO311 := Aside0.mk (Kd.R_below (tR HO311.out) hb); have BK313 := Aside0.mk (hbox); have GW313 := Aside0.mk (bS HB.out hg); have GE313 := Aside0.mk (bS HB.out hg); replace HB := Aside0.mk (below_step (tB HB.out) hb); have NB298_313 := Aside0.mk (nL BK298.out hg); have NB313_298 := Aside0.mk (nG BK298.out hg); replace BK298 := bkB BK298 hb; clear hb hbox hg; obtain ⟨Ao22, co22, eo22⟩ := Kd.R_slice HO308.out; subst eo22; have hnb23 := NB313_298.out; have hnc23 := NB298_313.out; obtain ⟨hcz24_0, hfz24_0, hcz24_1, hfz24_1⟩ := cz2 BK313; obtain ⟨Ao25, co25, eo25⟩ := Kd.R_slice HO311.out; subst eo25; obtain ⟨hcz26_0, hfz26_0, hcz26_1, hfz26_1⟩ := cz2 BK298) | ((with_reducible refine gate_callee (f := 17) rfl ?_); refine goesL_ (some 29) rfl rfl Try.func17 (by kernel_rfl) rfl #[.agg #[.slice A0_0 l0_0.length c0_0, .slice A0_1 l0_1.length c0_1]] rfl tM ?_; (with_reducible refine (laws_toMobile.calls k _ _ l0_0 _ _ l0_1 t314 t317 _ ?side1 ?side2 ?side3 ?side4 A10.out).mono ?_); (case side1 => exact Kd.C_below HR0_0.out (tB HB.out)); (case side2 => exact HC0_0.out); (case side3 => exact Kd.C_below HR0_1.out (tB HB.out)); (case side4 => exact HC0_1.out); rintro e w27 ⟨v315, v318, rfl, ho0, ho1, hb⟩; refine ⟨_, rfl, ?_⟩; have HO316 := Aside0.mk (Kd.R_lower (Kd.R_new' (Kd.R_new' (Kd.R_new' (Kd.R_new' ho0 (Kd.R_lt (by (with_reducible repeat (first | apply Kd.R_alloc | apply Kd.R_drewN | apply Kd.R_drew)); exact (Kd.R_mono (Kd.R_far (p := ⟨gb313, 1, none⟩) (Kd.R_far (p := ⟨gb313, 0, none⟩) (Kd.R_types HO302.out BK313.out (by decide)) (fun _ hk => hk.2) (.slice Ao22 t306.length co22)) (fun _ hk => hk.2) (.slice Ao25 t309.length co25)) (fun _ h_ => h_.1))))) (Kd.R_lt (by (with_reducible repeat (first | apply Kd.R_alloc | apply Kd.R_drewN | apply Kd.R_drew)); exact (Kd.R_mono (Kd.R_far (p := ⟨gb313, 1, none⟩) (Kd.R_far (p := ⟨gb313, 0, none⟩) (Kd.R_types HO305.out BK313.out (by decide)) (fun _ hk => hk.2) (.slice Ao22 t306.length co22)) (fun _ hk => hk.2) (.slice Ao25 t309.length co25)) (fun _ h_ => h_.1))))) (Kd.R_lt (by (with_reducible repeat (first | apply Kd.R_alloc | apply Kd.R_drewN | apply Kd.R_drew)); exact (Kd.R_mono (Kd.R_far (p := ⟨gb313, 1, none⟩) (Kd.R_far (p := ⟨gb313, 0, none⟩) (Kd.R_types HO308.out BK313.out (by decide)) (fun _ hk => hk.2) (.slice Ao22 t306.length co22)) (fun _ hk => hk.2) (.slice Ao25 t309.length co25)) (fun _ h_ => h_.1))))) (Kd.R_lt (by (with_reducible repeat (first | apply Kd.R_alloc | apply Kd.R_drewN | apply Kd.R_drew)); exact (Kd.R_mono (Kd.R_far (p := ⟨gb313, 1, none⟩) (Kd.R_far (p := ⟨gb313, 0, none⟩) (Kd.R_types HO311.out BK313.out (by decide)) (fun _ hk => hk.2) (.slice Ao22 t306.length co22)) (fun _ hk => hk.2) (.slice Ao25 t309.length co25)) (fun _ h_ => h_.1))))) (below_size (tB HB.out))); have HO319 := Aside0.mk (Kd.R_lower (Kd.R_new' (Kd.R_new' (Kd.R_new' (Kd.R_new' ho1 (Kd.R_lt (by (with_reducible repeat (first | apply Kd.R_alloc | apply Kd.R_drewN | apply Kd.R_drew)); exact (Kd.R_mono (Kd.R_far (p := ⟨gb313, 1, none⟩) (Kd.R_far (p := ⟨gb313, 0, none⟩) (Kd.R_types HO302.out BK313.out (by decide)) (fun _ hk => hk.2) (.slice Ao22 t306.length co22)) (fun _ hk => hk.2) (.slice Ao25 t309.length co25)) (fun _ h_ => h_.1))))) (Kd.R_lt (by (with_reducible repeat (first | apply Kd.R_alloc | apply Kd.R_drewN | apply Kd.R_drew)); exact (Kd.R_mono (Kd.R_far (p := ⟨gb313, 1, none⟩) (Kd.R_far (p := ⟨gb313, 0, none⟩) (Kd.R_types HO305.out BK313.out (by decide)) (fun _ hk => hk.2) (.slice Ao22 t306.length co22)) (fun _ hk => hk.2) (.slice Ao25 t309.length co25)) (fun _ h_ => h_.1))))) (Kd.R_lt (by (with_reducible repeat (first | apply Kd.R_alloc | apply Kd.R_drewN | apply Kd.R_drew)); exact (Kd.R_mono (Kd.R_far (p := ⟨gb313, 1, none⟩) (Kd.R_far (p := ⟨gb313, 0, none⟩) (Kd.R_types HO308.out BK313.out (by decide)) (fun _ hk => hk.2) (.slice Ao22 t306.length co22)) (fun _ hk => hk.2) (.slice Ao25 t309.length co25)) (fun _ h_ => h_.1))))) (Kd.R_lt (by (with_reducible repeat (first | apply Kd.R_alloc | apply Kd.R_drewN | apply Kd.R_drew)); exact (Kd.R_mono (Kd.R_far (p := ⟨gb313, 1, none⟩) (Kd.R_far (p := ⟨gb313, 0, none⟩) (Kd.R_types HO311.out BK313.out (by decide)) (fun _ hk => hk.2) (.slice Ao22 t306.length co22)) (fun _ hk => hk.2) (.slice Ao25 t309.length co25)) (fun _ h_ => h_.1))))) (below_size (tB HB.out))); replace HO302 := Aside0.mk (Kd.R_mono (Kd.R_told (Kd.R_told (Kd.R_old (by (with_reducible repeat (first | apply Kd.R_alloc | apply Kd.R_drewN | apply Kd.R_drew)); exact (Kd.R_mono (Kd.R_far (p := ⟨gb313, 1, none⟩) (Kd.R_far (p := ⟨gb313, 0, none⟩) (Kd.R_types HO302.out BK313.out (by decide)) (fun _ hk => hk.2) (.slice Ao22 t306.length co22)) (fun _ hk => hk.2) (.slice Ao25 t309.length co25)) (fun _ h_ => h_.1))) hb) (Kd.R_base ho0)) (Kd.R_base ho1)) (fun _ h_ => h_.1)); replace HO305 := Aside0.mk (Kd.R_mono (Kd.R_told (Kd.R_told (Kd.R_old (by (with_reducible repeat (first | apply Kd.R_alloc | apply Kd.R_drewN | apply Kd.R_drew)); exact (Kd.R_mono (Kd.R_far (p := ⟨gb313, 1, none⟩) (Kd.R_far (p := ⟨gb313, 0, none⟩) (Kd.R_types HO305.out BK313.out (by decide)) (fun _ hk => hk.2) (.slice Ao22 t306.length co22)) (fun _ hk => hk.2) (.slice Ao25 t309.length co25)) (fun _ h_ => h_.1))) hb) (Kd.R_base ho0)) (Kd.R_base ho1)) (fun _ h_ => h_.1)); replace HO308 := Aside0.mk (Kd.R_mono (Kd.R_told (Kd.R_told (Kd.R_old (by (with_reducible repeat (first | apply Kd.R_alloc | apply Kd.R_drewN | apply Kd.R_drew)); exact (Kd.R_mono (Kd.R_far (p := ⟨gb313, 1, none⟩) (Kd.R_far (p := ⟨gb313, 0, none⟩) (Kd.R_types HO308.out BK313.out (by decide)) (fun _ hk => hk.2) (.slice Ao22 t306.length co22)) (fun _ hk => hk.2) (.slice Ao25 t309.length co25)) (fun _ h_ => h_.1))) hb) (Kd.R_base ho0)) (Kd.R_base ho1)) (fun _ h_ => h_.1)); replace HO311 := Aside0.mk (Kd.R_mono (Kd.R_told (Kd.R_told (Kd.R_old (by (with_reducible repeat (first | apply Kd.R_alloc | apply Kd.R_drewN | apply Kd.R_drew)); exact (Kd.R_mono (Kd.R_far (p := ⟨gb313, 1, none⟩) (Kd.R_far (p := ⟨gb313, 0, none⟩) (Kd.R_types HO311.out BK313.out (by decide)) (fun _ hk => hk.2) (.slice Ao22 t306.length co22)) (fun _ hk => hk.2) (.slice Ao25 t309.length co25)) (fun _ h_ => h_.1))) hb) (Kd.R_base ho0)) (Kd.R_base ho1)) (fun _ h_ => h_.1)); replace BK298 := Aside0.mk (blk_below (g := gb298) (o := .cells #[.slice A0_0 l0_0.length c0_0, .slice A0_1 l0_1.length c0_1] 24 (0, 0)) (by (with_reducible repeat (first | refine blk_drewN ?_ _ | refine blk_drew ?_ | refine blk_alloc ?_ _)); refine blk_far ?_ NB298_313.out _; (with_reducible repeat (first | refine blk_drewN ?_ _ | refine blk_drew ?_ | refine blk_alloc ?_ _)); refine blk_far ?_ NB298_313.out _; (with_reducible repeat (first | refine blk_drewN ?_ _ | refine blk_drew ?_ | refine blk_alloc ?_ _)); exact BK298.out) hb); replace BK313 := Aside0.mk (blk_below (g := gb313) (o := .cells #[.slice Ao22 t306.length co22, .slice Ao25 t309.length co25] 27 (0, 0)) (by (with_reducible repeat (first | refine blk_drewN ?_ _ | refine blk_drew ?_ | refine blk_alloc ?_ _)); refine blk_put (cs := #[.slice Ao22 t306.length co22, .slice none 0 0]) ?_ 1 _ rfl; (with_reducible repeat (first | refine blk_drewN ?_ _ | refine blk_drew ?_ | refine blk_alloc ?_ _)); refine blk_put (cs := #[.slice none 0 0, .slice none 0 0]) ?_ 0 _ rfl; (with_reducible repeat (first | refine blk_drewN ?_ _ | refine blk_drew ?_ | refine blk_alloc ?_ _)); exact BK313.out) hb); replace HB := Aside0.mk (below_step (tB HB.out) hb); (try clear hb); (try clear hb2); (try clear hk); (try clear hi); (try clear ho0); (try clear ho1)) | ((with_reducible refine gate_dst (N := 8) rfl ?_); refine box_event ?hg (N := 8) ?hd (cs := #[.slice none 0 0, .slice none 0 0]) (t := 27) ?hr ?_; (case hd => rfl); (case hg => rfl); (case hr => first | (go_simp; done) | (go_simp; rfl)); intro gb320 hg w28 hbox hb; replace HO302 := Aside0.mk (Kd.R_below (tR HO302.out) hb); replace HO305 := Aside0.mk (Kd.R_below (tR HO305.out) hb); replace HO308 := Aside0.mk (Kd.R_below (tR HO308.out) hb); replace HO311 := Aside0.mk (Kd.R_below (tR HO311.out) hb); replace HO316 := Aside0.mk (Kd.R_below (tR HO316.out) hb); replace HO319 := Aside0.mk (Kd.R_below (tR HO319.out) hb); have BK320 := Aside0.mk (hbox); have GW320 := Aside0.mk (bS HB.out hg); have GE320 := Aside0.mk (bS HB.out hg); replace HB := Aside0.mk (below_step (tB HB.out) hb); have NB298_320 := Aside0.mk (nL BK298.out hg); have NB320_298 := Aside0.mk (nG BK298.out hg); replace BK298 := bkB BK298 hb; have NB313_320 := Aside0.mk (nL BK313.out hg); have NB320_313 := Aside0.mk (nG BK313.out hg); replace BK313 := bkB BK313 hb; clear hb hbox hg; obtain ⟨Ao29, co29, eo29⟩ := Kd.R_slice HO316.out; subst eo29; have hnb30 := NB320_298.out; have hnc30 := NB298_320.out; have hnb31 := NB320_313.out; have hnc31 := NB313_320.out; obtain ⟨hcz32_0, hfz32_0, hcz32_1, hfz32_1⟩ := cz2 BK320; obtain ⟨Ao33, co33, eo33⟩ := Kd.R_slice HO319.out; subst eo33) | ((with_reducible refine gate_callee (f := 48) rfl ?_); refine goesL_ (some 33) rfl rfl Try.func48 (by kernel_rfl) rfl #[.agg #[.slice Ao29 t314.length co29, .slice Ao33 t317.length co33], .int .i64 a1] rfl tM ?_; (with_reducible refine (impl_CutRod.calls k _ _ t314 _ _ t317 a1 t321 t324 t327 _ ?side1 ?side2 ?side3 ?side4 A11.out).mono ?_); (case side1 => refine (Kd.R_reads' (e := 58) (base := w.heap.size) (ok := fun k_ => ((((some k_ ≠ (.slice Ao33 t317.length co33 : Value).ownBlock ∧ some k_ ≠ (.slice Ao18 t300.length co18 : Value).ownBlock) ∧ some k_ ≠ (.slice Ao19 t303.length co19 : Value).ownBlock) ∧ some k_ ≠ (.slice Ao22 t306.length co22 : Value).ownBlock) ∧ some k_ ≠ (.slice Ao25 t309.length co25 : Value).ownBlock)) (n := t314.length) (c := co29) ?_).2.2; exact (by (with_reducible repeat (first | apply Kd.R_alloc | apply Kd.R_drewN | apply Kd.R_drew)); exact (Kd.R_mono (Kd.R_far (p := ⟨gb320, 1, none⟩) (Kd.R_far (p := ⟨gb320, 0, none⟩) (Kd.R_types HO316.out BK320.out (by decide)) (fun _ hk => hk.2) (.slice Ao29 t314.length co29)) (fun _ hk => hk.2) (.slice Ao33 t317.length co33)) (fun _ h_ => h_.1)))); (case side2 => exact (Kd.R_reads' HO316.out).2.1); (case side3 => refine (Kd.R_reads' (e := 58) (base := w.heap.size) (ok := fun k_ => ((((some k_ ≠ (.slice Ao29 t314.length co29 : Value).ownBlock ∧ some k_ ≠ (.slice Ao18 t300.length co18 : Value).ownBlock) ∧ some k_ ≠ (.slice Ao19 t303.length co19 : Value).ownBlock) ∧ some k_ ≠ (.slice Ao22 t306.length co22 : Value).ownBlock) ∧ some k_ ≠ (.slice Ao25 t309.length co25 : Value).ownBlock)) (n := t317.length) (c := co33) ?_).2.2; exact (by (with_reducible repeat (first | apply Kd.R_alloc | apply Kd.R_drewN | apply Kd.R_drew)); exact (Kd.R_mono (Kd.R_far (p := ⟨gb320, 1, none⟩) (Kd.R_far (p := ⟨gb320, 0, none⟩) (Kd.R_types HO319.out BK320.out (by decide)) (fun _ hk => hk.2) (.slice Ao29 t314.length co29)) (fun _ hk => hk.2) (.slice Ao33 t317.length co33)) (fun _ h_ => h_.1)))); (case side4 => exact (Kd.R_reads' HO319.out).2.1); rintro e w34 ⟨v322, v325, rfl, ho0, ho1, hb⟩; refine ⟨_, rfl, ?_⟩; have HO323 := Aside0.mk (Kd.R_lower (Kd.R_new' (Kd.R_new' (Kd.R_new' (Kd.R_new' (Kd.R_new' (Kd.R_new' ho0 (Kd.R_lt (by (with_reducible repeat (first | apply Kd.R_alloc | apply Kd.R_drewN | apply Kd.R_drew)); exact (Kd.R_mono (Kd.R_far (p := ⟨gb320, 1, none⟩) (Kd.R_far (p := ⟨gb320, 0, none⟩) (Kd.R_types HO302.out BK320.out (by decide)) (fun _ hk => hk.2) (.slice Ao29 t314.length co29)) (fun _ hk => hk.2) (.slice Ao33 t317.length co33)) (fun _ h_ => h_.1))))) (Kd.R_lt (by (with_reducible repeat (first | apply Kd.R_alloc | apply Kd.R_drewN | apply Kd.R_drew)); exact (Kd.R_mono (Kd.R_far (p := ⟨gb320, 1, none⟩) (Kd.R_far (p := ⟨gb320, 0, none⟩) (Kd.R_types HO305.out BK320.out (by decide)) (fun _ hk => hk.2) (.slice Ao29 t314.length co29)) (fun _ hk => hk.2) (.slice Ao33 t317.length co33)) (fun _ h_ => h_.1))))) (Kd.R_lt (by (with_reducible repeat (first | apply Kd.R_alloc | apply Kd.R_drewN | apply Kd.R_drew)); exact (Kd.R_mono (Kd.R_far (p := ⟨gb320, 1, none⟩) (Kd.R_far (p := ⟨gb320, 0, none⟩) (Kd.R_types HO308.out BK320.out (by decide)) (fun _ hk => hk.2) (.slice Ao29 t314.length co29)) (fun _ hk => hk.2) (.slice Ao33 t317.length co33)) (fun _ h_ => h_.1))))) (Kd.R_lt (by (with_reducible repeat (first | apply Kd.R_alloc | apply Kd.R_drewN | apply Kd.R_drew)); exact (Kd.R_mono (Kd.R_far (p := ⟨gb320, 1, none⟩) (Kd.R_far (p := ⟨gb320, 0, none⟩) (Kd.R_types HO311.out BK320.out (by decide)) (fun _ hk => hk.2) (.slice Ao29 t314.length co29)) (fun _ hk => hk.2) (.slice Ao33 t317.length co33)) (fun _ h_ => h_.1))))) (Kd.R_lt (by (with_reducible repeat (first | apply Kd.R_alloc | apply Kd.R_drewN | apply Kd.R_drew)); exact (Kd.R_mono (Kd.R_far (p := ⟨gb320, 1, none⟩) (Kd.R_far (p := ⟨gb320, 0, none⟩) (Kd.R_types HO316.out BK320.out (by decide)) (fun _ hk => hk.2) (.slice Ao29 t314.length co29)) (fun _ hk => hk.2) (.slice Ao33 t317.length co33)) (fun _ h_ => h_.1))))) (Kd.R_lt (by (with_reducible repeat (first | apply Kd.R_alloc | apply Kd.R_drewN | apply Kd.R_drew)); exact (Kd.R_mono (Kd.R_far (p := ⟨gb320, 1, none⟩) (Kd.R_far (p := ⟨gb320, 0, none⟩) (Kd.R_types HO319.out BK320.out (by decide)) (fun _ hk => hk.2) (.slice Ao29 t314.length co29)) (fun _ hk => hk.2) (.slice Ao33 t317.length co33)) (fun _ h_ => h_.1))))) (below_size (tB HB.out))); have HO326 := Aside0.mk (Kd.R_lower (Kd.R_new' (Kd.R_new' (Kd.R_new' (Kd.R_new' (Kd.R_new' (Kd.R_new' ho1 (Kd.R_lt (by (with_reducible repeat (first | apply Kd.R_alloc | apply Kd.R_drewN | apply Kd.R_drew)); exact (Kd.R_mono (Kd.R_far (p := ⟨gb320, 1, none⟩) (Kd.R_far (p := ⟨gb320, 0, none⟩) (Kd.R_types HO302.out BK320.out (by decide)) (fun _ hk => hk.2) (.slice Ao29 t314.length co29)) (fun _ hk => hk.2) (.slice Ao33 t317.length co33)) (fun _ h_ => h_.1))))) (Kd.R_lt (by (with_reducible repeat (first | apply Kd.R_alloc | apply Kd.R_drewN | apply Kd.R_drew)); exact (Kd.R_mono (Kd.R_far (p := ⟨gb320, 1, none⟩) (Kd.R_far (p := ⟨gb320, 0, none⟩) (Kd.R_types HO305.out BK320.out (by decide)) (fun _ hk => hk.2) (.slice Ao29 t314.length co29)) (fun _ hk => hk.2) (.slice Ao33 t317.length co33)) (fun _ h_ => h_.1))))) (Kd.R_lt (by (with_reducible repeat (first | apply Kd.R_alloc | apply Kd.R_drewN | apply Kd.R_drew)); exact (Kd.R_mono (Kd.R_far (p := ⟨gb320, 1, none⟩) (Kd.R_far (p := ⟨gb320, 0, none⟩) (Kd.R_types HO308.out BK320.out (by decide)) (fun _ hk => hk.2) (.slice Ao29 t314.length co29)) (fun _ hk => hk.2) (.slice Ao33 t317.length co33)) (fun _ h_ => h_.1))))) (Kd.R_lt (by (with_reducible repeat (first | apply Kd.R_alloc | apply Kd.R_drewN | apply Kd.R_drew)); exact (Kd.R_mono (Kd.R_far (p := ⟨gb320, 1, none⟩) (Kd.R_far (p := ⟨gb320, 0, none⟩) (Kd.R_types HO311.out BK320.out (by decide)) (fun _ hk => hk.2) (.slice Ao29 t314.length co29)) (fun _ hk => hk.2) (.slice Ao33 t317.length co33)) (fun _ h_ => h_.1))))) (Kd.R_lt (by (with_reducible repeat (first | apply Kd.R_alloc | apply Kd.R_drewN | apply Kd.R_drew)); exact (Kd.R_mono (Kd.R_far (p := ⟨gb320, 1, none⟩) (Kd.R_far (p := ⟨gb320, 0, none⟩) (Kd.R_types HO316.out BK320.out (by decide)) (fun _ hk => hk.2) (.slice Ao29 t314.length co29)) (fun _ hk => hk.2) (.slice Ao33 t317.length co33)) (fun _ h_ => h_.1))))) (Kd.R_lt (by (with_reducible repeat (first | apply Kd.R_alloc | apply Kd.R_drewN | apply Kd.R_drew)); exact (Kd.R_mono (Kd.R_far (p := ⟨gb320, 1, none⟩) (Kd.R_far (p := ⟨gb320, 0, none⟩) (Kd.R_types HO319.out BK320.out (by decide)) (fun _ hk => hk.2) (.slice Ao29 t314.length co29)) (fun _ hk => hk.2) (.slice Ao33 t317.length co33)) (fun _ h_ => h_.1))))) (below_size (tB HB.out))); replace HO302 := Aside0.mk (Kd.R_mono (Kd.R_told (Kd.R_told (Kd.R_old (by (with_reducible repeat (first | apply Kd.R_alloc | apply Kd.R_drewN | apply Kd.R_drew)); exact (Kd.R_mono (Kd.R_far (p := ⟨gb320, 1, none⟩) (Kd.R_far (p := ⟨gb320, 0, none⟩) (Kd.R_types HO302.out BK320.out (by decide)) (fun _ hk => hk.2) (.slice Ao29 t314.length co29)) (fun _ hk => hk.2) (.slice Ao33 t317.length co33)) (fun _ h_ => h_.1))) hb) (Kd.R_base ho0)) (Kd.R_base ho1)) (fun _ h_ => h_.1)); replace HO305 := Aside0.mk (Kd.R_mono (Kd.R_told (Kd.R_told (Kd.R_old (by (with_reducible repeat (first | apply Kd.R_alloc | apply Kd.R_drewN | apply Kd.R_drew)); exact (Kd.R_mono (Kd.R_far (p := ⟨gb320, 1, none⟩) (Kd.R_far (p := ⟨gb320, 0, none⟩) (Kd.R_types HO305.out BK320.out (by decide)) (fun _ hk => hk.2) (.slice Ao29 t314.length co29)) (fun _ hk => hk.2) (.slice Ao33 t317.length co33)) (fun _ h_ => h_.1))) hb) (Kd.R_base ho0)) (Kd.R_base ho1)) (fun _ h_ => h_.1)); replace HO308 := Aside0.mk (Kd.R_mono (Kd.R_told (Kd.R_told (Kd.R_old (by (with_reducible repeat (first | apply Kd.R_alloc | apply Kd.R_drewN | apply Kd.R_drew)); exact (Kd.R_mono (Kd.R_far (p := ⟨gb320, 1, none⟩) (Kd.R_far (p := ⟨gb320, 0, none⟩) (Kd.R_types HO308.out BK320.out (by decide)) (fun _ hk => hk.2) (.slice Ao29 t314.length co29)) (fun _ hk => hk.2) (.slice Ao33 t317.length co33)) (fun _ h_ => h_.1))) hb) (Kd.R_base ho0)) (Kd.R_base ho1)) (fun _ h_ => h_.1)); replace HO311 := Aside0.mk (Kd.R_mono (Kd.R_told (Kd.R_told (Kd.R_old (by (with_reducible repeat (first | apply Kd.R_alloc | apply Kd.R_drewN | apply Kd.R_drew)); exact (Kd.R_mono (Kd.R_far (p := ⟨gb320, 1, none⟩) (Kd.R_far (p := ⟨gb320, 0, none⟩) (Kd.R_types HO311.out BK320.out (by decide)) (fun _ hk => hk.2) (.slice Ao29 t314.length co29)) (fun _ hk => hk.2) (.slice Ao33 t317.length co33)) (fun _ h_ => h_.1))) hb) (Kd.R_base ho0)) (Kd.R_base ho1)) (fun _ h_ => h_.1)); replace HO316 := Aside0.mk (Kd.R_mono (Kd.R_told (Kd.R_told (Kd.R_old (by (with_reducible repeat (first | apply Kd.R_alloc | apply Kd.R_drewN | apply Kd.R_drew)); exact (Kd.R_mono (Kd.R_far (p := ⟨gb320, 1, none⟩) (Kd.R_far (p := ⟨gb320, 0, none⟩) (Kd.R_types HO316.out BK320.out (by decide)) (fun _ hk => hk.2) (.slice Ao29 t314.length co29)) (fun _ hk => hk.2) (.slice Ao33 t317.length co33)) (fun _ h_ => h_.1))) hb) (Kd.R_base ho0)) (Kd.R_base ho1)) (fun _ h_ => h_.1)); replace HO319 := Aside0.mk (Kd.R_mono (Kd.R_told (Kd.R_told (Kd.R_old (by (with_reducible repeat (first | apply Kd.R_alloc | apply Kd.R_drewN | apply Kd.R_drew)); exact (Kd.R_mono (Kd.R_far (p := ⟨gb320, 1, none⟩) (Kd.R_far (p := ⟨gb320, 0, none⟩) (Kd.R_types HO319.out BK320.out (by decide)) (fun _ hk => hk.2) (.slice Ao29 t314.length co29)) (fun _ hk => hk.2) (.slice Ao33 t317.length co33)) (fun _ h_ => h_.1))) hb) (Kd.R_base ho0)) (Kd.R_base ho1)) (fun _ h_ => h_.1)); replace BK298 := Aside0.mk (blk_below (g := gb298) (o := .cells #[.slice A0_0 l0_0.length c0_0, .slice A0_1 l0_1.length c0_1] 24 (0, 0)) (by (with_reducible repeat (first | refine blk_drewN ?_ _ | refine blk_drew ?_ | refine blk_alloc ?_ _)); refine blk_far ?_ NB298_320.out _; (with_reducible repeat (first | refine blk_drewN ?_ _ | refine blk_drew ?_ | refine blk_alloc ?_ _)); refine blk_far ?_ NB298_320.out _; (with_reducible repeat (first | refine blk_drewN ?_ _ | refine blk_drew ?_ | refine blk_alloc ?_ _)); exact BK298.out) hb); replace BK313 := Aside0.mk (blk_below (g := gb313) (o := .cells #[.slice Ao22 t306.length co22, .slice Ao25 t309.length co25] 27 (0, 0)) (by (with_reducible repeat (first | refine blk_drewN ?_ _ | refine blk_drew ?_ | refine blk_alloc ?_ _)); refine blk_far ?_ NB313_320.out _; (with_reducible repeat (first | refine blk_drewN ?_ _ | refine blk_drew ?_ | refine blk_alloc ?_ _)); refine blk_far ?_ NB313_320.out _; (with_reducible repeat (first | refine blk_drewN ?_ _ | refine blk_drew ?_ | refine blk_alloc ?_ _)); exact BK313.out) hb); replace BK320 := Aside0.mk (blk_below (g := gb320) (o := .cells #[.slice Ao29 t314.length co29, .slice Ao33 t317.length co33] 27 (0, 0)) (by (with_reducible repeat (first | refine blk_drewN ?_ _ | refine blk_drew ?_ | refine blk_alloc ?_ _)); refine blk_put (cs := #[.slice Ao29 t314.length co29, .slice none 0 0]) ?_ 1 _ rfl; (with_reducible repeat (first | refine blk_drewN ?_ _ | refine blk_drew ?_ | refine blk_alloc ?_ _)); refine blk_put (cs := #[.slice none 0 0, .slice none 0 0]) ?_ 0 _ rfl; (with_reducible repeat (first | refine blk_drewN ?_ _ | refine blk_drew ?_ | refine blk_alloc ?_ _)); exact BK320.out) hb); replace HB := Aside0.mk (below_step (tB HB.out) hb); (try clear hb); (try clear hb2); (try clear hk); (try clear hi); (try clear ho0); (try clear ho1)) | ((with_reducible refine gate_dst (N := 9) rfl ?_); refine box_event ?hg (N := 9) ?hd (cs := #[.slice none 0 0, .slice none 0 0]) (t := 27) ?hr ?_; (case hd => rfl); (case hg => rfl); (case hr => first | (go_simp; done) | (go_simp; rfl)); intro gb328 hg w35 hbox hb; replace HO302 := Aside0.mk (Kd.R_below (tR HO302.out) hb); replace HO305 := Aside0.mk (Kd.R_below (tR HO305.out) hb); replace HO308 := Aside0.mk (Kd.R_below (tR HO308.out) hb); replace HO311 := Aside0.mk (Kd.R_below (tR HO311.out) hb); replace HO316 := Aside0.mk (Kd.R_below (tR HO316.out) hb); replace HO319 := Aside0.mk (Kd.R_below (tR HO319.out) hb); replace HO323 := Aside0.mk (Kd.R_below (tR HO323.out) hb); replace HO326 := Aside0.mk (Kd.R_below (tR HO326.out) hb); have BK328 := Aside0.mk (hbox); have GW328 := Aside0.mk (bS HB.out hg); have GE328 := Aside0.mk (bS HB.out hg); replace HB := Aside0.mk (below_step (tB HB.out) hb); have NB298_328 := Aside0.mk (nL BK298.out hg); have NB328_298 := Aside0.mk (nG BK298.out hg); replace BK298 := bkB BK298 hb; have NB313_328 := Aside0.mk (nL BK313.out hg); have NB328_313 := Aside0.mk (nG BK313.out hg); replace BK313 := bkB BK313 hb; have NB320_328 := Aside0.mk (nL BK320.out hg); have NB328_320 := Aside0.mk (nG BK320.out hg); replace BK320 := bkB BK320 hb; clear hb hbox hg; obtain ⟨Ao36, co36, eo36⟩ := Kd.R_slice HO323.out; subst eo36; have hnb37 := NB328_298.out; have hnc37 := NB298_328.out; have hnb38 := NB328_313.out; have hnc38 := NB313_328.out; have hnb39 := NB328_320.out; have hnc39 := NB320_328.out; obtain ⟨hcz40_0, hfz40_0, hcz40_1, hfz40_1⟩ := cz2 BK328; obtain ⟨Ao41, co41, eo41⟩ := Kd.R_slice HO326.out; subst eo41))
  (try simp only [Act.put, List.setIfInBounds_toArray, List.set_cons_zero, List.set_cons_succ])
  go_cut [44] (fun v44 wc => ∃ (kq : Nat) (x44_11 : Bool), v44 = .bool x44_11 ∧ Aside0 (laws_FnExactCutRod.j0 kq a1 t312 t327 x44_11 l0_0 l0_1 t306 t309 t314 t317 t321 t324 = some r) ∧ Aside0 (kq ≤ k) ∧ Aside0 (Kd.R k58 58 wc w.heap.size (fun k_ => some k_ ≠ ((.slice Ao25 t309.length co25) : Value).ownBlock ∧ some k_ ≠ ((.slice Ao29 t314.length co29) : Value).ownBlock ∧ some k_ ≠ ((.slice Ao33 t317.length co33) : Value).ownBlock ∧ some k_ ≠ ((.slice Ao36 t321.length co36) : Value).ownBlock ∧ some k_ ≠ ((.slice Ao41 t324.length co41) : Value).ownBlock) (.slice Ao22 t306.length co22) t306) ∧ Aside0 (Kd.R k58 58 wc w.heap.size (fun k_ => some k_ ≠ ((.slice Ao22 t306.length co22) : Value).ownBlock ∧ some k_ ≠ ((.slice Ao29 t314.length co29) : Value).ownBlock ∧ some k_ ≠ ((.slice Ao33 t317.length co33) : Value).ownBlock ∧ some k_ ≠ ((.slice Ao36 t321.length co36) : Value).ownBlock ∧ some k_ ≠ ((.slice Ao41 t324.length co41) : Value).ownBlock) (.slice Ao25 t309.length co25) t309) ∧ Aside0 (Kd.R k58 58 wc w.heap.size (fun k_ => some k_ ≠ ((.slice Ao22 t306.length co22) : Value).ownBlock ∧ some k_ ≠ ((.slice Ao25 t309.length co25) : Value).ownBlock ∧ some k_ ≠ ((.slice Ao33 t317.length co33) : Value).ownBlock ∧ some k_ ≠ ((.slice Ao36 t321.length co36) : Value).ownBlock ∧ some k_ ≠ ((.slice Ao41 t324.length co41) : Value).ownBlock) (.slice Ao29 t314.length co29) t314) ∧ Aside0 (Kd.R k58 58 wc w.heap.size (fun k_ => some k_ ≠ ((.slice Ao22 t306.length co22) : Value).ownBlock ∧ some k_ ≠ ((.slice Ao25 t309.length co25) : Value).ownBlock ∧ some k_ ≠ ((.slice Ao29 t314.length co29) : Value).ownBlock ∧ some k_ ≠ ((.slice Ao36 t321.length co36) : Value).ownBlock ∧ some k_ ≠ ((.slice Ao41 t324.length co41) : Value).ownBlock) (.slice Ao33 t317.length co33) t317) ∧ Aside0 (Kd.R k58 58 wc w.heap.size (fun k_ => some k_ ≠ ((.slice Ao22 t306.length co22) : Value).ownBlock ∧ some k_ ≠ ((.slice Ao25 t309.length co25) : Value).ownBlock ∧ some k_ ≠ ((.slice Ao29 t314.length co29) : Value).ownBlock ∧ some k_ ≠ ((.slice Ao33 t317.length co33) : Value).ownBlock ∧ some k_ ≠ ((.slice Ao41 t324.length co41) : Value).ownBlock) (.slice Ao36 t321.length co36) t321) ∧ Aside0 (Kd.R k58 58 wc w.heap.size (fun k_ => some k_ ≠ ((.slice Ao22 t306.length co22) : Value).ownBlock ∧ some k_ ≠ ((.slice Ao25 t309.length co25) : Value).ownBlock ∧ some k_ ≠ ((.slice Ao29 t314.length co29) : Value).ownBlock ∧ some k_ ≠ ((.slice Ao33 t317.length co33) : Value).ownBlock ∧ some k_ ≠ ((.slice Ao36 t321.length co36) : Value).ownBlock) (.slice Ao41 t324.length co41) t324) ∧ Aside0 (wc.heap[gb298]? = some (.cells #[(.slice A0_0 l0_0.length c0_0), (.slice A0_1 l0_1.length c0_1)] 24 (0, 0))) ∧ Aside0 (wc.heap[gb313]? = some (.cells #[(.slice Ao22 t306.length co22), (.slice Ao25 t309.length co25)] 27 (0, 0))) ∧ Aside0 (wc.heap[gb320]? = some (.cells #[(.slice Ao29 t314.length co29), (.slice Ao33 t317.length co33)] 27 (0, 0))) ∧ Aside0 (wc.heap[gb328]? = some (.cells #[(.slice Ao36 t321.length co36), (.slice Ao41 t324.length co41)] 27 (0, 0))) ∧ Aside0 (Below w.heap.size w wc))
  case first =>
   have H := HC12.out
   clear HC12
   replace H := Option.bind_eq_some_iff.mp H
   obtain ⟨t329, A420, H⟩ := H
   replace H : (if t329 = true then (laws_FnExactCutRod.j0 k a1 t312 t327 (t327 != t312) l0_0 l0_1 t306 t309 t314 t317 t321 t324) else (laws_FnExactCutRod.j0 k a1 t312 t327 true l0_0 l0_1 t306 t309 t314 t317 t321 t324)) = some r := H
   have A42 := Aside0.mk A420
   clear A420
   by_cases c43 : t329 = true
   ·
    subst c43
    have H1 : (laws_FnExactCutRod.j0 k a1 t312 t327 (t327 != t312) l0_0 l0_1 t306 t309 t314 t317 t321 t324) = some r := by rw [if_pos rfl] at H; exact H
    clear H
    have H := H1
    clear H1
    have H' := Aside0.mk H
    clear H
    have hnb44 := NB328_298.out
    have hnc44 := NB298_328.out
    have hnb45 := NB328_313.out
    have hnc45 := NB313_328.out
    have hnb46 := NB328_320.out
    have hnc46 := NB320_328.out
    obtain ⟨hcz47_0, hfz47_0, hcz47_1, hfz47_1⟩ := cz2 BK328
    have hnb48 := NB313_298.out
    have hnc48 := NB298_313.out
    have hnb49 := NB313_320.out
    have hnc49 := NB320_313.out
    obtain ⟨hcz50_0, hfz50_0, hcz50_1, hfz50_1⟩ := cz2 BK313
    go_wp2_with (first | ((with_reducible refine gate_callee (f := 19) rfl ?_); refine goesL_ (some 38) rfl rfl Try.func19 (by kernel_rfl) rfl #[.agg #[.slice Ao36 t321.length co36, .slice Ao41 t324.length co41], .agg #[.slice Ao22 t306.length co22, .slice Ao25 t309.length co25]] rfl tM ?_; (with_reducible refine (laws_eqMobile.calls k _ _ t321 _ _ t324 _ _ t306 _ _ t309 true _ ?side1 ?side2 ?side3 ?side4 ?side5 ?side6 ?side7 ?side8 A42.out).mono ?_); (case side1 => refine (Kd.R_reads' (e := 58) (base := w.heap.size) (ok := fun k_ => ((((((some k_ ≠ (.slice Ao41 t324.length co41 : Value).ownBlock ∧ some k_ ≠ (.slice Ao18 t300.length co18 : Value).ownBlock) ∧ some k_ ≠ (.slice Ao19 t303.length co19 : Value).ownBlock) ∧ some k_ ≠ (.slice Ao22 t306.length co22 : Value).ownBlock) ∧ some k_ ≠ (.slice Ao25 t309.length co25 : Value).ownBlock) ∧ some k_ ≠ (.slice Ao29 t314.length co29 : Value).ownBlock) ∧ some k_ ≠ (.slice Ao33 t317.length co33 : Value).ownBlock)) (n := t321.length) (c := co36) ?_).2.2; exact (by (with_reducible repeat (first | apply Kd.R_alloc | apply Kd.R_drewN | apply Kd.R_drew)); exact (Kd.R_mono (Kd.R_far (p := ⟨gb328, 1, none⟩) (Kd.R_far (p := ⟨gb328, 0, none⟩) (Kd.R_types HO323.out BK328.out (by decide)) (fun _ hk => hk.2) (.slice Ao36 t321.length co36)) (fun _ hk => hk.2) (.slice Ao41 t324.length co41)) (fun _ h_ => h_.1)))); (case side2 => exact (Kd.R_reads' HO323.out).2.1); (case side3 => refine (Kd.R_reads' (e := 58) (base := w.heap.size) (ok := fun k_ => ((((((some k_ ≠ (.slice Ao36 t321.length co36 : Value).ownBlock ∧ some k_ ≠ (.slice Ao18 t300.length co18 : Value).ownBlock) ∧ some k_ ≠ (.slice Ao19 t303.length co19 : Value).ownBlock) ∧ some k_ ≠ (.slice Ao22 t306.length co22 : Value).ownBlock) ∧ some k_ ≠ (.slice Ao25 t309.length co25 : Value).ownBlock) ∧ some k_ ≠ (.slice Ao29 t314.length co29 : Value).ownBlock) ∧ some k_ ≠ (.slice Ao33 t317.length co33 : Value).ownBlock)) (n := t324.length) (c := co41) ?_).2.2; exact (by (with_reducible repeat (first | apply Kd.R_alloc | apply Kd.R_drewN | apply Kd.R_drew)); exact (Kd.R_mono (Kd.R_far (p := ⟨gb328, 1, none⟩) (Kd.R_far (p := ⟨gb328, 0, none⟩) (Kd.R_types HO326.out BK328.out (by decide)) (fun _ hk => hk.2) (.slice Ao36 t321.length co36)) (fun _ hk => hk.2) (.slice Ao41 t324.length co41)) (fun _ h_ => h_.1)))); (case side4 => exact (Kd.R_reads' HO326.out).2.1); (case side5 => refine (Kd.R_reads' (e := 58) (base := w.heap.size) (ok := fun k_ => ((((((some k_ ≠ (.slice Ao25 t309.length co25 : Value).ownBlock ∧ some k_ ≠ (.slice Ao18 t300.length co18 : Value).ownBlock) ∧ some k_ ≠ (.slice Ao19 t303.length co19 : Value).ownBlock) ∧ some k_ ≠ (.slice Ao29 t314.length co29 : Value).ownBlock) ∧ some k_ ≠ (.slice Ao33 t317.length co33 : Value).ownBlock) ∧ some k_ ≠ (.slice Ao36 t321.length co36 : Value).ownBlock) ∧ some k_ ≠ (.slice Ao41 t324.length co41 : Value).ownBlock)) (n := t306.length) (c := co22) ?_).2.2; exact (by (with_reducible repeat (first | apply Kd.R_alloc | apply Kd.R_drewN | apply Kd.R_drew)); exact (Kd.R_mono (Kd.R_far (p := ⟨gb328, 1, none⟩) (Kd.R_far (p := ⟨gb328, 0, none⟩) (Kd.R_types HO308.out BK328.out (by decide)) (fun _ hk => hk.2) (.slice Ao36 t321.length co36)) (fun _ hk => hk.2) (.slice Ao41 t324.length co41)) (fun _ h_ => h_.1)))); (case side6 => exact (Kd.R_reads' HO308.out).2.1); (case side7 => refine (Kd.R_reads' (e := 58) (base := w.heap.size) (ok := fun k_ => ((((((some k_ ≠ (.slice Ao22 t306.length co22 : Value).ownBlock ∧ some k_ ≠ (.slice Ao18 t300.length co18 : Value).ownBlock) ∧ some k_ ≠ (.slice Ao19 t303.length co19 : Value).ownBlock) ∧ some k_ ≠ (.slice Ao29 t314.length co29 : Value).ownBlock) ∧ some k_ ≠ (.slice Ao33 t317.length co33 : Value).ownBlock) ∧ some k_ ≠ (.slice Ao36 t321.length co36 : Value).ownBlock) ∧ some k_ ≠ (.slice Ao41 t324.length co41 : Value).ownBlock)) (n := t309.length) (c := co25) ?_).2.2; exact (by (with_reducible repeat (first | apply Kd.R_alloc | apply Kd.R_drewN | apply Kd.R_drew)); exact (Kd.R_mono (Kd.R_far (p := ⟨gb328, 1, none⟩) (Kd.R_far (p := ⟨gb328, 0, none⟩) (Kd.R_types HO311.out BK328.out (by decide)) (fun _ hk => hk.2) (.slice Ao36 t321.length co36)) (fun _ hk => hk.2) (.slice Ao41 t324.length co41)) (fun _ h_ => h_.1)))); (case side8 => exact (Kd.R_reads' HO311.out).2.1); rintro e w51 ⟨rfl, hb⟩; refine ⟨_, rfl, ?_⟩; replace HO302 := Aside0.mk (Kd.R_below (by (with_reducible repeat (first | apply Kd.R_alloc | apply Kd.R_drewN | apply Kd.R_drew)); exact (Kd.R_mono (Kd.R_far (p := ⟨gb328, 1, none⟩) (Kd.R_far (p := ⟨gb328, 0, none⟩) (Kd.R_types HO302.out BK328.out (by decide)) (fun _ hk => hk.2) (.slice Ao36 t321.length co36)) (fun _ hk => hk.2) (.slice Ao41 t324.length co41)) (fun _ h_ => h_.1))) hb); replace HO305 := Aside0.mk (Kd.R_below (by (with_reducible repeat (first | apply Kd.R_alloc | apply Kd.R_drewN | apply Kd.R_drew)); exact (Kd.R_mono (Kd.R_far (p := ⟨gb328, 1, none⟩) (Kd.R_far (p := ⟨gb328, 0, none⟩) (Kd.R_types HO305.out BK328.out (by decide)) (fun _ hk => hk.2) (.slice Ao36 t321.length co36)) (fun _ hk => hk.2) (.slice Ao41 t324.length co41)) (fun _ h_ => h_.1))) hb); replace HO308 := Aside0.mk (Kd.R_below (by (with_reducible repeat (first | apply Kd.R_alloc | apply Kd.R_drewN | apply Kd.R_drew)); exact (Kd.R_mono (Kd.R_far (p := ⟨gb328, 1, none⟩) (Kd.R_far (p := ⟨gb328, 0, none⟩) (Kd.R_types HO308.out BK328.out (by decide)) (fun _ hk => hk.2) (.slice Ao36 t321.length co36)) (fun _ hk => hk.2) (.slice Ao41 t324.length co41)) (fun _ h_ => h_.1))) hb); replace HO311 := Aside0.mk (Kd.R_below (by (with_reducible repeat (first | apply Kd.R_alloc | apply Kd.R_drewN | apply Kd.R_drew)); exact (Kd.R_mono (Kd.R_far (p := ⟨gb328, 1, none⟩) (Kd.R_far (p := ⟨gb328, 0, none⟩) (Kd.R_types HO311.out BK328.out (by decide)) (fun _ hk => hk.2) (.slice Ao36 t321.length co36)) (fun _ hk => hk.2) (.slice Ao41 t324.length co41)) (fun _ h_ => h_.1))) hb); replace HO316 := Aside0.mk (Kd.R_below (by (with_reducible repeat (first | apply Kd.R_alloc | apply Kd.R_drewN | apply Kd.R_drew)); exact (Kd.R_mono (Kd.R_far (p := ⟨gb328, 1, none⟩) (Kd.R_far (p := ⟨gb328, 0, none⟩) (Kd.R_types HO316.out BK328.out (by decide)) (fun _ hk => hk.2) (.slice Ao36 t321.length co36)) (fun _ hk => hk.2) (.slice Ao41 t324.length co41)) (fun _ h_ => h_.1))) hb); replace HO319 := Aside0.mk (Kd.R_below (by (with_reducible repeat (first | apply Kd.R_alloc | apply Kd.R_drewN | apply Kd.R_drew)); exact (Kd.R_mono (Kd.R_far (p := ⟨gb328, 1, none⟩) (Kd.R_far (p := ⟨gb328, 0, none⟩) (Kd.R_types HO319.out BK328.out (by decide)) (fun _ hk => hk.2) (.slice Ao36 t321.length co36)) (fun _ hk => hk.2) (.slice Ao41 t324.length co41)) (fun _ h_ => h_.1))) hb); replace HO323 := Aside0.mk (Kd.R_below (by (with_reducible repeat (first | apply Kd.R_alloc | apply Kd.R_drewN | apply Kd.R_drew)); exact (Kd.R_mono (Kd.R_far (p := ⟨gb328, 1, none⟩) (Kd.R_far (p := ⟨gb328, 0, none⟩) (Kd.R_types HO323.out BK328.out (by decide)) (fun _ hk => hk.2) (.slice Ao36 t321.length co36)) (fun _ hk => hk.2) (.slice Ao41 t324.length co41)) (fun _ h_ => h_.1))) hb); replace HO326 := Aside0.mk (Kd.R_below (by (with_reducible repeat (first | apply Kd.R_alloc | apply Kd.R_drewN | apply Kd.R_drew)); exact (Kd.R_mono (Kd.R_far (p := ⟨gb328, 1, none⟩) (Kd.R_far (p := ⟨gb328, 0, none⟩) (Kd.R_types HO326.out BK328.out (by decide)) (fun _ hk => hk.2) (.slice Ao36 t321.length co36)) (fun _ hk => hk.2) (.slice Ao41 t324.length co41)) (fun _ h_ => h_.1))) hb); replace BK298 := Aside0.mk (blk_below (g := gb298) (o := .cells #[.slice A0_0 l0_0.length c0_0, .slice A0_1 l0_1.length c0_1] 24 (0, 0)) (by (with_reducible repeat (first | refine blk_drewN ?_ _ | refine blk_drew ?_ | refine blk_alloc ?_ _)); refine blk_far ?_ NB298_328.out _; (with_reducible repeat (first | refine blk_drewN ?_ _ | refine blk_drew ?_ | refine blk_alloc ?_ _)); refine blk_far ?_ NB298_328.out _; (with_reducible repeat (first | refine blk_drewN ?_ _ | refine blk_drew ?_ | refine blk_alloc ?_ _)); exact BK298.out) hb); replace BK313 := Aside0.mk (blk_below (g := gb313) (o := .cells #[.slice Ao22 t306.length co22, .slice Ao25 t309.length co25] 27 (0, 0)) (by (with_reducible repeat (first | refine blk_drewN ?_ _ | refine blk_drew ?_ | refine blk_alloc ?_ _)); refine blk_far ?_ NB313_328.out _; (with_reducible repeat (first | refine blk_drewN ?_ _ | refine blk_drew ?_ | refine blk_alloc ?_ _)); refine blk_far ?_ NB313_328.out _; (with_reducible repeat (first | refine blk_drewN ?_ _ | refine blk_drew ?_ | refine blk_alloc ?_ _)); exact BK313.out) hb); replace BK320 := Aside0.mk (blk_below (g := gb320) (o := .cells #[.slice Ao29 t314.length co29, .slice Ao33 t317.length co33] 27 (0, 0)) (by (with_reducible repeat (first | refine blk_drewN ?_ _ | refine blk_drew ?_ | refine blk_alloc ?_ _)); refine blk_far ?_ NB320_328.out _; (with_reducible repeat (first | refine blk_drewN ?_ _ | refine blk_drew ?_ | refine blk_alloc ?_ _)); refine blk_far ?_ NB320_328.out _; (with_reducible repeat (first | refine blk_drewN ?_ _ | refine blk_drew ?_ | refine blk_alloc ?_ _)); exact BK320.out) hb); replace BK328 := Aside0.mk (blk_below (g := gb328) (o := .cells #[.slice Ao36 t321.length co36, .slice Ao41 t324.length co41] 27 (0, 0)) (by (with_reducible repeat (first | refine blk_drewN ?_ _ | refine blk_drew ?_ | refine blk_alloc ?_ _)); refine blk_put (cs := #[.slice Ao36 t321.length co36, .slice none 0 0]) ?_ 1 _ rfl; (with_reducible repeat (first | refine blk_drewN ?_ _ | refine blk_drew ?_ | refine blk_alloc ?_ _)); refine blk_put (cs := #[.slice none 0 0, .slice none 0 0]) ?_ 0 _ rfl; (with_reducible repeat (first | refine blk_drewN ?_ _ | refine blk_drew ?_ | refine blk_alloc ?_ _)); exact BK328.out) hb); replace HB := Aside0.mk (below_step (tB HB.out) hb); (try clear hb); (try clear hb2); (try clear hk); (try clear hi)))
    go_meet
    case rel => exact ⟨_, ((t327 != t312)), (by first | rfl | (simp; done) | (simp [wrap64]; done) | (simp [*]; done)), H', ⟨by first | omega | exact Nat.le_refl _⟩, ⟨by (with_reducible repeat (first | apply Kd.R_alloc | apply Kd.R_drewN | apply Kd.R_drew)); exact Kd.R_mono HO308.out (fun _ hk => ⟨hk.1.1.1.1.1.1, ⟨hk.1.1.1.2, ⟨hk.1.1.2, ⟨hk.1.2, hk.2⟩⟩⟩⟩)⟩, ⟨by (with_reducible repeat (first | apply Kd.R_alloc | apply Kd.R_drewN | apply Kd.R_drew)); exact Kd.R_mono HO311.out (fun _ hk => ⟨hk.1.1.1.1.1.1, ⟨hk.1.1.1.2, ⟨hk.1.1.2, ⟨hk.1.2, hk.2⟩⟩⟩⟩)⟩, ⟨by (with_reducible repeat (first | apply Kd.R_alloc | apply Kd.R_drewN | apply Kd.R_drew)); exact Kd.R_mono HO316.out (fun _ hk => ⟨hk.1.1.1.2, ⟨hk.1.1.2, ⟨hk.1.1.1.1.1.1, ⟨hk.1.2, hk.2⟩⟩⟩⟩)⟩, ⟨by (with_reducible repeat (first | apply Kd.R_alloc | apply Kd.R_drewN | apply Kd.R_drew)); exact Kd.R_mono HO319.out (fun _ hk => ⟨hk.1.1.1.2, ⟨hk.1.1.2, ⟨hk.1.1.1.1.1.1, ⟨hk.1.2, hk.2⟩⟩⟩⟩)⟩, ⟨by (with_reducible repeat (first | apply Kd.R_alloc | apply Kd.R_drewN | apply Kd.R_drew)); exact Kd.R_mono HO323.out (fun _ hk => ⟨hk.1.1.1.2, ⟨hk.1.1.2, ⟨hk.1.2, ⟨hk.2, hk.1.1.1.1.1.1⟩⟩⟩⟩)⟩, ⟨by (with_reducible repeat (first | apply Kd.R_alloc | apply Kd.R_drewN | apply Kd.R_drew)); exact Kd.R_mono HO326.out (fun _ hk => ⟨hk.1.1.1.2, ⟨hk.1.1.2, ⟨hk.1.2, ⟨hk.2, hk.1.1.1.1.1.1⟩⟩⟩⟩)⟩, ⟨tK BK298.out⟩, ⟨tK BK313.out⟩, ⟨tK BK320.out⟩, ⟨tK BK328.out⟩, ⟨tB HB.out⟩⟩
   ·
    replace c43 := Bool.eq_false_iff.mpr c43
    subst c43
    have H1 : (laws_FnExactCutRod.j0 k a1 t312 t327 true l0_0 l0_1 t306 t309 t314 t317 t321 t324) = some r := by rw [if_neg (show ¬ (false = true) by decide)] at H; exact H
    clear H
    have H := H1
    clear H1
    have H' := Aside0.mk H
    clear H
    have hnb52 := NB328_298.out
    have hnc52 := NB298_328.out
    have hnb53 := NB328_313.out
    have hnc53 := NB313_328.out
    have hnb54 := NB328_320.out
    have hnc54 := NB320_328.out
    obtain ⟨hcz55_0, hfz55_0, hcz55_1, hfz55_1⟩ := cz2 BK328
    have hnb56 := NB313_298.out
    have hnc56 := NB298_313.out
    have hnb57 := NB313_320.out
    have hnc57 := NB320_313.out
    obtain ⟨hcz58_0, hfz58_0, hcz58_1, hfz58_1⟩ := cz2 BK313
    go_wp2_with (first | ((with_reducible refine gate_callee (f := 19) rfl ?_); refine goesL_ (some 38) rfl rfl Try.func19 (by kernel_rfl) rfl #[.agg #[.slice Ao36 t321.length co36, .slice Ao41 t324.length co41], .agg #[.slice Ao22 t306.length co22, .slice Ao25 t309.length co25]] rfl tM ?_; (with_reducible refine (laws_eqMobile.calls k _ _ t321 _ _ t324 _ _ t306 _ _ t309 false _ ?side1 ?side2 ?side3 ?side4 ?side5 ?side6 ?side7 ?side8 A42.out).mono ?_); (case side1 => refine (Kd.R_reads' (e := 58) (base := w.heap.size) (ok := fun k_ => ((((((some k_ ≠ (.slice Ao41 t324.length co41 : Value).ownBlock ∧ some k_ ≠ (.slice Ao18 t300.length co18 : Value).ownBlock) ∧ some k_ ≠ (.slice Ao19 t303.length co19 : Value).ownBlock) ∧ some k_ ≠ (.slice Ao22 t306.length co22 : Value).ownBlock) ∧ some k_ ≠ (.slice Ao25 t309.length co25 : Value).ownBlock) ∧ some k_ ≠ (.slice Ao29 t314.length co29 : Value).ownBlock) ∧ some k_ ≠ (.slice Ao33 t317.length co33 : Value).ownBlock)) (n := t321.length) (c := co36) ?_).2.2; exact (by (with_reducible repeat (first | apply Kd.R_alloc | apply Kd.R_drewN | apply Kd.R_drew)); exact (Kd.R_mono (Kd.R_far (p := ⟨gb328, 1, none⟩) (Kd.R_far (p := ⟨gb328, 0, none⟩) (Kd.R_types HO323.out BK328.out (by decide)) (fun _ hk => hk.2) (.slice Ao36 t321.length co36)) (fun _ hk => hk.2) (.slice Ao41 t324.length co41)) (fun _ h_ => h_.1)))); (case side2 => exact (Kd.R_reads' HO323.out).2.1); (case side3 => refine (Kd.R_reads' (e := 58) (base := w.heap.size) (ok := fun k_ => ((((((some k_ ≠ (.slice Ao36 t321.length co36 : Value).ownBlock ∧ some k_ ≠ (.slice Ao18 t300.length co18 : Value).ownBlock) ∧ some k_ ≠ (.slice Ao19 t303.length co19 : Value).ownBlock) ∧ some k_ ≠ (.slice Ao22 t306.length co22 : Value).ownBlock) ∧ some k_ ≠ (.slice Ao25 t309.length co25 : Value).ownBlock) ∧ some k_ ≠ (.slice Ao29 t314.length co29 : Value).ownBlock) ∧ some k_ ≠ (.slice Ao33 t317.length co33 : Value).ownBlock)) (n := t324.length) (c := co41) ?_).2.2; exact (by (with_reducible repeat (first | apply Kd.R_alloc | apply Kd.R_drewN | apply Kd.R_drew)); exact (Kd.R_mono (Kd.R_far (p := ⟨gb328, 1, none⟩) (Kd.R_far (p := ⟨gb328, 0, none⟩) (Kd.R_types HO326.out BK328.out (by decide)) (fun _ hk => hk.2) (.slice Ao36 t321.length co36)) (fun _ hk => hk.2) (.slice Ao41 t324.length co41)) (fun _ h_ => h_.1)))); (case side4 => exact (Kd.R_reads' HO326.out).2.1); (case side5 => refine (Kd.R_reads' (e := 58) (base := w.heap.size) (ok := fun k_ => ((((((some k_ ≠ (.slice Ao25 t309.length co25 : Value).ownBlock ∧ some k_ ≠ (.slice Ao18 t300.length co18 : Value).ownBlock) ∧ some k_ ≠ (.slice Ao19 t303.length co19 : Value).ownBlock) ∧ some k_ ≠ (.slice Ao29 t314.length co29 : Value).ownBlock) ∧ some k_ ≠ (.slice Ao33 t317.length co33 : Value).ownBlock) ∧ some k_ ≠ (.slice Ao36 t321.length co36 : Value).ownBlock) ∧ some k_ ≠ (.slice Ao41 t324.length co41 : Value).ownBlock)) (n := t306.length) (c := co22) ?_).2.2; exact (by (with_reducible repeat (first | apply Kd.R_alloc | apply Kd.R_drewN | apply Kd.R_drew)); exact (Kd.R_mono (Kd.R_far (p := ⟨gb328, 1, none⟩) (Kd.R_far (p := ⟨gb328, 0, none⟩) (Kd.R_types HO308.out BK328.out (by decide)) (fun _ hk => hk.2) (.slice Ao36 t321.length co36)) (fun _ hk => hk.2) (.slice Ao41 t324.length co41)) (fun _ h_ => h_.1)))); (case side6 => exact (Kd.R_reads' HO308.out).2.1); (case side7 => refine (Kd.R_reads' (e := 58) (base := w.heap.size) (ok := fun k_ => ((((((some k_ ≠ (.slice Ao22 t306.length co22 : Value).ownBlock ∧ some k_ ≠ (.slice Ao18 t300.length co18 : Value).ownBlock) ∧ some k_ ≠ (.slice Ao19 t303.length co19 : Value).ownBlock) ∧ some k_ ≠ (.slice Ao29 t314.length co29 : Value).ownBlock) ∧ some k_ ≠ (.slice Ao33 t317.length co33 : Value).ownBlock) ∧ some k_ ≠ (.slice Ao36 t321.length co36 : Value).ownBlock) ∧ some k_ ≠ (.slice Ao41 t324.length co41 : Value).ownBlock)) (n := t309.length) (c := co25) ?_).2.2; exact (by (with_reducible repeat (first | apply Kd.R_alloc | apply Kd.R_drewN | apply Kd.R_drew)); exact (Kd.R_mono (Kd.R_far (p := ⟨gb328, 1, none⟩) (Kd.R_far (p := ⟨gb328, 0, none⟩) (Kd.R_types HO311.out BK328.out (by decide)) (fun _ hk => hk.2) (.slice Ao36 t321.length co36)) (fun _ hk => hk.2) (.slice Ao41 t324.length co41)) (fun _ h_ => h_.1)))); (case side8 => exact (Kd.R_reads' HO311.out).2.1); rintro e w59 ⟨rfl, hb⟩; refine ⟨_, rfl, ?_⟩; replace HO302 := Aside0.mk (Kd.R_below (by (with_reducible repeat (first | apply Kd.R_alloc | apply Kd.R_drewN | apply Kd.R_drew)); exact (Kd.R_mono (Kd.R_far (p := ⟨gb328, 1, none⟩) (Kd.R_far (p := ⟨gb328, 0, none⟩) (Kd.R_types HO302.out BK328.out (by decide)) (fun _ hk => hk.2) (.slice Ao36 t321.length co36)) (fun _ hk => hk.2) (.slice Ao41 t324.length co41)) (fun _ h_ => h_.1))) hb); replace HO305 := Aside0.mk (Kd.R_below (by (with_reducible repeat (first | apply Kd.R_alloc | apply Kd.R_drewN | apply Kd.R_drew)); exact (Kd.R_mono (Kd.R_far (p := ⟨gb328, 1, none⟩) (Kd.R_far (p := ⟨gb328, 0, none⟩) (Kd.R_types HO305.out BK328.out (by decide)) (fun _ hk => hk.2) (.slice Ao36 t321.length co36)) (fun _ hk => hk.2) (.slice Ao41 t324.length co41)) (fun _ h_ => h_.1))) hb); replace HO308 := Aside0.mk (Kd.R_below (by (with_reducible repeat (first | apply Kd.R_alloc | apply Kd.R_drewN | apply Kd.R_drew)); exact (Kd.R_mono (Kd.R_far (p := ⟨gb328, 1, none⟩) (Kd.R_far (p := ⟨gb328, 0, none⟩) (Kd.R_types HO308.out BK328.out (by decide)) (fun _ hk => hk.2) (.slice Ao36 t321.length co36)) (fun _ hk => hk.2) (.slice Ao41 t324.length co41)) (fun _ h_ => h_.1))) hb); replace HO311 := Aside0.mk (Kd.R_below (by (with_reducible repeat (first | apply Kd.R_alloc | apply Kd.R_drewN | apply Kd.R_drew)); exact (Kd.R_mono (Kd.R_far (p := ⟨gb328, 1, none⟩) (Kd.R_far (p := ⟨gb328, 0, none⟩) (Kd.R_types HO311.out BK328.out (by decide)) (fun _ hk => hk.2) (.slice Ao36 t321.length co36)) (fun _ hk => hk.2) (.slice Ao41 t324.length co41)) (fun _ h_ => h_.1))) hb); replace HO316 := Aside0.mk (Kd.R_below (by (with_reducible repeat (first | apply Kd.R_alloc | apply Kd.R_drewN | apply Kd.R_drew)); exact (Kd.R_mono (Kd.R_far (p := ⟨gb328, 1, none⟩) (Kd.R_far (p := ⟨gb328, 0, none⟩) (Kd.R_types HO316.out BK328.out (by decide)) (fun _ hk => hk.2) (.slice Ao36 t321.length co36)) (fun _ hk => hk.2) (.slice Ao41 t324.length co41)) (fun _ h_ => h_.1))) hb); replace HO319 := Aside0.mk (Kd.R_below (by (with_reducible repeat (first | apply Kd.R_alloc | apply Kd.R_drewN | apply Kd.R_drew)); exact (Kd.R_mono (Kd.R_far (p := ⟨gb328, 1, none⟩) (Kd.R_far (p := ⟨gb328, 0, none⟩) (Kd.R_types HO319.out BK328.out (by decide)) (fun _ hk => hk.2) (.slice Ao36 t321.length co36)) (fun _ hk => hk.2) (.slice Ao41 t324.length co41)) (fun _ h_ => h_.1))) hb); replace HO323 := Aside0.mk (Kd.R_below (by (with_reducible repeat (first | apply Kd.R_alloc | apply Kd.R_drewN | apply Kd.R_drew)); exact (Kd.R_mono (Kd.R_far (p := ⟨gb328, 1, none⟩) (Kd.R_far (p := ⟨gb328, 0, none⟩) (Kd.R_types HO323.out BK328.out (by decide)) (fun _ hk => hk.2) (.slice Ao36 t321.length co36)) (fun _ hk => hk.2) (.slice Ao41 t324.length co41)) (fun _ h_ => h_.1))) hb); replace HO326 := Aside0.mk (Kd.R_below (by (with_reducible repeat (first | apply Kd.R_alloc | apply Kd.R_drewN | apply Kd.R_drew)); exact (Kd.R_mono (Kd.R_far (p := ⟨gb328, 1, none⟩) (Kd.R_far (p := ⟨gb328, 0, none⟩) (Kd.R_types HO326.out BK328.out (by decide)) (fun _ hk => hk.2) (.slice Ao36 t321.length co36)) (fun _ hk => hk.2) (.slice Ao41 t324.length co41)) (fun _ h_ => h_.1))) hb); replace BK298 := Aside0.mk (blk_below (g := gb298) (o := .cells #[.slice A0_0 l0_0.length c0_0, .slice A0_1 l0_1.length c0_1] 24 (0, 0)) (by (with_reducible repeat (first | refine blk_drewN ?_ _ | refine blk_drew ?_ | refine blk_alloc ?_ _)); refine blk_far ?_ NB298_328.out _; (with_reducible repeat (first | refine blk_drewN ?_ _ | refine blk_drew ?_ | refine blk_alloc ?_ _)); refine blk_far ?_ NB298_328.out _; (with_reducible repeat (first | refine blk_drewN ?_ _ | refine blk_drew ?_ | refine blk_alloc ?_ _)); exact BK298.out) hb); replace BK313 := Aside0.mk (blk_below (g := gb313) (o := .cells #[.slice Ao22 t306.length co22, .slice Ao25 t309.length co25] 27 (0, 0)) (by (with_reducible repeat (first | refine blk_drewN ?_ _ | refine blk_drew ?_ | refine blk_alloc ?_ _)); refine blk_far ?_ NB313_328.out _; (with_reducible repeat (first | refine blk_drewN ?_ _ | refine blk_drew ?_ | refine blk_alloc ?_ _)); refine blk_far ?_ NB313_328.out _; (with_reducible repeat (first | refine blk_drewN ?_ _ | refine blk_drew ?_ | refine blk_alloc ?_ _)); exact BK313.out) hb); replace BK320 := Aside0.mk (blk_below (g := gb320) (o := .cells #[.slice Ao29 t314.length co29, .slice Ao33 t317.length co33] 27 (0, 0)) (by (with_reducible repeat (first | refine blk_drewN ?_ _ | refine blk_drew ?_ | refine blk_alloc ?_ _)); refine blk_far ?_ NB320_328.out _; (with_reducible repeat (first | refine blk_drewN ?_ _ | refine blk_drew ?_ | refine blk_alloc ?_ _)); refine blk_far ?_ NB320_328.out _; (with_reducible repeat (first | refine blk_drewN ?_ _ | refine blk_drew ?_ | refine blk_alloc ?_ _)); exact BK320.out) hb); replace BK328 := Aside0.mk (blk_below (g := gb328) (o := .cells #[.slice Ao36 t321.length co36, .slice Ao41 t324.length co41] 27 (0, 0)) (by (with_reducible repeat (first | refine blk_drewN ?_ _ | refine blk_drew ?_ | refine blk_alloc ?_ _)); refine blk_put (cs := #[.slice Ao36 t321.length co36, .slice none 0 0]) ?_ 1 _ rfl; (with_reducible repeat (first | refine blk_drewN ?_ _ | refine blk_drew ?_ | refine blk_alloc ?_ _)); refine blk_put (cs := #[.slice none 0 0, .slice none 0 0]) ?_ 0 _ rfl; (with_reducible repeat (first | refine blk_drewN ?_ _ | refine blk_drew ?_ | refine blk_alloc ?_ _)); exact BK328.out) hb); replace HB := Aside0.mk (below_step (tB HB.out) hb); (try clear hb); (try clear hb2); (try clear hk); (try clear hi)))
    go_meet
    case rel => exact ⟨_, (true), (by first | rfl | (simp; done) | (simp [wrap64]; done) | (simp [*]; done)), H', ⟨by first | omega | exact Nat.le_refl _⟩, ⟨by (with_reducible repeat (first | apply Kd.R_alloc | apply Kd.R_drewN | apply Kd.R_drew)); exact Kd.R_mono HO308.out (fun _ hk => ⟨hk.1.1.1.1.1.1, ⟨hk.1.1.1.2, ⟨hk.1.1.2, ⟨hk.1.2, hk.2⟩⟩⟩⟩)⟩, ⟨by (with_reducible repeat (first | apply Kd.R_alloc | apply Kd.R_drewN | apply Kd.R_drew)); exact Kd.R_mono HO311.out (fun _ hk => ⟨hk.1.1.1.1.1.1, ⟨hk.1.1.1.2, ⟨hk.1.1.2, ⟨hk.1.2, hk.2⟩⟩⟩⟩)⟩, ⟨by (with_reducible repeat (first | apply Kd.R_alloc | apply Kd.R_drewN | apply Kd.R_drew)); exact Kd.R_mono HO316.out (fun _ hk => ⟨hk.1.1.1.2, ⟨hk.1.1.2, ⟨hk.1.1.1.1.1.1, ⟨hk.1.2, hk.2⟩⟩⟩⟩)⟩, ⟨by (with_reducible repeat (first | apply Kd.R_alloc | apply Kd.R_drewN | apply Kd.R_drew)); exact Kd.R_mono HO319.out (fun _ hk => ⟨hk.1.1.1.2, ⟨hk.1.1.2, ⟨hk.1.1.1.1.1.1, ⟨hk.1.2, hk.2⟩⟩⟩⟩)⟩, ⟨by (with_reducible repeat (first | apply Kd.R_alloc | apply Kd.R_drewN | apply Kd.R_drew)); exact Kd.R_mono HO323.out (fun _ hk => ⟨hk.1.1.1.2, ⟨hk.1.1.2, ⟨hk.1.2, ⟨hk.2, hk.1.1.1.1.1.1⟩⟩⟩⟩)⟩, ⟨by (with_reducible repeat (first | apply Kd.R_alloc | apply Kd.R_drewN | apply Kd.R_drew)); exact Kd.R_mono HO326.out (fun _ hk => ⟨hk.1.1.1.2, ⟨hk.1.1.2, ⟨hk.1.2, ⟨hk.2, hk.1.1.1.1.1.1⟩⟩⟩⟩)⟩, ⟨tK BK298.out⟩, ⟨tK BK313.out⟩, ⟨tK BK320.out⟩, ⟨tK BK328.out⟩, ⟨tB HB.out⟩⟩
  case rest =>
   clear HC12
   try clear c1
   try clear c2
   try clear p2
   try clear c3
   try clear c4
   try clear c4b0
   try clear c5
   try clear p6
   try clear c13
   try clear c15
   try clear c17
   try clear c19
   try clear c23
   try clear c30
   try clear c31
   try clear c37
   try clear c38
   try clear c39
   try clear c43
   try clear c44
   try clear c45
   try clear c46
   try clear c47
   try clear c48
   try clear c49
   try clear c52
   try clear c53
   try clear c54
   try clear c56
   try clear c57
   try clear hcz14_0
   try clear hcz14_1
   try clear hcz16_0
   try clear hcz16_1
   try clear hcz24_0
   try clear hcz24_1
   try clear hcz26_0
   try clear hcz26_1
   try clear hcz32_0
   try clear hcz32_1
   try clear hcz40_0
   try clear hcz40_1
   try clear hcz47_0
   try clear hcz47_1
   try clear hcz50_0
   try clear hcz50_1
   try clear hcz55_0
   try clear hcz55_1
   try clear hcz58_0
   try clear hcz58_1
   try clear hcz6_0
   try clear hcz6_1
   try clear hfz14_0
   try clear hfz14_1
   try clear hfz16_0
   try clear hfz16_1
   try clear hfz24_0
   try clear hfz24_1
   try clear hfz26_0
   try clear hfz26_1
   try clear hfz32_0
   try clear hfz32_1
   try clear hfz40_0
   try clear hfz40_1
   try clear hfz47_0
   try clear hfz47_1
   try clear hfz50_0
   try clear hfz50_1
   try clear hfz55_0
   try clear hfz55_1
   try clear hfz58_0
   try clear hfz58_1
   try clear hfz6_0
   try clear hfz6_1
   obtain ⟨kq, x44_11, rfl, HA, HJ11, HO_314000, HO_314001, HO_321000, HO_321001, HO_329000, HO_329001, BK298, BK313, BK320, BK328, HB⟩ := hcut
   cases kq with
   | zero => exact absurd HA.out (by simp [laws_FnExactCutRod.j0])
   | succ kj11 =>
    have H := HA.out
    clear HA
    simp only [laws_FnExactCutRod.j0] at H
    by_cases c60 : x44_11 = true
    ·
     subst c60
     have H1 : (some false) = some r := by rw [if_pos rfl] at H; exact H
     clear H
     have H := H1
     clear H1
     obtain rfl := Option.some.inj H
     go_wp2
     go_ret
     exact ⟨by first | rfl | (simp [errW_none, errW_some] <;> rfl) | (simp [*, errW_none, errW_some] <;> rfl), tB HB.out⟩
    ·
     replace c60 := Bool.eq_false_iff.mpr c60
     subst c60
     have H1 : ((laws_toMobile.f kj11 l0_0 l0_1).bind fun bt330 => ((laws_eqMobile.f kj11 t314 t317 bt330.1 bt330.2).bind fun t336 => (if t336 = true then ((laws_markMobile.f kj11 t314 t317 1).bind fun bt337 => (if bt337.1 < 0 then (laws_FnExactCutRod.j1 kj11 a1 t312 true l0_0 l0_1 t306 t309 t321 t324) else ((laws_eqMobile.f kj11 t321 t324 t306 t309).bind fun t340 => (if t340 = true then (laws_FnExactCutRod.j1 kj11 a1 t312 (t327 != t312) l0_0 l0_1 t306 t309 t321 t324) else (laws_FnExactCutRod.j1 kj11 a1 t312 true l0_0 l0_1 t306 t309 t321 t324))))) else (some false)))) = some r := by rw [if_neg (show ¬ (false = true) by decide)] at H; exact H
     clear H
     have H := H1
     clear H1
     replace H := Option.bind_eq_some_iff.mp H
     obtain ⟨⟨t330, t333⟩, A610, H⟩ := H
     replace H : ((laws_eqMobile.f kj11 t314 t317 t330 t333).bind fun t336 => (if t336 = true then ((laws_markMobile.f kj11 t314 t317 1).bind fun bt337 => (if bt337.1 < 0 then (laws_FnExactCutRod.j1 kj11 a1 t312 true l0_0 l0_1 t306 t309 t321 t324) else ((laws_eqMobile.f kj11 t321 t324 t306 t309).bind fun t340 => (if t340 = true then (laws_FnExactCutRod.j1 kj11 a1 t312 (t327 != t312) l0_0 l0_1 t306 t309 t321 t324) else (laws_FnExactCutRod.j1 kj11 a1 t312 true l0_0 l0_1 t306 t309 t321 t324))))) else (some false))) = some r := H
     have A61 := Aside0.mk A610
     clear A610
     replace H := Option.bind_eq_some_iff.mp H
     obtain ⟨t336, A620, H⟩ := H
     replace H : (if t336 = true then ((laws_markMobile.f kj11 t314 t317 1).bind fun bt337 => (if bt337.1 < 0 then (laws_FnExactCutRod.j1 kj11 a1 t312 true l0_0 l0_1 t306 t309 t321 t324) else ((laws_eqMobile.f kj11 t321 t324 t306 t309).bind fun t340 => (if t340 = true then (laws_FnExactCutRod.j1 kj11 a1 t312 (t327 != t312) l0_0 l0_1 t306 t309 t321 t324) else (laws_FnExactCutRod.j1 kj11 a1 t312 true l0_0 l0_1 t306 t309 t321 t324))))) else (some false)) = some r := H
     have A62 := Aside0.mk A620
     clear A620
     by_cases c63 : t336 = true
     ·
      subst c63
      have H1 : ((laws_markMobile.f kj11 t314 t317 1).bind fun bt337 => (if bt337.1 < 0 then (laws_FnExactCutRod.j1 kj11 a1 t312 true l0_0 l0_1 t306 t309 t321 t324) else ((laws_eqMobile.f kj11 t321 t324 t306 t309).bind fun t340 => (if t340 = true then (laws_FnExactCutRod.j1 kj11 a1 t312 (t327 != t312) l0_0 l0_1 t306 t309 t321 t324) else (laws_FnExactCutRod.j1 kj11 a1 t312 true l0_0 l0_1 t306 t309 t321 t324))))) = some r := by rw [if_pos rfl] at H; exact H
      clear H
      have H := H1
      clear H1
      replace H := Option.bind_eq_some_iff.mp H
      obtain ⟨⟨t337, t338, t339⟩, A640, H⟩ := H
      replace H : (if t337 < 0 then (laws_FnExactCutRod.j1 kj11 a1 t312 true l0_0 l0_1 t306 t309 t321 t324) else ((laws_eqMobile.f kj11 t321 t324 t306 t309).bind fun t340 => (if t340 = true then (laws_FnExactCutRod.j1 kj11 a1 t312 (t327 != t312) l0_0 l0_1 t306 t309 t321 t324) else (laws_FnExactCutRod.j1 kj11 a1 t312 true l0_0 l0_1 t306 t309 t321 t324)))) = some r := H
      have A64 := Aside0.mk A640
      clear A640
      have HC65 := Aside0.mk H
      clear H
      try go_wp2
      replace HO_314000 := Aside0.mk (Kd.R_drew HO_314000.out)
      replace HO_314001 := Aside0.mk (Kd.R_drew HO_314001.out)
      replace HO_321000 := Aside0.mk (Kd.R_drew HO_321000.out)
      replace HO_321001 := Aside0.mk (Kd.R_drew HO_321001.out)
      replace HO_329000 := Aside0.mk (Kd.R_drew HO_329000.out)
      replace HO_329001 := Aside0.mk (Kd.R_drew HO_329001.out)
      replace BK298 := Aside0.mk (blk_drew BK298.out)
      replace BK313 := Aside0.mk (blk_drew BK313.out)
      replace BK320 := Aside0.mk (blk_drew BK320.out)
      replace BK328 := Aside0.mk (blk_drew BK328.out)
      replace HB := Aside0.mk (below_drew1 HB.out)
      refine start_ (n := 5) (S := fun w' => w'.cell? ⟨gb320, 0, none⟩ = some (.slice Ao29 t314.length co29) ∧ w'.cell? ⟨gb320, 1, none⟩ = some (.slice Ao33 t317.length co33) ∧ w'.cell? ⟨gb298, 0, none⟩ = some (.slice A0_0 l0_0.length c0_0) ∧ w'.cell? ⟨gb298, 1, none⟩ = some (.slice A0_1 l0_1.length c0_1)) (ds := []) #[false, false, false, false, false] (by kernel_rfl) rfl rfl ⟨(blk_cell BK320.out 0).trans rfl, (blk_cell BK320.out 1).trans rfl, (blk_cell BK298.out 0).trans rfl, (blk_cell BK298.out 1).trans rfl⟩ (fun hHeld => ?_)
      generalize wc.drew = w66 at HO_314000 HO_314001 HO_321000 HO_321001 HO_329000 HO_329001 BK298 BK313 BK320 BK328 HB hHeld ⊢
      refine take_ (i := 0) (N := some 45) (v := ?_) (a' := ?_) #[true, false, false, false, false] rfl rfl (by kernel_rfl) (fun _ _ _ h => h) (Or.inl ⟨by rfl, ?_⟩) hHeld ?_ ?_
      rotate_left
      ·
       rintro w' ⟨s0, s1, s2, s3⟩
       go_simp
       with_reducible rfl
      rotate_left
      ·
       simp only [Act.put, List.setIfInBounds_toArray, List.set_cons_zero, List.set_cons_succ, i64_w, i32_w]
       rfl
      refine take_ (i := 1) (N := some 46) (v := ?_) (a' := ?_) #[true, true, false, false, false] rfl rfl (by kernel_rfl) (fun _ _ _ h => h) (Or.inl ⟨by rfl, ?_⟩) hHeld ?_ ?_
      rotate_left
      ·
       rintro w' ⟨s0, s1, s2, s3⟩
       go_simp
       with_reducible rfl
      rotate_left
      ·
       simp only [Act.put, List.setIfInBounds_toArray, List.set_cons_zero, List.set_cons_succ, i64_w, i32_w]
       rfl
      refine one_ (i := 2) (N := some 47) #[true, true, true, false, false] rfl rfl (by kernel_rfl) (by decide) (fun K hK => ?_)
      refine goes_ Try.func17 (by kernel_rfl) rfl #[.agg #[.slice A0_0 l0_0.length c0_0, .slice A0_1 l0_1.length c0_1]] (by rfl) rfl rfl tM ?_
      with_reducible refine (laws_toMobile.calls kj11 _ _ l0_0 _ _ l0_1 t330 t333 _ ?side1 ?side2 ?side3 ?side4 A61.out).mono ?_
      (case side1 => exact tC (Kd.C_below HR0_0.out HB.out))
      (case side2 => exact HC0_0.out)
      (case side3 => exact tC (Kd.C_below HR0_1.out HB.out))
      (case side4 => exact HC0_1.out)
      rintro e w67 ⟨v331, v334, rfl, ho0, ho1, hb⟩
      refine ⟨_, rfl, ?_⟩
      have HO332 := Aside0.mk (Kd.R_lower (Kd.R_new' (Kd.R_new' (Kd.R_new' (Kd.R_new' (Kd.R_new' (Kd.R_new' ho0 (Kd.R_lt (tR HO_314000.out))) (Kd.R_lt (tR HO_314001.out))) (Kd.R_lt (tR HO_321000.out))) (Kd.R_lt (tR HO_321001.out))) (Kd.R_lt (tR HO_329000.out))) (Kd.R_lt (tR HO_329001.out))) (below_size (tB HB.out)))
      have HO335 := Aside0.mk (Kd.R_lower (Kd.R_new' (Kd.R_new' (Kd.R_new' (Kd.R_new' (Kd.R_new' (Kd.R_new' ho1 (Kd.R_lt (tR HO_314000.out))) (Kd.R_lt (tR HO_314001.out))) (Kd.R_lt (tR HO_321000.out))) (Kd.R_lt (tR HO_321001.out))) (Kd.R_lt (tR HO_329000.out))) (Kd.R_lt (tR HO_329001.out))) (below_size (tB HB.out)))
      replace HO_314000 := Aside0.mk (Kd.R_mono (Kd.R_told (Kd.R_told (Kd.R_old (tR HO_314000.out) hb) (Kd.R_base ho0)) (Kd.R_base ho1)) (fun _ h_ => h_.1))
      replace HO_314001 := Aside0.mk (Kd.R_mono (Kd.R_told (Kd.R_told (Kd.R_old (tR HO_314001.out) hb) (Kd.R_base ho0)) (Kd.R_base ho1)) (fun _ h_ => h_.1))
      replace HO_321000 := Aside0.mk (Kd.R_mono (Kd.R_told (Kd.R_told (Kd.R_old (tR HO_321000.out) hb) (Kd.R_base ho0)) (Kd.R_base ho1)) (fun _ h_ => h_.1))
      replace HO_321001 := Aside0.mk (Kd.R_mono (Kd.R_told (Kd.R_told (Kd.R_old (tR HO_321001.out) hb) (Kd.R_base ho0)) (Kd.R_base ho1)) (fun _ h_ => h_.1))
      replace HO_329000 := Aside0.mk (Kd.R_mono (Kd.R_told (Kd.R_told (Kd.R_old (tR HO_329000.out) hb) (Kd.R_base ho0)) (Kd.R_base ho1)) (fun _ h_ => h_.1))
      replace HO_329001 := Aside0.mk (Kd.R_mono (Kd.R_told (Kd.R_told (Kd.R_old (tR HO_329001.out) hb) (Kd.R_base ho0)) (Kd.R_base ho1)) (fun _ h_ => h_.1))
      replace BK298 := bkB BK298 hb
      replace BK313 := bkB BK313 hb
      replace BK320 := bkB BK320 hb
      replace BK328 := bkB BK328 hb
      replace HB := Aside0.mk (below_step (tB HB.out) hb)
      (try clear hb)
      (try clear hb2)
      (try clear hk)
      (try clear hi)
      (try clear ho0)
      (try clear ho1)
      obtain ⟨Ao68, co68, eo68⟩ := Kd.R_slice HO332.out
      (first | subst eo68 | (injection eo68 with f1_ f2_ f3_; have f4_ := f1_.symm; have f5_ := f3_.symm; clear f1_ f2_ f3_; subst f4_; subst f5_))
      obtain ⟨Ao69, co69, eo69⟩ := Kd.R_slice HO335.out
      (first | subst eo69 | (injection eo69 with f1_ f2_ f3_; have f4_ := f1_.symm; have f5_ := f3_.symm; clear f1_ f2_ f3_; subst f4_; subst f5_))
      refine hK.out _ _ ⟨(blk_cell BK320.out 0).trans rfl, (blk_cell BK320.out 1).trans rfl, (blk_cell BK298.out 0).trans rfl, (blk_cell BK298.out 1).trans rfl⟩ (fun hHeld => ?_)
      clear hK K
      refine norm_ (a' := ?_) ?_ ?_
      rotate_left
      ·
       show Act.put _ (some 47) _ = _
       simp only [Act.put, List.setIfInBounds_toArray, List.set_cons_zero, List.set_cons_succ, i64_w, i32_w]
       rfl
      refine one_ (i := 3) (N := some 48) #[true, true, true, true, false] rfl rfl (by kernel_rfl) (by decide) (fun K hK => ?_)
      refine goes_ Try.func19 (by kernel_rfl) rfl #[.agg #[.slice Ao29 t314.length co29, .slice Ao33 t317.length co33], .agg #[.slice Ao68 t330.length co68, .slice Ao69 t333.length co69]] (by rfl) rfl rfl tM ?_
      with_reducible refine (laws_eqMobile.calls kj11 _ _ t314 _ _ t317 _ _ t330 _ _ t333 true _ ?side1 ?side2 ?side3 ?side4 ?side5 ?side6 ?side7 ?side8 A62.out).mono ?_
      (case side1 => exact tC (Kd.R_reads' HO_321000.out).2.2)
      (case side2 => exact (Kd.R_reads' HO_321000.out).2.1)
      (case side3 => exact tC (Kd.R_reads' HO_321001.out).2.2)
      (case side4 => exact (Kd.R_reads' HO_321001.out).2.1)
      (case side5 => exact tC (Kd.R_reads' HO332.out).2.2)
      (case side6 => exact (Kd.R_reads' HO332.out).2.1)
      (case side7 => exact tC (Kd.R_reads' HO335.out).2.2)
      (case side8 => exact (Kd.R_reads' HO335.out).2.1)
      rintro e w70 ⟨rfl, hb⟩
      refine ⟨_, rfl, ?_⟩
      replace HO_314000 := Aside0.mk (Kd.R_below (tR HO_314000.out) hb)
      replace HO_314001 := Aside0.mk (Kd.R_below (tR HO_314001.out) hb)
      replace HO_321000 := Aside0.mk (Kd.R_below (tR HO_321000.out) hb)
      replace HO_321001 := Aside0.mk (Kd.R_below (tR HO_321001.out) hb)
      replace HO_329000 := Aside0.mk (Kd.R_below (tR HO_329000.out) hb)
      replace HO_329001 := Aside0.mk (Kd.R_below (tR HO_329001.out) hb)
      replace HO332 := Aside0.mk (Kd.R_below (tR HO332.out) hb)
      replace HO335 := Aside0.mk (Kd.R_below (tR HO335.out) hb)
      replace BK298 := bkB BK298 hb
      replace BK313 := bkB BK313 hb
      replace BK320 := bkB BK320 hb
      replace BK328 := bkB BK328 hb
      replace HB := Aside0.mk (below_step (tB HB.out) hb)
      (try clear hb)
      (try clear hb2)
      (try clear hk)
      (try clear hi)
      refine hK.out _ _ ⟨(blk_cell BK320.out 0).trans rfl, (blk_cell BK320.out 1).trans rfl, (blk_cell BK298.out 0).trans rfl, (blk_cell BK298.out 1).trans rfl⟩ (fun hHeld => ?_)
      clear hK K
      refine norm_ (a' := ?_) ?_ ?_
      rotate_left
      ·
       show Act.put _ (some 48) _ = _
       simp only [Act.put, List.setIfInBounds_toArray, List.set_cons_zero, List.set_cons_succ, i64_w, i32_w]
       rfl
      refine pure_ (i := 4) (N := some 49) (v := ?_) (a' := ?_) #[true, true, true, true, true] rfl rfl (by kernel_rfl) (fun _ _ _ h => h) (Or.inl ⟨by rfl, ?_⟩) ?_ ?_
      rotate_left
      ·
       intro w'
       go_simp
       with_reducible rfl
      rotate_left
      ·
       simp only [Act.put, List.setIfInBounds_toArray, List.set_cons_zero, List.set_cons_succ, i64_w, i32_w]
       rfl
      refine done_ (by kernel_rfl) ?_
      have hnb71 := NB320_298.out
      have hnc71 := NB298_320.out
      have hnb72 := NB320_313.out
      have hnc72 := NB313_320.out
      have hnb73 := NB320_328.out
      have hnc73 := NB328_320.out
      obtain ⟨hcz74_0, hfz74_0, hcz74_1, hfz74_1⟩ := cz2 BK320
      go_upto_region 14 with (first | ((with_reducible refine gate_callee (f := 24) rfl ?_); refine goesL_ (some 52) rfl rfl Try.func24 (by kernel_rfl) rfl #[.agg #[.slice Ao29 t314.length co29, .slice Ao33 t317.length co33], .int .i64 1] rfl tM ?_; (with_reducible refine (laws_markMobile.calls kj11 (fun k_ => some k_ = (.slice Ao29 t314.length co29 : Value).ownBlock) (.slice Ao29 t314.length co29) t314 (fun k_ => some k_ = (.slice Ao33 t317.length co33 : Value).ownBlock) (.slice Ao33 t317.length co33) t317 1 t337 t338 t339 w _ ?side1 ?side2 ?side3 ?side4 ?side5 A64.out).mono ?_); (case side1 => repeat (first | (with_reducible first | exact HB.out | apply below_alloc | apply pw_below_drewN | apply below_drew1 | refine below_set ?_ GE298.out | refine below_set ?_ GE313.out | refine below_set ?_ GE320.out | refine below_set ?_ GE328.out) | exact HB.out)); (case side2 => exact Kd.R_tight rfl HO_321000.out); (case side3 => exact fun k_ e_ => (HO_321000.out.1 k_ e_.symm).1.1.2.2.1); (case side4 => exact Kd.R_tight rfl HO_321001.out); (case side5 => exact fun k_ e_ => (HO_321001.out.1 k_ e_.symm).1.1.2.2.1); rintro e w75 ⟨rfl, hy0, hy1, hb, hkp⟩; refine ⟨_, rfl, ?_⟩; replace HO_314000 := Aside0.mk (Kd.R_mono (ok' := fun k_ => some k_ ≠ (.slice Ao25 t309.length co25 : Value).ownBlock ∧ some k_ ≠ (.slice Ao29 t314.length co29 : Value).ownBlock ∧ some k_ ≠ (.slice Ao33 t317.length co33 : Value).ownBlock ∧ some k_ ≠ (.slice Ao36 t321.length co36 : Value).ownBlock ∧ some k_ ≠ (.slice Ao41 t324.length co41 : Value).ownBlock ∧ some k_ ≠ (.slice Ao68 t330.length co68 : Value).ownBlock ∧ some k_ ≠ (.slice Ao69 t333.length co69 : Value).ownBlock) (Kd.R_keptB (HO_314000.out) hkp (fun k_ hk_ hs_ => Or.elim hs_ (fun e_ => (hk_.1.1.2.1) e_) (fun e_ => (hk_.1.1.2.2.1) e_))) (fun k_ hk_ => ⟨hk_.1.1.1.1, hk_.1.1.1.2.1, hk_.1.1.1.2.2.1, hk_.1.1.1.2.2.2.1, hk_.1.1.1.2.2.2.2, hk_.1.1.2, hk_.1.2⟩)); replace HO_314001 := Aside0.mk (Kd.R_mono (ok' := fun k_ => some k_ ≠ (.slice Ao22 t306.length co22 : Value).ownBlock ∧ some k_ ≠ (.slice Ao29 t314.length co29 : Value).ownBlock ∧ some k_ ≠ (.slice Ao33 t317.length co33 : Value).ownBlock ∧ some k_ ≠ (.slice Ao36 t321.length co36 : Value).ownBlock ∧ some k_ ≠ (.slice Ao41 t324.length co41 : Value).ownBlock ∧ some k_ ≠ (.slice Ao68 t330.length co68 : Value).ownBlock ∧ some k_ ≠ (.slice Ao69 t333.length co69 : Value).ownBlock) (Kd.R_keptB (HO_314001.out) hkp (fun k_ hk_ hs_ => Or.elim hs_ (fun e_ => (hk_.1.1.2.1) e_) (fun e_ => (hk_.1.1.2.2.1) e_))) (fun k_ hk_ => ⟨hk_.1.1.1.1, hk_.1.1.1.2.1, hk_.1.1.1.2.2.1, hk_.1.1.1.2.2.2.1, hk_.1.1.1.2.2.2.2, hk_.1.1.2, hk_.1.2⟩)); replace HO_329000 := Aside0.mk (Kd.R_mono (ok' := fun k_ => some k_ ≠ (.slice Ao22 t306.length co22 : Value).ownBlock ∧ some k_ ≠ (.slice Ao25 t309.length co25 : Value).ownBlock ∧ some k_ ≠ (.slice Ao29 t314.length co29 : Value).ownBlock ∧ some k_ ≠ (.slice Ao33 t317.length co33 : Value).ownBlock ∧ some k_ ≠ (.slice Ao41 t324.length co41 : Value).ownBlock ∧ some k_ ≠ (.slice Ao68 t330.length co68 : Value).ownBlock ∧ some k_ ≠ (.slice Ao69 t333.length co69 : Value).ownBlock) (Kd.R_keptB (HO_329000.out) hkp (fun k_ hk_ hs_ => Or.elim hs_ (fun e_ => (hk_.1.1.2.2.1) e_) (fun e_ => (hk_.1.1.2.2.2.1) e_))) (fun k_ hk_ => ⟨hk_.1.1.1.1, hk_.1.1.1.2.1, hk_.1.1.1.2.2.1, hk_.1.1.1.2.2.2.1, hk_.1.1.1.2.2.2.2, hk_.1.1.2, hk_.1.2⟩)); replace HO_329001 := Aside0.mk (Kd.R_mono (ok' := fun k_ => some k_ ≠ (.slice Ao22 t306.length co22 : Value).ownBlock ∧ some k_ ≠ (.slice Ao25 t309.length co25 : Value).ownBlock ∧ some k_ ≠ (.slice Ao29 t314.length co29 : Value).ownBlock ∧ some k_ ≠ (.slice Ao33 t317.length co33 : Value).ownBlock ∧ some k_ ≠ (.slice Ao36 t321.length co36 : Value).ownBlock ∧ some k_ ≠ (.slice Ao68 t330.length co68 : Value).ownBlock ∧ some k_ ≠ (.slice Ao69 t333.length co69 : Value).ownBlock) (Kd.R_keptB (HO_329001.out) hkp (fun k_ hk_ hs_ => Or.elim hs_ (fun e_ => (hk_.1.1.2.2.1) e_) (fun e_ => (hk_.1.1.2.2.2.1) e_))) (fun k_ hk_ => ⟨hk_.1.1.1.1, hk_.1.1.1.2.1, hk_.1.1.1.2.2.1, hk_.1.1.1.2.2.2.1, hk_.1.1.1.2.2.2.2, hk_.1.1.2, hk_.1.2⟩)); replace BK298 := Aside0.mk (blk_kept (tK BK298.out) hkp (fun hs_ => Or.elim hs_ (fun e_ => (fun e_ => (Kd.R_ne HO_321000.out BK298.out (by decide)) e_) e_) (fun e_ => (fun e_ => (Kd.R_ne HO_321001.out BK298.out (by decide)) e_) e_))); replace BK313 := Aside0.mk (blk_kept (tK BK313.out) hkp (fun hs_ => Or.elim hs_ (fun e_ => (fun e_ => (Kd.R_ne HO_321000.out BK313.out (by decide)) e_) e_) (fun e_ => (fun e_ => (Kd.R_ne HO_321001.out BK313.out (by decide)) e_) e_))); replace BK320 := Aside0.mk (blk_kept (tK BK320.out) hkp (fun hs_ => Or.elim hs_ (fun e_ => (fun e_ => (Kd.R_ne HO_321000.out BK320.out (by decide)) e_) e_) (fun e_ => (fun e_ => (Kd.R_ne HO_321001.out BK320.out (by decide)) e_) e_))); replace BK328 := Aside0.mk (blk_kept (tK BK328.out) hkp (fun hs_ => Or.elim hs_ (fun e_ => (fun e_ => (Kd.R_ne HO_321000.out BK328.out (by decide)) e_) e_) (fun e_ => (fun e_ => (Kd.R_ne HO_321001.out BK328.out (by decide)) e_) e_))); replace HO_321000 := Aside0.mk (Kd.R_reok rfl hy0 (fun k_ e_ => HO_321000.out.1 k_ e_)); replace HO_321001 := Aside0.mk (Kd.R_reok rfl hy1 (fun k_ e_ => HO_321001.out.1 k_ e_)); replace HO332 := Aside0.mk (Kd.R_mono (ok' := fun k_ => some k_ ≠ (.slice Ao22 t306.length co22 : Value).ownBlock ∧ some k_ ≠ (.slice Ao25 t309.length co25 : Value).ownBlock ∧ some k_ ≠ (.slice Ao29 t314.length co29 : Value).ownBlock ∧ some k_ ≠ (.slice Ao33 t317.length co33 : Value).ownBlock ∧ some k_ ≠ (.slice Ao36 t321.length co36 : Value).ownBlock ∧ some k_ ≠ (.slice Ao41 t324.length co41 : Value).ownBlock ∧ some k_ ≠ (.slice Ao69 t333.length co69 : Value).ownBlock) (Kd.R_keptB (HO332.out) hkp (fun k_ hk_ hs_ => Or.elim hs_ (fun e_ => (hk_.1.1.1.2) e_) (fun e_ => (hk_.1.1.2) e_))) (fun k_ hk_ => ⟨hk_.1.1.1.1.1.1.2, hk_.1.1.1.1.1.2, hk_.1.1.1.1.2, hk_.1.1.1.2, hk_.1.1.2, hk_.1.2, hk_.1.1.1.1.1.1.1⟩)); replace HO335 := Aside0.mk (Kd.R_mono (ok' := fun k_ => some k_ ≠ (.slice Ao22 t306.length co22 : Value).ownBlock ∧ some k_ ≠ (.slice Ao25 t309.length co25 : Value).ownBlock ∧ some k_ ≠ (.slice Ao29 t314.length co29 : Value).ownBlock ∧ some k_ ≠ (.slice Ao33 t317.length co33 : Value).ownBlock ∧ some k_ ≠ (.slice Ao36 t321.length co36 : Value).ownBlock ∧ some k_ ≠ (.slice Ao41 t324.length co41 : Value).ownBlock ∧ some k_ ≠ (.slice Ao68 t330.length co68 : Value).ownBlock) (Kd.R_keptB (HO335.out) hkp (fun k_ hk_ hs_ => Or.elim hs_ (fun e_ => (hk_.1.1.1.2) e_) (fun e_ => (hk_.1.1.2) e_))) (fun k_ hk_ => ⟨hk_.1.1.1.1.1.1.2, hk_.1.1.1.1.1.2, hk_.1.1.1.1.2, hk_.1.1.1.2, hk_.1.1.2, hk_.1.2, hk_.1.1.1.1.1.1.1⟩)); replace HB := Aside0.mk (hb); (try clear hb); (try clear hkp); (try clear hy0); (try clear hy1)))
      (try simp only [Act.put, List.setIfInBounds_toArray, List.set_cons_zero, List.set_cons_succ])
      go_cut [65] (fun v65 wc => ∃ (kq : Nat) (x65_64 : Bool), v65 = .bool x65_64 ∧ Aside0 (laws_FnExactCutRod.j1 kq a1 t312 x65_64 l0_0 l0_1 t306 t309 t321 t324 = some r) ∧ Aside0 (kq ≤ kj11) ∧ Aside0 (Kd.R k58 58 wc w.heap.size (fun k_ => some k_ ≠ ((.slice Ao25 t309.length co25) : Value).ownBlock ∧ some k_ ≠ ((.slice Ao29 t314.length co29) : Value).ownBlock ∧ some k_ ≠ ((.slice Ao33 t317.length co33) : Value).ownBlock ∧ some k_ ≠ ((.slice Ao36 t321.length co36) : Value).ownBlock ∧ some k_ ≠ ((.slice Ao41 t324.length co41) : Value).ownBlock) (.slice Ao22 t306.length co22) t306) ∧ Aside0 (Kd.R k58 58 wc w.heap.size (fun k_ => some k_ ≠ ((.slice Ao22 t306.length co22) : Value).ownBlock ∧ some k_ ≠ ((.slice Ao29 t314.length co29) : Value).ownBlock ∧ some k_ ≠ ((.slice Ao33 t317.length co33) : Value).ownBlock ∧ some k_ ≠ ((.slice Ao36 t321.length co36) : Value).ownBlock ∧ some k_ ≠ ((.slice Ao41 t324.length co41) : Value).ownBlock) (.slice Ao25 t309.length co25) t309) ∧ Aside0 (Kd.R k58 58 wc w.heap.size (fun k_ => some k_ ≠ ((.slice Ao22 t306.length co22) : Value).ownBlock ∧ some k_ ≠ ((.slice Ao25 t309.length co25) : Value).ownBlock ∧ some k_ ≠ ((.slice Ao33 t317.length co33) : Value).ownBlock ∧ some k_ ≠ ((.slice Ao36 t321.length co36) : Value).ownBlock ∧ some k_ ≠ ((.slice Ao41 t324.length co41) : Value).ownBlock) (.slice Ao29 t314.length co29) t338) ∧ Aside0 (Kd.R k58 58 wc w.heap.size (fun k_ => some k_ ≠ ((.slice Ao22 t306.length co22) : Value).ownBlock ∧ some k_ ≠ ((.slice Ao25 t309.length co25) : Value).ownBlock ∧ some k_ ≠ ((.slice Ao29 t314.length co29) : Value).ownBlock ∧ some k_ ≠ ((.slice Ao36 t321.length co36) : Value).ownBlock ∧ some k_ ≠ ((.slice Ao41 t324.length co41) : Value).ownBlock) (.slice Ao33 t317.length co33) t339) ∧ Aside0 (Kd.R k58 58 wc w.heap.size (fun k_ => some k_ ≠ ((.slice Ao22 t306.length co22) : Value).ownBlock ∧ some k_ ≠ ((.slice Ao25 t309.length co25) : Value).ownBlock ∧ some k_ ≠ ((.slice Ao29 t314.length co29) : Value).ownBlock ∧ some k_ ≠ ((.slice Ao33 t317.length co33) : Value).ownBlock ∧ some k_ ≠ ((.slice Ao41 t324.length co41) : Value).ownBlock) (.slice Ao36 t321.length co36) t321) ∧ Aside0 (Kd.R k58 58 wc w.heap.size (fun k_ => some k_ ≠ ((.slice Ao22 t306.length co22) : Value).ownBlock ∧ some k_ ≠ ((.slice Ao25 t309.length co25) : Value).ownBlock ∧ some k_ ≠ ((.slice Ao29 t314.length co29) : Value).ownBlock ∧ some k_ ≠ ((.slice Ao33 t317.length co33) : Value).ownBlock ∧ some k_ ≠ ((.slice Ao36 t321.length co36) : Value).ownBlock) (.slice Ao41 t324.length co41) t324) ∧ Aside0 (wc.heap[gb298]? = some (.cells #[(.slice A0_0 l0_0.length c0_0), (.slice A0_1 l0_1.length c0_1)] 24 (0, 0))) ∧ Aside0 (wc.heap[gb313]? = some (.cells #[(.slice Ao22 t306.length co22), (.slice Ao25 t309.length co25)] 27 (0, 0))) ∧ Aside0 (wc.heap[gb320]? = some (.cells #[(.slice Ao29 t314.length co29), (.slice Ao33 t317.length co33)] 27 (0, 0))) ∧ Aside0 (wc.heap[gb328]? = some (.cells #[(.slice Ao36 t321.length co36), (.slice Ao41 t324.length co41)] 27 (0, 0))) ∧ Aside0 (Below w.heap.size w wc))
      case first =>
       have H := HC65.out
       clear HC65
       by_cases c76 : t337 < 0
       ·
        rw [if_pos c76] at H
        have c76b0 : decide (t337 < 0) = true := decide_eq_true c76
        clear c76
        (first | rw [c76b0] | (simp only [i64_w, i32_w]; rw [c76b0]) | skip)
        have H' := Aside0.mk H
        clear H
        go_wp2
        go_meet
        case rel => exact ⟨_, (true), (by first | rfl | (simp; done) | (simp [wrap64]; done) | (simp [*]; done)), H', ⟨by have := HJ11.out; first | omega | exact Nat.le_refl _⟩, ⟨by (with_reducible repeat (first | apply Kd.R_alloc | apply Kd.R_drewN | apply Kd.R_drew)); exact Kd.R_mono HO_314000.out (fun _ hk => ⟨hk.1, ⟨hk.2.1, ⟨hk.2.2.1, ⟨hk.2.2.2.1, hk.2.2.2.2.1⟩⟩⟩⟩)⟩, ⟨by (with_reducible repeat (first | apply Kd.R_alloc | apply Kd.R_drewN | apply Kd.R_drew)); exact Kd.R_mono HO_314001.out (fun _ hk => ⟨hk.1, ⟨hk.2.1, ⟨hk.2.2.1, ⟨hk.2.2.2.1, hk.2.2.2.2.1⟩⟩⟩⟩)⟩, ⟨by (with_reducible repeat (first | apply Kd.R_alloc | apply Kd.R_drewN | apply Kd.R_drew)); exact Kd.R_mono HO_321000.out (fun _ hk => ⟨hk.1.1.1, ⟨hk.1.1.2.1, ⟨hk.1.1.2.2.1, ⟨hk.1.1.2.2.2.1, hk.1.1.2.2.2.2⟩⟩⟩⟩)⟩, ⟨by (with_reducible repeat (first | apply Kd.R_alloc | apply Kd.R_drewN | apply Kd.R_drew)); exact Kd.R_mono HO_321001.out (fun _ hk => ⟨hk.1.1.1, ⟨hk.1.1.2.1, ⟨hk.1.1.2.2.1, ⟨hk.1.1.2.2.2.1, hk.1.1.2.2.2.2⟩⟩⟩⟩)⟩, ⟨by (with_reducible repeat (first | apply Kd.R_alloc | apply Kd.R_drewN | apply Kd.R_drew)); exact Kd.R_mono HO_329000.out (fun _ hk => ⟨hk.1, ⟨hk.2.1, ⟨hk.2.2.1, ⟨hk.2.2.2.1, hk.2.2.2.2.1⟩⟩⟩⟩)⟩, ⟨by (with_reducible repeat (first | apply Kd.R_alloc | apply Kd.R_drewN | apply Kd.R_drew)); exact Kd.R_mono HO_329001.out (fun _ hk => ⟨hk.1, ⟨hk.2.1, ⟨hk.2.2.1, ⟨hk.2.2.2.1, hk.2.2.2.2.1⟩⟩⟩⟩)⟩, ⟨tK BK298.out⟩, ⟨tK BK313.out⟩, ⟨tK BK320.out⟩, ⟨tK BK328.out⟩, ⟨tB HB.out⟩⟩
       ·
        rw [if_neg c76] at H
        have c76b0 : decide (t337 < 0) = false := decide_eq_false c76
        clear c76
        (first | rw [c76b0] | (simp only [i64_w, i32_w]; rw [c76b0]) | skip)
        replace H := Option.bind_eq_some_iff.mp H
        obtain ⟨t340, A770, H⟩ := H
        replace H : (if t340 = true then (laws_FnExactCutRod.j1 kj11 a1 t312 (t327 != t312) l0_0 l0_1 t306 t309 t321 t324) else (laws_FnExactCutRod.j1 kj11 a1 t312 true l0_0 l0_1 t306 t309 t321 t324)) = some r := H
        have A77 := Aside0.mk A770
        clear A770
        by_cases c78 : t340 = true
        ·
         subst c78
         have H1 : (laws_FnExactCutRod.j1 kj11 a1 t312 (t327 != t312) l0_0 l0_1 t306 t309 t321 t324) = some r := by rw [if_pos rfl] at H; exact H
         clear H
         have H := H1
         clear H1
         have H' := Aside0.mk H
         clear H
         have hnb79 := NB328_298.out
         have hnc79 := NB298_328.out
         have hnb80 := NB328_313.out
         have hnc80 := NB313_328.out
         have hnb81 := NB328_320.out
         have hnc81 := NB320_328.out
         obtain ⟨hcz82_0, hfz82_0, hcz82_1, hfz82_1⟩ := cz2 BK328
         have hnb83 := NB313_298.out
         have hnc83 := NB298_313.out
         have hnb84 := NB313_320.out
         have hnc84 := NB320_313.out
         obtain ⟨hcz85_0, hfz85_0, hcz85_1, hfz85_1⟩ := cz2 BK313
         go_wp2_with (first | (go_at_call 19; (with_reducible refine (laws_eqMobile.calls kj11 _ _ t321 _ _ t324 _ _ t306 _ _ t309 true _ ?side1 ?side2 ?side3 ?side4 ?side5 ?side6 ?side7 ?side8 A77.out).mono ?_); (case side1 => exact tC (Kd.R_reads' HO_329000.out).2.2); (case side2 => exact (Kd.R_reads' HO_329000.out).2.1); (case side3 => exact tC (Kd.R_reads' HO_329001.out).2.2); (case side4 => exact (Kd.R_reads' HO_329001.out).2.1); (case side5 => exact tC (Kd.R_reads' HO_314000.out).2.2); (case side6 => exact (Kd.R_reads' HO_314000.out).2.1); (case side7 => exact tC (Kd.R_reads' HO_314001.out).2.2); (case side8 => exact (Kd.R_reads' HO_314001.out).2.1); rintro e w86 ⟨rfl, hb⟩; replace HO_314000 := Aside0.mk (Kd.R_below (tR HO_314000.out) hb); replace HO_314001 := Aside0.mk (Kd.R_below (tR HO_314001.out) hb); replace HO_321000 := Aside0.mk (Kd.R_below (tR HO_321000.out) hb); replace HO_321001 := Aside0.mk (Kd.R_below (tR HO_321001.out) hb); replace HO_329000 := Aside0.mk (Kd.R_below (tR HO_329000.out) hb); replace HO_329001 := Aside0.mk (Kd.R_below (tR HO_329001.out) hb); replace HO332 := Aside0.mk (Kd.R_below (tR HO332.out) hb); replace HO335 := Aside0.mk (Kd.R_below (tR HO335.out) hb); replace BK298 := bkB BK298 hb; replace BK313 := bkB BK313 hb; replace BK320 := bkB BK320 hb; replace BK328 := bkB BK328 hb; replace HB := Aside0.mk (below_step (tB HB.out) hb); (try clear hb); (try clear hb2); (try clear hk); (try clear hi)))
         go_meet
         case rel => exact ⟨_, ((t327 != t312)), (by first | rfl | (simp; done) | (simp [wrap64]; done) | (simp [*]; done)), H', ⟨by have := HJ11.out; first | omega | exact Nat.le_refl _⟩, ⟨by (with_reducible repeat (first | apply Kd.R_alloc | apply Kd.R_drewN | apply Kd.R_drew)); exact Kd.R_mono HO_314000.out (fun _ hk => ⟨hk.1, ⟨hk.2.1, ⟨hk.2.2.1, ⟨hk.2.2.2.1, hk.2.2.2.2.1⟩⟩⟩⟩)⟩, ⟨by (with_reducible repeat (first | apply Kd.R_alloc | apply Kd.R_drewN | apply Kd.R_drew)); exact Kd.R_mono HO_314001.out (fun _ hk => ⟨hk.1, ⟨hk.2.1, ⟨hk.2.2.1, ⟨hk.2.2.2.1, hk.2.2.2.2.1⟩⟩⟩⟩)⟩, ⟨by (with_reducible repeat (first | apply Kd.R_alloc | apply Kd.R_drewN | apply Kd.R_drew)); exact Kd.R_mono HO_321000.out (fun _ hk => ⟨hk.1.1.1, ⟨hk.1.1.2.1, ⟨hk.1.1.2.2.1, ⟨hk.1.1.2.2.2.1, hk.1.1.2.2.2.2⟩⟩⟩⟩)⟩, ⟨by (with_reducible repeat (first | apply Kd.R_alloc | apply Kd.R_drewN | apply Kd.R_drew)); exact Kd.R_mono HO_321001.out (fun _ hk => ⟨hk.1.1.1, ⟨hk.1.1.2.1, ⟨hk.1.1.2.2.1, ⟨hk.1.1.2.2.2.1, hk.1.1.2.2.2.2⟩⟩⟩⟩)⟩, ⟨by (with_reducible repeat (first | apply Kd.R_alloc | apply Kd.R_drewN | apply Kd.R_drew)); exact Kd.R_mono HO_329000.out (fun _ hk => ⟨hk.1, ⟨hk.2.1, ⟨hk.2.2.1, ⟨hk.2.2.2.1, hk.2.2.2.2.1⟩⟩⟩⟩)⟩, ⟨by (with_reducible repeat (first | apply Kd.R_alloc | apply Kd.R_drewN | apply Kd.R_drew)); exact Kd.R_mono HO_329001.out (fun _ hk => ⟨hk.1, ⟨hk.2.1, ⟨hk.2.2.1, ⟨hk.2.2.2.1, hk.2.2.2.2.1⟩⟩⟩⟩)⟩, ⟨tK BK298.out⟩, ⟨tK BK313.out⟩, ⟨tK BK320.out⟩, ⟨tK BK328.out⟩, ⟨tB HB.out⟩⟩
        ·
         replace c78 := Bool.eq_false_iff.mpr c78
         subst c78
         have H1 : (laws_FnExactCutRod.j1 kj11 a1 t312 true l0_0 l0_1 t306 t309 t321 t324) = some r := by rw [if_neg (show ¬ (false = true) by decide)] at H; exact H
         clear H
         have H := H1
         clear H1
         have H' := Aside0.mk H
         clear H
         have hnb87 := NB328_298.out
         have hnc87 := NB298_328.out
         have hnb88 := NB328_313.out
         have hnc88 := NB313_328.out
         have hnb89 := NB328_320.out
         have hnc89 := NB320_328.out
         obtain ⟨hcz90_0, hfz90_0, hcz90_1, hfz90_1⟩ := cz2 BK328
         have hnb91 := NB313_298.out
         have hnc91 := NB298_313.out
         have hnb92 := NB313_320.out
         have hnc92 := NB320_313.out
         obtain ⟨hcz93_0, hfz93_0, hcz93_1, hfz93_1⟩ := cz2 BK313
         go_wp2_with (first | (go_at_call 19; (with_reducible refine (laws_eqMobile.calls kj11 _ _ t321 _ _ t324 _ _ t306 _ _ t309 false _ ?side1 ?side2 ?side3 ?side4 ?side5 ?side6 ?side7 ?side8 A77.out).mono ?_); (case side1 => exact tC (Kd.R_reads' HO_329000.out).2.2); (case side2 => exact (Kd.R_reads' HO_329000.out).2.1); (case side3 => exact tC (Kd.R_reads' HO_329001.out).2.2); (case side4 => exact (Kd.R_reads' HO_329001.out).2.1); (case side5 => exact tC (Kd.R_reads' HO_314000.out).2.2); (case side6 => exact (Kd.R_reads' HO_314000.out).2.1); (case side7 => exact tC (Kd.R_reads' HO_314001.out).2.2); (case side8 => exact (Kd.R_reads' HO_314001.out).2.1); rintro e w94 ⟨rfl, hb⟩; replace HO_314000 := Aside0.mk (Kd.R_below (tR HO_314000.out) hb); replace HO_314001 := Aside0.mk (Kd.R_below (tR HO_314001.out) hb); replace HO_321000 := Aside0.mk (Kd.R_below (tR HO_321000.out) hb); replace HO_321001 := Aside0.mk (Kd.R_below (tR HO_321001.out) hb); replace HO_329000 := Aside0.mk (Kd.R_below (tR HO_329000.out) hb); replace HO_329001 := Aside0.mk (Kd.R_below (tR HO_329001.out) hb); replace HO332 := Aside0.mk (Kd.R_below (tR HO332.out) hb); replace HO335 := Aside0.mk (Kd.R_below (tR HO335.out) hb); replace BK298 := bkB BK298 hb; replace BK313 := bkB BK313 hb; replace BK320 := bkB BK320 hb; replace BK328 := bkB BK328 hb; replace HB := Aside0.mk (below_step (tB HB.out) hb); (try clear hb); (try clear hb2); (try clear hk); (try clear hi)))
         go_meet
         case rel => exact ⟨_, (true), (by first | rfl | (simp; done) | (simp [wrap64]; done) | (simp [*]; done)), H', ⟨by have := HJ11.out; first | omega | exact Nat.le_refl _⟩, ⟨by (with_reducible repeat (first | apply Kd.R_alloc | apply Kd.R_drewN | apply Kd.R_drew)); exact Kd.R_mono HO_314000.out (fun _ hk => ⟨hk.1, ⟨hk.2.1, ⟨hk.2.2.1, ⟨hk.2.2.2.1, hk.2.2.2.2.1⟩⟩⟩⟩)⟩, ⟨by (with_reducible repeat (first | apply Kd.R_alloc | apply Kd.R_drewN | apply Kd.R_drew)); exact Kd.R_mono HO_314001.out (fun _ hk => ⟨hk.1, ⟨hk.2.1, ⟨hk.2.2.1, ⟨hk.2.2.2.1, hk.2.2.2.2.1⟩⟩⟩⟩)⟩, ⟨by (with_reducible repeat (first | apply Kd.R_alloc | apply Kd.R_drewN | apply Kd.R_drew)); exact Kd.R_mono HO_321000.out (fun _ hk => ⟨hk.1.1.1, ⟨hk.1.1.2.1, ⟨hk.1.1.2.2.1, ⟨hk.1.1.2.2.2.1, hk.1.1.2.2.2.2⟩⟩⟩⟩)⟩, ⟨by (with_reducible repeat (first | apply Kd.R_alloc | apply Kd.R_drewN | apply Kd.R_drew)); exact Kd.R_mono HO_321001.out (fun _ hk => ⟨hk.1.1.1, ⟨hk.1.1.2.1, ⟨hk.1.1.2.2.1, ⟨hk.1.1.2.2.2.1, hk.1.1.2.2.2.2⟩⟩⟩⟩)⟩, ⟨by (with_reducible repeat (first | apply Kd.R_alloc | apply Kd.R_drewN | apply Kd.R_drew)); exact Kd.R_mono HO_329000.out (fun _ hk => ⟨hk.1, ⟨hk.2.1, ⟨hk.2.2.1, ⟨hk.2.2.2.1, hk.2.2.2.2.1⟩⟩⟩⟩)⟩, ⟨by (with_reducible repeat (first | apply Kd.R_alloc | apply Kd.R_drewN | apply Kd.R_drew)); exact Kd.R_mono HO_329001.out (fun _ hk => ⟨hk.1, ⟨hk.2.1, ⟨hk.2.2.1, ⟨hk.2.2.2.1, hk.2.2.2.2.1⟩⟩⟩⟩)⟩, ⟨tK BK298.out⟩, ⟨tK BK313.out⟩, ⟨tK BK320.out⟩, ⟨tK BK328.out⟩, ⟨tB HB.out⟩⟩
      case rest =>
       clear HC65
       try clear c1
       try clear c2
       try clear p2
       try clear c3
       try clear c4
       try clear c4b0
       try clear c5
       try clear c6
       try clear p6
       try clear c7
       try clear c8
       try clear c9
       try clear c13
       try clear c15
       try clear c17
       try clear c19
       try clear c23
       try clear c24
       try clear c30
       try clear c31
       try clear c37
       try clear c38
       try clear c39
       try clear c43
       try clear c44
       try clear c45
       try clear c46
       try clear c47
       try clear c48
       try clear c49
       try clear c52
       try clear c53
       try clear c54
       try clear c56
       try clear c57
       try clear c60
       try clear c63
       try clear p64
       try clear c71
       try clear c72
       try clear c73
       try clear c76
       try clear c76b0
       try clear c78
       try clear c79
       try clear c80
       try clear c81
       try clear c83
       try clear c84
       try clear c87
       try clear c88
       try clear c89
       try clear c91
       try clear c92
       try clear hcz14_0
       try clear hcz14_1
       try clear hcz16_0
       try clear hcz16_1
       try clear hcz24_0
       try clear hcz24_1
       try clear hcz26_0
       try clear hcz26_1
       try clear hcz32_0
       try clear hcz32_1
       try clear hcz40_0
       try clear hcz40_1
       try clear hcz47_0
       try clear hcz47_1
       try clear hcz50_0
       try clear hcz50_1
       try clear hcz55_0
       try clear hcz55_1
       try clear hcz58_0
       try clear hcz58_1
       try clear hcz6_0
       try clear hcz6_1
       try clear hcz74_0
       try clear hcz74_1
       try clear hcz82_0
       try clear hcz82_1
       try clear hcz85_0
       try clear hcz85_1
       try clear hcz90_0
       try clear hcz90_1
       try clear hcz93_0
       try clear hcz93_1
       try clear hfz14_0
       try clear hfz14_1
       try clear hfz16_0
       try clear hfz16_1
       try clear hfz24_0
       try clear hfz24_1
       try clear hfz26_0
       try clear hfz26_1
       try clear hfz32_0
       try clear hfz32_1
       try clear hfz40_0
       try clear hfz40_1
       try clear hfz47_0
       try clear hfz47_1
       try clear hfz50_0
       try clear hfz50_1
       try clear hfz55_0
       try clear hfz55_1
       try clear hfz58_0
       try clear hfz58_1
       try clear hfz6_0
       try clear hfz6_1
       try clear hfz74_0
       try clear hfz74_1
       try clear hfz82_0
       try clear hfz82_1
       try clear hfz85_0
       try clear hfz85_1
       try clear hfz90_0
       try clear hfz90_1
       try clear hfz93_0
       try clear hfz93_1
       try clear p2
       try clear p6
       obtain ⟨kq, x65_64, rfl, HA, HJ64, HO_314000, HO_314001, HO_321000, HO_321001, HO_329000, HO_329001, BK298, BK313, BK320, BK328, HB⟩ := hcut
       have hl321000_64 := (Kd.R_reads' HO_321000.out).1
       rw [hl321000_64] at HO_321000
       (try simp only [hl321000_64])
       (try simp only [hl321000_64] at BK298)
       (try simp only [hl321000_64] at BK313)
       (try simp only [hl321000_64] at BK320)
       (try simp only [hl321000_64] at BK328)
       (try simp only [hl321000_64] at HO_314000)
       (try simp only [hl321000_64] at HO_314001)
       (try simp only [hl321000_64] at HO_321001)
       (try simp only [hl321000_64] at HO_329000)
       (try simp only [hl321000_64] at HO_329001)
       have hl321001_64 := (Kd.R_reads' HO_321001.out).1
       rw [hl321001_64] at HO_321001
       (try simp only [hl321001_64])
       (try simp only [hl321001_64] at BK298)
       (try simp only [hl321001_64] at BK313)
       (try simp only [hl321001_64] at BK320)
       (try simp only [hl321001_64] at BK328)
       (try simp only [hl321001_64] at HO_314000)
       (try simp only [hl321001_64] at HO_314001)
       (try simp only [hl321001_64] at HO_321000)
       (try simp only [hl321001_64] at HO_329000)
       (try simp only [hl321001_64] at HO_329001)
       cases kq with
       | zero => exact absurd HA.out (by simp [laws_FnExactCutRod.j1])
       | succ kj64 =>
        have H := HA.out
        clear HA
        simp only [laws_FnExactCutRod.j1] at H
        by_cases c95 : x65_64 = true
        ·
         subst c95
         have H1 : (some false) = some r := by rw [if_pos rfl] at H; exact H
         clear H
         have H := H1
         clear H1
         obtain rfl := Option.some.inj H
         go_wp2
         go_ret
         exact ⟨by first | rfl | (simp [errW_none, errW_some] <;> rfl) | (simp [*, errW_none, errW_some] <;> rfl), tB HB.out⟩
        ·
         replace c95 := Bool.eq_false_iff.mpr c95
         subst c95
         have H1 : ((laws_markMobile.f kj64 t321 t324 1).bind fun bt341 => ((laws_heldMobile.f kj64 bt341.2.1 bt341.2.2 1).bind fun t344 => (if t344 < 0 then (some false) else (if t344 = bt341.1 then ((laws_toMobile.f kj64 l0_0 l0_1).bind fun bt345 => ((impl_CutRod.f kj64 bt345.1 bt345.2 a1).bind fun bt351 => ((laws_eqMobile.f kj64 bt351.1 bt351.2.1 t306 t309).bind fun t359 => (if t359 = true then (laws_FnExactCutRod.j2 kj64 bt341.1 (bt351.2.2 != t312) bt341.2.1 bt341.2.2) else (laws_FnExactCutRod.j2 kj64 bt341.1 true bt341.2.1 bt341.2.2))))) else (some false))))) = some r := by rw [if_neg (show ¬ (false = true) by decide)] at H; exact H
         clear H
         have H := H1
         clear H1
         replace H := Option.bind_eq_some_iff.mp H
         obtain ⟨⟨t341, t342, t343⟩, A960, H⟩ := H
         replace H : ((laws_heldMobile.f kj64 t342 t343 1).bind fun t344 => (if t344 < 0 then (some false) else (if t344 = t341 then ((laws_toMobile.f kj64 l0_0 l0_1).bind fun bt345 => ((impl_CutRod.f kj64 bt345.1 bt345.2 a1).bind fun bt351 => ((laws_eqMobile.f kj64 bt351.1 bt351.2.1 t306 t309).bind fun t359 => (if t359 = true then (laws_FnExactCutRod.j2 kj64 t341 (bt351.2.2 != t312) t342 t343) else (laws_FnExactCutRod.j2 kj64 t341 true t342 t343))))) else (some false)))) = some r := H
         have A96 := Aside0.mk A960
         clear A960
         replace H := Option.bind_eq_some_iff.mp H
         obtain ⟨t344, A970, H⟩ := H
         replace H : (if t344 < 0 then (some false) else (if t344 = t341 then ((laws_toMobile.f kj64 l0_0 l0_1).bind fun bt345 => ((impl_CutRod.f kj64 bt345.1 bt345.2 a1).bind fun bt351 => ((laws_eqMobile.f kj64 bt351.1 bt351.2.1 t306 t309).bind fun t359 => (if t359 = true then (laws_FnExactCutRod.j2 kj64 t341 (bt351.2.2 != t312) t342 t343) else (laws_FnExactCutRod.j2 kj64 t341 true t342 t343))))) else (some false))) = some r := H
         have A97 := Aside0.mk A970
         clear A970
         by_cases c98 : t344 < 0
         ·
          rw [if_pos c98] at H
          have c98b0 : decide (t344 < 0) = true := decide_eq_true c98
          clear c98
          obtain rfl := Option.some.inj H
          have hnb99 := NB328_298.out
          have hnc99 := NB298_328.out
          have hnb100 := NB328_313.out
          have hnc100 := NB313_328.out
          have hnb101 := NB328_320.out
          have hnc101 := NB320_328.out
          obtain ⟨hcz102_0, hfz102_0, hcz102_1, hfz102_1⟩ := cz2 BK328
          go_wp2_with (first | ((with_reducible refine gate_callee (f := 24) rfl ?_); refine goesL_ (some 68) rfl rfl Try.func24 (by kernel_rfl) rfl #[.agg #[.slice Ao36 t321.length co36, .slice Ao41 t324.length co41], .int .i64 1] rfl tM ?_; (with_reducible refine (laws_markMobile.calls kj64 (fun k_ => some k_ = (.slice Ao36 t321.length co36 : Value).ownBlock) (.slice Ao36 t321.length co36) t321 (fun k_ => some k_ = (.slice Ao41 t324.length co41 : Value).ownBlock) (.slice Ao41 t324.length co41) t324 1 t341 t342 t343 w _ ?side1 ?side2 ?side3 ?side4 ?side5 A96.out).mono ?_); (case side1 => repeat (first | (with_reducible first | exact HB.out | apply below_alloc | apply pw_below_drewN | apply below_drew1 | refine below_set ?_ GE298.out | refine below_set ?_ GE313.out | refine below_set ?_ GE320.out | refine below_set ?_ GE328.out) | exact HB.out)); (case side2 => exact Kd.R_tight rfl HO_329000.out); (case side3 => exact fun k_ e_ => (HO_329000.out.1 k_ e_.symm).2.2.2.2); (case side4 => exact Kd.R_tight rfl HO_329001.out); (case side5 => exact fun k_ e_ => (HO_329001.out.1 k_ e_.symm).2.2.2.2); rintro e w103 ⟨rfl, hy0, hy1, hb, hkp⟩; refine ⟨_, rfl, ?_⟩; replace HO_314000 := Aside0.mk (Kd.R_mono (ok' := fun k_ => some k_ ≠ (.slice Ao25 t309.length co25 : Value).ownBlock ∧ some k_ ≠ (.slice Ao29 t338.length co29 : Value).ownBlock ∧ some k_ ≠ (.slice Ao33 t339.length co33 : Value).ownBlock ∧ some k_ ≠ (.slice Ao36 t321.length co36 : Value).ownBlock ∧ some k_ ≠ (.slice Ao41 t324.length co41 : Value).ownBlock) (Kd.R_keptB (HO_314000.out) hkp (fun k_ hk_ hs_ => Or.elim hs_ (fun e_ => (hk_.2.2.2.1) e_) (fun e_ => (hk_.2.2.2.2) e_))) (fun k_ hk_ => ⟨hk_.1.1, hk_.1.2.1, hk_.1.2.2.1, hk_.1.2.2.2.1, hk_.1.2.2.2.2⟩)); replace HO_314001 := Aside0.mk (Kd.R_mono (ok' := fun k_ => some k_ ≠ (.slice Ao22 t306.length co22 : Value).ownBlock ∧ some k_ ≠ (.slice Ao29 t338.length co29 : Value).ownBlock ∧ some k_ ≠ (.slice Ao33 t339.length co33 : Value).ownBlock ∧ some k_ ≠ (.slice Ao36 t321.length co36 : Value).ownBlock ∧ some k_ ≠ (.slice Ao41 t324.length co41 : Value).ownBlock) (Kd.R_keptB (HO_314001.out) hkp (fun k_ hk_ hs_ => Or.elim hs_ (fun e_ => (hk_.2.2.2.1) e_) (fun e_ => (hk_.2.2.2.2) e_))) (fun k_ hk_ => ⟨hk_.1.1, hk_.1.2.1, hk_.1.2.2.1, hk_.1.2.2.2.1, hk_.1.2.2.2.2⟩)); replace HO_321000 := Aside0.mk (Kd.R_mono (ok' := fun k_ => some k_ ≠ (.slice Ao22 t306.length co22 : Value).ownBlock ∧ some k_ ≠ (.slice Ao25 t309.length co25 : Value).ownBlock ∧ some k_ ≠ (.slice Ao33 t339.length co33 : Value).ownBlock ∧ some k_ ≠ (.slice Ao36 t321.length co36 : Value).ownBlock ∧ some k_ ≠ (.slice Ao41 t324.length co41 : Value).ownBlock) (Kd.R_keptB (HO_321000.out) hkp (fun k_ hk_ hs_ => Or.elim hs_ (fun e_ => (hk_.2.2.2.1) e_) (fun e_ => (hk_.2.2.2.2) e_))) (fun k_ hk_ => ⟨hk_.1.1, hk_.1.2.1, hk_.1.2.2.1, hk_.1.2.2.2.1, hk_.1.2.2.2.2⟩)); replace HO_321001 := Aside0.mk (Kd.R_mono (ok' := fun k_ => some k_ ≠ (.slice Ao22 t306.length co22 : Value).ownBlock ∧ some k_ ≠ (.slice Ao25 t309.length co25 : Value).ownBlock ∧ some k_ ≠ (.slice Ao29 t338.length co29 : Value).ownBlock ∧ some k_ ≠ (.slice Ao36 t321.length co36 : Value).ownBlock ∧ some k_ ≠ (.slice Ao41 t324.length co41 : Value).ownBlock) (Kd.R_keptB (HO_321001.out) hkp (fun k_ hk_ hs_ => Or.elim hs_ (fun e_ => (hk_.2.2.2.1) e_) (fun e_ => (hk_.2.2.2.2) e_))) (fun k_ hk_ => ⟨hk_.1.1, hk_.1.2.1, hk_.1.2.2.1, hk_.1.2.2.2.1, hk_.1.2.2.2.2⟩)); replace BK298 := Aside0.mk (blk_kept (tK BK298.out) hkp (fun hs_ => Or.elim hs_ (fun e_ => (fun e_ => (Kd.R_ne HO_329000.out BK298.out (by decide)) e_) e_) (fun e_ => (fun e_ => (Kd.R_ne HO_329001.out BK298.out (by decide)) e_) e_))); replace BK313 := Aside0.mk (blk_kept (tK BK313.out) hkp (fun hs_ => Or.elim hs_ (fun e_ => (fun e_ => (Kd.R_ne HO_329000.out BK313.out (by decide)) e_) e_) (fun e_ => (fun e_ => (Kd.R_ne HO_329001.out BK313.out (by decide)) e_) e_))); replace BK320 := Aside0.mk (blk_kept (tK BK320.out) hkp (fun hs_ => Or.elim hs_ (fun e_ => (fun e_ => (Kd.R_ne HO_329000.out BK320.out (by decide)) e_) e_) (fun e_ => (fun e_ => (Kd.R_ne HO_329001.out BK320.out (by decide)) e_) e_))); replace BK328 := Aside0.mk (blk_kept (tK BK328.out) hkp (fun hs_ => Or.elim hs_ (fun e_ => (fun e_ => (Kd.R_ne HO_329000.out BK328.out (by decide)) e_) e_) (fun e_ => (fun e_ => (Kd.R_ne HO_329001.out BK328.out (by decide)) e_) e_))); replace HO_329000 := Aside0.mk (Kd.R_reok rfl hy0 (fun k_ e_ => HO_329000.out.1 k_ e_)); replace HO_329001 := Aside0.mk (Kd.R_reok rfl hy1 (fun k_ e_ => HO_329001.out.1 k_ e_)); replace HB := Aside0.mk (hb); (try clear hb); (try clear hkp); (try clear hy0); (try clear hy1); obtain ⟨hcz104_0, hfz104_0, hcz104_1, hfz104_1⟩ := cz2 BK328) | ((with_reducible refine gate_callee (f := 25) rfl ?_); refine goesL_ (some 71) rfl rfl Try.func25 (by kernel_rfl) rfl #[.agg #[.slice Ao36 t342.length co36, .slice Ao41 t343.length co41], .int .i64 1] rfl (by (try simp only [List.map_toArray, List.map_cons, List.map_nil]); first | done | (rw [show t342.length = t321.length from (Kd.R_reads' HO_329000.out).1.symm, show t343.length = t324.length from (Kd.R_reads' HO_329001.out).1.symm] <;> rfl) | rfl | (simp only [List.length_drop, List.length_take]; rfl)) ?_; (with_reducible refine (laws_heldMobile.calls kj64 _ _ t342 _ _ t343 1 t344 _ ?side1 ?side2 ?side3 ?side4 A97.out).mono ?_); (case side1 => exact tC (Kd.R_reads' HO_329000.out).2.2); (case side2 => rw [show t342.length = t321.length from (Kd.R_reads' HO_329000.out).1.symm]; exact (Kd.R_reads' HO_329000.out).2.1); (case side3 => exact tC (Kd.R_reads' HO_329001.out).2.2); (case side4 => rw [show t343.length = t324.length from (Kd.R_reads' HO_329001.out).1.symm]; exact (Kd.R_reads' HO_329001.out).2.1); rintro e w105 ⟨rfl, hb⟩; refine ⟨_, rfl, ?_⟩; replace HO_314000 := Aside0.mk (Kd.R_below (tR HO_314000.out) hb); replace HO_314001 := Aside0.mk (Kd.R_below (tR HO_314001.out) hb); replace HO_321000 := Aside0.mk (Kd.R_below (tR HO_321000.out) hb); replace HO_321001 := Aside0.mk (Kd.R_below (tR HO_321001.out) hb); replace HO_329000 := Aside0.mk (Kd.R_below (tR HO_329000.out) hb); replace HO_329001 := Aside0.mk (Kd.R_below (tR HO_329001.out) hb); replace BK298 := bkB BK298 hb; replace BK313 := bkB BK313 hb; replace BK320 := bkB BK320 hb; replace BK328 := bkB BK328 hb; replace HB := Aside0.mk (below_step (tB HB.out) hb); (try clear hb); (try clear hb2); (try clear hk); (try clear hi)))
          go_ret
          exact ⟨by first | rfl | (simp [errW_none, errW_some] <;> rfl) | (simp [*, errW_none, errW_some] <;> rfl), tB HB.out⟩
         ·
          rw [if_neg c98] at H
          have c98b0 : decide (t344 < 0) = false := decide_eq_false c98
          clear c98
          by_cases c106 : t344 = t341
          ·
           rw [if_pos c106] at H
           have c106b0 : (t344 == t341) = true := beq_iff_eq.mpr c106
           have c106b1 : (t344 != t341) = false := bne_eq_false_iff_eq.mpr c106
           clear c106
           replace H := Option.bind_eq_some_iff.mp H
           obtain ⟨⟨t345, t348⟩, A1070, H⟩ := H
           replace H : ((impl_CutRod.f kj64 t345 t348 a1).bind fun bt351 => ((laws_eqMobile.f kj64 bt351.1 bt351.2.1 t306 t309).bind fun t359 => (if t359 = true then (laws_FnExactCutRod.j2 kj64 t341 (bt351.2.2 != t312) t342 t343) else (laws_FnExactCutRod.j2 kj64 t341 true t342 t343)))) = some r := H
           have A107 := Aside0.mk A1070
           clear A1070
           replace H := Option.bind_eq_some_iff.mp H
           obtain ⟨⟨t351, t354, t357⟩, A1080, H⟩ := H
           replace H : ((laws_eqMobile.f kj64 t351 t354 t306 t309).bind fun t359 => (if t359 = true then (laws_FnExactCutRod.j2 kj64 t341 (t357 != t312) t342 t343) else (laws_FnExactCutRod.j2 kj64 t341 true t342 t343))) = some r := H
           have A108 := Aside0.mk A1080
           clear A1080
           have HC109 := Aside0.mk H
           clear H
           have hnb110 := NB328_298.out
           have hnc110 := NB298_328.out
           have hnb111 := NB328_313.out
           have hnc111 := NB313_328.out
           have hnb112 := NB328_320.out
           have hnc112 := NB320_328.out
           obtain ⟨hcz113_0, hfz113_0, hcz113_1, hfz113_1⟩ := cz2 BK328
           go_upto_region 25 with (first | ((with_reducible refine gate_callee (f := 24) rfl ?_); refine goesL_ (some 68) rfl rfl Try.func24 (by kernel_rfl) rfl #[.agg #[.slice Ao36 t321.length co36, .slice Ao41 t324.length co41], .int .i64 1] rfl tM ?_; (with_reducible refine (laws_markMobile.calls kj64 (fun k_ => some k_ = (.slice Ao36 t321.length co36 : Value).ownBlock) (.slice Ao36 t321.length co36) t321 (fun k_ => some k_ = (.slice Ao41 t324.length co41 : Value).ownBlock) (.slice Ao41 t324.length co41) t324 1 t341 t342 t343 w _ ?side1 ?side2 ?side3 ?side4 ?side5 A96.out).mono ?_); (case side1 => repeat (first | (with_reducible first | exact HB.out | apply below_alloc | apply pw_below_drewN | apply below_drew1 | refine below_set ?_ GE298.out | refine below_set ?_ GE313.out | refine below_set ?_ GE320.out | refine below_set ?_ GE328.out) | exact HB.out)); (case side2 => exact Kd.R_tight rfl HO_329000.out); (case side3 => exact fun k_ e_ => (HO_329000.out.1 k_ e_.symm).2.2.2.2); (case side4 => exact Kd.R_tight rfl HO_329001.out); (case side5 => exact fun k_ e_ => (HO_329001.out.1 k_ e_.symm).2.2.2.2); rintro e w114 ⟨rfl, hy0, hy1, hb, hkp⟩; refine ⟨_, rfl, ?_⟩; replace HO_314000 := Aside0.mk (Kd.R_mono (ok' := fun k_ => some k_ ≠ (.slice Ao25 t309.length co25 : Value).ownBlock ∧ some k_ ≠ (.slice Ao29 t338.length co29 : Value).ownBlock ∧ some k_ ≠ (.slice Ao33 t339.length co33 : Value).ownBlock ∧ some k_ ≠ (.slice Ao36 t321.length co36 : Value).ownBlock ∧ some k_ ≠ (.slice Ao41 t324.length co41 : Value).ownBlock) (Kd.R_keptB (HO_314000.out) hkp (fun k_ hk_ hs_ => Or.elim hs_ (fun e_ => (hk_.2.2.2.1) e_) (fun e_ => (hk_.2.2.2.2) e_))) (fun k_ hk_ => ⟨hk_.1.1, hk_.1.2.1, hk_.1.2.2.1, hk_.1.2.2.2.1, hk_.1.2.2.2.2⟩)); replace HO_314001 := Aside0.mk (Kd.R_mono (ok' := fun k_ => some k_ ≠ (.slice Ao22 t306.length co22 : Value).ownBlock ∧ some k_ ≠ (.slice Ao29 t338.length co29 : Value).ownBlock ∧ some k_ ≠ (.slice Ao33 t339.length co33 : Value).ownBlock ∧ some k_ ≠ (.slice Ao36 t321.length co36 : Value).ownBlock ∧ some k_ ≠ (.slice Ao41 t324.length co41 : Value).ownBlock) (Kd.R_keptB (HO_314001.out) hkp (fun k_ hk_ hs_ => Or.elim hs_ (fun e_ => (hk_.2.2.2.1) e_) (fun e_ => (hk_.2.2.2.2) e_))) (fun k_ hk_ => ⟨hk_.1.1, hk_.1.2.1, hk_.1.2.2.1, hk_.1.2.2.2.1, hk_.1.2.2.2.2⟩)); replace HO_321000 := Aside0.mk (Kd.R_mono (ok' := fun k_ => some k_ ≠ (.slice Ao22 t306.length co22 : Value).ownBlock ∧ some k_ ≠ (.slice Ao25 t309.length co25 : Value).ownBlock ∧ some k_ ≠ (.slice Ao33 t339.length co33 : Value).ownBlock ∧ some k_ ≠ (.slice Ao36 t321.length co36 : Value).ownBlock ∧ some k_ ≠ (.slice Ao41 t324.length co41 : Value).ownBlock) (Kd.R_keptB (HO_321000.out) hkp (fun k_ hk_ hs_ => Or.elim hs_ (fun e_ => (hk_.2.2.2.1) e_) (fun e_ => (hk_.2.2.2.2) e_))) (fun k_ hk_ => ⟨hk_.1.1, hk_.1.2.1, hk_.1.2.2.1, hk_.1.2.2.2.1, hk_.1.2.2.2.2⟩)); replace HO_321001 := Aside0.mk (Kd.R_mono (ok' := fun k_ => some k_ ≠ (.slice Ao22 t306.length co22 : Value).ownBlock ∧ some k_ ≠ (.slice Ao25 t309.length co25 : Value).ownBlock ∧ some k_ ≠ (.slice Ao29 t338.length co29 : Value).ownBlock ∧ some k_ ≠ (.slice Ao36 t321.length co36 : Value).ownBlock ∧ some k_ ≠ (.slice Ao41 t324.length co41 : Value).ownBlock) (Kd.R_keptB (HO_321001.out) hkp (fun k_ hk_ hs_ => Or.elim hs_ (fun e_ => (hk_.2.2.2.1) e_) (fun e_ => (hk_.2.2.2.2) e_))) (fun k_ hk_ => ⟨hk_.1.1, hk_.1.2.1, hk_.1.2.2.1, hk_.1.2.2.2.1, hk_.1.2.2.2.2⟩)); replace BK298 := Aside0.mk (blk_kept (tK BK298.out) hkp (fun hs_ => Or.elim hs_ (fun e_ => (fun e_ => (Kd.R_ne HO_329000.out BK298.out (by decide)) e_) e_) (fun e_ => (fun e_ => (Kd.R_ne HO_329001.out BK298.out (by decide)) e_) e_))); replace BK313 := Aside0.mk (blk_kept (tK BK313.out) hkp (fun hs_ => Or.elim hs_ (fun e_ => (fun e_ => (Kd.R_ne HO_329000.out BK313.out (by decide)) e_) e_) (fun e_ => (fun e_ => (Kd.R_ne HO_329001.out BK313.out (by decide)) e_) e_))); replace BK320 := Aside0.mk (blk_kept (tK BK320.out) hkp (fun hs_ => Or.elim hs_ (fun e_ => (fun e_ => (Kd.R_ne HO_329000.out BK320.out (by decide)) e_) e_) (fun e_ => (fun e_ => (Kd.R_ne HO_329001.out BK320.out (by decide)) e_) e_))); replace BK328 := Aside0.mk (blk_kept (tK BK328.out) hkp (fun hs_ => Or.elim hs_ (fun e_ => (fun e_ => (Kd.R_ne HO_329000.out BK328.out (by decide)) e_) e_) (fun e_ => (fun e_ => (Kd.R_ne HO_329001.out BK328.out (by decide)) e_) e_))); replace HO_329000 := Aside0.mk (Kd.R_reok rfl hy0 (fun k_ e_ => HO_329000.out.1 k_ e_)); replace HO_329001 := Aside0.mk (Kd.R_reok rfl hy1 (fun k_ e_ => HO_329001.out.1 k_ e_)); replace HB := Aside0.mk (hb); (try clear hb); (try clear hkp); (try clear hy0); (try clear hy1); obtain ⟨hcz115_0, hfz115_0, hcz115_1, hfz115_1⟩ := cz2 BK328) | ((with_reducible refine gate_callee (f := 25) rfl ?_); refine goesL_ (some 71) rfl rfl Try.func25 (by kernel_rfl) rfl #[.agg #[.slice Ao36 t342.length co36, .slice Ao41 t343.length co41], .int .i64 1] rfl (by (try simp only [List.map_toArray, List.map_cons, List.map_nil]); first | done | (rw [show t342.length = t321.length from (Kd.R_reads' HO_329000.out).1.symm, show t343.length = t324.length from (Kd.R_reads' HO_329001.out).1.symm] <;> rfl) | rfl | (simp only [List.length_drop, List.length_take]; rfl)) ?_; (with_reducible refine (laws_heldMobile.calls kj64 _ _ t342 _ _ t343 1 t344 _ ?side1 ?side2 ?side3 ?side4 A97.out).mono ?_); (case side1 => exact tC (Kd.R_reads' HO_329000.out).2.2); (case side2 => rw [show t342.length = t321.length from (Kd.R_reads' HO_329000.out).1.symm]; exact (Kd.R_reads' HO_329000.out).2.1); (case side3 => exact tC (Kd.R_reads' HO_329001.out).2.2); (case side4 => rw [show t343.length = t324.length from (Kd.R_reads' HO_329001.out).1.symm]; exact (Kd.R_reads' HO_329001.out).2.1); rintro e w116 ⟨rfl, hb⟩; refine ⟨_, rfl, ?_⟩; replace HO_314000 := Aside0.mk (Kd.R_below (tR HO_314000.out) hb); replace HO_314001 := Aside0.mk (Kd.R_below (tR HO_314001.out) hb); replace HO_321000 := Aside0.mk (Kd.R_below (tR HO_321000.out) hb); replace HO_321001 := Aside0.mk (Kd.R_below (tR HO_321001.out) hb); replace HO_329000 := Aside0.mk (Kd.R_below (tR HO_329000.out) hb); replace HO_329001 := Aside0.mk (Kd.R_below (tR HO_329001.out) hb); replace BK298 := bkB BK298 hb; replace BK313 := bkB BK313 hb; replace BK320 := bkB BK320 hb; replace BK328 := bkB BK328 hb; replace HB := Aside0.mk (below_step (tB HB.out) hb); (try clear hb); (try clear hb2); (try clear hk); (try clear hi); have hnb117 := NB298_313.out; have hnc117 := NB313_298.out; have hnb118 := NB298_320.out; have hnc118 := NB320_298.out; obtain ⟨hcz119_0, hfz119_0, hcz119_1, hfz119_1⟩ := cz2 BK298) | ((with_reducible refine gate_callee (f := 17) rfl ?_); refine goesL_ (some 79) rfl rfl Try.func17 (by kernel_rfl) rfl #[.agg #[.slice A0_0 l0_0.length c0_0, .slice A0_1 l0_1.length c0_1]] rfl tM ?_; (with_reducible refine (laws_toMobile.calls kj64 _ _ l0_0 _ _ l0_1 t345 t348 _ ?side1 ?side2 ?side3 ?side4 A107.out).mono ?_); (case side1 => exact tC (Kd.C_below HR0_0.out HB.out)); (case side2 => exact HC0_0.out); (case side3 => exact tC (Kd.C_below HR0_1.out HB.out)); (case side4 => exact HC0_1.out); rintro e w120 ⟨v346, v349, rfl, ho0, ho1, hb⟩; refine ⟨_, rfl, ?_⟩; have HO347 := Aside0.mk (Kd.R_lower (Kd.R_new' (Kd.R_new' (Kd.R_new' (Kd.R_new' (Kd.R_new' (Kd.R_new' ho0 (Kd.R_lt (tR HO_314000.out))) (Kd.R_lt (tR HO_314001.out))) (Kd.R_lt (tR HO_321000.out))) (Kd.R_lt (tR HO_321001.out))) (Kd.R_lt (tR HO_329000.out))) (Kd.R_lt (tR HO_329001.out))) (below_size (tB HB.out))); have HO350 := Aside0.mk (Kd.R_lower (Kd.R_new' (Kd.R_new' (Kd.R_new' (Kd.R_new' (Kd.R_new' (Kd.R_new' ho1 (Kd.R_lt (tR HO_314000.out))) (Kd.R_lt (tR HO_314001.out))) (Kd.R_lt (tR HO_321000.out))) (Kd.R_lt (tR HO_321001.out))) (Kd.R_lt (tR HO_329000.out))) (Kd.R_lt (tR HO_329001.out))) (below_size (tB HB.out))); replace HO_314000 := Aside0.mk (Kd.R_mono (Kd.R_told (Kd.R_told (Kd.R_old (tR HO_314000.out) hb) (Kd.R_base ho0)) (Kd.R_base ho1)) (fun _ h_ => h_.1)); replace HO_314001 := Aside0.mk (Kd.R_mono (Kd.R_told (Kd.R_told (Kd.R_old (tR HO_314001.out) hb) (Kd.R_base ho0)) (Kd.R_base ho1)) (fun _ h_ => h_.1)); replace HO_321000 := Aside0.mk (Kd.R_mono (Kd.R_told (Kd.R_told (Kd.R_old (tR HO_321000.out) hb) (Kd.R_base ho0)) (Kd.R_base ho1)) (fun _ h_ => h_.1)); replace HO_321001 := Aside0.mk (Kd.R_mono (Kd.R_told (Kd.R_told (Kd.R_old (tR HO_321001.out) hb) (Kd.R_base ho0)) (Kd.R_base ho1)) (fun _ h_ => h_.1)); replace HO_329000 := Aside0.mk (Kd.R_mono (Kd.R_told (Kd.R_told (Kd.R_old (tR HO_329000.out) hb) (Kd.R_base ho0)) (Kd.R_base ho1)) (fun _ h_ => h_.1)); replace HO_329001 := Aside0.mk (Kd.R_mono (Kd.R_told (Kd.R_told (Kd.R_old (tR HO_329001.out) hb) (Kd.R_base ho0)) (Kd.R_base ho1)) (fun _ h_ => h_.1)); replace BK298 := bkB BK298 hb; replace BK313 := bkB BK313 hb; replace BK320 := bkB BK320 hb; replace BK328 := bkB BK328 hb; replace HB := Aside0.mk (below_step (tB HB.out) hb); (try clear hb); (try clear hb2); (try clear hk); (try clear hi); (try clear ho0); (try clear ho1); obtain ⟨Ao121, co121, eo121⟩ := Kd.R_slice HO347.out; subst eo121; obtain ⟨Ao122, co122, eo122⟩ := Kd.R_slice HO350.out; subst eo122) | ((with_reducible refine gate_callee (f := 48) rfl ?_); refine goesL_ (some 81) rfl rfl Try.func48 (by kernel_rfl) rfl #[.agg #[.slice Ao121 t345.length co121, .slice Ao122 t348.length co122], .int .i64 a1] rfl tM ?_; (with_reducible refine (impl_CutRod.calls kj64 _ _ t345 _ _ t348 a1 t351 t354 t357 _ ?side1 ?side2 ?side3 ?side4 A108.out).mono ?_); (case side1 => exact tC (Kd.R_reads' HO347.out).2.2); (case side2 => exact (Kd.R_reads' HO347.out).2.1); (case side3 => exact tC (Kd.R_reads' HO350.out).2.2); (case side4 => exact (Kd.R_reads' HO350.out).2.1); rintro e w123 ⟨v352, v355, rfl, ho0, ho1, hb⟩; refine ⟨_, rfl, ?_⟩; have HO353 := Aside0.mk (Kd.R_lower (Kd.R_new' (Kd.R_new' (Kd.R_new' (Kd.R_new' (Kd.R_new' (Kd.R_new' (Kd.R_new' (Kd.R_new' ho0 (Kd.R_lt (tR HO_314000.out))) (Kd.R_lt (tR HO_314001.out))) (Kd.R_lt (tR HO_321000.out))) (Kd.R_lt (tR HO_321001.out))) (Kd.R_lt (tR HO_329000.out))) (Kd.R_lt (tR HO_329001.out))) (Kd.R_lt (tR HO347.out))) (Kd.R_lt (tR HO350.out))) (below_size (tB HB.out))); have HO356 := Aside0.mk (Kd.R_lower (Kd.R_new' (Kd.R_new' (Kd.R_new' (Kd.R_new' (Kd.R_new' (Kd.R_new' (Kd.R_new' (Kd.R_new' ho1 (Kd.R_lt (tR HO_314000.out))) (Kd.R_lt (tR HO_314001.out))) (Kd.R_lt (tR HO_321000.out))) (Kd.R_lt (tR HO_321001.out))) (Kd.R_lt (tR HO_329000.out))) (Kd.R_lt (tR HO_329001.out))) (Kd.R_lt (tR HO347.out))) (Kd.R_lt (tR HO350.out))) (below_size (tB HB.out))); replace HO_314000 := Aside0.mk (Kd.R_mono (Kd.R_told (Kd.R_told (Kd.R_old (tR HO_314000.out) hb) (Kd.R_base ho0)) (Kd.R_base ho1)) (fun _ h_ => h_.1)); replace HO_314001 := Aside0.mk (Kd.R_mono (Kd.R_told (Kd.R_told (Kd.R_old (tR HO_314001.out) hb) (Kd.R_base ho0)) (Kd.R_base ho1)) (fun _ h_ => h_.1)); replace HO_321000 := Aside0.mk (Kd.R_mono (Kd.R_told (Kd.R_told (Kd.R_old (tR HO_321000.out) hb) (Kd.R_base ho0)) (Kd.R_base ho1)) (fun _ h_ => h_.1)); replace HO_321001 := Aside0.mk (Kd.R_mono (Kd.R_told (Kd.R_told (Kd.R_old (tR HO_321001.out) hb) (Kd.R_base ho0)) (Kd.R_base ho1)) (fun _ h_ => h_.1)); replace HO_329000 := Aside0.mk (Kd.R_mono (Kd.R_told (Kd.R_told (Kd.R_old (tR HO_329000.out) hb) (Kd.R_base ho0)) (Kd.R_base ho1)) (fun _ h_ => h_.1)); replace HO_329001 := Aside0.mk (Kd.R_mono (Kd.R_told (Kd.R_told (Kd.R_old (tR HO_329001.out) hb) (Kd.R_base ho0)) (Kd.R_base ho1)) (fun _ h_ => h_.1)); replace HO347 := Aside0.mk (Kd.R_mono (Kd.R_told (Kd.R_told (Kd.R_old (tR HO347.out) hb) (Kd.R_base ho0)) (Kd.R_base ho1)) (fun _ h_ => h_.1)); replace HO350 := Aside0.mk (Kd.R_mono (Kd.R_told (Kd.R_told (Kd.R_old (tR HO350.out) hb) (Kd.R_base ho0)) (Kd.R_base ho1)) (fun _ h_ => h_.1)); replace BK298 := bkB BK298 hb; replace BK313 := bkB BK313 hb; replace BK320 := bkB BK320 hb; replace BK328 := bkB BK328 hb; replace HB := Aside0.mk (below_step (tB HB.out) hb); (try clear hb); (try clear hb2); (try clear hk); (try clear hi); (try clear ho0); (try clear ho1)) | ((with_reducible refine gate_dst (N := 14) rfl ?_); refine box_event ?hg (N := 14) ?hd (cs := #[.slice none 0 0, .slice none 0 0]) (t := 27) ?hr ?_; (case hd => rfl); (case hg => rfl); (case hr => first | (go_simp; done) | (go_simp; rfl)); intro gb358 hg w124 hbox hb; replace HO_314000 := Aside0.mk (Kd.R_below (tR HO_314000.out) hb); replace HO_314001 := Aside0.mk (Kd.R_below (tR HO_314001.out) hb); replace HO_321000 := Aside0.mk (Kd.R_below (tR HO_321000.out) hb); replace HO_321001 := Aside0.mk (Kd.R_below (tR HO_321001.out) hb); replace HO_329000 := Aside0.mk (Kd.R_below (tR HO_329000.out) hb); replace HO_329001 := Aside0.mk (Kd.R_below (tR HO_329001.out) hb); replace HO347 := Aside0.mk (Kd.R_below (tR HO347.out) hb); replace HO350 := Aside0.mk (Kd.R_below (tR HO350.out) hb); replace HO353 := Aside0.mk (Kd.R_below (tR HO353.out) hb); replace HO356 := Aside0.mk (Kd.R_below (tR HO356.out) hb); have BK358 := Aside0.mk (hbox); have GW358 := Aside0.mk (bS HB.out hg); have GE358 := Aside0.mk (bS HB.out hg); replace HB := Aside0.mk (below_step (tB HB.out) hb); have NB298_358 := Aside0.mk (nL BK298.out hg); have NB358_298 := Aside0.mk (nG BK298.out hg); replace BK298 := bkB BK298 hb; have NB313_358 := Aside0.mk (nL BK313.out hg); have NB358_313 := Aside0.mk (nG BK313.out hg); replace BK313 := bkB BK313 hb; have NB320_358 := Aside0.mk (nL BK320.out hg); have NB358_320 := Aside0.mk (nG BK320.out hg); replace BK320 := bkB BK320 hb; have NB328_358 := Aside0.mk (nL BK328.out hg); have NB358_328 := Aside0.mk (nG BK328.out hg); replace BK328 := bkB BK328 hb; clear hb hbox hg; obtain ⟨Ao125, co125, eo125⟩ := Kd.R_slice HO353.out; subst eo125; have hnb126 := NB358_298.out; have hnc126 := NB298_358.out; have hnb127 := NB358_313.out; have hnc127 := NB313_358.out; have hnb128 := NB358_320.out; have hnc128 := NB320_358.out; have hnb129 := NB358_328.out; have hnc129 := NB328_358.out; obtain ⟨hcz130_0, hfz130_0, hcz130_1, hfz130_1⟩ := cz2 BK358; obtain ⟨Ao131, co131, eo131⟩ := Kd.R_slice HO356.out; subst eo131))
           (try simp only [Act.put, List.setIfInBounds_toArray, List.set_cons_zero, List.set_cons_succ])
           go_cut [92] (fun v92 wc => ∃ (kq : Nat) (x92_108 : Bool), v92 = .bool x92_108 ∧ Aside0 (laws_FnExactCutRod.j2 kq t341 x92_108 t342 t343 = some r) ∧ Aside0 (kq ≤ kj64) ∧ Aside0 (Kd.R k58 58 wc w.heap.size (fun k_ => some k_ ≠ ((.slice Ao25 t309.length co25) : Value).ownBlock ∧ some k_ ≠ ((.slice Ao29 t338.length co29) : Value).ownBlock ∧ some k_ ≠ ((.slice Ao33 t339.length co33) : Value).ownBlock ∧ some k_ ≠ ((.slice Ao36 t321.length co36) : Value).ownBlock ∧ some k_ ≠ ((.slice Ao41 t324.length co41) : Value).ownBlock ∧ some k_ ≠ ((.slice Ao125 t351.length co125) : Value).ownBlock ∧ some k_ ≠ ((.slice Ao131 t354.length co131) : Value).ownBlock) (.slice Ao22 t306.length co22) t306) ∧ Aside0 (Kd.R k58 58 wc w.heap.size (fun k_ => some k_ ≠ ((.slice Ao22 t306.length co22) : Value).ownBlock ∧ some k_ ≠ ((.slice Ao29 t338.length co29) : Value).ownBlock ∧ some k_ ≠ ((.slice Ao33 t339.length co33) : Value).ownBlock ∧ some k_ ≠ ((.slice Ao36 t321.length co36) : Value).ownBlock ∧ some k_ ≠ ((.slice Ao41 t324.length co41) : Value).ownBlock ∧ some k_ ≠ ((.slice Ao125 t351.length co125) : Value).ownBlock ∧ some k_ ≠ ((.slice Ao131 t354.length co131) : Value).ownBlock) (.slice Ao25 t309.length co25) t309) ∧ Aside0 (Kd.R k58 58 wc w.heap.size (fun k_ => some k_ ≠ ((.slice Ao22 t306.length co22) : Value).ownBlock ∧ some k_ ≠ ((.slice Ao25 t309.length co25) : Value).ownBlock ∧ some k_ ≠ ((.slice Ao33 t339.length co33) : Value).ownBlock ∧ some k_ ≠ ((.slice Ao36 t321.length co36) : Value).ownBlock ∧ some k_ ≠ ((.slice Ao41 t324.length co41) : Value).ownBlock ∧ some k_ ≠ ((.slice Ao125 t351.length co125) : Value).ownBlock ∧ some k_ ≠ ((.slice Ao131 t354.length co131) : Value).ownBlock) (.slice Ao29 t338.length co29) t338) ∧ Aside0 (Kd.R k58 58 wc w.heap.size (fun k_ => some k_ ≠ ((.slice Ao22 t306.length co22) : Value).ownBlock ∧ some k_ ≠ ((.slice Ao25 t309.length co25) : Value).ownBlock ∧ some k_ ≠ ((.slice Ao29 t338.length co29) : Value).ownBlock ∧ some k_ ≠ ((.slice Ao36 t321.length co36) : Value).ownBlock ∧ some k_ ≠ ((.slice Ao41 t324.length co41) : Value).ownBlock ∧ some k_ ≠ ((.slice Ao125 t351.length co125) : Value).ownBlock ∧ some k_ ≠ ((.slice Ao131 t354.length co131) : Value).ownBlock) (.slice Ao33 t339.length co33) t339) ∧ Aside0 (Kd.R k58 58 wc w.heap.size (fun k_ => some k_ ≠ ((.slice Ao22 t306.length co22) : Value).ownBlock ∧ some k_ ≠ ((.slice Ao25 t309.length co25) : Value).ownBlock ∧ some k_ ≠ ((.slice Ao29 t338.length co29) : Value).ownBlock ∧ some k_ ≠ ((.slice Ao33 t339.length co33) : Value).ownBlock ∧ some k_ ≠ ((.slice Ao41 t324.length co41) : Value).ownBlock ∧ some k_ ≠ ((.slice Ao125 t351.length co125) : Value).ownBlock ∧ some k_ ≠ ((.slice Ao131 t354.length co131) : Value).ownBlock) (.slice Ao36 t321.length co36) t342) ∧ Aside0 (Kd.R k58 58 wc w.heap.size (fun k_ => some k_ ≠ ((.slice Ao22 t306.length co22) : Value).ownBlock ∧ some k_ ≠ ((.slice Ao25 t309.length co25) : Value).ownBlock ∧ some k_ ≠ ((.slice Ao29 t338.length co29) : Value).ownBlock ∧ some k_ ≠ ((.slice Ao33 t339.length co33) : Value).ownBlock ∧ some k_ ≠ ((.slice Ao36 t321.length co36) : Value).ownBlock ∧ some k_ ≠ ((.slice Ao125 t351.length co125) : Value).ownBlock ∧ some k_ ≠ ((.slice Ao131 t354.length co131) : Value).ownBlock) (.slice Ao41 t324.length co41) t343) ∧ Aside0 (Kd.R k58 58 wc w.heap.size (fun k_ => some k_ ≠ ((.slice Ao22 t306.length co22) : Value).ownBlock ∧ some k_ ≠ ((.slice Ao25 t309.length co25) : Value).ownBlock ∧ some k_ ≠ ((.slice Ao29 t338.length co29) : Value).ownBlock ∧ some k_ ≠ ((.slice Ao33 t339.length co33) : Value).ownBlock ∧ some k_ ≠ ((.slice Ao36 t321.length co36) : Value).ownBlock ∧ some k_ ≠ ((.slice Ao41 t324.length co41) : Value).ownBlock ∧ some k_ ≠ ((.slice Ao131 t354.length co131) : Value).ownBlock) (.slice Ao125 t351.length co125) t351) ∧ Aside0 (Kd.R k58 58 wc w.heap.size (fun k_ => some k_ ≠ ((.slice Ao22 t306.length co22) : Value).ownBlock ∧ some k_ ≠ ((.slice Ao25 t309.length co25) : Value).ownBlock ∧ some k_ ≠ ((.slice Ao29 t338.length co29) : Value).ownBlock ∧ some k_ ≠ ((.slice Ao33 t339.length co33) : Value).ownBlock ∧ some k_ ≠ ((.slice Ao36 t321.length co36) : Value).ownBlock ∧ some k_ ≠ ((.slice Ao41 t324.length co41) : Value).ownBlock ∧ some k_ ≠ ((.slice Ao125 t351.length co125) : Value).ownBlock) (.slice Ao131 t354.length co131) t354) ∧ Aside0 (wc.heap[gb298]? = some (.cells #[(.slice A0_0 l0_0.length c0_0), (.slice A0_1 l0_1.length c0_1)] 24 (0, 0))) ∧ Aside0 (wc.heap[gb313]? = some (.cells #[(.slice Ao22 t306.length co22), (.slice Ao25 t309.length co25)] 27 (0, 0))) ∧ Aside0 (wc.heap[gb320]? = some (.cells #[(.slice Ao29 t338.length co29), (.slice Ao33 t339.length co33)] 27 (0, 0))) ∧ Aside0 (wc.heap[gb328]? = some (.cells #[(.slice Ao36 t321.length co36), (.slice Ao41 t324.length co41)] 27 (0, 0))) ∧ Aside0 (wc.heap[gb358]? = some (.cells #[(.slice Ao125 t351.length co125), (.slice Ao131 t354.length co131)] 27 (0, 0))) ∧ Aside0 (Below w.heap.size w wc))
           case first =>
            have H := HC109.out
            clear HC109
            replace H := Option.bind_eq_some_iff.mp H
            obtain ⟨t359, A1320, H⟩ := H
            replace H : (if t359 = true then (laws_FnExactCutRod.j2 kj64 t341 (t357 != t312) t342 t343) else (laws_FnExactCutRod.j2 kj64 t341 true t342 t343)) = some r := H
            have A132 := Aside0.mk A1320
            clear A1320
            by_cases c133 : t359 = true
            ·
             subst c133
             have H1 : (laws_FnExactCutRod.j2 kj64 t341 (t357 != t312) t342 t343) = some r := by rw [if_pos rfl] at H; exact H
             clear H
             have H := H1
             clear H1
             have H' := Aside0.mk H
             clear H
             have hnb134 := NB358_298.out
             have hnc134 := NB298_358.out
             have hnb135 := NB358_313.out
             have hnc135 := NB313_358.out
             have hnb136 := NB358_320.out
             have hnc136 := NB320_358.out
             have hnb137 := NB358_328.out
             have hnc137 := NB328_358.out
             obtain ⟨hcz138_0, hfz138_0, hcz138_1, hfz138_1⟩ := cz2 BK358
             have hnb139 := NB313_298.out
             have hnc139 := NB298_313.out
             have hnb140 := NB313_320.out
             have hnc140 := NB320_313.out
             have hnb141 := NB313_328.out
             have hnc141 := NB328_313.out
             obtain ⟨hcz142_0, hfz142_0, hcz142_1, hfz142_1⟩ := cz2 BK313
             go_wp2_with (first | ((with_reducible refine gate_callee (f := 19) rfl ?_); refine goesL_ (some 86) rfl rfl Try.func19 (by kernel_rfl) rfl #[.agg #[.slice Ao125 t351.length co125, .slice Ao131 t354.length co131], .agg #[.slice Ao22 t306.length co22, .slice Ao25 t309.length co25]] rfl tM ?_; (with_reducible refine (laws_eqMobile.calls kj64 _ _ t351 _ _ t354 _ _ t306 _ _ t309 true _ ?side1 ?side2 ?side3 ?side4 ?side5 ?side6 ?side7 ?side8 A132.out).mono ?_); (case side1 => refine (Kd.R_reads' (e := 58) (base := w.heap.size) (ok := fun k_ => ((((((((some k_ ≠ (.slice Ao131 t354.length co131 : Value).ownBlock ∧ some k_ ≠ (.slice Ao22 t306.length co22 : Value).ownBlock) ∧ some k_ ≠ (.slice Ao25 t309.length co25 : Value).ownBlock) ∧ some k_ ≠ (.slice Ao29 t338.length co29 : Value).ownBlock) ∧ some k_ ≠ (.slice Ao33 t339.length co33 : Value).ownBlock) ∧ some k_ ≠ (.slice Ao36 t321.length co36 : Value).ownBlock) ∧ some k_ ≠ (.slice Ao41 t324.length co41 : Value).ownBlock) ∧ some k_ ≠ (.slice Ao121 t345.length co121 : Value).ownBlock) ∧ some k_ ≠ (.slice Ao122 t348.length co122 : Value).ownBlock)) (n := t351.length) (c := co125) ?_).2.2; exact (by (with_reducible repeat (first | apply Kd.R_alloc | apply Kd.R_drewN | apply Kd.R_drew)); exact (Kd.R_mono (Kd.R_far (p := ⟨gb358, 1, none⟩) (Kd.R_far (p := ⟨gb358, 0, none⟩) (Kd.R_types HO353.out BK358.out (by decide)) (fun _ hk => hk.2) (.slice Ao125 t351.length co125)) (fun _ hk => hk.2) (.slice Ao131 t354.length co131)) (fun _ h_ => h_.1)))); (case side2 => exact (Kd.R_reads' HO353.out).2.1); (case side3 => refine (Kd.R_reads' (e := 58) (base := w.heap.size) (ok := fun k_ => ((((((((some k_ ≠ (.slice Ao125 t351.length co125 : Value).ownBlock ∧ some k_ ≠ (.slice Ao22 t306.length co22 : Value).ownBlock) ∧ some k_ ≠ (.slice Ao25 t309.length co25 : Value).ownBlock) ∧ some k_ ≠ (.slice Ao29 t338.length co29 : Value).ownBlock) ∧ some k_ ≠ (.slice Ao33 t339.length co33 : Value).ownBlock) ∧ some k_ ≠ (.slice Ao36 t321.length co36 : Value).ownBlock) ∧ some k_ ≠ (.slice Ao41 t324.length co41 : Value).ownBlock) ∧ some k_ ≠ (.slice Ao121 t345.length co121 : Value).ownBlock) ∧ some k_ ≠ (.slice Ao122 t348.length co122 : Value).ownBlock)) (n := t354.length) (c := co131) ?_).2.2; exact (by (with_reducible repeat (first | apply Kd.R_alloc | apply Kd.R_drewN | apply Kd.R_drew)); exact (Kd.R_mono (Kd.R_far (p := ⟨gb358, 1, none⟩) (Kd.R_far (p := ⟨gb358, 0, none⟩) (Kd.R_types HO356.out BK358.out (by decide)) (fun _ hk => hk.2) (.slice Ao125 t351.length co125)) (fun _ hk => hk.2) (.slice Ao131 t354.length co131)) (fun _ h_ => h_.1)))); (case side4 => exact (Kd.R_reads' HO356.out).2.1); (case side5 => refine (Kd.R_reads' (e := 58) (base := w.heap.size) (ok := fun k_ => (((((some k_ ≠ (.slice Ao25 t309.length co25 : Value).ownBlock ∧ (some k_ ≠ (.slice Ao29 t338.length co29 : Value).ownBlock ∧ (some k_ ≠ (.slice Ao33 t339.length co33 : Value).ownBlock ∧ (some k_ ≠ (.slice Ao36 t321.length co36 : Value).ownBlock ∧ some k_ ≠ (.slice Ao41 t324.length co41 : Value).ownBlock)))) ∧ some k_ ≠ (.slice Ao121 t345.length co121 : Value).ownBlock) ∧ some k_ ≠ (.slice Ao122 t348.length co122 : Value).ownBlock) ∧ some k_ ≠ (.slice Ao125 t351.length co125 : Value).ownBlock) ∧ some k_ ≠ (.slice Ao131 t354.length co131 : Value).ownBlock)) (n := t306.length) (c := co22) ?_).2.2; exact (by (with_reducible repeat (first | apply Kd.R_alloc | apply Kd.R_drewN | apply Kd.R_drew)); exact (Kd.R_mono (Kd.R_far (p := ⟨gb358, 1, none⟩) (Kd.R_far (p := ⟨gb358, 0, none⟩) (Kd.R_types HO_314000.out BK358.out (by decide)) (fun _ hk => hk.2) (.slice Ao125 t351.length co125)) (fun _ hk => hk.2) (.slice Ao131 t354.length co131)) (fun _ h_ => h_.1)))); (case side6 => exact (Kd.R_reads' HO_314000.out).2.1); (case side7 => refine (Kd.R_reads' (e := 58) (base := w.heap.size) (ok := fun k_ => (((((some k_ ≠ (.slice Ao22 t306.length co22 : Value).ownBlock ∧ (some k_ ≠ (.slice Ao29 t338.length co29 : Value).ownBlock ∧ (some k_ ≠ (.slice Ao33 t339.length co33 : Value).ownBlock ∧ (some k_ ≠ (.slice Ao36 t321.length co36 : Value).ownBlock ∧ some k_ ≠ (.slice Ao41 t324.length co41 : Value).ownBlock)))) ∧ some k_ ≠ (.slice Ao121 t345.length co121 : Value).ownBlock) ∧ some k_ ≠ (.slice Ao122 t348.length co122 : Value).ownBlock) ∧ some k_ ≠ (.slice Ao125 t351.length co125 : Value).ownBlock) ∧ some k_ ≠ (.slice Ao131 t354.length co131 : Value).ownBlock)) (n := t309.length) (c := co25) ?_).2.2; exact (by (with_reducible repeat (first | apply Kd.R_alloc | apply Kd.R_drewN | apply Kd.R_drew)); exact (Kd.R_mono (Kd.R_far (p := ⟨gb358, 1, none⟩) (Kd.R_far (p := ⟨gb358, 0, none⟩) (Kd.R_types HO_314001.out BK358.out (by decide)) (fun _ hk => hk.2) (.slice Ao125 t351.length co125)) (fun _ hk => hk.2) (.slice Ao131 t354.length co131)) (fun _ h_ => h_.1)))); (case side8 => exact (Kd.R_reads' HO_314001.out).2.1); rintro e w143 ⟨rfl, hb⟩; refine ⟨_, rfl, ?_⟩; replace HO_314000 := Aside0.mk (Kd.R_below (by (with_reducible repeat (first | apply Kd.R_alloc | apply Kd.R_drewN | apply Kd.R_drew)); exact (Kd.R_mono (Kd.R_far (p := ⟨gb358, 1, none⟩) (Kd.R_far (p := ⟨gb358, 0, none⟩) (Kd.R_types HO_314000.out BK358.out (by decide)) (fun _ hk => hk.2) (.slice Ao125 t351.length co125)) (fun _ hk => hk.2) (.slice Ao131 t354.length co131)) (fun _ h_ => h_.1))) hb); replace HO_314001 := Aside0.mk (Kd.R_below (by (with_reducible repeat (first | apply Kd.R_alloc | apply Kd.R_drewN | apply Kd.R_drew)); exact (Kd.R_mono (Kd.R_far (p := ⟨gb358, 1, none⟩) (Kd.R_far (p := ⟨gb358, 0, none⟩) (Kd.R_types HO_314001.out BK358.out (by decide)) (fun _ hk => hk.2) (.slice Ao125 t351.length co125)) (fun _ hk => hk.2) (.slice Ao131 t354.length co131)) (fun _ h_ => h_.1))) hb); replace HO_321000 := Aside0.mk (Kd.R_below (by (with_reducible repeat (first | apply Kd.R_alloc | apply Kd.R_drewN | apply Kd.R_drew)); exact (Kd.R_mono (Kd.R_far (p := ⟨gb358, 1, none⟩) (Kd.R_far (p := ⟨gb358, 0, none⟩) (Kd.R_types HO_321000.out BK358.out (by decide)) (fun _ hk => hk.2) (.slice Ao125 t351.length co125)) (fun _ hk => hk.2) (.slice Ao131 t354.length co131)) (fun _ h_ => h_.1))) hb); replace HO_321001 := Aside0.mk (Kd.R_below (by (with_reducible repeat (first | apply Kd.R_alloc | apply Kd.R_drewN | apply Kd.R_drew)); exact (Kd.R_mono (Kd.R_far (p := ⟨gb358, 1, none⟩) (Kd.R_far (p := ⟨gb358, 0, none⟩) (Kd.R_types HO_321001.out BK358.out (by decide)) (fun _ hk => hk.2) (.slice Ao125 t351.length co125)) (fun _ hk => hk.2) (.slice Ao131 t354.length co131)) (fun _ h_ => h_.1))) hb); replace HO_329000 := Aside0.mk (Kd.R_below (by (with_reducible repeat (first | apply Kd.R_alloc | apply Kd.R_drewN | apply Kd.R_drew)); exact (Kd.R_mono (Kd.R_far (p := ⟨gb358, 1, none⟩) (Kd.R_far (p := ⟨gb358, 0, none⟩) (Kd.R_types HO_329000.out BK358.out (by decide)) (fun _ hk => hk.2) (.slice Ao125 t351.length co125)) (fun _ hk => hk.2) (.slice Ao131 t354.length co131)) (fun _ h_ => h_.1))) hb); replace HO_329001 := Aside0.mk (Kd.R_below (by (with_reducible repeat (first | apply Kd.R_alloc | apply Kd.R_drewN | apply Kd.R_drew)); exact (Kd.R_mono (Kd.R_far (p := ⟨gb358, 1, none⟩) (Kd.R_far (p := ⟨gb358, 0, none⟩) (Kd.R_types HO_329001.out BK358.out (by decide)) (fun _ hk => hk.2) (.slice Ao125 t351.length co125)) (fun _ hk => hk.2) (.slice Ao131 t354.length co131)) (fun _ h_ => h_.1))) hb); replace HO347 := Aside0.mk (Kd.R_below (by (with_reducible repeat (first | apply Kd.R_alloc | apply Kd.R_drewN | apply Kd.R_drew)); exact (Kd.R_mono (Kd.R_far (p := ⟨gb358, 1, none⟩) (Kd.R_far (p := ⟨gb358, 0, none⟩) (Kd.R_types HO347.out BK358.out (by decide)) (fun _ hk => hk.2) (.slice Ao125 t351.length co125)) (fun _ hk => hk.2) (.slice Ao131 t354.length co131)) (fun _ h_ => h_.1))) hb); replace HO350 := Aside0.mk (Kd.R_below (by (with_reducible repeat (first | apply Kd.R_alloc | apply Kd.R_drewN | apply Kd.R_drew)); exact (Kd.R_mono (Kd.R_far (p := ⟨gb358, 1, none⟩) (Kd.R_far (p := ⟨gb358, 0, none⟩) (Kd.R_types HO350.out BK358.out (by decide)) (fun _ hk => hk.2) (.slice Ao125 t351.length co125)) (fun _ hk => hk.2) (.slice Ao131 t354.length co131)) (fun _ h_ => h_.1))) hb); replace HO353 := Aside0.mk (Kd.R_below (by (with_reducible repeat (first | apply Kd.R_alloc | apply Kd.R_drewN | apply Kd.R_drew)); exact (Kd.R_mono (Kd.R_far (p := ⟨gb358, 1, none⟩) (Kd.R_far (p := ⟨gb358, 0, none⟩) (Kd.R_types HO353.out BK358.out (by decide)) (fun _ hk => hk.2) (.slice Ao125 t351.length co125)) (fun _ hk => hk.2) (.slice Ao131 t354.length co131)) (fun _ h_ => h_.1))) hb); replace HO356 := Aside0.mk (Kd.R_below (by (with_reducible repeat (first | apply Kd.R_alloc | apply Kd.R_drewN | apply Kd.R_drew)); exact (Kd.R_mono (Kd.R_far (p := ⟨gb358, 1, none⟩) (Kd.R_far (p := ⟨gb358, 0, none⟩) (Kd.R_types HO356.out BK358.out (by decide)) (fun _ hk => hk.2) (.slice Ao125 t351.length co125)) (fun _ hk => hk.2) (.slice Ao131 t354.length co131)) (fun _ h_ => h_.1))) hb); replace BK298 := Aside0.mk (blk_below (g := gb298) (o := .cells #[.slice A0_0 l0_0.length c0_0, .slice A0_1 l0_1.length c0_1] 24 (0, 0)) (by (with_reducible repeat (first | refine blk_drewN ?_ _ | refine blk_drew ?_ | refine blk_alloc ?_ _)); refine blk_far ?_ NB298_358.out _; (with_reducible repeat (first | refine blk_drewN ?_ _ | refine blk_drew ?_ | refine blk_alloc ?_ _)); refine blk_far ?_ NB298_358.out _; (with_reducible repeat (first | refine blk_drewN ?_ _ | refine blk_drew ?_ | refine blk_alloc ?_ _)); exact BK298.out) hb); replace BK313 := Aside0.mk (blk_below (g := gb313) (o := .cells #[.slice Ao22 t306.length co22, .slice Ao25 t309.length co25] 27 (0, 0)) (by (with_reducible repeat (first | refine blk_drewN ?_ _ | refine blk_drew ?_ | refine blk_alloc ?_ _)); refine blk_far ?_ NB313_358.out _; (with_reducible repeat (first | refine blk_drewN ?_ _ | refine blk_drew ?_ | refine blk_alloc ?_ _)); refine blk_far ?_ NB313_358.out _; (with_reducible repeat (first | refine blk_drewN ?_ _ | refine blk_drew ?_ | refine blk_alloc ?_ _)); exact BK313.out) hb); replace BK320 := Aside0.mk (blk_below (g := gb320) (o := .cells #[.slice Ao29 t338.length co29, .slice Ao33 t339.length co33] 27 (0, 0)) (by (with_reducible repeat (first | refine blk_drewN ?_ _ | refine blk_drew ?_ | refine blk_alloc ?_ _)); refine blk_far ?_ NB320_358.out _; (with_reducible repeat (first | refine blk_drewN ?_ _ | refine blk_drew ?_ | refine blk_alloc ?_ _)); refine blk_far ?_ NB320_358.out _; (with_reducible repeat (first | refine blk_drewN ?_ _ | refine blk_drew ?_ | refine blk_alloc ?_ _)); exact BK320.out) hb); replace BK328 := Aside0.mk (blk_below (g := gb328) (o := .cells #[.slice Ao36 t321.length co36, .slice Ao41 t324.length co41] 27 (0, 0)) (by (with_reducible repeat (first | refine blk_drewN ?_ _ | refine blk_drew ?_ | refine blk_alloc ?_ _)); refine blk_far ?_ NB328_358.out _; (with_reducible repeat (first | refine blk_drewN ?_ _ | refine blk_drew ?_ | refine blk_alloc ?_ _)); refine blk_far ?_ NB328_358.out _; (with_reducible repeat (first | refine blk_drewN ?_ _ | refine blk_drew ?_ | refine blk_alloc ?_ _)); exact BK328.out) hb); replace BK358 := Aside0.mk (blk_below (g := gb358) (o := .cells #[.slice Ao125 t351.length co125, .slice Ao131 t354.length co131] 27 (0, 0)) (by (with_reducible repeat (first | refine blk_drewN ?_ _ | refine blk_drew ?_ | refine blk_alloc ?_ _)); refine blk_put (cs := #[.slice Ao125 t351.length co125, .slice none 0 0]) ?_ 1 _ rfl; (with_reducible repeat (first | refine blk_drewN ?_ _ | refine blk_drew ?_ | refine blk_alloc ?_ _)); refine blk_put (cs := #[.slice none 0 0, .slice none 0 0]) ?_ 0 _ rfl; (with_reducible repeat (first | refine blk_drewN ?_ _ | refine blk_drew ?_ | refine blk_alloc ?_ _)); exact BK358.out) hb); replace HB := Aside0.mk (below_step (tB HB.out) hb); (try clear hb); (try clear hb2); (try clear hk); (try clear hi)))
             go_meet
             case rel => exact ⟨_, ((t357 != t312)), (by first | rfl | (simp; done) | (simp [wrap64]; done) | (simp [*]; done)), H', ⟨by have := HJ11.out; have := HJ64.out; first | omega | exact Nat.le_refl _⟩, ⟨by (try simp only [hl321000_64]); (try simp only [hl321001_64]); (with_reducible repeat (first | apply Kd.R_alloc | apply Kd.R_drewN | apply Kd.R_drew)); exact Kd.R_mono HO_314000.out (fun _ hk => ⟨hk.1.1.1.1.1, ⟨hk.1.1.1.1.2.1, ⟨hk.1.1.1.1.2.2.1, ⟨hk.1.1.1.1.2.2.2.1, ⟨hk.1.1.1.1.2.2.2.2, ⟨hk.1.2, hk.2⟩⟩⟩⟩⟩⟩)⟩, ⟨by (try simp only [hl321000_64]); (try simp only [hl321001_64]); (with_reducible repeat (first | apply Kd.R_alloc | apply Kd.R_drewN | apply Kd.R_drew)); exact Kd.R_mono HO_314001.out (fun _ hk => ⟨hk.1.1.1.1.1, ⟨hk.1.1.1.1.2.1, ⟨hk.1.1.1.1.2.2.1, ⟨hk.1.1.1.1.2.2.2.1, ⟨hk.1.1.1.1.2.2.2.2, ⟨hk.1.2, hk.2⟩⟩⟩⟩⟩⟩)⟩, ⟨by (try simp only [hl321000_64]); (try simp only [hl321001_64]); (with_reducible repeat (first | apply Kd.R_alloc | apply Kd.R_drewN | apply Kd.R_drew)); exact Kd.R_mono HO_321000.out (fun _ hk => ⟨hk.1.1.1.1.1, ⟨hk.1.1.1.1.2.1, ⟨hk.1.1.1.1.2.2.1, ⟨hk.1.1.1.1.2.2.2.1, ⟨hk.1.1.1.1.2.2.2.2, ⟨hk.1.2, hk.2⟩⟩⟩⟩⟩⟩)⟩, ⟨by (try simp only [hl321000_64]); (try simp only [hl321001_64]); (with_reducible repeat (first | apply Kd.R_alloc | apply Kd.R_drewN | apply Kd.R_drew)); exact Kd.R_mono HO_321001.out (fun _ hk => ⟨hk.1.1.1.1.1, ⟨hk.1.1.1.1.2.1, ⟨hk.1.1.1.1.2.2.1, ⟨hk.1.1.1.1.2.2.2.1, ⟨hk.1.1.1.1.2.2.2.2, ⟨hk.1.2, hk.2⟩⟩⟩⟩⟩⟩)⟩, ⟨by (try simp only [hl321000_64]); (try simp only [hl321001_64]); (with_reducible repeat (first | apply Kd.R_alloc | apply Kd.R_drewN | apply Kd.R_drew)); exact Kd.R_mono HO_329000.out (fun _ hk => ⟨hk.1.1.1.1.1, ⟨hk.1.1.1.1.2.1, ⟨hk.1.1.1.1.2.2.1, ⟨hk.1.1.1.1.2.2.2.1, ⟨hk.1.1.1.1.2.2.2.2, ⟨hk.1.2, hk.2⟩⟩⟩⟩⟩⟩)⟩, ⟨by (try simp only [hl321000_64]); (try simp only [hl321001_64]); (with_reducible repeat (first | apply Kd.R_alloc | apply Kd.R_drewN | apply Kd.R_drew)); exact Kd.R_mono HO_329001.out (fun _ hk => ⟨hk.1.1.1.1.1, ⟨hk.1.1.1.1.2.1, ⟨hk.1.1.1.1.2.2.1, ⟨hk.1.1.1.1.2.2.2.1, ⟨hk.1.1.1.1.2.2.2.2, ⟨hk.1.2, hk.2⟩⟩⟩⟩⟩⟩)⟩, ⟨by (try simp only [hl321000_64]); (try simp only [hl321001_64]); (with_reducible repeat (first | apply Kd.R_alloc | apply Kd.R_drewN | apply Kd.R_drew)); exact Kd.R_mono HO353.out (fun _ hk => ⟨hk.1.1.1.1.1.1.1.2, ⟨hk.1.1.1.1.1.1.2, ⟨hk.1.1.1.1.1.2, ⟨hk.1.1.1.1.2, ⟨hk.1.1.1.2, ⟨hk.1.1.2, hk.1.1.1.1.1.1.1.1⟩⟩⟩⟩⟩⟩)⟩, ⟨by (try simp only [hl321000_64]); (try simp only [hl321001_64]); (with_reducible repeat (first | apply Kd.R_alloc | apply Kd.R_drewN | apply Kd.R_drew)); exact Kd.R_mono HO356.out (fun _ hk => ⟨hk.1.1.1.1.1.1.1.2, ⟨hk.1.1.1.1.1.1.2, ⟨hk.1.1.1.1.1.2, ⟨hk.1.1.1.1.2, ⟨hk.1.1.1.2, ⟨hk.1.1.2, hk.1.1.1.1.1.1.1.1⟩⟩⟩⟩⟩⟩)⟩, ⟨by (try simp only [hl321000_64]); (try simp only [hl321001_64]); (with_reducible repeat (first | refine blk_drewN ?_ _ | refine blk_drew ?_ | refine blk_alloc ?_ _)); exact BK298.out⟩, ⟨by (try simp only [hl321000_64]); (try simp only [hl321001_64]); (with_reducible repeat (first | refine blk_drewN ?_ _ | refine blk_drew ?_ | refine blk_alloc ?_ _)); exact BK313.out⟩, ⟨by (try simp only [hl321000_64]); (try simp only [hl321001_64]); (with_reducible repeat (first | refine blk_drewN ?_ _ | refine blk_drew ?_ | refine blk_alloc ?_ _)); exact BK320.out⟩, ⟨by (try simp only [hl321000_64]); (try simp only [hl321001_64]); (with_reducible repeat (first | refine blk_drewN ?_ _ | refine blk_drew ?_ | refine blk_alloc ?_ _)); exact BK328.out⟩, ⟨by (try simp only [hl321000_64]); (try simp only [hl321001_64]); (with_reducible repeat (first | refine blk_drewN ?_ _ | refine blk_drew ?_ | refine blk_alloc ?_ _)); exact BK358.out⟩, ⟨tB HB.out⟩⟩
            ·
             replace c133 := Bool.eq_false_iff.mpr c133
             subst c133
             have H1 : (laws_FnExactCutRod.j2 kj64 t341 true t342 t343) = some r := by rw [if_neg (show ¬ (false = true) by decide)] at H; exact H
             clear H
             have H := H1
             clear H1
             have H' := Aside0.mk H
             clear H
             have hnb144 := NB358_298.out
             have hnc144 := NB298_358.out
             have hnb145 := NB358_313.out
             have hnc145 := NB313_358.out
             have hnb146 := NB358_320.out
             have hnc146 := NB320_358.out
             have hnb147 := NB358_328.out
             have hnc147 := NB328_358.out
             obtain ⟨hcz148_0, hfz148_0, hcz148_1, hfz148_1⟩ := cz2 BK358
             have hnb149 := NB313_298.out
             have hnc149 := NB298_313.out
             have hnb150 := NB313_320.out
             have hnc150 := NB320_313.out
             have hnb151 := NB313_328.out
             have hnc151 := NB328_313.out
             obtain ⟨hcz152_0, hfz152_0, hcz152_1, hfz152_1⟩ := cz2 BK313
             go_wp2_with (first | ((with_reducible refine gate_callee (f := 19) rfl ?_); refine goesL_ (some 86) rfl rfl Try.func19 (by kernel_rfl) rfl #[.agg #[.slice Ao125 t351.length co125, .slice Ao131 t354.length co131], .agg #[.slice Ao22 t306.length co22, .slice Ao25 t309.length co25]] rfl tM ?_; (with_reducible refine (laws_eqMobile.calls kj64 _ _ t351 _ _ t354 _ _ t306 _ _ t309 false _ ?side1 ?side2 ?side3 ?side4 ?side5 ?side6 ?side7 ?side8 A132.out).mono ?_); (case side1 => refine (Kd.R_reads' (e := 58) (base := w.heap.size) (ok := fun k_ => ((((((((some k_ ≠ (.slice Ao131 t354.length co131 : Value).ownBlock ∧ some k_ ≠ (.slice Ao22 t306.length co22 : Value).ownBlock) ∧ some k_ ≠ (.slice Ao25 t309.length co25 : Value).ownBlock) ∧ some k_ ≠ (.slice Ao29 t338.length co29 : Value).ownBlock) ∧ some k_ ≠ (.slice Ao33 t339.length co33 : Value).ownBlock) ∧ some k_ ≠ (.slice Ao36 t321.length co36 : Value).ownBlock) ∧ some k_ ≠ (.slice Ao41 t324.length co41 : Value).ownBlock) ∧ some k_ ≠ (.slice Ao121 t345.length co121 : Value).ownBlock) ∧ some k_ ≠ (.slice Ao122 t348.length co122 : Value).ownBlock)) (n := t351.length) (c := co125) ?_).2.2; exact (by (with_reducible repeat (first | apply Kd.R_alloc | apply Kd.R_drewN | apply Kd.R_drew)); exact (Kd.R_mono (Kd.R_far (p := ⟨gb358, 1, none⟩) (Kd.R_far (p := ⟨gb358, 0, none⟩) (Kd.R_types HO353.out BK358.out (by decide)) (fun _ hk => hk.2) (.slice Ao125 t351.length co125)) (fun _ hk => hk.2) (.slice Ao131 t354.length co131)) (fun _ h_ => h_.1)))); (case side2 => exact (Kd.R_reads' HO353.out).2.1); (case side3 => refine (Kd.R_reads' (e := 58) (base := w.heap.size) (ok := fun k_ => ((((((((some k_ ≠ (.slice Ao125 t351.length co125 : Value).ownBlock ∧ some k_ ≠ (.slice Ao22 t306.length co22 : Value).ownBlock) ∧ some k_ ≠ (.slice Ao25 t309.length co25 : Value).ownBlock) ∧ some k_ ≠ (.slice Ao29 t338.length co29 : Value).ownBlock) ∧ some k_ ≠ (.slice Ao33 t339.length co33 : Value).ownBlock) ∧ some k_ ≠ (.slice Ao36 t321.length co36 : Value).ownBlock) ∧ some k_ ≠ (.slice Ao41 t324.length co41 : Value).ownBlock) ∧ some k_ ≠ (.slice Ao121 t345.length co121 : Value).ownBlock) ∧ some k_ ≠ (.slice Ao122 t348.length co122 : Value).ownBlock)) (n := t354.length) (c := co131) ?_).2.2; exact (by (with_reducible repeat (first | apply Kd.R_alloc | apply Kd.R_drewN | apply Kd.R_drew)); exact (Kd.R_mono (Kd.R_far (p := ⟨gb358, 1, none⟩) (Kd.R_far (p := ⟨gb358, 0, none⟩) (Kd.R_types HO356.out BK358.out (by decide)) (fun _ hk => hk.2) (.slice Ao125 t351.length co125)) (fun _ hk => hk.2) (.slice Ao131 t354.length co131)) (fun _ h_ => h_.1)))); (case side4 => exact (Kd.R_reads' HO356.out).2.1); (case side5 => refine (Kd.R_reads' (e := 58) (base := w.heap.size) (ok := fun k_ => (((((some k_ ≠ (.slice Ao25 t309.length co25 : Value).ownBlock ∧ (some k_ ≠ (.slice Ao29 t338.length co29 : Value).ownBlock ∧ (some k_ ≠ (.slice Ao33 t339.length co33 : Value).ownBlock ∧ (some k_ ≠ (.slice Ao36 t321.length co36 : Value).ownBlock ∧ some k_ ≠ (.slice Ao41 t324.length co41 : Value).ownBlock)))) ∧ some k_ ≠ (.slice Ao121 t345.length co121 : Value).ownBlock) ∧ some k_ ≠ (.slice Ao122 t348.length co122 : Value).ownBlock) ∧ some k_ ≠ (.slice Ao125 t351.length co125 : Value).ownBlock) ∧ some k_ ≠ (.slice Ao131 t354.length co131 : Value).ownBlock)) (n := t306.length) (c := co22) ?_).2.2; exact (by (with_reducible repeat (first | apply Kd.R_alloc | apply Kd.R_drewN | apply Kd.R_drew)); exact (Kd.R_mono (Kd.R_far (p := ⟨gb358, 1, none⟩) (Kd.R_far (p := ⟨gb358, 0, none⟩) (Kd.R_types HO_314000.out BK358.out (by decide)) (fun _ hk => hk.2) (.slice Ao125 t351.length co125)) (fun _ hk => hk.2) (.slice Ao131 t354.length co131)) (fun _ h_ => h_.1)))); (case side6 => exact (Kd.R_reads' HO_314000.out).2.1); (case side7 => refine (Kd.R_reads' (e := 58) (base := w.heap.size) (ok := fun k_ => (((((some k_ ≠ (.slice Ao22 t306.length co22 : Value).ownBlock ∧ (some k_ ≠ (.slice Ao29 t338.length co29 : Value).ownBlock ∧ (some k_ ≠ (.slice Ao33 t339.length co33 : Value).ownBlock ∧ (some k_ ≠ (.slice Ao36 t321.length co36 : Value).ownBlock ∧ some k_ ≠ (.slice Ao41 t324.length co41 : Value).ownBlock)))) ∧ some k_ ≠ (.slice Ao121 t345.length co121 : Value).ownBlock) ∧ some k_ ≠ (.slice Ao122 t348.length co122 : Value).ownBlock) ∧ some k_ ≠ (.slice Ao125 t351.length co125 : Value).ownBlock) ∧ some k_ ≠ (.slice Ao131 t354.length co131 : Value).ownBlock)) (n := t309.length) (c := co25) ?_).2.2; exact (by (with_reducible repeat (first | apply Kd.R_alloc | apply Kd.R_drewN | apply Kd.R_drew)); exact (Kd.R_mono (Kd.R_far (p := ⟨gb358, 1, none⟩) (Kd.R_far (p := ⟨gb358, 0, none⟩) (Kd.R_types HO_314001.out BK358.out (by decide)) (fun _ hk => hk.2) (.slice Ao125 t351.length co125)) (fun _ hk => hk.2) (.slice Ao131 t354.length co131)) (fun _ h_ => h_.1)))); (case side8 => exact (Kd.R_reads' HO_314001.out).2.1); rintro e w153 ⟨rfl, hb⟩; refine ⟨_, rfl, ?_⟩; replace HO_314000 := Aside0.mk (Kd.R_below (by (with_reducible repeat (first | apply Kd.R_alloc | apply Kd.R_drewN | apply Kd.R_drew)); exact (Kd.R_mono (Kd.R_far (p := ⟨gb358, 1, none⟩) (Kd.R_far (p := ⟨gb358, 0, none⟩) (Kd.R_types HO_314000.out BK358.out (by decide)) (fun _ hk => hk.2) (.slice Ao125 t351.length co125)) (fun _ hk => hk.2) (.slice Ao131 t354.length co131)) (fun _ h_ => h_.1))) hb); replace HO_314001 := Aside0.mk (Kd.R_below (by (with_reducible repeat (first | apply Kd.R_alloc | apply Kd.R_drewN | apply Kd.R_drew)); exact (Kd.R_mono (Kd.R_far (p := ⟨gb358, 1, none⟩) (Kd.R_far (p := ⟨gb358, 0, none⟩) (Kd.R_types HO_314001.out BK358.out (by decide)) (fun _ hk => hk.2) (.slice Ao125 t351.length co125)) (fun _ hk => hk.2) (.slice Ao131 t354.length co131)) (fun _ h_ => h_.1))) hb); replace HO_321000 := Aside0.mk (Kd.R_below (by (with_reducible repeat (first | apply Kd.R_alloc | apply Kd.R_drewN | apply Kd.R_drew)); exact (Kd.R_mono (Kd.R_far (p := ⟨gb358, 1, none⟩) (Kd.R_far (p := ⟨gb358, 0, none⟩) (Kd.R_types HO_321000.out BK358.out (by decide)) (fun _ hk => hk.2) (.slice Ao125 t351.length co125)) (fun _ hk => hk.2) (.slice Ao131 t354.length co131)) (fun _ h_ => h_.1))) hb); replace HO_321001 := Aside0.mk (Kd.R_below (by (with_reducible repeat (first | apply Kd.R_alloc | apply Kd.R_drewN | apply Kd.R_drew)); exact (Kd.R_mono (Kd.R_far (p := ⟨gb358, 1, none⟩) (Kd.R_far (p := ⟨gb358, 0, none⟩) (Kd.R_types HO_321001.out BK358.out (by decide)) (fun _ hk => hk.2) (.slice Ao125 t351.length co125)) (fun _ hk => hk.2) (.slice Ao131 t354.length co131)) (fun _ h_ => h_.1))) hb); replace HO_329000 := Aside0.mk (Kd.R_below (by (with_reducible repeat (first | apply Kd.R_alloc | apply Kd.R_drewN | apply Kd.R_drew)); exact (Kd.R_mono (Kd.R_far (p := ⟨gb358, 1, none⟩) (Kd.R_far (p := ⟨gb358, 0, none⟩) (Kd.R_types HO_329000.out BK358.out (by decide)) (fun _ hk => hk.2) (.slice Ao125 t351.length co125)) (fun _ hk => hk.2) (.slice Ao131 t354.length co131)) (fun _ h_ => h_.1))) hb); replace HO_329001 := Aside0.mk (Kd.R_below (by (with_reducible repeat (first | apply Kd.R_alloc | apply Kd.R_drewN | apply Kd.R_drew)); exact (Kd.R_mono (Kd.R_far (p := ⟨gb358, 1, none⟩) (Kd.R_far (p := ⟨gb358, 0, none⟩) (Kd.R_types HO_329001.out BK358.out (by decide)) (fun _ hk => hk.2) (.slice Ao125 t351.length co125)) (fun _ hk => hk.2) (.slice Ao131 t354.length co131)) (fun _ h_ => h_.1))) hb); replace HO347 := Aside0.mk (Kd.R_below (by (with_reducible repeat (first | apply Kd.R_alloc | apply Kd.R_drewN | apply Kd.R_drew)); exact (Kd.R_mono (Kd.R_far (p := ⟨gb358, 1, none⟩) (Kd.R_far (p := ⟨gb358, 0, none⟩) (Kd.R_types HO347.out BK358.out (by decide)) (fun _ hk => hk.2) (.slice Ao125 t351.length co125)) (fun _ hk => hk.2) (.slice Ao131 t354.length co131)) (fun _ h_ => h_.1))) hb); replace HO350 := Aside0.mk (Kd.R_below (by (with_reducible repeat (first | apply Kd.R_alloc | apply Kd.R_drewN | apply Kd.R_drew)); exact (Kd.R_mono (Kd.R_far (p := ⟨gb358, 1, none⟩) (Kd.R_far (p := ⟨gb358, 0, none⟩) (Kd.R_types HO350.out BK358.out (by decide)) (fun _ hk => hk.2) (.slice Ao125 t351.length co125)) (fun _ hk => hk.2) (.slice Ao131 t354.length co131)) (fun _ h_ => h_.1))) hb); replace HO353 := Aside0.mk (Kd.R_below (by (with_reducible repeat (first | apply Kd.R_alloc | apply Kd.R_drewN | apply Kd.R_drew)); exact (Kd.R_mono (Kd.R_far (p := ⟨gb358, 1, none⟩) (Kd.R_far (p := ⟨gb358, 0, none⟩) (Kd.R_types HO353.out BK358.out (by decide)) (fun _ hk => hk.2) (.slice Ao125 t351.length co125)) (fun _ hk => hk.2) (.slice Ao131 t354.length co131)) (fun _ h_ => h_.1))) hb); replace HO356 := Aside0.mk (Kd.R_below (by (with_reducible repeat (first | apply Kd.R_alloc | apply Kd.R_drewN | apply Kd.R_drew)); exact (Kd.R_mono (Kd.R_far (p := ⟨gb358, 1, none⟩) (Kd.R_far (p := ⟨gb358, 0, none⟩) (Kd.R_types HO356.out BK358.out (by decide)) (fun _ hk => hk.2) (.slice Ao125 t351.length co125)) (fun _ hk => hk.2) (.slice Ao131 t354.length co131)) (fun _ h_ => h_.1))) hb); replace BK298 := Aside0.mk (blk_below (g := gb298) (o := .cells #[.slice A0_0 l0_0.length c0_0, .slice A0_1 l0_1.length c0_1] 24 (0, 0)) (by (with_reducible repeat (first | refine blk_drewN ?_ _ | refine blk_drew ?_ | refine blk_alloc ?_ _)); refine blk_far ?_ NB298_358.out _; (with_reducible repeat (first | refine blk_drewN ?_ _ | refine blk_drew ?_ | refine blk_alloc ?_ _)); refine blk_far ?_ NB298_358.out _; (with_reducible repeat (first | refine blk_drewN ?_ _ | refine blk_drew ?_ | refine blk_alloc ?_ _)); exact BK298.out) hb); replace BK313 := Aside0.mk (blk_below (g := gb313) (o := .cells #[.slice Ao22 t306.length co22, .slice Ao25 t309.length co25] 27 (0, 0)) (by (with_reducible repeat (first | refine blk_drewN ?_ _ | refine blk_drew ?_ | refine blk_alloc ?_ _)); refine blk_far ?_ NB313_358.out _; (with_reducible repeat (first | refine blk_drewN ?_ _ | refine blk_drew ?_ | refine blk_alloc ?_ _)); refine blk_far ?_ NB313_358.out _; (with_reducible repeat (first | refine blk_drewN ?_ _ | refine blk_drew ?_ | refine blk_alloc ?_ _)); exact BK313.out) hb); replace BK320 := Aside0.mk (blk_below (g := gb320) (o := .cells #[.slice Ao29 t338.length co29, .slice Ao33 t339.length co33] 27 (0, 0)) (by (with_reducible repeat (first | refine blk_drewN ?_ _ | refine blk_drew ?_ | refine blk_alloc ?_ _)); refine blk_far ?_ NB320_358.out _; (with_reducible repeat (first | refine blk_drewN ?_ _ | refine blk_drew ?_ | refine blk_alloc ?_ _)); refine blk_far ?_ NB320_358.out _; (with_reducible repeat (first | refine blk_drewN ?_ _ | refine blk_drew ?_ | refine blk_alloc ?_ _)); exact BK320.out) hb); replace BK328 := Aside0.mk (blk_below (g := gb328) (o := .cells #[.slice Ao36 t321.length co36, .slice Ao41 t324.length co41] 27 (0, 0)) (by (with_reducible repeat (first | refine blk_drewN ?_ _ | refine blk_drew ?_ | refine blk_alloc ?_ _)); refine blk_far ?_ NB328_358.out _; (with_reducible repeat (first | refine blk_drewN ?_ _ | refine blk_drew ?_ | refine blk_alloc ?_ _)); refine blk_far ?_ NB328_358.out _; (with_reducible repeat (first | refine blk_drewN ?_ _ | refine blk_drew ?_ | refine blk_alloc ?_ _)); exact BK328.out) hb); replace BK358 := Aside0.mk (blk_below (g := gb358) (o := .cells #[.slice Ao125 t351.length co125, .slice Ao131 t354.length co131] 27 (0, 0)) (by (with_reducible repeat (first | refine blk_drewN ?_ _ | refine blk_drew ?_ | refine blk_alloc ?_ _)); refine blk_put (cs := #[.slice Ao125 t351.length co125, .slice none 0 0]) ?_ 1 _ rfl; (with_reducible repeat (first | refine blk_drewN ?_ _ | refine blk_drew ?_ | refine blk_alloc ?_ _)); refine blk_put (cs := #[.slice none 0 0, .slice none 0 0]) ?_ 0 _ rfl; (with_reducible repeat (first | refine blk_drewN ?_ _ | refine blk_drew ?_ | refine blk_alloc ?_ _)); exact BK358.out) hb); replace HB := Aside0.mk (below_step (tB HB.out) hb); (try clear hb); (try clear hb2); (try clear hk); (try clear hi)))
             go_meet
             case rel => exact ⟨_, (true), (by first | rfl | (simp; done) | (simp [wrap64]; done) | (simp [*]; done)), H', ⟨by have := HJ11.out; have := HJ64.out; first | omega | exact Nat.le_refl _⟩, ⟨by (try simp only [hl321000_64]); (try simp only [hl321001_64]); (with_reducible repeat (first | apply Kd.R_alloc | apply Kd.R_drewN | apply Kd.R_drew)); exact Kd.R_mono HO_314000.out (fun _ hk => ⟨hk.1.1.1.1.1, ⟨hk.1.1.1.1.2.1, ⟨hk.1.1.1.1.2.2.1, ⟨hk.1.1.1.1.2.2.2.1, ⟨hk.1.1.1.1.2.2.2.2, ⟨hk.1.2, hk.2⟩⟩⟩⟩⟩⟩)⟩, ⟨by (try simp only [hl321000_64]); (try simp only [hl321001_64]); (with_reducible repeat (first | apply Kd.R_alloc | apply Kd.R_drewN | apply Kd.R_drew)); exact Kd.R_mono HO_314001.out (fun _ hk => ⟨hk.1.1.1.1.1, ⟨hk.1.1.1.1.2.1, ⟨hk.1.1.1.1.2.2.1, ⟨hk.1.1.1.1.2.2.2.1, ⟨hk.1.1.1.1.2.2.2.2, ⟨hk.1.2, hk.2⟩⟩⟩⟩⟩⟩)⟩, ⟨by (try simp only [hl321000_64]); (try simp only [hl321001_64]); (with_reducible repeat (first | apply Kd.R_alloc | apply Kd.R_drewN | apply Kd.R_drew)); exact Kd.R_mono HO_321000.out (fun _ hk => ⟨hk.1.1.1.1.1, ⟨hk.1.1.1.1.2.1, ⟨hk.1.1.1.1.2.2.1, ⟨hk.1.1.1.1.2.2.2.1, ⟨hk.1.1.1.1.2.2.2.2, ⟨hk.1.2, hk.2⟩⟩⟩⟩⟩⟩)⟩, ⟨by (try simp only [hl321000_64]); (try simp only [hl321001_64]); (with_reducible repeat (first | apply Kd.R_alloc | apply Kd.R_drewN | apply Kd.R_drew)); exact Kd.R_mono HO_321001.out (fun _ hk => ⟨hk.1.1.1.1.1, ⟨hk.1.1.1.1.2.1, ⟨hk.1.1.1.1.2.2.1, ⟨hk.1.1.1.1.2.2.2.1, ⟨hk.1.1.1.1.2.2.2.2, ⟨hk.1.2, hk.2⟩⟩⟩⟩⟩⟩)⟩, ⟨by (try simp only [hl321000_64]); (try simp only [hl321001_64]); (with_reducible repeat (first | apply Kd.R_alloc | apply Kd.R_drewN | apply Kd.R_drew)); exact Kd.R_mono HO_329000.out (fun _ hk => ⟨hk.1.1.1.1.1, ⟨hk.1.1.1.1.2.1, ⟨hk.1.1.1.1.2.2.1, ⟨hk.1.1.1.1.2.2.2.1, ⟨hk.1.1.1.1.2.2.2.2, ⟨hk.1.2, hk.2⟩⟩⟩⟩⟩⟩)⟩, ⟨by (try simp only [hl321000_64]); (try simp only [hl321001_64]); (with_reducible repeat (first | apply Kd.R_alloc | apply Kd.R_drewN | apply Kd.R_drew)); exact Kd.R_mono HO_329001.out (fun _ hk => ⟨hk.1.1.1.1.1, ⟨hk.1.1.1.1.2.1, ⟨hk.1.1.1.1.2.2.1, ⟨hk.1.1.1.1.2.2.2.1, ⟨hk.1.1.1.1.2.2.2.2, ⟨hk.1.2, hk.2⟩⟩⟩⟩⟩⟩)⟩, ⟨by (try simp only [hl321000_64]); (try simp only [hl321001_64]); (with_reducible repeat (first | apply Kd.R_alloc | apply Kd.R_drewN | apply Kd.R_drew)); exact Kd.R_mono HO353.out (fun _ hk => ⟨hk.1.1.1.1.1.1.1.2, ⟨hk.1.1.1.1.1.1.2, ⟨hk.1.1.1.1.1.2, ⟨hk.1.1.1.1.2, ⟨hk.1.1.1.2, ⟨hk.1.1.2, hk.1.1.1.1.1.1.1.1⟩⟩⟩⟩⟩⟩)⟩, ⟨by (try simp only [hl321000_64]); (try simp only [hl321001_64]); (with_reducible repeat (first | apply Kd.R_alloc | apply Kd.R_drewN | apply Kd.R_drew)); exact Kd.R_mono HO356.out (fun _ hk => ⟨hk.1.1.1.1.1.1.1.2, ⟨hk.1.1.1.1.1.1.2, ⟨hk.1.1.1.1.1.2, ⟨hk.1.1.1.1.2, ⟨hk.1.1.1.2, ⟨hk.1.1.2, hk.1.1.1.1.1.1.1.1⟩⟩⟩⟩⟩⟩)⟩, ⟨by (try simp only [hl321000_64]); (try simp only [hl321001_64]); (with_reducible repeat (first | refine blk_drewN ?_ _ | refine blk_drew ?_ | refine blk_alloc ?_ _)); exact BK298.out⟩, ⟨by (try simp only [hl321000_64]); (try simp only [hl321001_64]); (with_reducible repeat (first | refine blk_drewN ?_ _ | refine blk_drew ?_ | refine blk_alloc ?_ _)); exact BK313.out⟩, ⟨by (try simp only [hl321000_64]); (try simp only [hl321001_64]); (with_reducible repeat (first | refine blk_drewN ?_ _ | refine blk_drew ?_ | refine blk_alloc ?_ _)); exact BK320.out⟩, ⟨by (try simp only [hl321000_64]); (try simp only [hl321001_64]); (with_reducible repeat (first | refine blk_drewN ?_ _ | refine blk_drew ?_ | refine blk_alloc ?_ _)); exact BK328.out⟩, ⟨by (try simp only [hl321000_64]); (try simp only [hl321001_64]); (with_reducible repeat (first | refine blk_drewN ?_ _ | refine blk_drew ?_ | refine blk_alloc ?_ _)); exact BK358.out⟩, ⟨tB HB.out⟩⟩
           case rest =>
            clear HC109
            try clear c1
            try clear c2
            try clear p2
            try clear c3
            try clear c4
            try clear c4b0
            try clear c5
            try clear c6
            try clear p6
            try clear c7
            try clear c8
            try clear c9
            try clear c10
            try clear c11
            try clear c12
            try clear c13
            try clear c14
            try clear c15
            try clear c17
            try clear c19
            try clear c23
            try clear c24
            try clear c25
            try clear c30
            try clear c31
            try clear c37
            try clear c38
            try clear c39
            try clear c43
            try clear c44
            try clear c45
            try clear c46
            try clear c47
            try clear c48
            try clear c49
            try clear c52
            try clear c53
            try clear c54
            try clear c56
            try clear c57
            try clear c60
            try clear c63
            try clear p64
            try clear c71
            try clear c72
            try clear c73
            try clear c76
            try clear c76b0
            try clear c78
            try clear c79
            try clear c80
            try clear c81
            try clear c83
            try clear c84
            try clear c87
            try clear c88
            try clear c89
            try clear c91
            try clear c92
            try clear c95
            try clear c98
            try clear c98b0
            try clear c99
            try clear c100
            try clear c101
            try clear c106
            try clear c106b0
            try clear c106b1
            try clear c110
            try clear c111
            try clear c112
            try clear c117
            try clear c118
            try clear c126
            try clear c127
            try clear c128
            try clear c129
            try clear c133
            try clear c134
            try clear c135
            try clear c136
            try clear c137
            try clear c139
            try clear c140
            try clear c141
            try clear c144
            try clear c145
            try clear c146
            try clear c147
            try clear c149
            try clear c150
            try clear c151
            try clear hcz102_0
            try clear hcz102_1
            try clear hcz104_0
            try clear hcz104_1
            try clear hcz113_0
            try clear hcz113_1
            try clear hcz115_0
            try clear hcz115_1
            try clear hcz119_0
            try clear hcz119_1
            try clear hcz130_0
            try clear hcz130_1
            try clear hcz138_0
            try clear hcz138_1
            try clear hcz142_0
            try clear hcz142_1
            try clear hcz148_0
            try clear hcz148_1
            try clear hcz14_0
            try clear hcz14_1
            try clear hcz152_0
            try clear hcz152_1
            try clear hcz16_0
            try clear hcz16_1
            try clear hcz24_0
            try clear hcz24_1
            try clear hcz26_0
            try clear hcz26_1
            try clear hcz32_0
            try clear hcz32_1
            try clear hcz40_0
            try clear hcz40_1
            try clear hcz47_0
            try clear hcz47_1
            try clear hcz50_0
            try clear hcz50_1
            try clear hcz55_0
            try clear hcz55_1
            try clear hcz58_0
            try clear hcz58_1
            try clear hcz6_0
            try clear hcz6_1
            try clear hcz74_0
            try clear hcz74_1
            try clear hcz82_0
            try clear hcz82_1
            try clear hcz85_0
            try clear hcz85_1
            try clear hcz90_0
            try clear hcz90_1
            try clear hcz93_0
            try clear hcz93_1
            try clear hfz102_0
            try clear hfz102_1
            try clear hfz104_0
            try clear hfz104_1
            try clear hfz113_0
            try clear hfz113_1
            try clear hfz115_0
            try clear hfz115_1
            try clear hfz119_0
            try clear hfz119_1
            try clear hfz130_0
            try clear hfz130_1
            try clear hfz138_0
            try clear hfz138_1
            try clear hfz142_0
            try clear hfz142_1
            try clear hfz148_0
            try clear hfz148_1
            try clear hfz14_0
            try clear hfz14_1
            try clear hfz152_0
            try clear hfz152_1
            try clear hfz16_0
            try clear hfz16_1
            try clear hfz24_0
            try clear hfz24_1
            try clear hfz26_0
            try clear hfz26_1
            try clear hfz32_0
            try clear hfz32_1
            try clear hfz40_0
            try clear hfz40_1
            try clear hfz47_0
            try clear hfz47_1
            try clear hfz50_0
            try clear hfz50_1
            try clear hfz55_0
            try clear hfz55_1
            try clear hfz58_0
            try clear hfz58_1
            try clear hfz6_0
            try clear hfz6_1
            try clear hfz74_0
            try clear hfz74_1
            try clear hfz82_0
            try clear hfz82_1
            try clear hfz85_0
            try clear hfz85_1
            try clear hfz90_0
            try clear hfz90_1
            try clear hfz93_0
            try clear hfz93_1
            try clear p2
            try clear p6
            try clear p64
            obtain ⟨kq, x92_108, rfl, HA, HJ108, HO_314000, HO_314001, HO_321000, HO_321001, HO_329000, HO_329001, HO_359000, HO_359001, BK298, BK313, BK320, BK328, BK358, HB⟩ := hcut
            have hl329000_108 := (Kd.R_reads' HO_329000.out).1
            rw [hl329000_108] at HO_329000
            (try simp only [hl329000_108])
            (try simp only [hl329000_108] at BK298)
            (try simp only [hl329000_108] at BK313)
            (try simp only [hl329000_108] at BK320)
            (try simp only [hl329000_108] at BK328)
            (try simp only [hl329000_108] at BK358)
            (try simp only [hl329000_108] at HO_314000)
            (try simp only [hl329000_108] at HO_314001)
            (try simp only [hl329000_108] at HO_321000)
            (try simp only [hl329000_108] at HO_321001)
            (try simp only [hl329000_108] at HO_329001)
            (try simp only [hl329000_108] at HO_359000)
            (try simp only [hl329000_108] at HO_359001)
            have hl329001_108 := (Kd.R_reads' HO_329001.out).1
            rw [hl329001_108] at HO_329001
            (try simp only [hl329001_108])
            (try simp only [hl329001_108] at BK298)
            (try simp only [hl329001_108] at BK313)
            (try simp only [hl329001_108] at BK320)
            (try simp only [hl329001_108] at BK328)
            (try simp only [hl329001_108] at BK358)
            (try simp only [hl329001_108] at HO_314000)
            (try simp only [hl329001_108] at HO_314001)
            (try simp only [hl329001_108] at HO_321000)
            (try simp only [hl329001_108] at HO_321001)
            (try simp only [hl329001_108] at HO_329000)
            (try simp only [hl329001_108] at HO_359000)
            (try simp only [hl329001_108] at HO_359001)
            cases kq with
            | zero => exact absurd HA.out (by simp [laws_FnExactCutRod.j2])
            | succ kj108 =>
             have H := HA.out
             clear HA
             simp only [laws_FnExactCutRod.j2] at H
             by_cases c154 : x92_108 = true
             ·
              subst c154
              have H1 : (some false) = some r := by rw [if_pos rfl] at H; exact H
              clear H
              have H := H1
              clear H1
              obtain rfl := Option.some.inj H
              go_wp2
              go_ret
              exact ⟨by first | rfl | (simp [errW_none, errW_some] <;> rfl) | (simp [*, errW_none, errW_some] <;> rfl), tB HB.out⟩
             ·
              replace c154 := Bool.eq_false_iff.mpr c154
              subst c154
              have H1 : ((laws_heldMobile.f kj108 t342 t343 1).bind fun t360 => (if t360 < 0 then (some false) else (if t360 = t341 then (some true) else (some false)))) = some r := by rw [if_neg (show ¬ (false = true) by decide)] at H; exact H
              clear H
              have H := H1
              clear H1
              replace H := Option.bind_eq_some_iff.mp H
              obtain ⟨t360, A1550, H⟩ := H
              replace H : (if t360 < 0 then (some false) else (if t360 = t341 then (some true) else (some false))) = some r := H
              have A155 := Aside0.mk A1550
              clear A1550
              by_cases c156 : t360 < 0
              ·
               rw [if_pos c156] at H
               have c156b0 : decide (t360 < 0) = true := decide_eq_true c156
               clear c156
               obtain rfl := Option.some.inj H
               have hnb157 := NB328_298.out
               have hnc157 := NB298_328.out
               have hnb158 := NB328_313.out
               have hnc158 := NB313_328.out
               have hnb159 := NB328_320.out
               have hnc159 := NB320_328.out
               have hnb160 := NB328_358.out
               have hnc160 := NB358_328.out
               obtain ⟨hcz161_0, hfz161_0, hcz161_1, hfz161_1⟩ := cz2 BK328
               go_wp2_with (first | ((with_reducible refine gate_callee (f := 25) rfl ?_); refine goesL_ (some 95) rfl rfl Try.func25 (by kernel_rfl) rfl #[.agg #[.slice Ao36 t342.length co36, .slice Ao41 t343.length co41], .int .i64 1] rfl tM ?_; (with_reducible refine (laws_heldMobile.calls kj108 _ _ t342 _ _ t343 1 t360 _ ?side1 ?side2 ?side3 ?side4 A155.out).mono ?_); (case side1 => exact tC (Kd.R_reads' HO_329000.out).2.2); (case side2 => exact (Kd.R_reads' HO_329000.out).2.1); (case side3 => exact tC (Kd.R_reads' HO_329001.out).2.2); (case side4 => exact (Kd.R_reads' HO_329001.out).2.1); rintro e w162 ⟨rfl, hb⟩; refine ⟨_, rfl, ?_⟩; replace HO_314000 := Aside0.mk (Kd.R_below (tR HO_314000.out) hb); replace HO_314001 := Aside0.mk (Kd.R_below (tR HO_314001.out) hb); replace HO_321000 := Aside0.mk (Kd.R_below (tR HO_321000.out) hb); replace HO_321001 := Aside0.mk (Kd.R_below (tR HO_321001.out) hb); replace HO_329000 := Aside0.mk (Kd.R_below (tR HO_329000.out) hb); replace HO_329001 := Aside0.mk (Kd.R_below (tR HO_329001.out) hb); replace HO_359000 := Aside0.mk (Kd.R_below (tR HO_359000.out) hb); replace HO_359001 := Aside0.mk (Kd.R_below (tR HO_359001.out) hb); replace BK298 := bkB BK298 hb; replace BK313 := bkB BK313 hb; replace BK320 := bkB BK320 hb; replace BK328 := bkB BK328 hb; replace BK358 := bkB BK358 hb; replace HB := Aside0.mk (below_step (tB HB.out) hb); (try clear hb); (try clear hb2); (try clear hk); (try clear hi)))
               go_ret
               exact ⟨by first | rfl | (simp [errW_none, errW_some] <;> rfl) | (simp [*, errW_none, errW_some] <;> rfl), tB HB.out⟩
              ·
               rw [if_neg c156] at H
               have c156b0 : decide (t360 < 0) = false := decide_eq_false c156
               clear c156
               by_cases c163 : t360 = t341
               ·
                rw [if_pos c163] at H
                have c163b0 : (t360 == t341) = true := beq_iff_eq.mpr c163
                have c163b1 : (t360 != t341) = false := bne_eq_false_iff_eq.mpr c163
                clear c163
                obtain rfl := Option.some.inj H
                have hnb164 := NB328_298.out
                have hnc164 := NB298_328.out
                have hnb165 := NB328_313.out
                have hnc165 := NB313_328.out
                have hnb166 := NB328_320.out
                have hnc166 := NB320_328.out
                have hnb167 := NB328_358.out
                have hnc167 := NB358_328.out
                obtain ⟨hcz168_0, hfz168_0, hcz168_1, hfz168_1⟩ := cz2 BK328
                go_wp2_with (first | ((with_reducible refine gate_callee (f := 25) rfl ?_); refine goesL_ (some 95) rfl rfl Try.func25 (by kernel_rfl) rfl #[.agg #[.slice Ao36 t342.length co36, .slice Ao41 t343.length co41], .int .i64 1] rfl tM ?_; (with_reducible refine (laws_heldMobile.calls kj108 _ _ t342 _ _ t343 1 t360 _ ?side1 ?side2 ?side3 ?side4 A155.out).mono ?_); (case side1 => exact tC (Kd.R_reads' HO_329000.out).2.2); (case side2 => exact (Kd.R_reads' HO_329000.out).2.1); (case side3 => exact tC (Kd.R_reads' HO_329001.out).2.2); (case side4 => exact (Kd.R_reads' HO_329001.out).2.1); rintro e w169 ⟨rfl, hb⟩; refine ⟨_, rfl, ?_⟩; replace HO_314000 := Aside0.mk (Kd.R_below (tR HO_314000.out) hb); replace HO_314001 := Aside0.mk (Kd.R_below (tR HO_314001.out) hb); replace HO_321000 := Aside0.mk (Kd.R_below (tR HO_321000.out) hb); replace HO_321001 := Aside0.mk (Kd.R_below (tR HO_321001.out) hb); replace HO_329000 := Aside0.mk (Kd.R_below (tR HO_329000.out) hb); replace HO_329001 := Aside0.mk (Kd.R_below (tR HO_329001.out) hb); replace HO_359000 := Aside0.mk (Kd.R_below (tR HO_359000.out) hb); replace HO_359001 := Aside0.mk (Kd.R_below (tR HO_359001.out) hb); replace BK298 := bkB BK298 hb; replace BK313 := bkB BK313 hb; replace BK320 := bkB BK320 hb; replace BK328 := bkB BK328 hb; replace BK358 := bkB BK358 hb; replace HB := Aside0.mk (below_step (tB HB.out) hb); (try clear hb); (try clear hb2); (try clear hk); (try clear hi)))
                go_ret
                exact ⟨by first | rfl | (simp [errW_none, errW_some] <;> rfl) | (simp [*, errW_none, errW_some] <;> rfl), tB HB.out⟩
               ·
                rw [if_neg c163] at H
                have c163b0 : (t360 == t341) = false := beq_eq_false_iff_ne.mpr c163
                have c163b1 : (t360 != t341) = true := bne_iff_ne.mpr c163
                obtain rfl := Option.some.inj H
                have hnb170 := NB328_298.out
                have hnc170 := NB298_328.out
                have hnb171 := NB328_313.out
                have hnc171 := NB313_328.out
                have hnb172 := NB328_320.out
                have hnc172 := NB320_328.out
                have hnb173 := NB328_358.out
                have hnc173 := NB358_328.out
                obtain ⟨hcz174_0, hfz174_0, hcz174_1, hfz174_1⟩ := cz2 BK328
                go_wp2_with (first | ((with_reducible refine gate_callee (f := 25) rfl ?_); refine goesL_ (some 95) rfl rfl Try.func25 (by kernel_rfl) rfl #[.agg #[.slice Ao36 t342.length co36, .slice Ao41 t343.length co41], .int .i64 1] rfl tM ?_; (with_reducible refine (laws_heldMobile.calls kj108 _ _ t342 _ _ t343 1 t360 _ ?side1 ?side2 ?side3 ?side4 A155.out).mono ?_); (case side1 => exact tC (Kd.R_reads' HO_329000.out).2.2); (case side2 => exact (Kd.R_reads' HO_329000.out).2.1); (case side3 => exact tC (Kd.R_reads' HO_329001.out).2.2); (case side4 => exact (Kd.R_reads' HO_329001.out).2.1); rintro e w175 ⟨rfl, hb⟩; refine ⟨_, rfl, ?_⟩; replace HO_314000 := Aside0.mk (Kd.R_below (tR HO_314000.out) hb); replace HO_314001 := Aside0.mk (Kd.R_below (tR HO_314001.out) hb); replace HO_321000 := Aside0.mk (Kd.R_below (tR HO_321000.out) hb); replace HO_321001 := Aside0.mk (Kd.R_below (tR HO_321001.out) hb); replace HO_329000 := Aside0.mk (Kd.R_below (tR HO_329000.out) hb); replace HO_329001 := Aside0.mk (Kd.R_below (tR HO_329001.out) hb); replace HO_359000 := Aside0.mk (Kd.R_below (tR HO_359000.out) hb); replace HO_359001 := Aside0.mk (Kd.R_below (tR HO_359001.out) hb); replace BK298 := bkB BK298 hb; replace BK313 := bkB BK313 hb; replace BK320 := bkB BK320 hb; replace BK328 := bkB BK328 hb; replace BK358 := bkB BK358 hb; replace HB := Aside0.mk (below_step (tB HB.out) hb); (try clear hb); (try clear hb2); (try clear hk); (try clear hi)))
                go_ret
                exact ⟨by first | rfl | (simp [errW_none, errW_some] <;> rfl) | (simp [*, errW_none, errW_some] <;> rfl), tB HB.out⟩
          ·
           rw [if_neg c106] at H
           have c106b0 : (t344 == t341) = false := beq_eq_false_iff_ne.mpr c106
           have c106b1 : (t344 != t341) = true := bne_iff_ne.mpr c106
           obtain rfl := Option.some.inj H
           have hnb176 := NB328_298.out
           have hnc176 := NB298_328.out
           have hnb177 := NB328_313.out
           have hnc177 := NB313_328.out
           have hnb178 := NB328_320.out
           have hnc178 := NB320_328.out
           obtain ⟨hcz179_0, hfz179_0, hcz179_1, hfz179_1⟩ := cz2 BK328
           go_wp2_with (first | ((with_reducible refine gate_callee (f := 24) rfl ?_); refine goesL_ (some 68) rfl rfl Try.func24 (by kernel_rfl) rfl #[.agg #[.slice Ao36 t321.length co36, .slice Ao41 t324.length co41], .int .i64 1] rfl tM ?_; (with_reducible refine (laws_markMobile.calls kj64 (fun k_ => some k_ = (.slice Ao36 t321.length co36 : Value).ownBlock) (.slice Ao36 t321.length co36) t321 (fun k_ => some k_ = (.slice Ao41 t324.length co41 : Value).ownBlock) (.slice Ao41 t324.length co41) t324 1 t341 t342 t343 w _ ?side1 ?side2 ?side3 ?side4 ?side5 A96.out).mono ?_); (case side1 => repeat (first | (with_reducible first | exact HB.out | apply below_alloc | apply pw_below_drewN | apply below_drew1 | refine below_set ?_ GE298.out | refine below_set ?_ GE313.out | refine below_set ?_ GE320.out | refine below_set ?_ GE328.out) | exact HB.out)); (case side2 => exact Kd.R_tight rfl HO_329000.out); (case side3 => exact fun k_ e_ => (HO_329000.out.1 k_ e_.symm).2.2.2.2); (case side4 => exact Kd.R_tight rfl HO_329001.out); (case side5 => exact fun k_ e_ => (HO_329001.out.1 k_ e_.symm).2.2.2.2); rintro e w180 ⟨rfl, hy0, hy1, hb, hkp⟩; refine ⟨_, rfl, ?_⟩; replace HO_314000 := Aside0.mk (Kd.R_mono (ok' := fun k_ => some k_ ≠ (.slice Ao25 t309.length co25 : Value).ownBlock ∧ some k_ ≠ (.slice Ao29 t338.length co29 : Value).ownBlock ∧ some k_ ≠ (.slice Ao33 t339.length co33 : Value).ownBlock ∧ some k_ ≠ (.slice Ao36 t321.length co36 : Value).ownBlock ∧ some k_ ≠ (.slice Ao41 t324.length co41 : Value).ownBlock) (Kd.R_keptB (HO_314000.out) hkp (fun k_ hk_ hs_ => Or.elim hs_ (fun e_ => (hk_.2.2.2.1) e_) (fun e_ => (hk_.2.2.2.2) e_))) (fun k_ hk_ => ⟨hk_.1.1, hk_.1.2.1, hk_.1.2.2.1, hk_.1.2.2.2.1, hk_.1.2.2.2.2⟩)); replace HO_314001 := Aside0.mk (Kd.R_mono (ok' := fun k_ => some k_ ≠ (.slice Ao22 t306.length co22 : Value).ownBlock ∧ some k_ ≠ (.slice Ao29 t338.length co29 : Value).ownBlock ∧ some k_ ≠ (.slice Ao33 t339.length co33 : Value).ownBlock ∧ some k_ ≠ (.slice Ao36 t321.length co36 : Value).ownBlock ∧ some k_ ≠ (.slice Ao41 t324.length co41 : Value).ownBlock) (Kd.R_keptB (HO_314001.out) hkp (fun k_ hk_ hs_ => Or.elim hs_ (fun e_ => (hk_.2.2.2.1) e_) (fun e_ => (hk_.2.2.2.2) e_))) (fun k_ hk_ => ⟨hk_.1.1, hk_.1.2.1, hk_.1.2.2.1, hk_.1.2.2.2.1, hk_.1.2.2.2.2⟩)); replace HO_321000 := Aside0.mk (Kd.R_mono (ok' := fun k_ => some k_ ≠ (.slice Ao22 t306.length co22 : Value).ownBlock ∧ some k_ ≠ (.slice Ao25 t309.length co25 : Value).ownBlock ∧ some k_ ≠ (.slice Ao33 t339.length co33 : Value).ownBlock ∧ some k_ ≠ (.slice Ao36 t321.length co36 : Value).ownBlock ∧ some k_ ≠ (.slice Ao41 t324.length co41 : Value).ownBlock) (Kd.R_keptB (HO_321000.out) hkp (fun k_ hk_ hs_ => Or.elim hs_ (fun e_ => (hk_.2.2.2.1) e_) (fun e_ => (hk_.2.2.2.2) e_))) (fun k_ hk_ => ⟨hk_.1.1, hk_.1.2.1, hk_.1.2.2.1, hk_.1.2.2.2.1, hk_.1.2.2.2.2⟩)); replace HO_321001 := Aside0.mk (Kd.R_mono (ok' := fun k_ => some k_ ≠ (.slice Ao22 t306.length co22 : Value).ownBlock ∧ some k_ ≠ (.slice Ao25 t309.length co25 : Value).ownBlock ∧ some k_ ≠ (.slice Ao29 t338.length co29 : Value).ownBlock ∧ some k_ ≠ (.slice Ao36 t321.length co36 : Value).ownBlock ∧ some k_ ≠ (.slice Ao41 t324.length co41 : Value).ownBlock) (Kd.R_keptB (HO_321001.out) hkp (fun k_ hk_ hs_ => Or.elim hs_ (fun e_ => (hk_.2.2.2.1) e_) (fun e_ => (hk_.2.2.2.2) e_))) (fun k_ hk_ => ⟨hk_.1.1, hk_.1.2.1, hk_.1.2.2.1, hk_.1.2.2.2.1, hk_.1.2.2.2.2⟩)); replace BK298 := Aside0.mk (blk_kept (tK BK298.out) hkp (fun hs_ => Or.elim hs_ (fun e_ => (fun e_ => (Kd.R_ne HO_329000.out BK298.out (by decide)) e_) e_) (fun e_ => (fun e_ => (Kd.R_ne HO_329001.out BK298.out (by decide)) e_) e_))); replace BK313 := Aside0.mk (blk_kept (tK BK313.out) hkp (fun hs_ => Or.elim hs_ (fun e_ => (fun e_ => (Kd.R_ne HO_329000.out BK313.out (by decide)) e_) e_) (fun e_ => (fun e_ => (Kd.R_ne HO_329001.out BK313.out (by decide)) e_) e_))); replace BK320 := Aside0.mk (blk_kept (tK BK320.out) hkp (fun hs_ => Or.elim hs_ (fun e_ => (fun e_ => (Kd.R_ne HO_329000.out BK320.out (by decide)) e_) e_) (fun e_ => (fun e_ => (Kd.R_ne HO_329001.out BK320.out (by decide)) e_) e_))); replace BK328 := Aside0.mk (blk_kept (tK BK328.out) hkp (fun hs_ => Or.elim hs_ (fun e_ => (fun e_ => (Kd.R_ne HO_329000.out BK328.out (by decide)) e_) e_) (fun e_ => (fun e_ => (Kd.R_ne HO_329001.out BK328.out (by decide)) e_) e_))); replace HO_329000 := Aside0.mk (Kd.R_reok rfl hy0 (fun k_ e_ => HO_329000.out.1 k_ e_)); replace HO_329001 := Aside0.mk (Kd.R_reok rfl hy1 (fun k_ e_ => HO_329001.out.1 k_ e_)); replace HB := Aside0.mk (hb); (try clear hb); (try clear hkp); (try clear hy0); (try clear hy1); obtain ⟨hcz181_0, hfz181_0, hcz181_1, hfz181_1⟩ := cz2 BK328) | ((with_reducible refine gate_callee (f := 25) rfl ?_); refine goesL_ (some 71) rfl rfl Try.func25 (by kernel_rfl) rfl #[.agg #[.slice Ao36 t342.length co36, .slice Ao41 t343.length co41], .int .i64 1] rfl (by (try simp only [List.map_toArray, List.map_cons, List.map_nil]); first | done | (rw [show t342.length = t321.length from (Kd.R_reads' HO_329000.out).1.symm, show t343.length = t324.length from (Kd.R_reads' HO_329001.out).1.symm] <;> rfl) | rfl | (simp only [List.length_drop, List.length_take]; rfl)) ?_; (with_reducible refine (laws_heldMobile.calls kj64 _ _ t342 _ _ t343 1 t344 _ ?side1 ?side2 ?side3 ?side4 A97.out).mono ?_); (case side1 => exact tC (Kd.R_reads' HO_329000.out).2.2); (case side2 => rw [show t342.length = t321.length from (Kd.R_reads' HO_329000.out).1.symm]; exact (Kd.R_reads' HO_329000.out).2.1); (case side3 => exact tC (Kd.R_reads' HO_329001.out).2.2); (case side4 => rw [show t343.length = t324.length from (Kd.R_reads' HO_329001.out).1.symm]; exact (Kd.R_reads' HO_329001.out).2.1); rintro e w182 ⟨rfl, hb⟩; refine ⟨_, rfl, ?_⟩; replace HO_314000 := Aside0.mk (Kd.R_below (tR HO_314000.out) hb); replace HO_314001 := Aside0.mk (Kd.R_below (tR HO_314001.out) hb); replace HO_321000 := Aside0.mk (Kd.R_below (tR HO_321000.out) hb); replace HO_321001 := Aside0.mk (Kd.R_below (tR HO_321001.out) hb); replace HO_329000 := Aside0.mk (Kd.R_below (tR HO_329000.out) hb); replace HO_329001 := Aside0.mk (Kd.R_below (tR HO_329001.out) hb); replace BK298 := bkB BK298 hb; replace BK313 := bkB BK313 hb; replace BK320 := bkB BK320 hb; replace BK328 := bkB BK328 hb; replace HB := Aside0.mk (below_step (tB HB.out) hb); (try clear hb); (try clear hb2); (try clear hk); (try clear hi)))
           go_ret
           exact ⟨by first | rfl | (simp [errW_none, errW_some] <;> rfl) | (simp [*, errW_none, errW_some] <;> rfl), tB HB.out⟩
     ·
      replace c63 := Bool.eq_false_iff.mpr c63
      subst c63
      have H1 : (some false) = some r := by rw [if_neg (show ¬ (false = true) by decide)] at H; exact H
      clear H
      have H := H1
      clear H1
      obtain rfl := Option.some.inj H
      try go_wp2
      replace HO_314000 := Aside0.mk (Kd.R_drew HO_314000.out)
      replace HO_314001 := Aside0.mk (Kd.R_drew HO_314001.out)
      replace HO_321000 := Aside0.mk (Kd.R_drew HO_321000.out)
      replace HO_321001 := Aside0.mk (Kd.R_drew HO_321001.out)
      replace HO_329000 := Aside0.mk (Kd.R_drew HO_329000.out)
      replace HO_329001 := Aside0.mk (Kd.R_drew HO_329001.out)
      replace BK298 := Aside0.mk (blk_drew BK298.out)
      replace BK313 := Aside0.mk (blk_drew BK313.out)
      replace BK320 := Aside0.mk (blk_drew BK320.out)
      replace BK328 := Aside0.mk (blk_drew BK328.out)
      replace HB := Aside0.mk (below_drew1 HB.out)
      refine start_ (n := 5) (S := fun w' => w'.cell? ⟨gb320, 0, none⟩ = some (.slice Ao29 t314.length co29) ∧ w'.cell? ⟨gb320, 1, none⟩ = some (.slice Ao33 t317.length co33) ∧ w'.cell? ⟨gb298, 0, none⟩ = some (.slice A0_0 l0_0.length c0_0) ∧ w'.cell? ⟨gb298, 1, none⟩ = some (.slice A0_1 l0_1.length c0_1)) (ds := []) #[false, false, false, false, false] (by kernel_rfl) rfl rfl ⟨(blk_cell BK320.out 0).trans rfl, (blk_cell BK320.out 1).trans rfl, (blk_cell BK298.out 0).trans rfl, (blk_cell BK298.out 1).trans rfl⟩ (fun hHeld => ?_)
      generalize wc.drew = w183 at HO_314000 HO_314001 HO_321000 HO_321001 HO_329000 HO_329001 BK298 BK313 BK320 BK328 HB hHeld ⊢
      refine take_ (i := 0) (N := some 45) (v := ?_) (a' := ?_) #[true, false, false, false, false] rfl rfl (by kernel_rfl) (fun _ _ _ h => h) (Or.inl ⟨by rfl, ?_⟩) hHeld ?_ ?_
      rotate_left
      ·
       rintro w' ⟨s0, s1, s2, s3⟩
       go_simp
       with_reducible rfl
      rotate_left
      ·
       simp only [Act.put, List.setIfInBounds_toArray, List.set_cons_zero, List.set_cons_succ, i64_w, i32_w]
       rfl
      refine take_ (i := 1) (N := some 46) (v := ?_) (a' := ?_) #[true, true, false, false, false] rfl rfl (by kernel_rfl) (fun _ _ _ h => h) (Or.inl ⟨by rfl, ?_⟩) hHeld ?_ ?_
      rotate_left
      ·
       rintro w' ⟨s0, s1, s2, s3⟩
       go_simp
       with_reducible rfl
      rotate_left
      ·
       simp only [Act.put, List.setIfInBounds_toArray, List.set_cons_zero, List.set_cons_succ, i64_w, i32_w]
       rfl
      refine one_ (i := 2) (N := some 47) #[true, true, true, false, false] rfl rfl (by kernel_rfl) (by decide) (fun K hK => ?_)
      refine goes_ Try.func17 (by kernel_rfl) rfl #[.agg #[.slice A0_0 l0_0.length c0_0, .slice A0_1 l0_1.length c0_1]] (by rfl) rfl rfl tM ?_
      with_reducible refine (laws_toMobile.calls kj11 _ _ l0_0 _ _ l0_1 t330 t333 _ ?side1 ?side2 ?side3 ?side4 A61.out).mono ?_
      (case side1 => exact tC (Kd.C_below HR0_0.out HB.out))
      (case side2 => exact HC0_0.out)
      (case side3 => exact tC (Kd.C_below HR0_1.out HB.out))
      (case side4 => exact HC0_1.out)
      rintro e w184 ⟨v331, v334, rfl, ho0, ho1, hb⟩
      refine ⟨_, rfl, ?_⟩
      have HO332 := Aside0.mk (Kd.R_lower (Kd.R_new' (Kd.R_new' (Kd.R_new' (Kd.R_new' (Kd.R_new' (Kd.R_new' ho0 (Kd.R_lt (tR HO_314000.out))) (Kd.R_lt (tR HO_314001.out))) (Kd.R_lt (tR HO_321000.out))) (Kd.R_lt (tR HO_321001.out))) (Kd.R_lt (tR HO_329000.out))) (Kd.R_lt (tR HO_329001.out))) (below_size (tB HB.out)))
      have HO335 := Aside0.mk (Kd.R_lower (Kd.R_new' (Kd.R_new' (Kd.R_new' (Kd.R_new' (Kd.R_new' (Kd.R_new' ho1 (Kd.R_lt (tR HO_314000.out))) (Kd.R_lt (tR HO_314001.out))) (Kd.R_lt (tR HO_321000.out))) (Kd.R_lt (tR HO_321001.out))) (Kd.R_lt (tR HO_329000.out))) (Kd.R_lt (tR HO_329001.out))) (below_size (tB HB.out)))
      replace HO_314000 := Aside0.mk (Kd.R_mono (Kd.R_told (Kd.R_told (Kd.R_old (tR HO_314000.out) hb) (Kd.R_base ho0)) (Kd.R_base ho1)) (fun _ h_ => h_.1))
      replace HO_314001 := Aside0.mk (Kd.R_mono (Kd.R_told (Kd.R_told (Kd.R_old (tR HO_314001.out) hb) (Kd.R_base ho0)) (Kd.R_base ho1)) (fun _ h_ => h_.1))
      replace HO_321000 := Aside0.mk (Kd.R_mono (Kd.R_told (Kd.R_told (Kd.R_old (tR HO_321000.out) hb) (Kd.R_base ho0)) (Kd.R_base ho1)) (fun _ h_ => h_.1))
      replace HO_321001 := Aside0.mk (Kd.R_mono (Kd.R_told (Kd.R_told (Kd.R_old (tR HO_321001.out) hb) (Kd.R_base ho0)) (Kd.R_base ho1)) (fun _ h_ => h_.1))
      replace HO_329000 := Aside0.mk (Kd.R_mono (Kd.R_told (Kd.R_told (Kd.R_old (tR HO_329000.out) hb) (Kd.R_base ho0)) (Kd.R_base ho1)) (fun _ h_ => h_.1))
      replace HO_329001 := Aside0.mk (Kd.R_mono (Kd.R_told (Kd.R_told (Kd.R_old (tR HO_329001.out) hb) (Kd.R_base ho0)) (Kd.R_base ho1)) (fun _ h_ => h_.1))
      replace BK298 := bkB BK298 hb
      replace BK313 := bkB BK313 hb
      replace BK320 := bkB BK320 hb
      replace BK328 := bkB BK328 hb
      replace HB := Aside0.mk (below_step (tB HB.out) hb)
      (try clear hb)
      (try clear hb2)
      (try clear hk)
      (try clear hi)
      (try clear ho0)
      (try clear ho1)
      obtain ⟨Ao185, co185, eo185⟩ := Kd.R_slice HO332.out
      (first | subst eo185 | (injection eo185 with f1_ f2_ f3_; have f4_ := f1_.symm; have f5_ := f3_.symm; clear f1_ f2_ f3_; subst f4_; subst f5_))
      obtain ⟨Ao186, co186, eo186⟩ := Kd.R_slice HO335.out
      (first | subst eo186 | (injection eo186 with f1_ f2_ f3_; have f4_ := f1_.symm; have f5_ := f3_.symm; clear f1_ f2_ f3_; subst f4_; subst f5_))
      refine hK.out _ _ ⟨(blk_cell BK320.out 0).trans rfl, (blk_cell BK320.out 1).trans rfl, (blk_cell BK298.out 0).trans rfl, (blk_cell BK298.out 1).trans rfl⟩ (fun hHeld => ?_)
      clear hK K
      refine norm_ (a' := ?_) ?_ ?_
      rotate_left
      ·
       show Act.put _ (some 47) _ = _
       simp only [Act.put, List.setIfInBounds_toArray, List.set_cons_zero, List.set_cons_succ, i64_w, i32_w]
       rfl
      refine one_ (i := 3) (N := some 48) #[true, true, true, true, false] rfl rfl (by kernel_rfl) (by decide) (fun K hK => ?_)
      refine goes_ Try.func19 (by kernel_rfl) rfl #[.agg #[.slice Ao29 t314.length co29, .slice Ao33 t317.length co33], .agg #[.slice Ao185 t330.length co185, .slice Ao186 t333.length co186]] (by rfl) rfl rfl tM ?_
      with_reducible refine (laws_eqMobile.calls kj11 _ _ t314 _ _ t317 _ _ t330 _ _ t333 false _ ?side1 ?side2 ?side3 ?side4 ?side5 ?side6 ?side7 ?side8 A62.out).mono ?_
      (case side1 => exact tC (Kd.R_reads' HO_321000.out).2.2)
      (case side2 => exact (Kd.R_reads' HO_321000.out).2.1)
      (case side3 => exact tC (Kd.R_reads' HO_321001.out).2.2)
      (case side4 => exact (Kd.R_reads' HO_321001.out).2.1)
      (case side5 => exact tC (Kd.R_reads' HO332.out).2.2)
      (case side6 => exact (Kd.R_reads' HO332.out).2.1)
      (case side7 => exact tC (Kd.R_reads' HO335.out).2.2)
      (case side8 => exact (Kd.R_reads' HO335.out).2.1)
      rintro e w187 ⟨rfl, hb⟩
      refine ⟨_, rfl, ?_⟩
      replace HO_314000 := Aside0.mk (Kd.R_below (tR HO_314000.out) hb)
      replace HO_314001 := Aside0.mk (Kd.R_below (tR HO_314001.out) hb)
      replace HO_321000 := Aside0.mk (Kd.R_below (tR HO_321000.out) hb)
      replace HO_321001 := Aside0.mk (Kd.R_below (tR HO_321001.out) hb)
      replace HO_329000 := Aside0.mk (Kd.R_below (tR HO_329000.out) hb)
      replace HO_329001 := Aside0.mk (Kd.R_below (tR HO_329001.out) hb)
      replace HO332 := Aside0.mk (Kd.R_below (tR HO332.out) hb)
      replace HO335 := Aside0.mk (Kd.R_below (tR HO335.out) hb)
      replace BK298 := bkB BK298 hb
      replace BK313 := bkB BK313 hb
      replace BK320 := bkB BK320 hb
      replace BK328 := bkB BK328 hb
      replace HB := Aside0.mk (below_step (tB HB.out) hb)
      (try clear hb)
      (try clear hb2)
      (try clear hk)
      (try clear hi)
      refine hK.out _ _ ⟨(blk_cell BK320.out 0).trans rfl, (blk_cell BK320.out 1).trans rfl, (blk_cell BK298.out 0).trans rfl, (blk_cell BK298.out 1).trans rfl⟩ (fun hHeld => ?_)
      clear hK K
      refine norm_ (a' := ?_) ?_ ?_
      rotate_left
      ·
       show Act.put _ (some 48) _ = _
       simp only [Act.put, List.setIfInBounds_toArray, List.set_cons_zero, List.set_cons_succ, i64_w, i32_w]
       rfl
      refine pure_ (i := 4) (N := some 49) (v := ?_) (a' := ?_) #[true, true, true, true, true] rfl rfl (by kernel_rfl) (fun _ _ _ h => h) (Or.inl ⟨by rfl, ?_⟩) ?_ ?_
      rotate_left
      ·
       intro w'
       go_simp
       with_reducible rfl
      rotate_left
      ·
       simp only [Act.put, List.setIfInBounds_toArray, List.set_cons_zero, List.set_cons_succ, i64_w, i32_w]
       rfl
      refine done_ (by kernel_rfl) ?_
      try go_wp2
      go_ret
      exact ⟨by first | rfl | (simp [errW_none, errW_some] <;> rfl) | (simp [*, errW_none, errW_some] <;> rfl), tB HB.out⟩

end Go.Proofs.Ytbdajkfihbaapaa.PFnExactCutRod

/- Printed by the program print2.py over the translation: each function as a Lean function, and the proof that the call comes to its answer. -/
import Derived.Test.YtbdajkfihbaapaaPFnExactLevelArmsx0
import Derived.Test.YtbdajkfihbaapaaPFnExactLevelArmsx1
import Derived.Test.YtbdajkfihbaapaaPFnExactLevelArmsx2
import Derived.Test.YtbdajkfihbaapaaPFnExactLevelArmsx3
import Derived.Test.YtbdajkfihbaapaaPFnExactLevelArmsx6
import Derived.Test.YtbdajkfihbaapaaPFnExactLevelArmsx10
namespace Go.Proofs.Ytbdajkfihbaapaa.PFnExactLevelArms
open Go.RowKit Go.Proofs.YtbdajkfihbaapaaW.PrintWords Go.Proofs.YtbdajkfihbaapaaW.PrintLast Go.Proofs.YtbdajkfihbaapaaW.PrintMore
attribute [local go_sem] max2_int min2_int max_two min_two max_three min_three max_four min_four   -- for this text's walks alone
set_option linter.unusedVariables false
set_option linter.unusedSimpArgs false

/-! ### laws_FnExactLevelArms: function 10 -/
mutual
def laws_FnExactLevelArms.j0 : Nat → Bool → Bool → Bool → List (S58) → List (S58) → List (S58) → List (S58) → List (S58) → List (S58) → List (S58) → List (S58) → Option (Bool)
 | 0, _, _, _, _, _, _, _, _, _, _, _ => none
 | k + 1, x5, x8, x40, x294000, x294001, x309000, x309001, x316000, x316001, x324000, x324001 => if x40 = true then (some false) else ((laws_toMobile.f k x294000 x294001).bind fun bt325 => ((laws_eqMobile.f k x316000 x316001 bt325.1 bt325.2).bind fun t331 => (if t331 = true then ((laws_markMobile.f k x316000 x316001 1).bind fun bt332 => (if bt332.1 < 0 then (laws_FnExactLevelArms.j1 k x5 true x294000 x294001 x309000 x309001 x324000 x324001) else ((laws_eqMobile.f k x324000 x324001 x309000 x309001).bind fun t335 => (if t335 = true then (laws_FnExactLevelArms.j1 k x5 (x8 != x5) x294000 x294001 x309000 x309001 x324000 x324001) else (laws_FnExactLevelArms.j1 k x5 true x294000 x294001 x309000 x309001 x324000 x324001))))) else (some false))))
def laws_FnExactLevelArms.j1 : Nat → Bool → Bool → List (S58) → List (S58) → List (S58) → List (S58) → List (S58) → List (S58) → Option (Bool)
 | 0, _, _, _, _, _, _, _, _ => none
 | k + 1, x5, x61, x294000, x294001, x309000, x309001, x324000, x324001 => if x61 = true then (some false) else ((laws_markMobile.f k x324000 x324001 1).bind fun bt336 => ((laws_heldMobile.f k bt336.2.1 bt336.2.2 1).bind fun t339 => (if t339 < 0 then (some false) else (if t339 = bt336.1 then ((laws_toMobile.f k x294000 x294001).bind fun bt340 => ((impl_LevelArms.f k bt340.1 bt340.2).bind fun bt346 => ((laws_eqMobile.f k bt346.1 bt346.2.1 x309000 x309001).bind fun t354 => (if t354 = true then (laws_FnExactLevelArms.j2 k bt336.1 (bt346.2.2 != x5) bt336.2.1 bt336.2.2) else (laws_FnExactLevelArms.j2 k bt336.1 true bt336.2.1 bt336.2.2))))) else (some false)))))
def laws_FnExactLevelArms.j2 : Nat → Int → Bool → List (S58) → List (S58) → Option (Bool)
 | 0, _, _, _, _ => none
 | k + 1, x10, x87, x324000, x324001 => if x87 = true then (some false) else ((laws_heldMobile.f k x324000 x324001 1).bind fun t355 => (if t355 < 0 then (some false) else (if t355 = x10 then (some true) else (some false))))
end
def laws_FnExactLevelArms.f (k : Nat) (l0_0 : List (S58)) (l0_1 : List (S58)) : Option (Bool) := (laws_szMobile.f l0_0 l0_1 1048576).bind fun t294 => (if t294 < 0 then (some true) else ((laws_toMobile.f k l0_0 l0_1).bind fun bt295 => ((spec_LevelArms.f k bt295.1 bt295.2).bind fun bt301 => ((laws_toMobile.f k l0_0 l0_1).bind fun bt309 => ((impl_LevelArms.f k bt309.1 bt309.2).bind fun bt316 => ((laws_eqMobile.f k bt316.1 bt316.2.1 bt301.1 bt301.2.1).bind fun t324 => (if t324 = true then (laws_FnExactLevelArms.j0 k bt301.2.2 bt316.2.2 (bt316.2.2 != bt301.2.2) l0_0 l0_1 bt301.1 bt301.2.1 bt309.1 bt309.2 bt316.1 bt316.2.1) else (laws_FnExactLevelArms.j0 k bt301.2.2 bt316.2.2 true l0_0 l0_1 bt301.1 bt301.2.1 bt309.1 bt309.2 bt316.1 bt316.2.1))))))))
theorem laws_FnExactLevelArms.mono_l : ∀ k, (∀ y0 y1 y2 y3 y4 y5 y6 y7 y8 y9 y10, LeO (laws_FnExactLevelArms.j0 k y0 y1 y2 y3 y4 y5 y6 y7 y8 y9 y10) (laws_FnExactLevelArms.j0 (k + 1) y0 y1 y2 y3 y4 y5 y6 y7 y8 y9 y10)) ∧ (∀ y0 y1 y2 y3 y4 y5 y6 y7, LeO (laws_FnExactLevelArms.j1 k y0 y1 y2 y3 y4 y5 y6 y7) (laws_FnExactLevelArms.j1 (k + 1) y0 y1 y2 y3 y4 y5 y6 y7)) ∧ (∀ y0 y1 y2 y3, LeO (laws_FnExactLevelArms.j2 k y0 y1 y2 y3) (laws_FnExactLevelArms.j2 (k + 1) y0 y1 y2 y3))
 | 0 => ⟨fun _ _ _ _ _ _ _ _ _ _ _ r h => by simp [laws_FnExactLevelArms.j0] at h, fun _ _ _ _ _ _ _ _ r h => by simp [laws_FnExactLevelArms.j1] at h, fun _ _ _ _ r h => by simp [laws_FnExactLevelArms.j2] at h⟩
 | k + 1 => by
  obtain ⟨ih0, ih1, ih2⟩ := laws_FnExactLevelArms.mono_l k
  refine ⟨?_, ?_, ?_⟩
  ·
   intro y0 y1 y2 y3 y4 y5 y6 y7 y8 y9 y10
   unfold laws_FnExactLevelArms.j0
   repeat' first
   | (with_reducible exact ih0 _ _ _ _ _ _ _ _ _ _ _)
   | (with_reducible exact ih1 _ _ _ _ _ _ _ _)
   | (with_reducible exact ih2 _ _ _ _)
   | (with_reducible exact impl_LevelArms.mono _ _ _)
   | (with_reducible exact laws_eqMobile.mono _ _ _ _ _)
   | (with_reducible exact laws_heldMobile.mono _ _ _ _)
   | (with_reducible exact laws_markMobile.mono _ _ _ _)
   | (with_reducible exact laws_toMobile.mono _ _ _)
   | (with_reducible exact spec_LevelArms.mono _ _ _)
   | (with_reducible exact LeO.refl _)
   | (with_reducible exact LeO.none _)
   | (with_reducible refine LeO.ite ?_ ?_)
   | (with_reducible refine LeO.bind ?_ (fun _ => ?_))
   | exact ih0 _ _ _ _ _ _ _ _ _ _ _
   | exact ih1 _ _ _ _ _ _ _ _
   | exact ih2 _ _ _ _
   | exact impl_LevelArms.mono _ _ _
   | exact laws_eqMobile.mono _ _ _ _ _
   | exact laws_heldMobile.mono _ _ _ _
   | exact laws_markMobile.mono _ _ _ _
   | exact laws_toMobile.mono _ _ _
   | exact spec_LevelArms.mono _ _ _
   | exact LeO.none _
   | refine LeO.ite ?_ ?_
   | refine LeO.bind ?_ (fun _ => ?_)
  ·
   intro y0 y1 y2 y3 y4 y5 y6 y7
   unfold laws_FnExactLevelArms.j1
   repeat' first
   | (with_reducible exact ih0 _ _ _ _ _ _ _ _ _ _ _)
   | (with_reducible exact ih1 _ _ _ _ _ _ _ _)
   | (with_reducible exact ih2 _ _ _ _)
   | (with_reducible exact impl_LevelArms.mono _ _ _)
   | (with_reducible exact laws_eqMobile.mono _ _ _ _ _)
   | (with_reducible exact laws_heldMobile.mono _ _ _ _)
   | (with_reducible exact laws_markMobile.mono _ _ _ _)
   | (with_reducible exact laws_toMobile.mono _ _ _)
   | (with_reducible exact spec_LevelArms.mono _ _ _)
   | (with_reducible exact LeO.refl _)
   | (with_reducible exact LeO.none _)
   | (with_reducible refine LeO.ite ?_ ?_)
   | (with_reducible refine LeO.bind ?_ (fun _ => ?_))
   | exact ih0 _ _ _ _ _ _ _ _ _ _ _
   | exact ih1 _ _ _ _ _ _ _ _
   | exact ih2 _ _ _ _
   | exact impl_LevelArms.mono _ _ _
   | exact laws_eqMobile.mono _ _ _ _ _
   | exact laws_heldMobile.mono _ _ _ _
   | exact laws_markMobile.mono _ _ _ _
   | exact laws_toMobile.mono _ _ _
   | exact spec_LevelArms.mono _ _ _
   | exact LeO.none _
   | refine LeO.ite ?_ ?_
   | refine LeO.bind ?_ (fun _ => ?_)
  ·
   intro y0 y1 y2 y3
   unfold laws_FnExactLevelArms.j2
   repeat' first
   | (with_reducible exact ih0 _ _ _ _ _ _ _ _ _ _ _)
   | (with_reducible exact ih1 _ _ _ _ _ _ _ _)
   | (with_reducible exact ih2 _ _ _ _)
   | (with_reducible exact impl_LevelArms.mono _ _ _)
   | (with_reducible exact laws_eqMobile.mono _ _ _ _ _)
   | (with_reducible exact laws_heldMobile.mono _ _ _ _)
   | (with_reducible exact laws_markMobile.mono _ _ _ _)
   | (with_reducible exact laws_toMobile.mono _ _ _)
   | (with_reducible exact spec_LevelArms.mono _ _ _)
   | (with_reducible exact LeO.refl _)
   | (with_reducible exact LeO.none _)
   | (with_reducible refine LeO.ite ?_ ?_)
   | (with_reducible refine LeO.bind ?_ (fun _ => ?_))
   | exact ih0 _ _ _ _ _ _ _ _ _ _ _
   | exact ih1 _ _ _ _ _ _ _ _
   | exact ih2 _ _ _ _
   | exact impl_LevelArms.mono _ _ _
   | exact laws_eqMobile.mono _ _ _ _ _
   | exact laws_heldMobile.mono _ _ _ _
   | exact laws_markMobile.mono _ _ _ _
   | exact laws_toMobile.mono _ _ _
   | exact spec_LevelArms.mono _ _ _
   | exact LeO.none _
   | refine LeO.ite ?_ ?_
   | refine LeO.bind ?_ (fun _ => ?_)
theorem laws_FnExactLevelArms.mono : ∀ a0 a1 k, LeO (laws_FnExactLevelArms.f k a0 a1) (laws_FnExactLevelArms.f (k + 1) a0 a1) := by
 intro a0 a1 k
 obtain ⟨ih0, ih1, ih2⟩ := laws_FnExactLevelArms.mono_l k
 unfold laws_FnExactLevelArms.f
 repeat' first
   | (with_reducible exact ih0 _ _ _ _ _ _ _ _ _ _ _)
   | (with_reducible exact ih1 _ _ _ _ _ _ _ _)
   | (with_reducible exact ih2 _ _ _ _)
   | (with_reducible exact impl_LevelArms.mono _ _ _)
   | (with_reducible exact laws_eqMobile.mono _ _ _ _ _)
   | (with_reducible exact laws_heldMobile.mono _ _ _ _)
   | (with_reducible exact laws_markMobile.mono _ _ _ _)
   | (with_reducible exact laws_toMobile.mono _ _ _)
   | (with_reducible exact spec_LevelArms.mono _ _ _)
   | (with_reducible exact LeO.refl _)
   | (with_reducible exact LeO.none _)
   | (with_reducible refine LeO.ite ?_ ?_)
   | (with_reducible refine LeO.bind ?_ (fun _ => ?_))
   | exact ih0 _ _ _ _ _ _ _ _ _ _ _
   | exact ih1 _ _ _ _ _ _ _ _
   | exact ih2 _ _ _ _
   | exact impl_LevelArms.mono _ _ _
   | exact laws_eqMobile.mono _ _ _ _ _
   | exact laws_heldMobile.mono _ _ _ _
   | exact laws_markMobile.mono _ _ _ _
   | exact laws_toMobile.mono _ _ _
   | exact spec_LevelArms.mono _ _ _
   | exact LeO.none _
   | refine LeO.ite ?_ ?_
   | refine LeO.bind ?_ (fun _ => ?_)
set_option maxHeartbeats 8000000 in
set_option maxRecDepth 100000 in
theorem laws_FnExactLevelArms.calls (k : Nat) (A0_0 : Option Addr) (c0_0 : Nat) (l0_0 : List (S58)) (A0_1 : Option Addr) (c0_1 : Nat) (l0_1 : List (S58)) (r : Bool) (w : World) (hr0_0 : Kd.C k58 w A0_0 l0_0.length l0_0) (hc0_0 : l0_0.length ≤ c0_0) (hr0_1 : Kd.C k58 w A0_1 l0_1.length l0_1) (hc0_1 : l0_1.length ≤ c0_1) (h : laws_FnExactLevelArms.f k l0_0 l0_1 = some r) :
  Calls Try.prog 10 #[.agg #[.slice A0_0 l0_0.length c0_0, .slice A0_1 l0_1.length c0_1]] w fun e w' => e = .returned (.bool r) ∧ Below w.heap.size w w' := by
 have hu24 := Try.underlying24
 have hu27 := Try.underlying27
 have HR0_0 := Aside0.mk hr0_0
 have HC0_0 := Aside0.mk hc0_0
 clear hr0_0 hc0_0
 have HR0_1 := Aside0.mk hr0_1
 have HC0_1 := Aside0.mk hc0_1
 clear hr0_1 hc0_1
 have HB := Aside0.mk (Below.refl w.heap.size w)
 have H : ((laws_szMobile.f l0_0 l0_1 1048576).bind fun t294 => (if t294 < 0 then (some true) else ((laws_toMobile.f k l0_0 l0_1).bind fun bt295 => ((spec_LevelArms.f k bt295.1 bt295.2).bind fun bt301 => ((laws_toMobile.f k l0_0 l0_1).bind fun bt309 => ((impl_LevelArms.f k bt309.1 bt309.2).bind fun bt316 => ((laws_eqMobile.f k bt316.1 bt316.2.1 bt301.1 bt301.2.1).bind fun t324 => (if t324 = true then (laws_FnExactLevelArms.j0 k bt301.2.2 bt316.2.2 (bt316.2.2 != bt301.2.2) l0_0 l0_1 bt301.1 bt301.2.1 bt309.1 bt309.2 bt316.1 bt316.2.1) else (laws_FnExactLevelArms.j0 k bt301.2.2 bt316.2.2 true l0_0 l0_1 bt301.1 bt301.2.1 bt309.1 bt309.2 bt316.1 bt316.2.1))))))))) = some r := h
 clear h
 replace H := Option.bind_eq_some_iff.mp H
 obtain ⟨t294, A20, H⟩ := H
 replace H : (if t294 < 0 then (some true) else ((laws_toMobile.f k l0_0 l0_1).bind fun bt295 => ((spec_LevelArms.f k bt295.1 bt295.2).bind fun bt301 => ((laws_toMobile.f k l0_0 l0_1).bind fun bt309 => ((impl_LevelArms.f k bt309.1 bt309.2).bind fun bt316 => ((laws_eqMobile.f k bt316.1 bt316.2.1 bt301.1 bt301.2.1).bind fun t324 => (if t324 = true then (laws_FnExactLevelArms.j0 k bt301.2.2 bt316.2.2 (bt316.2.2 != bt301.2.2) l0_0 l0_1 bt301.1 bt301.2.1 bt309.1 bt309.2 bt316.1 bt316.2.1) else (laws_FnExactLevelArms.j0 k bt301.2.2 bt316.2.2 true l0_0 l0_1 bt301.1 bt301.2.1 bt309.1 bt309.2 bt316.1 bt316.2.1)))))))) = some r := H
 have A2 := Aside0.mk A20
 clear A20
 by_cases c3 : t294 < 0
 ·
  rw [if_pos c3] at H
  have c3b0 : decide (t294 < 0) = true := decide_eq_true c3
  clear c3
  obtain rfl := Option.some.inj H
  go_enter Try.func10, Try.ntmps10
  go_wp2_with (first | ((with_reducible refine gate_dst (N := 1) rfl ?_); refine box_event ?hg (N := 1) ?hd (cs := #[.slice A0_0 l0_0.length c0_0, .slice A0_1 l0_1.length c0_1]) (t := 24) ?hr ?_; (case hd => rfl); (case hg => rfl); (case hr => first | (go_simp; done) | (go_simp; rfl)); intro gb293 hg w4 hbox hb; have BK293 := Aside0.mk (hbox); have GW293 := Aside0.mk (bS HB.out hg); have GE293 := Aside0.mk (bS HB.out hg); replace HB := Aside0.mk (below_step (tB HB.out) hb); clear hb hbox hg; obtain ⟨hcz5_0, hfz5_0, hcz5_1, hfz5_1⟩ := cz2 BK293) | ((with_reducible refine gate_callee (f := 15) rfl ?_); refine goesL_ (some 16) rfl rfl Try.func15 (by kernel_rfl) rfl #[.agg #[.slice A0_0 l0_0.length c0_0, .slice A0_1 l0_1.length c0_1], .int .i64 1048576] rfl tM ?_; (with_reducible refine (laws_szMobile.calls _ _ l0_0 _ _ l0_1 1048576 t294 _ ?side1 ?side2 ?side3 ?side4 A2.out).mono ?_); (case side1 => exact tC (Kd.C_below HR0_0.out HB.out)); (case side2 => exact HC0_0.out); (case side3 => exact tC (Kd.C_below HR0_1.out HB.out)); (case side4 => exact HC0_1.out); rintro e w6 ⟨rfl, hb⟩; refine ⟨_, rfl, ?_⟩; replace BK293 := bkB BK293 hb; replace HB := Aside0.mk (below_step (tB HB.out) hb); (try clear hb); (try clear hb2); (try clear hk); (try clear hi)))
  go_ret
  exact ⟨by first | rfl | (simp [errW_none, errW_some] <;> rfl) | (simp [*, errW_none, errW_some] <;> rfl), tB HB.out⟩
 ·
  rw [if_neg c3] at H
  have c3b0 : decide (t294 < 0) = false := decide_eq_false c3
  clear c3
  replace H := Option.bind_eq_some_iff.mp H
  obtain ⟨⟨t295, t298⟩, A70, H⟩ := H
  replace H : ((spec_LevelArms.f k t295 t298).bind fun bt301 => ((laws_toMobile.f k l0_0 l0_1).bind fun bt309 => ((impl_LevelArms.f k bt309.1 bt309.2).bind fun bt316 => ((laws_eqMobile.f k bt316.1 bt316.2.1 bt301.1 bt301.2.1).bind fun t324 => (if t324 = true then (laws_FnExactLevelArms.j0 k bt301.2.2 bt316.2.2 (bt316.2.2 != bt301.2.2) l0_0 l0_1 bt301.1 bt301.2.1 bt309.1 bt309.2 bt316.1 bt316.2.1) else (laws_FnExactLevelArms.j0 k bt301.2.2 bt316.2.2 true l0_0 l0_1 bt301.1 bt301.2.1 bt309.1 bt309.2 bt316.1 bt316.2.1)))))) = some r := H
  have A7 := Aside0.mk A70
  clear A70
  replace H := Option.bind_eq_some_iff.mp H
  obtain ⟨⟨t301, t304, t307⟩, A80, H⟩ := H
  replace H : ((laws_toMobile.f k l0_0 l0_1).bind fun bt309 => ((impl_LevelArms.f k bt309.1 bt309.2).bind fun bt316 => ((laws_eqMobile.f k bt316.1 bt316.2.1 t301 t304).bind fun t324 => (if t324 = true then (laws_FnExactLevelArms.j0 k t307 bt316.2.2 (bt316.2.2 != t307) l0_0 l0_1 t301 t304 bt309.1 bt309.2 bt316.1 bt316.2.1) else (laws_FnExactLevelArms.j0 k t307 bt316.2.2 true l0_0 l0_1 t301 t304 bt309.1 bt309.2 bt316.1 bt316.2.1))))) = some r := H
  have A8 := Aside0.mk A80
  clear A80
  replace H := Option.bind_eq_some_iff.mp H
  obtain ⟨⟨t309, t312⟩, A90, H⟩ := H
  replace H : ((impl_LevelArms.f k t309 t312).bind fun bt316 => ((laws_eqMobile.f k bt316.1 bt316.2.1 t301 t304).bind fun t324 => (if t324 = true then (laws_FnExactLevelArms.j0 k t307 bt316.2.2 (bt316.2.2 != t307) l0_0 l0_1 t301 t304 t309 t312 bt316.1 bt316.2.1) else (laws_FnExactLevelArms.j0 k t307 bt316.2.2 true l0_0 l0_1 t301 t304 t309 t312 bt316.1 bt316.2.1)))) = some r := H
  have A9 := Aside0.mk A90
  clear A90
  replace H := Option.bind_eq_some_iff.mp H
  obtain ⟨⟨t316, t319, t322⟩, A100, H⟩ := H
  replace H : ((laws_eqMobile.f k t316 t319 t301 t304).bind fun t324 => (if t324 = true then (laws_FnExactLevelArms.j0 k t307 t322 (t322 != t307) l0_0 l0_1 t301 t304 t309 t312 t316 t319) else (laws_FnExactLevelArms.j0 k t307 t322 true l0_0 l0_1 t301 t304 t309 t312 t316 t319))) = some r := H
  have A10 := Aside0.mk A100
  clear A100
  have HC11 := Aside0.mk H
  clear H
  go_enter Try.func10, Try.ntmps10
  go_upto_region 8 with (first | ((with_reducible refine gate_dst (N := 1) rfl ?_); refine box_event ?hg (N := 1) ?hd (cs := #[.slice A0_0 l0_0.length c0_0, .slice A0_1 l0_1.length c0_1]) (t := 24) ?hr ?_; (case hd => rfl); (case hg => rfl); (case hr => first | (go_simp; done) | (go_simp; rfl)); intro gb293 hg w12 hbox hb; have BK293 := Aside0.mk (hbox); have GW293 := Aside0.mk (bS HB.out hg); have GE293 := Aside0.mk (bS HB.out hg); replace HB := Aside0.mk (below_step (tB HB.out) hb); clear hb hbox hg; obtain ⟨hcz13_0, hfz13_0, hcz13_1, hfz13_1⟩ := cz2 BK293) | ((with_reducible refine gate_callee (f := 15) rfl ?_); refine goesL_ (some 16) rfl rfl Try.func15 (by kernel_rfl) rfl #[.agg #[.slice A0_0 l0_0.length c0_0, .slice A0_1 l0_1.length c0_1], .int .i64 1048576] rfl tM ?_; (with_reducible refine (laws_szMobile.calls _ _ l0_0 _ _ l0_1 1048576 t294 _ ?side1 ?side2 ?side3 ?side4 A2.out).mono ?_); (case side1 => exact tC (Kd.C_below HR0_0.out HB.out)); (case side2 => exact HC0_0.out); (case side3 => exact tC (Kd.C_below HR0_1.out HB.out)); (case side4 => exact HC0_1.out); rintro e w14 ⟨rfl, hb⟩; refine ⟨_, rfl, ?_⟩; replace BK293 := bkB BK293 hb; replace HB := Aside0.mk (below_step (tB HB.out) hb); (try clear hb); (try clear hb2); (try clear hk); (try clear hi); obtain ⟨hcz15_0, hfz15_0, hcz15_1, hfz15_1⟩ := cz2 BK293) | ((with_reducible refine gate_callee (f := 17) rfl ?_); refine goesL_ (some 21) rfl rfl Try.func17 (by kernel_rfl) rfl #[.agg #[.slice A0_0 l0_0.length c0_0, .slice A0_1 l0_1.length c0_1]] rfl tM ?_; (with_reducible refine (laws_toMobile.calls k _ _ l0_0 _ _ l0_1 t295 t298 _ ?side1 ?side2 ?side3 ?side4 A7.out).mono ?_); (case side1 => exact tC (Kd.C_below HR0_0.out HB.out)); (case side2 => exact HC0_0.out); (case side3 => exact tC (Kd.C_below HR0_1.out HB.out)); (case side4 => exact HC0_1.out); rintro e w16 ⟨v296, v299, rfl, ho0, ho1, hb⟩; refine ⟨_, rfl, ?_⟩; have HO297 := Aside0.mk (Kd.R_lower ho0 (below_size (tB HB.out))); have HO300 := Aside0.mk (Kd.R_lower ho1 (below_size (tB HB.out))); replace BK293 := bkB BK293 hb; replace HB := Aside0.mk (below_step (tB HB.out) hb); (try clear hb); (try clear hb2); (try clear hk); (try clear hi); (try clear ho0); (try clear ho1); obtain ⟨Ao17, co17, eo17⟩ := Kd.R_slice HO297.out; subst eo17; obtain ⟨Ao18, co18, eo18⟩ := Kd.R_slice HO300.out; subst eo18) | ((with_reducible refine gate_callee (f := 37) rfl ?_); refine goesL_ (some 22) rfl rfl Try.func37 (by kernel_rfl) rfl #[.agg #[.slice Ao17 t295.length co17, .slice Ao18 t298.length co18]] rfl tM ?_; (with_reducible refine (spec_LevelArms.calls k _ _ t295 _ _ t298 t301 t304 t307 _ ?side1 ?side2 ?side3 ?side4 A8.out).mono ?_); (case side1 => exact tC (Kd.R_reads' HO297.out).2.2); (case side2 => exact (Kd.R_reads' HO297.out).2.1); (case side3 => exact tC (Kd.R_reads' HO300.out).2.2); (case side4 => exact (Kd.R_reads' HO300.out).2.1); rintro e w19 ⟨v302, v305, rfl, ho0, ho1, hb⟩; refine ⟨_, rfl, ?_⟩; have HO303 := Aside0.mk (Kd.R_lower (Kd.R_new' (Kd.R_new' ho0 (Kd.R_lt (tR HO297.out))) (Kd.R_lt (tR HO300.out))) (below_size (tB HB.out))); have HO306 := Aside0.mk (Kd.R_lower (Kd.R_new' (Kd.R_new' ho1 (Kd.R_lt (tR HO297.out))) (Kd.R_lt (tR HO300.out))) (below_size (tB HB.out))); replace HO297 := Aside0.mk (Kd.R_mono (Kd.R_told (Kd.R_told (Kd.R_old (tR HO297.out) hb) (Kd.R_base ho0)) (Kd.R_base ho1)) (fun _ h_ => h_.1)); replace HO300 := Aside0.mk (Kd.R_mono (Kd.R_told (Kd.R_told (Kd.R_old (tR HO300.out) hb) (Kd.R_base ho0)) (Kd.R_base ho1)) (fun _ h_ => h_.1)); replace BK293 := bkB BK293 hb; replace HB := Aside0.mk (below_step (tB HB.out) hb); (try clear hb); (try clear hb2); (try clear hk); (try clear hi); (try clear ho0); (try clear ho1)) | ((with_reducible refine gate_dst (N := 4) rfl ?_); refine box_event ?hg (N := 4) ?hd (cs := #[.slice none 0 0, .slice none 0 0]) (t := 27) ?hr ?_; (case hd => rfl); (case hg => rfl); (case hr => first | (go_simp; done) | (go_simp; rfl)); intro gb308 hg w20 hbox hb; replace HO297 := Aside0.mk (Kd.R_below (tR HO297.out) hb); replace HO300 := Aside0.mk (Kd.R_below (tR HO300.out) hb); replace HO303 := Aside0.mk (Kd.R_below (tR HO303.out) hb); replace HO306 := Aside0.mk (Kd.R_below (tR HO306.out) hb); have BK308 := Aside0.mk (hbox); have GW308 := Aside0.mk (bS HB.out hg); have GE308 := Aside0.mk (bS HB.out hg); replace HB := Aside0.mk (below_step (tB HB.out) hb); have NB293_308 := Aside0.mk (nL BK293.out hg); have NB308_293 := Aside0.mk (nG BK293.out hg); replace BK293 := bkB BK293 hb; clear hb hbox hg; obtain ⟨Ao21, co21, eo21⟩ := Kd.R_slice HO303.out; subst eo21; have hnb22 := NB308_293.out; have hnc22 := NB293_308.out; obtain ⟨hcz23_0, hfz23_0, hcz23_1, hfz23_1⟩ := cz2 BK308; obtain ⟨Ao24, co24, eo24⟩ := Kd.R_slice HO306.out; subst eo24; obtain ⟨hcz25_0, hfz25_0, hcz25_1, hfz25_1⟩ := cz2 BK293) | ((with_reducible refine gate_callee (f := 17) rfl ?_); refine goesL_ (some 26) rfl rfl Try.func17 (by kernel_rfl) rfl #[.agg #[.slice A0_0 l0_0.length c0_0, .slice A0_1 l0_1.length c0_1]] rfl tM ?_; (with_reducible refine (laws_toMobile.calls k _ _ l0_0 _ _ l0_1 t309 t312 _ ?side1 ?side2 ?side3 ?side4 A9.out).mono ?_); (case side1 => exact Kd.C_below HR0_0.out (tB HB.out)); (case side2 => exact HC0_0.out); (case side3 => exact Kd.C_below HR0_1.out (tB HB.out)); (case side4 => exact HC0_1.out); rintro e w26 ⟨v310, v313, rfl, ho0, ho1, hb⟩; refine ⟨_, rfl, ?_⟩; have HO311 := Aside0.mk (Kd.R_lower (Kd.R_new' (Kd.R_new' (Kd.R_new' (Kd.R_new' ho0 (Kd.R_lt (by (with_reducible repeat (first | apply Kd.R_alloc | apply Kd.R_drewN | apply Kd.R_drew)); exact (Kd.R_mono (Kd.R_far (p := ⟨gb308, 1, none⟩) (Kd.R_far (p := ⟨gb308, 0, none⟩) (Kd.R_types HO297.out BK308.out (by decide)) (fun _ hk => hk.2) (.slice Ao21 t301.length co21)) (fun _ hk => hk.2) (.slice Ao24 t304.length co24)) (fun _ h_ => h_.1))))) (Kd.R_lt (by (with_reducible repeat (first | apply Kd.R_alloc | apply Kd.R_drewN | apply Kd.R_drew)); exact (Kd.R_mono (Kd.R_far (p := ⟨gb308, 1, none⟩) (Kd.R_far (p := ⟨gb308, 0, none⟩) (Kd.R_types HO300.out BK308.out (by decide)) (fun _ hk => hk.2) (.slice Ao21 t301.length co21)) (fun _ hk => hk.2) (.slice Ao24 t304.length co24)) (fun _ h_ => h_.1))))) (Kd.R_lt (by (with_reducible repeat (first | apply Kd.R_alloc | apply Kd.R_drewN | apply Kd.R_drew)); exact (Kd.R_mono (Kd.R_far (p := ⟨gb308, 1, none⟩) (Kd.R_far (p := ⟨gb308, 0, none⟩) (Kd.R_types HO303.out BK308.out (by decide)) (fun _ hk => hk.2) (.slice Ao21 t301.length co21)) (fun _ hk => hk.2) (.slice Ao24 t304.length co24)) (fun _ h_ => h_.1))))) (Kd.R_lt (by (with_reducible repeat (first | apply Kd.R_alloc | apply Kd.R_drewN | apply Kd.R_drew)); exact (Kd.R_mono (Kd.R_far (p := ⟨gb308, 1, none⟩) (Kd.R_far (p := ⟨gb308, 0, none⟩) (Kd.R_types HO306.out BK308.out (by decide)) (fun _ hk => hk.2) (.slice Ao21 t301.length co21)) (fun _ hk => hk.2) (.slice Ao24 t304.length co24)) (fun _ h_ => h_.1))))) (below_size (tB HB.out))); have HO314 := Aside0.mk (Kd.R_lower (Kd.R_new' (Kd.R_new' (Kd.R_new' (Kd.R_new' ho1 (Kd.R_lt (by (with_reducible repeat (first | apply Kd.R_alloc | apply Kd.R_drewN | apply Kd.R_drew)); exact (Kd.R_mono (Kd.R_far (p := ⟨gb308, 1, none⟩) (Kd.R_far (p := ⟨gb308, 0, none⟩) (Kd.R_types HO297.out BK308.out (by decide)) (fun _ hk => hk.2) (.slice Ao21 t301.length co21)) (fun _ hk => hk.2) (.slice Ao24 t304.length co24)) (fun _ h_ => h_.1))))) (Kd.R_lt (by (with_reducible repeat (first | apply Kd.R_alloc | apply Kd.R_drewN | apply Kd.R_drew)); exact (Kd.R_mono (Kd.R_far (p := ⟨gb308, 1, none⟩) (Kd.R_far (p := ⟨gb308, 0, none⟩) (Kd.R_types HO300.out BK308.out (by decide)) (fun _ hk => hk.2) (.slice Ao21 t301.length co21)) (fun _ hk => hk.2) (.slice Ao24 t304.length co24)) (fun _ h_ => h_.1))))) (Kd.R_lt (by (with_reducible repeat (first | apply Kd.R_alloc | apply Kd.R_drewN | apply Kd.R_drew)); exact (Kd.R_mono (Kd.R_far (p := ⟨gb308, 1, none⟩) (Kd.R_far (p := ⟨gb308, 0, none⟩) (Kd.R_types HO303.out BK308.out (by decide)) (fun _ hk => hk.2) (.slice Ao21 t301.length co21)) (fun _ hk => hk.2) (.slice Ao24 t304.length co24)) (fun _ h_ => h_.1))))) (Kd.R_lt (by (with_reducible repeat (first | apply Kd.R_alloc | apply Kd.R_drewN | apply Kd.R_drew)); exact (Kd.R_mono (Kd.R_far (p := ⟨gb308, 1, none⟩) (Kd.R_far (p := ⟨gb308, 0, none⟩) (Kd.R_types HO306.out BK308.out (by decide)) (fun _ hk => hk.2) (.slice Ao21 t301.length co21)) (fun _ hk => hk.2) (.slice Ao24 t304.length co24)) (fun _ h_ => h_.1))))) (below_size (tB HB.out))); replace HO297 := Aside0.mk (Kd.R_mono (Kd.R_told (Kd.R_told (Kd.R_old (by (with_reducible repeat (first | apply Kd.R_alloc | apply Kd.R_drewN | apply Kd.R_drew)); exact (Kd.R_mono (Kd.R_far (p := ⟨gb308, 1, none⟩) (Kd.R_far (p := ⟨gb308, 0, none⟩) (Kd.R_types HO297.out BK308.out (by decide)) (fun _ hk => hk.2) (.slice Ao21 t301.length co21)) (fun _ hk => hk.2) (.slice Ao24 t304.length co24)) (fun _ h_ => h_.1))) hb) (Kd.R_base ho0)) (Kd.R_base ho1)) (fun _ h_ => h_.1)); replace HO300 := Aside0.mk (Kd.R_mono (Kd.R_told (Kd.R_told (Kd.R_old (by (with_reducible repeat (first | apply Kd.R_alloc | apply Kd.R_drewN | apply Kd.R_drew)); exact (Kd.R_mono (Kd.R_far (p := ⟨gb308, 1, none⟩) (Kd.R_far (p := ⟨gb308, 0, none⟩) (Kd.R_types HO300.out BK308.out (by decide)) (fun _ hk => hk.2) (.slice Ao21 t301.length co21)) (fun _ hk => hk.2) (.slice Ao24 t304.length co24)) (fun _ h_ => h_.1))) hb) (Kd.R_base ho0)) (Kd.R_base ho1)) (fun _ h_ => h_.1)); replace HO303 := Aside0.mk (Kd.R_mono (Kd.R_told (Kd.R_told (Kd.R_old (by (with_reducible repeat (first | apply Kd.R_alloc | apply Kd.R_drewN | apply Kd.R_drew)); exact (Kd.R_mono (Kd.R_far (p := ⟨gb308, 1, none⟩) (Kd.R_far (p := ⟨gb308, 0, none⟩) (Kd.R_types HO303.out BK308.out (by decide)) (fun _ hk => hk.2) (.slice Ao21 t301.length co21)) (fun _ hk => hk.2) (.slice Ao24 t304.length co24)) (fun _ h_ => h_.1))) hb) (Kd.R_base ho0)) (Kd.R_base ho1)) (fun _ h_ => h_.1)); replace HO306 := Aside0.mk (Kd.R_mono (Kd.R_told (Kd.R_told (Kd.R_old (by (with_reducible repeat (first | apply Kd.R_alloc | apply Kd.R_drewN | apply Kd.R_drew)); exact (Kd.R_mono (Kd.R_far (p := ⟨gb308, 1, none⟩) (Kd.R_far (p := ⟨gb308, 0, none⟩) (Kd.R_types HO306.out BK308.out (by decide)) (fun _ hk => hk.2) (.slice Ao21 t301.length co21)) (fun _ hk => hk.2) (.slice Ao24 t304.length co24)) (fun _ h_ => h_.1))) hb) (Kd.R_base ho0)) (Kd.R_base ho1)) (fun _ h_ => h_.1)); replace BK293 := Aside0.mk (blk_below (g := gb293) (o := .cells #[.slice A0_0 l0_0.length c0_0, .slice A0_1 l0_1.length c0_1] 24 (0, 0)) (by (with_reducible repeat (first | refine blk_drewN ?_ _ | refine blk_drew ?_ | refine blk_alloc ?_ _)); refine blk_far ?_ NB293_308.out _; (with_reducible repeat (first | refine blk_drewN ?_ _ | refine blk_drew ?_ | refine blk_alloc ?_ _)); refine blk_far ?_ NB293_308.out _; (with_reducible repeat (first | refine blk_drewN ?_ _ | refine blk_drew ?_ | refine blk_alloc ?_ _)); exact BK293.out) hb); replace BK308 := Aside0.mk (blk_below (g := gb308) (o := .cells #[.slice Ao21 t301.length co21, .slice Ao24 t304.length co24] 27 (0, 0)) (by (with_reducible repeat (first | refine blk_drewN ?_ _ | refine blk_drew ?_ | refine blk_alloc ?_ _)); refine blk_put (cs := #[.slice Ao21 t301.length co21, .slice none 0 0]) ?_ 1 _ rfl; (with_reducible repeat (first | refine blk_drewN ?_ _ | refine blk_drew ?_ | refine blk_alloc ?_ _)); refine blk_put (cs := #[.slice none 0 0, .slice none 0 0]) ?_ 0 _ rfl; (with_reducible repeat (first | refine blk_drewN ?_ _ | refine blk_drew ?_ | refine blk_alloc ?_ _)); exact BK308.out) hb); replace HB := Aside0.mk (below_step (tB HB.out) hb); (try clear hb); (try clear hb2); (try clear hk); (try clear hi); (try clear ho0); (try clear ho1)) | ((with_reducible refine gate_dst (N := 6) rfl ?_); refine box_event ?hg (N := 6) ?hd (cs := #[.slice none 0 0, .slice none 0 0]) (t := 27) ?hr ?_; (case hd => rfl); (case hg => rfl); (case hr => first | (go_simp; done) | (go_simp; rfl)); intro gb315 hg w27 hbox hb; replace HO297 := Aside0.mk (Kd.R_below (tR HO297.out) hb); replace HO300 := Aside0.mk (Kd.R_below (tR HO300.out) hb); replace HO303 := Aside0.mk (Kd.R_below (tR HO303.out) hb); replace HO306 := Aside0.mk (Kd.R_below (tR HO306.out) hb); replace HO311 := Aside0.mk (Kd.R_below (tR HO311.out) hb); replace HO314 := Aside0.mk (Kd.R_below (tR HO314.out) hb); have BK315 := Aside0.mk (hbox); have GW315 := Aside0.mk (bS HB.out hg); have GE315 := Aside0.mk (bS HB.out hg); replace HB := Aside0.mk (below_step (tB HB.out) hb); have NB293_315 := Aside0.mk (nL BK293.out hg); have NB315_293 := Aside0.mk (nG BK293.out hg); replace BK293 := bkB BK293 hb; have NB308_315 := Aside0.mk (nL BK308.out hg); have NB315_308 := Aside0.mk (nG BK308.out hg); replace BK308 := bkB BK308 hb; clear hb hbox hg; obtain ⟨Ao28, co28, eo28⟩ := Kd.R_slice HO311.out; subst eo28; have hnb29 := NB315_293.out; have hnc29 := NB293_315.out; have hnb30 := NB315_308.out; have hnc30 := NB308_315.out; obtain ⟨hcz31_0, hfz31_0, hcz31_1, hfz31_1⟩ := cz2 BK315; obtain ⟨Ao32, co32, eo32⟩ := Kd.R_slice HO314.out; subst eo32) | ((with_reducible refine gate_callee (f := 38) rfl ?_); refine goesL_ (some 29) rfl rfl Try.func38 (by kernel_rfl) rfl #[.agg #[.slice Ao28 t309.length co28, .slice Ao32 t312.length co32]] rfl tM ?_; (with_reducible refine (impl_LevelArms.calls k _ _ t309 _ _ t312 t316 t319 t322 _ ?side1 ?side2 ?side3 ?side4 A10.out).mono ?_); (case side1 => refine (Kd.R_reads' (e := 58) (base := w.heap.size) (ok := fun k_ => ((((some k_ ≠ (.slice Ao32 t312.length co32 : Value).ownBlock ∧ some k_ ≠ (.slice Ao17 t295.length co17 : Value).ownBlock) ∧ some k_ ≠ (.slice Ao18 t298.length co18 : Value).ownBlock) ∧ some k_ ≠ (.slice Ao21 t301.length co21 : Value).ownBlock) ∧ some k_ ≠ (.slice Ao24 t304.length co24 : Value).ownBlock)) (n := t309.length) (c := co28) ?_).2.2; exact (by (with_reducible repeat (first | apply Kd.R_alloc | apply Kd.R_drewN | apply Kd.R_drew)); exact (Kd.R_mono (Kd.R_far (p := ⟨gb315, 1, none⟩) (Kd.R_far (p := ⟨gb315, 0, none⟩) (Kd.R_types HO311.out BK315.out (by decide)) (fun _ hk => hk.2) (.slice Ao28 t309.length co28)) (fun _ hk => hk.2) (.slice Ao32 t312.length co32)) (fun _ h_ => h_.1)))); (case side2 => exact (Kd.R_reads' HO311.out).2.1); (case side3 => refine (Kd.R_reads' (e := 58) (base := w.heap.size) (ok := fun k_ => ((((some k_ ≠ (.slice Ao28 t309.length co28 : Value).ownBlock ∧ some k_ ≠ (.slice Ao17 t295.length co17 : Value).ownBlock) ∧ some k_ ≠ (.slice Ao18 t298.length co18 : Value).ownBlock) ∧ some k_ ≠ (.slice Ao21 t301.length co21 : Value).ownBlock) ∧ some k_ ≠ (.slice Ao24 t304.length co24 : Value).ownBlock)) (n := t312.length) (c := co32) ?_).2.2; exact (by (with_reducible repeat (first | apply Kd.R_alloc | apply Kd.R_drewN | apply Kd.R_drew)); exact (Kd.R_mono (Kd.R_far (p := ⟨gb315, 1, none⟩) (Kd.R_far (p := ⟨gb315, 0, none⟩) (Kd.R_types HO314.out BK315.out (by decide)) (fun _ hk => hk.2) (.slice Ao28 t309.length co28)) (fun _ hk => hk.2) (.slice Ao32 t312.length co32)) (fun _ h_ => h_.1)))); (case side4 => exact (Kd.R_reads' HO314.out).2.1); rintro e w33 ⟨v317, v320, rfl, ho0, ho1, hb⟩; refine ⟨_, rfl, ?_⟩; have HO318 := Aside0.mk (Kd.R_lower (Kd.R_new' (Kd.R_new' (Kd.R_new' (Kd.R_new' (Kd.R_new' (Kd.R_new' ho0 (Kd.R_lt (by (with_reducible repeat (first | apply Kd.R_alloc | apply Kd.R_drewN | apply Kd.R_drew)); exact (Kd.R_mono (Kd.R_far (p := ⟨gb315, 1, none⟩) (Kd.R_far (p := ⟨gb315, 0, none⟩) (Kd.R_types HO297.out BK315.out (by decide)) (fun _ hk => hk.2) (.slice Ao28 t309.length co28)) (fun _ hk => hk.2) (.slice Ao32 t312.length co32)) (fun _ h_ => h_.1))))) (Kd.R_lt (by (with_reducible repeat (first | apply Kd.R_alloc | apply Kd.R_drewN | apply Kd.R_drew)); exact (Kd.R_mono (Kd.R_far (p := ⟨gb315, 1, none⟩) (Kd.R_far (p := ⟨gb315, 0, none⟩) (Kd.R_types HO300.out BK315.out (by decide)) (fun _ hk => hk.2) (.slice Ao28 t309.length co28)) (fun _ hk => hk.2) (.slice Ao32 t312.length co32)) (fun _ h_ => h_.1))))) (Kd.R_lt (by (with_reducible repeat (first | apply Kd.R_alloc | apply Kd.R_drewN | apply Kd.R_drew)); exact (Kd.R_mono (Kd.R_far (p := ⟨gb315, 1, none⟩) (Kd.R_far (p := ⟨gb315, 0, none⟩) (Kd.R_types HO303.out BK315.out (by decide)) (fun _ hk => hk.2) (.slice Ao28 t309.length co28)) (fun _ hk => hk.2) (.slice Ao32 t312.length co32)) (fun _ h_ => h_.1))))) (Kd.R_lt (by (with_reducible repeat (first | apply Kd.R_alloc | apply Kd.R_drewN | apply Kd.R_drew)); exact (Kd.R_mono (Kd.R_far (p := ⟨gb315, 1, none⟩) (Kd.R_far (p := ⟨gb315, 0, none⟩) (Kd.R_types HO306.out BK315.out (by decide)) (fun _ hk => hk.2) (.slice Ao28 t309.length co28)) (fun _ hk => hk.2) (.slice Ao32 t312.length co32)) (fun _ h_ => h_.1))))) (Kd.R_lt (by (with_reducible repeat (first | apply Kd.R_alloc | apply Kd.R_drewN | apply Kd.R_drew)); exact (Kd.R_mono (Kd.R_far (p := ⟨gb315, 1, none⟩) (Kd.R_far (p := ⟨gb315, 0, none⟩) (Kd.R_types HO311.out BK315.out (by decide)) (fun _ hk => hk.2) (.slice Ao28 t309.length co28)) (fun _ hk => hk.2) (.slice Ao32 t312.length co32)) (fun _ h_ => h_.1))))) (Kd.R_lt (by (with_reducible repeat (first | apply Kd.R_alloc | apply Kd.R_drewN | apply Kd.R_drew)); exact (Kd.R_mono (Kd.R_far (p := ⟨gb315, 1, none⟩) (Kd.R_far (p := ⟨gb315, 0, none⟩) (Kd.R_types HO314.out BK315.out (by decide)) (fun _ hk => hk.2) (.slice Ao28 t309.length co28)) (fun _ hk => hk.2) (.slice Ao32 t312.length co32)) (fun _ h_ => h_.1))))) (below_size (tB HB.out))); have HO321 := Aside0.mk (Kd.R_lower (Kd.R_new' (Kd.R_new' (Kd.R_new' (Kd.R_new' (Kd.R_new' (Kd.R_new' ho1 (Kd.R_lt (by (with_reducible repeat (first | apply Kd.R_alloc | apply Kd.R_drewN | apply Kd.R_drew)); exact (Kd.R_mono (Kd.R_far (p := ⟨gb315, 1, none⟩) (Kd.R_far (p := ⟨gb315, 0, none⟩) (Kd.R_types HO297.out BK315.out (by decide)) (fun _ hk => hk.2) (.slice Ao28 t309.length co28)) (fun _ hk => hk.2) (.slice Ao32 t312.length co32)) (fun _ h_ => h_.1))))) (Kd.R_lt (by (with_reducible repeat (first | apply Kd.R_alloc | apply Kd.R_drewN | apply Kd.R_drew)); exact (Kd.R_mono (Kd.R_far (p := ⟨gb315, 1, none⟩) (Kd.R_far (p := ⟨gb315, 0, none⟩) (Kd.R_types HO300.out BK315.out (by decide)) (fun _ hk => hk.2) (.slice Ao28 t309.length co28)) (fun _ hk => hk.2) (.slice Ao32 t312.length co32)) (fun _ h_ => h_.1))))) (Kd.R_lt (by (with_reducible repeat (first | apply Kd.R_alloc | apply Kd.R_drewN | apply Kd.R_drew)); exact (Kd.R_mono (Kd.R_far (p := ⟨gb315, 1, none⟩) (Kd.R_far (p := ⟨gb315, 0, none⟩) (Kd.R_types HO303.out BK315.out (by decide)) (fun _ hk => hk.2) (.slice Ao28 t309.length co28)) (fun _ hk => hk.2) (.slice Ao32 t312.length co32)) (fun _ h_ => h_.1))))) (Kd.R_lt (by (with_reducible repeat (first | apply Kd.R_alloc | apply Kd.R_drewN | apply Kd.R_drew)); exact (Kd.R_mono (Kd.R_far (p := ⟨gb315, 1, none⟩) (Kd.R_far (p := ⟨gb315, 0, none⟩) (Kd.R_types HO306.out BK315.out (by decide)) (fun _ hk => hk.2) (.slice Ao28 t309.length co28)) (fun _ hk => hk.2) (.slice Ao32 t312.length co32)) (fun _ h_ => h_.1))))) (Kd.R_lt (by (with_reducible repeat (first | apply Kd.R_alloc | apply Kd.R_drewN | apply Kd.R_drew)); exact (Kd.R_mono (Kd.R_far (p := ⟨gb315, 1, none⟩) (Kd.R_far (p := ⟨gb315, 0, none⟩) (Kd.R_types HO311.out BK315.out (by decide)) (fun _ hk => hk.2) (.slice Ao28 t309.length co28)) (fun _ hk => hk.2) (.slice Ao32 t312.length co32)) (fun _ h_ => h_.1))))) (Kd.R_lt (by (with_reducible repeat (first | apply Kd.R_alloc | apply Kd.R_drewN | apply Kd.R_drew)); exact (Kd.R_mono (Kd.R_far (p := ⟨gb315, 1, none⟩) (Kd.R_far (p := ⟨gb315, 0, none⟩) (Kd.R_types HO314.out BK315.out (by decide)) (fun _ hk => hk.2) (.slice Ao28 t309.length co28)) (fun _ hk => hk.2) (.slice Ao32 t312.length co32)) (fun _ h_ => h_.1))))) (below_size (tB HB.out))); replace HO297 := Aside0.mk (Kd.R_mono (Kd.R_told (Kd.R_told (Kd.R_old (by (with_reducible repeat (first | apply Kd.R_alloc | apply Kd.R_drewN | apply Kd.R_drew)); exact (Kd.R_mono (Kd.R_far (p := ⟨gb315, 1, none⟩) (Kd.R_far (p := ⟨gb315, 0, none⟩) (Kd.R_types HO297.out BK315.out (by decide)) (fun _ hk => hk.2) (.slice Ao28 t309.length co28)) (fun _ hk => hk.2) (.slice Ao32 t312.length co32)) (fun _ h_ => h_.1))) hb) (Kd.R_base ho0)) (Kd.R_base ho1)) (fun _ h_ => h_.1)); replace HO300 := Aside0.mk (Kd.R_mono (Kd.R_told (Kd.R_told (Kd.R_old (by (with_reducible repeat (first | apply Kd.R_alloc | apply Kd.R_drewN | apply Kd.R_drew)); exact (Kd.R_mono (Kd.R_far (p := ⟨gb315, 1, none⟩) (Kd.R_far (p := ⟨gb315, 0, none⟩) (Kd.R_types HO300.out BK315.out (by decide)) (fun _ hk => hk.2) (.slice Ao28 t309.length co28)) (fun _ hk => hk.2) (.slice Ao32 t312.length co32)) (fun _ h_ => h_.1))) hb) (Kd.R_base ho0)) (Kd.R_base ho1)) (fun _ h_ => h_.1)); replace HO303 := Aside0.mk (Kd.R_mono (Kd.R_told (Kd.R_told (Kd.R_old (by (with_reducible repeat (first | apply Kd.R_alloc | apply Kd.R_drewN | apply Kd.R_drew)); exact (Kd.R_mono (Kd.R_far (p := ⟨gb315, 1, none⟩) (Kd.R_far (p := ⟨gb315, 0, none⟩) (Kd.R_types HO303.out BK315.out (by decide)) (fun _ hk => hk.2) (.slice Ao28 t309.length co28)) (fun _ hk => hk.2) (.slice Ao32 t312.length co32)) (fun _ h_ => h_.1))) hb) (Kd.R_base ho0)) (Kd.R_base ho1)) (fun _ h_ => h_.1)); replace HO306 := Aside0.mk (Kd.R_mono (Kd.R_told (Kd.R_told (Kd.R_old (by (with_reducible repeat (first | apply Kd.R_alloc | apply Kd.R_drewN | apply Kd.R_drew)); exact (Kd.R_mono (Kd.R_far (p := ⟨gb315, 1, none⟩) (Kd.R_far (p := ⟨gb315, 0, none⟩) (Kd.R_types HO306.out BK315.out (by decide)) (fun _ hk => hk.2) (.slice Ao28 t309.length co28)) (fun _ hk => hk.2) (.slice Ao32 t312.length co32)) (fun _ h_ => h_.1))) hb) (Kd.R_base ho0)) (Kd.R_base ho1)) (fun _ h_ => h_.1)); replace HO311 := Aside0.mk (Kd.R_mono (Kd.R_told (Kd.R_told (Kd.R_old (by (with_reducible repeat (first | apply Kd.R_alloc | apply Kd.R_drewN | apply Kd.R_drew)); exact (Kd.R_mono (Kd.R_far (p := ⟨gb315, 1, none⟩) (Kd.R_far (p := ⟨gb315, 0, none⟩) (Kd.R_types HO311.out BK315.out (by decide)) (fun _ hk => hk.2) (.slice Ao28 t309.length co28)) (fun _ hk => hk.2) (.slice Ao32 t312.length co32)) (fun _ h_ => h_.1))) hb) (Kd.R_base ho0)) (Kd.R_base ho1)) (fun _ h_ => h_.1)); replace HO314 := Aside0.mk (Kd.R_mono (Kd.R_told (Kd.R_told (Kd.R_old (by (with_reducible repeat (first | apply Kd.R_alloc | apply Kd.R_drewN | apply Kd.R_drew)); exact (Kd.R_mono (Kd.R_far (p := ⟨gb315, 1, none⟩) (Kd.R_far (p := ⟨gb315, 0, none⟩) (Kd.R_types HO314.out BK315.out (by decide)) (fun _ hk => hk.2) (.slice Ao28 t309.length co28)) (fun _ hk => hk.2) (.slice Ao32 t312.length co32)) (fun _ h_ => h_.1))) hb) (Kd.R_base ho0)) (Kd.R_base ho1)) (fun _ h_ => h_.1)); replace BK293 := Aside0.mk (blk_below (g := gb293) (o := .cells #[.slice A0_0 l0_0.length c0_0, .slice A0_1 l0_1.length c0_1] 24 (0, 0)) (by (with_reducible repeat (first | refine blk_drewN ?_ _ | refine blk_drew ?_ | refine blk_alloc ?_ _)); refine blk_far ?_ NB293_315.out _; (with_reducible repeat (first | refine blk_drewN ?_ _ | refine blk_drew ?_ | refine blk_alloc ?_ _)); refine blk_far ?_ NB293_315.out _; (with_reducible repeat (first | refine blk_drewN ?_ _ | refine blk_drew ?_ | refine blk_alloc ?_ _)); exact BK293.out) hb); replace BK308 := Aside0.mk (blk_below (g := gb308) (o := .cells #[.slice Ao21 t301.length co21, .slice Ao24 t304.length co24] 27 (0, 0)) (by (with_reducible repeat (first | refine blk_drewN ?_ _ | refine blk_drew ?_ | refine blk_alloc ?_ _)); refine blk_far ?_ NB308_315.out _; (with_reducible repeat (first | refine blk_drewN ?_ _ | refine blk_drew ?_ | refine blk_alloc ?_ _)); refine blk_far ?_ NB308_315.out _; (with_reducible repeat (first | refine blk_drewN ?_ _ | refine blk_drew ?_ | refine blk_alloc ?_ _)); exact BK308.out) hb); replace BK315 := Aside0.mk (blk_below (g := gb315) (o := .cells #[.slice Ao28 t309.length co28, .slice Ao32 t312.length co32] 27 (0, 0)) (by (with_reducible repeat (first | refine blk_drewN ?_ _ | refine blk_drew ?_ | refine blk_alloc ?_ _)); refine blk_put (cs := #[.slice Ao28 t309.length co28, .slice none 0 0]) ?_ 1 _ rfl; (with_reducible repeat (first | refine blk_drewN ?_ _ | refine blk_drew ?_ | refine blk_alloc ?_ _)); refine blk_put (cs := #[.slice none 0 0, .slice none 0 0]) ?_ 0 _ rfl; (with_reducible repeat (first | refine blk_drewN ?_ _ | refine blk_drew ?_ | refine blk_alloc ?_ _)); exact BK315.out) hb); replace HB := Aside0.mk (below_step (tB HB.out) hb); (try clear hb); (try clear hb2); (try clear hk); (try clear hi); (try clear ho0); (try clear ho1)) | ((with_reducible refine gate_dst (N := 7) rfl ?_); refine box_event ?hg (N := 7) ?hd (cs := #[.slice none 0 0, .slice none 0 0]) (t := 27) ?hr ?_; (case hd => rfl); (case hg => rfl); (case hr => first | (go_simp; done) | (go_simp; rfl)); intro gb323 hg w34 hbox hb; replace HO297 := Aside0.mk (Kd.R_below (tR HO297.out) hb); replace HO300 := Aside0.mk (Kd.R_below (tR HO300.out) hb); replace HO303 := Aside0.mk (Kd.R_below (tR HO303.out) hb); replace HO306 := Aside0.mk (Kd.R_below (tR HO306.out) hb); replace HO311 := Aside0.mk (Kd.R_below (tR HO311.out) hb); replace HO314 := Aside0.mk (Kd.R_below (tR HO314.out) hb); replace HO318 := Aside0.mk (Kd.R_below (tR HO318.out) hb); replace HO321 := Aside0.mk (Kd.R_below (tR HO321.out) hb); have BK323 := Aside0.mk (hbox); have GW323 := Aside0.mk (bS HB.out hg); have GE323 := Aside0.mk (bS HB.out hg); replace HB := Aside0.mk (below_step (tB HB.out) hb); have NB293_323 := Aside0.mk (nL BK293.out hg); have NB323_293 := Aside0.mk (nG BK293.out hg); replace BK293 := bkB BK293 hb; have NB308_323 := Aside0.mk (nL BK308.out hg); have NB323_308 := Aside0.mk (nG BK308.out hg); replace BK308 := bkB BK308 hb; have NB315_323 := Aside0.mk (nL BK315.out hg); have NB323_315 := Aside0.mk (nG BK315.out hg); replace BK315 := bkB BK315 hb; clear hb hbox hg; obtain ⟨Ao35, co35, eo35⟩ := Kd.R_slice HO318.out; subst eo35; have hnb36 := NB323_293.out; have hnc36 := NB293_323.out; have hnb37 := NB323_308.out; have hnc37 := NB308_323.out; have hnb38 := NB323_315.out; have hnc38 := NB315_323.out; obtain ⟨hcz39_0, hfz39_0, hcz39_1, hfz39_1⟩ := cz2 BK323; obtain ⟨Ao40, co40, eo40⟩ := Kd.R_slice HO321.out; subst eo40))
  (try simp only [Act.put, List.setIfInBounds_toArray, List.set_cons_zero, List.set_cons_succ])
  go_cut [40] (fun v40 wc => ∃ (kq : Nat) (x40_10 : Bool), v40 = .bool x40_10 ∧ Aside0 (laws_FnExactLevelArms.j0 kq t307 t322 x40_10 l0_0 l0_1 t301 t304 t309 t312 t316 t319 = some r) ∧ Aside0 (kq ≤ k) ∧ Aside0 (Kd.R k58 58 wc w.heap.size (fun k_ => some k_ ≠ ((.slice Ao24 t304.length co24) : Value).ownBlock ∧ some k_ ≠ ((.slice Ao28 t309.length co28) : Value).ownBlock ∧ some k_ ≠ ((.slice Ao32 t312.length co32) : Value).ownBlock ∧ some k_ ≠ ((.slice Ao35 t316.length co35) : Value).ownBlock ∧ some k_ ≠ ((.slice Ao40 t319.length co40) : Value).ownBlock) (.slice Ao21 t301.length co21) t301) ∧ Aside0 (Kd.R k58 58 wc w.heap.size (fun k_ => some k_ ≠ ((.slice Ao21 t301.length co21) : Value).ownBlock ∧ some k_ ≠ ((.slice Ao28 t309.length co28) : Value).ownBlock ∧ some k_ ≠ ((.slice Ao32 t312.length co32) : Value).ownBlock ∧ some k_ ≠ ((.slice Ao35 t316.length co35) : Value).ownBlock ∧ some k_ ≠ ((.slice Ao40 t319.length co40) : Value).ownBlock) (.slice Ao24 t304.length co24) t304) ∧ Aside0 (Kd.R k58 58 wc w.heap.size (fun k_ => some k_ ≠ ((.slice Ao21 t301.length co21) : Value).ownBlock ∧ some k_ ≠ ((.slice Ao24 t304.length co24) : Value).ownBlock ∧ some k_ ≠ ((.slice Ao32 t312.length co32) : Value).ownBlock ∧ some k_ ≠ ((.slice Ao35 t316.length co35) : Value).ownBlock ∧ some k_ ≠ ((.slice Ao40 t319.length co40) : Value).ownBlock) (.slice Ao28 t309.length co28) t309) ∧ Aside0 (Kd.R k58 58 wc w.heap.size (fun k_ => some k_ ≠ ((.slice Ao21 t301.length co21) : Value).ownBlock ∧ some k_ ≠ ((.slice Ao24 t304.length co24) : Value).ownBlock ∧ some k_ ≠ ((.slice Ao28 t309.length co28) : Value).ownBlock ∧ some k_ ≠ ((.slice Ao35 t316.length co35) : Value).ownBlock ∧ some k_ ≠ ((.slice Ao40 t319.length co40) : Value).ownBlock) (.slice Ao32 t312.length co32) t312) ∧ Aside0 (Kd.R k58 58 wc w.heap.size (fun k_ => some k_ ≠ ((.slice Ao21 t301.length co21) : Value).ownBlock ∧ some k_ ≠ ((.slice Ao24 t304.length co24) : Value).ownBlock ∧ some k_ ≠ ((.slice Ao28 t309.length co28) : Value).ownBlock ∧ some k_ ≠ ((.slice Ao32 t312.length co32) : Value).ownBlock ∧ some k_ ≠ ((.slice Ao40 t319.length co40) : Value).ownBlock) (.slice Ao35 t316.length co35) t316) ∧ Aside0 (Kd.R k58 58 wc w.heap.size (fun k_ => some k_ ≠ ((.slice Ao21 t301.length co21) : Value).ownBlock ∧ some k_ ≠ ((.slice Ao24 t304.length co24) : Value).ownBlock ∧ some k_ ≠ ((.slice Ao28 t309.length co28) : Value).ownBlock ∧ some k_ ≠ ((.slice Ao32 t312.length co32) : Value).ownBlock ∧ some k_ ≠ ((.slice Ao35 t316.length co35) : Value).ownBlock) (.slice Ao40 t319.length co40) t319) ∧ Aside0 (wc.heap[gb293]? = some (.cells #[(.slice A0_0 l0_0.length c0_0), (.slice A0_1 l0_1.length c0_1)] 24 (0, 0))) ∧ Aside0 (wc.heap[gb308]? = some (.cells #[(.slice Ao21 t301.length co21), (.slice Ao24 t304.length co24)] 27 (0, 0))) ∧ Aside0 (wc.heap[gb315]? = some (.cells #[(.slice Ao28 t309.length co28), (.slice Ao32 t312.length co32)] 27 (0, 0))) ∧ Aside0 (wc.heap[gb323]? = some (.cells #[(.slice Ao35 t316.length co35), (.slice Ao40 t319.length co40)] 27 (0, 0))) ∧ Aside0 (Below w.heap.size w wc))
  case first =>
   have H := HC11.out
   clear HC11
   replace H := Option.bind_eq_some_iff.mp H
   obtain ⟨t324, A410, H⟩ := H
   replace H : (if t324 = true then (laws_FnExactLevelArms.j0 k t307 t322 (t322 != t307) l0_0 l0_1 t301 t304 t309 t312 t316 t319) else (laws_FnExactLevelArms.j0 k t307 t322 true l0_0 l0_1 t301 t304 t309 t312 t316 t319)) = some r := H
   have A41 := Aside0.mk A410
   clear A410
   by_cases c42 : t324 = true
   ·
    subst c42
    have H1 : (laws_FnExactLevelArms.j0 k t307 t322 (t322 != t307) l0_0 l0_1 t301 t304 t309 t312 t316 t319) = some r := by rw [if_pos rfl] at H; exact H
    clear H
    have H := H1
    clear H1
    have H' := Aside0.mk H
    clear H
    have hnb43 := NB323_293.out
    have hnc43 := NB293_323.out
    have hnb44 := NB323_308.out
    have hnc44 := NB308_323.out
    have hnb45 := NB323_315.out
    have hnc45 := NB315_323.out
    obtain ⟨hcz46_0, hfz46_0, hcz46_1, hfz46_1⟩ := cz2 BK323
    have hnb47 := NB308_293.out
    have hnc47 := NB293_308.out
    have hnb48 := NB308_315.out
    have hnc48 := NB315_308.out
    obtain ⟨hcz49_0, hfz49_0, hcz49_1, hfz49_1⟩ := cz2 BK308
    go_wp2_with (first | ((with_reducible refine gate_callee (f := 19) rfl ?_); refine goesL_ (some 34) rfl rfl Try.func19 (by kernel_rfl) rfl #[.agg #[.slice Ao35 t316.length co35, .slice Ao40 t319.length co40], .agg #[.slice Ao21 t301.length co21, .slice Ao24 t304.length co24]] rfl tM ?_; (with_reducible refine (laws_eqMobile.calls k _ _ t316 _ _ t319 _ _ t301 _ _ t304 true _ ?side1 ?side2 ?side3 ?side4 ?side5 ?side6 ?side7 ?side8 A41.out).mono ?_); (case side1 => refine (Kd.R_reads' (e := 58) (base := w.heap.size) (ok := fun k_ => ((((((some k_ ≠ (.slice Ao40 t319.length co40 : Value).ownBlock ∧ some k_ ≠ (.slice Ao17 t295.length co17 : Value).ownBlock) ∧ some k_ ≠ (.slice Ao18 t298.length co18 : Value).ownBlock) ∧ some k_ ≠ (.slice Ao21 t301.length co21 : Value).ownBlock) ∧ some k_ ≠ (.slice Ao24 t304.length co24 : Value).ownBlock) ∧ some k_ ≠ (.slice Ao28 t309.length co28 : Value).ownBlock) ∧ some k_ ≠ (.slice Ao32 t312.length co32 : Value).ownBlock)) (n := t316.length) (c := co35) ?_).2.2; exact (by (with_reducible repeat (first | apply Kd.R_alloc | apply Kd.R_drewN | apply Kd.R_drew)); exact (Kd.R_mono (Kd.R_far (p := ⟨gb323, 1, none⟩) (Kd.R_far (p := ⟨gb323, 0, none⟩) (Kd.R_types HO318.out BK323.out (by decide)) (fun _ hk => hk.2) (.slice Ao35 t316.length co35)) (fun _ hk => hk.2) (.slice Ao40 t319.length co40)) (fun _ h_ => h_.1)))); (case side2 => exact (Kd.R_reads' HO318.out).2.1); (case side3 => refine (Kd.R_reads' (e := 58) (base := w.heap.size) (ok := fun k_ => ((((((some k_ ≠ (.slice Ao35 t316.length co35 : Value).ownBlock ∧ some k_ ≠ (.slice Ao17 t295.length co17 : Value).ownBlock) ∧ some k_ ≠ (.slice Ao18 t298.length co18 : Value).ownBlock) ∧ some k_ ≠ (.slice Ao21 t301.length co21 : Value).ownBlock) ∧ some k_ ≠ (.slice Ao24 t304.length co24 : Value).ownBlock) ∧ some k_ ≠ (.slice Ao28 t309.length co28 : Value).ownBlock) ∧ some k_ ≠ (.slice Ao32 t312.length co32 : Value).ownBlock)) (n := t319.length) (c := co40) ?_).2.2; exact (by (with_reducible repeat (first | apply Kd.R_alloc | apply Kd.R_drewN | apply Kd.R_drew)); exact (Kd.R_mono (Kd.R_far (p := ⟨gb323, 1, none⟩) (Kd.R_far (p := ⟨gb323, 0, none⟩) (Kd.R_types HO321.out BK323.out (by decide)) (fun _ hk => hk.2) (.slice Ao35 t316.length co35)) (fun _ hk => hk.2) (.slice Ao40 t319.length co40)) (fun _ h_ => h_.1)))); (case side4 => exact (Kd.R_reads' HO321.out).2.1); (case side5 => refine (Kd.R_reads' (e := 58) (base := w.heap.size) (ok := fun k_ => ((((((some k_ ≠ (.slice Ao24 t304.length co24 : Value).ownBlock ∧ some k_ ≠ (.slice Ao17 t295.length co17 : Value).ownBlock) ∧ some k_ ≠ (.slice Ao18 t298.length co18 : Value).ownBlock) ∧ some k_ ≠ (.slice Ao28 t309.length co28 : Value).ownBlock) ∧ some k_ ≠ (.slice Ao32 t312.length co32 : Value).ownBlock) ∧ some k_ ≠ (.slice Ao35 t316.length co35 : Value).ownBlock) ∧ some k_ ≠ (.slice Ao40 t319.length co40 : Value).ownBlock)) (n := t301.length) (c := co21) ?_).2.2; exact (by (with_reducible repeat (first | apply Kd.R_alloc | apply Kd.R_drewN | apply Kd.R_drew)); exact (Kd.R_mono (Kd.R_far (p := ⟨gb323, 1, none⟩) (Kd.R_far (p := ⟨gb323, 0, none⟩) (Kd.R_types HO303.out BK323.out (by decide)) (fun _ hk => hk.2) (.slice Ao35 t316.length co35)) (fun _ hk => hk.2) (.slice Ao40 t319.length co40)) (fun _ h_ => h_.1)))); (case side6 => exact (Kd.R_reads' HO303.out).2.1); (case side7 => refine (Kd.R_reads' (e := 58) (base := w.heap.size) (ok := fun k_ => ((((((some k_ ≠ (.slice Ao21 t301.length co21 : Value).ownBlock ∧ some k_ ≠ (.slice Ao17 t295.length co17 : Value).ownBlock) ∧ some k_ ≠ (.slice Ao18 t298.length co18 : Value).ownBlock) ∧ some k_ ≠ (.slice Ao28 t309.length co28 : Value).ownBlock) ∧ some k_ ≠ (.slice Ao32 t312.length co32 : Value).ownBlock) ∧ some k_ ≠ (.slice Ao35 t316.length co35 : Value).ownBlock) ∧ some k_ ≠ (.slice Ao40 t319.length co40 : Value).ownBlock)) (n := t304.length) (c := co24) ?_).2.2; exact (by (with_reducible repeat (first | apply Kd.R_alloc | apply Kd.R_drewN | apply Kd.R_drew)); exact (Kd.R_mono (Kd.R_far (p := ⟨gb323, 1, none⟩) (Kd.R_far (p := ⟨gb323, 0, none⟩) (Kd.R_types HO306.out BK323.out (by decide)) (fun _ hk => hk.2) (.slice Ao35 t316.length co35)) (fun _ hk => hk.2) (.slice Ao40 t319.length co40)) (fun _ h_ => h_.1)))); (case side8 => exact (Kd.R_reads' HO306.out).2.1); rintro e w50 ⟨rfl, hb⟩; refine ⟨_, rfl, ?_⟩; replace HO297 := Aside0.mk (Kd.R_below (by (with_reducible repeat (first | apply Kd.R_alloc | apply Kd.R_drewN | apply Kd.R_drew)); exact (Kd.R_mono (Kd.R_far (p := ⟨gb323, 1, none⟩) (Kd.R_far (p := ⟨gb323, 0, none⟩) (Kd.R_types HO297.out BK323.out (by decide)) (fun _ hk => hk.2) (.slice Ao35 t316.length co35)) (fun _ hk => hk.2) (.slice Ao40 t319.length co40)) (fun _ h_ => h_.1))) hb); replace HO300 := Aside0.mk (Kd.R_below (by (with_reducible repeat (first | apply Kd.R_alloc | apply Kd.R_drewN | apply Kd.R_drew)); exact (Kd.R_mono (Kd.R_far (p := ⟨gb323, 1, none⟩) (Kd.R_far (p := ⟨gb323, 0, none⟩) (Kd.R_types HO300.out BK323.out (by decide)) (fun _ hk => hk.2) (.slice Ao35 t316.length co35)) (fun _ hk => hk.2) (.slice Ao40 t319.length co40)) (fun _ h_ => h_.1))) hb); replace HO303 := Aside0.mk (Kd.R_below (by (with_reducible repeat (first | apply Kd.R_alloc | apply Kd.R_drewN | apply Kd.R_drew)); exact (Kd.R_mono (Kd.R_far (p := ⟨gb323, 1, none⟩) (Kd.R_far (p := ⟨gb323, 0, none⟩) (Kd.R_types HO303.out BK323.out (by decide)) (fun _ hk => hk.2) (.slice Ao35 t316.length co35)) (fun _ hk => hk.2) (.slice Ao40 t319.length co40)) (fun _ h_ => h_.1))) hb); replace HO306 := Aside0.mk (Kd.R_below (by (with_reducible repeat (first | apply Kd.R_alloc | apply Kd.R_drewN | apply Kd.R_drew)); exact (Kd.R_mono (Kd.R_far (p := ⟨gb323, 1, none⟩) (Kd.R_far (p := ⟨gb323, 0, none⟩) (Kd.R_types HO306.out BK323.out (by decide)) (fun _ hk => hk.2) (.slice Ao35 t316.length co35)) (fun _ hk => hk.2) (.slice Ao40 t319.length co40)) (fun _ h_ => h_.1))) hb); replace HO311 := Aside0.mk (Kd.R_below (by (with_reducible repeat (first | apply Kd.R_alloc | apply Kd.R_drewN | apply Kd.R_drew)); exact (Kd.R_mono (Kd.R_far (p := ⟨gb323, 1, none⟩) (Kd.R_far (p := ⟨gb323, 0, none⟩) (Kd.R_types HO311.out BK323.out (by decide)) (fun _ hk => hk.2) (.slice Ao35 t316.length co35)) (fun _ hk => hk.2) (.slice Ao40 t319.length co40)) (fun _ h_ => h_.1))) hb); replace HO314 := Aside0.mk (Kd.R_below (by (with_reducible repeat (first | apply Kd.R_alloc | apply Kd.R_drewN | apply Kd.R_drew)); exact (Kd.R_mono (Kd.R_far (p := ⟨gb323, 1, none⟩) (Kd.R_far (p := ⟨gb323, 0, none⟩) (Kd.R_types HO314.out BK323.out (by decide)) (fun _ hk => hk.2) (.slice Ao35 t316.length co35)) (fun _ hk => hk.2) (.slice Ao40 t319.length co40)) (fun _ h_ => h_.1))) hb); replace HO318 := Aside0.mk (Kd.R_below (by (with_reducible repeat (first | apply Kd.R_alloc | apply Kd.R_drewN | apply Kd.R_drew)); exact (Kd.R_mono (Kd.R_far (p := ⟨gb323, 1, none⟩) (Kd.R_far (p := ⟨gb323, 0, none⟩) (Kd.R_types HO318.out BK323.out (by decide)) (fun _ hk => hk.2) (.slice Ao35 t316.length co35)) (fun _ hk => hk.2) (.slice Ao40 t319.length co40)) (fun _ h_ => h_.1))) hb); replace HO321 := Aside0.mk (Kd.R_below (by (with_reducible repeat (first | apply Kd.R_alloc | apply Kd.R_drewN | apply Kd.R_drew)); exact (Kd.R_mono (Kd.R_far (p := ⟨gb323, 1, none⟩) (Kd.R_far (p := ⟨gb323, 0, none⟩) (Kd.R_types HO321.out BK323.out (by decide)) (fun _ hk => hk.2) (.slice Ao35 t316.length co35)) (fun _ hk => hk.2) (.slice Ao40 t319.length co40)) (fun _ h_ => h_.1))) hb); replace BK293 := Aside0.mk (blk_below (g := gb293) (o := .cells #[.slice A0_0 l0_0.length c0_0, .slice A0_1 l0_1.length c0_1] 24 (0, 0)) (by (with_reducible repeat (first | refine blk_drewN ?_ _ | refine blk_drew ?_ | refine blk_alloc ?_ _)); refine blk_far ?_ NB293_323.out _; (with_reducible repeat (first | refine blk_drewN ?_ _ | refine blk_drew ?_ | refine blk_alloc ?_ _)); refine blk_far ?_ NB293_323.out _; (with_reducible repeat (first | refine blk_drewN ?_ _ | refine blk_drew ?_ | refine blk_alloc ?_ _)); exact BK293.out) hb); replace BK308 := Aside0.mk (blk_below (g := gb308) (o := .cells #[.slice Ao21 t301.length co21, .slice Ao24 t304.length co24] 27 (0, 0)) (by (with_reducible repeat (first | refine blk_drewN ?_ _ | refine blk_drew ?_ | refine blk_alloc ?_ _)); refine blk_far ?_ NB308_323.out _; (with_reducible repeat (first | refine blk_drewN ?_ _ | refine blk_drew ?_ | refine blk_alloc ?_ _)); refine blk_far ?_ NB308_323.out _; (with_reducible repeat (first | refine blk_drewN ?_ _ | refine blk_drew ?_ | refine blk_alloc ?_ _)); exact BK308.out) hb); replace BK315 := Aside0.mk (blk_below (g := gb315) (o := .cells #[.slice Ao28 t309.length co28, .slice Ao32 t312.length co32] 27 (0, 0)) (by (with_reducible repeat (first | refine blk_drewN ?_ _ | refine blk_drew ?_ | refine blk_alloc ?_ _)); refine blk_far ?_ NB315_323.out _; (with_reducible repeat (first | refine blk_drewN ?_ _ | refine blk_drew ?_ | refine blk_alloc ?_ _)); refine blk_far ?_ NB315_323.out _; (with_reducible repeat (first | refine blk_drewN ?_ _ | refine blk_drew ?_ | refine blk_alloc ?_ _)); exact BK315.out) hb); replace BK323 := Aside0.mk (blk_below (g := gb323) (o := .cells #[.slice Ao35 t316.length co35, .slice Ao40 t319.length co40] 27 (0, 0)) (by (with_reducible repeat (first | refine blk_drewN ?_ _ | refine blk_drew ?_ | refine blk_alloc ?_ _)); refine blk_put (cs := #[.slice Ao35 t316.length co35, .slice none 0 0]) ?_ 1 _ rfl; (with_reducible repeat (first | refine blk_drewN ?_ _ | refine blk_drew ?_ | refine blk_alloc ?_ _)); refine blk_put (cs := #[.slice none 0 0, .slice none 0 0]) ?_ 0 _ rfl; (with_reducible repeat (first | refine blk_drewN ?_ _ | refine blk_drew ?_ | refine blk_alloc ?_ _)); exact BK323.out) hb); replace HB := Aside0.mk (below_step (tB HB.out) hb); (try clear hb); (try clear hb2); (try clear hk); (try clear hi)))
    go_meet
    case rel => exact ⟨_, ((t322 != t307)), (by first | rfl | (simp; done) | (simp [wrap64]; done) | (simp [*]; done)), H', ⟨by first | omega | exact Nat.le_refl _⟩, ⟨by (with_reducible repeat (first | apply Kd.R_alloc | apply Kd.R_drewN | apply Kd.R_drew)); exact Kd.R_mono HO303.out (fun _ hk => ⟨hk.1.1.1.1.1.1, ⟨hk.1.1.1.2, ⟨hk.1.1.2, ⟨hk.1.2, hk.2⟩⟩⟩⟩)⟩, ⟨by (with_reducible repeat (first | apply Kd.R_alloc | apply Kd.R_drewN | apply Kd.R_drew)); exact Kd.R_mono HO306.out (fun _ hk => ⟨hk.1.1.1.1.1.1, ⟨hk.1.1.1.2, ⟨hk.1.1.2, ⟨hk.1.2, hk.2⟩⟩⟩⟩)⟩, ⟨by (with_reducible repeat (first | apply Kd.R_alloc | apply Kd.R_drewN | apply Kd.R_drew)); exact Kd.R_mono HO311.out (fun _ hk => ⟨hk.1.1.1.2, ⟨hk.1.1.2, ⟨hk.1.1.1.1.1.1, ⟨hk.1.2, hk.2⟩⟩⟩⟩)⟩, ⟨by (with_reducible repeat (first | apply Kd.R_alloc | apply Kd.R_drewN | apply Kd.R_drew)); exact Kd.R_mono HO314.out (fun _ hk => ⟨hk.1.1.1.2, ⟨hk.1.1.2, ⟨hk.1.1.1.1.1.1, ⟨hk.1.2, hk.2⟩⟩⟩⟩)⟩, ⟨by (with_reducible repeat (first | apply Kd.R_alloc | apply Kd.R_drewN | apply Kd.R_drew)); exact Kd.R_mono HO318.out (fun _ hk => ⟨hk.1.1.1.2, ⟨hk.1.1.2, ⟨hk.1.2, ⟨hk.2, hk.1.1.1.1.1.1⟩⟩⟩⟩)⟩, ⟨by (with_reducible repeat (first | apply Kd.R_alloc | apply Kd.R_drewN | apply Kd.R_drew)); exact Kd.R_mono HO321.out (fun _ hk => ⟨hk.1.1.1.2, ⟨hk.1.1.2, ⟨hk.1.2, ⟨hk.2, hk.1.1.1.1.1.1⟩⟩⟩⟩)⟩, ⟨tK BK293.out⟩, ⟨tK BK308.out⟩, ⟨tK BK315.out⟩, ⟨tK BK323.out⟩, ⟨tB HB.out⟩⟩
   ·
    replace c42 := Bool.eq_false_iff.mpr c42
    subst c42
    have H1 : (laws_FnExactLevelArms.j0 k t307 t322 true l0_0 l0_1 t301 t304 t309 t312 t316 t319) = some r := by rw [if_neg (show ¬ (false = true) by decide)] at H; exact H
    clear H
    have H := H1
    clear H1
    have H' := Aside0.mk H
    clear H
    have hnb51 := NB323_293.out
    have hnc51 := NB293_323.out
    have hnb52 := NB323_308.out
    have hnc52 := NB308_323.out
    have hnb53 := NB323_315.out
    have hnc53 := NB315_323.out
    obtain ⟨hcz54_0, hfz54_0, hcz54_1, hfz54_1⟩ := cz2 BK323
    have hnb55 := NB308_293.out
    have hnc55 := NB293_308.out
    have hnb56 := NB308_315.out
    have hnc56 := NB315_308.out
    obtain ⟨hcz57_0, hfz57_0, hcz57_1, hfz57_1⟩ := cz2 BK308
    go_wp2_with (first | ((with_reducible refine gate_callee (f := 19) rfl ?_); refine goesL_ (some 34) rfl rfl Try.func19 (by kernel_rfl) rfl #[.agg #[.slice Ao35 t316.length co35, .slice Ao40 t319.length co40], .agg #[.slice Ao21 t301.length co21, .slice Ao24 t304.length co24]] rfl tM ?_; (with_reducible refine (laws_eqMobile.calls k _ _ t316 _ _ t319 _ _ t301 _ _ t304 false _ ?side1 ?side2 ?side3 ?side4 ?side5 ?side6 ?side7 ?side8 A41.out).mono ?_); (case side1 => refine (Kd.R_reads' (e := 58) (base := w.heap.size) (ok := fun k_ => ((((((some k_ ≠ (.slice Ao40 t319.length co40 : Value).ownBlock ∧ some k_ ≠ (.slice Ao17 t295.length co17 : Value).ownBlock) ∧ some k_ ≠ (.slice Ao18 t298.length co18 : Value).ownBlock) ∧ some k_ ≠ (.slice Ao21 t301.length co21 : Value).ownBlock) ∧ some k_ ≠ (.slice Ao24 t304.length co24 : Value).ownBlock) ∧ some k_ ≠ (.slice Ao28 t309.length co28 : Value).ownBlock) ∧ some k_ ≠ (.slice Ao32 t312.length co32 : Value).ownBlock)) (n := t316.length) (c := co35) ?_).2.2; exact (by (with_reducible repeat (first | apply Kd.R_alloc | apply Kd.R_drewN | apply Kd.R_drew)); exact (Kd.R_mono (Kd.R_far (p := ⟨gb323, 1, none⟩) (Kd.R_far (p := ⟨gb323, 0, none⟩) (Kd.R_types HO318.out BK323.out (by decide)) (fun _ hk => hk.2) (.slice Ao35 t316.length co35)) (fun _ hk => hk.2) (.slice Ao40 t319.length co40)) (fun _ h_ => h_.1)))); (case side2 => exact (Kd.R_reads' HO318.out).2.1); (case side3 => refine (Kd.R_reads' (e := 58) (base := w.heap.size) (ok := fun k_ => ((((((some k_ ≠ (.slice Ao35 t316.length co35 : Value).ownBlock ∧ some k_ ≠ (.slice Ao17 t295.length co17 : Value).ownBlock) ∧ some k_ ≠ (.slice Ao18 t298.length co18 : Value).ownBlock) ∧ some k_ ≠ (.slice Ao21 t301.length co21 : Value).ownBlock) ∧ some k_ ≠ (.slice Ao24 t304.length co24 : Value).ownBlock) ∧ some k_ ≠ (.slice Ao28 t309.length co28 : Value).ownBlock) ∧ some k_ ≠ (.slice Ao32 t312.length co32 : Value).ownBlock)) (n := t319.length) (c := co40) ?_).2.2; exact (by (with_reducible repeat (first | apply Kd.R_alloc | apply Kd.R_drewN | apply Kd.R_drew)); exact (Kd.R_mono (Kd.R_far (p := ⟨gb323, 1, none⟩) (Kd.R_far (p := ⟨gb323, 0, none⟩) (Kd.R_types HO321.out BK323.out (by decide)) (fun _ hk => hk.2) (.slice Ao35 t316.length co35)) (fun _ hk => hk.2) (.slice Ao40 t319.length co40)) (fun _ h_ => h_.1)))); (case side4 => exact (Kd.R_reads' HO321.out).2.1); (case side5 => refine (Kd.R_reads' (e := 58) (base := w.heap.size) (ok := fun k_ => ((((((some k_ ≠ (.slice Ao24 t304.length co24 : Value).ownBlock ∧ some k_ ≠ (.slice Ao17 t295.length co17 : Value).ownBlock) ∧ some k_ ≠ (.slice Ao18 t298.length co18 : Value).ownBlock) ∧ some k_ ≠ (.slice Ao28 t309.length co28 : Value).ownBlock) ∧ some k_ ≠ (.slice Ao32 t312.length co32 : Value).ownBlock) ∧ some k_ ≠ (.slice Ao35 t316.length co35 : Value).ownBlock) ∧ some k_ ≠ (.slice Ao40 t319.length co40 : Value).ownBlock)) (n := t301.length) (c := co21) ?_).2.2; exact (by (with_reducible repeat (first | apply Kd.R_alloc | apply Kd.R_drewN | apply Kd.R_drew)); exact (Kd.R_mono (Kd.R_far (p := ⟨gb323, 1, none⟩) (Kd.R_far (p := ⟨gb323, 0, none⟩) (Kd.R_types HO303.out BK323.out (by decide)) (fun _ hk => hk.2) (.slice Ao35 t316.length co35)) (fun _ hk => hk.2) (.slice Ao40 t319.length co40)) (fun _ h_ => h_.1)))); (case side6 => exact (Kd.R_reads' HO303.out).2.1); (case side7 => refine (Kd.R_reads' (e := 58) (base := w.heap.size) (ok := fun k_ => ((((((some k_ ≠ (.slice Ao21 t301.length co21 : Value).ownBlock ∧ some k_ ≠ (.slice Ao17 t295.length co17 : Value).ownBlock) ∧ some k_ ≠ (.slice Ao18 t298.length co18 : Value).ownBlock) ∧ some k_ ≠ (.slice Ao28 t309.length co28 : Value).ownBlock) ∧ some k_ ≠ (.slice Ao32 t312.length co32 : Value).ownBlock) ∧ some k_ ≠ (.slice Ao35 t316.length co35 : Value).ownBlock) ∧ some k_ ≠ (.slice Ao40 t319.length co40 : Value).ownBlock)) (n := t304.length) (c := co24) ?_).2.2; exact (by (with_reducible repeat (first | apply Kd.R_alloc | apply Kd.R_drewN | apply Kd.R_drew)); exact (Kd.R_mono (Kd.R_far (p := ⟨gb323, 1, none⟩) (Kd.R_far (p := ⟨gb323, 0, none⟩) (Kd.R_types HO306.out BK323.out (by decide)) (fun _ hk => hk.2) (.slice Ao35 t316.length co35)) (fun _ hk => hk.2) (.slice Ao40 t319.length co40)) (fun _ h_ => h_.1)))); (case side8 => exact (Kd.R_reads' HO306.out).2.1); rintro e w58 ⟨rfl, hb⟩; refine ⟨_, rfl, ?_⟩; replace HO297 := Aside0.mk (Kd.R_below (by (with_reducible repeat (first | apply Kd.R_alloc | apply Kd.R_drewN | apply Kd.R_drew)); exact (Kd.R_mono (Kd.R_far (p := ⟨gb323, 1, none⟩) (Kd.R_far (p := ⟨gb323, 0, none⟩) (Kd.R_types HO297.out BK323.out (by decide)) (fun _ hk => hk.2) (.slice Ao35 t316.length co35)) (fun _ hk => hk.2) (.slice Ao40 t319.length co40)) (fun _ h_ => h_.1))) hb); replace HO300 := Aside0.mk (Kd.R_below (by (with_reducible repeat (first | apply Kd.R_alloc | apply Kd.R_drewN | apply Kd.R_drew)); exact (Kd.R_mono (Kd.R_far (p := ⟨gb323, 1, none⟩) (Kd.R_far (p := ⟨gb323, 0, none⟩) (Kd.R_types HO300.out BK323.out (by decide)) (fun _ hk => hk.2) (.slice Ao35 t316.length co35)) (fun _ hk => hk.2) (.slice Ao40 t319.length co40)) (fun _ h_ => h_.1))) hb); replace HO303 := Aside0.mk (Kd.R_below (by (with_reducible repeat (first | apply Kd.R_alloc | apply Kd.R_drewN | apply Kd.R_drew)); exact (Kd.R_mono (Kd.R_far (p := ⟨gb323, 1, none⟩) (Kd.R_far (p := ⟨gb323, 0, none⟩) (Kd.R_types HO303.out BK323.out (by decide)) (fun _ hk => hk.2) (.slice Ao35 t316.length co35)) (fun _ hk => hk.2) (.slice Ao40 t319.length co40)) (fun _ h_ => h_.1))) hb); replace HO306 := Aside0.mk (Kd.R_below (by (with_reducible repeat (first | apply Kd.R_alloc | apply Kd.R_drewN | apply Kd.R_drew)); exact (Kd.R_mono (Kd.R_far (p := ⟨gb323, 1, none⟩) (Kd.R_far (p := ⟨gb323, 0, none⟩) (Kd.R_types HO306.out BK323.out (by decide)) (fun _ hk => hk.2) (.slice Ao35 t316.length co35)) (fun _ hk => hk.2) (.slice Ao40 t319.length co40)) (fun _ h_ => h_.1))) hb); replace HO311 := Aside0.mk (Kd.R_below (by (with_reducible repeat (first | apply Kd.R_alloc | apply Kd.R_drewN | apply Kd.R_drew)); exact (Kd.R_mono (Kd.R_far (p := ⟨gb323, 1, none⟩) (Kd.R_far (p := ⟨gb323, 0, none⟩) (Kd.R_types HO311.out BK323.out (by decide)) (fun _ hk => hk.2) (.slice Ao35 t316.length co35)) (fun _ hk => hk.2) (.slice Ao40 t319.length co40)) (fun _ h_ => h_.1))) hb); replace HO314 := Aside0.mk (Kd.R_below (by (with_reducible repeat (first | apply Kd.R_alloc | apply Kd.R_drewN | apply Kd.R_drew)); exact (Kd.R_mono (Kd.R_far (p := ⟨gb323, 1, none⟩) (Kd.R_far (p := ⟨gb323, 0, none⟩) (Kd.R_types HO314.out BK323.out (by decide)) (fun _ hk => hk.2) (.slice Ao35 t316.length co35)) (fun _ hk => hk.2) (.slice Ao40 t319.length co40)) (fun _ h_ => h_.1))) hb); replace HO318 := Aside0.mk (Kd.R_below (by (with_reducible repeat (first | apply Kd.R_alloc | apply Kd.R_drewN | apply Kd.R_drew)); exact (Kd.R_mono (Kd.R_far (p := ⟨gb323, 1, none⟩) (Kd.R_far (p := ⟨gb323, 0, none⟩) (Kd.R_types HO318.out BK323.out (by decide)) (fun _ hk => hk.2) (.slice Ao35 t316.length co35)) (fun _ hk => hk.2) (.slice Ao40 t319.length co40)) (fun _ h_ => h_.1))) hb); replace HO321 := Aside0.mk (Kd.R_below (by (with_reducible repeat (first | apply Kd.R_alloc | apply Kd.R_drewN | apply Kd.R_drew)); exact (Kd.R_mono (Kd.R_far (p := ⟨gb323, 1, none⟩) (Kd.R_far (p := ⟨gb323, 0, none⟩) (Kd.R_types HO321.out BK323.out (by decide)) (fun _ hk => hk.2) (.slice Ao35 t316.length co35)) (fun _ hk => hk.2) (.slice Ao40 t319.length co40)) (fun _ h_ => h_.1))) hb); replace BK293 := Aside0.mk (blk_below (g := gb293) (o := .cells #[.slice A0_0 l0_0.length c0_0, .slice A0_1 l0_1.length c0_1] 24 (0, 0)) (by (with_reducible repeat (first | refine blk_drewN ?_ _ | refine blk_drew ?_ | refine blk_alloc ?_ _)); refine blk_far ?_ NB293_323.out _; (with_reducible repeat (first | refine blk_drewN ?_ _ | refine blk_drew ?_ | refine blk_alloc ?_ _)); refine blk_far ?_ NB293_323.out _; (with_reducible repeat (first | refine blk_drewN ?_ _ | refine blk_drew ?_ | refine blk_alloc ?_ _)); exact BK293.out) hb); replace BK308 := Aside0.mk (blk_below (g := gb308) (o := .cells #[.slice Ao21 t301.length co21, .slice Ao24 t304.length co24] 27 (0, 0)) (by (with_reducible repeat (first | refine blk_drewN ?_ _ | refine blk_drew ?_ | refine blk_alloc ?_ _)); refine blk_far ?_ NB308_323.out _; (with_reducible repeat (first | refine blk_drewN ?_ _ | refine blk_drew ?_ | refine blk_alloc ?_ _)); refine blk_far ?_ NB308_323.out _; (with_reducible repeat (first | refine blk_drewN ?_ _ | refine blk_drew ?_ | refine blk_alloc ?_ _)); exact BK308.out) hb); replace BK315 := Aside0.mk (blk_below (g := gb315) (o := .cells #[.slice Ao28 t309.length co28, .slice Ao32 t312.length co32] 27 (0, 0)) (by (with_reducible repeat (first | refine blk_drewN ?_ _ | refine blk_drew ?_ | refine blk_alloc ?_ _)); refine blk_far ?_ NB315_323.out _; (with_reducible repeat (first | refine blk_drewN ?_ _ | refine blk_drew ?_ | refine blk_alloc ?_ _)); refine blk_far ?_ NB315_323.out _; (with_reducible repeat (first | refine blk_drewN ?_ _ | refine blk_drew ?_ | refine blk_alloc ?_ _)); exact BK315.out) hb); replace BK323 := Aside0.mk (blk_below (g := gb323) (o := .cells #[.slice Ao35 t316.length co35, .slice Ao40 t319.length co40] 27 (0, 0)) (by (with_reducible repeat (first | refine blk_drewN ?_ _ | refine blk_drew ?_ | refine blk_alloc ?_ _)); refine blk_put (cs := #[.slice Ao35 t316.length co35, .slice none 0 0]) ?_ 1 _ rfl; (with_reducible repeat (first | refine blk_drewN ?_ _ | refine blk_drew ?_ | refine blk_alloc ?_ _)); refine blk_put (cs := #[.slice none 0 0, .slice none 0 0]) ?_ 0 _ rfl; (with_reducible repeat (first | refine blk_drewN ?_ _ | refine blk_drew ?_ | refine blk_alloc ?_ _)); exact BK323.out) hb); replace HB := Aside0.mk (below_step (tB HB.out) hb); (try clear hb); (try clear hb2); (try clear hk); (try clear hi)))
    go_meet
    case rel => exact ⟨_, (true), (by first | rfl | (simp; done) | (simp [wrap64]; done) | (simp [*]; done)), H', ⟨by first | omega | exact Nat.le_refl _⟩, ⟨by (with_reducible repeat (first | apply Kd.R_alloc | apply Kd.R_drewN | apply Kd.R_drew)); exact Kd.R_mono HO303.out (fun _ hk => ⟨hk.1.1.1.1.1.1, ⟨hk.1.1.1.2, ⟨hk.1.1.2, ⟨hk.1.2, hk.2⟩⟩⟩⟩)⟩, ⟨by (with_reducible repeat (first | apply Kd.R_alloc | apply Kd.R_drewN | apply Kd.R_drew)); exact Kd.R_mono HO306.out (fun _ hk => ⟨hk.1.1.1.1.1.1, ⟨hk.1.1.1.2, ⟨hk.1.1.2, ⟨hk.1.2, hk.2⟩⟩⟩⟩)⟩, ⟨by (with_reducible repeat (first | apply Kd.R_alloc | apply Kd.R_drewN | apply Kd.R_drew)); exact Kd.R_mono HO311.out (fun _ hk => ⟨hk.1.1.1.2, ⟨hk.1.1.2, ⟨hk.1.1.1.1.1.1, ⟨hk.1.2, hk.2⟩⟩⟩⟩)⟩, ⟨by (with_reducible repeat (first | apply Kd.R_alloc | apply Kd.R_drewN | apply Kd.R_drew)); exact Kd.R_mono HO314.out (fun _ hk => ⟨hk.1.1.1.2, ⟨hk.1.1.2, ⟨hk.1.1.1.1.1.1, ⟨hk.1.2, hk.2⟩⟩⟩⟩)⟩, ⟨by (with_reducible repeat (first | apply Kd.R_alloc | apply Kd.R_drewN | apply Kd.R_drew)); exact Kd.R_mono HO318.out (fun _ hk => ⟨hk.1.1.1.2, ⟨hk.1.1.2, ⟨hk.1.2, ⟨hk.2, hk.1.1.1.1.1.1⟩⟩⟩⟩)⟩, ⟨by (with_reducible repeat (first | apply Kd.R_alloc | apply Kd.R_drewN | apply Kd.R_drew)); exact Kd.R_mono HO321.out (fun _ hk => ⟨hk.1.1.1.2, ⟨hk.1.1.2, ⟨hk.1.2, ⟨hk.2, hk.1.1.1.1.1.1⟩⟩⟩⟩)⟩, ⟨tK BK293.out⟩, ⟨tK BK308.out⟩, ⟨tK BK315.out⟩, ⟨tK BK323.out⟩, ⟨tB HB.out⟩⟩
  case rest =>
   clear HC11
   try clear c1
   try clear c2
   try clear p2
   try clear c3
   try clear c3b0
   try clear c4
   try clear c5
   try clear p6
   try clear c10
   try clear c15
   try clear c17
   try clear c19
   try clear c22
   try clear c29
   try clear c30
   try clear c36
   try clear c37
   try clear c38
   try clear c42
   try clear c43
   try clear c44
   try clear c45
   try clear c47
   try clear c48
   try clear c51
   try clear c52
   try clear c53
   try clear c55
   try clear c56
   try clear hcz13_0
   try clear hcz13_1
   try clear hcz15_0
   try clear hcz15_1
   try clear hcz23_0
   try clear hcz23_1
   try clear hcz25_0
   try clear hcz25_1
   try clear hcz31_0
   try clear hcz31_1
   try clear hcz39_0
   try clear hcz39_1
   try clear hcz46_0
   try clear hcz46_1
   try clear hcz49_0
   try clear hcz49_1
   try clear hcz54_0
   try clear hcz54_1
   try clear hcz57_0
   try clear hcz57_1
   try clear hcz5_0
   try clear hcz5_1
   try clear hfz13_0
   try clear hfz13_1
   try clear hfz15_0
   try clear hfz15_1
   try clear hfz23_0
   try clear hfz23_1
   try clear hfz25_0
   try clear hfz25_1
   try clear hfz31_0
   try clear hfz31_1
   try clear hfz39_0
   try clear hfz39_1
   try clear hfz46_0
   try clear hfz46_1
   try clear hfz49_0
   try clear hfz49_1
   try clear hfz54_0
   try clear hfz54_1
   try clear hfz57_0
   try clear hfz57_1
   try clear hfz5_0
   try clear hfz5_1
   obtain ⟨kq, x40_10, rfl, HA, HJ10, HO_309000, HO_309001, HO_316000, HO_316001, HO_324000, HO_324001, BK293, BK308, BK315, BK323, HB⟩ := hcut
   cases kq with
   | zero => exact absurd HA.out (by simp [laws_FnExactLevelArms.j0])
   | succ kj10 =>
    have H := HA.out
    clear HA
    simp only [laws_FnExactLevelArms.j0] at H
    by_cases c59 : x40_10 = true
    ·
     subst c59
     have H1 : (some false) = some r := by rw [if_pos rfl] at H; exact H
     clear H
     have H := H1
     clear H1
     obtain rfl := Option.some.inj H
     go_wp2
     go_ret
     exact ⟨by first | rfl | (simp [errW_none, errW_some] <;> rfl) | (simp [*, errW_none, errW_some] <;> rfl), tB HB.out⟩
    ·
     replace c59 := Bool.eq_false_iff.mpr c59
     subst c59
     have H1 : ((laws_toMobile.f kj10 l0_0 l0_1).bind fun bt325 => ((laws_eqMobile.f kj10 t309 t312 bt325.1 bt325.2).bind fun t331 => (if t331 = true then ((laws_markMobile.f kj10 t309 t312 1).bind fun bt332 => (if bt332.1 < 0 then (laws_FnExactLevelArms.j1 kj10 t307 true l0_0 l0_1 t301 t304 t316 t319) else ((laws_eqMobile.f kj10 t316 t319 t301 t304).bind fun t335 => (if t335 = true then (laws_FnExactLevelArms.j1 kj10 t307 (t322 != t307) l0_0 l0_1 t301 t304 t316 t319) else (laws_FnExactLevelArms.j1 kj10 t307 true l0_0 l0_1 t301 t304 t316 t319))))) else (some false)))) = some r := by rw [if_neg (show ¬ (false = true) by decide)] at H; exact H
     clear H
     have H := H1
     clear H1
     replace H := Option.bind_eq_some_iff.mp H
     obtain ⟨⟨t325, t328⟩, A600, H⟩ := H
     replace H : ((laws_eqMobile.f kj10 t309 t312 t325 t328).bind fun t331 => (if t331 = true then ((laws_markMobile.f kj10 t309 t312 1).bind fun bt332 => (if bt332.1 < 0 then (laws_FnExactLevelArms.j1 kj10 t307 true l0_0 l0_1 t301 t304 t316 t319) else ((laws_eqMobile.f kj10 t316 t319 t301 t304).bind fun t335 => (if t335 = true then (laws_FnExactLevelArms.j1 kj10 t307 (t322 != t307) l0_0 l0_1 t301 t304 t316 t319) else (laws_FnExactLevelArms.j1 kj10 t307 true l0_0 l0_1 t301 t304 t316 t319))))) else (some false))) = some r := H
     have A60 := Aside0.mk A600
     clear A600
     replace H := Option.bind_eq_some_iff.mp H
     obtain ⟨t331, A610, H⟩ := H
     replace H : (if t331 = true then ((laws_markMobile.f kj10 t309 t312 1).bind fun bt332 => (if bt332.1 < 0 then (laws_FnExactLevelArms.j1 kj10 t307 true l0_0 l0_1 t301 t304 t316 t319) else ((laws_eqMobile.f kj10 t316 t319 t301 t304).bind fun t335 => (if t335 = true then (laws_FnExactLevelArms.j1 kj10 t307 (t322 != t307) l0_0 l0_1 t301 t304 t316 t319) else (laws_FnExactLevelArms.j1 kj10 t307 true l0_0 l0_1 t301 t304 t316 t319))))) else (some false)) = some r := H
     have A61 := Aside0.mk A610
     clear A610
     by_cases c62 : t331 = true
     ·
      subst c62
      have H1 : ((laws_markMobile.f kj10 t309 t312 1).bind fun bt332 => (if bt332.1 < 0 then (laws_FnExactLevelArms.j1 kj10 t307 true l0_0 l0_1 t301 t304 t316 t319) else ((laws_eqMobile.f kj10 t316 t319 t301 t304).bind fun t335 => (if t335 = true then (laws_FnExactLevelArms.j1 kj10 t307 (t322 != t307) l0_0 l0_1 t301 t304 t316 t319) else (laws_FnExactLevelArms.j1 kj10 t307 true l0_0 l0_1 t301 t304 t316 t319))))) = some r := by rw [if_pos rfl] at H; exact H
      clear H
      have H := H1
      clear H1
      replace H := Option.bind_eq_some_iff.mp H
      obtain ⟨⟨t332, t333, t334⟩, A630, H⟩ := H
      replace H : (if t332 < 0 then (laws_FnExactLevelArms.j1 kj10 t307 true l0_0 l0_1 t301 t304 t316 t319) else ((laws_eqMobile.f kj10 t316 t319 t301 t304).bind fun t335 => (if t335 = true then (laws_FnExactLevelArms.j1 kj10 t307 (t322 != t307) l0_0 l0_1 t301 t304 t316 t319) else (laws_FnExactLevelArms.j1 kj10 t307 true l0_0 l0_1 t301 t304 t316 t319)))) = some r := H
      have A63 := Aside0.mk A630
      clear A630
      have HC64 := Aside0.mk H
      clear H
      try go_wp2
      replace HO_309000 := Aside0.mk (Kd.R_drew HO_309000.out)
      replace HO_309001 := Aside0.mk (Kd.R_drew HO_309001.out)
      replace HO_316000 := Aside0.mk (Kd.R_drew HO_316000.out)
      replace HO_316001 := Aside0.mk (Kd.R_drew HO_316001.out)
      replace HO_324000 := Aside0.mk (Kd.R_drew HO_324000.out)
      replace HO_324001 := Aside0.mk (Kd.R_drew HO_324001.out)
      replace BK293 := Aside0.mk (blk_drew BK293.out)
      replace BK308 := Aside0.mk (blk_drew BK308.out)
      replace BK315 := Aside0.mk (blk_drew BK315.out)
      replace BK323 := Aside0.mk (blk_drew BK323.out)
      replace HB := Aside0.mk (below_drew1 HB.out)
      refine start_ (n := 5) (S := fun w' => w'.cell? ⟨gb315, 0, none⟩ = some (.slice Ao28 t309.length co28) ∧ w'.cell? ⟨gb315, 1, none⟩ = some (.slice Ao32 t312.length co32) ∧ w'.cell? ⟨gb293, 0, none⟩ = some (.slice A0_0 l0_0.length c0_0) ∧ w'.cell? ⟨gb293, 1, none⟩ = some (.slice A0_1 l0_1.length c0_1)) (ds := []) #[false, false, false, false, false] (by kernel_rfl) rfl rfl ⟨(blk_cell BK315.out 0).trans rfl, (blk_cell BK315.out 1).trans rfl, (blk_cell BK293.out 0).trans rfl, (blk_cell BK293.out 1).trans rfl⟩ (fun hHeld => ?_)
      generalize wc.drew = w65 at HO_309000 HO_309001 HO_316000 HO_316001 HO_324000 HO_324001 BK293 BK308 BK315 BK323 HB hHeld ⊢
      refine take_ (i := 0) (N := some 41) (v := ?_) (a' := ?_) #[true, false, false, false, false] rfl rfl (by kernel_rfl) (fun _ _ _ h => h) (Or.inl ⟨by rfl, ?_⟩) hHeld ?_ ?_
      rotate_left
      ·
       rintro w' ⟨s0, s1, s2, s3⟩
       go_simp
       with_reducible rfl
      rotate_left
      ·
       simp only [Act.put, List.setIfInBounds_toArray, List.set_cons_zero, List.set_cons_succ, i64_w, i32_w]
       rfl
      refine take_ (i := 1) (N := some 42) (v := ?_) (a' := ?_) #[true, true, false, false, false] rfl rfl (by kernel_rfl) (fun _ _ _ h => h) (Or.inl ⟨by rfl, ?_⟩) hHeld ?_ ?_
      rotate_left
      ·
       rintro w' ⟨s0, s1, s2, s3⟩
       go_simp
       with_reducible rfl
      rotate_left
      ·
       simp only [Act.put, List.setIfInBounds_toArray, List.set_cons_zero, List.set_cons_succ, i64_w, i32_w]
       rfl
      refine one_ (i := 2) (N := some 43) #[true, true, true, false, false] rfl rfl (by kernel_rfl) (by decide) (fun K hK => ?_)
      refine goes_ Try.func17 (by kernel_rfl) rfl #[.agg #[.slice A0_0 l0_0.length c0_0, .slice A0_1 l0_1.length c0_1]] (by rfl) rfl rfl tM ?_
      with_reducible refine (laws_toMobile.calls kj10 _ _ l0_0 _ _ l0_1 t325 t328 _ ?side1 ?side2 ?side3 ?side4 A60.out).mono ?_
      (case side1 => exact tC (Kd.C_below HR0_0.out HB.out))
      (case side2 => exact HC0_0.out)
      (case side3 => exact tC (Kd.C_below HR0_1.out HB.out))
      (case side4 => exact HC0_1.out)
      rintro e w66 ⟨v326, v329, rfl, ho0, ho1, hb⟩
      refine ⟨_, rfl, ?_⟩
      have HO327 := Aside0.mk (Kd.R_lower (Kd.R_new' (Kd.R_new' (Kd.R_new' (Kd.R_new' (Kd.R_new' (Kd.R_new' ho0 (Kd.R_lt (tR HO_309000.out))) (Kd.R_lt (tR HO_309001.out))) (Kd.R_lt (tR HO_316000.out))) (Kd.R_lt (tR HO_316001.out))) (Kd.R_lt (tR HO_324000.out))) (Kd.R_lt (tR HO_324001.out))) (below_size (tB HB.out)))
      have HO330 := Aside0.mk (Kd.R_lower (Kd.R_new' (Kd.R_new' (Kd.R_new' (Kd.R_new' (Kd.R_new' (Kd.R_new' ho1 (Kd.R_lt (tR HO_309000.out))) (Kd.R_lt (tR HO_309001.out))) (Kd.R_lt (tR HO_316000.out))) (Kd.R_lt (tR HO_316001.out))) (Kd.R_lt (tR HO_324000.out))) (Kd.R_lt (tR HO_324001.out))) (below_size (tB HB.out)))
      replace HO_309000 := Aside0.mk (Kd.R_mono (Kd.R_told (Kd.R_told (Kd.R_old (tR HO_309000.out) hb) (Kd.R_base ho0)) (Kd.R_base ho1)) (fun _ h_ => h_.1))
      replace HO_309001 := Aside0.mk (Kd.R_mono (Kd.R_told (Kd.R_told (Kd.R_old (tR HO_309001.out) hb) (Kd.R_base ho0)) (Kd.R_base ho1)) (fun _ h_ => h_.1))
      replace HO_316000 := Aside0.mk (Kd.R_mono (Kd.R_told (Kd.R_told (Kd.R_old (tR HO_316000.out) hb) (Kd.R_base ho0)) (Kd.R_base ho1)) (fun _ h_ => h_.1))
      replace HO_316001 := Aside0.mk (Kd.R_mono (Kd.R_told (Kd.R_told (Kd.R_old (tR HO_316001.out) hb) (Kd.R_base ho0)) (Kd.R_base ho1)) (fun _ h_ => h_.1))
      replace HO_324000 := Aside0.mk (Kd.R_mono (Kd.R_told (Kd.R_told (Kd.R_old (tR HO_324000.out) hb) (Kd.R_base ho0)) (Kd.R_base ho1)) (fun _ h_ => h_.1))
      replace HO_324001 := Aside0.mk (Kd.R_mono (Kd.R_told (Kd.R_told (Kd.R_old (tR HO_324001.out) hb) (Kd.R_base ho0)) (Kd.R_base ho1)) (fun _ h_ => h_.1))
      replace BK293 := bkB BK293 hb
      replace BK308 := bkB BK308 hb
      replace BK315 := bkB BK315 hb
      replace BK323 := bkB BK323 hb
      replace HB := Aside0.mk (below_step (tB HB.out) hb)
      (try clear hb)
      (try clear hb2)
      (try clear hk)
      (try clear hi)
      (try clear ho0)
      (try clear ho1)
      obtain ⟨Ao67, co67, eo67⟩ := Kd.R_slice HO327.out
      (first | subst eo67 | (injection eo67 with f1_ f2_ f3_; have f4_ := f1_.symm; have f5_ := f3_.symm; clear f1_ f2_ f3_; subst f4_; subst f5_))
      obtain ⟨Ao68, co68, eo68⟩ := Kd.R_slice HO330.out
      (first | subst eo68 | (injection eo68 with f1_ f2_ f3_; have f4_ := f1_.symm; have f5_ := f3_.symm; clear f1_ f2_ f3_; subst f4_; subst f5_))
      refine hK.out _ _ ⟨(blk_cell BK315.out 0).trans rfl, (blk_cell BK315.out 1).trans rfl, (blk_cell BK293.out 0).trans rfl, (blk_cell BK293.out 1).trans rfl⟩ (fun hHeld => ?_)
      clear hK K
      refine norm_ (a' := ?_) ?_ ?_
      rotate_left
      ·
       show Act.put _ (some 43) _ = _
       simp only [Act.put, List.setIfInBounds_toArray, List.set_cons_zero, List.set_cons_succ, i64_w, i32_w]
       rfl
      refine one_ (i := 3) (N := some 44) #[true, true, true, true, false] rfl rfl (by kernel_rfl) (by decide) (fun K hK => ?_)
      refine goes_ Try.func19 (by kernel_rfl) rfl #[.agg #[.slice Ao28 t309.length co28, .slice Ao32 t312.length co32], .agg #[.slice Ao67 t325.length co67, .slice Ao68 t328.length co68]] (by rfl) rfl rfl tM ?_
      with_reducible refine (laws_eqMobile.calls kj10 _ _ t309 _ _ t312 _ _ t325 _ _ t328 true _ ?side1 ?side2 ?side3 ?side4 ?side5 ?side6 ?side7 ?side8 A61.out).mono ?_
      (case side1 => exact tC (Kd.R_reads' HO_316000.out).2.2)
      (case side2 => exact (Kd.R_reads' HO_316000.out).2.1)
      (case side3 => exact tC (Kd.R_reads' HO_316001.out).2.2)
      (case side4 => exact (Kd.R_reads' HO_316001.out).2.1)
      (case side5 => exact tC (Kd.R_reads' HO327.out).2.2)
      (case side6 => exact (Kd.R_reads' HO327.out).2.1)
      (case side7 => exact tC (Kd.R_reads' HO330.out).2.2)
      (case side8 => exact (Kd.R_reads' HO330.out).2.1)
      rintro e w69 ⟨rfl, hb⟩
      refine ⟨_, rfl, ?_⟩
      replace HO_309000 := Aside0.mk (Kd.R_below (tR HO_309000.out) hb)
      replace HO_309001 := Aside0.mk (Kd.R_below (tR HO_309001.out) hb)
      replace HO_316000 := Aside0.mk (Kd.R_below (tR HO_316000.out) hb)
      replace HO_316001 := Aside0.mk (Kd.R_below (tR HO_316001.out) hb)
      replace HO_324000 := Aside0.mk (Kd.R_below (tR HO_324000.out) hb)
      replace HO_324001 := Aside0.mk (Kd.R_below (tR HO_324001.out) hb)
      replace HO327 := Aside0.mk (Kd.R_below (tR HO327.out) hb)
      replace HO330 := Aside0.mk (Kd.R_below (tR HO330.out) hb)
      replace BK293 := bkB BK293 hb
      replace BK308 := bkB BK308 hb
      replace BK315 := bkB BK315 hb
      replace BK323 := bkB BK323 hb
      replace HB := Aside0.mk (below_step (tB HB.out) hb)
      (try clear hb)
      (try clear hb2)
      (try clear hk)
      (try clear hi)
      refine hK.out _ _ ⟨(blk_cell BK315.out 0).trans rfl, (blk_cell BK315.out 1).trans rfl, (blk_cell BK293.out 0).trans rfl, (blk_cell BK293.out 1).trans rfl⟩ (fun hHeld => ?_)
      clear hK K
      refine norm_ (a' := ?_) ?_ ?_
      rotate_left
      ·
       show Act.put _ (some 44) _ = _
       simp only [Act.put, List.setIfInBounds_toArray, List.set_cons_zero, List.set_cons_succ, i64_w, i32_w]
       rfl
      refine pure_ (i := 4) (N := some 45) (v := ?_) (a' := ?_) #[true, true, true, true, true] rfl rfl (by kernel_rfl) (fun _ _ _ h => h) (Or.inl ⟨by rfl, ?_⟩) ?_ ?_
      rotate_left
      ·
       intro w'
       go_simp
       with_reducible rfl
      rotate_left
      ·
       simp only [Act.put, List.setIfInBounds_toArray, List.set_cons_zero, List.set_cons_succ, i64_w, i32_w]
       rfl
      refine done_ (by kernel_rfl) ?_
      have hnb70 := NB315_293.out
      have hnc70 := NB293_315.out
      have hnb71 := NB315_308.out
      have hnc71 := NB308_315.out
      have hnb72 := NB315_323.out
      have hnc72 := NB323_315.out
      obtain ⟨hcz73_0, hfz73_0, hcz73_1, hfz73_1⟩ := cz2 BK315
      go_upto_region 14 with (first | ((with_reducible refine gate_callee (f := 24) rfl ?_); refine goesL_ (some 48) rfl rfl Try.func24 (by kernel_rfl) rfl #[.agg #[.slice Ao28 t309.length co28, .slice Ao32 t312.length co32], .int .i64 1] rfl tM ?_; (with_reducible refine (laws_markMobile.calls kj10 (fun k_ => some k_ = (.slice Ao28 t309.length co28 : Value).ownBlock) (.slice Ao28 t309.length co28) t309 (fun k_ => some k_ = (.slice Ao32 t312.length co32 : Value).ownBlock) (.slice Ao32 t312.length co32) t312 1 t332 t333 t334 w _ ?side1 ?side2 ?side3 ?side4 ?side5 A63.out).mono ?_); (case side1 => repeat (first | (with_reducible first | exact HB.out | apply below_alloc | apply pw_below_drewN | apply below_drew1 | refine below_set ?_ GE293.out | refine below_set ?_ GE308.out | refine below_set ?_ GE315.out | refine below_set ?_ GE323.out) | exact HB.out)); (case side2 => exact Kd.R_tight rfl HO_316000.out); (case side3 => exact fun k_ e_ => (HO_316000.out.1 k_ e_.symm).1.1.2.2.1); (case side4 => exact Kd.R_tight rfl HO_316001.out); (case side5 => exact fun k_ e_ => (HO_316001.out.1 k_ e_.symm).1.1.2.2.1); rintro e w74 ⟨rfl, hy0, hy1, hb, hkp⟩; refine ⟨_, rfl, ?_⟩; replace HO_309000 := Aside0.mk (Kd.R_mono (ok' := fun k_ => some k_ ≠ (.slice Ao24 t304.length co24 : Value).ownBlock ∧ some k_ ≠ (.slice Ao28 t309.length co28 : Value).ownBlock ∧ some k_ ≠ (.slice Ao32 t312.length co32 : Value).ownBlock ∧ some k_ ≠ (.slice Ao35 t316.length co35 : Value).ownBlock ∧ some k_ ≠ (.slice Ao40 t319.length co40 : Value).ownBlock ∧ some k_ ≠ (.slice Ao67 t325.length co67 : Value).ownBlock ∧ some k_ ≠ (.slice Ao68 t328.length co68 : Value).ownBlock) (Kd.R_keptB (HO_309000.out) hkp (fun k_ hk_ hs_ => Or.elim hs_ (fun e_ => (hk_.1.1.2.1) e_) (fun e_ => (hk_.1.1.2.2.1) e_))) (fun k_ hk_ => ⟨hk_.1.1.1.1, hk_.1.1.1.2.1, hk_.1.1.1.2.2.1, hk_.1.1.1.2.2.2.1, hk_.1.1.1.2.2.2.2, hk_.1.1.2, hk_.1.2⟩)); replace HO_309001 := Aside0.mk (Kd.R_mono (ok' := fun k_ => some k_ ≠ (.slice Ao21 t301.length co21 : Value).ownBlock ∧ some k_ ≠ (.slice Ao28 t309.length co28 : Value).ownBlock ∧ some k_ ≠ (.slice Ao32 t312.length co32 : Value).ownBlock ∧ some k_ ≠ (.slice Ao35 t316.length co35 : Value).ownBlock ∧ some k_ ≠ (.slice Ao40 t319.length co40 : Value).ownBlock ∧ some k_ ≠ (.slice Ao67 t325.length co67 : Value).ownBlock ∧ some k_ ≠ (.slice Ao68 t328.length co68 : Value).ownBlock) (Kd.R_keptB (HO_309001.out) hkp (fun k_ hk_ hs_ => Or.elim hs_ (fun e_ => (hk_.1.1.2.1) e_) (fun e_ => (hk_.1.1.2.2.1) e_))) (fun k_ hk_ => ⟨hk_.1.1.1.1, hk_.1.1.1.2.1, hk_.1.1.1.2.2.1, hk_.1.1.1.2.2.2.1, hk_.1.1.1.2.2.2.2, hk_.1.1.2, hk_.1.2⟩)); replace HO_324000 := Aside0.mk (Kd.R_mono (ok' := fun k_ => some k_ ≠ (.slice Ao21 t301.length co21 : Value).ownBlock ∧ some k_ ≠ (.slice Ao24 t304.length co24 : Value).ownBlock ∧ some k_ ≠ (.slice Ao28 t309.length co28 : Value).ownBlock ∧ some k_ ≠ (.slice Ao32 t312.length co32 : Value).ownBlock ∧ some k_ ≠ (.slice Ao40 t319.length co40 : Value).ownBlock ∧ some k_ ≠ (.slice Ao67 t325.length co67 : Value).ownBlock ∧ some k_ ≠ (.slice Ao68 t328.length co68 : Value).ownBlock) (Kd.R_keptB (HO_324000.out) hkp (fun k_ hk_ hs_ => Or.elim hs_ (fun e_ => (hk_.1.1.2.2.1) e_) (fun e_ => (hk_.1.1.2.2.2.1) e_))) (fun k_ hk_ => ⟨hk_.1.1.1.1, hk_.1.1.1.2.1, hk_.1.1.1.2.2.1, hk_.1.1.1.2.2.2.1, hk_.1.1.1.2.2.2.2, hk_.1.1.2, hk_.1.2⟩)); replace HO_324001 := Aside0.mk (Kd.R_mono (ok' := fun k_ => some k_ ≠ (.slice Ao21 t301.length co21 : Value).ownBlock ∧ some k_ ≠ (.slice Ao24 t304.length co24 : Value).ownBlock ∧ some k_ ≠ (.slice Ao28 t309.length co28 : Value).ownBlock ∧ some k_ ≠ (.slice Ao32 t312.length co32 : Value).ownBlock ∧ some k_ ≠ (.slice Ao35 t316.length co35 : Value).ownBlock ∧ some k_ ≠ (.slice Ao67 t325.length co67 : Value).ownBlock ∧ some k_ ≠ (.slice Ao68 t328.length co68 : Value).ownBlock) (Kd.R_keptB (HO_324001.out) hkp (fun k_ hk_ hs_ => Or.elim hs_ (fun e_ => (hk_.1.1.2.2.1) e_) (fun e_ => (hk_.1.1.2.2.2.1) e_))) (fun k_ hk_ => ⟨hk_.1.1.1.1, hk_.1.1.1.2.1, hk_.1.1.1.2.2.1, hk_.1.1.1.2.2.2.1, hk_.1.1.1.2.2.2.2, hk_.1.1.2, hk_.1.2⟩)); replace BK293 := Aside0.mk (blk_kept (tK BK293.out) hkp (fun hs_ => Or.elim hs_ (fun e_ => (fun e_ => (Kd.R_ne HO_316000.out BK293.out (by decide)) e_) e_) (fun e_ => (fun e_ => (Kd.R_ne HO_316001.out BK293.out (by decide)) e_) e_))); replace BK308 := Aside0.mk (blk_kept (tK BK308.out) hkp (fun hs_ => Or.elim hs_ (fun e_ => (fun e_ => (Kd.R_ne HO_316000.out BK308.out (by decide)) e_) e_) (fun e_ => (fun e_ => (Kd.R_ne HO_316001.out BK308.out (by decide)) e_) e_))); replace BK315 := Aside0.mk (blk_kept (tK BK315.out) hkp (fun hs_ => Or.elim hs_ (fun e_ => (fun e_ => (Kd.R_ne HO_316000.out BK315.out (by decide)) e_) e_) (fun e_ => (fun e_ => (Kd.R_ne HO_316001.out BK315.out (by decide)) e_) e_))); replace BK323 := Aside0.mk (blk_kept (tK BK323.out) hkp (fun hs_ => Or.elim hs_ (fun e_ => (fun e_ => (Kd.R_ne HO_316000.out BK323.out (by decide)) e_) e_) (fun e_ => (fun e_ => (Kd.R_ne HO_316001.out BK323.out (by decide)) e_) e_))); replace HO_316000 := Aside0.mk (Kd.R_reok rfl hy0 (fun k_ e_ => HO_316000.out.1 k_ e_)); replace HO_316001 := Aside0.mk (Kd.R_reok rfl hy1 (fun k_ e_ => HO_316001.out.1 k_ e_)); replace HO327 := Aside0.mk (Kd.R_mono (ok' := fun k_ => some k_ ≠ (.slice Ao21 t301.length co21 : Value).ownBlock ∧ some k_ ≠ (.slice Ao24 t304.length co24 : Value).ownBlock ∧ some k_ ≠ (.slice Ao28 t309.length co28 : Value).ownBlock ∧ some k_ ≠ (.slice Ao32 t312.length co32 : Value).ownBlock ∧ some k_ ≠ (.slice Ao35 t316.length co35 : Value).ownBlock ∧ some k_ ≠ (.slice Ao40 t319.length co40 : Value).ownBlock ∧ some k_ ≠ (.slice Ao68 t328.length co68 : Value).ownBlock) (Kd.R_keptB (HO327.out) hkp (fun k_ hk_ hs_ => Or.elim hs_ (fun e_ => (hk_.1.1.1.2) e_) (fun e_ => (hk_.1.1.2) e_))) (fun k_ hk_ => ⟨hk_.1.1.1.1.1.1.2, hk_.1.1.1.1.1.2, hk_.1.1.1.1.2, hk_.1.1.1.2, hk_.1.1.2, hk_.1.2, hk_.1.1.1.1.1.1.1⟩)); replace HO330 := Aside0.mk (Kd.R_mono (ok' := fun k_ => some k_ ≠ (.slice Ao21 t301.length co21 : Value).ownBlock ∧ some k_ ≠ (.slice Ao24 t304.length co24 : Value).ownBlock ∧ some k_ ≠ (.slice Ao28 t309.length co28 : Value).ownBlock ∧ some k_ ≠ (.slice Ao32 t312.length co32 : Value).ownBlock ∧ some k_ ≠ (.slice Ao35 t316.length co35 : Value).ownBlock ∧ some k_ ≠ (.slice Ao40 t319.length co40 : Value).ownBlock ∧ some k_ ≠ (.slice Ao67 t325.length co67 : Value).ownBlock) (Kd.R_keptB (HO330.out) hkp (fun k_ hk_ hs_ => Or.elim hs_ (fun e_ => (hk_.1.1.1.2) e_) (fun e_ => (hk_.1.1.2) e_))) (fun k_ hk_ => ⟨hk_.1.1.1.1.1.1.2, hk_.1.1.1.1.1.2, hk_.1.1.1.1.2, hk_.1.1.1.2, hk_.1.1.2, hk_.1.2, hk_.1.1.1.1.1.1.1⟩)); replace HB := Aside0.mk (hb); (try clear hb); (try clear hkp); (try clear hy0); (try clear hy1)))
      (try simp only [Act.put, List.setIfInBounds_toArray, List.set_cons_zero, List.set_cons_succ])
      go_cut [61] (fun v61 wc => ∃ (kq : Nat) (x61_63 : Bool), v61 = .bool x61_63 ∧ Aside0 (laws_FnExactLevelArms.j1 kq t307 x61_63 l0_0 l0_1 t301 t304 t316 t319 = some r) ∧ Aside0 (kq ≤ kj10) ∧ Aside0 (Kd.R k58 58 wc w.heap.size (fun k_ => some k_ ≠ ((.slice Ao24 t304.length co24) : Value).ownBlock ∧ some k_ ≠ ((.slice Ao28 t309.length co28) : Value).ownBlock ∧ some k_ ≠ ((.slice Ao32 t312.length co32) : Value).ownBlock ∧ some k_ ≠ ((.slice Ao35 t316.length co35) : Value).ownBlock ∧ some k_ ≠ ((.slice Ao40 t319.length co40) : Value).ownBlock) (.slice Ao21 t301.length co21) t301) ∧ Aside0 (Kd.R k58 58 wc w.heap.size (fun k_ => some k_ ≠ ((.slice Ao21 t301.length co21) : Value).ownBlock ∧ some k_ ≠ ((.slice Ao28 t309.length co28) : Value).ownBlock ∧ some k_ ≠ ((.slice Ao32 t312.length co32) : Value).ownBlock ∧ some k_ ≠ ((.slice Ao35 t316.length co35) : Value).ownBlock ∧ some k_ ≠ ((.slice Ao40 t319.length co40) : Value).ownBlock) (.slice Ao24 t304.length co24) t304) ∧ Aside0 (Kd.R k58 58 wc w.heap.size (fun k_ => some k_ ≠ ((.slice Ao21 t301.length co21) : Value).ownBlock ∧ some k_ ≠ ((.slice Ao24 t304.length co24) : Value).ownBlock ∧ some k_ ≠ ((.slice Ao32 t312.length co32) : Value).ownBlock ∧ some k_ ≠ ((.slice Ao35 t316.length co35) : Value).ownBlock ∧ some k_ ≠ ((.slice Ao40 t319.length co40) : Value).ownBlock) (.slice Ao28 t309.length co28) t333) ∧ Aside0 (Kd.R k58 58 wc w.heap.size (fun k_ => some k_ ≠ ((.slice Ao21 t301.length co21) : Value).ownBlock ∧ some k_ ≠ ((.slice Ao24 t304.length co24) : Value).ownBlock ∧ some k_ ≠ ((.slice Ao28 t309.length co28) : Value).ownBlock ∧ some k_ ≠ ((.slice Ao35 t316.length co35) : Value).ownBlock ∧ some k_ ≠ ((.slice Ao40 t319.length co40) : Value).ownBlock) (.slice Ao32 t312.length co32) t334) ∧ Aside0 (Kd.R k58 58 wc w.heap.size (fun k_ => some k_ ≠ ((.slice Ao21 t301.length co21) : Value).ownBlock ∧ some k_ ≠ ((.slice Ao24 t304.length co24) : Value).ownBlock ∧ some k_ ≠ ((.slice Ao28 t309.length co28) : Value).ownBlock ∧ some k_ ≠ ((.slice Ao32 t312.length co32) : Value).ownBlock ∧ some k_ ≠ ((.slice Ao40 t319.length co40) : Value).ownBlock) (.slice Ao35 t316.length co35) t316) ∧ Aside0 (Kd.R k58 58 wc w.heap.size (fun k_ => some k_ ≠ ((.slice Ao21 t301.length co21) : Value).ownBlock ∧ some k_ ≠ ((.slice Ao24 t304.length co24) : Value).ownBlock ∧ some k_ ≠ ((.slice Ao28 t309.length co28) : Value).ownBlock ∧ some k_ ≠ ((.slice Ao32 t312.length co32) : Value).ownBlock ∧ some k_ ≠ ((.slice Ao35 t316.length co35) : Value).ownBlock) (.slice Ao40 t319.length co40) t319) ∧ Aside0 (wc.heap[gb293]? = some (.cells #[(.slice A0_0 l0_0.length c0_0), (.slice A0_1 l0_1.length c0_1)] 24 (0, 0))) ∧ Aside0 (wc.heap[gb308]? = some (.cells #[(.slice Ao21 t301.length co21), (.slice Ao24 t304.length co24)] 27 (0, 0))) ∧ Aside0 (wc.heap[gb315]? = some (.cells #[(.slice Ao28 t309.length co28), (.slice Ao32 t312.length co32)] 27 (0, 0))) ∧ Aside0 (wc.heap[gb323]? = some (.cells #[(.slice Ao35 t316.length co35), (.slice Ao40 t319.length co40)] 27 (0, 0))) ∧ Aside0 (Below w.heap.size w wc))
      case first =>
       have H := HC64.out
       clear HC64
       by_cases c75 : t332 < 0
       ·
        rw [if_pos c75] at H
        have c75b0 : decide (t332 < 0) = true := decide_eq_true c75
        clear c75
        (first | rw [c75b0] | (simp only [i64_w, i32_w]; rw [c75b0]) | skip)
        have H' := Aside0.mk H
        clear H
        go_wp2
        go_meet
        case rel => exact ⟨_, (true), (by first | rfl | (simp; done) | (simp [wrap64]; done) | (simp [*]; done)), H', ⟨by have := HJ10.out; first | omega | exact Nat.le_refl _⟩, ⟨by (with_reducible repeat (first | apply Kd.R_alloc | apply Kd.R_drewN | apply Kd.R_drew)); exact Kd.R_mono HO_309000.out (fun _ hk => ⟨hk.1, ⟨hk.2.1, ⟨hk.2.2.1, ⟨hk.2.2.2.1, hk.2.2.2.2.1⟩⟩⟩⟩)⟩, ⟨by (with_reducible repeat (first | apply Kd.R_alloc | apply Kd.R_drewN | apply Kd.R_drew)); exact Kd.R_mono HO_309001.out (fun _ hk => ⟨hk.1, ⟨hk.2.1, ⟨hk.2.2.1, ⟨hk.2.2.2.1, hk.2.2.2.2.1⟩⟩⟩⟩)⟩, ⟨by (with_reducible repeat (first | apply Kd.R_alloc | apply Kd.R_drewN | apply Kd.R_drew)); exact Kd.R_mono HO_316000.out (fun _ hk => ⟨hk.1.1.1, ⟨hk.1.1.2.1, ⟨hk.1.1.2.2.1, ⟨hk.1.1.2.2.2.1, hk.1.1.2.2.2.2⟩⟩⟩⟩)⟩, ⟨by (with_reducible repeat (first | apply Kd.R_alloc | apply Kd.R_drewN | apply Kd.R_drew)); exact Kd.R_mono HO_316001.out (fun _ hk => ⟨hk.1.1.1, ⟨hk.1.1.2.1, ⟨hk.1.1.2.2.1, ⟨hk.1.1.2.2.2.1, hk.1.1.2.2.2.2⟩⟩⟩⟩)⟩, ⟨by (with_reducible repeat (first | apply Kd.R_alloc | apply Kd.R_drewN | apply Kd.R_drew)); exact Kd.R_mono HO_324000.out (fun _ hk => ⟨hk.1, ⟨hk.2.1, ⟨hk.2.2.1, ⟨hk.2.2.2.1, hk.2.2.2.2.1⟩⟩⟩⟩)⟩, ⟨by (with_reducible repeat (first | apply Kd.R_alloc | apply Kd.R_drewN | apply Kd.R_drew)); exact Kd.R_mono HO_324001.out (fun _ hk => ⟨hk.1, ⟨hk.2.1, ⟨hk.2.2.1, ⟨hk.2.2.2.1, hk.2.2.2.2.1⟩⟩⟩⟩)⟩, ⟨tK BK293.out⟩, ⟨tK BK308.out⟩, ⟨tK BK315.out⟩, ⟨tK BK323.out⟩, ⟨tB HB.out⟩⟩
       ·
        rw [if_neg c75] at H
        have c75b0 : decide (t332 < 0) = false := decide_eq_false c75
        clear c75
        (first | rw [c75b0] | (simp only [i64_w, i32_w]; rw [c75b0]) | skip)
        replace H := Option.bind_eq_some_iff.mp H
        obtain ⟨t335, A760, H⟩ := H
        replace H : (if t335 = true then (laws_FnExactLevelArms.j1 kj10 t307 (t322 != t307) l0_0 l0_1 t301 t304 t316 t319) else (laws_FnExactLevelArms.j1 kj10 t307 true l0_0 l0_1 t301 t304 t316 t319)) = some r := H
        have A76 := Aside0.mk A760
        clear A760
        by_cases c77 : t335 = true
        ·
         subst c77
         have H1 : (laws_FnExactLevelArms.j1 kj10 t307 (t322 != t307) l0_0 l0_1 t301 t304 t316 t319) = some r := by rw [if_pos rfl] at H; exact H
         clear H
         have H := H1
         clear H1
         have H' := Aside0.mk H
         clear H
         have hnb78 := NB323_293.out
         have hnc78 := NB293_323.out
         have hnb79 := NB323_308.out
         have hnc79 := NB308_323.out
         have hnb80 := NB323_315.out
         have hnc80 := NB315_323.out
         obtain ⟨hcz81_0, hfz81_0, hcz81_1, hfz81_1⟩ := cz2 BK323
         have hnb82 := NB308_293.out
         have hnc82 := NB293_308.out
         have hnb83 := NB308_315.out
         have hnc83 := NB315_308.out
         obtain ⟨hcz84_0, hfz84_0, hcz84_1, hfz84_1⟩ := cz2 BK308
         go_wp2_with (first | (go_at_call 19; (with_reducible refine (laws_eqMobile.calls kj10 _ _ t316 _ _ t319 _ _ t301 _ _ t304 true _ ?side1 ?side2 ?side3 ?side4 ?side5 ?side6 ?side7 ?side8 A76.out).mono ?_); (case side1 => exact tC (Kd.R_reads' HO_324000.out).2.2); (case side2 => exact (Kd.R_reads' HO_324000.out).2.1); (case side3 => exact tC (Kd.R_reads' HO_324001.out).2.2); (case side4 => exact (Kd.R_reads' HO_324001.out).2.1); (case side5 => exact tC (Kd.R_reads' HO_309000.out).2.2); (case side6 => exact (Kd.R_reads' HO_309000.out).2.1); (case side7 => exact tC (Kd.R_reads' HO_309001.out).2.2); (case side8 => exact (Kd.R_reads' HO_309001.out).2.1); rintro e w85 ⟨rfl, hb⟩; replace HO_309000 := Aside0.mk (Kd.R_below (tR HO_309000.out) hb); replace HO_309001 := Aside0.mk (Kd.R_below (tR HO_309001.out) hb); replace HO_316000 := Aside0.mk (Kd.R_below (tR HO_316000.out) hb); replace HO_316001 := Aside0.mk (Kd.R_below (tR HO_316001.out) hb); replace HO_324000 := Aside0.mk (Kd.R_below (tR HO_324000.out) hb); replace HO_324001 := Aside0.mk (Kd.R_below (tR HO_324001.out) hb); replace HO327 := Aside0.mk (Kd.R_below (tR HO327.out) hb); replace HO330 := Aside0.mk (Kd.R_below (tR HO330.out) hb); replace BK293 := bkB BK293 hb; replace BK308 := bkB BK308 hb; replace BK315 := bkB BK315 hb; replace BK323 := bkB BK323 hb; replace HB := Aside0.mk (below_step (tB HB.out) hb); (try clear hb); (try clear hb2); (try clear hk); (try clear hi)))
         go_meet
         case rel => exact ⟨_, ((t322 != t307)), (by first | rfl | (simp; done) | (simp [wrap64]; done) | (simp [*]; done)), H', ⟨by have := HJ10.out; first | omega | exact Nat.le_refl _⟩, ⟨by (with_reducible repeat (first | apply Kd.R_alloc | apply Kd.R_drewN | apply Kd.R_drew)); exact Kd.R_mono HO_309000.out (fun _ hk => ⟨hk.1, ⟨hk.2.1, ⟨hk.2.2.1, ⟨hk.2.2.2.1, hk.2.2.2.2.1⟩⟩⟩⟩)⟩, ⟨by (with_reducible repeat (first | apply Kd.R_alloc | apply Kd.R_drewN | apply Kd.R_drew)); exact Kd.R_mono HO_309001.out (fun _ hk => ⟨hk.1, ⟨hk.2.1, ⟨hk.2.2.1, ⟨hk.2.2.2.1, hk.2.2.2.2.1⟩⟩⟩⟩)⟩, ⟨by (with_reducible repeat (first | apply Kd.R_alloc | apply Kd.R_drewN | apply Kd.R_drew)); exact Kd.R_mono HO_316000.out (fun _ hk => ⟨hk.1.1.1, ⟨hk.1.1.2.1, ⟨hk.1.1.2.2.1, ⟨hk.1.1.2.2.2.1, hk.1.1.2.2.2.2⟩⟩⟩⟩)⟩, ⟨by (with_reducible repeat (first | apply Kd.R_alloc | apply Kd.R_drewN | apply Kd.R_drew)); exact Kd.R_mono HO_316001.out (fun _ hk => ⟨hk.1.1.1, ⟨hk.1.1.2.1, ⟨hk.1.1.2.2.1, ⟨hk.1.1.2.2.2.1, hk.1.1.2.2.2.2⟩⟩⟩⟩)⟩, ⟨by (with_reducible repeat (first | apply Kd.R_alloc | apply Kd.R_drewN | apply Kd.R_drew)); exact Kd.R_mono HO_324000.out (fun _ hk => ⟨hk.1, ⟨hk.2.1, ⟨hk.2.2.1, ⟨hk.2.2.2.1, hk.2.2.2.2.1⟩⟩⟩⟩)⟩, ⟨by (with_reducible repeat (first | apply Kd.R_alloc | apply Kd.R_drewN | apply Kd.R_drew)); exact Kd.R_mono HO_324001.out (fun _ hk => ⟨hk.1, ⟨hk.2.1, ⟨hk.2.2.1, ⟨hk.2.2.2.1, hk.2.2.2.2.1⟩⟩⟩⟩)⟩, ⟨tK BK293.out⟩, ⟨tK BK308.out⟩, ⟨tK BK315.out⟩, ⟨tK BK323.out⟩, ⟨tB HB.out⟩⟩
        ·
         replace c77 := Bool.eq_false_iff.mpr c77
         subst c77
         have H1 : (laws_FnExactLevelArms.j1 kj10 t307 true l0_0 l0_1 t301 t304 t316 t319) = some r := by rw [if_neg (show ¬ (false = true) by decide)] at H; exact H
         clear H
         have H := H1
         clear H1
         have H' := Aside0.mk H
         clear H
         have hnb86 := NB323_293.out
         have hnc86 := NB293_323.out
         have hnb87 := NB323_308.out
         have hnc87 := NB308_323.out
         have hnb88 := NB323_315.out
         have hnc88 := NB315_323.out
         obtain ⟨hcz89_0, hfz89_0, hcz89_1, hfz89_1⟩ := cz2 BK323
         have hnb90 := NB308_293.out
         have hnc90 := NB293_308.out
         have hnb91 := NB308_315.out
         have hnc91 := NB315_308.out
         obtain ⟨hcz92_0, hfz92_0, hcz92_1, hfz92_1⟩ := cz2 BK308
         go_wp2_with (first | (go_at_call 19; (with_reducible refine (laws_eqMobile.calls kj10 _ _ t316 _ _ t319 _ _ t301 _ _ t304 false _ ?side1 ?side2 ?side3 ?side4 ?side5 ?side6 ?side7 ?side8 A76.out).mono ?_); (case side1 => exact tC (Kd.R_reads' HO_324000.out).2.2); (case side2 => exact (Kd.R_reads' HO_324000.out).2.1); (case side3 => exact tC (Kd.R_reads' HO_324001.out).2.2); (case side4 => exact (Kd.R_reads' HO_324001.out).2.1); (case side5 => exact tC (Kd.R_reads' HO_309000.out).2.2); (case side6 => exact (Kd.R_reads' HO_309000.out).2.1); (case side7 => exact tC (Kd.R_reads' HO_309001.out).2.2); (case side8 => exact (Kd.R_reads' HO_309001.out).2.1); rintro e w93 ⟨rfl, hb⟩; replace HO_309000 := Aside0.mk (Kd.R_below (tR HO_309000.out) hb); replace HO_309001 := Aside0.mk (Kd.R_below (tR HO_309001.out) hb); replace HO_316000 := Aside0.mk (Kd.R_below (tR HO_316000.out) hb); replace HO_316001 := Aside0.mk (Kd.R_below (tR HO_316001.out) hb); replace HO_324000 := Aside0.mk (Kd.R_below (tR HO_324000.out) hb); replace HO_324001 := Aside0.mk (Kd.R_below (tR HO_324001.out) hb); replace HO327 := Aside0.mk (Kd.R_below (tR HO327.out) hb); replace HO330 := Aside0.mk (Kd.R_below (tR HO330.out) hb); replace BK293 := bkB BK293 hb; replace BK308 := bkB BK308 hb; replace BK315 := bkB BK315 hb; replace BK323 := bkB BK323 hb; replace HB := Aside0.mk (below_step (tB HB.out) hb); (try clear hb); (try clear hb2); (try clear hk); (try clear hi)))
         go_meet
         case rel => exact ⟨_, (true), (by first | rfl | (simp; done) | (simp [wrap64]; done) | (simp [*]; done)), H', ⟨by have := HJ10.out; first | omega | exact Nat.le_refl _⟩, ⟨by (with_reducible repeat (first | apply Kd.R_alloc | apply Kd.R_drewN | apply Kd.R_drew)); exact Kd.R_mono HO_309000.out (fun _ hk => ⟨hk.1, ⟨hk.2.1, ⟨hk.2.2.1, ⟨hk.2.2.2.1, hk.2.2.2.2.1⟩⟩⟩⟩)⟩, ⟨by (with_reducible repeat (first | apply Kd.R_alloc | apply Kd.R_drewN | apply Kd.R_drew)); exact Kd.R_mono HO_309001.out (fun _ hk => ⟨hk.1, ⟨hk.2.1, ⟨hk.2.2.1, ⟨hk.2.2.2.1, hk.2.2.2.2.1⟩⟩⟩⟩)⟩, ⟨by (with_reducible repeat (first | apply Kd.R_alloc | apply Kd.R_drewN | apply Kd.R_drew)); exact Kd.R_mono HO_316000.out (fun _ hk => ⟨hk.1.1.1, ⟨hk.1.1.2.1, ⟨hk.1.1.2.2.1, ⟨hk.1.1.2.2.2.1, hk.1.1.2.2.2.2⟩⟩⟩⟩)⟩, ⟨by (with_reducible repeat (first | apply Kd.R_alloc | apply Kd.R_drewN | apply Kd.R_drew)); exact Kd.R_mono HO_316001.out (fun _ hk => ⟨hk.1.1.1, ⟨hk.1.1.2.1, ⟨hk.1.1.2.2.1, ⟨hk.1.1.2.2.2.1, hk.1.1.2.2.2.2⟩⟩⟩⟩)⟩, ⟨by (with_reducible repeat (first | apply Kd.R_alloc | apply Kd.R_drewN | apply Kd.R_drew)); exact Kd.R_mono HO_324000.out (fun _ hk => ⟨hk.1, ⟨hk.2.1, ⟨hk.2.2.1, ⟨hk.2.2.2.1, hk.2.2.2.2.1⟩⟩⟩⟩)⟩, ⟨by (with_reducible repeat (first | apply Kd.R_alloc | apply Kd.R_drewN | apply Kd.R_drew)); exact Kd.R_mono HO_324001.out (fun _ hk => ⟨hk.1, ⟨hk.2.1, ⟨hk.2.2.1, ⟨hk.2.2.2.1, hk.2.2.2.2.1⟩⟩⟩⟩)⟩, ⟨tK BK293.out⟩, ⟨tK BK308.out⟩, ⟨tK BK315.out⟩, ⟨tK BK323.out⟩, ⟨tB HB.out⟩⟩
      case rest =>
       clear HC64
       try clear c1
       try clear c2
       try clear p2
       try clear c3
       try clear c3b0
       try clear c4
       try clear c5
       try clear c6
       try clear p6
       try clear c7
       try clear c8
       try clear c9
       try clear c10
       try clear c15
       try clear c17
       try clear c19
       try clear c22
       try clear c24
       try clear c29
       try clear c30
       try clear c36
       try clear c37
       try clear c38
       try clear c42
       try clear c43
       try clear c44
       try clear c45
       try clear c47
       try clear c48
       try clear c51
       try clear c52
       try clear c53
       try clear c55
       try clear c56
       try clear c59
       try clear c62
       try clear p64
       try clear c70
       try clear c71
       try clear c72
       try clear c75
       try clear c75b0
       try clear c77
       try clear c78
       try clear c79
       try clear c80
       try clear c82
       try clear c83
       try clear c86
       try clear c87
       try clear c88
       try clear c90
       try clear c91
       try clear hcz13_0
       try clear hcz13_1
       try clear hcz15_0
       try clear hcz15_1
       try clear hcz23_0
       try clear hcz23_1
       try clear hcz25_0
       try clear hcz25_1
       try clear hcz31_0
       try clear hcz31_1
       try clear hcz39_0
       try clear hcz39_1
       try clear hcz46_0
       try clear hcz46_1
       try clear hcz49_0
       try clear hcz49_1
       try clear hcz54_0
       try clear hcz54_1
       try clear hcz57_0
       try clear hcz57_1
       try clear hcz5_0
       try clear hcz5_1
       try clear hcz73_0
       try clear hcz73_1
       try clear hcz81_0
       try clear hcz81_1
       try clear hcz84_0
       try clear hcz84_1
       try clear hcz89_0
       try clear hcz89_1
       try clear hcz92_0
       try clear hcz92_1
       try clear hfz13_0
       try clear hfz13_1
       try clear hfz15_0
       try clear hfz15_1
       try clear hfz23_0
       try clear hfz23_1
       try clear hfz25_0
       try clear hfz25_1
       try clear hfz31_0
       try clear hfz31_1
       try clear hfz39_0
       try clear hfz39_1
       try clear hfz46_0
       try clear hfz46_1
       try clear hfz49_0
       try clear hfz49_1
       try clear hfz54_0
       try clear hfz54_1
       try clear hfz57_0
       try clear hfz57_1
       try clear hfz5_0
       try clear hfz5_1
       try clear hfz73_0
       try clear hfz73_1
       try clear hfz81_0
       try clear hfz81_1
       try clear hfz84_0
       try clear hfz84_1
       try clear hfz89_0
       try clear hfz89_1
       try clear hfz92_0
       try clear hfz92_1
       try clear p2
       try clear p6
       obtain ⟨kq, x61_63, rfl, HA, HJ63, HO_309000, HO_309001, HO_316000, HO_316001, HO_324000, HO_324001, BK293, BK308, BK315, BK323, HB⟩ := hcut
       have hl316000_63 := (Kd.R_reads' HO_316000.out).1
       rw [hl316000_63] at HO_316000
       (try simp only [hl316000_63])
       (try simp only [hl316000_63] at BK293)
       (try simp only [hl316000_63] at BK308)
       (try simp only [hl316000_63] at BK315)
       (try simp only [hl316000_63] at BK323)
       (try simp only [hl316000_63] at HO_309000)
       (try simp only [hl316000_63] at HO_309001)
       (try simp only [hl316000_63] at HO_316001)
       (try simp only [hl316000_63] at HO_324000)
       (try simp only [hl316000_63] at HO_324001)
       have hl316001_63 := (Kd.R_reads' HO_316001.out).1
       rw [hl316001_63] at HO_316001
       (try simp only [hl316001_63])
       (try simp only [hl316001_63] at BK293)
       (try simp only [hl316001_63] at BK308)
       (try simp only [hl316001_63] at BK315)
       (try simp only [hl316001_63] at BK323)
       (try simp only [hl316001_63] at HO_309000)
       (try simp only [hl316001_63] at HO_309001)
       (try simp only [hl316001_63] at HO_316000)
       (try simp only [hl316001_63] at HO_324000)
       (try simp only [hl316001_63] at HO_324001)
       cases kq with
       | zero => exact absurd HA.out (by simp [laws_FnExactLevelArms.j1])
       | succ kj63 =>
        have H := HA.out
        clear HA
        simp only [laws_FnExactLevelArms.j1] at H
        by_cases c94 : x61_63 = true
        ·
         subst c94
         have H1 : (some false) = some r := by rw [if_pos rfl] at H; exact H
         clear H
         have H := H1
         clear H1
         obtain rfl := Option.some.inj H
         go_wp2
         go_ret
         exact ⟨by first | rfl | (simp [errW_none, errW_some] <;> rfl) | (simp [*, errW_none, errW_some] <;> rfl), tB HB.out⟩
        ·
         replace c94 := Bool.eq_false_iff.mpr c94
         subst c94
         have H1 : ((laws_markMobile.f kj63 t316 t319 1).bind fun bt336 => ((laws_heldMobile.f kj63 bt336.2.1 bt336.2.2 1).bind fun t339 => (if t339 < 0 then (some false) else (if t339 = bt336.1 then ((laws_toMobile.f kj63 l0_0 l0_1).bind fun bt340 => ((impl_LevelArms.f kj63 bt340.1 bt340.2).bind fun bt346 => ((laws_eqMobile.f kj63 bt346.1 bt346.2.1 t301 t304).bind fun t354 => (if t354 = true then (laws_FnExactLevelArms.j2 kj63 bt336.1 (bt346.2.2 != t307) bt336.2.1 bt336.2.2) else (laws_FnExactLevelArms.j2 kj63 bt336.1 true bt336.2.1 bt336.2.2))))) else (some false))))) = some r := by rw [if_neg (show ¬ (false = true) by decide)] at H; exact H
         clear H
         have H := H1
         clear H1
         replace H := Option.bind_eq_some_iff.mp H
         obtain ⟨⟨t336, t337, t338⟩, A950, H⟩ := H
         replace H : ((laws_heldMobile.f kj63 t337 t338 1).bind fun t339 => (if t339 < 0 then (some false) else (if t339 = t336 then ((laws_toMobile.f kj63 l0_0 l0_1).bind fun bt340 => ((impl_LevelArms.f kj63 bt340.1 bt340.2).bind fun bt346 => ((laws_eqMobile.f kj63 bt346.1 bt346.2.1 t301 t304).bind fun t354 => (if t354 = true then (laws_FnExactLevelArms.j2 kj63 t336 (bt346.2.2 != t307) t337 t338) else (laws_FnExactLevelArms.j2 kj63 t336 true t337 t338))))) else (some false)))) = some r := H
         have A95 := Aside0.mk A950
         clear A950
         replace H := Option.bind_eq_some_iff.mp H
         obtain ⟨t339, A960, H⟩ := H
         replace H : (if t339 < 0 then (some false) else (if t339 = t336 then ((laws_toMobile.f kj63 l0_0 l0_1).bind fun bt340 => ((impl_LevelArms.f kj63 bt340.1 bt340.2).bind fun bt346 => ((laws_eqMobile.f kj63 bt346.1 bt346.2.1 t301 t304).bind fun t354 => (if t354 = true then (laws_FnExactLevelArms.j2 kj63 t336 (bt346.2.2 != t307) t337 t338) else (laws_FnExactLevelArms.j2 kj63 t336 true t337 t338))))) else (some false))) = some r := H
         have A96 := Aside0.mk A960
         clear A960
         by_cases c97 : t339 < 0
         ·
          rw [if_pos c97] at H
          have c97b0 : decide (t339 < 0) = true := decide_eq_true c97
          clear c97
          obtain rfl := Option.some.inj H
          have hnb98 := NB323_293.out
          have hnc98 := NB293_323.out
          have hnb99 := NB323_308.out
          have hnc99 := NB308_323.out
          have hnb100 := NB323_315.out
          have hnc100 := NB315_323.out
          obtain ⟨hcz101_0, hfz101_0, hcz101_1, hfz101_1⟩ := cz2 BK323
          go_wp2_with (first | ((with_reducible refine gate_callee (f := 24) rfl ?_); refine goesL_ (some 64) rfl rfl Try.func24 (by kernel_rfl) rfl #[.agg #[.slice Ao35 t316.length co35, .slice Ao40 t319.length co40], .int .i64 1] rfl tM ?_; (with_reducible refine (laws_markMobile.calls kj63 (fun k_ => some k_ = (.slice Ao35 t316.length co35 : Value).ownBlock) (.slice Ao35 t316.length co35) t316 (fun k_ => some k_ = (.slice Ao40 t319.length co40 : Value).ownBlock) (.slice Ao40 t319.length co40) t319 1 t336 t337 t338 w _ ?side1 ?side2 ?side3 ?side4 ?side5 A95.out).mono ?_); (case side1 => repeat (first | (with_reducible first | exact HB.out | apply below_alloc | apply pw_below_drewN | apply below_drew1 | refine below_set ?_ GE293.out | refine below_set ?_ GE308.out | refine below_set ?_ GE315.out | refine below_set ?_ GE323.out) | exact HB.out)); (case side2 => exact Kd.R_tight rfl HO_324000.out); (case side3 => exact fun k_ e_ => (HO_324000.out.1 k_ e_.symm).2.2.2.2); (case side4 => exact Kd.R_tight rfl HO_324001.out); (case side5 => exact fun k_ e_ => (HO_324001.out.1 k_ e_.symm).2.2.2.2); rintro e w102 ⟨rfl, hy0, hy1, hb, hkp⟩; refine ⟨_, rfl, ?_⟩; replace HO_309000 := Aside0.mk (Kd.R_mono (ok' := fun k_ => some k_ ≠ (.slice Ao24 t304.length co24 : Value).ownBlock ∧ some k_ ≠ (.slice Ao28 t333.length co28 : Value).ownBlock ∧ some k_ ≠ (.slice Ao32 t334.length co32 : Value).ownBlock ∧ some k_ ≠ (.slice Ao35 t316.length co35 : Value).ownBlock ∧ some k_ ≠ (.slice Ao40 t319.length co40 : Value).ownBlock) (Kd.R_keptB (HO_309000.out) hkp (fun k_ hk_ hs_ => Or.elim hs_ (fun e_ => (hk_.2.2.2.1) e_) (fun e_ => (hk_.2.2.2.2) e_))) (fun k_ hk_ => ⟨hk_.1.1, hk_.1.2.1, hk_.1.2.2.1, hk_.1.2.2.2.1, hk_.1.2.2.2.2⟩)); replace HO_309001 := Aside0.mk (Kd.R_mono (ok' := fun k_ => some k_ ≠ (.slice Ao21 t301.length co21 : Value).ownBlock ∧ some k_ ≠ (.slice Ao28 t333.length co28 : Value).ownBlock ∧ some k_ ≠ (.slice Ao32 t334.length co32 : Value).ownBlock ∧ some k_ ≠ (.slice Ao35 t316.length co35 : Value).ownBlock ∧ some k_ ≠ (.slice Ao40 t319.length co40 : Value).ownBlock) (Kd.R_keptB (HO_309001.out) hkp (fun k_ hk_ hs_ => Or.elim hs_ (fun e_ => (hk_.2.2.2.1) e_) (fun e_ => (hk_.2.2.2.2) e_))) (fun k_ hk_ => ⟨hk_.1.1, hk_.1.2.1, hk_.1.2.2.1, hk_.1.2.2.2.1, hk_.1.2.2.2.2⟩)); replace HO_316000 := Aside0.mk (Kd.R_mono (ok' := fun k_ => some k_ ≠ (.slice Ao21 t301.length co21 : Value).ownBlock ∧ some k_ ≠ (.slice Ao24 t304.length co24 : Value).ownBlock ∧ some k_ ≠ (.slice Ao32 t334.length co32 : Value).ownBlock ∧ some k_ ≠ (.slice Ao35 t316.length co35 : Value).ownBlock ∧ some k_ ≠ (.slice Ao40 t319.length co40 : Value).ownBlock) (Kd.R_keptB (HO_316000.out) hkp (fun k_ hk_ hs_ => Or.elim hs_ (fun e_ => (hk_.2.2.2.1) e_) (fun e_ => (hk_.2.2.2.2) e_))) (fun k_ hk_ => ⟨hk_.1.1, hk_.1.2.1, hk_.1.2.2.1, hk_.1.2.2.2.1, hk_.1.2.2.2.2⟩)); replace HO_316001 := Aside0.mk (Kd.R_mono (ok' := fun k_ => some k_ ≠ (.slice Ao21 t301.length co21 : Value).ownBlock ∧ some k_ ≠ (.slice Ao24 t304.length co24 : Value).ownBlock ∧ some k_ ≠ (.slice Ao28 t333.length co28 : Value).ownBlock ∧ some k_ ≠ (.slice Ao35 t316.length co35 : Value).ownBlock ∧ some k_ ≠ (.slice Ao40 t319.length co40 : Value).ownBlock) (Kd.R_keptB (HO_316001.out) hkp (fun k_ hk_ hs_ => Or.elim hs_ (fun e_ => (hk_.2.2.2.1) e_) (fun e_ => (hk_.2.2.2.2) e_))) (fun k_ hk_ => ⟨hk_.1.1, hk_.1.2.1, hk_.1.2.2.1, hk_.1.2.2.2.1, hk_.1.2.2.2.2⟩)); replace BK293 := Aside0.mk (blk_kept (tK BK293.out) hkp (fun hs_ => Or.elim hs_ (fun e_ => (fun e_ => (Kd.R_ne HO_324000.out BK293.out (by decide)) e_) e_) (fun e_ => (fun e_ => (Kd.R_ne HO_324001.out BK293.out (by decide)) e_) e_))); replace BK308 := Aside0.mk (blk_kept (tK BK308.out) hkp (fun hs_ => Or.elim hs_ (fun e_ => (fun e_ => (Kd.R_ne HO_324000.out BK308.out (by decide)) e_) e_) (fun e_ => (fun e_ => (Kd.R_ne HO_324001.out BK308.out (by decide)) e_) e_))); replace BK315 := Aside0.mk (blk_kept (tK BK315.out) hkp (fun hs_ => Or.elim hs_ (fun e_ => (fun e_ => (Kd.R_ne HO_324000.out BK315.out (by decide)) e_) e_) (fun e_ => (fun e_ => (Kd.R_ne HO_324001.out BK315.out (by decide)) e_) e_))); replace BK323 := Aside0.mk (blk_kept (tK BK323.out) hkp (fun hs_ => Or.elim hs_ (fun e_ => (fun e_ => (Kd.R_ne HO_324000.out BK323.out (by decide)) e_) e_) (fun e_ => (fun e_ => (Kd.R_ne HO_324001.out BK323.out (by decide)) e_) e_))); replace HO_324000 := Aside0.mk (Kd.R_reok rfl hy0 (fun k_ e_ => HO_324000.out.1 k_ e_)); replace HO_324001 := Aside0.mk (Kd.R_reok rfl hy1 (fun k_ e_ => HO_324001.out.1 k_ e_)); replace HB := Aside0.mk (hb); (try clear hb); (try clear hkp); (try clear hy0); (try clear hy1); obtain ⟨hcz103_0, hfz103_0, hcz103_1, hfz103_1⟩ := cz2 BK323) | ((with_reducible refine gate_callee (f := 25) rfl ?_); refine goesL_ (some 67) rfl rfl Try.func25 (by kernel_rfl) rfl #[.agg #[.slice Ao35 t337.length co35, .slice Ao40 t338.length co40], .int .i64 1] rfl (by (try simp only [List.map_toArray, List.map_cons, List.map_nil]); first | done | (rw [show t337.length = t316.length from (Kd.R_reads' HO_324000.out).1.symm, show t338.length = t319.length from (Kd.R_reads' HO_324001.out).1.symm] <;> rfl) | rfl | (simp only [List.length_drop, List.length_take]; rfl)) ?_; (with_reducible refine (laws_heldMobile.calls kj63 _ _ t337 _ _ t338 1 t339 _ ?side1 ?side2 ?side3 ?side4 A96.out).mono ?_); (case side1 => exact tC (Kd.R_reads' HO_324000.out).2.2); (case side2 => rw [show t337.length = t316.length from (Kd.R_reads' HO_324000.out).1.symm]; exact (Kd.R_reads' HO_324000.out).2.1); (case side3 => exact tC (Kd.R_reads' HO_324001.out).2.2); (case side4 => rw [show t338.length = t319.length from (Kd.R_reads' HO_324001.out).1.symm]; exact (Kd.R_reads' HO_324001.out).2.1); rintro e w104 ⟨rfl, hb⟩; refine ⟨_, rfl, ?_⟩; replace HO_309000 := Aside0.mk (Kd.R_below (tR HO_309000.out) hb); replace HO_309001 := Aside0.mk (Kd.R_below (tR HO_309001.out) hb); replace HO_316000 := Aside0.mk (Kd.R_below (tR HO_316000.out) hb); replace HO_316001 := Aside0.mk (Kd.R_below (tR HO_316001.out) hb); replace HO_324000 := Aside0.mk (Kd.R_below (tR HO_324000.out) hb); replace HO_324001 := Aside0.mk (Kd.R_below (tR HO_324001.out) hb); replace BK293 := bkB BK293 hb; replace BK308 := bkB BK308 hb; replace BK315 := bkB BK315 hb; replace BK323 := bkB BK323 hb; replace HB := Aside0.mk (below_step (tB HB.out) hb); (try clear hb); (try clear hb2); (try clear hk); (try clear hi)))
          go_ret
          exact ⟨by first | rfl | (simp [errW_none, errW_some] <;> rfl) | (simp [*, errW_none, errW_some] <;> rfl), tB HB.out⟩
         ·
          rw [if_neg c97] at H
          have c97b0 : decide (t339 < 0) = false := decide_eq_false c97
          clear c97
          by_cases c105 : t339 = t336
          ·
           rw [if_pos c105] at H
           have c105b0 : (t339 == t336) = true := beq_iff_eq.mpr c105
           have c105b1 : (t339 != t336) = false := bne_eq_false_iff_eq.mpr c105
           clear c105
           replace H := Option.bind_eq_some_iff.mp H
           obtain ⟨⟨t340, t343⟩, A1060, H⟩ := H
           replace H : ((impl_LevelArms.f kj63 t340 t343).bind fun bt346 => ((laws_eqMobile.f kj63 bt346.1 bt346.2.1 t301 t304).bind fun t354 => (if t354 = true then (laws_FnExactLevelArms.j2 kj63 t336 (bt346.2.2 != t307) t337 t338) else (laws_FnExactLevelArms.j2 kj63 t336 true t337 t338)))) = some r := H
           have A106 := Aside0.mk A1060
           clear A1060
           replace H := Option.bind_eq_some_iff.mp H
           obtain ⟨⟨t346, t349, t352⟩, A1070, H⟩ := H
           replace H : ((laws_eqMobile.f kj63 t346 t349 t301 t304).bind fun t354 => (if t354 = true then (laws_FnExactLevelArms.j2 kj63 t336 (t352 != t307) t337 t338) else (laws_FnExactLevelArms.j2 kj63 t336 true t337 t338))) = some r := H
           have A107 := Aside0.mk A1070
           clear A1070
           have HC108 := Aside0.mk H
           clear H
           have hnb109 := NB323_293.out
           have hnc109 := NB293_323.out
           have hnb110 := NB323_308.out
           have hnc110 := NB308_323.out
           have hnb111 := NB323_315.out
           have hnc111 := NB315_323.out
           obtain ⟨hcz112_0, hfz112_0, hcz112_1, hfz112_1⟩ := cz2 BK323
           go_upto_region 25 with (first | ((with_reducible refine gate_callee (f := 24) rfl ?_); refine goesL_ (some 64) rfl rfl Try.func24 (by kernel_rfl) rfl #[.agg #[.slice Ao35 t316.length co35, .slice Ao40 t319.length co40], .int .i64 1] rfl tM ?_; (with_reducible refine (laws_markMobile.calls kj63 (fun k_ => some k_ = (.slice Ao35 t316.length co35 : Value).ownBlock) (.slice Ao35 t316.length co35) t316 (fun k_ => some k_ = (.slice Ao40 t319.length co40 : Value).ownBlock) (.slice Ao40 t319.length co40) t319 1 t336 t337 t338 w _ ?side1 ?side2 ?side3 ?side4 ?side5 A95.out).mono ?_); (case side1 => repeat (first | (with_reducible first | exact HB.out | apply below_alloc | apply pw_below_drewN | apply below_drew1 | refine below_set ?_ GE293.out | refine below_set ?_ GE308.out | refine below_set ?_ GE315.out | refine below_set ?_ GE323.out) | exact HB.out)); (case side2 => exact Kd.R_tight rfl HO_324000.out); (case side3 => exact fun k_ e_ => (HO_324000.out.1 k_ e_.symm).2.2.2.2); (case side4 => exact Kd.R_tight rfl HO_324001.out); (case side5 => exact fun k_ e_ => (HO_324001.out.1 k_ e_.symm).2.2.2.2); rintro e w113 ⟨rfl, hy0, hy1, hb, hkp⟩; refine ⟨_, rfl, ?_⟩; replace HO_309000 := Aside0.mk (Kd.R_mono (ok' := fun k_ => some k_ ≠ (.slice Ao24 t304.length co24 : Value).ownBlock ∧ some k_ ≠ (.slice Ao28 t333.length co28 : Value).ownBlock ∧ some k_ ≠ (.slice Ao32 t334.length co32 : Value).ownBlock ∧ some k_ ≠ (.slice Ao35 t316.length co35 : Value).ownBlock ∧ some k_ ≠ (.slice Ao40 t319.length co40 : Value).ownBlock) (Kd.R_keptB (HO_309000.out) hkp (fun k_ hk_ hs_ => Or.elim hs_ (fun e_ => (hk_.2.2.2.1) e_) (fun e_ => (hk_.2.2.2.2) e_))) (fun k_ hk_ => ⟨hk_.1.1, hk_.1.2.1, hk_.1.2.2.1, hk_.1.2.2.2.1, hk_.1.2.2.2.2⟩)); replace HO_309001 := Aside0.mk (Kd.R_mono (ok' := fun k_ => some k_ ≠ (.slice Ao21 t301.length co21 : Value).ownBlock ∧ some k_ ≠ (.slice Ao28 t333.length co28 : Value).ownBlock ∧ some k_ ≠ (.slice Ao32 t334.length co32 : Value).ownBlock ∧ some k_ ≠ (.slice Ao35 t316.length co35 : Value).ownBlock ∧ some k_ ≠ (.slice Ao40 t319.length co40 : Value).ownBlock) (Kd.R_keptB (HO_309001.out) hkp (fun k_ hk_ hs_ => Or.elim hs_ (fun e_ => (hk_.2.2.2.1) e_) (fun e_ => (hk_.2.2.2.2) e_))) (fun k_ hk_ => ⟨hk_.1.1, hk_.1.2.1, hk_.1.2.2.1, hk_.1.2.2.2.1, hk_.1.2.2.2.2⟩)); replace HO_316000 := Aside0.mk (Kd.R_mono (ok' := fun k_ => some k_ ≠ (.slice Ao21 t301.length co21 : Value).ownBlock ∧ some k_ ≠ (.slice Ao24 t304.length co24 : Value).ownBlock ∧ some k_ ≠ (.slice Ao32 t334.length co32 : Value).ownBlock ∧ some k_ ≠ (.slice Ao35 t316.length co35 : Value).ownBlock ∧ some k_ ≠ (.slice Ao40 t319.length co40 : Value).ownBlock) (Kd.R_keptB (HO_316000.out) hkp (fun k_ hk_ hs_ => Or.elim hs_ (fun e_ => (hk_.2.2.2.1) e_) (fun e_ => (hk_.2.2.2.2) e_))) (fun k_ hk_ => ⟨hk_.1.1, hk_.1.2.1, hk_.1.2.2.1, hk_.1.2.2.2.1, hk_.1.2.2.2.2⟩)); replace HO_316001 := Aside0.mk (Kd.R_mono (ok' := fun k_ => some k_ ≠ (.slice Ao21 t301.length co21 : Value).ownBlock ∧ some k_ ≠ (.slice Ao24 t304.length co24 : Value).ownBlock ∧ some k_ ≠ (.slice Ao28 t333.length co28 : Value).ownBlock ∧ some k_ ≠ (.slice Ao35 t316.length co35 : Value).ownBlock ∧ some k_ ≠ (.slice Ao40 t319.length co40 : Value).ownBlock) (Kd.R_keptB (HO_316001.out) hkp (fun k_ hk_ hs_ => Or.elim hs_ (fun e_ => (hk_.2.2.2.1) e_) (fun e_ => (hk_.2.2.2.2) e_))) (fun k_ hk_ => ⟨hk_.1.1, hk_.1.2.1, hk_.1.2.2.1, hk_.1.2.2.2.1, hk_.1.2.2.2.2⟩)); replace BK293 := Aside0.mk (blk_kept (tK BK293.out) hkp (fun hs_ => Or.elim hs_ (fun e_ => (fun e_ => (Kd.R_ne HO_324000.out BK293.out (by decide)) e_) e_) (fun e_ => (fun e_ => (Kd.R_ne HO_324001.out BK293.out (by decide)) e_) e_))); replace BK308 := Aside0.mk (blk_kept (tK BK308.out) hkp (fun hs_ => Or.elim hs_ (fun e_ => (fun e_ => (Kd.R_ne HO_324000.out BK308.out (by decide)) e_) e_) (fun e_ => (fun e_ => (Kd.R_ne HO_324001.out BK308.out (by decide)) e_) e_))); replace BK315 := Aside0.mk (blk_kept (tK BK315.out) hkp (fun hs_ => Or.elim hs_ (fun e_ => (fun e_ => (Kd.R_ne HO_324000.out BK315.out (by decide)) e_) e_) (fun e_ => (fun e_ => (Kd.R_ne HO_324001.out BK315.out (by decide)) e_) e_))); replace BK323 := Aside0.mk (blk_kept (tK BK323.out) hkp (fun hs_ => Or.elim hs_ (fun e_ => (fun e_ => (Kd.R_ne HO_324000.out BK323.out (by decide)) e_) e_) (fun e_ => (fun e_ => (Kd.R_ne HO_324001.out BK323.out (by decide)) e_) e_))); replace HO_324000 := Aside0.mk (Kd.R_reok rfl hy0 (fun k_ e_ => HO_324000.out.1 k_ e_)); replace HO_324001 := Aside0.mk (Kd.R_reok rfl hy1 (fun k_ e_ => HO_324001.out.1 k_ e_)); replace HB := Aside0.mk (hb); (try clear hb); (try clear hkp); (try clear hy0); (try clear hy1); obtain ⟨hcz114_0, hfz114_0, hcz114_1, hfz114_1⟩ := cz2 BK323) | ((with_reducible refine gate_callee (f := 25) rfl ?_); refine goesL_ (some 67) rfl rfl Try.func25 (by kernel_rfl) rfl #[.agg #[.slice Ao35 t337.length co35, .slice Ao40 t338.length co40], .int .i64 1] rfl (by (try simp only [List.map_toArray, List.map_cons, List.map_nil]); first | done | (rw [show t337.length = t316.length from (Kd.R_reads' HO_324000.out).1.symm, show t338.length = t319.length from (Kd.R_reads' HO_324001.out).1.symm] <;> rfl) | rfl | (simp only [List.length_drop, List.length_take]; rfl)) ?_; (with_reducible refine (laws_heldMobile.calls kj63 _ _ t337 _ _ t338 1 t339 _ ?side1 ?side2 ?side3 ?side4 A96.out).mono ?_); (case side1 => exact tC (Kd.R_reads' HO_324000.out).2.2); (case side2 => rw [show t337.length = t316.length from (Kd.R_reads' HO_324000.out).1.symm]; exact (Kd.R_reads' HO_324000.out).2.1); (case side3 => exact tC (Kd.R_reads' HO_324001.out).2.2); (case side4 => rw [show t338.length = t319.length from (Kd.R_reads' HO_324001.out).1.symm]; exact (Kd.R_reads' HO_324001.out).2.1); rintro e w115 ⟨rfl, hb⟩; refine ⟨_, rfl, ?_⟩; replace HO_309000 := Aside0.mk (Kd.R_below (tR HO_309000.out) hb); replace HO_309001 := Aside0.mk (Kd.R_below (tR HO_309001.out) hb); replace HO_316000 := Aside0.mk (Kd.R_below (tR HO_316000.out) hb); replace HO_316001 := Aside0.mk (Kd.R_below (tR HO_316001.out) hb); replace HO_324000 := Aside0.mk (Kd.R_below (tR HO_324000.out) hb); replace HO_324001 := Aside0.mk (Kd.R_below (tR HO_324001.out) hb); replace BK293 := bkB BK293 hb; replace BK308 := bkB BK308 hb; replace BK315 := bkB BK315 hb; replace BK323 := bkB BK323 hb; replace HB := Aside0.mk (below_step (tB HB.out) hb); (try clear hb); (try clear hb2); (try clear hk); (try clear hi); have hnb116 := NB293_308.out; have hnc116 := NB308_293.out; have hnb117 := NB293_315.out; have hnc117 := NB315_293.out; obtain ⟨hcz118_0, hfz118_0, hcz118_1, hfz118_1⟩ := cz2 BK293) | ((with_reducible refine gate_callee (f := 17) rfl ?_); refine goesL_ (some 75) rfl rfl Try.func17 (by kernel_rfl) rfl #[.agg #[.slice A0_0 l0_0.length c0_0, .slice A0_1 l0_1.length c0_1]] rfl tM ?_; (with_reducible refine (laws_toMobile.calls kj63 _ _ l0_0 _ _ l0_1 t340 t343 _ ?side1 ?side2 ?side3 ?side4 A106.out).mono ?_); (case side1 => exact tC (Kd.C_below HR0_0.out HB.out)); (case side2 => exact HC0_0.out); (case side3 => exact tC (Kd.C_below HR0_1.out HB.out)); (case side4 => exact HC0_1.out); rintro e w119 ⟨v341, v344, rfl, ho0, ho1, hb⟩; refine ⟨_, rfl, ?_⟩; have HO342 := Aside0.mk (Kd.R_lower (Kd.R_new' (Kd.R_new' (Kd.R_new' (Kd.R_new' (Kd.R_new' (Kd.R_new' ho0 (Kd.R_lt (tR HO_309000.out))) (Kd.R_lt (tR HO_309001.out))) (Kd.R_lt (tR HO_316000.out))) (Kd.R_lt (tR HO_316001.out))) (Kd.R_lt (tR HO_324000.out))) (Kd.R_lt (tR HO_324001.out))) (below_size (tB HB.out))); have HO345 := Aside0.mk (Kd.R_lower (Kd.R_new' (Kd.R_new' (Kd.R_new' (Kd.R_new' (Kd.R_new' (Kd.R_new' ho1 (Kd.R_lt (tR HO_309000.out))) (Kd.R_lt (tR HO_309001.out))) (Kd.R_lt (tR HO_316000.out))) (Kd.R_lt (tR HO_316001.out))) (Kd.R_lt (tR HO_324000.out))) (Kd.R_lt (tR HO_324001.out))) (below_size (tB HB.out))); replace HO_309000 := Aside0.mk (Kd.R_mono (Kd.R_told (Kd.R_told (Kd.R_old (tR HO_309000.out) hb) (Kd.R_base ho0)) (Kd.R_base ho1)) (fun _ h_ => h_.1)); replace HO_309001 := Aside0.mk (Kd.R_mono (Kd.R_told (Kd.R_told (Kd.R_old (tR HO_309001.out) hb) (Kd.R_base ho0)) (Kd.R_base ho1)) (fun _ h_ => h_.1)); replace HO_316000 := Aside0.mk (Kd.R_mono (Kd.R_told (Kd.R_told (Kd.R_old (tR HO_316000.out) hb) (Kd.R_base ho0)) (Kd.R_base ho1)) (fun _ h_ => h_.1)); replace HO_316001 := Aside0.mk (Kd.R_mono (Kd.R_told (Kd.R_told (Kd.R_old (tR HO_316001.out) hb) (Kd.R_base ho0)) (Kd.R_base ho1)) (fun _ h_ => h_.1)); replace HO_324000 := Aside0.mk (Kd.R_mono (Kd.R_told (Kd.R_told (Kd.R_old (tR HO_324000.out) hb) (Kd.R_base ho0)) (Kd.R_base ho1)) (fun _ h_ => h_.1)); replace HO_324001 := Aside0.mk (Kd.R_mono (Kd.R_told (Kd.R_told (Kd.R_old (tR HO_324001.out) hb) (Kd.R_base ho0)) (Kd.R_base ho1)) (fun _ h_ => h_.1)); replace BK293 := bkB BK293 hb; replace BK308 := bkB BK308 hb; replace BK315 := bkB BK315 hb; replace BK323 := bkB BK323 hb; replace HB := Aside0.mk (below_step (tB HB.out) hb); (try clear hb); (try clear hb2); (try clear hk); (try clear hi); (try clear ho0); (try clear ho1); obtain ⟨Ao120, co120, eo120⟩ := Kd.R_slice HO342.out; subst eo120; obtain ⟨Ao121, co121, eo121⟩ := Kd.R_slice HO345.out; subst eo121) | ((with_reducible refine gate_callee (f := 38) rfl ?_); refine goesL_ (some 76) rfl rfl Try.func38 (by kernel_rfl) rfl #[.agg #[.slice Ao120 t340.length co120, .slice Ao121 t343.length co121]] rfl tM ?_; (with_reducible refine (impl_LevelArms.calls kj63 _ _ t340 _ _ t343 t346 t349 t352 _ ?side1 ?side2 ?side3 ?side4 A107.out).mono ?_); (case side1 => exact tC (Kd.R_reads' HO342.out).2.2); (case side2 => exact (Kd.R_reads' HO342.out).2.1); (case side3 => exact tC (Kd.R_reads' HO345.out).2.2); (case side4 => exact (Kd.R_reads' HO345.out).2.1); rintro e w122 ⟨v347, v350, rfl, ho0, ho1, hb⟩; refine ⟨_, rfl, ?_⟩; have HO348 := Aside0.mk (Kd.R_lower (Kd.R_new' (Kd.R_new' (Kd.R_new' (Kd.R_new' (Kd.R_new' (Kd.R_new' (Kd.R_new' (Kd.R_new' ho0 (Kd.R_lt (tR HO_309000.out))) (Kd.R_lt (tR HO_309001.out))) (Kd.R_lt (tR HO_316000.out))) (Kd.R_lt (tR HO_316001.out))) (Kd.R_lt (tR HO_324000.out))) (Kd.R_lt (tR HO_324001.out))) (Kd.R_lt (tR HO342.out))) (Kd.R_lt (tR HO345.out))) (below_size (tB HB.out))); have HO351 := Aside0.mk (Kd.R_lower (Kd.R_new' (Kd.R_new' (Kd.R_new' (Kd.R_new' (Kd.R_new' (Kd.R_new' (Kd.R_new' (Kd.R_new' ho1 (Kd.R_lt (tR HO_309000.out))) (Kd.R_lt (tR HO_309001.out))) (Kd.R_lt (tR HO_316000.out))) (Kd.R_lt (tR HO_316001.out))) (Kd.R_lt (tR HO_324000.out))) (Kd.R_lt (tR HO_324001.out))) (Kd.R_lt (tR HO342.out))) (Kd.R_lt (tR HO345.out))) (below_size (tB HB.out))); replace HO_309000 := Aside0.mk (Kd.R_mono (Kd.R_told (Kd.R_told (Kd.R_old (tR HO_309000.out) hb) (Kd.R_base ho0)) (Kd.R_base ho1)) (fun _ h_ => h_.1)); replace HO_309001 := Aside0.mk (Kd.R_mono (Kd.R_told (Kd.R_told (Kd.R_old (tR HO_309001.out) hb) (Kd.R_base ho0)) (Kd.R_base ho1)) (fun _ h_ => h_.1)); replace HO_316000 := Aside0.mk (Kd.R_mono (Kd.R_told (Kd.R_told (Kd.R_old (tR HO_316000.out) hb) (Kd.R_base ho0)) (Kd.R_base ho1)) (fun _ h_ => h_.1)); replace HO_316001 := Aside0.mk (Kd.R_mono (Kd.R_told (Kd.R_told (Kd.R_old (tR HO_316001.out) hb) (Kd.R_base ho0)) (Kd.R_base ho1)) (fun _ h_ => h_.1)); replace HO_324000 := Aside0.mk (Kd.R_mono (Kd.R_told (Kd.R_told (Kd.R_old (tR HO_324000.out) hb) (Kd.R_base ho0)) (Kd.R_base ho1)) (fun _ h_ => h_.1)); replace HO_324001 := Aside0.mk (Kd.R_mono (Kd.R_told (Kd.R_told (Kd.R_old (tR HO_324001.out) hb) (Kd.R_base ho0)) (Kd.R_base ho1)) (fun _ h_ => h_.1)); replace HO342 := Aside0.mk (Kd.R_mono (Kd.R_told (Kd.R_told (Kd.R_old (tR HO342.out) hb) (Kd.R_base ho0)) (Kd.R_base ho1)) (fun _ h_ => h_.1)); replace HO345 := Aside0.mk (Kd.R_mono (Kd.R_told (Kd.R_told (Kd.R_old (tR HO345.out) hb) (Kd.R_base ho0)) (Kd.R_base ho1)) (fun _ h_ => h_.1)); replace BK293 := bkB BK293 hb; replace BK308 := bkB BK308 hb; replace BK315 := bkB BK315 hb; replace BK323 := bkB BK323 hb; replace HB := Aside0.mk (below_step (tB HB.out) hb); (try clear hb); (try clear hb2); (try clear hk); (try clear hi); (try clear ho0); (try clear ho1)) | ((with_reducible refine gate_dst (N := 12) rfl ?_); refine box_event ?hg (N := 12) ?hd (cs := #[.slice none 0 0, .slice none 0 0]) (t := 27) ?hr ?_; (case hd => rfl); (case hg => rfl); (case hr => first | (go_simp; done) | (go_simp; rfl)); intro gb353 hg w123 hbox hb; replace HO_309000 := Aside0.mk (Kd.R_below (tR HO_309000.out) hb); replace HO_309001 := Aside0.mk (Kd.R_below (tR HO_309001.out) hb); replace HO_316000 := Aside0.mk (Kd.R_below (tR HO_316000.out) hb); replace HO_316001 := Aside0.mk (Kd.R_below (tR HO_316001.out) hb); replace HO_324000 := Aside0.mk (Kd.R_below (tR HO_324000.out) hb); replace HO_324001 := Aside0.mk (Kd.R_below (tR HO_324001.out) hb); replace HO342 := Aside0.mk (Kd.R_below (tR HO342.out) hb); replace HO345 := Aside0.mk (Kd.R_below (tR HO345.out) hb); replace HO348 := Aside0.mk (Kd.R_below (tR HO348.out) hb); replace HO351 := Aside0.mk (Kd.R_below (tR HO351.out) hb); have BK353 := Aside0.mk (hbox); have GW353 := Aside0.mk (bS HB.out hg); have GE353 := Aside0.mk (bS HB.out hg); replace HB := Aside0.mk (below_step (tB HB.out) hb); have NB293_353 := Aside0.mk (nL BK293.out hg); have NB353_293 := Aside0.mk (nG BK293.out hg); replace BK293 := bkB BK293 hb; have NB308_353 := Aside0.mk (nL BK308.out hg); have NB353_308 := Aside0.mk (nG BK308.out hg); replace BK308 := bkB BK308 hb; have NB315_353 := Aside0.mk (nL BK315.out hg); have NB353_315 := Aside0.mk (nG BK315.out hg); replace BK315 := bkB BK315 hb; have NB323_353 := Aside0.mk (nL BK323.out hg); have NB353_323 := Aside0.mk (nG BK323.out hg); replace BK323 := bkB BK323 hb; clear hb hbox hg; obtain ⟨Ao124, co124, eo124⟩ := Kd.R_slice HO348.out; subst eo124; have hnb125 := NB353_293.out; have hnc125 := NB293_353.out; have hnb126 := NB353_308.out; have hnc126 := NB308_353.out; have hnb127 := NB353_315.out; have hnc127 := NB315_353.out; have hnb128 := NB353_323.out; have hnc128 := NB323_353.out; obtain ⟨hcz129_0, hfz129_0, hcz129_1, hfz129_1⟩ := cz2 BK353; obtain ⟨Ao130, co130, eo130⟩ := Kd.R_slice HO351.out; subst eo130))
           (try simp only [Act.put, List.setIfInBounds_toArray, List.set_cons_zero, List.set_cons_succ])
           go_cut [87] (fun v87 wc => ∃ (kq : Nat) (x87_107 : Bool), v87 = .bool x87_107 ∧ Aside0 (laws_FnExactLevelArms.j2 kq t336 x87_107 t337 t338 = some r) ∧ Aside0 (kq ≤ kj63) ∧ Aside0 (Kd.R k58 58 wc w.heap.size (fun k_ => some k_ ≠ ((.slice Ao24 t304.length co24) : Value).ownBlock ∧ some k_ ≠ ((.slice Ao28 t333.length co28) : Value).ownBlock ∧ some k_ ≠ ((.slice Ao32 t334.length co32) : Value).ownBlock ∧ some k_ ≠ ((.slice Ao35 t316.length co35) : Value).ownBlock ∧ some k_ ≠ ((.slice Ao40 t319.length co40) : Value).ownBlock ∧ some k_ ≠ ((.slice Ao124 t346.length co124) : Value).ownBlock ∧ some k_ ≠ ((.slice Ao130 t349.length co130) : Value).ownBlock) (.slice Ao21 t301.length co21) t301) ∧ Aside0 (Kd.R k58 58 wc w.heap.size (fun k_ => some k_ ≠ ((.slice Ao21 t301.length co21) : Value).ownBlock ∧ some k_ ≠ ((.slice Ao28 t333.length co28) : Value).ownBlock ∧ some k_ ≠ ((.slice Ao32 t334.length co32) : Value).ownBlock ∧ some k_ ≠ ((.slice Ao35 t316.length co35) : Value).ownBlock ∧ some k_ ≠ ((.slice Ao40 t319.length co40) : Value).ownBlock ∧ some k_ ≠ ((.slice Ao124 t346.length co124) : Value).ownBlock ∧ some k_ ≠ ((.slice Ao130 t349.length co130) : Value).ownBlock) (.slice Ao24 t304.length co24) t304) ∧ Aside0 (Kd.R k58 58 wc w.heap.size (fun k_ => some k_ ≠ ((.slice Ao21 t301.length co21) : Value).ownBlock ∧ some k_ ≠ ((.slice Ao24 t304.length co24) : Value).ownBlock ∧ some k_ ≠ ((.slice Ao32 t334.length co32) : Value).ownBlock ∧ some k_ ≠ ((.slice Ao35 t316.length co35) : Value).ownBlock ∧ some k_ ≠ ((.slice Ao40 t319.length co40) : Value).ownBlock ∧ some k_ ≠ ((.slice Ao124 t346.length co124) : Value).ownBlock ∧ some k_ ≠ ((.slice Ao130 t349.length co130) : Value).ownBlock) (.slice Ao28 t333.length co28) t333) ∧ Aside0 (Kd.R k58 58 wc w.heap.size (fun k_ => some k_ ≠ ((.slice Ao21 t301.length co21) : Value).ownBlock ∧ some k_ ≠ ((.slice Ao24 t304.length co24) : Value).ownBlock ∧ some k_ ≠ ((.slice Ao28 t333.length co28) : Value).ownBlock ∧ some k_ ≠ ((.slice Ao35 t316.length co35) : Value).ownBlock ∧ some k_ ≠ ((.slice Ao40 t319.length co40) : Value).ownBlock ∧ some k_ ≠ ((.slice Ao124 t346.length co124) : Value).ownBlock ∧ some k_ ≠ ((.slice Ao130 t349.length co130) : Value).ownBlock) (.slice Ao32 t334.length co32) t334) ∧ Aside0 (Kd.R k58 58 wc w.heap.size (fun k_ => some k_ ≠ ((.slice Ao21 t301.length co21) : Value).ownBlock ∧ some k_ ≠ ((.slice Ao24 t304.length co24) : Value).ownBlock ∧ some k_ ≠ ((.slice Ao28 t333.length co28) : Value).ownBlock ∧ some k_ ≠ ((.slice Ao32 t334.length co32) : Value).ownBlock ∧ some k_ ≠ ((.slice Ao40 t319.length co40) : Value).ownBlock ∧ some k_ ≠ ((.slice Ao124 t346.length co124) : Value).ownBlock ∧ some k_ ≠ ((.slice Ao130 t349.length co130) : Value).ownBlock) (.slice Ao35 t316.length co35) t337) ∧ Aside0 (Kd.R k58 58 wc w.heap.size (fun k_ => some k_ ≠ ((.slice Ao21 t301.length co21) : Value).ownBlock ∧ some k_ ≠ ((.slice Ao24 t304.length co24) : Value).ownBlock ∧ some k_ ≠ ((.slice Ao28 t333.length co28) : Value).ownBlock ∧ some k_ ≠ ((.slice Ao32 t334.length co32) : Value).ownBlock ∧ some k_ ≠ ((.slice Ao35 t316.length co35) : Value).ownBlock ∧ some k_ ≠ ((.slice Ao124 t346.length co124) : Value).ownBlock ∧ some k_ ≠ ((.slice Ao130 t349.length co130) : Value).ownBlock) (.slice Ao40 t319.length co40) t338) ∧ Aside0 (Kd.R k58 58 wc w.heap.size (fun k_ => some k_ ≠ ((.slice Ao21 t301.length co21) : Value).ownBlock ∧ some k_ ≠ ((.slice Ao24 t304.length co24) : Value).ownBlock ∧ some k_ ≠ ((.slice Ao28 t333.length co28) : Value).ownBlock ∧ some k_ ≠ ((.slice Ao32 t334.length co32) : Value).ownBlock ∧ some k_ ≠ ((.slice Ao35 t316.length co35) : Value).ownBlock ∧ some k_ ≠ ((.slice Ao40 t319.length co40) : Value).ownBlock ∧ some k_ ≠ ((.slice Ao130 t349.length co130) : Value).ownBlock) (.slice Ao124 t346.length co124) t346) ∧ Aside0 (Kd.R k58 58 wc w.heap.size (fun k_ => some k_ ≠ ((.slice Ao21 t301.length co21) : Value).ownBlock ∧ some k_ ≠ ((.slice Ao24 t304.length co24) : Value).ownBlock ∧ some k_ ≠ ((.slice Ao28 t333.length co28) : Value).ownBlock ∧ some k_ ≠ ((.slice Ao32 t334.length co32) : Value).ownBlock ∧ some k_ ≠ ((.slice Ao35 t316.length co35) : Value).ownBlock ∧ some k_ ≠ ((.slice Ao40 t319.length co40) : Value).ownBlock ∧ some k_ ≠ ((.slice Ao124 t346.length co124) : Value).ownBlock) (.slice Ao130 t349.length co130) t349) ∧ Aside0 (wc.heap[gb293]? = some (.cells #[(.slice A0_0 l0_0.length c0_0), (.slice A0_1 l0_1.length c0_1)] 24 (0, 0))) ∧ Aside0 (wc.heap[gb308]? = some (.cells #[(.slice Ao21 t301.length co21), (.slice Ao24 t304.length co24)] 27 (0, 0))) ∧ Aside0 (wc.heap[gb315]? = some (.cells #[(.slice Ao28 t333.length co28), (.slice Ao32 t334.length co32)] 27 (0, 0))) ∧ Aside0 (wc.heap[gb323]? = some (.cells #[(.slice Ao35 t316.length co35), (.slice Ao40 t319.length co40)] 27 (0, 0))) ∧ Aside0 (wc.heap[gb353]? = some (.cells #[(.slice Ao124 t346.length co124), (.slice Ao130 t349.length co130)] 27 (0, 0))) ∧ Aside0 (Below w.heap.size w wc))
           case first =>
            have H := HC108.out
            clear HC108
            replace H := Option.bind_eq_some_iff.mp H
            obtain ⟨t354, A1310, H⟩ := H
            replace H : (if t354 = true then (laws_FnExactLevelArms.j2 kj63 t336 (t352 != t307) t337 t338) else (laws_FnExactLevelArms.j2 kj63 t336 true t337 t338)) = some r := H
            have A131 := Aside0.mk A1310
            clear A1310
            by_cases c132 : t354 = true
            ·
             subst c132
             have H1 : (laws_FnExactLevelArms.j2 kj63 t336 (t352 != t307) t337 t338) = some r := by rw [if_pos rfl] at H; exact H
             clear H
             have H := H1
             clear H1
             have H' := Aside0.mk H
             clear H
             have hnb133 := NB353_293.out
             have hnc133 := NB293_353.out
             have hnb134 := NB353_308.out
             have hnc134 := NB308_353.out
             have hnb135 := NB353_315.out
             have hnc135 := NB315_353.out
             have hnb136 := NB353_323.out
             have hnc136 := NB323_353.out
             obtain ⟨hcz137_0, hfz137_0, hcz137_1, hfz137_1⟩ := cz2 BK353
             have hnb138 := NB308_293.out
             have hnc138 := NB293_308.out
             have hnb139 := NB308_315.out
             have hnc139 := NB315_308.out
             have hnb140 := NB308_323.out
             have hnc140 := NB323_308.out
             obtain ⟨hcz141_0, hfz141_0, hcz141_1, hfz141_1⟩ := cz2 BK308
             go_wp2_with (first | ((with_reducible refine gate_callee (f := 19) rfl ?_); refine goesL_ (some 81) rfl rfl Try.func19 (by kernel_rfl) rfl #[.agg #[.slice Ao124 t346.length co124, .slice Ao130 t349.length co130], .agg #[.slice Ao21 t301.length co21, .slice Ao24 t304.length co24]] rfl tM ?_; (with_reducible refine (laws_eqMobile.calls kj63 _ _ t346 _ _ t349 _ _ t301 _ _ t304 true _ ?side1 ?side2 ?side3 ?side4 ?side5 ?side6 ?side7 ?side8 A131.out).mono ?_); (case side1 => refine (Kd.R_reads' (e := 58) (base := w.heap.size) (ok := fun k_ => ((((((((some k_ ≠ (.slice Ao130 t349.length co130 : Value).ownBlock ∧ some k_ ≠ (.slice Ao21 t301.length co21 : Value).ownBlock) ∧ some k_ ≠ (.slice Ao24 t304.length co24 : Value).ownBlock) ∧ some k_ ≠ (.slice Ao28 t333.length co28 : Value).ownBlock) ∧ some k_ ≠ (.slice Ao32 t334.length co32 : Value).ownBlock) ∧ some k_ ≠ (.slice Ao35 t316.length co35 : Value).ownBlock) ∧ some k_ ≠ (.slice Ao40 t319.length co40 : Value).ownBlock) ∧ some k_ ≠ (.slice Ao120 t340.length co120 : Value).ownBlock) ∧ some k_ ≠ (.slice Ao121 t343.length co121 : Value).ownBlock)) (n := t346.length) (c := co124) ?_).2.2; exact (by (with_reducible repeat (first | apply Kd.R_alloc | apply Kd.R_drewN | apply Kd.R_drew)); exact (Kd.R_mono (Kd.R_far (p := ⟨gb353, 1, none⟩) (Kd.R_far (p := ⟨gb353, 0, none⟩) (Kd.R_types HO348.out BK353.out (by decide)) (fun _ hk => hk.2) (.slice Ao124 t346.length co124)) (fun _ hk => hk.2) (.slice Ao130 t349.length co130)) (fun _ h_ => h_.1)))); (case side2 => exact (Kd.R_reads' HO348.out).2.1); (case side3 => refine (Kd.R_reads' (e := 58) (base := w.heap.size) (ok := fun k_ => ((((((((some k_ ≠ (.slice Ao124 t346.length co124 : Value).ownBlock ∧ some k_ ≠ (.slice Ao21 t301.length co21 : Value).ownBlock) ∧ some k_ ≠ (.slice Ao24 t304.length co24 : Value).ownBlock) ∧ some k_ ≠ (.slice Ao28 t333.length co28 : Value).ownBlock) ∧ some k_ ≠ (.slice Ao32 t334.length co32 : Value).ownBlock) ∧ some k_ ≠ (.slice Ao35 t316.length co35 : Value).ownBlock) ∧ some k_ ≠ (.slice Ao40 t319.length co40 : Value).ownBlock) ∧ some k_ ≠ (.slice Ao120 t340.length co120 : Value).ownBlock) ∧ some k_ ≠ (.slice Ao121 t343.length co121 : Value).ownBlock)) (n := t349.length) (c := co130) ?_).2.2; exact (by (with_reducible repeat (first | apply Kd.R_alloc | apply Kd.R_drewN | apply Kd.R_drew)); exact (Kd.R_mono (Kd.R_far (p := ⟨gb353, 1, none⟩) (Kd.R_far (p := ⟨gb353, 0, none⟩) (Kd.R_types HO351.out BK353.out (by decide)) (fun _ hk => hk.2) (.slice Ao124 t346.length co124)) (fun _ hk => hk.2) (.slice Ao130 t349.length co130)) (fun _ h_ => h_.1)))); (case side4 => exact (Kd.R_reads' HO351.out).2.1); (case side5 => refine (Kd.R_reads' (e := 58) (base := w.heap.size) (ok := fun k_ => (((((some k_ ≠ (.slice Ao24 t304.length co24 : Value).ownBlock ∧ (some k_ ≠ (.slice Ao28 t333.length co28 : Value).ownBlock ∧ (some k_ ≠ (.slice Ao32 t334.length co32 : Value).ownBlock ∧ (some k_ ≠ (.slice Ao35 t316.length co35 : Value).ownBlock ∧ some k_ ≠ (.slice Ao40 t319.length co40 : Value).ownBlock)))) ∧ some k_ ≠ (.slice Ao120 t340.length co120 : Value).ownBlock) ∧ some k_ ≠ (.slice Ao121 t343.length co121 : Value).ownBlock) ∧ some k_ ≠ (.slice Ao124 t346.length co124 : Value).ownBlock) ∧ some k_ ≠ (.slice Ao130 t349.length co130 : Value).ownBlock)) (n := t301.length) (c := co21) ?_).2.2; exact (by (with_reducible repeat (first | apply Kd.R_alloc | apply Kd.R_drewN | apply Kd.R_drew)); exact (Kd.R_mono (Kd.R_far (p := ⟨gb353, 1, none⟩) (Kd.R_far (p := ⟨gb353, 0, none⟩) (Kd.R_types HO_309000.out BK353.out (by decide)) (fun _ hk => hk.2) (.slice Ao124 t346.length co124)) (fun _ hk => hk.2) (.slice Ao130 t349.length co130)) (fun _ h_ => h_.1)))); (case side6 => exact (Kd.R_reads' HO_309000.out).2.1); (case side7 => refine (Kd.R_reads' (e := 58) (base := w.heap.size) (ok := fun k_ => (((((some k_ ≠ (.slice Ao21 t301.length co21 : Value).ownBlock ∧ (some k_ ≠ (.slice Ao28 t333.length co28 : Value).ownBlock ∧ (some k_ ≠ (.slice Ao32 t334.length co32 : Value).ownBlock ∧ (some k_ ≠ (.slice Ao35 t316.length co35 : Value).ownBlock ∧ some k_ ≠ (.slice Ao40 t319.length co40 : Value).ownBlock)))) ∧ some k_ ≠ (.slice Ao120 t340.length co120 : Value).ownBlock) ∧ some k_ ≠ (.slice Ao121 t343.length co121 : Value).ownBlock) ∧ some k_ ≠ (.slice Ao124 t346.length co124 : Value).ownBlock) ∧ some k_ ≠ (.slice Ao130 t349.length co130 : Value).ownBlock)) (n := t304.length) (c := co24) ?_).2.2; exact (by (with_reducible repeat (first | apply Kd.R_alloc | apply Kd.R_drewN | apply Kd.R_drew)); exact (Kd.R_mono (Kd.R_far (p := ⟨gb353, 1, none⟩) (Kd.R_far (p := ⟨gb353, 0, none⟩) (Kd.R_types HO_309001.out BK353.out (by decide)) (fun _ hk => hk.2) (.slice Ao124 t346.length co124)) (fun _ hk => hk.2) (.slice Ao130 t349.length co130)) (fun _ h_ => h_.1)))); (case side8 => exact (Kd.R_reads' HO_309001.out).2.1); rintro e w142 ⟨rfl, hb⟩; refine ⟨_, rfl, ?_⟩; replace HO_309000 := Aside0.mk (Kd.R_below (by (with_reducible repeat (first | apply Kd.R_alloc | apply Kd.R_drewN | apply Kd.R_drew)); exact (Kd.R_mono (Kd.R_far (p := ⟨gb353, 1, none⟩) (Kd.R_far (p := ⟨gb353, 0, none⟩) (Kd.R_types HO_309000.out BK353.out (by decide)) (fun _ hk => hk.2) (.slice Ao124 t346.length co124)) (fun _ hk => hk.2) (.slice Ao130 t349.length co130)) (fun _ h_ => h_.1))) hb); replace HO_309001 := Aside0.mk (Kd.R_below (by (with_reducible repeat (first | apply Kd.R_alloc | apply Kd.R_drewN | apply Kd.R_drew)); exact (Kd.R_mono (Kd.R_far (p := ⟨gb353, 1, none⟩) (Kd.R_far (p := ⟨gb353, 0, none⟩) (Kd.R_types HO_309001.out BK353.out (by decide)) (fun _ hk => hk.2) (.slice Ao124 t346.length co124)) (fun _ hk => hk.2) (.slice Ao130 t349.length co130)) (fun _ h_ => h_.1))) hb); replace HO_316000 := Aside0.mk (Kd.R_below (by (with_reducible repeat (first | apply Kd.R_alloc | apply Kd.R_drewN | apply Kd.R_drew)); exact (Kd.R_mono (Kd.R_far (p := ⟨gb353, 1, none⟩) (Kd.R_far (p := ⟨gb353, 0, none⟩) (Kd.R_types HO_316000.out BK353.out (by decide)) (fun _ hk => hk.2) (.slice Ao124 t346.length co124)) (fun _ hk => hk.2) (.slice Ao130 t349.length co130)) (fun _ h_ => h_.1))) hb); replace HO_316001 := Aside0.mk (Kd.R_below (by (with_reducible repeat (first | apply Kd.R_alloc | apply Kd.R_drewN | apply Kd.R_drew)); exact (Kd.R_mono (Kd.R_far (p := ⟨gb353, 1, none⟩) (Kd.R_far (p := ⟨gb353, 0, none⟩) (Kd.R_types HO_316001.out BK353.out (by decide)) (fun _ hk => hk.2) (.slice Ao124 t346.length co124)) (fun _ hk => hk.2) (.slice Ao130 t349.length co130)) (fun _ h_ => h_.1))) hb); replace HO_324000 := Aside0.mk (Kd.R_below (by (with_reducible repeat (first | apply Kd.R_alloc | apply Kd.R_drewN | apply Kd.R_drew)); exact (Kd.R_mono (Kd.R_far (p := ⟨gb353, 1, none⟩) (Kd.R_far (p := ⟨gb353, 0, none⟩) (Kd.R_types HO_324000.out BK353.out (by decide)) (fun _ hk => hk.2) (.slice Ao124 t346.length co124)) (fun _ hk => hk.2) (.slice Ao130 t349.length co130)) (fun _ h_ => h_.1))) hb); replace HO_324001 := Aside0.mk (Kd.R_below (by (with_reducible repeat (first | apply Kd.R_alloc | apply Kd.R_drewN | apply Kd.R_drew)); exact (Kd.R_mono (Kd.R_far (p := ⟨gb353, 1, none⟩) (Kd.R_far (p := ⟨gb353, 0, none⟩) (Kd.R_types HO_324001.out BK353.out (by decide)) (fun _ hk => hk.2) (.slice Ao124 t346.length co124)) (fun _ hk => hk.2) (.slice Ao130 t349.length co130)) (fun _ h_ => h_.1))) hb); replace HO342 := Aside0.mk (Kd.R_below (by (with_reducible repeat (first | apply Kd.R_alloc | apply Kd.R_drewN | apply Kd.R_drew)); exact (Kd.R_mono (Kd.R_far (p := ⟨gb353, 1, none⟩) (Kd.R_far (p := ⟨gb353, 0, none⟩) (Kd.R_types HO342.out BK353.out (by decide)) (fun _ hk => hk.2) (.slice Ao124 t346.length co124)) (fun _ hk => hk.2) (.slice Ao130 t349.length co130)) (fun _ h_ => h_.1))) hb); replace HO345 := Aside0.mk (Kd.R_below (by (with_reducible repeat (first | apply Kd.R_alloc | apply Kd.R_drewN | apply Kd.R_drew)); exact (Kd.R_mono (Kd.R_far (p := ⟨gb353, 1, none⟩) (Kd.R_far (p := ⟨gb353, 0, none⟩) (Kd.R_types HO345.out BK353.out (by decide)) (fun _ hk => hk.2) (.slice Ao124 t346.length co124)) (fun _ hk => hk.2) (.slice Ao130 t349.length co130)) (fun _ h_ => h_.1))) hb); replace HO348 := Aside0.mk (Kd.R_below (by (with_reducible repeat (first | apply Kd.R_alloc | apply Kd.R_drewN | apply Kd.R_drew)); exact (Kd.R_mono (Kd.R_far (p := ⟨gb353, 1, none⟩) (Kd.R_far (p := ⟨gb353, 0, none⟩) (Kd.R_types HO348.out BK353.out (by decide)) (fun _ hk => hk.2) (.slice Ao124 t346.length co124)) (fun _ hk => hk.2) (.slice Ao130 t349.length co130)) (fun _ h_ => h_.1))) hb); replace HO351 := Aside0.mk (Kd.R_below (by (with_reducible repeat (first | apply Kd.R_alloc | apply Kd.R_drewN | apply Kd.R_drew)); exact (Kd.R_mono (Kd.R_far (p := ⟨gb353, 1, none⟩) (Kd.R_far (p := ⟨gb353, 0, none⟩) (Kd.R_types HO351.out BK353.out (by decide)) (fun _ hk => hk.2) (.slice Ao124 t346.length co124)) (fun _ hk => hk.2) (.slice Ao130 t349.length co130)) (fun _ h_ => h_.1))) hb); replace BK293 := Aside0.mk (blk_below (g := gb293) (o := .cells #[.slice A0_0 l0_0.length c0_0, .slice A0_1 l0_1.length c0_1] 24 (0, 0)) (by (with_reducible repeat (first | refine blk_drewN ?_ _ | refine blk_drew ?_ | refine blk_alloc ?_ _)); refine blk_far ?_ NB293_353.out _; (with_reducible repeat (first | refine blk_drewN ?_ _ | refine blk_drew ?_ | refine blk_alloc ?_ _)); refine blk_far ?_ NB293_353.out _; (with_reducible repeat (first | refine blk_drewN ?_ _ | refine blk_drew ?_ | refine blk_alloc ?_ _)); exact BK293.out) hb); replace BK308 := Aside0.mk (blk_below (g := gb308) (o := .cells #[.slice Ao21 t301.length co21, .slice Ao24 t304.length co24] 27 (0, 0)) (by (with_reducible repeat (first | refine blk_drewN ?_ _ | refine blk_drew ?_ | refine blk_alloc ?_ _)); refine blk_far ?_ NB308_353.out _; (with_reducible repeat (first | refine blk_drewN ?_ _ | refine blk_drew ?_ | refine blk_alloc ?_ _)); refine blk_far ?_ NB308_353.out _; (with_reducible repeat (first | refine blk_drewN ?_ _ | refine blk_drew ?_ | refine blk_alloc ?_ _)); exact BK308.out) hb); replace BK315 := Aside0.mk (blk_below (g := gb315) (o := .cells #[.slice Ao28 t333.length co28, .slice Ao32 t334.length co32] 27 (0, 0)) (by (with_reducible repeat (first | refine blk_drewN ?_ _ | refine blk_drew ?_ | refine blk_alloc ?_ _)); refine blk_far ?_ NB315_353.out _; (with_reducible repeat (first | refine blk_drewN ?_ _ | refine blk_drew ?_ | refine blk_alloc ?_ _)); refine blk_far ?_ NB315_353.out _; (with_reducible repeat (first | refine blk_drewN ?_ _ | refine blk_drew ?_ | refine blk_alloc ?_ _)); exact BK315.out) hb); replace BK323 := Aside0.mk (blk_below (g := gb323) (o := .cells #[.slice Ao35 t316.length co35, .slice Ao40 t319.length co40] 27 (0, 0)) (by (with_reducible repeat (first | refine blk_drewN ?_ _ | refine blk_drew ?_ | refine blk_alloc ?_ _)); refine blk_far ?_ NB323_353.out _; (with_reducible repeat (first | refine blk_drewN ?_ _ | refine blk_drew ?_ | refine blk_alloc ?_ _)); refine blk_far ?_ NB323_353.out _; (with_reducible repeat (first | refine blk_drewN ?_ _ | refine blk_drew ?_ | refine blk_alloc ?_ _)); exact BK323.out) hb); replace BK353 := Aside0.mk (blk_below (g := gb353) (o := .cells #[.slice Ao124 t346.length co124, .slice Ao130 t349.length co130] 27 (0, 0)) (by (with_reducible repeat (first | refine blk_drewN ?_ _ | refine blk_drew ?_ | refine blk_alloc ?_ _)); refine blk_put (cs := #[.slice Ao124 t346.length co124, .slice none 0 0]) ?_ 1 _ rfl; (with_reducible repeat (first | refine blk_drewN ?_ _ | refine blk_drew ?_ | refine blk_alloc ?_ _)); refine blk_put (cs := #[.slice none 0 0, .slice none 0 0]) ?_ 0 _ rfl; (with_reducible repeat (first | refine blk_drewN ?_ _ | refine blk_drew ?_ | refine blk_alloc ?_ _)); exact BK353.out) hb); replace HB := Aside0.mk (below_step (tB HB.out) hb); (try clear hb); (try clear hb2); (try clear hk); (try clear hi)))
             go_meet
             case rel => exact ⟨_, ((t352 != t307)), (by first | rfl | (simp; done) | (simp [wrap64]; done) | (simp [*]; done)), H', ⟨by have := HJ10.out; have := HJ63.out; first | omega | exact Nat.le_refl _⟩, ⟨by (try simp only [hl316000_63]); (try simp only [hl316001_63]); (with_reducible repeat (first | apply Kd.R_alloc | apply Kd.R_drewN | apply Kd.R_drew)); exact Kd.R_mono HO_309000.out (fun _ hk => ⟨hk.1.1.1.1.1, ⟨hk.1.1.1.1.2.1, ⟨hk.1.1.1.1.2.2.1, ⟨hk.1.1.1.1.2.2.2.1, ⟨hk.1.1.1.1.2.2.2.2, ⟨hk.1.2, hk.2⟩⟩⟩⟩⟩⟩)⟩, ⟨by (try simp only [hl316000_63]); (try simp only [hl316001_63]); (with_reducible repeat (first | apply Kd.R_alloc | apply Kd.R_drewN | apply Kd.R_drew)); exact Kd.R_mono HO_309001.out (fun _ hk => ⟨hk.1.1.1.1.1, ⟨hk.1.1.1.1.2.1, ⟨hk.1.1.1.1.2.2.1, ⟨hk.1.1.1.1.2.2.2.1, ⟨hk.1.1.1.1.2.2.2.2, ⟨hk.1.2, hk.2⟩⟩⟩⟩⟩⟩)⟩, ⟨by (try simp only [hl316000_63]); (try simp only [hl316001_63]); (with_reducible repeat (first | apply Kd.R_alloc | apply Kd.R_drewN | apply Kd.R_drew)); exact Kd.R_mono HO_316000.out (fun _ hk => ⟨hk.1.1.1.1.1, ⟨hk.1.1.1.1.2.1, ⟨hk.1.1.1.1.2.2.1, ⟨hk.1.1.1.1.2.2.2.1, ⟨hk.1.1.1.1.2.2.2.2, ⟨hk.1.2, hk.2⟩⟩⟩⟩⟩⟩)⟩, ⟨by (try simp only [hl316000_63]); (try simp only [hl316001_63]); (with_reducible repeat (first | apply Kd.R_alloc | apply Kd.R_drewN | apply Kd.R_drew)); exact Kd.R_mono HO_316001.out (fun _ hk => ⟨hk.1.1.1.1.1, ⟨hk.1.1.1.1.2.1, ⟨hk.1.1.1.1.2.2.1, ⟨hk.1.1.1.1.2.2.2.1, ⟨hk.1.1.1.1.2.2.2.2, ⟨hk.1.2, hk.2⟩⟩⟩⟩⟩⟩)⟩, ⟨by (try simp only [hl316000_63]); (try simp only [hl316001_63]); (with_reducible repeat (first | apply Kd.R_alloc | apply Kd.R_drewN | apply Kd.R_drew)); exact Kd.R_mono HO_324000.out (fun _ hk => ⟨hk.1.1.1.1.1, ⟨hk.1.1.1.1.2.1, ⟨hk.1.1.1.1.2.2.1, ⟨hk.1.1.1.1.2.2.2.1, ⟨hk.1.1.1.1.2.2.2.2, ⟨hk.1.2, hk.2⟩⟩⟩⟩⟩⟩)⟩, ⟨by (try simp only [hl316000_63]); (try simp only [hl316001_63]); (with_reducible repeat (first | apply Kd.R_alloc | apply Kd.R_drewN | apply Kd.R_drew)); exact Kd.R_mono HO_324001.out (fun _ hk => ⟨hk.1.1.1.1.1, ⟨hk.1.1.1.1.2.1, ⟨hk.1.1.1.1.2.2.1, ⟨hk.1.1.1.1.2.2.2.1, ⟨hk.1.1.1.1.2.2.2.2, ⟨hk.1.2, hk.2⟩⟩⟩⟩⟩⟩)⟩, ⟨by (try simp only [hl316000_63]); (try simp only [hl316001_63]); (with_reducible repeat (first | apply Kd.R_alloc | apply Kd.R_drewN | apply Kd.R_drew)); exact Kd.R_mono HO348.out (fun _ hk => ⟨hk.1.1.1.1.1.1.1.2, ⟨hk.1.1.1.1.1.1.2, ⟨hk.1.1.1.1.1.2, ⟨hk.1.1.1.1.2, ⟨hk.1.1.1.2, ⟨hk.1.1.2, hk.1.1.1.1.1.1.1.1⟩⟩⟩⟩⟩⟩)⟩, ⟨by (try simp only [hl316000_63]); (try simp only [hl316001_63]); (with_reducible repeat (first | apply Kd.R_alloc | apply Kd.R_drewN | apply Kd.R_drew)); exact Kd.R_mono HO351.out (fun _ hk => ⟨hk.1.1.1.1.1.1.1.2, ⟨hk.1.1.1.1.1.1.2, ⟨hk.1.1.1.1.1.2, ⟨hk.1.1.1.1.2, ⟨hk.1.1.1.2, ⟨hk.1.1.2, hk.1.1.1.1.1.1.1.1⟩⟩⟩⟩⟩⟩)⟩, ⟨by (try simp only [hl316000_63]); (try simp only [hl316001_63]); (with_reducible repeat (first | refine blk_drewN ?_ _ | refine blk_drew ?_ | refine blk_alloc ?_ _)); exact BK293.out⟩, ⟨by (try simp only [hl316000_63]); (try simp only [hl316001_63]); (with_reducible repeat (first | refine blk_drewN ?_ _ | refine blk_drew ?_ | refine blk_alloc ?_ _)); exact BK308.out⟩, ⟨by (try simp only [hl316000_63]); (try simp only [hl316001_63]); (with_reducible repeat (first | refine blk_drewN ?_ _ | refine blk_drew ?_ | refine blk_alloc ?_ _)); exact BK315.out⟩, ⟨by (try simp only [hl316000_63]); (try simp only [hl316001_63]); (with_reducible repeat (first | refine blk_drewN ?_ _ | refine blk_drew ?_ | refine blk_alloc ?_ _)); exact BK323.out⟩, ⟨by (try simp only [hl316000_63]); (try simp only [hl316001_63]); (with_reducible repeat (first | refine blk_drewN ?_ _ | refine blk_drew ?_ | refine blk_alloc ?_ _)); exact BK353.out⟩, ⟨tB HB.out⟩⟩
            ·
             replace c132 := Bool.eq_false_iff.mpr c132
             subst c132
             have H1 : (laws_FnExactLevelArms.j2 kj63 t336 true t337 t338) = some r := by rw [if_neg (show ¬ (false = true) by decide)] at H; exact H
             clear H
             have H := H1
             clear H1
             have H' := Aside0.mk H
             clear H
             have hnb143 := NB353_293.out
             have hnc143 := NB293_353.out
             have hnb144 := NB353_308.out
             have hnc144 := NB308_353.out
             have hnb145 := NB353_315.out
             have hnc145 := NB315_353.out
             have hnb146 := NB353_323.out
             have hnc146 := NB323_353.out
             obtain ⟨hcz147_0, hfz147_0, hcz147_1, hfz147_1⟩ := cz2 BK353
             have hnb148 := NB308_293.out
             have hnc148 := NB293_308.out
             have hnb149 := NB308_315.out
             have hnc149 := NB315_308.out
             have hnb150 := NB308_323.out
             have hnc150 := NB323_308.out
             obtain ⟨hcz151_0, hfz151_0, hcz151_1, hfz151_1⟩ := cz2 BK308
             go_wp2_with (first | ((with_reducible refine gate_callee (f := 19) rfl ?_); refine goesL_ (some 81) rfl rfl Try.func19 (by kernel_rfl) rfl #[.agg #[.slice Ao124 t346.length co124, .slice Ao130 t349.length co130], .agg #[.slice Ao21 t301.length co21, .slice Ao24 t304.length co24]] rfl tM ?_; (with_reducible refine (laws_eqMobile.calls kj63 _ _ t346 _ _ t349 _ _ t301 _ _ t304 false _ ?side1 ?side2 ?side3 ?side4 ?side5 ?side6 ?side7 ?side8 A131.out).mono ?_); (case side1 => refine (Kd.R_reads' (e := 58) (base := w.heap.size) (ok := fun k_ => ((((((((some k_ ≠ (.slice Ao130 t349.length co130 : Value).ownBlock ∧ some k_ ≠ (.slice Ao21 t301.length co21 : Value).ownBlock) ∧ some k_ ≠ (.slice Ao24 t304.length co24 : Value).ownBlock) ∧ some k_ ≠ (.slice Ao28 t333.length co28 : Value).ownBlock) ∧ some k_ ≠ (.slice Ao32 t334.length co32 : Value).ownBlock) ∧ some k_ ≠ (.slice Ao35 t316.length co35 : Value).ownBlock) ∧ some k_ ≠ (.slice Ao40 t319.length co40 : Value).ownBlock) ∧ some k_ ≠ (.slice Ao120 t340.length co120 : Value).ownBlock) ∧ some k_ ≠ (.slice Ao121 t343.length co121 : Value).ownBlock)) (n := t346.length) (c := co124) ?_).2.2; exact (by (with_reducible repeat (first | apply Kd.R_alloc | apply Kd.R_drewN | apply Kd.R_drew)); exact (Kd.R_mono (Kd.R_far (p := ⟨gb353, 1, none⟩) (Kd.R_far (p := ⟨gb353, 0, none⟩) (Kd.R_types HO348.out BK353.out (by decide)) (fun _ hk => hk.2) (.slice Ao124 t346.length co124)) (fun _ hk => hk.2) (.slice Ao130 t349.length co130)) (fun _ h_ => h_.1)))); (case side2 => exact (Kd.R_reads' HO348.out).2.1); (case side3 => refine (Kd.R_reads' (e := 58) (base := w.heap.size) (ok := fun k_ => ((((((((some k_ ≠ (.slice Ao124 t346.length co124 : Value).ownBlock ∧ some k_ ≠ (.slice Ao21 t301.length co21 : Value).ownBlock) ∧ some k_ ≠ (.slice Ao24 t304.length co24 : Value).ownBlock) ∧ some k_ ≠ (.slice Ao28 t333.length co28 : Value).ownBlock) ∧ some k_ ≠ (.slice Ao32 t334.length co32 : Value).ownBlock) ∧ some k_ ≠ (.slice Ao35 t316.length co35 : Value).ownBlock) ∧ some k_ ≠ (.slice Ao40 t319.length co40 : Value).ownBlock) ∧ some k_ ≠ (.slice Ao120 t340.length co120 : Value).ownBlock) ∧ some k_ ≠ (.slice Ao121 t343.length co121 : Value).ownBlock)) (n := t349.length) (c := co130) ?_).2.2; exact (by (with_reducible repeat (first | apply Kd.R_alloc | apply Kd.R_drewN | apply Kd.R_drew)); exact (Kd.R_mono (Kd.R_far (p := ⟨gb353, 1, none⟩) (Kd.R_far (p := ⟨gb353, 0, none⟩) (Kd.R_types HO351.out BK353.out (by decide)) (fun _ hk => hk.2) (.slice Ao124 t346.length co124)) (fun _ hk => hk.2) (.slice Ao130 t349.length co130)) (fun _ h_ => h_.1)))); (case side4 => exact (Kd.R_reads' HO351.out).2.1); (case side5 => refine (Kd.R_reads' (e := 58) (base := w.heap.size) (ok := fun k_ => (((((some k_ ≠ (.slice Ao24 t304.length co24 : Value).ownBlock ∧ (some k_ ≠ (.slice Ao28 t333.length co28 : Value).ownBlock ∧ (some k_ ≠ (.slice Ao32 t334.length co32 : Value).ownBlock ∧ (some k_ ≠ (.slice Ao35 t316.length co35 : Value).ownBlock ∧ some k_ ≠ (.slice Ao40 t319.length co40 : Value).ownBlock)))) ∧ some k_ ≠ (.slice Ao120 t340.length co120 : Value).ownBlock) ∧ some k_ ≠ (.slice Ao121 t343.length co121 : Value).ownBlock) ∧ some k_ ≠ (.slice Ao124 t346.length co124 : Value).ownBlock) ∧ some k_ ≠ (.slice Ao130 t349.length co130 : Value).ownBlock)) (n := t301.length) (c := co21) ?_).2.2; exact (by (with_reducible repeat (first | apply Kd.R_alloc | apply Kd.R_drewN | apply Kd.R_drew)); exact (Kd.R_mono (Kd.R_far (p := ⟨gb353, 1, none⟩) (Kd.R_far (p := ⟨gb353, 0, none⟩) (Kd.R_types HO_309000.out BK353.out (by decide)) (fun _ hk => hk.2) (.slice Ao124 t346.length co124)) (fun _ hk => hk.2) (.slice Ao130 t349.length co130)) (fun _ h_ => h_.1)))); (case side6 => exact (Kd.R_reads' HO_309000.out).2.1); (case side7 => refine (Kd.R_reads' (e := 58) (base := w.heap.size) (ok := fun k_ => (((((some k_ ≠ (.slice Ao21 t301.length co21 : Value).ownBlock ∧ (some k_ ≠ (.slice Ao28 t333.length co28 : Value).ownBlock ∧ (some k_ ≠ (.slice Ao32 t334.length co32 : Value).ownBlock ∧ (some k_ ≠ (.slice Ao35 t316.length co35 : Value).ownBlock ∧ some k_ ≠ (.slice Ao40 t319.length co40 : Value).ownBlock)))) ∧ some k_ ≠ (.slice Ao120 t340.length co120 : Value).ownBlock) ∧ some k_ ≠ (.slice Ao121 t343.length co121 : Value).ownBlock) ∧ some k_ ≠ (.slice Ao124 t346.length co124 : Value).ownBlock) ∧ some k_ ≠ (.slice Ao130 t349.length co130 : Value).ownBlock)) (n := t304.length) (c := co24) ?_).2.2; exact (by (with_reducible repeat (first | apply Kd.R_alloc | apply Kd.R_drewN | apply Kd.R_drew)); exact (Kd.R_mono (Kd.R_far (p := ⟨gb353, 1, none⟩) (Kd.R_far (p := ⟨gb353, 0, none⟩) (Kd.R_types HO_309001.out BK353.out (by decide)) (fun _ hk => hk.2) (.slice Ao124 t346.length co124)) (fun _ hk => hk.2) (.slice Ao130 t349.length co130)) (fun _ h_ => h_.1)))); (case side8 => exact (Kd.R_reads' HO_309001.out).2.1); rintro e w152 ⟨rfl, hb⟩; refine ⟨_, rfl, ?_⟩; replace HO_309000 := Aside0.mk (Kd.R_below (by (with_reducible repeat (first | apply Kd.R_alloc | apply Kd.R_drewN | apply Kd.R_drew)); exact (Kd.R_mono (Kd.R_far (p := ⟨gb353, 1, none⟩) (Kd.R_far (p := ⟨gb353, 0, none⟩) (Kd.R_types HO_309000.out BK353.out (by decide)) (fun _ hk => hk.2) (.slice Ao124 t346.length co124)) (fun _ hk => hk.2) (.slice Ao130 t349.length co130)) (fun _ h_ => h_.1))) hb); replace HO_309001 := Aside0.mk (Kd.R_below (by (with_reducible repeat (first | apply Kd.R_alloc | apply Kd.R_drewN | apply Kd.R_drew)); exact (Kd.R_mono (Kd.R_far (p := ⟨gb353, 1, none⟩) (Kd.R_far (p := ⟨gb353, 0, none⟩) (Kd.R_types HO_309001.out BK353.out (by decide)) (fun _ hk => hk.2) (.slice Ao124 t346.length co124)) (fun _ hk => hk.2) (.slice Ao130 t349.length co130)) (fun _ h_ => h_.1))) hb); replace HO_316000 := Aside0.mk (Kd.R_below (by (with_reducible repeat (first | apply Kd.R_alloc | apply Kd.R_drewN | apply Kd.R_drew)); exact (Kd.R_mono (Kd.R_far (p := ⟨gb353, 1, none⟩) (Kd.R_far (p := ⟨gb353, 0, none⟩) (Kd.R_types HO_316000.out BK353.out (by decide)) (fun _ hk => hk.2) (.slice Ao124 t346.length co124)) (fun _ hk => hk.2) (.slice Ao130 t349.length co130)) (fun _ h_ => h_.1))) hb); replace HO_316001 := Aside0.mk (Kd.R_below (by (with_reducible repeat (first | apply Kd.R_alloc | apply Kd.R_drewN | apply Kd.R_drew)); exact (Kd.R_mono (Kd.R_far (p := ⟨gb353, 1, none⟩) (Kd.R_far (p := ⟨gb353, 0, none⟩) (Kd.R_types HO_316001.out BK353.out (by decide)) (fun _ hk => hk.2) (.slice Ao124 t346.length co124)) (fun _ hk => hk.2) (.slice Ao130 t349.length co130)) (fun _ h_ => h_.1))) hb); replace HO_324000 := Aside0.mk (Kd.R_below (by (with_reducible repeat (first | apply Kd.R_alloc | apply Kd.R_drewN | apply Kd.R_drew)); exact (Kd.R_mono (Kd.R_far (p := ⟨gb353, 1, none⟩) (Kd.R_far (p := ⟨gb353, 0, none⟩) (Kd.R_types HO_324000.out BK353.out (by decide)) (fun _ hk => hk.2) (.slice Ao124 t346.length co124)) (fun _ hk => hk.2) (.slice Ao130 t349.length co130)) (fun _ h_ => h_.1))) hb); replace HO_324001 := Aside0.mk (Kd.R_below (by (with_reducible repeat (first | apply Kd.R_alloc | apply Kd.R_drewN | apply Kd.R_drew)); exact (Kd.R_mono (Kd.R_far (p := ⟨gb353, 1, none⟩) (Kd.R_far (p := ⟨gb353, 0, none⟩) (Kd.R_types HO_324001.out BK353.out (by decide)) (fun _ hk => hk.2) (.slice Ao124 t346.length co124)) (fun _ hk => hk.2) (.slice Ao130 t349.length co130)) (fun _ h_ => h_.1))) hb); replace HO342 := Aside0.mk (Kd.R_below (by (with_reducible repeat (first | apply Kd.R_alloc | apply Kd.R_drewN | apply Kd.R_drew)); exact (Kd.R_mono (Kd.R_far (p := ⟨gb353, 1, none⟩) (Kd.R_far (p := ⟨gb353, 0, none⟩) (Kd.R_types HO342.out BK353.out (by decide)) (fun _ hk => hk.2) (.slice Ao124 t346.length co124)) (fun _ hk => hk.2) (.slice Ao130 t349.length co130)) (fun _ h_ => h_.1))) hb); replace HO345 := Aside0.mk (Kd.R_below (by (with_reducible repeat (first | apply Kd.R_alloc | apply Kd.R_drewN | apply Kd.R_drew)); exact (Kd.R_mono (Kd.R_far (p := ⟨gb353, 1, none⟩) (Kd.R_far (p := ⟨gb353, 0, none⟩) (Kd.R_types HO345.out BK353.out (by decide)) (fun _ hk => hk.2) (.slice Ao124 t346.length co124)) (fun _ hk => hk.2) (.slice Ao130 t349.length co130)) (fun _ h_ => h_.1))) hb); replace HO348 := Aside0.mk (Kd.R_below (by (with_reducible repeat (first | apply Kd.R_alloc | apply Kd.R_drewN | apply Kd.R_drew)); exact (Kd.R_mono (Kd.R_far (p := ⟨gb353, 1, none⟩) (Kd.R_far (p := ⟨gb353, 0, none⟩) (Kd.R_types HO348.out BK353.out (by decide)) (fun _ hk => hk.2) (.slice Ao124 t346.length co124)) (fun _ hk => hk.2) (.slice Ao130 t349.length co130)) (fun _ h_ => h_.1))) hb); replace HO351 := Aside0.mk (Kd.R_below (by (with_reducible repeat (first | apply Kd.R_alloc | apply Kd.R_drewN | apply Kd.R_drew)); exact (Kd.R_mono (Kd.R_far (p := ⟨gb353, 1, none⟩) (Kd.R_far (p := ⟨gb353, 0, none⟩) (Kd.R_types HO351.out BK353.out (by decide)) (fun _ hk => hk.2) (.slice Ao124 t346.length co124)) (fun _ hk => hk.2) (.slice Ao130 t349.length co130)) (fun _ h_ => h_.1))) hb); replace BK293 := Aside0.mk (blk_below (g := gb293) (o := .cells #[.slice A0_0 l0_0.length c0_0, .slice A0_1 l0_1.length c0_1] 24 (0, 0)) (by (with_reducible repeat (first | refine blk_drewN ?_ _ | refine blk_drew ?_ | refine blk_alloc ?_ _)); refine blk_far ?_ NB293_353.out _; (with_reducible repeat (first | refine blk_drewN ?_ _ | refine blk_drew ?_ | refine blk_alloc ?_ _)); refine blk_far ?_ NB293_353.out _; (with_reducible repeat (first | refine blk_drewN ?_ _ | refine blk_drew ?_ | refine blk_alloc ?_ _)); exact BK293.out) hb); replace BK308 := Aside0.mk (blk_below (g := gb308) (o := .cells #[.slice Ao21 t301.length co21, .slice Ao24 t304.length co24] 27 (0, 0)) (by (with_reducible repeat (first | refine blk_drewN ?_ _ | refine blk_drew ?_ | refine blk_alloc ?_ _)); refine blk_far ?_ NB308_353.out _; (with_reducible repeat (first | refine blk_drewN ?_ _ | refine blk_drew ?_ | refine blk_alloc ?_ _)); refine blk_far ?_ NB308_353.out _; (with_reducible repeat (first | refine blk_drewN ?_ _ | refine blk_drew ?_ | refine blk_alloc ?_ _)); exact BK308.out) hb); replace BK315 := Aside0.mk (blk_below (g := gb315) (o := .cells #[.slice Ao28 t333.length co28, .slice Ao32 t334.length co32] 27 (0, 0)) (by (with_reducible repeat (first | refine blk_drewN ?_ _ | refine blk_drew ?_ | refine blk_alloc ?_ _)); refine blk_far ?_ NB315_353.out _; (with_reducible repeat (first | refine blk_drewN ?_ _ | refine blk_drew ?_ | refine blk_alloc ?_ _)); refine blk_far ?_ NB315_353.out _; (with_reducible repeat (first | refine blk_drewN ?_ _ | refine blk_drew ?_ | refine blk_alloc ?_ _)); exact BK315.out) hb); replace BK323 := Aside0.mk (blk_below (g := gb323) (o := .cells #[.slice Ao35 t316.length co35, .slice Ao40 t319.length co40] 27 (0, 0)) (by (with_reducible repeat (first | refine blk_drewN ?_ _ | refine blk_drew ?_ | refine blk_alloc ?_ _)); refine blk_far ?_ NB323_353.out _; (with_reducible repeat (first | refine blk_drewN ?_ _ | refine blk_drew ?_ | refine blk_alloc ?_ _)); refine blk_far ?_ NB323_353.out _; (with_reducible repeat (first | refine blk_drewN ?_ _ | refine blk_drew ?_ | refine blk_alloc ?_ _)); exact BK323.out) hb); replace BK353 := Aside0.mk (blk_below (g := gb353) (o := .cells #[.slice Ao124 t346.length co124, .slice Ao130 t349.length co130] 27 (0, 0)) (by (with_reducible repeat (first | refine blk_drewN ?_ _ | refine blk_drew ?_ | refine blk_alloc ?_ _)); refine blk_put (cs := #[.slice Ao124 t346.length co124, .slice none 0 0]) ?_ 1 _ rfl; (with_reducible repeat (first | refine blk_drewN ?_ _ | refine blk_drew ?_ | refine blk_alloc ?_ _)); refine blk_put (cs := #[.slice none 0 0, .slice none 0 0]) ?_ 0 _ rfl; (with_reducible repeat (first | refine blk_drewN ?_ _ | refine blk_drew ?_ | refine blk_alloc ?_ _)); exact BK353.out) hb); replace HB := Aside0.mk (below_step (tB HB.out) hb); (try clear hb); (try clear hb2); (try clear hk); (try clear hi)))
             go_meet
             case rel => exact ⟨_, (true), (by first | rfl | (simp; done) | (simp [wrap64]; done) | (simp [*]; done)), H', ⟨by have := HJ10.out; have := HJ63.out; first | omega | exact Nat.le_refl _⟩, ⟨by (try simp only [hl316000_63]); (try simp only [hl316001_63]); (with_reducible repeat (first | apply Kd.R_alloc | apply Kd.R_drewN | apply Kd.R_drew)); exact Kd.R_mono HO_309000.out (fun _ hk => ⟨hk.1.1.1.1.1, ⟨hk.1.1.1.1.2.1, ⟨hk.1.1.1.1.2.2.1, ⟨hk.1.1.1.1.2.2.2.1, ⟨hk.1.1.1.1.2.2.2.2, ⟨hk.1.2, hk.2⟩⟩⟩⟩⟩⟩)⟩, ⟨by (try simp only [hl316000_63]); (try simp only [hl316001_63]); (with_reducible repeat (first | apply Kd.R_alloc | apply Kd.R_drewN | apply Kd.R_drew)); exact Kd.R_mono HO_309001.out (fun _ hk => ⟨hk.1.1.1.1.1, ⟨hk.1.1.1.1.2.1, ⟨hk.1.1.1.1.2.2.1, ⟨hk.1.1.1.1.2.2.2.1, ⟨hk.1.1.1.1.2.2.2.2, ⟨hk.1.2, hk.2⟩⟩⟩⟩⟩⟩)⟩, ⟨by (try simp only [hl316000_63]); (try simp only [hl316001_63]); (with_reducible repeat (first | apply Kd.R_alloc | apply Kd.R_drewN | apply Kd.R_drew)); exact Kd.R_mono HO_316000.out (fun _ hk => ⟨hk.1.1.1.1.1, ⟨hk.1.1.1.1.2.1, ⟨hk.1.1.1.1.2.2.1, ⟨hk.1.1.1.1.2.2.2.1, ⟨hk.1.1.1.1.2.2.2.2, ⟨hk.1.2, hk.2⟩⟩⟩⟩⟩⟩)⟩, ⟨by (try simp only [hl316000_63]); (try simp only [hl316001_63]); (with_reducible repeat (first | apply Kd.R_alloc | apply Kd.R_drewN | apply Kd.R_drew)); exact Kd.R_mono HO_316001.out (fun _ hk => ⟨hk.1.1.1.1.1, ⟨hk.1.1.1.1.2.1, ⟨hk.1.1.1.1.2.2.1, ⟨hk.1.1.1.1.2.2.2.1, ⟨hk.1.1.1.1.2.2.2.2, ⟨hk.1.2, hk.2⟩⟩⟩⟩⟩⟩)⟩, ⟨by (try simp only [hl316000_63]); (try simp only [hl316001_63]); (with_reducible repeat (first | apply Kd.R_alloc | apply Kd.R_drewN | apply Kd.R_drew)); exact Kd.R_mono HO_324000.out (fun _ hk => ⟨hk.1.1.1.1.1, ⟨hk.1.1.1.1.2.1, ⟨hk.1.1.1.1.2.2.1, ⟨hk.1.1.1.1.2.2.2.1, ⟨hk.1.1.1.1.2.2.2.2, ⟨hk.1.2, hk.2⟩⟩⟩⟩⟩⟩)⟩, ⟨by (try simp only [hl316000_63]); (try simp only [hl316001_63]); (with_reducible repeat (first | apply Kd.R_alloc | apply Kd.R_drewN | apply Kd.R_drew)); exact Kd.R_mono HO_324001.out (fun _ hk => ⟨hk.1.1.1.1.1, ⟨hk.1.1.1.1.2.1, ⟨hk.1.1.1.1.2.2.1, ⟨hk.1.1.1.1.2.2.2.1, ⟨hk.1.1.1.1.2.2.2.2, ⟨hk.1.2, hk.2⟩⟩⟩⟩⟩⟩)⟩, ⟨by (try simp only [hl316000_63]); (try simp only [hl316001_63]); (with_reducible repeat (first | apply Kd.R_alloc | apply Kd.R_drewN | apply Kd.R_drew)); exact Kd.R_mono HO348.out (fun _ hk => ⟨hk.1.1.1.1.1.1.1.2, ⟨hk.1.1.1.1.1.1.2, ⟨hk.1.1.1.1.1.2, ⟨hk.1.1.1.1.2, ⟨hk.1.1.1.2, ⟨hk.1.1.2, hk.1.1.1.1.1.1.1.1⟩⟩⟩⟩⟩⟩)⟩, ⟨by (try simp only [hl316000_63]); (try simp only [hl316001_63]); (with_reducible repeat (first | apply Kd.R_alloc | apply Kd.R_drewN | apply Kd.R_drew)); exact Kd.R_mono HO351.out (fun _ hk => ⟨hk.1.1.1.1.1.1.1.2, ⟨hk.1.1.1.1.1.1.2, ⟨hk.1.1.1.1.1.2, ⟨hk.1.1.1.1.2, ⟨hk.1.1.1.2, ⟨hk.1.1.2, hk.1.1.1.1.1.1.1.1⟩⟩⟩⟩⟩⟩)⟩, ⟨by (try simp only [hl316000_63]); (try simp only [hl316001_63]); (with_reducible repeat (first | refine blk_drewN ?_ _ | refine blk_drew ?_ | refine blk_alloc ?_ _)); exact BK293.out⟩, ⟨by (try simp only [hl316000_63]); (try simp only [hl316001_63]); (with_reducible repeat (first | refine blk_drewN ?_ _ | refine blk_drew ?_ | refine blk_alloc ?_ _)); exact BK308.out⟩, ⟨by (try simp only [hl316000_63]); (try simp only [hl316001_63]); (with_reducible repeat (first | refine blk_drewN ?_ _ | refine blk_drew ?_ | refine blk_alloc ?_ _)); exact BK315.out⟩, ⟨by (try simp only [hl316000_63]); (try simp only [hl316001_63]); (with_reducible repeat (first | refine blk_drewN ?_ _ | refine blk_drew ?_ | refine blk_alloc ?_ _)); exact BK323.out⟩, ⟨by (try simp only [hl316000_63]); (try simp only [hl316001_63]); (with_reducible repeat (first | refine blk_drewN ?_ _ | refine blk_drew ?_ | refine blk_alloc ?_ _)); exact BK353.out⟩, ⟨tB HB.out⟩⟩
           case rest =>
            clear HC108
            try clear c1
            try clear c2
            try clear p2
            try clear c3
            try clear c3b0
            try clear c4
            try clear c5
            try clear c6
            try clear p6
            try clear c7
            try clear c8
            try clear c9
            try clear c10
            try clear c11
            try clear c12
            try clear c13
            try clear c14
            try clear c15
            try clear c17
            try clear c19
            try clear c22
            try clear c24
            try clear c25
            try clear c29
            try clear c30
            try clear c36
            try clear c37
            try clear c38
            try clear c42
            try clear c43
            try clear c44
            try clear c45
            try clear c47
            try clear c48
            try clear c51
            try clear c52
            try clear c53
            try clear c55
            try clear c56
            try clear c59
            try clear c62
            try clear p64
            try clear c70
            try clear c71
            try clear c72
            try clear c75
            try clear c75b0
            try clear c77
            try clear c78
            try clear c79
            try clear c80
            try clear c82
            try clear c83
            try clear c86
            try clear c87
            try clear c88
            try clear c90
            try clear c91
            try clear c94
            try clear c97
            try clear c97b0
            try clear c98
            try clear c99
            try clear c100
            try clear c105
            try clear c105b0
            try clear c105b1
            try clear c109
            try clear c110
            try clear c111
            try clear c116
            try clear c117
            try clear c125
            try clear c126
            try clear c127
            try clear c128
            try clear c132
            try clear c133
            try clear c134
            try clear c135
            try clear c136
            try clear c138
            try clear c139
            try clear c140
            try clear c143
            try clear c144
            try clear c145
            try clear c146
            try clear c148
            try clear c149
            try clear c150
            try clear hcz101_0
            try clear hcz101_1
            try clear hcz103_0
            try clear hcz103_1
            try clear hcz112_0
            try clear hcz112_1
            try clear hcz114_0
            try clear hcz114_1
            try clear hcz118_0
            try clear hcz118_1
            try clear hcz129_0
            try clear hcz129_1
            try clear hcz137_0
            try clear hcz137_1
            try clear hcz13_0
            try clear hcz13_1
            try clear hcz141_0
            try clear hcz141_1
            try clear hcz147_0
            try clear hcz147_1
            try clear hcz151_0
            try clear hcz151_1
            try clear hcz15_0
            try clear hcz15_1
            try clear hcz23_0
            try clear hcz23_1
            try clear hcz25_0
            try clear hcz25_1
            try clear hcz31_0
            try clear hcz31_1
            try clear hcz39_0
            try clear hcz39_1
            try clear hcz46_0
            try clear hcz46_1
            try clear hcz49_0
            try clear hcz49_1
            try clear hcz54_0
            try clear hcz54_1
            try clear hcz57_0
            try clear hcz57_1
            try clear hcz5_0
            try clear hcz5_1
            try clear hcz73_0
            try clear hcz73_1
            try clear hcz81_0
            try clear hcz81_1
            try clear hcz84_0
            try clear hcz84_1
            try clear hcz89_0
            try clear hcz89_1
            try clear hcz92_0
            try clear hcz92_1
            try clear hfz101_0
            try clear hfz101_1
            try clear hfz103_0
            try clear hfz103_1
            try clear hfz112_0
            try clear hfz112_1
            try clear hfz114_0
            try clear hfz114_1
            try clear hfz118_0
            try clear hfz118_1
            try clear hfz129_0
            try clear hfz129_1
            try clear hfz137_0
            try clear hfz137_1
            try clear hfz13_0
            try clear hfz13_1
            try clear hfz141_0
            try clear hfz141_1
            try clear hfz147_0
            try clear hfz147_1
            try clear hfz151_0
            try clear hfz151_1
            try clear hfz15_0
            try clear hfz15_1
            try clear hfz23_0
            try clear hfz23_1
            try clear hfz25_0
            try clear hfz25_1
            try clear hfz31_0
            try clear hfz31_1
            try clear hfz39_0
            try clear hfz39_1
            try clear hfz46_0
            try clear hfz46_1
            try clear hfz49_0
            try clear hfz49_1
            try clear hfz54_0
            try clear hfz54_1
            try clear hfz57_0
            try clear hfz57_1
            try clear hfz5_0
            try clear hfz5_1
            try clear hfz73_0
            try clear hfz73_1
            try clear hfz81_0
            try clear hfz81_1
            try clear hfz84_0
            try clear hfz84_1
            try clear hfz89_0
            try clear hfz89_1
            try clear hfz92_0
            try clear hfz92_1
            try clear p2
            try clear p6
            try clear p64
            obtain ⟨kq, x87_107, rfl, HA, HJ107, HO_309000, HO_309001, HO_316000, HO_316001, HO_324000, HO_324001, HO_354000, HO_354001, BK293, BK308, BK315, BK323, BK353, HB⟩ := hcut
            have hl324000_107 := (Kd.R_reads' HO_324000.out).1
            rw [hl324000_107] at HO_324000
            (try simp only [hl324000_107])
            (try simp only [hl324000_107] at BK293)
            (try simp only [hl324000_107] at BK308)
            (try simp only [hl324000_107] at BK315)
            (try simp only [hl324000_107] at BK323)
            (try simp only [hl324000_107] at BK353)
            (try simp only [hl324000_107] at HO_309000)
            (try simp only [hl324000_107] at HO_309001)
            (try simp only [hl324000_107] at HO_316000)
            (try simp only [hl324000_107] at HO_316001)
            (try simp only [hl324000_107] at HO_324001)
            (try simp only [hl324000_107] at HO_354000)
            (try simp only [hl324000_107] at HO_354001)
            have hl324001_107 := (Kd.R_reads' HO_324001.out).1
            rw [hl324001_107] at HO_324001
            (try simp only [hl324001_107])
            (try simp only [hl324001_107] at BK293)
            (try simp only [hl324001_107] at BK308)
            (try simp only [hl324001_107] at BK315)
            (try simp only [hl324001_107] at BK323)
            (try simp only [hl324001_107] at BK353)
            (try simp only [hl324001_107] at HO_309000)
            (try simp only [hl324001_107] at HO_309001)
            (try simp only [hl324001_107] at HO_316000)
            (try simp only [hl324001_107] at HO_316001)
            (try simp only [hl324001_107] at HO_324000)
            (try simp only [hl324001_107] at HO_354000)
            (try simp only [hl324001_107] at HO_354001)
            cases kq with
            | zero => exact absurd HA.out (by simp [laws_FnExactLevelArms.j2])
            | succ kj107 =>
             have H := HA.out
             clear HA
             simp only [laws_FnExactLevelArms.j2] at H
             by_cases c153 : x87_107 = true
             ·
              subst c153
              have H1 : (some false) = some r := by rw [if_pos rfl] at H; exact H
              clear H
              have H := H1
              clear H1
              obtain rfl := Option.some.inj H
              go_wp2
              go_ret
              exact ⟨by first | rfl | (simp [errW_none, errW_some] <;> rfl) | (simp [*, errW_none, errW_some] <;> rfl), tB HB.out⟩
             ·
              replace c153 := Bool.eq_false_iff.mpr c153
              subst c153
              have H1 : ((laws_heldMobile.f kj107 t337 t338 1).bind fun t355 => (if t355 < 0 then (some false) else (if t355 = t336 then (some true) else (some false)))) = some r := by rw [if_neg (show ¬ (false = true) by decide)] at H; exact H
              clear H
              have H := H1
              clear H1
              replace H := Option.bind_eq_some_iff.mp H
              obtain ⟨t355, A1540, H⟩ := H
              replace H : (if t355 < 0 then (some false) else (if t355 = t336 then (some true) else (some false))) = some r := H
              have A154 := Aside0.mk A1540
              clear A1540
              by_cases c155 : t355 < 0
              ·
               rw [if_pos c155] at H
               have c155b0 : decide (t355 < 0) = true := decide_eq_true c155
               clear c155
               obtain rfl := Option.some.inj H
               have hnb156 := NB323_293.out
               have hnc156 := NB293_323.out
               have hnb157 := NB323_308.out
               have hnc157 := NB308_323.out
               have hnb158 := NB323_315.out
               have hnc158 := NB315_323.out
               have hnb159 := NB323_353.out
               have hnc159 := NB353_323.out
               obtain ⟨hcz160_0, hfz160_0, hcz160_1, hfz160_1⟩ := cz2 BK323
               go_wp2_with (first | ((with_reducible refine gate_callee (f := 25) rfl ?_); refine goesL_ (some 90) rfl rfl Try.func25 (by kernel_rfl) rfl #[.agg #[.slice Ao35 t337.length co35, .slice Ao40 t338.length co40], .int .i64 1] rfl tM ?_; (with_reducible refine (laws_heldMobile.calls kj107 _ _ t337 _ _ t338 1 t355 _ ?side1 ?side2 ?side3 ?side4 A154.out).mono ?_); (case side1 => exact tC (Kd.R_reads' HO_324000.out).2.2); (case side2 => exact (Kd.R_reads' HO_324000.out).2.1); (case side3 => exact tC (Kd.R_reads' HO_324001.out).2.2); (case side4 => exact (Kd.R_reads' HO_324001.out).2.1); rintro e w161 ⟨rfl, hb⟩; refine ⟨_, rfl, ?_⟩; replace HO_309000 := Aside0.mk (Kd.R_below (tR HO_309000.out) hb); replace HO_309001 := Aside0.mk (Kd.R_below (tR HO_309001.out) hb); replace HO_316000 := Aside0.mk (Kd.R_below (tR HO_316000.out) hb); replace HO_316001 := Aside0.mk (Kd.R_below (tR HO_316001.out) hb); replace HO_324000 := Aside0.mk (Kd.R_below (tR HO_324000.out) hb); replace HO_324001 := Aside0.mk (Kd.R_below (tR HO_324001.out) hb); replace HO_354000 := Aside0.mk (Kd.R_below (tR HO_354000.out) hb); replace HO_354001 := Aside0.mk (Kd.R_below (tR HO_354001.out) hb); replace BK293 := bkB BK293 hb; replace BK308 := bkB BK308 hb; replace BK315 := bkB BK315 hb; replace BK323 := bkB BK323 hb; replace BK353 := bkB BK353 hb; replace HB := Aside0.mk (below_step (tB HB.out) hb); (try clear hb); (try clear hb2); (try clear hk); (try clear hi)))
               go_ret
               exact ⟨by first | rfl | (simp [errW_none, errW_some] <;> rfl) | (simp [*, errW_none, errW_some] <;> rfl), tB HB.out⟩
              ·
               rw [if_neg c155] at H
               have c155b0 : decide (t355 < 0) = false := decide_eq_false c155
               clear c155
               by_cases c162 : t355 = t336
               ·
                rw [if_pos c162] at H
                have c162b0 : (t355 == t336) = true := beq_iff_eq.mpr c162
                have c162b1 : (t355 != t336) = false := bne_eq_false_iff_eq.mpr c162
                clear c162
                obtain rfl := Option.some.inj H
                have hnb163 := NB323_293.out
                have hnc163 := NB293_323.out
                have hnb164 := NB323_308.out
                have hnc164 := NB308_323.out
                have hnb165 := NB323_315.out
                have hnc165 := NB315_323.out
                have hnb166 := NB323_353.out
                have hnc166 := NB353_323.out
                obtain ⟨hcz167_0, hfz167_0, hcz167_1, hfz167_1⟩ := cz2 BK323
                go_wp2_with (first | ((with_reducible refine gate_callee (f := 25) rfl ?_); refine goesL_ (some 90) rfl rfl Try.func25 (by kernel_rfl) rfl #[.agg #[.slice Ao35 t337.length co35, .slice Ao40 t338.length co40], .int .i64 1] rfl tM ?_; (with_reducible refine (laws_heldMobile.calls kj107 _ _ t337 _ _ t338 1 t355 _ ?side1 ?side2 ?side3 ?side4 A154.out).mono ?_); (case side1 => exact tC (Kd.R_reads' HO_324000.out).2.2); (case side2 => exact (Kd.R_reads' HO_324000.out).2.1); (case side3 => exact tC (Kd.R_reads' HO_324001.out).2.2); (case side4 => exact (Kd.R_reads' HO_324001.out).2.1); rintro e w168 ⟨rfl, hb⟩; refine ⟨_, rfl, ?_⟩; replace HO_309000 := Aside0.mk (Kd.R_below (tR HO_309000.out) hb); replace HO_309001 := Aside0.mk (Kd.R_below (tR HO_309001.out) hb); replace HO_316000 := Aside0.mk (Kd.R_below (tR HO_316000.out) hb); replace HO_316001 := Aside0.mk (Kd.R_below (tR HO_316001.out) hb); replace HO_324000 := Aside0.mk (Kd.R_below (tR HO_324000.out) hb); replace HO_324001 := Aside0.mk (Kd.R_below (tR HO_324001.out) hb); replace HO_354000 := Aside0.mk (Kd.R_below (tR HO_354000.out) hb); replace HO_354001 := Aside0.mk (Kd.R_below (tR HO_354001.out) hb); replace BK293 := bkB BK293 hb; replace BK308 := bkB BK308 hb; replace BK315 := bkB BK315 hb; replace BK323 := bkB BK323 hb; replace BK353 := bkB BK353 hb; replace HB := Aside0.mk (below_step (tB HB.out) hb); (try clear hb); (try clear hb2); (try clear hk); (try clear hi)))
                go_ret
                exact ⟨by first | rfl | (simp [errW_none, errW_some] <;> rfl) | (simp [*, errW_none, errW_some] <;> rfl), tB HB.out⟩
               ·
                rw [if_neg c162] at H
                have c162b0 : (t355 == t336) = false := beq_eq_false_iff_ne.mpr c162
                have c162b1 : (t355 != t336) = true := bne_iff_ne.mpr c162
                obtain rfl := Option.some.inj H
                have hnb169 := NB323_293.out
                have hnc169 := NB293_323.out
                have hnb170 := NB323_308.out
                have hnc170 := NB308_323.out
                have hnb171 := NB323_315.out
                have hnc171 := NB315_323.out
                have hnb172 := NB323_353.out
                have hnc172 := NB353_323.out
                obtain ⟨hcz173_0, hfz173_0, hcz173_1, hfz173_1⟩ := cz2 BK323
                go_wp2_with (first | ((with_reducible refine gate_callee (f := 25) rfl ?_); refine goesL_ (some 90) rfl rfl Try.func25 (by kernel_rfl) rfl #[.agg #[.slice Ao35 t337.length co35, .slice Ao40 t338.length co40], .int .i64 1] rfl tM ?_; (with_reducible refine (laws_heldMobile.calls kj107 _ _ t337 _ _ t338 1 t355 _ ?side1 ?side2 ?side3 ?side4 A154.out).mono ?_); (case side1 => exact tC (Kd.R_reads' HO_324000.out).2.2); (case side2 => exact (Kd.R_reads' HO_324000.out).2.1); (case side3 => exact tC (Kd.R_reads' HO_324001.out).2.2); (case side4 => exact (Kd.R_reads' HO_324001.out).2.1); rintro e w174 ⟨rfl, hb⟩; refine ⟨_, rfl, ?_⟩; replace HO_309000 := Aside0.mk (Kd.R_below (tR HO_309000.out) hb); replace HO_309001 := Aside0.mk (Kd.R_below (tR HO_309001.out) hb); replace HO_316000 := Aside0.mk (Kd.R_below (tR HO_316000.out) hb); replace HO_316001 := Aside0.mk (Kd.R_below (tR HO_316001.out) hb); replace HO_324000 := Aside0.mk (Kd.R_below (tR HO_324000.out) hb); replace HO_324001 := Aside0.mk (Kd.R_below (tR HO_324001.out) hb); replace HO_354000 := Aside0.mk (Kd.R_below (tR HO_354000.out) hb); replace HO_354001 := Aside0.mk (Kd.R_below (tR HO_354001.out) hb); replace BK293 := bkB BK293 hb; replace BK308 := bkB BK308 hb; replace BK315 := bkB BK315 hb; replace BK323 := bkB BK323 hb; replace BK353 := bkB BK353 hb; replace HB := Aside0.mk (below_step (tB HB.out) hb); (try clear hb); (try clear hb2); (try clear hk); (try clear hi)))
                go_ret
                exact ⟨by first | rfl | (simp [errW_none, errW_some] <;> rfl) | (simp [*, errW_none, errW_some] <;> rfl), tB HB.out⟩
          ·
           rw [if_neg c105] at H
           have c105b0 : (t339 == t336) = false := beq_eq_false_iff_ne.mpr c105
           have c105b1 : (t339 != t336) = true := bne_iff_ne.mpr c105
           obtain rfl := Option.some.inj H
           have hnb175 := NB323_293.out
           have hnc175 := NB293_323.out
           have hnb176 := NB323_308.out
           have hnc176 := NB308_323.out
           have hnb177 := NB323_315.out
           have hnc177 := NB315_323.out
           obtain ⟨hcz178_0, hfz178_0, hcz178_1, hfz178_1⟩ := cz2 BK323
           go_wp2_with (first | ((with_reducible refine gate_callee (f := 24) rfl ?_); refine goesL_ (some 64) rfl rfl Try.func24 (by kernel_rfl) rfl #[.agg #[.slice Ao35 t316.length co35, .slice Ao40 t319.length co40], .int .i64 1] rfl tM ?_; (with_reducible refine (laws_markMobile.calls kj63 (fun k_ => some k_ = (.slice Ao35 t316.length co35 : Value).ownBlock) (.slice Ao35 t316.length co35) t316 (fun k_ => some k_ = (.slice Ao40 t319.length co40 : Value).ownBlock) (.slice Ao40 t319.length co40) t319 1 t336 t337 t338 w _ ?side1 ?side2 ?side3 ?side4 ?side5 A95.out).mono ?_); (case side1 => repeat (first | (with_reducible first | exact HB.out | apply below_alloc | apply pw_below_drewN | apply below_drew1 | refine below_set ?_ GE293.out | refine below_set ?_ GE308.out | refine below_set ?_ GE315.out | refine below_set ?_ GE323.out) | exact HB.out)); (case side2 => exact Kd.R_tight rfl HO_324000.out); (case side3 => exact fun k_ e_ => (HO_324000.out.1 k_ e_.symm).2.2.2.2); (case side4 => exact Kd.R_tight rfl HO_324001.out); (case side5 => exact fun k_ e_ => (HO_324001.out.1 k_ e_.symm).2.2.2.2); rintro e w179 ⟨rfl, hy0, hy1, hb, hkp⟩; refine ⟨_, rfl, ?_⟩; replace HO_309000 := Aside0.mk (Kd.R_mono (ok' := fun k_ => some k_ ≠ (.slice Ao24 t304.length co24 : Value).ownBlock ∧ some k_ ≠ (.slice Ao28 t333.length co28 : Value).ownBlock ∧ some k_ ≠ (.slice Ao32 t334.length co32 : Value).ownBlock ∧ some k_ ≠ (.slice Ao35 t316.length co35 : Value).ownBlock ∧ some k_ ≠ (.slice Ao40 t319.length co40 : Value).ownBlock) (Kd.R_keptB (HO_309000.out) hkp (fun k_ hk_ hs_ => Or.elim hs_ (fun e_ => (hk_.2.2.2.1) e_) (fun e_ => (hk_.2.2.2.2) e_))) (fun k_ hk_ => ⟨hk_.1.1, hk_.1.2.1, hk_.1.2.2.1, hk_.1.2.2.2.1, hk_.1.2.2.2.2⟩)); replace HO_309001 := Aside0.mk (Kd.R_mono (ok' := fun k_ => some k_ ≠ (.slice Ao21 t301.length co21 : Value).ownBlock ∧ some k_ ≠ (.slice Ao28 t333.length co28 : Value).ownBlock ∧ some k_ ≠ (.slice Ao32 t334.length co32 : Value).ownBlock ∧ some k_ ≠ (.slice Ao35 t316.length co35 : Value).ownBlock ∧ some k_ ≠ (.slice Ao40 t319.length co40 : Value).ownBlock) (Kd.R_keptB (HO_309001.out) hkp (fun k_ hk_ hs_ => Or.elim hs_ (fun e_ => (hk_.2.2.2.1) e_) (fun e_ => (hk_.2.2.2.2) e_))) (fun k_ hk_ => ⟨hk_.1.1, hk_.1.2.1, hk_.1.2.2.1, hk_.1.2.2.2.1, hk_.1.2.2.2.2⟩)); replace HO_316000 := Aside0.mk (Kd.R_mono (ok' := fun k_ => some k_ ≠ (.slice Ao21 t301.length co21 : Value).ownBlock ∧ some k_ ≠ (.slice Ao24 t304.length co24 : Value).ownBlock ∧ some k_ ≠ (.slice Ao32 t334.length co32 : Value).ownBlock ∧ some k_ ≠ (.slice Ao35 t316.length co35 : Value).ownBlock ∧ some k_ ≠ (.slice Ao40 t319.length co40 : Value).ownBlock) (Kd.R_keptB (HO_316000.out) hkp (fun k_ hk_ hs_ => Or.elim hs_ (fun e_ => (hk_.2.2.2.1) e_) (fun e_ => (hk_.2.2.2.2) e_))) (fun k_ hk_ => ⟨hk_.1.1, hk_.1.2.1, hk_.1.2.2.1, hk_.1.2.2.2.1, hk_.1.2.2.2.2⟩)); replace HO_316001 := Aside0.mk (Kd.R_mono (ok' := fun k_ => some k_ ≠ (.slice Ao21 t301.length co21 : Value).ownBlock ∧ some k_ ≠ (.slice Ao24 t304.length co24 : Value).ownBlock ∧ some k_ ≠ (.slice Ao28 t333.length co28 : Value).ownBlock ∧ some k_ ≠ (.slice Ao35 t316.length co35 : Value).ownBlock ∧ some k_ ≠ (.slice Ao40 t319.length co40 : Value).ownBlock) (Kd.R_keptB (HO_316001.out) hkp (fun k_ hk_ hs_ => Or.elim hs_ (fun e_ => (hk_.2.2.2.1) e_) (fun e_ => (hk_.2.2.2.2) e_))) (fun k_ hk_ => ⟨hk_.1.1, hk_.1.2.1, hk_.1.2.2.1, hk_.1.2.2.2.1, hk_.1.2.2.2.2⟩)); replace BK293 := Aside0.mk (blk_kept (tK BK293.out) hkp (fun hs_ => Or.elim hs_ (fun e_ => (fun e_ => (Kd.R_ne HO_324000.out BK293.out (by decide)) e_) e_) (fun e_ => (fun e_ => (Kd.R_ne HO_324001.out BK293.out (by decide)) e_) e_))); replace BK308 := Aside0.mk (blk_kept (tK BK308.out) hkp (fun hs_ => Or.elim hs_ (fun e_ => (fun e_ => (Kd.R_ne HO_324000.out BK308.out (by decide)) e_) e_) (fun e_ => (fun e_ => (Kd.R_ne HO_324001.out BK308.out (by decide)) e_) e_))); replace BK315 := Aside0.mk (blk_kept (tK BK315.out) hkp (fun hs_ => Or.elim hs_ (fun e_ => (fun e_ => (Kd.R_ne HO_324000.out BK315.out (by decide)) e_) e_) (fun e_ => (fun e_ => (Kd.R_ne HO_324001.out BK315.out (by decide)) e_) e_))); replace BK323 := Aside0.mk (blk_kept (tK BK323.out) hkp (fun hs_ => Or.elim hs_ (fun e_ => (fun e_ => (Kd.R_ne HO_324000.out BK323.out (by decide)) e_) e_) (fun e_ => (fun e_ => (Kd.R_ne HO_324001.out BK323.out (by decide)) e_) e_))); replace HO_324000 := Aside0.mk (Kd.R_reok rfl hy0 (fun k_ e_ => HO_324000.out.1 k_ e_)); replace HO_324001 := Aside0.mk (Kd.R_reok rfl hy1 (fun k_ e_ => HO_324001.out.1 k_ e_)); replace HB := Aside0.mk (hb); (try clear hb); (try clear hkp); (try clear hy0); (try clear hy1); obtain ⟨hcz180_0, hfz180_0, hcz180_1, hfz180_1⟩ := cz2 BK323) | ((with_reducible refine gate_callee (f := 25) rfl ?_); refine goesL_ (some 67) rfl rfl Try.func25 (by kernel_rfl) rfl #[.agg #[.slice Ao35 t337.length co35, .slice Ao40 t338.length co40], .int .i64 1] rfl (by (try simp only [List.map_toArray, List.map_cons, List.map_nil]); first | done | (rw [show t337.length = t316.length from (Kd.R_reads' HO_324000.out).1.symm, show t338.length = t319.length from (Kd.R_reads' HO_324001.out).1.symm] <;> rfl) | rfl | (simp only [List.length_drop, List.length_take]; rfl)) ?_; (with_reducible refine (laws_heldMobile.calls kj63 _ _ t337 _ _ t338 1 t339 _ ?side1 ?side2 ?side3 ?side4 A96.out).mono ?_); (case side1 => exact tC (Kd.R_reads' HO_324000.out).2.2); (case side2 => rw [show t337.length = t316.length from (Kd.R_reads' HO_324000.out).1.symm]; exact (Kd.R_reads' HO_324000.out).2.1); (case side3 => exact tC (Kd.R_reads' HO_324001.out).2.2); (case side4 => rw [show t338.length = t319.length from (Kd.R_reads' HO_324001.out).1.symm]; exact (Kd.R_reads' HO_324001.out).2.1); rintro e w181 ⟨rfl, hb⟩; refine ⟨_, rfl, ?_⟩; replace HO_309000 := Aside0.mk (Kd.R_below (tR HO_309000.out) hb); replace HO_309001 := Aside0.mk (Kd.R_below (tR HO_309001.out) hb); replace HO_316000 := Aside0.mk (Kd.R_below (tR HO_316000.out) hb); replace HO_316001 := Aside0.mk (Kd.R_below (tR HO_316001.out) hb); replace HO_324000 := Aside0.mk (Kd.R_below (tR HO_324000.out) hb); replace HO_324001 := Aside0.mk (Kd.R_below (tR HO_324001.out) hb); replace BK293 := bkB BK293 hb; replace BK308 := bkB BK308 hb; replace BK315 := bkB BK315 hb; replace BK323 := bkB BK323 hb; replace HB := Aside0.mk (below_step (tB HB.out) hb); (try clear hb); (try clear hb2); (try clear hk); (try clear hi)))
           go_ret
           exact ⟨by first | rfl | (simp [errW_none, errW_some] <;> rfl) | (simp [*, errW_none, errW_some] <;> rfl), tB HB.out⟩
     ·
      replace c62 := Bool.eq_false_iff.mpr c62
      subst c62
      have H1 : (some false) = some r := by rw [if_neg (show ¬ (false = true) by decide)] at H; exact H
      clear H
      have H := H1
      clear H1
      obtain rfl := Option.some.inj H
      try go_wp2
      replace HO_309000 := Aside0.mk (Kd.R_drew HO_309000.out)
      replace HO_309001 := Aside0.mk (Kd.R_drew HO_309001.out)
      replace HO_316000 := Aside0.mk (Kd.R_drew HO_316000.out)
      replace HO_316001 := Aside0.mk (Kd.R_drew HO_316001.out)
      replace HO_324000 := Aside0.mk (Kd.R_drew HO_324000.out)
      replace HO_324001 := Aside0.mk (Kd.R_drew HO_324001.out)
      replace BK293 := Aside0.mk (blk_drew BK293.out)
      replace BK308 := Aside0.mk (blk_drew BK308.out)
      replace BK315 := Aside0.mk (blk_drew BK315.out)
      replace BK323 := Aside0.mk (blk_drew BK323.out)
      replace HB := Aside0.mk (below_drew1 HB.out)
      refine start_ (n := 5) (S := fun w' => w'.cell? ⟨gb315, 0, none⟩ = some (.slice Ao28 t309.length co28) ∧ w'.cell? ⟨gb315, 1, none⟩ = some (.slice Ao32 t312.length co32) ∧ w'.cell? ⟨gb293, 0, none⟩ = some (.slice A0_0 l0_0.length c0_0) ∧ w'.cell? ⟨gb293, 1, none⟩ = some (.slice A0_1 l0_1.length c0_1)) (ds := []) #[false, false, false, false, false] (by kernel_rfl) rfl rfl ⟨(blk_cell BK315.out 0).trans rfl, (blk_cell BK315.out 1).trans rfl, (blk_cell BK293.out 0).trans rfl, (blk_cell BK293.out 1).trans rfl⟩ (fun hHeld => ?_)
      generalize wc.drew = w182 at HO_309000 HO_309001 HO_316000 HO_316001 HO_324000 HO_324001 BK293 BK308 BK315 BK323 HB hHeld ⊢
      refine take_ (i := 0) (N := some 41) (v := ?_) (a' := ?_) #[true, false, false, false, false] rfl rfl (by kernel_rfl) (fun _ _ _ h => h) (Or.inl ⟨by rfl, ?_⟩) hHeld ?_ ?_
      rotate_left
      ·
       rintro w' ⟨s0, s1, s2, s3⟩
       go_simp
       with_reducible rfl
      rotate_left
      ·
       simp only [Act.put, List.setIfInBounds_toArray, List.set_cons_zero, List.set_cons_succ, i64_w, i32_w]
       rfl
      refine take_ (i := 1) (N := some 42) (v := ?_) (a' := ?_) #[true, true, false, false, false] rfl rfl (by kernel_rfl) (fun _ _ _ h => h) (Or.inl ⟨by rfl, ?_⟩) hHeld ?_ ?_
      rotate_left
      ·
       rintro w' ⟨s0, s1, s2, s3⟩
       go_simp
       with_reducible rfl
      rotate_left
      ·
       simp only [Act.put, List.setIfInBounds_toArray, List.set_cons_zero, List.set_cons_succ, i64_w, i32_w]
       rfl
      refine one_ (i := 2) (N := some 43) #[true, true, true, false, false] rfl rfl (by kernel_rfl) (by decide) (fun K hK => ?_)
      refine goes_ Try.func17 (by kernel_rfl) rfl #[.agg #[.slice A0_0 l0_0.length c0_0, .slice A0_1 l0_1.length c0_1]] (by rfl) rfl rfl tM ?_
      with_reducible refine (laws_toMobile.calls kj10 _ _ l0_0 _ _ l0_1 t325 t328 _ ?side1 ?side2 ?side3 ?side4 A60.out).mono ?_
      (case side1 => exact tC (Kd.C_below HR0_0.out HB.out))
      (case side2 => exact HC0_0.out)
      (case side3 => exact tC (Kd.C_below HR0_1.out HB.out))
      (case side4 => exact HC0_1.out)
      rintro e w183 ⟨v326, v329, rfl, ho0, ho1, hb⟩
      refine ⟨_, rfl, ?_⟩
      have HO327 := Aside0.mk (Kd.R_lower (Kd.R_new' (Kd.R_new' (Kd.R_new' (Kd.R_new' (Kd.R_new' (Kd.R_new' ho0 (Kd.R_lt (tR HO_309000.out))) (Kd.R_lt (tR HO_309001.out))) (Kd.R_lt (tR HO_316000.out))) (Kd.R_lt (tR HO_316001.out))) (Kd.R_lt (tR HO_324000.out))) (Kd.R_lt (tR HO_324001.out))) (below_size (tB HB.out)))
      have HO330 := Aside0.mk (Kd.R_lower (Kd.R_new' (Kd.R_new' (Kd.R_new' (Kd.R_new' (Kd.R_new' (Kd.R_new' ho1 (Kd.R_lt (tR HO_309000.out))) (Kd.R_lt (tR HO_309001.out))) (Kd.R_lt (tR HO_316000.out))) (Kd.R_lt (tR HO_316001.out))) (Kd.R_lt (tR HO_324000.out))) (Kd.R_lt (tR HO_324001.out))) (below_size (tB HB.out)))
      replace HO_309000 := Aside0.mk (Kd.R_mono (Kd.R_told (Kd.R_told (Kd.R_old (tR HO_309000.out) hb) (Kd.R_base ho0)) (Kd.R_base ho1)) (fun _ h_ => h_.1))
      replace HO_309001 := Aside0.mk (Kd.R_mono (Kd.R_told (Kd.R_told (Kd.R_old (tR HO_309001.out) hb) (Kd.R_base ho0)) (Kd.R_base ho1)) (fun _ h_ => h_.1))
      replace HO_316000 := Aside0.mk (Kd.R_mono (Kd.R_told (Kd.R_told (Kd.R_old (tR HO_316000.out) hb) (Kd.R_base ho0)) (Kd.R_base ho1)) (fun _ h_ => h_.1))
      replace HO_316001 := Aside0.mk (Kd.R_mono (Kd.R_told (Kd.R_told (Kd.R_old (tR HO_316001.out) hb) (Kd.R_base ho0)) (Kd.R_base ho1)) (fun _ h_ => h_.1))
      replace HO_324000 := Aside0.mk (Kd.R_mono (Kd.R_told (Kd.R_told (Kd.R_old (tR HO_324000.out) hb) (Kd.R_base ho0)) (Kd.R_base ho1)) (fun _ h_ => h_.1))
      replace HO_324001 := Aside0.mk (Kd.R_mono (Kd.R_told (Kd.R_told (Kd.R_old (tR HO_324001.out) hb) (Kd.R_base ho0)) (Kd.R_base ho1)) (fun _ h_ => h_.1))
      replace BK293 := bkB BK293 hb
      replace BK308 := bkB BK308 hb
      replace BK315 := bkB BK315 hb
      replace BK323 := bkB BK323 hb
      replace HB := Aside0.mk (below_step (tB HB.out) hb)
      (try clear hb)
      (try clear hb2)
      (try clear hk)
      (try clear hi)
      (try clear ho0)
      (try clear ho1)
      obtain ⟨Ao184, co184, eo184⟩ := Kd.R_slice HO327.out
      (first | subst eo184 | (injection eo184 with f1_ f2_ f3_; have f4_ := f1_.symm; have f5_ := f3_.symm; clear f1_ f2_ f3_; subst f4_; subst f5_))
      obtain ⟨Ao185, co185, eo185⟩ := Kd.R_slice HO330.out
      (first | subst eo185 | (injection eo185 with f1_ f2_ f3_; have f4_ := f1_.symm; have f5_ := f3_.symm; clear f1_ f2_ f3_; subst f4_; subst f5_))
      refine hK.out _ _ ⟨(blk_cell BK315.out 0).trans rfl, (blk_cell BK315.out 1).trans rfl, (blk_cell BK293.out 0).trans rfl, (blk_cell BK293.out 1).trans rfl⟩ (fun hHeld => ?_)
      clear hK K
      refine norm_ (a' := ?_) ?_ ?_
      rotate_left
      ·
       show Act.put _ (some 43) _ = _
       simp only [Act.put, List.setIfInBounds_toArray, List.set_cons_zero, List.set_cons_succ, i64_w, i32_w]
       rfl
      refine one_ (i := 3) (N := some 44) #[true, true, true, true, false] rfl rfl (by kernel_rfl) (by decide) (fun K hK => ?_)
      refine goes_ Try.func19 (by kernel_rfl) rfl #[.agg #[.slice Ao28 t309.length co28, .slice Ao32 t312.length co32], .agg #[.slice Ao184 t325.length co184, .slice Ao185 t328.length co185]] (by rfl) rfl rfl tM ?_
      with_reducible refine (laws_eqMobile.calls kj10 _ _ t309 _ _ t312 _ _ t325 _ _ t328 false _ ?side1 ?side2 ?side3 ?side4 ?side5 ?side6 ?side7 ?side8 A61.out).mono ?_
      (case side1 => exact tC (Kd.R_reads' HO_316000.out).2.2)
      (case side2 => exact (Kd.R_reads' HO_316000.out).2.1)
      (case side3 => exact tC (Kd.R_reads' HO_316001.out).2.2)
      (case side4 => exact (Kd.R_reads' HO_316001.out).2.1)
      (case side5 => exact tC (Kd.R_reads' HO327.out).2.2)
      (case side6 => exact (Kd.R_reads' HO327.out).2.1)
      (case side7 => exact tC (Kd.R_reads' HO330.out).2.2)
      (case side8 => exact (Kd.R_reads' HO330.out).2.1)
      rintro e w186 ⟨rfl, hb⟩
      refine ⟨_, rfl, ?_⟩
      replace HO_309000 := Aside0.mk (Kd.R_below (tR HO_309000.out) hb)
      replace HO_309001 := Aside0.mk (Kd.R_below (tR HO_309001.out) hb)
      replace HO_316000 := Aside0.mk (Kd.R_below (tR HO_316000.out) hb)
      replace HO_316001 := Aside0.mk (Kd.R_below (tR HO_316001.out) hb)
      replace HO_324000 := Aside0.mk (Kd.R_below (tR HO_324000.out) hb)
      replace HO_324001 := Aside0.mk (Kd.R_below (tR HO_324001.out) hb)
      replace HO327 := Aside0.mk (Kd.R_below (tR HO327.out) hb)
      replace HO330 := Aside0.mk (Kd.R_below (tR HO330.out) hb)
      replace BK293 := bkB BK293 hb
      replace BK308 := bkB BK308 hb
      replace BK315 := bkB BK315 hb
      replace BK323 := bkB BK323 hb
      replace HB := Aside0.mk (below_step (tB HB.out) hb)
      (try clear hb)
      (try clear hb2)
      (try clear hk)
      (try clear hi)
      refine hK.out _ _ ⟨(blk_cell BK315.out 0).trans rfl, (blk_cell BK315.out 1).trans rfl, (blk_cell BK293.out 0).trans rfl, (blk_cell BK293.out 1).trans rfl⟩ (fun hHeld => ?_)
      clear hK K
      refine norm_ (a' := ?_) ?_ ?_
      rotate_left
      ·
       show Act.put _ (some 44) _ = _
       simp only [Act.put, List.setIfInBounds_toArray, List.set_cons_zero, List.set_cons_succ, i64_w, i32_w]
       rfl
      refine pure_ (i := 4) (N := some 45) (v := ?_) (a' := ?_) #[true, true, true, true, true] rfl rfl (by kernel_rfl) (fun _ _ _ h => h) (Or.inl ⟨by rfl, ?_⟩) ?_ ?_
      rotate_left
      ·
       intro w'
       go_simp
       with_reducible rfl
      rotate_left
      ·
       simp only [Act.put, List.setIfInBounds_toArray, List.set_cons_zero, List.set_cons_succ, i64_w, i32_w]
       rfl
      refine done_ (by kernel_rfl) ?_
      try go_wp2
      go_ret
      exact ⟨by first | rfl | (simp [errW_none, errW_some] <;> rfl) | (simp [*, errW_none, errW_some] <;> rfl), tB HB.out⟩

end Go.Proofs.Ytbdajkfihbaapaa.PFnExactLevelArms

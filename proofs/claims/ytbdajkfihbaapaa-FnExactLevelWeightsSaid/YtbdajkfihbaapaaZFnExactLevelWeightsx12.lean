/- Printed by the program print2.py over the translation: each function as a Lean function, and the proof that the call comes to its answer. -/
import Derived.Test.YtbdajkfihbaapaaZFnExactLevelWeightsx0
import Derived.Test.YtbdajkfihbaapaaZFnExactLevelWeightsx1
import Derived.Test.YtbdajkfihbaapaaZFnExactLevelWeightsx2
import Derived.Test.YtbdajkfihbaapaaZFnExactLevelWeightsx6
import Derived.Test.YtbdajkfihbaapaaZFnExactLevelWeightsx11
namespace Go.Proofs.Ytbdajkfihbaapaa.PFnExactLevelWeights
open Go.RowKit Go.Proofs.YtbdajkfihbaapaaW.PrintWords Go.Proofs.YtbdajkfihbaapaaW.PrintLast Go.Proofs.YtbdajkfihbaapaaW.PrintMore
attribute [local go_sem] max2_int min2_int max_two min_two max_three min_three max_four min_four   -- for this text's walks alone
set_option linter.unusedVariables false
set_option linter.unusedSimpArgs false

/-! ### laws_FnExactLevelWeights: function 14 -/
mutual
def laws_FnExactLevelWeights.j0 : Nat → List Int → Bool → List Int → Bool → Bool → List (S58) → List (S58) → List (S58) → List (S58) → Option (Bool)
 | 0, _, _, _, _, _, _, _, _, _ => none
 | k + 1, x4, x5, x7, x8, x40, x299000, x299001, x317000, x317001 => if x40 = true then (some false) else ((laws_toMobile.f k x299000 x299001).bind fun bt322 => ((laws_eqMobile.f k x317000 x317001 bt322.1 bt322.2).bind fun t328 => (if t328 = true then ((laws_markMobile.f k x317000 x317001 1).bind fun bt329 => (if bt329.1 < 0 then (laws_FnExactLevelWeights.j1 k x4 x5 x7 true x299000 x299001) else ((laws_eqIntS.f k x7 x4).bind fun t332 => (if t332 = true then (laws_FnExactLevelWeights.j1 k x4 x5 x7 (x8 != x5) x299000 x299001) else (laws_FnExactLevelWeights.j1 k x4 x5 x7 true x299000 x299001))))) else (some false))))
def laws_FnExactLevelWeights.j1 : Nat → List Int → Bool → List Int → Bool → List (S58) → List (S58) → Option (Bool)
 | 0, _, _, _, _, _, _ => none
 | k + 1, x4, x5, x7, x61, x299000, x299001 => if x61 = true then (some false) else ((laws_markIntS.f k x7 1).bind fun bt333 => ((laws_heldIntS.f k bt333.2 1).bind fun t335 => (if t335 < 0 then (some false) else (if t335 = bt333.1 then ((laws_toMobile.f k x299000 x299001).bind fun bt336 => ((impl_LevelWeights.f k bt336.1 bt336.2).bind fun bt342 => ((laws_eqIntS.f k bt342.1 x4).bind fun t346 => (if t346 = true then (laws_FnExactLevelWeights.j2 k bt333.2 bt333.1 (bt342.2 != x5)) else (laws_FnExactLevelWeights.j2 k bt333.2 bt333.1 true))))) else (some false)))))
def laws_FnExactLevelWeights.j2 : Nat → List Int → Int → Bool → Option (Bool)
 | 0, _, _, _ => none
 | k + 1, x7, x10, x87 => if x87 = true then (some false) else ((laws_heldIntS.f k x7 1).bind fun t347 => (if t347 < 0 then (some false) else (if t347 = x10 then (some true) else (some false))))
end
def laws_FnExactLevelWeights.f (k : Nat) (l0_0 : List (S58)) (l0_1 : List (S58)) : Option (Bool) := (laws_szMobile.f l0_0 l0_1 1048576).bind fun t299 => (if t299 < 0 then (some true) else ((laws_toMobile.f k l0_0 l0_1).bind fun bt300 => ((spec_LevelWeights.f k bt300.1 bt300.2).bind fun bt306 => ((laws_toMobile.f k l0_0 l0_1).bind fun bt310 => ((impl_LevelWeights.f k bt310.1 bt310.2).bind fun bt317 => ((laws_eqIntS.f k bt317.1 bt306.1).bind fun t321 => (if t321 = true then (laws_FnExactLevelWeights.j0 k bt306.1 bt306.2 bt317.1 bt317.2 (bt317.2 != bt306.2) l0_0 l0_1 bt310.1 bt310.2) else (laws_FnExactLevelWeights.j0 k bt306.1 bt306.2 bt317.1 bt317.2 true l0_0 l0_1 bt310.1 bt310.2))))))))
theorem laws_FnExactLevelWeights.mono_l : ∀ k, (∀ y0 y1 y2 y3 y4 y5 y6 y7 y8, LeO (laws_FnExactLevelWeights.j0 k y0 y1 y2 y3 y4 y5 y6 y7 y8) (laws_FnExactLevelWeights.j0 (k + 1) y0 y1 y2 y3 y4 y5 y6 y7 y8)) ∧ (∀ y0 y1 y2 y3 y4 y5, LeO (laws_FnExactLevelWeights.j1 k y0 y1 y2 y3 y4 y5) (laws_FnExactLevelWeights.j1 (k + 1) y0 y1 y2 y3 y4 y5)) ∧ (∀ y0 y1 y2, LeO (laws_FnExactLevelWeights.j2 k y0 y1 y2) (laws_FnExactLevelWeights.j2 (k + 1) y0 y1 y2))
 | 0 => ⟨fun _ _ _ _ _ _ _ _ _ r h => by simp [laws_FnExactLevelWeights.j0] at h, fun _ _ _ _ _ _ r h => by simp [laws_FnExactLevelWeights.j1] at h, fun _ _ _ r h => by simp [laws_FnExactLevelWeights.j2] at h⟩
 | k + 1 => by
  obtain ⟨ih0, ih1, ih2⟩ := laws_FnExactLevelWeights.mono_l k
  refine ⟨?_, ?_, ?_⟩
  ·
   intro y0 y1 y2 y3 y4 y5 y6 y7 y8
   unfold laws_FnExactLevelWeights.j0
   repeat' first
   | (with_reducible exact ih0 _ _ _ _ _ _ _ _ _)
   | (with_reducible exact ih1 _ _ _ _ _ _)
   | (with_reducible exact ih2 _ _ _)
   | (with_reducible exact impl_LevelWeights.mono _ _ _)
   | (with_reducible exact laws_eqIntS.mono _ _ _)
   | (with_reducible exact laws_eqMobile.mono _ _ _ _ _)
   | (with_reducible exact laws_heldIntS.mono _ _ _)
   | (with_reducible exact laws_markIntS.mono _ _ _)
   | (with_reducible exact laws_markMobile.mono _ _ _ _)
   | (with_reducible exact laws_toMobile.mono _ _ _)
   | (with_reducible exact spec_LevelWeights.mono _ _ _)
   | (with_reducible exact LeO.refl _)
   | (with_reducible exact LeO.none _)
   | (with_reducible refine LeO.ite ?_ ?_)
   | (with_reducible refine LeO.bind ?_ (fun _ => ?_))
   | exact ih0 _ _ _ _ _ _ _ _ _
   | exact ih1 _ _ _ _ _ _
   | exact ih2 _ _ _
   | exact impl_LevelWeights.mono _ _ _
   | exact laws_eqIntS.mono _ _ _
   | exact laws_eqMobile.mono _ _ _ _ _
   | exact laws_heldIntS.mono _ _ _
   | exact laws_markIntS.mono _ _ _
   | exact laws_markMobile.mono _ _ _ _
   | exact laws_toMobile.mono _ _ _
   | exact spec_LevelWeights.mono _ _ _
   | exact LeO.none _
   | refine LeO.ite ?_ ?_
   | refine LeO.bind ?_ (fun _ => ?_)
  ·
   intro y0 y1 y2 y3 y4 y5
   unfold laws_FnExactLevelWeights.j1
   repeat' first
   | (with_reducible exact ih0 _ _ _ _ _ _ _ _ _)
   | (with_reducible exact ih1 _ _ _ _ _ _)
   | (with_reducible exact ih2 _ _ _)
   | (with_reducible exact impl_LevelWeights.mono _ _ _)
   | (with_reducible exact laws_eqIntS.mono _ _ _)
   | (with_reducible exact laws_eqMobile.mono _ _ _ _ _)
   | (with_reducible exact laws_heldIntS.mono _ _ _)
   | (with_reducible exact laws_markIntS.mono _ _ _)
   | (with_reducible exact laws_markMobile.mono _ _ _ _)
   | (with_reducible exact laws_toMobile.mono _ _ _)
   | (with_reducible exact spec_LevelWeights.mono _ _ _)
   | (with_reducible exact LeO.refl _)
   | (with_reducible exact LeO.none _)
   | (with_reducible refine LeO.ite ?_ ?_)
   | (with_reducible refine LeO.bind ?_ (fun _ => ?_))
   | exact ih0 _ _ _ _ _ _ _ _ _
   | exact ih1 _ _ _ _ _ _
   | exact ih2 _ _ _
   | exact impl_LevelWeights.mono _ _ _
   | exact laws_eqIntS.mono _ _ _
   | exact laws_eqMobile.mono _ _ _ _ _
   | exact laws_heldIntS.mono _ _ _
   | exact laws_markIntS.mono _ _ _
   | exact laws_markMobile.mono _ _ _ _
   | exact laws_toMobile.mono _ _ _
   | exact spec_LevelWeights.mono _ _ _
   | exact LeO.none _
   | refine LeO.ite ?_ ?_
   | refine LeO.bind ?_ (fun _ => ?_)
  ·
   intro y0 y1 y2
   unfold laws_FnExactLevelWeights.j2
   repeat' first
   | (with_reducible exact ih0 _ _ _ _ _ _ _ _ _)
   | (with_reducible exact ih1 _ _ _ _ _ _)
   | (with_reducible exact ih2 _ _ _)
   | (with_reducible exact impl_LevelWeights.mono _ _ _)
   | (with_reducible exact laws_eqIntS.mono _ _ _)
   | (with_reducible exact laws_eqMobile.mono _ _ _ _ _)
   | (with_reducible exact laws_heldIntS.mono _ _ _)
   | (with_reducible exact laws_markIntS.mono _ _ _)
   | (with_reducible exact laws_markMobile.mono _ _ _ _)
   | (with_reducible exact laws_toMobile.mono _ _ _)
   | (with_reducible exact spec_LevelWeights.mono _ _ _)
   | (with_reducible exact LeO.refl _)
   | (with_reducible exact LeO.none _)
   | (with_reducible refine LeO.ite ?_ ?_)
   | (with_reducible refine LeO.bind ?_ (fun _ => ?_))
   | exact ih0 _ _ _ _ _ _ _ _ _
   | exact ih1 _ _ _ _ _ _
   | exact ih2 _ _ _
   | exact impl_LevelWeights.mono _ _ _
   | exact laws_eqIntS.mono _ _ _
   | exact laws_eqMobile.mono _ _ _ _ _
   | exact laws_heldIntS.mono _ _ _
   | exact laws_markIntS.mono _ _ _
   | exact laws_markMobile.mono _ _ _ _
   | exact laws_toMobile.mono _ _ _
   | exact spec_LevelWeights.mono _ _ _
   | exact LeO.none _
   | refine LeO.ite ?_ ?_
   | refine LeO.bind ?_ (fun _ => ?_)
theorem laws_FnExactLevelWeights.mono : ∀ a0 a1 k, LeO (laws_FnExactLevelWeights.f k a0 a1) (laws_FnExactLevelWeights.f (k + 1) a0 a1) := by
 intro a0 a1 k
 obtain ⟨ih0, ih1, ih2⟩ := laws_FnExactLevelWeights.mono_l k
 unfold laws_FnExactLevelWeights.f
 repeat' first
   | (with_reducible exact ih0 _ _ _ _ _ _ _ _ _)
   | (with_reducible exact ih1 _ _ _ _ _ _)
   | (with_reducible exact ih2 _ _ _)
   | (with_reducible exact impl_LevelWeights.mono _ _ _)
   | (with_reducible exact laws_eqIntS.mono _ _ _)
   | (with_reducible exact laws_eqMobile.mono _ _ _ _ _)
   | (with_reducible exact laws_heldIntS.mono _ _ _)
   | (with_reducible exact laws_markIntS.mono _ _ _)
   | (with_reducible exact laws_markMobile.mono _ _ _ _)
   | (with_reducible exact laws_toMobile.mono _ _ _)
   | (with_reducible exact spec_LevelWeights.mono _ _ _)
   | (with_reducible exact LeO.refl _)
   | (with_reducible exact LeO.none _)
   | (with_reducible refine LeO.ite ?_ ?_)
   | (with_reducible refine LeO.bind ?_ (fun _ => ?_))
   | exact ih0 _ _ _ _ _ _ _ _ _
   | exact ih1 _ _ _ _ _ _
   | exact ih2 _ _ _
   | exact impl_LevelWeights.mono _ _ _
   | exact laws_eqIntS.mono _ _ _
   | exact laws_eqMobile.mono _ _ _ _ _
   | exact laws_heldIntS.mono _ _ _
   | exact laws_markIntS.mono _ _ _
   | exact laws_markMobile.mono _ _ _ _
   | exact laws_toMobile.mono _ _ _
   | exact spec_LevelWeights.mono _ _ _
   | exact LeO.none _
   | refine LeO.ite ?_ ?_
   | refine LeO.bind ?_ (fun _ => ?_)
set_option maxHeartbeats 8000000 in
set_option maxRecDepth 100000 in
theorem laws_FnExactLevelWeights.calls (k : Nat) (A0_0 : Option Addr) (c0_0 : Nat) (l0_0 : List (S58)) (A0_1 : Option Addr) (c0_1 : Nat) (l0_1 : List (S58)) (r : Bool) (w : World) (hr0_0 : Kd.C k58 w A0_0 l0_0.length l0_0) (hc0_0 : l0_0.length ≤ c0_0) (hr0_1 : Kd.C k58 w A0_1 l0_1.length l0_1) (hc0_1 : l0_1.length ≤ c0_1) (h : laws_FnExactLevelWeights.f k l0_0 l0_1 = some r) :
  Calls Try.prog 14 #[.agg #[.slice A0_0 l0_0.length c0_0, .slice A0_1 l0_1.length c0_1]] w fun e w' => e = .returned (.bool r) ∧ Below w.heap.size w w' := by
 have hu24 := Try.underlying24
 have hu27 := Try.underlying27
 have HR0_0 := Aside0.mk hr0_0
 have HC0_0 := Aside0.mk hc0_0
 clear hr0_0 hc0_0
 have HR0_1 := Aside0.mk hr0_1
 have HC0_1 := Aside0.mk hc0_1
 clear hr0_1 hc0_1
 have HB := Aside0.mk (Below.refl w.heap.size w)
 have H : ((laws_szMobile.f l0_0 l0_1 1048576).bind fun t299 => (if t299 < 0 then (some true) else ((laws_toMobile.f k l0_0 l0_1).bind fun bt300 => ((spec_LevelWeights.f k bt300.1 bt300.2).bind fun bt306 => ((laws_toMobile.f k l0_0 l0_1).bind fun bt310 => ((impl_LevelWeights.f k bt310.1 bt310.2).bind fun bt317 => ((laws_eqIntS.f k bt317.1 bt306.1).bind fun t321 => (if t321 = true then (laws_FnExactLevelWeights.j0 k bt306.1 bt306.2 bt317.1 bt317.2 (bt317.2 != bt306.2) l0_0 l0_1 bt310.1 bt310.2) else (laws_FnExactLevelWeights.j0 k bt306.1 bt306.2 bt317.1 bt317.2 true l0_0 l0_1 bt310.1 bt310.2))))))))) = some r := h
 clear h
 replace H := Option.bind_eq_some_iff.mp H
 obtain ⟨t299, A20, H⟩ := H
 replace H : (if t299 < 0 then (some true) else ((laws_toMobile.f k l0_0 l0_1).bind fun bt300 => ((spec_LevelWeights.f k bt300.1 bt300.2).bind fun bt306 => ((laws_toMobile.f k l0_0 l0_1).bind fun bt310 => ((impl_LevelWeights.f k bt310.1 bt310.2).bind fun bt317 => ((laws_eqIntS.f k bt317.1 bt306.1).bind fun t321 => (if t321 = true then (laws_FnExactLevelWeights.j0 k bt306.1 bt306.2 bt317.1 bt317.2 (bt317.2 != bt306.2) l0_0 l0_1 bt310.1 bt310.2) else (laws_FnExactLevelWeights.j0 k bt306.1 bt306.2 bt317.1 bt317.2 true l0_0 l0_1 bt310.1 bt310.2)))))))) = some r := H
 have A2 := Aside0.mk A20
 clear A20
 by_cases c3 : t299 < 0
 ·
  rw [if_pos c3] at H
  have c3b0 : decide (t299 < 0) = true := decide_eq_true c3
  clear c3
  obtain rfl := Option.some.inj H
  go_enter Try.func14, Try.ntmps14
  go_wp2_with (first | ((with_reducible refine gate_dst (N := 1) rfl ?_); refine box_event ?hg (N := 1) ?hd (cs := #[.slice A0_0 l0_0.length c0_0, .slice A0_1 l0_1.length c0_1]) (t := 24) ?hr ?_; (case hd => rfl); (case hg => rfl); (case hr => first | (go_simp; done) | (go_simp; rfl)); intro gb298 hg w4 hbox hb; have BK298 := Aside0.mk (hbox); have GW298 := Aside0.mk (bS HB.out hg); have GE298 := Aside0.mk (bS HB.out hg); replace HB := Aside0.mk (below_step (tB HB.out) hb); clear hb hbox hg; obtain ⟨hcz5_0, hfz5_0, hcz5_1, hfz5_1⟩ := cz2 BK298) | ((with_reducible refine gate_callee (f := 15) rfl ?_); refine goesL_ (some 16) rfl rfl Try.func15 (by kernel_rfl) rfl #[.agg #[.slice A0_0 l0_0.length c0_0, .slice A0_1 l0_1.length c0_1], .int .i64 1048576] rfl tM ?_; (with_reducible refine (laws_szMobile.calls _ _ l0_0 _ _ l0_1 1048576 t299 _ ?side1 ?side2 ?side3 ?side4 A2.out).mono ?_); (case side1 => exact tC (Kd.C_below HR0_0.out HB.out)); (case side2 => exact HC0_0.out); (case side3 => exact tC (Kd.C_below HR0_1.out HB.out)); (case side4 => exact HC0_1.out); rintro e w6 ⟨rfl, hb⟩; refine ⟨_, rfl, ?_⟩; replace BK298 := bkB BK298 hb; replace HB := Aside0.mk (below_step (tB HB.out) hb); (try clear hb); (try clear hb2); (try clear hk); (try clear hi)))
  go_ret
  exact ⟨by first | rfl | (simp [errW_none, errW_some] <;> rfl) | (simp [*, errW_none, errW_some] <;> rfl), tB HB.out⟩
 ·
  rw [if_neg c3] at H
  have c3b0 : decide (t299 < 0) = false := decide_eq_false c3
  clear c3
  replace H := Option.bind_eq_some_iff.mp H
  obtain ⟨⟨t300, t303⟩, A70, H⟩ := H
  replace H : ((spec_LevelWeights.f k t300 t303).bind fun bt306 => ((laws_toMobile.f k l0_0 l0_1).bind fun bt310 => ((impl_LevelWeights.f k bt310.1 bt310.2).bind fun bt317 => ((laws_eqIntS.f k bt317.1 bt306.1).bind fun t321 => (if t321 = true then (laws_FnExactLevelWeights.j0 k bt306.1 bt306.2 bt317.1 bt317.2 (bt317.2 != bt306.2) l0_0 l0_1 bt310.1 bt310.2) else (laws_FnExactLevelWeights.j0 k bt306.1 bt306.2 bt317.1 bt317.2 true l0_0 l0_1 bt310.1 bt310.2)))))) = some r := H
  have A7 := Aside0.mk A70
  clear A70
  replace H := Option.bind_eq_some_iff.mp H
  obtain ⟨⟨t306, t309⟩, A80, H⟩ := H
  replace H : ((laws_toMobile.f k l0_0 l0_1).bind fun bt310 => ((impl_LevelWeights.f k bt310.1 bt310.2).bind fun bt317 => ((laws_eqIntS.f k bt317.1 t306).bind fun t321 => (if t321 = true then (laws_FnExactLevelWeights.j0 k t306 t309 bt317.1 bt317.2 (bt317.2 != t309) l0_0 l0_1 bt310.1 bt310.2) else (laws_FnExactLevelWeights.j0 k t306 t309 bt317.1 bt317.2 true l0_0 l0_1 bt310.1 bt310.2))))) = some r := H
  have A8 := Aside0.mk A80
  clear A80
  replace H := Option.bind_eq_some_iff.mp H
  obtain ⟨⟨t310, t313⟩, A90, H⟩ := H
  replace H : ((impl_LevelWeights.f k t310 t313).bind fun bt317 => ((laws_eqIntS.f k bt317.1 t306).bind fun t321 => (if t321 = true then (laws_FnExactLevelWeights.j0 k t306 t309 bt317.1 bt317.2 (bt317.2 != t309) l0_0 l0_1 t310 t313) else (laws_FnExactLevelWeights.j0 k t306 t309 bt317.1 bt317.2 true l0_0 l0_1 t310 t313)))) = some r := H
  have A9 := Aside0.mk A90
  clear A90
  replace H := Option.bind_eq_some_iff.mp H
  obtain ⟨⟨t317, t320⟩, A100, H⟩ := H
  replace H : ((laws_eqIntS.f k t317 t306).bind fun t321 => (if t321 = true then (laws_FnExactLevelWeights.j0 k t306 t309 t317 t320 (t320 != t309) l0_0 l0_1 t310 t313) else (laws_FnExactLevelWeights.j0 k t306 t309 t317 t320 true l0_0 l0_1 t310 t313))) = some r := H
  have A10 := Aside0.mk A100
  clear A100
  have HC11 := Aside0.mk H
  clear H
  go_enter Try.func14, Try.ntmps14
  go_upto_region 8 with (first | ((with_reducible refine gate_dst (N := 1) rfl ?_); refine box_event ?hg (N := 1) ?hd (cs := #[.slice A0_0 l0_0.length c0_0, .slice A0_1 l0_1.length c0_1]) (t := 24) ?hr ?_; (case hd => rfl); (case hg => rfl); (case hr => first | (go_simp; done) | (go_simp; rfl)); intro gb298 hg w12 hbox hb; have BK298 := Aside0.mk (hbox); have GW298 := Aside0.mk (bS HB.out hg); have GE298 := Aside0.mk (bS HB.out hg); replace HB := Aside0.mk (below_step (tB HB.out) hb); clear hb hbox hg; obtain ⟨hcz13_0, hfz13_0, hcz13_1, hfz13_1⟩ := cz2 BK298) | ((with_reducible refine gate_callee (f := 15) rfl ?_); refine goesL_ (some 16) rfl rfl Try.func15 (by kernel_rfl) rfl #[.agg #[.slice A0_0 l0_0.length c0_0, .slice A0_1 l0_1.length c0_1], .int .i64 1048576] rfl tM ?_; (with_reducible refine (laws_szMobile.calls _ _ l0_0 _ _ l0_1 1048576 t299 _ ?side1 ?side2 ?side3 ?side4 A2.out).mono ?_); (case side1 => exact tC (Kd.C_below HR0_0.out HB.out)); (case side2 => exact HC0_0.out); (case side3 => exact tC (Kd.C_below HR0_1.out HB.out)); (case side4 => exact HC0_1.out); rintro e w14 ⟨rfl, hb⟩; refine ⟨_, rfl, ?_⟩; replace BK298 := bkB BK298 hb; replace HB := Aside0.mk (below_step (tB HB.out) hb); (try clear hb); (try clear hb2); (try clear hk); (try clear hi); obtain ⟨hcz15_0, hfz15_0, hcz15_1, hfz15_1⟩ := cz2 BK298) | ((with_reducible refine gate_callee (f := 17) rfl ?_); refine goesL_ (some 21) rfl rfl Try.func17 (by kernel_rfl) rfl #[.agg #[.slice A0_0 l0_0.length c0_0, .slice A0_1 l0_1.length c0_1]] rfl tM ?_; (with_reducible refine (laws_toMobile.calls k _ _ l0_0 _ _ l0_1 t300 t303 _ ?side1 ?side2 ?side3 ?side4 A7.out).mono ?_); (case side1 => exact tC (Kd.C_below HR0_0.out HB.out)); (case side2 => exact HC0_0.out); (case side3 => exact tC (Kd.C_below HR0_1.out HB.out)); (case side4 => exact HC0_1.out); rintro e w16 ⟨v301, v304, rfl, ho0, ho1, hb⟩; refine ⟨_, rfl, ?_⟩; have HO302 := Aside0.mk (Kd.R_lower ho0 (below_size (tB HB.out))); have HO305 := Aside0.mk (Kd.R_lower ho1 (below_size (tB HB.out))); replace BK298 := bkB BK298 hb; replace HB := Aside0.mk (below_step (tB HB.out) hb); (try clear hb); (try clear hb2); (try clear hk); (try clear hi); (try clear ho0); (try clear ho1); obtain ⟨Ao17, co17, eo17⟩ := Kd.R_slice HO302.out; subst eo17; obtain ⟨Ao18, co18, eo18⟩ := Kd.R_slice HO305.out; subst eo18) | ((with_reducible refine gate_callee (f := 49) rfl ?_); refine goesL_ (some 22) rfl rfl Try.func49 (by kernel_rfl) rfl #[.agg #[.slice Ao17 t300.length co17, .slice Ao18 t303.length co18]] rfl tM ?_; (with_reducible refine (spec_LevelWeights.calls k _ _ t300 _ _ t303 t306 t309 _ ?side1 ?side2 ?side3 ?side4 A8.out).mono ?_); (case side1 => exact tC (Kd.R_reads' HO302.out).2.2); (case side2 => exact (Kd.R_reads' HO302.out).2.1); (case side3 => exact tC (Kd.R_reads' HO305.out).2.2); (case side4 => exact (Kd.R_reads' HO305.out).2.1); rintro e w19 ⟨v307, rfl, ho0, hb⟩; refine ⟨_, rfl, ?_⟩; replace HO302 := Aside0.mk (Kd.R_below (tR HO302.out) hb); replace HO305 := Aside0.mk (Kd.R_below (tR HO305.out) hb); have HO308 := Aside0.mk (Kd.R_lower ho0 (below_size (tB HB.out))); replace BK298 := bkB BK298 hb; replace HB := Aside0.mk (below_step (tB HB.out) hb); (try clear hb); (try clear hb2); (try clear hk); (try clear hi); (try clear ho0); obtain ⟨hcz20_0, hfz20_0, hcz20_1, hfz20_1⟩ := cz2 BK298) | ((with_reducible refine gate_callee (f := 17) rfl ?_); refine goesL_ (some 26) rfl rfl Try.func17 (by kernel_rfl) rfl #[.agg #[.slice A0_0 l0_0.length c0_0, .slice A0_1 l0_1.length c0_1]] rfl tM ?_; (with_reducible refine (laws_toMobile.calls k _ _ l0_0 _ _ l0_1 t310 t313 _ ?side1 ?side2 ?side3 ?side4 A9.out).mono ?_); (case side1 => exact tC (Kd.C_below HR0_0.out HB.out)); (case side2 => exact HC0_0.out); (case side3 => exact tC (Kd.C_below HR0_1.out HB.out)); (case side4 => exact HC0_1.out); rintro e w21 ⟨v311, v314, rfl, ho0, ho1, hb⟩; refine ⟨_, rfl, ?_⟩; replace HO308 := Aside0.mk (Kd.R_below (tR HO308.out) hb); have HO312 := Aside0.mk (Kd.R_lower (Kd.R_new' (Kd.R_new' ho0 (Kd.R_lt (tR HO302.out))) (Kd.R_lt (tR HO305.out))) (below_size (tB HB.out))); have HO315 := Aside0.mk (Kd.R_lower (Kd.R_new' (Kd.R_new' ho1 (Kd.R_lt (tR HO302.out))) (Kd.R_lt (tR HO305.out))) (below_size (tB HB.out))); replace HO302 := Aside0.mk (Kd.R_mono (Kd.R_told (Kd.R_told (Kd.R_old (tR HO302.out) hb) (Kd.R_base ho0)) (Kd.R_base ho1)) (fun _ h_ => h_.1)); replace HO305 := Aside0.mk (Kd.R_mono (Kd.R_told (Kd.R_told (Kd.R_old (tR HO305.out) hb) (Kd.R_base ho0)) (Kd.R_base ho1)) (fun _ h_ => h_.1)); replace BK298 := bkB BK298 hb; replace HB := Aside0.mk (below_step (tB HB.out) hb); (try clear hb); (try clear hb2); (try clear hk); (try clear hi); (try clear ho0); (try clear ho1)) | ((with_reducible refine gate_dst (N := 6) rfl ?_); refine box_event ?hg (N := 6) ?hd (cs := #[.slice none 0 0, .slice none 0 0]) (t := 27) ?hr ?_; (case hd => rfl); (case hg => rfl); (case hr => first | (go_simp; done) | (go_simp; rfl)); intro gb316 hg w22 hbox hb; replace HO302 := Aside0.mk (Kd.R_below (tR HO302.out) hb); replace HO305 := Aside0.mk (Kd.R_below (tR HO305.out) hb); replace HO308 := Aside0.mk (Kd.R_below (tR HO308.out) hb); replace HO312 := Aside0.mk (Kd.R_below (tR HO312.out) hb); replace HO315 := Aside0.mk (Kd.R_below (tR HO315.out) hb); have BK316 := Aside0.mk (hbox); have GW316 := Aside0.mk (bS HB.out hg); have GE316 := Aside0.mk (bS HB.out hg); replace HB := Aside0.mk (below_step (tB HB.out) hb); have NB298_316 := Aside0.mk (nL BK298.out hg); have NB316_298 := Aside0.mk (nG BK298.out hg); replace BK298 := bkB BK298 hb; clear hb hbox hg; obtain ⟨Ao23, co23, eo23⟩ := Kd.R_slice HO312.out; subst eo23; have hnb24 := NB316_298.out; have hnc24 := NB298_316.out; obtain ⟨hcz25_0, hfz25_0, hcz25_1, hfz25_1⟩ := cz2 BK316; obtain ⟨Ao26, co26, eo26⟩ := Kd.R_slice HO315.out; subst eo26) | ((with_reducible refine gate_callee (f := 50) rfl ?_); refine goesL_ (some 29) rfl rfl Try.func50 (by kernel_rfl) rfl #[.agg #[.slice Ao23 t310.length co23, .slice Ao26 t313.length co26]] rfl tM ?_; (with_reducible refine (impl_LevelWeights.calls k _ _ t310 _ _ t313 t317 t320 _ ?side1 ?side2 ?side3 ?side4 A10.out).mono ?_); (case side1 => refine (Kd.R_reads' (e := 58) (base := w.heap.size) (ok := fun k_ => ((some k_ ≠ (.slice Ao26 t313.length co26 : Value).ownBlock ∧ some k_ ≠ (.slice Ao17 t300.length co17 : Value).ownBlock) ∧ some k_ ≠ (.slice Ao18 t303.length co18 : Value).ownBlock)) (n := t310.length) (c := co23) ?_).2.2; exact (by (with_reducible repeat (first | apply Kd.R_alloc | apply Kd.R_drewN | apply Kd.R_drew)); exact (Kd.R_mono (Kd.R_far (p := ⟨gb316, 1, none⟩) (Kd.R_far (p := ⟨gb316, 0, none⟩) (Kd.R_types HO312.out BK316.out (by decide)) (fun _ hk => hk.2) (.slice Ao23 t310.length co23)) (fun _ hk => hk.2) (.slice Ao26 t313.length co26)) (fun _ h_ => h_.1)))); (case side2 => exact (Kd.R_reads' HO312.out).2.1); (case side3 => refine (Kd.R_reads' (e := 58) (base := w.heap.size) (ok := fun k_ => ((some k_ ≠ (.slice Ao23 t310.length co23 : Value).ownBlock ∧ some k_ ≠ (.slice Ao17 t300.length co17 : Value).ownBlock) ∧ some k_ ≠ (.slice Ao18 t303.length co18 : Value).ownBlock)) (n := t313.length) (c := co26) ?_).2.2; exact (by (with_reducible repeat (first | apply Kd.R_alloc | apply Kd.R_drewN | apply Kd.R_drew)); exact (Kd.R_mono (Kd.R_far (p := ⟨gb316, 1, none⟩) (Kd.R_far (p := ⟨gb316, 0, none⟩) (Kd.R_types HO315.out BK316.out (by decide)) (fun _ hk => hk.2) (.slice Ao23 t310.length co23)) (fun _ hk => hk.2) (.slice Ao26 t313.length co26)) (fun _ h_ => h_.1)))); (case side4 => exact (Kd.R_reads' HO315.out).2.1); rintro e w27 ⟨v318, rfl, ho0, hb⟩; refine ⟨_, rfl, ?_⟩; replace HO302 := Aside0.mk (Kd.R_below (by (with_reducible repeat (first | apply Kd.R_alloc | apply Kd.R_drewN | apply Kd.R_drew)); exact (Kd.R_mono (Kd.R_far (p := ⟨gb316, 1, none⟩) (Kd.R_far (p := ⟨gb316, 0, none⟩) (Kd.R_types HO302.out BK316.out (by decide)) (fun _ hk => hk.2) (.slice Ao23 t310.length co23)) (fun _ hk => hk.2) (.slice Ao26 t313.length co26)) (fun _ h_ => h_.1))) hb); replace HO305 := Aside0.mk (Kd.R_below (by (with_reducible repeat (first | apply Kd.R_alloc | apply Kd.R_drewN | apply Kd.R_drew)); exact (Kd.R_mono (Kd.R_far (p := ⟨gb316, 1, none⟩) (Kd.R_far (p := ⟨gb316, 0, none⟩) (Kd.R_types HO305.out BK316.out (by decide)) (fun _ hk => hk.2) (.slice Ao23 t310.length co23)) (fun _ hk => hk.2) (.slice Ao26 t313.length co26)) (fun _ h_ => h_.1))) hb); replace HO312 := Aside0.mk (Kd.R_below (by (with_reducible repeat (first | apply Kd.R_alloc | apply Kd.R_drewN | apply Kd.R_drew)); exact (Kd.R_mono (Kd.R_far (p := ⟨gb316, 1, none⟩) (Kd.R_far (p := ⟨gb316, 0, none⟩) (Kd.R_types HO312.out BK316.out (by decide)) (fun _ hk => hk.2) (.slice Ao23 t310.length co23)) (fun _ hk => hk.2) (.slice Ao26 t313.length co26)) (fun _ h_ => h_.1))) hb); replace HO315 := Aside0.mk (Kd.R_below (by (with_reducible repeat (first | apply Kd.R_alloc | apply Kd.R_drewN | apply Kd.R_drew)); exact (Kd.R_mono (Kd.R_far (p := ⟨gb316, 1, none⟩) (Kd.R_far (p := ⟨gb316, 0, none⟩) (Kd.R_types HO315.out BK316.out (by decide)) (fun _ hk => hk.2) (.slice Ao23 t310.length co23)) (fun _ hk => hk.2) (.slice Ao26 t313.length co26)) (fun _ h_ => h_.1))) hb); have HO319 := Aside0.mk (Kd.R_lower (Kd.R_new' ho0 (Kd.R_lt (by (with_reducible repeat (first | apply Kd.R_alloc | apply Kd.R_drewN | apply Kd.R_drew)); exact (Kd.R_mono (Kd.R_far (p := ⟨gb316, 1, none⟩) (Kd.R_far (p := ⟨gb316, 0, none⟩) (Kd.R_types HO308.out BK316.out (by decide)) (fun _ hk => hk.2) (.slice Ao23 t310.length co23)) (fun _ hk => hk.2) (.slice Ao26 t313.length co26)) (fun _ h_ => h_.1))))) (below_size (tB HB.out))); replace HO308 := Aside0.mk (Kd.R_elder' (by (with_reducible repeat (first | apply Kd.R_alloc | apply Kd.R_drewN | apply Kd.R_drew)); exact (Kd.R_mono (Kd.R_far (p := ⟨gb316, 1, none⟩) (Kd.R_far (p := ⟨gb316, 0, none⟩) (Kd.R_types HO308.out BK316.out (by decide)) (fun _ hk => hk.2) (.slice Ao23 t310.length co23)) (fun _ hk => hk.2) (.slice Ao26 t313.length co26)) (fun _ h_ => h_.1))) (Kd.R_base ho0) hb); replace BK298 := Aside0.mk (blk_below (g := gb298) (o := .cells #[.slice A0_0 l0_0.length c0_0, .slice A0_1 l0_1.length c0_1] 24 (0, 0)) (by (with_reducible repeat (first | refine blk_drewN ?_ _ | refine blk_drew ?_ | refine blk_alloc ?_ _)); refine blk_far ?_ NB298_316.out _; (with_reducible repeat (first | refine blk_drewN ?_ _ | refine blk_drew ?_ | refine blk_alloc ?_ _)); refine blk_far ?_ NB298_316.out _; (with_reducible repeat (first | refine blk_drewN ?_ _ | refine blk_drew ?_ | refine blk_alloc ?_ _)); exact BK298.out) hb); replace BK316 := Aside0.mk (blk_below (g := gb316) (o := .cells #[.slice Ao23 t310.length co23, .slice Ao26 t313.length co26] 27 (0, 0)) (by (with_reducible repeat (first | refine blk_drewN ?_ _ | refine blk_drew ?_ | refine blk_alloc ?_ _)); refine blk_put (cs := #[.slice Ao23 t310.length co23, .slice none 0 0]) ?_ 1 _ rfl; (with_reducible repeat (first | refine blk_drewN ?_ _ | refine blk_drew ?_ | refine blk_alloc ?_ _)); refine blk_put (cs := #[.slice none 0 0, .slice none 0 0]) ?_ 0 _ rfl; (with_reducible repeat (first | refine blk_drewN ?_ _ | refine blk_drew ?_ | refine blk_alloc ?_ _)); exact BK316.out) hb); replace HB := Aside0.mk (below_step (tB HB.out) hb); (try clear hb); (try clear hb2); (try clear hk); (try clear hi); (try clear ho0)))
  (try simp only [Act.put, List.setIfInBounds_toArray, List.set_cons_zero, List.set_cons_succ])
  go_cut [40] (fun v40 wc => ∃ (kq : Nat) (x40_10 : Bool), v40 = .bool x40_10 ∧ Aside0 (laws_FnExactLevelWeights.j0 kq t306 t309 t317 t320 x40_10 l0_0 l0_1 t310 t313 = some r) ∧ Aside0 (kq ≤ k) ∧ Aside0 (Kd.R (Kd.int .i64) 3 wc w.heap.size (fun k_ => some k_ ≠ (v318 : Value).ownBlock) v307 t306) ∧ Aside0 (Kd.R (Kd.int .i64) 3 wc w.heap.size (fun k_ => some k_ ≠ (v307 : Value).ownBlock) v318 t317) ∧ Aside0 (Kd.R k58 58 wc w.heap.size (fun k_ => some k_ ≠ ((.slice Ao26 t313.length co26) : Value).ownBlock) (.slice Ao23 t310.length co23) t310) ∧ Aside0 (Kd.R k58 58 wc w.heap.size (fun k_ => some k_ ≠ ((.slice Ao23 t310.length co23) : Value).ownBlock) (.slice Ao26 t313.length co26) t313) ∧ Aside0 (wc.heap[gb298]? = some (.cells #[(.slice A0_0 l0_0.length c0_0), (.slice A0_1 l0_1.length c0_1)] 24 (0, 0))) ∧ Aside0 (wc.heap[gb316]? = some (.cells #[(.slice Ao23 t310.length co23), (.slice Ao26 t313.length co26)] 27 (0, 0))) ∧ Aside0 (Below w.heap.size w wc))
  case first =>
   have H := HC11.out
   clear HC11
   replace H := Option.bind_eq_some_iff.mp H
   obtain ⟨t321, A280, H⟩ := H
   replace H : (if t321 = true then (laws_FnExactLevelWeights.j0 k t306 t309 t317 t320 (t320 != t309) l0_0 l0_1 t310 t313) else (laws_FnExactLevelWeights.j0 k t306 t309 t317 t320 true l0_0 l0_1 t310 t313)) = some r := H
   have A28 := Aside0.mk A280
   clear A280
   by_cases c29 : t321 = true
   ·
    subst c29
    have H1 : (laws_FnExactLevelWeights.j0 k t306 t309 t317 t320 (t320 != t309) l0_0 l0_1 t310 t313) = some r := by rw [if_pos rfl] at H; exact H
    clear H
    have H := H1
    clear H1
    have H' := Aside0.mk H
    clear H
    obtain ⟨Ao30, co30, eo30⟩ := Kd.R_slice HO319.out
    subst eo30
    obtain ⟨Ao31, co31, eo31⟩ := Kd.R_slice HO308.out
    subst eo31
    go_wp2_with (first | ((with_reducible refine gate_callee (f := 28) rfl ?_); refine goesL_ (some 34) rfl rfl Try.func28 (by kernel_rfl) rfl #[.slice Ao30 t317.length co30, .slice Ao31 t306.length co31] rfl tM ?_; (with_reducible refine (laws_eqIntS.calls k _ _ t317 _ _ t306 true _ ?side1 ?side2 ?side3 ?side4 A28.out).mono ?_); (case side1 => exact tC (Kd.R_reads' HO319.out).2.2); (case side2 => exact (Kd.R_reads' HO319.out).2.1); (case side3 => exact tC (Kd.R_reads' HO308.out).2.2); (case side4 => exact (Kd.R_reads' HO308.out).2.1); rintro e w' ⟨rfl, ⟨nd, rfl⟩⟩; refine ⟨_, rfl, ?_⟩))
    go_meet
    case rel => exact ⟨_, ((t320 != t309)), (by first | rfl | (simp; done) | (simp [wrap64]; done) | (simp [*]; done)), H', ⟨by first | omega | exact Nat.le_refl _⟩, ⟨by (with_reducible repeat (first | apply Kd.R_alloc | apply Kd.R_drewN | apply Kd.R_drew)); exact Kd.R_mono HO308.out (fun _ hk => hk.2)⟩, ⟨by (with_reducible repeat (first | apply Kd.R_alloc | apply Kd.R_drewN | apply Kd.R_drew)); exact Kd.R_mono HO319.out (fun _ hk => hk.2)⟩, ⟨by (with_reducible repeat (first | apply Kd.R_alloc | apply Kd.R_drewN | apply Kd.R_drew)); exact Kd.R_mono HO312.out (fun _ hk => hk.1.1)⟩, ⟨by (with_reducible repeat (first | apply Kd.R_alloc | apply Kd.R_drewN | apply Kd.R_drew)); exact Kd.R_mono HO315.out (fun _ hk => hk.1.1)⟩, ⟨tK BK298.out⟩, ⟨tK BK316.out⟩, ⟨tB HB.out⟩⟩
   ·
    replace c29 := Bool.eq_false_iff.mpr c29
    subst c29
    have H1 : (laws_FnExactLevelWeights.j0 k t306 t309 t317 t320 true l0_0 l0_1 t310 t313) = some r := by rw [if_neg (show ¬ (false = true) by decide)] at H; exact H
    clear H
    have H := H1
    clear H1
    have H' := Aside0.mk H
    clear H
    obtain ⟨Ao32, co32, eo32⟩ := Kd.R_slice HO319.out
    subst eo32
    obtain ⟨Ao33, co33, eo33⟩ := Kd.R_slice HO308.out
    subst eo33
    go_wp2_with (first | ((with_reducible refine gate_callee (f := 28) rfl ?_); refine goesL_ (some 34) rfl rfl Try.func28 (by kernel_rfl) rfl #[.slice Ao32 t317.length co32, .slice Ao33 t306.length co33] rfl tM ?_; (with_reducible refine (laws_eqIntS.calls k _ _ t317 _ _ t306 false _ ?side1 ?side2 ?side3 ?side4 A28.out).mono ?_); (case side1 => exact tC (Kd.R_reads' HO319.out).2.2); (case side2 => exact (Kd.R_reads' HO319.out).2.1); (case side3 => exact tC (Kd.R_reads' HO308.out).2.2); (case side4 => exact (Kd.R_reads' HO308.out).2.1); rintro e w' ⟨rfl, ⟨nd, rfl⟩⟩; refine ⟨_, rfl, ?_⟩))
    go_meet
    case rel => exact ⟨_, (true), (by first | rfl | (simp; done) | (simp [wrap64]; done) | (simp [*]; done)), H', ⟨by first | omega | exact Nat.le_refl _⟩, ⟨by (with_reducible repeat (first | apply Kd.R_alloc | apply Kd.R_drewN | apply Kd.R_drew)); exact Kd.R_mono HO308.out (fun _ hk => hk.2)⟩, ⟨by (with_reducible repeat (first | apply Kd.R_alloc | apply Kd.R_drewN | apply Kd.R_drew)); exact Kd.R_mono HO319.out (fun _ hk => hk.2)⟩, ⟨by (with_reducible repeat (first | apply Kd.R_alloc | apply Kd.R_drewN | apply Kd.R_drew)); exact Kd.R_mono HO312.out (fun _ hk => hk.1.1)⟩, ⟨by (with_reducible repeat (first | apply Kd.R_alloc | apply Kd.R_drewN | apply Kd.R_drew)); exact Kd.R_mono HO315.out (fun _ hk => hk.1.1)⟩, ⟨tK BK298.out⟩, ⟨tK BK316.out⟩, ⟨tB HB.out⟩⟩
  case rest =>
   clear HC11
   try clear c1
   try clear c2
   try clear p2
   try clear c3
   try clear c3b0
   try clear c4
   try clear c5
   try clear p6
   try clear c14
   try clear c15
   try clear c17
   try clear c24
   try clear c28
   try clear c29
   try clear hcz13_0
   try clear hcz13_1
   try clear hcz15_0
   try clear hcz15_1
   try clear hcz20_0
   try clear hcz20_1
   try clear hcz25_0
   try clear hcz25_1
   try clear hcz5_0
   try clear hcz5_1
   try clear hfz13_0
   try clear hfz13_1
   try clear hfz15_0
   try clear hfz15_1
   try clear hfz20_0
   try clear hfz20_1
   try clear hfz25_0
   try clear hfz25_1
   try clear hfz5_0
   try clear hfz5_1
   obtain ⟨kq, x40_10, rfl, HA, HJ10, HO_4, HO_7, HO_317000, HO_317001, BK298, BK316, HB⟩ := hcut
   cases kq with
   | zero => exact absurd HA.out (by simp [laws_FnExactLevelWeights.j0])
   | succ kj10 =>
    have H := HA.out
    clear HA
    simp only [laws_FnExactLevelWeights.j0] at H
    by_cases c34 : x40_10 = true
    ·
     subst c34
     have H1 : (some false) = some r := by rw [if_pos rfl] at H; exact H
     clear H
     have H := H1
     clear H1
     obtain rfl := Option.some.inj H
     go_wp2
     go_ret
     exact ⟨by first | rfl | (simp [errW_none, errW_some] <;> rfl) | (simp [*, errW_none, errW_some] <;> rfl), tB HB.out⟩
    ·
     replace c34 := Bool.eq_false_iff.mpr c34
     subst c34
     have H1 : ((laws_toMobile.f kj10 l0_0 l0_1).bind fun bt322 => ((laws_eqMobile.f kj10 t310 t313 bt322.1 bt322.2).bind fun t328 => (if t328 = true then ((laws_markMobile.f kj10 t310 t313 1).bind fun bt329 => (if bt329.1 < 0 then (laws_FnExactLevelWeights.j1 kj10 t306 t309 t317 true l0_0 l0_1) else ((laws_eqIntS.f kj10 t317 t306).bind fun t332 => (if t332 = true then (laws_FnExactLevelWeights.j1 kj10 t306 t309 t317 (t320 != t309) l0_0 l0_1) else (laws_FnExactLevelWeights.j1 kj10 t306 t309 t317 true l0_0 l0_1))))) else (some false)))) = some r := by rw [if_neg (show ¬ (false = true) by decide)] at H; exact H
     clear H
     have H := H1
     clear H1
     replace H := Option.bind_eq_some_iff.mp H
     obtain ⟨⟨t322, t325⟩, A350, H⟩ := H
     replace H : ((laws_eqMobile.f kj10 t310 t313 t322 t325).bind fun t328 => (if t328 = true then ((laws_markMobile.f kj10 t310 t313 1).bind fun bt329 => (if bt329.1 < 0 then (laws_FnExactLevelWeights.j1 kj10 t306 t309 t317 true l0_0 l0_1) else ((laws_eqIntS.f kj10 t317 t306).bind fun t332 => (if t332 = true then (laws_FnExactLevelWeights.j1 kj10 t306 t309 t317 (t320 != t309) l0_0 l0_1) else (laws_FnExactLevelWeights.j1 kj10 t306 t309 t317 true l0_0 l0_1))))) else (some false))) = some r := H
     have A35 := Aside0.mk A350
     clear A350
     replace H := Option.bind_eq_some_iff.mp H
     obtain ⟨t328, A360, H⟩ := H
     replace H : (if t328 = true then ((laws_markMobile.f kj10 t310 t313 1).bind fun bt329 => (if bt329.1 < 0 then (laws_FnExactLevelWeights.j1 kj10 t306 t309 t317 true l0_0 l0_1) else ((laws_eqIntS.f kj10 t317 t306).bind fun t332 => (if t332 = true then (laws_FnExactLevelWeights.j1 kj10 t306 t309 t317 (t320 != t309) l0_0 l0_1) else (laws_FnExactLevelWeights.j1 kj10 t306 t309 t317 true l0_0 l0_1))))) else (some false)) = some r := H
     have A36 := Aside0.mk A360
     clear A360
     by_cases c37 : t328 = true
     ·
      subst c37
      have H1 : ((laws_markMobile.f kj10 t310 t313 1).bind fun bt329 => (if bt329.1 < 0 then (laws_FnExactLevelWeights.j1 kj10 t306 t309 t317 true l0_0 l0_1) else ((laws_eqIntS.f kj10 t317 t306).bind fun t332 => (if t332 = true then (laws_FnExactLevelWeights.j1 kj10 t306 t309 t317 (t320 != t309) l0_0 l0_1) else (laws_FnExactLevelWeights.j1 kj10 t306 t309 t317 true l0_0 l0_1))))) = some r := by rw [if_pos rfl] at H; exact H
      clear H
      have H := H1
      clear H1
      replace H := Option.bind_eq_some_iff.mp H
      obtain ⟨⟨t329, t330, t331⟩, A380, H⟩ := H
      replace H : (if t329 < 0 then (laws_FnExactLevelWeights.j1 kj10 t306 t309 t317 true l0_0 l0_1) else ((laws_eqIntS.f kj10 t317 t306).bind fun t332 => (if t332 = true then (laws_FnExactLevelWeights.j1 kj10 t306 t309 t317 (t320 != t309) l0_0 l0_1) else (laws_FnExactLevelWeights.j1 kj10 t306 t309 t317 true l0_0 l0_1)))) = some r := H
      have A38 := Aside0.mk A380
      clear A380
      have HC39 := Aside0.mk H
      clear H
      try go_wp2
      replace HO_4 := Aside0.mk (Kd.R_drew HO_4.out)
      replace HO_7 := Aside0.mk (Kd.R_drew HO_7.out)
      replace HO_317000 := Aside0.mk (Kd.R_drew HO_317000.out)
      replace HO_317001 := Aside0.mk (Kd.R_drew HO_317001.out)
      replace BK298 := Aside0.mk (blk_drew BK298.out)
      replace BK316 := Aside0.mk (blk_drew BK316.out)
      replace HB := Aside0.mk (below_drew1 HB.out)
      refine start_ (n := 5) (S := fun w' => w'.cell? ⟨gb316, 0, none⟩ = some (.slice Ao23 t310.length co23) ∧ w'.cell? ⟨gb316, 1, none⟩ = some (.slice Ao26 t313.length co26) ∧ w'.cell? ⟨gb298, 0, none⟩ = some (.slice A0_0 l0_0.length c0_0) ∧ w'.cell? ⟨gb298, 1, none⟩ = some (.slice A0_1 l0_1.length c0_1)) (ds := []) #[false, false, false, false, false] (by kernel_rfl) rfl rfl ⟨(blk_cell BK316.out 0).trans rfl, (blk_cell BK316.out 1).trans rfl, (blk_cell BK298.out 0).trans rfl, (blk_cell BK298.out 1).trans rfl⟩ (fun hHeld => ?_)
      generalize wc.drew = w40 at HO_4 HO_7 HO_317000 HO_317001 BK298 BK316 HB hHeld ⊢
      refine tk 0 (some 41) #[y_, n_, n_, n_, n_] rfl (by kernel_rfl) hHeld (Or.inl ⟨by rfl, by rintro w' ⟨s0, s1, s2, s3⟩; go_simp; with_reducible rfl⟩) ?_
      refine tk 1 (some 42) #[y_, y_, n_, n_, n_] rfl (by kernel_rfl) hHeld (Or.inl ⟨by rfl, by rintro w' ⟨s0, s1, s2, s3⟩; go_simp; with_reducible rfl⟩) ?_
      refine one_ (i := 2) (N := some 43) #[true, true, true, false, false] rfl rfl (by kernel_rfl) (by decide) (fun K hK => ?_)
      refine goes_ Try.func17 (by kernel_rfl) rfl #[.agg #[.slice A0_0 l0_0.length c0_0, .slice A0_1 l0_1.length c0_1]] (by rfl) rfl rfl tM ?_
      with_reducible refine (laws_toMobile.calls kj10 _ _ l0_0 _ _ l0_1 t322 t325 _ ?side1 ?side2 ?side3 ?side4 A35.out).mono ?_
      (case side1 => exact tC (Kd.C_below HR0_0.out HB.out))
      (case side2 => exact HC0_0.out)
      (case side3 => exact tC (Kd.C_below HR0_1.out HB.out))
      (case side4 => exact HC0_1.out)
      rintro e w41 ⟨v323, v326, rfl, ho0, ho1, hb⟩
      refine ⟨_, rfl, ?_⟩
      replace HO_4 := Aside0.mk (Kd.R_below (tR HO_4.out) hb)
      replace HO_7 := Aside0.mk (Kd.R_below (tR HO_7.out) hb)
      have HO324 := Aside0.mk (Kd.R_lower (Kd.R_new' (Kd.R_new' ho0 (Kd.R_lt (tR HO_317000.out))) (Kd.R_lt (tR HO_317001.out))) (below_size (tB HB.out)))
      have HO327 := Aside0.mk (Kd.R_lower (Kd.R_new' (Kd.R_new' ho1 (Kd.R_lt (tR HO_317000.out))) (Kd.R_lt (tR HO_317001.out))) (below_size (tB HB.out)))
      replace HO_317000 := Aside0.mk (Kd.R_mono (Kd.R_told (Kd.R_told (Kd.R_old (tR HO_317000.out) hb) (Kd.R_base ho0)) (Kd.R_base ho1)) (fun _ h_ => h_.1))
      replace HO_317001 := Aside0.mk (Kd.R_mono (Kd.R_told (Kd.R_told (Kd.R_old (tR HO_317001.out) hb) (Kd.R_base ho0)) (Kd.R_base ho1)) (fun _ h_ => h_.1))
      replace BK298 := bkB BK298 hb
      replace BK316 := bkB BK316 hb
      replace HB := Aside0.mk (below_step (tB HB.out) hb)
      (try clear hb)
      (try clear hb2)
      (try clear hk)
      (try clear hi)
      (try clear ho0)
      (try clear ho1)
      obtain ⟨Ao42, co42, eo42⟩ := Kd.R_slice HO324.out
      (first | subst eo42 | (injection eo42 with f1_ f2_ f3_; have f4_ := f1_.symm; have f5_ := f3_.symm; clear f1_ f2_ f3_; subst f4_; subst f5_))
      obtain ⟨Ao43, co43, eo43⟩ := Kd.R_slice HO327.out
      (first | subst eo43 | (injection eo43 with f1_ f2_ f3_; have f4_ := f1_.symm; have f5_ := f3_.symm; clear f1_ f2_ f3_; subst f4_; subst f5_))
      refine hK.out _ _ ⟨(blk_cell BK316.out 0).trans rfl, (blk_cell BK316.out 1).trans rfl, (blk_cell BK298.out 0).trans rfl, (blk_cell BK298.out 1).trans rfl⟩ (fun hHeld => ?_)
      clear hK K
      refine norm_ (a' := ?_) ?_ ?_
      rotate_left
      ·
       show Act.put _ (some 43) _ = _
       simp only [Act.put, List.setIfInBounds_toArray, List.set_cons_zero, List.set_cons_succ, i64_w, i32_w]
       rfl
      refine one_ (i := 3) (N := some 44) #[true, true, true, true, false] rfl rfl (by kernel_rfl) (by decide) (fun K hK => ?_)
      refine goes_ Try.func19 (by kernel_rfl) rfl #[.agg #[.slice Ao23 t310.length co23, .slice Ao26 t313.length co26], .agg #[.slice Ao42 t322.length co42, .slice Ao43 t325.length co43]] (by rfl) rfl rfl tM ?_
      with_reducible refine (laws_eqMobile.calls kj10 _ _ t310 _ _ t313 _ _ t322 _ _ t325 true _ ?side1 ?side2 ?side3 ?side4 ?side5 ?side6 ?side7 ?side8 A36.out).mono ?_
      (case side1 => exact tC (Kd.R_reads' HO_317000.out).2.2)
      (case side2 => exact (Kd.R_reads' HO_317000.out).2.1)
      (case side3 => exact tC (Kd.R_reads' HO_317001.out).2.2)
      (case side4 => exact (Kd.R_reads' HO_317001.out).2.1)
      (case side5 => exact tC (Kd.R_reads' HO324.out).2.2)
      (case side6 => exact (Kd.R_reads' HO324.out).2.1)
      (case side7 => exact tC (Kd.R_reads' HO327.out).2.2)
      (case side8 => exact (Kd.R_reads' HO327.out).2.1)
      rintro e w44 ⟨rfl, hb⟩
      refine ⟨_, rfl, ?_⟩
      replace HO_4 := Aside0.mk (Kd.R_below (tR HO_4.out) hb)
      replace HO_7 := Aside0.mk (Kd.R_below (tR HO_7.out) hb)
      replace HO_317000 := Aside0.mk (Kd.R_below (tR HO_317000.out) hb)
      replace HO_317001 := Aside0.mk (Kd.R_below (tR HO_317001.out) hb)
      replace HO324 := Aside0.mk (Kd.R_below (tR HO324.out) hb)
      replace HO327 := Aside0.mk (Kd.R_below (tR HO327.out) hb)
      replace BK298 := bkB BK298 hb
      replace BK316 := bkB BK316 hb
      replace HB := Aside0.mk (below_step (tB HB.out) hb)
      (try clear hb)
      (try clear hb2)
      (try clear hk)
      (try clear hi)
      refine hK.out _ _ ⟨(blk_cell BK316.out 0).trans rfl, (blk_cell BK316.out 1).trans rfl, (blk_cell BK298.out 0).trans rfl, (blk_cell BK298.out 1).trans rfl⟩ (fun hHeld => ?_)
      clear hK K
      refine norm_ (a' := ?_) ?_ ?_
      rotate_left
      ·
       show Act.put _ (some 44) _ = _
       simp only [Act.put, List.setIfInBounds_toArray, List.set_cons_zero, List.set_cons_succ, i64_w, i32_w]
       rfl
      refine pu 4 (some 45) #[y_, y_, y_, y_, y_] (by kernel_rfl) ?_
      refine done_ (by kernel_rfl) ?_
      have hnb45 := NB316_298.out
      have hnc45 := NB298_316.out
      obtain ⟨hcz46_0, hfz46_0, hcz46_1, hfz46_1⟩ := cz2 BK316
      go_upto_region 14 with (first | ((with_reducible refine gate_callee (f := 24) rfl ?_); refine goesL_ (some 48) rfl rfl Try.func24 (by kernel_rfl) rfl #[.agg #[.slice Ao23 t310.length co23, .slice Ao26 t313.length co26], .int .i64 1] rfl tM ?_; (with_reducible refine (laws_markMobile.calls kj10 (fun k_ => some k_ = (.slice Ao23 t310.length co23 : Value).ownBlock) (.slice Ao23 t310.length co23) t310 (fun k_ => some k_ = (.slice Ao26 t313.length co26 : Value).ownBlock) (.slice Ao26 t313.length co26) t313 1 t329 t330 t331 w _ ?side1 ?side2 ?side3 ?side4 ?side5 A38.out).mono ?_); (case side1 => repeat (first | (with_reducible first | exact HB.out | apply below_alloc | apply pw_below_drewN | apply below_drew1 | refine below_set ?_ GE298.out | refine below_set ?_ GE316.out) | exact HB.out)); (case side2 => exact Kd.R_tight rfl HO_317000.out); (case side3 => exact fun k_ e_ => (HO_317000.out.1 k_ e_.symm).1.1); (case side4 => exact Kd.R_tight rfl HO_317001.out); (case side5 => exact fun k_ e_ => (HO_317001.out.1 k_ e_.symm).1.1); rintro e w47 ⟨rfl, hy0, hy1, hb, hkp⟩; refine ⟨_, rfl, ?_⟩; replace HO_4 := Aside0.mk (Kd.R_mono (ok' := fun k_ => some k_ ≠ (v318 : Value).ownBlock) (Kd.R_keptB ((Kd.R_apart' (Kd.R_apart' HO_4.out (Kd.R_typed HO_317000.out) (by decide)) (Kd.R_typed HO_317001.out) (by decide))) hkp (fun k_ hk_ hs_ => Or.elim hs_ (fun e_ => (hk_.1.2) e_) (fun e_ => (hk_.2) e_))) (fun k_ hk_ => hk_.1.1.1)); replace HO_7 := Aside0.mk (Kd.R_mono (ok' := fun k_ => some k_ ≠ (v307 : Value).ownBlock) (Kd.R_keptB ((Kd.R_apart' (Kd.R_apart' HO_7.out (Kd.R_typed HO_317000.out) (by decide)) (Kd.R_typed HO_317001.out) (by decide))) hkp (fun k_ hk_ hs_ => Or.elim hs_ (fun e_ => (hk_.1.2) e_) (fun e_ => (hk_.2) e_))) (fun k_ hk_ => hk_.1.1.1)); replace BK298 := Aside0.mk (blk_kept (tK BK298.out) hkp (fun hs_ => Or.elim hs_ (fun e_ => (fun e_ => (Kd.R_ne HO_317000.out BK298.out (by decide)) e_) e_) (fun e_ => (fun e_ => (Kd.R_ne HO_317001.out BK298.out (by decide)) e_) e_))); replace BK316 := Aside0.mk (blk_kept (tK BK316.out) hkp (fun hs_ => Or.elim hs_ (fun e_ => (fun e_ => (Kd.R_ne HO_317000.out BK316.out (by decide)) e_) e_) (fun e_ => (fun e_ => (Kd.R_ne HO_317001.out BK316.out (by decide)) e_) e_))); replace HO_317000 := Aside0.mk (Kd.R_reok rfl hy0 (fun k_ e_ => HO_317000.out.1 k_ e_)); replace HO_317001 := Aside0.mk (Kd.R_reok rfl hy1 (fun k_ e_ => HO_317001.out.1 k_ e_)); replace HO324 := Aside0.mk (Kd.R_mono (ok' := fun k_ => some k_ ≠ (.slice Ao23 t310.length co23 : Value).ownBlock ∧ some k_ ≠ (.slice Ao26 t313.length co26 : Value).ownBlock ∧ some k_ ≠ (.slice Ao43 t325.length co43 : Value).ownBlock) (Kd.R_keptB (HO324.out) hkp (fun k_ hk_ hs_ => Or.elim hs_ (fun e_ => (hk_.1.2) e_) (fun e_ => (hk_.2) e_))) (fun k_ hk_ => ⟨hk_.1.1.2, hk_.1.2, hk_.1.1.1⟩)); replace HO327 := Aside0.mk (Kd.R_mono (ok' := fun k_ => some k_ ≠ (.slice Ao23 t310.length co23 : Value).ownBlock ∧ some k_ ≠ (.slice Ao26 t313.length co26 : Value).ownBlock ∧ some k_ ≠ (.slice Ao42 t322.length co42 : Value).ownBlock) (Kd.R_keptB (HO327.out) hkp (fun k_ hk_ hs_ => Or.elim hs_ (fun e_ => (hk_.1.2) e_) (fun e_ => (hk_.2) e_))) (fun k_ hk_ => ⟨hk_.1.1.2, hk_.1.2, hk_.1.1.1⟩)); replace HB := Aside0.mk (hb); (try clear hb); (try clear hkp); (try clear hy0); (try clear hy1)))
      (try simp only [Act.put, List.setIfInBounds_toArray, List.set_cons_zero, List.set_cons_succ])
      go_cut [61] (fun v61 wc => ∃ (kq : Nat) (x61_38 : Bool), v61 = .bool x61_38 ∧ Aside0 (laws_FnExactLevelWeights.j1 kq t306 t309 t317 x61_38 l0_0 l0_1 = some r) ∧ Aside0 (kq ≤ kj10) ∧ Aside0 (Kd.R (Kd.int .i64) 3 wc w.heap.size (fun k_ => some k_ ≠ (v318 : Value).ownBlock) v307 t306) ∧ Aside0 (Kd.R (Kd.int .i64) 3 wc w.heap.size (fun k_ => some k_ ≠ (v307 : Value).ownBlock) v318 t317) ∧ Aside0 (Kd.R k58 58 wc w.heap.size (fun k_ => some k_ ≠ ((.slice Ao26 t313.length co26) : Value).ownBlock) (.slice Ao23 t310.length co23) t330) ∧ Aside0 (Kd.R k58 58 wc w.heap.size (fun k_ => some k_ ≠ ((.slice Ao23 t310.length co23) : Value).ownBlock) (.slice Ao26 t313.length co26) t331) ∧ Aside0 (wc.heap[gb298]? = some (.cells #[(.slice A0_0 l0_0.length c0_0), (.slice A0_1 l0_1.length c0_1)] 24 (0, 0))) ∧ Aside0 (wc.heap[gb316]? = some (.cells #[(.slice Ao23 t310.length co23), (.slice Ao26 t313.length co26)] 27 (0, 0))) ∧ Aside0 (Below w.heap.size w wc))
      case first =>
       have H := HC39.out
       clear HC39
       by_cases c48 : t329 < 0
       ·
        rw [if_pos c48] at H
        have c48b0 : decide (t329 < 0) = true := decide_eq_true c48
        clear c48
        (first | rw [c48b0] | (simp only [i64_w, i32_w]; rw [c48b0]) | skip)
        have H' := Aside0.mk H
        clear H
        go_wp2
        go_meet
        case rel => exact ⟨_, (true), (by first | rfl | (simp; done) | (simp [wrap64]; done) | (simp [*]; done)), H', ⟨by have := HJ10.out; first | omega | exact Nat.le_refl _⟩, ⟨tR HO_4.out⟩, ⟨tR HO_7.out⟩, ⟨by (with_reducible repeat (first | apply Kd.R_alloc | apply Kd.R_drewN | apply Kd.R_drew)); exact Kd.R_mono HO_317000.out (fun _ hk => hk.1.1)⟩, ⟨by (with_reducible repeat (first | apply Kd.R_alloc | apply Kd.R_drewN | apply Kd.R_drew)); exact Kd.R_mono HO_317001.out (fun _ hk => hk.1.1)⟩, ⟨tK BK298.out⟩, ⟨tK BK316.out⟩, ⟨tB HB.out⟩⟩
       ·
        rw [if_neg c48] at H
        have c48b0 : decide (t329 < 0) = false := decide_eq_false c48
        clear c48
        (first | rw [c48b0] | (simp only [i64_w, i32_w]; rw [c48b0]) | skip)
        replace H := Option.bind_eq_some_iff.mp H
        obtain ⟨t332, A490, H⟩ := H
        replace H : (if t332 = true then (laws_FnExactLevelWeights.j1 kj10 t306 t309 t317 (t320 != t309) l0_0 l0_1) else (laws_FnExactLevelWeights.j1 kj10 t306 t309 t317 true l0_0 l0_1)) = some r := H
        have A49 := Aside0.mk A490
        clear A490
        by_cases c50 : t332 = true
        ·
         subst c50
         have H1 : (laws_FnExactLevelWeights.j1 kj10 t306 t309 t317 (t320 != t309) l0_0 l0_1) = some r := by rw [if_pos rfl] at H; exact H
         clear H
         have H := H1
         clear H1
         have H' := Aside0.mk H
         clear H
         obtain ⟨Ao51, co51, eo51⟩ := Kd.R_slice HO_7.out
         subst eo51
         obtain ⟨Ao52, co52, eo52⟩ := Kd.R_slice HO_4.out
         subst eo52
         go_wp2_with (first | (go_at_call 28; (with_reducible refine (laws_eqIntS.calls kj10 _ _ t317 _ _ t306 true _ ?side1 ?side2 ?side3 ?side4 A49.out).mono ?_); (case side1 => exact tC (Kd.R_reads' HO_7.out).2.2); (case side2 => exact (Kd.R_reads' HO_7.out).2.1); (case side3 => exact tC (Kd.R_reads' HO_4.out).2.2); (case side4 => exact (Kd.R_reads' HO_4.out).2.1); rintro e w' ⟨rfl, ⟨nd, rfl⟩⟩))
         go_meet
         case rel => exact ⟨_, ((t320 != t309)), (by first | rfl | (simp; done) | (simp [wrap64]; done) | (simp [*]; done)), H', ⟨by have := HJ10.out; first | omega | exact Nat.le_refl _⟩, ⟨tR HO_4.out⟩, ⟨tR HO_7.out⟩, ⟨by (with_reducible repeat (first | apply Kd.R_alloc | apply Kd.R_drewN | apply Kd.R_drew)); exact Kd.R_mono HO_317000.out (fun _ hk => hk.1.1)⟩, ⟨by (with_reducible repeat (first | apply Kd.R_alloc | apply Kd.R_drewN | apply Kd.R_drew)); exact Kd.R_mono HO_317001.out (fun _ hk => hk.1.1)⟩, ⟨tK BK298.out⟩, ⟨tK BK316.out⟩, ⟨tB HB.out⟩⟩
        ·
         replace c50 := Bool.eq_false_iff.mpr c50
         subst c50
         have H1 : (laws_FnExactLevelWeights.j1 kj10 t306 t309 t317 true l0_0 l0_1) = some r := by rw [if_neg (show ¬ (false = true) by decide)] at H; exact H
         clear H
         have H := H1
         clear H1
         have H' := Aside0.mk H
         clear H
         obtain ⟨Ao53, co53, eo53⟩ := Kd.R_slice HO_7.out
         subst eo53
         obtain ⟨Ao54, co54, eo54⟩ := Kd.R_slice HO_4.out
         subst eo54
         go_wp2_with (first | (go_at_call 28; (with_reducible refine (laws_eqIntS.calls kj10 _ _ t317 _ _ t306 false _ ?side1 ?side2 ?side3 ?side4 A49.out).mono ?_); (case side1 => exact tC (Kd.R_reads' HO_7.out).2.2); (case side2 => exact (Kd.R_reads' HO_7.out).2.1); (case side3 => exact tC (Kd.R_reads' HO_4.out).2.2); (case side4 => exact (Kd.R_reads' HO_4.out).2.1); rintro e w' ⟨rfl, ⟨nd, rfl⟩⟩))
         go_meet
         case rel => exact ⟨_, (true), (by first | rfl | (simp; done) | (simp [wrap64]; done) | (simp [*]; done)), H', ⟨by have := HJ10.out; first | omega | exact Nat.le_refl _⟩, ⟨tR HO_4.out⟩, ⟨tR HO_7.out⟩, ⟨by (with_reducible repeat (first | apply Kd.R_alloc | apply Kd.R_drewN | apply Kd.R_drew)); exact Kd.R_mono HO_317000.out (fun _ hk => hk.1.1)⟩, ⟨by (with_reducible repeat (first | apply Kd.R_alloc | apply Kd.R_drewN | apply Kd.R_drew)); exact Kd.R_mono HO_317001.out (fun _ hk => hk.1.1)⟩, ⟨tK BK298.out⟩, ⟨tK BK316.out⟩, ⟨tB HB.out⟩⟩
      case rest =>
       clear HC39
       try clear c1
       try clear c2
       try clear p2
       try clear c3
       try clear c3b0
       try clear c4
       try clear c5
       try clear p6
       try clear c14
       try clear c15
       try clear c17
       try clear c19
       try clear c24
       try clear c28
       try clear c29
       try clear c34
       try clear c37
       try clear c45
       try clear c48
       try clear c48b0
       try clear c49
       try clear c50
       try clear hcz13_0
       try clear hcz13_1
       try clear hcz15_0
       try clear hcz15_1
       try clear hcz20_0
       try clear hcz20_1
       try clear hcz25_0
       try clear hcz25_1
       try clear hcz46_0
       try clear hcz46_1
       try clear hcz5_0
       try clear hcz5_1
       try clear hfz13_0
       try clear hfz13_1
       try clear hfz15_0
       try clear hfz15_1
       try clear hfz20_0
       try clear hfz20_1
       try clear hfz25_0
       try clear hfz25_1
       try clear hfz46_0
       try clear hfz46_1
       try clear hfz5_0
       try clear hfz5_1
       try clear p2
       try clear p6
       obtain ⟨kq, x61_38, rfl, HA, HJ38, HO_4, HO_7, HO_317000, HO_317001, BK298, BK316, HB⟩ := hcut
       have hl317000_38 := (Kd.R_reads' HO_317000.out).1
       rw [hl317000_38] at HO_317000
       (try simp only [hl317000_38])
       (try simp only [hl317000_38] at BK298)
       (try simp only [hl317000_38] at BK316)
       (try simp only [hl317000_38] at HO_4)
       (try simp only [hl317000_38] at HO_7)
       (try simp only [hl317000_38] at HO_317001)
       have hl317001_38 := (Kd.R_reads' HO_317001.out).1
       rw [hl317001_38] at HO_317001
       (try simp only [hl317001_38])
       (try simp only [hl317001_38] at BK298)
       (try simp only [hl317001_38] at BK316)
       (try simp only [hl317001_38] at HO_4)
       (try simp only [hl317001_38] at HO_7)
       (try simp only [hl317001_38] at HO_317000)
       cases kq with
       | zero => exact absurd HA.out (by simp [laws_FnExactLevelWeights.j1])
       | succ kj38 =>
        have H := HA.out
        clear HA
        simp only [laws_FnExactLevelWeights.j1] at H
        by_cases c55 : x61_38 = true
        ·
         subst c55
         have H1 : (some false) = some r := by rw [if_pos rfl] at H; exact H
         clear H
         have H := H1
         clear H1
         obtain rfl := Option.some.inj H
         go_wp2
         go_ret
         exact ⟨by first | rfl | (simp [errW_none, errW_some] <;> rfl) | (simp [*, errW_none, errW_some] <;> rfl), tB HB.out⟩
        ·
         replace c55 := Bool.eq_false_iff.mpr c55
         subst c55
         have H1 : ((laws_markIntS.f kj38 t317 1).bind fun bt333 => ((laws_heldIntS.f kj38 bt333.2 1).bind fun t335 => (if t335 < 0 then (some false) else (if t335 = bt333.1 then ((laws_toMobile.f kj38 l0_0 l0_1).bind fun bt336 => ((impl_LevelWeights.f kj38 bt336.1 bt336.2).bind fun bt342 => ((laws_eqIntS.f kj38 bt342.1 t306).bind fun t346 => (if t346 = true then (laws_FnExactLevelWeights.j2 kj38 bt333.2 bt333.1 (bt342.2 != t309)) else (laws_FnExactLevelWeights.j2 kj38 bt333.2 bt333.1 true))))) else (some false))))) = some r := by rw [if_neg (show ¬ (false = true) by decide)] at H; exact H
         clear H
         have H := H1
         clear H1
         replace H := Option.bind_eq_some_iff.mp H
         obtain ⟨⟨t333, t334⟩, A560, H⟩ := H
         replace H : ((laws_heldIntS.f kj38 t334 1).bind fun t335 => (if t335 < 0 then (some false) else (if t335 = t333 then ((laws_toMobile.f kj38 l0_0 l0_1).bind fun bt336 => ((impl_LevelWeights.f kj38 bt336.1 bt336.2).bind fun bt342 => ((laws_eqIntS.f kj38 bt342.1 t306).bind fun t346 => (if t346 = true then (laws_FnExactLevelWeights.j2 kj38 t334 t333 (bt342.2 != t309)) else (laws_FnExactLevelWeights.j2 kj38 t334 t333 true))))) else (some false)))) = some r := H
         have A56 := Aside0.mk A560
         clear A560
         replace H := Option.bind_eq_some_iff.mp H
         obtain ⟨t335, A570, H⟩ := H
         replace H : (if t335 < 0 then (some false) else (if t335 = t333 then ((laws_toMobile.f kj38 l0_0 l0_1).bind fun bt336 => ((impl_LevelWeights.f kj38 bt336.1 bt336.2).bind fun bt342 => ((laws_eqIntS.f kj38 bt342.1 t306).bind fun t346 => (if t346 = true then (laws_FnExactLevelWeights.j2 kj38 t334 t333 (bt342.2 != t309)) else (laws_FnExactLevelWeights.j2 kj38 t334 t333 true))))) else (some false))) = some r := H
         have A57 := Aside0.mk A570
         clear A570
         by_cases c58 : t335 < 0
         ·
          rw [if_pos c58] at H
          have c58b0 : decide (t335 < 0) = true := decide_eq_true c58
          clear c58
          obtain rfl := Option.some.inj H
          obtain ⟨Ao59, co59, eo59⟩ := Kd.R_slice HO_7.out
          subst eo59
          go_wp2_with (first | ((with_reducible refine gate_callee (f := 29) rfl ?_); refine goesL_ (some 64) rfl rfl Try.func29 (by kernel_rfl) rfl #[.slice Ao59 t317.length co59, .int .i64 1] rfl tM ?_; (with_reducible refine (laws_markIntS.calls kj38 (fun k_ => some k_ = (.slice Ao59 t317.length co59 : Value).ownBlock) (.slice Ao59 t317.length co59) t317 1 t333 t334 w _ ?side1 ?side2 A56.out).mono ?_); (case side1 => repeat (first | (with_reducible first | exact HB.out | apply below_alloc | apply pw_below_drewN | apply below_drew1 | refine below_set ?_ GE298.out | refine below_set ?_ GE316.out) | exact HB.out)); (case side2 => exact Kd.R_tight rfl HO_7.out); rintro e w60 ⟨rfl, hy0, hb, hkp⟩; refine ⟨_, rfl, ?_⟩; replace HO_4 := Aside0.mk (Kd.R_mono (ok' := fun k_ => some k_ ≠ (.slice Ao59 t317.length co59 : Value).ownBlock) (Kd.R_keptB (HO_4.out) hkp (fun k_ hk_ hs_ => (hk_) hs_)) (fun k_ hk_ => hk_.1)); replace HO_317000 := Aside0.mk (Kd.R_mono (ok' := fun k_ => some k_ ≠ (.slice Ao26 t331.length co26 : Value).ownBlock) (Kd.R_keptB ((Kd.R_apart' HO_317000.out (Kd.R_typed HO_7.out) (by decide))) hkp (fun k_ hk_ hs_ => (hk_.2) hs_)) (fun k_ hk_ => hk_.1.1)); replace HO_317001 := Aside0.mk (Kd.R_mono (ok' := fun k_ => some k_ ≠ (.slice Ao23 t330.length co23 : Value).ownBlock) (Kd.R_keptB ((Kd.R_apart' HO_317001.out (Kd.R_typed HO_7.out) (by decide))) hkp (fun k_ hk_ hs_ => (hk_.2) hs_)) (fun k_ hk_ => hk_.1.1)); replace BK298 := Aside0.mk (blk_kept (tK BK298.out) hkp (fun hs_ => (fun e_ => (Kd.R_ne HO_7.out BK298.out (by decide)) e_) hs_)); replace BK316 := Aside0.mk (blk_kept (tK BK316.out) hkp (fun hs_ => (fun e_ => (Kd.R_ne HO_7.out BK316.out (by decide)) e_) hs_)); replace HO_7 := Aside0.mk (Kd.R_reok rfl hy0 (fun k_ e_ => HO_7.out.1 k_ e_)); replace HB := Aside0.mk (hb); (try clear hb); (try clear hkp); (try clear hy0)) | ((with_reducible refine gate_callee (f := 30) rfl ?_); refine goesL_ (some 67) rfl rfl Try.func30 (by kernel_rfl) rfl #[.slice Ao59 t334.length co59, .int .i64 1] rfl (by (try simp only [List.map_toArray, List.map_cons, List.map_nil]); first | done | (rw [show t334.length = t317.length from (Kd.R_reads' HO_7.out).1.symm] <;> rfl) | rfl | (simp only [List.length_drop, List.length_take]; rfl)) ?_; (with_reducible refine (laws_heldIntS.calls kj38 _ _ t334 1 t335 _ ?side1 ?side2 A57.out).mono ?_); (case side1 => exact tC (Kd.R_reads' HO_7.out).2.2); (case side2 => rw [show t334.length = t317.length from (Kd.R_reads' HO_7.out).1.symm]; exact (Kd.R_reads' HO_7.out).2.1); rintro e w' ⟨rfl, ⟨nd, rfl⟩⟩; refine ⟨_, rfl, ?_⟩))
          go_ret
          exact ⟨by first | rfl | (simp [errW_none, errW_some] <;> rfl) | (simp [*, errW_none, errW_some] <;> rfl), tB HB.out⟩
         ·
          rw [if_neg c58] at H
          have c58b0 : decide (t335 < 0) = false := decide_eq_false c58
          clear c58
          by_cases c61 : t335 = t333
          ·
           rw [if_pos c61] at H
           have c61b0 : (t335 == t333) = true := beq_iff_eq.mpr c61
           have c61b1 : (t335 != t333) = false := bne_eq_false_iff_eq.mpr c61
           clear c61
           replace H := Option.bind_eq_some_iff.mp H
           obtain ⟨⟨t336, t339⟩, A620, H⟩ := H
           replace H : ((impl_LevelWeights.f kj38 t336 t339).bind fun bt342 => ((laws_eqIntS.f kj38 bt342.1 t306).bind fun t346 => (if t346 = true then (laws_FnExactLevelWeights.j2 kj38 t334 t333 (bt342.2 != t309)) else (laws_FnExactLevelWeights.j2 kj38 t334 t333 true)))) = some r := H
           have A62 := Aside0.mk A620
           clear A620
           replace H := Option.bind_eq_some_iff.mp H
           obtain ⟨⟨t342, t345⟩, A630, H⟩ := H
           replace H : ((laws_eqIntS.f kj38 t342 t306).bind fun t346 => (if t346 = true then (laws_FnExactLevelWeights.j2 kj38 t334 t333 (t345 != t309)) else (laws_FnExactLevelWeights.j2 kj38 t334 t333 true))) = some r := H
           have A63 := Aside0.mk A630
           clear A630
           have HC64 := Aside0.mk H
           clear H
           obtain ⟨Ao65, co65, eo65⟩ := Kd.R_slice HO_7.out
           subst eo65
           go_upto_region 25 with (first | ((with_reducible refine gate_callee (f := 29) rfl ?_); refine goesL_ (some 64) rfl rfl Try.func29 (by kernel_rfl) rfl #[.slice Ao65 t317.length co65, .int .i64 1] rfl tM ?_; (with_reducible refine (laws_markIntS.calls kj38 (fun k_ => some k_ = (.slice Ao65 t317.length co65 : Value).ownBlock) (.slice Ao65 t317.length co65) t317 1 t333 t334 w _ ?side1 ?side2 A56.out).mono ?_); (case side1 => repeat (first | (with_reducible first | exact HB.out | apply below_alloc | apply pw_below_drewN | apply below_drew1 | refine below_set ?_ GE298.out | refine below_set ?_ GE316.out) | exact HB.out)); (case side2 => exact Kd.R_tight rfl HO_7.out); rintro e w66 ⟨rfl, hy0, hb, hkp⟩; refine ⟨_, rfl, ?_⟩; replace HO_4 := Aside0.mk (Kd.R_mono (ok' := fun k_ => some k_ ≠ (.slice Ao65 t317.length co65 : Value).ownBlock) (Kd.R_keptB (HO_4.out) hkp (fun k_ hk_ hs_ => (hk_) hs_)) (fun k_ hk_ => hk_.1)); replace HO_317000 := Aside0.mk (Kd.R_mono (ok' := fun k_ => some k_ ≠ (.slice Ao26 t331.length co26 : Value).ownBlock) (Kd.R_keptB ((Kd.R_apart' HO_317000.out (Kd.R_typed HO_7.out) (by decide))) hkp (fun k_ hk_ hs_ => (hk_.2) hs_)) (fun k_ hk_ => hk_.1.1)); replace HO_317001 := Aside0.mk (Kd.R_mono (ok' := fun k_ => some k_ ≠ (.slice Ao23 t330.length co23 : Value).ownBlock) (Kd.R_keptB ((Kd.R_apart' HO_317001.out (Kd.R_typed HO_7.out) (by decide))) hkp (fun k_ hk_ hs_ => (hk_.2) hs_)) (fun k_ hk_ => hk_.1.1)); replace BK298 := Aside0.mk (blk_kept (tK BK298.out) hkp (fun hs_ => (fun e_ => (Kd.R_ne HO_7.out BK298.out (by decide)) e_) hs_)); replace BK316 := Aside0.mk (blk_kept (tK BK316.out) hkp (fun hs_ => (fun e_ => (Kd.R_ne HO_7.out BK316.out (by decide)) e_) hs_)); replace HO_7 := Aside0.mk (Kd.R_reok rfl hy0 (fun k_ e_ => HO_7.out.1 k_ e_)); replace HB := Aside0.mk (hb); (try clear hb); (try clear hkp); (try clear hy0)) | ((with_reducible refine gate_callee (f := 30) rfl ?_); refine goesL_ (some 67) rfl rfl Try.func30 (by kernel_rfl) rfl #[.slice Ao65 t334.length co65, .int .i64 1] rfl (by (try simp only [List.map_toArray, List.map_cons, List.map_nil]); first | done | (rw [show t334.length = t317.length from (Kd.R_reads' HO_7.out).1.symm] <;> rfl) | rfl | (simp only [List.length_drop, List.length_take]; rfl)) ?_; (with_reducible refine (laws_heldIntS.calls kj38 _ _ t334 1 t335 _ ?side1 ?side2 A57.out).mono ?_); (case side1 => exact tC (Kd.R_reads' HO_7.out).2.2); (case side2 => rw [show t334.length = t317.length from (Kd.R_reads' HO_7.out).1.symm]; exact (Kd.R_reads' HO_7.out).2.1); rintro e w' ⟨rfl, ⟨nd, rfl⟩⟩; refine ⟨_, rfl, ?_⟩; have hnb67 := NB298_316.out; have hnc67 := NB316_298.out; obtain ⟨hcz68_0, hfz68_0, hcz68_1, hfz68_1⟩ := cz2 BK298) | ((with_reducible refine gate_callee (f := 17) rfl ?_); refine goesL_ (some 75) rfl rfl Try.func17 (by kernel_rfl) rfl #[.agg #[.slice A0_0 l0_0.length c0_0, .slice A0_1 l0_1.length c0_1]] rfl tM ?_; (with_reducible refine (laws_toMobile.calls kj38 _ _ l0_0 _ _ l0_1 t336 t339 _ ?side1 ?side2 ?side3 ?side4 A62.out).mono ?_); (case side1 => exact tC (Kd.C_below HR0_0.out (tB HB.out))); (case side2 => exact HC0_0.out); (case side3 => exact tC (Kd.C_below HR0_1.out (tB HB.out))); (case side4 => exact HC0_1.out); rintro e w69 ⟨v337, v340, rfl, ho0, ho1, hb⟩; refine ⟨_, rfl, ?_⟩; replace HO_4 := Aside0.mk (Kd.R_below (tR HO_4.out) hb); replace HO_7 := Aside0.mk (Kd.R_below (tR HO_7.out) hb); have HO338 := Aside0.mk (Kd.R_lower (Kd.R_new' (Kd.R_new' ho0 (Kd.R_lt (tR HO_317000.out))) (Kd.R_lt (tR HO_317001.out))) (below_size (tB HB.out))); have HO341 := Aside0.mk (Kd.R_lower (Kd.R_new' (Kd.R_new' ho1 (Kd.R_lt (tR HO_317000.out))) (Kd.R_lt (tR HO_317001.out))) (below_size (tB HB.out))); replace HO_317000 := Aside0.mk (Kd.R_mono (Kd.R_told (Kd.R_told (Kd.R_old (tR HO_317000.out) hb) (Kd.R_base ho0)) (Kd.R_base ho1)) (fun _ h_ => h_.1)); replace HO_317001 := Aside0.mk (Kd.R_mono (Kd.R_told (Kd.R_told (Kd.R_old (tR HO_317001.out) hb) (Kd.R_base ho0)) (Kd.R_base ho1)) (fun _ h_ => h_.1)); replace BK298 := bkB BK298 hb; replace BK316 := bkB BK316 hb; replace HB := Aside0.mk (below_step (tB HB.out) hb); (try clear hb); (try clear hb2); (try clear hk); (try clear hi); (try clear ho0); (try clear ho1); obtain ⟨Ao70, co70, eo70⟩ := Kd.R_slice HO338.out; subst eo70; obtain ⟨Ao71, co71, eo71⟩ := Kd.R_slice HO341.out; subst eo71) | ((with_reducible refine gate_callee (f := 50) rfl ?_); refine goesL_ (some 76) rfl rfl Try.func50 (by kernel_rfl) rfl #[.agg #[.slice Ao70 t336.length co70, .slice Ao71 t339.length co71]] rfl tM ?_; (with_reducible refine (impl_LevelWeights.calls kj38 _ _ t336 _ _ t339 t342 t345 _ ?side1 ?side2 ?side3 ?side4 A63.out).mono ?_); (case side1 => exact tC (Kd.R_reads' HO338.out).2.2); (case side2 => exact (Kd.R_reads' HO338.out).2.1); (case side3 => exact tC (Kd.R_reads' HO341.out).2.2); (case side4 => exact (Kd.R_reads' HO341.out).2.1); rintro e w72 ⟨v343, rfl, ho0, hb⟩; refine ⟨_, rfl, ?_⟩; replace HO_317000 := Aside0.mk (Kd.R_below (tR HO_317000.out) hb); replace HO_317001 := Aside0.mk (Kd.R_below (tR HO_317001.out) hb); replace HO338 := Aside0.mk (Kd.R_below (tR HO338.out) hb); replace HO341 := Aside0.mk (Kd.R_below (tR HO341.out) hb); have HO344 := Aside0.mk (Kd.R_lower (Kd.R_new' (Kd.R_new' ho0 (Kd.R_lt (tR HO_4.out))) (Kd.R_lt (tR HO_7.out))) (below_size (tB HB.out))); replace HO_4 := Aside0.mk (Kd.R_elder' (tR HO_4.out) (Kd.R_base ho0) hb); replace HO_7 := Aside0.mk (Kd.R_elder' (tR HO_7.out) (Kd.R_base ho0) hb); replace BK298 := bkB BK298 hb; replace BK316 := bkB BK316 hb; replace HB := Aside0.mk (below_step (tB HB.out) hb); (try clear hb); (try clear hb2); (try clear hk); (try clear hi); (try clear ho0)))
           (try simp only [Act.put, List.setIfInBounds_toArray, List.set_cons_zero, List.set_cons_succ])
           go_cut [87] (fun v87 wc => ∃ (kq : Nat) (x87_63 : Bool), v87 = .bool x87_63 ∧ Aside0 (laws_FnExactLevelWeights.j2 kq t334 t333 x87_63 = some r) ∧ Aside0 (kq ≤ kj38) ∧ Aside0 (Kd.R (Kd.int .i64) 3 wc w.heap.size (fun _ => True) (.slice Ao65 t317.length co65) t334) ∧ Aside0 (Kd.R k58 58 wc w.heap.size (fun k_ => some k_ ≠ ((.slice Ao26 t331.length co26) : Value).ownBlock) (.slice Ao23 t330.length co23) t330) ∧ Aside0 (Kd.R k58 58 wc w.heap.size (fun k_ => some k_ ≠ ((.slice Ao23 t330.length co23) : Value).ownBlock) (.slice Ao26 t331.length co26) t331) ∧ Aside0 (wc.heap[gb298]? = some (.cells #[(.slice A0_0 l0_0.length c0_0), (.slice A0_1 l0_1.length c0_1)] 24 (0, 0))) ∧ Aside0 (wc.heap[gb316]? = some (.cells #[(.slice Ao23 t330.length co23), (.slice Ao26 t331.length co26)] 27 (0, 0))) ∧ Aside0 (Below w.heap.size w wc))
           case first =>
            have H := HC64.out
            clear HC64
            replace H := Option.bind_eq_some_iff.mp H
            obtain ⟨t346, A730, H⟩ := H
            replace H : (if t346 = true then (laws_FnExactLevelWeights.j2 kj38 t334 t333 (t345 != t309)) else (laws_FnExactLevelWeights.j2 kj38 t334 t333 true)) = some r := H
            have A73 := Aside0.mk A730
            clear A730
            by_cases c74 : t346 = true
            ·
             subst c74
             have H1 : (laws_FnExactLevelWeights.j2 kj38 t334 t333 (t345 != t309)) = some r := by rw [if_pos rfl] at H; exact H
             clear H
             have H := H1
             clear H1
             have H' := Aside0.mk H
             clear H
             obtain ⟨Ao75, co75, eo75⟩ := Kd.R_slice HO344.out
             subst eo75
             obtain ⟨Ao76, co76, eo76⟩ := Kd.R_slice HO_4.out
             subst eo76
             go_wp2_with (first | ((with_reducible refine gate_callee (f := 28) rfl ?_); refine goesL_ (some 81) rfl rfl Try.func28 (by kernel_rfl) rfl #[.slice Ao75 t342.length co75, .slice Ao76 t306.length co76] rfl tM ?_; (with_reducible refine (laws_eqIntS.calls kj38 _ _ t342 _ _ t306 true _ ?side1 ?side2 ?side3 ?side4 A73.out).mono ?_); (case side1 => exact tC (Kd.R_reads' HO344.out).2.2); (case side2 => exact (Kd.R_reads' HO344.out).2.1); (case side3 => exact tC (Kd.R_reads' HO_4.out).2.2); (case side4 => exact (Kd.R_reads' HO_4.out).2.1); rintro e w' ⟨rfl, ⟨nd, rfl⟩⟩; refine ⟨_, rfl, ?_⟩))
             go_meet
             case rel => exact ⟨_, ((t345 != t309)), (by first | rfl | (simp; done) | (simp [wrap64]; done) | (simp [*]; done)), H', ⟨by have := HJ10.out; have := HJ38.out; first | omega | exact Nat.le_refl _⟩, ⟨by (try simp only [hl317000_38]); (try simp only [hl317001_38]); (with_reducible repeat (first | apply Kd.R_alloc | apply Kd.R_drewN | apply Kd.R_drew)); exact Kd.R_mono HO_7.out (fun _ hk => trivial)⟩, ⟨by (try simp only [hl317000_38]); (try simp only [hl317001_38]); (with_reducible repeat (first | apply Kd.R_alloc | apply Kd.R_drewN | apply Kd.R_drew)); exact Kd.R_mono HO_317000.out (fun _ hk => hk.1.1)⟩, ⟨by (try simp only [hl317000_38]); (try simp only [hl317001_38]); (with_reducible repeat (first | apply Kd.R_alloc | apply Kd.R_drewN | apply Kd.R_drew)); exact Kd.R_mono HO_317001.out (fun _ hk => hk.1.1)⟩, ⟨by (try simp only [hl317000_38]); (try simp only [hl317001_38]); (with_reducible repeat (first | refine blk_drewN ?_ _ | refine blk_drew ?_ | refine blk_alloc ?_ _)); exact BK298.out⟩, ⟨by (try simp only [hl317000_38]); (try simp only [hl317001_38]); (with_reducible repeat (first | refine blk_drewN ?_ _ | refine blk_drew ?_ | refine blk_alloc ?_ _)); exact BK316.out⟩, ⟨tB HB.out⟩⟩
            ·
             replace c74 := Bool.eq_false_iff.mpr c74
             subst c74
             have H1 : (laws_FnExactLevelWeights.j2 kj38 t334 t333 true) = some r := by rw [if_neg (show ¬ (false = true) by decide)] at H; exact H
             clear H
             have H := H1
             clear H1
             have H' := Aside0.mk H
             clear H
             obtain ⟨Ao77, co77, eo77⟩ := Kd.R_slice HO344.out
             subst eo77
             obtain ⟨Ao78, co78, eo78⟩ := Kd.R_slice HO_4.out
             subst eo78
             go_wp2_with (first | ((with_reducible refine gate_callee (f := 28) rfl ?_); refine goesL_ (some 81) rfl rfl Try.func28 (by kernel_rfl) rfl #[.slice Ao77 t342.length co77, .slice Ao78 t306.length co78] rfl tM ?_; (with_reducible refine (laws_eqIntS.calls kj38 _ _ t342 _ _ t306 false _ ?side1 ?side2 ?side3 ?side4 A73.out).mono ?_); (case side1 => exact tC (Kd.R_reads' HO344.out).2.2); (case side2 => exact (Kd.R_reads' HO344.out).2.1); (case side3 => exact tC (Kd.R_reads' HO_4.out).2.2); (case side4 => exact (Kd.R_reads' HO_4.out).2.1); rintro e w' ⟨rfl, ⟨nd, rfl⟩⟩; refine ⟨_, rfl, ?_⟩))
             go_meet
             case rel => exact ⟨_, (true), (by first | rfl | (simp; done) | (simp [wrap64]; done) | (simp [*]; done)), H', ⟨by have := HJ10.out; have := HJ38.out; first | omega | exact Nat.le_refl _⟩, ⟨by (try simp only [hl317000_38]); (try simp only [hl317001_38]); (with_reducible repeat (first | apply Kd.R_alloc | apply Kd.R_drewN | apply Kd.R_drew)); exact Kd.R_mono HO_7.out (fun _ hk => trivial)⟩, ⟨by (try simp only [hl317000_38]); (try simp only [hl317001_38]); (with_reducible repeat (first | apply Kd.R_alloc | apply Kd.R_drewN | apply Kd.R_drew)); exact Kd.R_mono HO_317000.out (fun _ hk => hk.1.1)⟩, ⟨by (try simp only [hl317000_38]); (try simp only [hl317001_38]); (with_reducible repeat (first | apply Kd.R_alloc | apply Kd.R_drewN | apply Kd.R_drew)); exact Kd.R_mono HO_317001.out (fun _ hk => hk.1.1)⟩, ⟨by (try simp only [hl317000_38]); (try simp only [hl317001_38]); (with_reducible repeat (first | refine blk_drewN ?_ _ | refine blk_drew ?_ | refine blk_alloc ?_ _)); exact BK298.out⟩, ⟨by (try simp only [hl317000_38]); (try simp only [hl317001_38]); (with_reducible repeat (first | refine blk_drewN ?_ _ | refine blk_drew ?_ | refine blk_alloc ?_ _)); exact BK316.out⟩, ⟨tB HB.out⟩⟩
           case rest =>
            clear HC64
            try clear c1
            try clear c2
            try clear p2
            try clear c3
            try clear c3b0
            try clear c4
            try clear c5
            try clear c6
            try clear p6
            try clear c7
            try clear c14
            try clear c15
            try clear c17
            try clear c19
            try clear c24
            try clear c28
            try clear c29
            try clear c30
            try clear c34
            try clear c37
            try clear c45
            try clear c48
            try clear c48b0
            try clear c49
            try clear c50
            try clear c55
            try clear c58
            try clear c58b0
            try clear c61
            try clear c61b0
            try clear c61b1
            try clear p64
            try clear c67
            try clear c74
            try clear hcz13_0
            try clear hcz13_1
            try clear hcz15_0
            try clear hcz15_1
            try clear hcz20_0
            try clear hcz20_1
            try clear hcz25_0
            try clear hcz25_1
            try clear hcz46_0
            try clear hcz46_1
            try clear hcz5_0
            try clear hcz5_1
            try clear hcz68_0
            try clear hcz68_1
            try clear hfz13_0
            try clear hfz13_1
            try clear hfz15_0
            try clear hfz15_1
            try clear hfz20_0
            try clear hfz20_1
            try clear hfz25_0
            try clear hfz25_1
            try clear hfz46_0
            try clear hfz46_1
            try clear hfz5_0
            try clear hfz5_1
            try clear hfz68_0
            try clear hfz68_1
            try clear p2
            try clear p6
            obtain ⟨kq, x87_63, rfl, HA, HJ63, HO_7, HO_317000, HO_317001, BK298, BK316, HB⟩ := hcut
            have hl7_63 := (Kd.R_reads' HO_7.out).1
            rw [hl7_63] at HO_7
            (try simp only [hl7_63])
            (try simp only [hl7_63] at BK298)
            (try simp only [hl7_63] at BK316)
            (try simp only [hl7_63] at HO_317000)
            (try simp only [hl7_63] at HO_317001)
            cases kq with
            | zero => exact absurd HA.out (by simp [laws_FnExactLevelWeights.j2])
            | succ kj63 =>
             have H := HA.out
             clear HA
             simp only [laws_FnExactLevelWeights.j2] at H
             by_cases c79 : x87_63 = true
             ·
              subst c79
              have H1 : (some false) = some r := by rw [if_pos rfl] at H; exact H
              clear H
              have H := H1
              clear H1
              obtain rfl := Option.some.inj H
              go_wp2
              go_ret
              exact ⟨by first | rfl | (simp [errW_none, errW_some] <;> rfl) | (simp [*, errW_none, errW_some] <;> rfl), tB HB.out⟩
             ·
              replace c79 := Bool.eq_false_iff.mpr c79
              subst c79
              have H1 : ((laws_heldIntS.f kj63 t334 1).bind fun t347 => (if t347 < 0 then (some false) else (if t347 = t333 then (some true) else (some false)))) = some r := by rw [if_neg (show ¬ (false = true) by decide)] at H; exact H
              clear H
              have H := H1
              clear H1
              replace H := Option.bind_eq_some_iff.mp H
              obtain ⟨t347, A800, H⟩ := H
              replace H : (if t347 < 0 then (some false) else (if t347 = t333 then (some true) else (some false))) = some r := H
              have A80 := Aside0.mk A800
              clear A800
              by_cases c81 : t347 < 0
              ·
               rw [if_pos c81] at H
               have c81b0 : decide (t347 < 0) = true := decide_eq_true c81
               clear c81
               obtain rfl := Option.some.inj H
               go_wp2_with (first | ((with_reducible refine gate_callee (f := 30) rfl ?_); refine goesL_ (some 90) rfl rfl Try.func30 (by kernel_rfl) rfl #[.slice Ao65 t334.length co65, .int .i64 1] rfl tM ?_; (with_reducible refine (laws_heldIntS.calls kj63 _ _ t334 1 t347 _ ?side1 ?side2 A80.out).mono ?_); (case side1 => exact tC (Kd.R_reads' HO_7.out).2.2); (case side2 => exact (Kd.R_reads' HO_7.out).2.1); rintro e w' ⟨rfl, ⟨nd, rfl⟩⟩; refine ⟨_, rfl, ?_⟩))
               go_ret
               exact ⟨by first | rfl | (simp [errW_none, errW_some] <;> rfl) | (simp [*, errW_none, errW_some] <;> rfl), tB HB.out⟩
              ·
               rw [if_neg c81] at H
               have c81b0 : decide (t347 < 0) = false := decide_eq_false c81
               clear c81
               by_cases c82 : t347 = t333
               ·
                rw [if_pos c82] at H
                have c82b0 : (t347 == t333) = true := beq_iff_eq.mpr c82
                have c82b1 : (t347 != t333) = false := bne_eq_false_iff_eq.mpr c82
                clear c82
                obtain rfl := Option.some.inj H
                go_wp2_with (first | ((with_reducible refine gate_callee (f := 30) rfl ?_); refine goesL_ (some 90) rfl rfl Try.func30 (by kernel_rfl) rfl #[.slice Ao65 t334.length co65, .int .i64 1] rfl tM ?_; (with_reducible refine (laws_heldIntS.calls kj63 _ _ t334 1 t347 _ ?side1 ?side2 A80.out).mono ?_); (case side1 => exact tC (Kd.R_reads' HO_7.out).2.2); (case side2 => exact (Kd.R_reads' HO_7.out).2.1); rintro e w' ⟨rfl, ⟨nd, rfl⟩⟩; refine ⟨_, rfl, ?_⟩))
                go_ret
                exact ⟨by first | rfl | (simp [errW_none, errW_some] <;> rfl) | (simp [*, errW_none, errW_some] <;> rfl), tB HB.out⟩
               ·
                rw [if_neg c82] at H
                have c82b0 : (t347 == t333) = false := beq_eq_false_iff_ne.mpr c82
                have c82b1 : (t347 != t333) = true := bne_iff_ne.mpr c82
                obtain rfl := Option.some.inj H
                go_wp2_with (first | ((with_reducible refine gate_callee (f := 30) rfl ?_); refine goesL_ (some 90) rfl rfl Try.func30 (by kernel_rfl) rfl #[.slice Ao65 t334.length co65, .int .i64 1] rfl tM ?_; (with_reducible refine (laws_heldIntS.calls kj63 _ _ t334 1 t347 _ ?side1 ?side2 A80.out).mono ?_); (case side1 => exact tC (Kd.R_reads' HO_7.out).2.2); (case side2 => exact (Kd.R_reads' HO_7.out).2.1); rintro e w' ⟨rfl, ⟨nd, rfl⟩⟩; refine ⟨_, rfl, ?_⟩))
                go_ret
                exact ⟨by first | rfl | (simp [errW_none, errW_some] <;> rfl) | (simp [*, errW_none, errW_some] <;> rfl), tB HB.out⟩
          ·
           rw [if_neg c61] at H
           have c61b0 : (t335 == t333) = false := beq_eq_false_iff_ne.mpr c61
           have c61b1 : (t335 != t333) = true := bne_iff_ne.mpr c61
           obtain rfl := Option.some.inj H
           obtain ⟨Ao83, co83, eo83⟩ := Kd.R_slice HO_7.out
           subst eo83
           go_wp2_with (first | ((with_reducible refine gate_callee (f := 29) rfl ?_); refine goesL_ (some 64) rfl rfl Try.func29 (by kernel_rfl) rfl #[.slice Ao83 t317.length co83, .int .i64 1] rfl tM ?_; (with_reducible refine (laws_markIntS.calls kj38 (fun k_ => some k_ = (.slice Ao83 t317.length co83 : Value).ownBlock) (.slice Ao83 t317.length co83) t317 1 t333 t334 w _ ?side1 ?side2 A56.out).mono ?_); (case side1 => repeat (first | (with_reducible first | exact HB.out | apply below_alloc | apply pw_below_drewN | apply below_drew1 | refine below_set ?_ GE298.out | refine below_set ?_ GE316.out) | exact HB.out)); (case side2 => exact Kd.R_tight rfl HO_7.out); rintro e w84 ⟨rfl, hy0, hb, hkp⟩; refine ⟨_, rfl, ?_⟩; replace HO_4 := Aside0.mk (Kd.R_mono (ok' := fun k_ => some k_ ≠ (.slice Ao83 t317.length co83 : Value).ownBlock) (Kd.R_keptB (HO_4.out) hkp (fun k_ hk_ hs_ => (hk_) hs_)) (fun k_ hk_ => hk_.1)); replace HO_317000 := Aside0.mk (Kd.R_mono (ok' := fun k_ => some k_ ≠ (.slice Ao26 t331.length co26 : Value).ownBlock) (Kd.R_keptB ((Kd.R_apart' HO_317000.out (Kd.R_typed HO_7.out) (by decide))) hkp (fun k_ hk_ hs_ => (hk_.2) hs_)) (fun k_ hk_ => hk_.1.1)); replace HO_317001 := Aside0.mk (Kd.R_mono (ok' := fun k_ => some k_ ≠ (.slice Ao23 t330.length co23 : Value).ownBlock) (Kd.R_keptB ((Kd.R_apart' HO_317001.out (Kd.R_typed HO_7.out) (by decide))) hkp (fun k_ hk_ hs_ => (hk_.2) hs_)) (fun k_ hk_ => hk_.1.1)); replace BK298 := Aside0.mk (blk_kept (tK BK298.out) hkp (fun hs_ => (fun e_ => (Kd.R_ne HO_7.out BK298.out (by decide)) e_) hs_)); replace BK316 := Aside0.mk (blk_kept (tK BK316.out) hkp (fun hs_ => (fun e_ => (Kd.R_ne HO_7.out BK316.out (by decide)) e_) hs_)); replace HO_7 := Aside0.mk (Kd.R_reok rfl hy0 (fun k_ e_ => HO_7.out.1 k_ e_)); replace HB := Aside0.mk (hb); (try clear hb); (try clear hkp); (try clear hy0)) | ((with_reducible refine gate_callee (f := 30) rfl ?_); refine goesL_ (some 67) rfl rfl Try.func30 (by kernel_rfl) rfl #[.slice Ao83 t334.length co83, .int .i64 1] rfl (by (try simp only [List.map_toArray, List.map_cons, List.map_nil]); first | done | (rw [show t334.length = t317.length from (Kd.R_reads' HO_7.out).1.symm] <;> rfl) | rfl | (simp only [List.length_drop, List.length_take]; rfl)) ?_; (with_reducible refine (laws_heldIntS.calls kj38 _ _ t334 1 t335 _ ?side1 ?side2 A57.out).mono ?_); (case side1 => exact tC (Kd.R_reads' HO_7.out).2.2); (case side2 => rw [show t334.length = t317.length from (Kd.R_reads' HO_7.out).1.symm]; exact (Kd.R_reads' HO_7.out).2.1); rintro e w' ⟨rfl, ⟨nd, rfl⟩⟩; refine ⟨_, rfl, ?_⟩))
           go_ret
           exact ⟨by first | rfl | (simp [errW_none, errW_some] <;> rfl) | (simp [*, errW_none, errW_some] <;> rfl), tB HB.out⟩
     ·
      replace c37 := Bool.eq_false_iff.mpr c37
      subst c37
      have H1 : (some false) = some r := by rw [if_neg (show ¬ (false = true) by decide)] at H; exact H
      clear H
      have H := H1
      clear H1
      obtain rfl := Option.some.inj H
      try go_wp2
      replace HO_4 := Aside0.mk (Kd.R_drew HO_4.out)
      replace HO_7 := Aside0.mk (Kd.R_drew HO_7.out)
      replace HO_317000 := Aside0.mk (Kd.R_drew HO_317000.out)
      replace HO_317001 := Aside0.mk (Kd.R_drew HO_317001.out)
      replace BK298 := Aside0.mk (blk_drew BK298.out)
      replace BK316 := Aside0.mk (blk_drew BK316.out)
      replace HB := Aside0.mk (below_drew1 HB.out)
      refine start_ (n := 5) (S := fun w' => w'.cell? ⟨gb316, 0, none⟩ = some (.slice Ao23 t310.length co23) ∧ w'.cell? ⟨gb316, 1, none⟩ = some (.slice Ao26 t313.length co26) ∧ w'.cell? ⟨gb298, 0, none⟩ = some (.slice A0_0 l0_0.length c0_0) ∧ w'.cell? ⟨gb298, 1, none⟩ = some (.slice A0_1 l0_1.length c0_1)) (ds := []) #[false, false, false, false, false] (by kernel_rfl) rfl rfl ⟨(blk_cell BK316.out 0).trans rfl, (blk_cell BK316.out 1).trans rfl, (blk_cell BK298.out 0).trans rfl, (blk_cell BK298.out 1).trans rfl⟩ (fun hHeld => ?_)
      generalize wc.drew = w85 at HO_4 HO_7 HO_317000 HO_317001 BK298 BK316 HB hHeld ⊢
      refine tk 0 (some 41) #[y_, n_, n_, n_, n_] rfl (by kernel_rfl) hHeld (Or.inl ⟨by rfl, by rintro w' ⟨s0, s1, s2, s3⟩; go_simp; with_reducible rfl⟩) ?_
      refine tk 1 (some 42) #[y_, y_, n_, n_, n_] rfl (by kernel_rfl) hHeld (Or.inl ⟨by rfl, by rintro w' ⟨s0, s1, s2, s3⟩; go_simp; with_reducible rfl⟩) ?_
      refine one_ (i := 2) (N := some 43) #[true, true, true, false, false] rfl rfl (by kernel_rfl) (by decide) (fun K hK => ?_)
      refine goes_ Try.func17 (by kernel_rfl) rfl #[.agg #[.slice A0_0 l0_0.length c0_0, .slice A0_1 l0_1.length c0_1]] (by rfl) rfl rfl tM ?_
      with_reducible refine (laws_toMobile.calls kj10 _ _ l0_0 _ _ l0_1 t322 t325 _ ?side1 ?side2 ?side3 ?side4 A35.out).mono ?_
      (case side1 => exact tC (Kd.C_below HR0_0.out HB.out))
      (case side2 => exact HC0_0.out)
      (case side3 => exact tC (Kd.C_below HR0_1.out HB.out))
      (case side4 => exact HC0_1.out)
      rintro e w86 ⟨v323, v326, rfl, ho0, ho1, hb⟩
      refine ⟨_, rfl, ?_⟩
      replace HO_4 := Aside0.mk (Kd.R_below (tR HO_4.out) hb)
      replace HO_7 := Aside0.mk (Kd.R_below (tR HO_7.out) hb)
      have HO324 := Aside0.mk (Kd.R_lower (Kd.R_new' (Kd.R_new' ho0 (Kd.R_lt (tR HO_317000.out))) (Kd.R_lt (tR HO_317001.out))) (below_size (tB HB.out)))
      have HO327 := Aside0.mk (Kd.R_lower (Kd.R_new' (Kd.R_new' ho1 (Kd.R_lt (tR HO_317000.out))) (Kd.R_lt (tR HO_317001.out))) (below_size (tB HB.out)))
      replace HO_317000 := Aside0.mk (Kd.R_mono (Kd.R_told (Kd.R_told (Kd.R_old (tR HO_317000.out) hb) (Kd.R_base ho0)) (Kd.R_base ho1)) (fun _ h_ => h_.1))
      replace HO_317001 := Aside0.mk (Kd.R_mono (Kd.R_told (Kd.R_told (Kd.R_old (tR HO_317001.out) hb) (Kd.R_base ho0)) (Kd.R_base ho1)) (fun _ h_ => h_.1))
      replace BK298 := bkB BK298 hb
      replace BK316 := bkB BK316 hb
      replace HB := Aside0.mk (below_step (tB HB.out) hb)
      (try clear hb)
      (try clear hb2)
      (try clear hk)
      (try clear hi)
      (try clear ho0)
      (try clear ho1)
      obtain ⟨Ao87, co87, eo87⟩ := Kd.R_slice HO324.out
      (first | subst eo87 | (injection eo87 with f1_ f2_ f3_; have f4_ := f1_.symm; have f5_ := f3_.symm; clear f1_ f2_ f3_; subst f4_; subst f5_))
      obtain ⟨Ao88, co88, eo88⟩ := Kd.R_slice HO327.out
      (first | subst eo88 | (injection eo88 with f1_ f2_ f3_; have f4_ := f1_.symm; have f5_ := f3_.symm; clear f1_ f2_ f3_; subst f4_; subst f5_))
      refine hK.out _ _ ⟨(blk_cell BK316.out 0).trans rfl, (blk_cell BK316.out 1).trans rfl, (blk_cell BK298.out 0).trans rfl, (blk_cell BK298.out 1).trans rfl⟩ (fun hHeld => ?_)
      clear hK K
      refine norm_ (a' := ?_) ?_ ?_
      rotate_left
      ·
       show Act.put _ (some 43) _ = _
       simp only [Act.put, List.setIfInBounds_toArray, List.set_cons_zero, List.set_cons_succ, i64_w, i32_w]
       rfl
      refine one_ (i := 3) (N := some 44) #[true, true, true, true, false] rfl rfl (by kernel_rfl) (by decide) (fun K hK => ?_)
      refine goes_ Try.func19 (by kernel_rfl) rfl #[.agg #[.slice Ao23 t310.length co23, .slice Ao26 t313.length co26], .agg #[.slice Ao87 t322.length co87, .slice Ao88 t325.length co88]] (by rfl) rfl rfl tM ?_
      with_reducible refine (laws_eqMobile.calls kj10 _ _ t310 _ _ t313 _ _ t322 _ _ t325 false _ ?side1 ?side2 ?side3 ?side4 ?side5 ?side6 ?side7 ?side8 A36.out).mono ?_
      (case side1 => exact tC (Kd.R_reads' HO_317000.out).2.2)
      (case side2 => exact (Kd.R_reads' HO_317000.out).2.1)
      (case side3 => exact tC (Kd.R_reads' HO_317001.out).2.2)
      (case side4 => exact (Kd.R_reads' HO_317001.out).2.1)
      (case side5 => exact tC (Kd.R_reads' HO324.out).2.2)
      (case side6 => exact (Kd.R_reads' HO324.out).2.1)
      (case side7 => exact tC (Kd.R_reads' HO327.out).2.2)
      (case side8 => exact (Kd.R_reads' HO327.out).2.1)
      rintro e w89 ⟨rfl, hb⟩
      refine ⟨_, rfl, ?_⟩
      replace HO_4 := Aside0.mk (Kd.R_below (tR HO_4.out) hb)
      replace HO_7 := Aside0.mk (Kd.R_below (tR HO_7.out) hb)
      replace HO_317000 := Aside0.mk (Kd.R_below (tR HO_317000.out) hb)
      replace HO_317001 := Aside0.mk (Kd.R_below (tR HO_317001.out) hb)
      replace HO324 := Aside0.mk (Kd.R_below (tR HO324.out) hb)
      replace HO327 := Aside0.mk (Kd.R_below (tR HO327.out) hb)
      replace BK298 := bkB BK298 hb
      replace BK316 := bkB BK316 hb
      replace HB := Aside0.mk (below_step (tB HB.out) hb)
      (try clear hb)
      (try clear hb2)
      (try clear hk)
      (try clear hi)
      refine hK.out _ _ ⟨(blk_cell BK316.out 0).trans rfl, (blk_cell BK316.out 1).trans rfl, (blk_cell BK298.out 0).trans rfl, (blk_cell BK298.out 1).trans rfl⟩ (fun hHeld => ?_)
      clear hK K
      refine norm_ (a' := ?_) ?_ ?_
      rotate_left
      ·
       show Act.put _ (some 44) _ = _
       simp only [Act.put, List.setIfInBounds_toArray, List.set_cons_zero, List.set_cons_succ, i64_w, i32_w]
       rfl
      refine pu 4 (some 45) #[y_, y_, y_, y_, y_] (by kernel_rfl) ?_
      refine done_ (by kernel_rfl) ?_
      try go_wp2
      go_ret
      exact ⟨by first | rfl | (simp [errW_none, errW_some] <;> rfl) | (simp [*, errW_none, errW_some] <;> rfl), tB HB.out⟩

end Go.Proofs.Ytbdajkfihbaapaa.PFnExactLevelWeights

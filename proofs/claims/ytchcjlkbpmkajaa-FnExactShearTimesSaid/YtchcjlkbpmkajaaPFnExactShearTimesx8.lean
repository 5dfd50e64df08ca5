/- Printed by the program print2.py over the translation: each function as a Lean function, and the proof that the call comes to its answer. -/
import Derived.Test.YtchcjlkbpmkajaaPFnExactShearTimesx0
import Derived.Test.YtchcjlkbpmkajaaPFnExactShearTimesx1
import Derived.Test.YtchcjlkbpmkajaaPFnExactShearTimesx2
import Derived.Test.YtchcjlkbpmkajaaPFnExactShearTimesx5
import Derived.Test.YtchcjlkbpmkajaaPFnExactShearTimesx7
namespace Go.Proofs.Ytchcjlkbpmkajaa.PFnExactShearTimes
open Go.RowKit Go.Proofs.YtchcjlkbpmkajaaW.PrintWords Go.Proofs.YtchcjlkbpmkajaaW.PrintLast Go.Proofs.YtchcjlkbpmkajaaW.PrintMore
attribute [local go_sem] max2_int min2_int max_two min_two max_three min_three max_four min_four   -- for this text's walks alone
set_option linter.unusedVariables false
set_option linter.unusedSimpArgs false

/-! ### laws_FnExactShearTimes: function 13 -/
mutual
def laws_FnExactShearTimes.j0 : Nat → List (S59) → List Int → Bool → List (S57) → List Int → Bool → Bool → Int → Int → Int → Option (Bool)
 | 0, _, _, _, _, _, _, _, _, _, _ => none
 | k + 1, x1, x6, x7, x8, x9, x10, x46, x211000, x211001, x211002 => if x46 = true then (some false) else ((laws_toLoadS.f k x1).bind fun t233 => ((laws_eqLoadS.f k x8 t233).bind fun t236 => (if t236 = true then ((laws_markLoadS.f k x8 1).bind fun bt237 => (if bt237.1 < 0 then (laws_FnExactShearTimes.j1 k x1 x6 x7 x9 true x211000 x211001 x211002) else ((laws_eqIntS.f k x9 x6).bind fun t239 => (if t239 = true then (laws_FnExactShearTimes.j1 k x1 x6 x7 x9 (x10 != x7) x211000 x211001 x211002) else (laws_FnExactShearTimes.j1 k x1 x6 x7 x9 true x211000 x211001 x211002))))) else (some false))))
def laws_FnExactShearTimes.j1 : Nat → List (S59) → List Int → Bool → List Int → Bool → Int → Int → Int → Option (Bool)
 | 0, _, _, _, _, _, _, _, _ => none
 | k + 1, x1, x6, x7, x9, x67, x211000, x211001, x211002 => if x67 = true then (some false) else ((laws_markIntS.f k x9 1).bind fun bt240 => ((laws_heldIntS.f k bt240.2 1).bind fun t242 => (if t242 < 0 then (some false) else (if t242 = bt240.1 then ((laws_toBeam.f x211000 x211001 x211002).bind fun bt243 => ((laws_toLoadS.f k x1).bind fun t246 => ((impl_ShearTimes.f k bt243.1 bt243.2.1 bt243.2.2 t246).bind fun bt249 => ((laws_eqIntS.f k bt249.1 x6).bind fun t253 => (if t253 = true then (laws_FnExactShearTimes.j2 k bt240.2 bt240.1 (bt249.2 != x7)) else (laws_FnExactShearTimes.j2 k bt240.2 bt240.1 true)))))) else (some false)))))
def laws_FnExactShearTimes.j2 : Nat → List Int → Int → Bool → Option (Bool)
 | 0, _, _, _ => none
 | k + 1, x9, x12, x95 => if x95 = true then (some false) else ((laws_heldIntS.f k x9 1).bind fun t254 => (if t254 < 0 then (some false) else (if t254 = x12 then (some true) else (some false))))
end
def laws_FnExactShearTimes.f (k : Nat) (a0_0 : Int) (a0_1 : Int) (a0_2 : Int) (l1 : List (S59)) : Option (Bool) := (laws_szLoadS.f l1 1048576).bind fun t211 => (if t211 < 0 then (some true) else ((laws_toBeam.f a0_0 a0_1 a0_2).bind fun bt212 => ((laws_toLoadS.f k l1).bind fun t215 => ((spec_ShearTimes.f k bt212.1 bt212.2.1 bt212.2.2 t215).bind fun bt218 => ((laws_toLoadS.f k l1).bind fun t222 => ((laws_toBeam.f a0_0 a0_1 a0_2).bind fun bt225 => ((impl_ShearTimes.f k bt225.1 bt225.2.1 bt225.2.2 t222).bind fun bt228 => ((laws_eqIntS.f k bt228.1 bt218.1).bind fun t232 => (if t232 = true then (laws_FnExactShearTimes.j0 k l1 bt218.1 bt218.2 t222 bt228.1 bt228.2 (bt228.2 != bt218.2) a0_0 a0_1 a0_2) else (laws_FnExactShearTimes.j0 k l1 bt218.1 bt218.2 t222 bt228.1 bt228.2 true a0_0 a0_1 a0_2))))))))))
theorem laws_FnExactShearTimes.mono_l : ∀ k, (∀ y0 y1 y2 y3 y4 y5 y6 y7 y8 y9, LeO (laws_FnExactShearTimes.j0 k y0 y1 y2 y3 y4 y5 y6 y7 y8 y9) (laws_FnExactShearTimes.j0 (k + 1) y0 y1 y2 y3 y4 y5 y6 y7 y8 y9)) ∧ (∀ y0 y1 y2 y3 y4 y5 y6 y7, LeO (laws_FnExactShearTimes.j1 k y0 y1 y2 y3 y4 y5 y6 y7) (laws_FnExactShearTimes.j1 (k + 1) y0 y1 y2 y3 y4 y5 y6 y7)) ∧ (∀ y0 y1 y2, LeO (laws_FnExactShearTimes.j2 k y0 y1 y2) (laws_FnExactShearTimes.j2 (k + 1) y0 y1 y2))
 | 0 => ⟨fun _ _ _ _ _ _ _ _ _ _ r h => by simp [laws_FnExactShearTimes.j0] at h, fun _ _ _ _ _ _ _ _ r h => by simp [laws_FnExactShearTimes.j1] at h, fun _ _ _ r h => by simp [laws_FnExactShearTimes.j2] at h⟩
 | k + 1 => by
  obtain ⟨ih0, ih1, ih2⟩ := laws_FnExactShearTimes.mono_l k
  refine ⟨?_, ?_, ?_⟩
  ·
   intro y0 y1 y2 y3 y4 y5 y6 y7 y8 y9
   unfold laws_FnExactShearTimes.j0
   repeat' first
   | (with_reducible exact ih0 _ _ _ _ _ _ _ _ _ _)
   | (with_reducible exact ih1 _ _ _ _ _ _ _ _)
   | (with_reducible exact ih2 _ _ _)
   | (with_reducible exact impl_ShearTimes.mono _ _ _ _ _)
   | (with_reducible exact laws_eqIntS.mono _ _ _)
   | (with_reducible exact laws_eqLoadS.mono _ _ _)
   | (with_reducible exact laws_heldIntS.mono _ _ _)
   | (with_reducible exact laws_markIntS.mono _ _ _)
   | (with_reducible exact laws_markLoadS.mono _ _ _)
   | (with_reducible exact laws_toLoadS.mono _ _)
   | (with_reducible exact spec_ShearTimes.mono _ _ _ _ _)
   | (with_reducible exact LeO.refl _)
   | (with_reducible exact LeO.none _)
   | (with_reducible refine LeO.ite ?_ ?_)
   | (with_reducible refine LeO.bind ?_ (fun _ => ?_))
   | exact ih0 _ _ _ _ _ _ _ _ _ _
   | exact ih1 _ _ _ _ _ _ _ _
   | exact ih2 _ _ _
   | exact impl_ShearTimes.mono _ _ _ _ _
   | exact laws_eqIntS.mono _ _ _
   | exact laws_eqLoadS.mono _ _ _
   | exact laws_heldIntS.mono _ _ _
   | exact laws_markIntS.mono _ _ _
   | exact laws_markLoadS.mono _ _ _
   | exact laws_toLoadS.mono _ _
   | exact spec_ShearTimes.mono _ _ _ _ _
   | exact LeO.none _
   | refine LeO.ite ?_ ?_
   | refine LeO.bind ?_ (fun _ => ?_)
  ·
   intro y0 y1 y2 y3 y4 y5 y6 y7
   unfold laws_FnExactShearTimes.j1
   repeat' first
   | (with_reducible exact ih0 _ _ _ _ _ _ _ _ _ _)
   | (with_reducible exact ih1 _ _ _ _ _ _ _ _)
   | (with_reducible exact ih2 _ _ _)
   | (with_reducible exact impl_ShearTimes.mono _ _ _ _ _)
   | (with_reducible exact laws_eqIntS.mono _ _ _)
   | (with_reducible exact laws_eqLoadS.mono _ _ _)
   | (with_reducible exact laws_heldIntS.mono _ _ _)
   | (with_reducible exact laws_markIntS.mono _ _ _)
   | (with_reducible exact laws_markLoadS.mono _ _ _)
   | (with_reducible exact laws_toLoadS.mono _ _)
   | (with_reducible exact spec_ShearTimes.mono _ _ _ _ _)
   | (with_reducible exact LeO.refl _)
   | (with_reducible exact LeO.none _)
   | (with_reducible refine LeO.ite ?_ ?_)
   | (with_reducible refine LeO.bind ?_ (fun _ => ?_))
   | exact ih0 _ _ _ _ _ _ _ _ _ _
   | exact ih1 _ _ _ _ _ _ _ _
   | exact ih2 _ _ _
   | exact impl_ShearTimes.mono _ _ _ _ _
   | exact laws_eqIntS.mono _ _ _
   | exact laws_eqLoadS.mono _ _ _
   | exact laws_heldIntS.mono _ _ _
   | exact laws_markIntS.mono _ _ _
   | exact laws_markLoadS.mono _ _ _
   | exact laws_toLoadS.mono _ _
   | exact spec_ShearTimes.mono _ _ _ _ _
   | exact LeO.none _
   | refine LeO.ite ?_ ?_
   | refine LeO.bind ?_ (fun _ => ?_)
  ·
   intro y0 y1 y2
   unfold laws_FnExactShearTimes.j2
   repeat' first
   | (with_reducible exact ih0 _ _ _ _ _ _ _ _ _ _)
   | (with_reducible exact ih1 _ _ _ _ _ _ _ _)
   | (with_reducible exact ih2 _ _ _)
   | (with_reducible exact impl_ShearTimes.mono _ _ _ _ _)
   | (with_reducible exact laws_eqIntS.mono _ _ _)
   | (with_reducible exact laws_eqLoadS.mono _ _ _)
   | (with_reducible exact laws_heldIntS.mono _ _ _)
   | (with_reducible exact laws_markIntS.mono _ _ _)
   | (with_reducible exact laws_markLoadS.mono _ _ _)
   | (with_reducible exact laws_toLoadS.mono _ _)
   | (with_reducible exact spec_ShearTimes.mono _ _ _ _ _)
   | (with_reducible exact LeO.refl _)
   | (with_reducible exact LeO.none _)
   | (with_reducible refine LeO.ite ?_ ?_)
   | (with_reducible refine LeO.bind ?_ (fun _ => ?_))
   | exact ih0 _ _ _ _ _ _ _ _ _ _
   | exact ih1 _ _ _ _ _ _ _ _
   | exact ih2 _ _ _
   | exact impl_ShearTimes.mono _ _ _ _ _
   | exact laws_eqIntS.mono _ _ _
   | exact laws_eqLoadS.mono _ _ _
   | exact laws_heldIntS.mono _ _ _
   | exact laws_markIntS.mono _ _ _
   | exact laws_markLoadS.mono _ _ _
   | exact laws_toLoadS.mono _ _
   | exact spec_ShearTimes.mono _ _ _ _ _
   | exact LeO.none _
   | refine LeO.ite ?_ ?_
   | refine LeO.bind ?_ (fun _ => ?_)
theorem laws_FnExactShearTimes.mono : ∀ a0 a1 a2 a3 k, LeO (laws_FnExactShearTimes.f k a0 a1 a2 a3) (laws_FnExactShearTimes.f (k + 1) a0 a1 a2 a3) := by
 intro a0 a1 a2 a3 k
 obtain ⟨ih0, ih1, ih2⟩ := laws_FnExactShearTimes.mono_l k
 unfold laws_FnExactShearTimes.f
 repeat' first
   | (with_reducible exact ih0 _ _ _ _ _ _ _ _ _ _)
   | (with_reducible exact ih1 _ _ _ _ _ _ _ _)
   | (with_reducible exact ih2 _ _ _)
   | (with_reducible exact impl_ShearTimes.mono _ _ _ _ _)
   | (with_reducible exact laws_eqIntS.mono _ _ _)
   | (with_reducible exact laws_eqLoadS.mono _ _ _)
   | (with_reducible exact laws_heldIntS.mono _ _ _)
   | (with_reducible exact laws_markIntS.mono _ _ _)
   | (with_reducible exact laws_markLoadS.mono _ _ _)
   | (with_reducible exact laws_toLoadS.mono _ _)
   | (with_reducible exact spec_ShearTimes.mono _ _ _ _ _)
   | (with_reducible exact LeO.refl _)
   | (with_reducible exact LeO.none _)
   | (with_reducible refine LeO.ite ?_ ?_)
   | (with_reducible refine LeO.bind ?_ (fun _ => ?_))
   | exact ih0 _ _ _ _ _ _ _ _ _ _
   | exact ih1 _ _ _ _ _ _ _ _
   | exact ih2 _ _ _
   | exact impl_ShearTimes.mono _ _ _ _ _
   | exact laws_eqIntS.mono _ _ _
   | exact laws_eqLoadS.mono _ _ _
   | exact laws_heldIntS.mono _ _ _
   | exact laws_markIntS.mono _ _ _
   | exact laws_markLoadS.mono _ _ _
   | exact laws_toLoadS.mono _ _
   | exact spec_ShearTimes.mono _ _ _ _ _
   | exact LeO.none _
   | refine LeO.ite ?_ ?_
   | refine LeO.bind ?_ (fun _ => ?_)
set_option maxHeartbeats 8000000 in
set_option maxRecDepth 100000 in
theorem laws_FnExactShearTimes.calls (k : Nat) (a0_0 : Int) (a0_1 : Int) (a0_2 : Int) (A1 : Option Addr) (c1 : Nat) (l1 : List (S59)) (r : Bool) (w : World) (hr1 : Kd.C k59 w A1 l1.length l1) (hc1 : l1.length ≤ c1) (h : laws_FnExactShearTimes.f k a0_0 a0_1 a0_2 l1 = some r) :
  Calls Try.prog 13 #[.agg #[.int .i64 a0_0, .int .i64 a0_1, .int .i64 a0_2], .slice A1 l1.length c1] w fun e w' => e = .returned (.bool r) ∧ Below w.heap.size w w' := by
 have hu23 := Try.underlying23
 have HR1 := Aside0.mk hr1
 have HC1 := Aside0.mk hc1
 clear hr1 hc1
 have HB := Aside0.mk (Below.refl w.heap.size w)
 have H : ((laws_szLoadS.f l1 1048576).bind fun t211 => (if t211 < 0 then (some true) else ((laws_toBeam.f a0_0 a0_1 a0_2).bind fun bt212 => ((laws_toLoadS.f k l1).bind fun t215 => ((spec_ShearTimes.f k bt212.1 bt212.2.1 bt212.2.2 t215).bind fun bt218 => ((laws_toLoadS.f k l1).bind fun t222 => ((laws_toBeam.f a0_0 a0_1 a0_2).bind fun bt225 => ((impl_ShearTimes.f k bt225.1 bt225.2.1 bt225.2.2 t222).bind fun bt228 => ((laws_eqIntS.f k bt228.1 bt218.1).bind fun t232 => (if t232 = true then (laws_FnExactShearTimes.j0 k l1 bt218.1 bt218.2 t222 bt228.1 bt228.2 (bt228.2 != bt218.2) a0_0 a0_1 a0_2) else (laws_FnExactShearTimes.j0 k l1 bt218.1 bt218.2 t222 bt228.1 bt228.2 true a0_0 a0_1 a0_2))))))))))) = some r := h
 clear h
 replace H := Option.bind_eq_some_iff.mp H
 obtain ⟨t211, A30, H⟩ := H
 replace H : (if t211 < 0 then (some true) else ((laws_toBeam.f a0_0 a0_1 a0_2).bind fun bt212 => ((laws_toLoadS.f k l1).bind fun t215 => ((spec_ShearTimes.f k bt212.1 bt212.2.1 bt212.2.2 t215).bind fun bt218 => ((laws_toLoadS.f k l1).bind fun t222 => ((laws_toBeam.f a0_0 a0_1 a0_2).bind fun bt225 => ((impl_ShearTimes.f k bt225.1 bt225.2.1 bt225.2.2 t222).bind fun bt228 => ((laws_eqIntS.f k bt228.1 bt218.1).bind fun t232 => (if t232 = true then (laws_FnExactShearTimes.j0 k l1 bt218.1 bt218.2 t222 bt228.1 bt228.2 (bt228.2 != bt218.2) a0_0 a0_1 a0_2) else (laws_FnExactShearTimes.j0 k l1 bt218.1 bt218.2 t222 bt228.1 bt228.2 true a0_0 a0_1 a0_2)))))))))) = some r := H
 have A3 := Aside0.mk A30
 clear A30
 by_cases c4 : t211 < 0
 ·
  rw [if_pos c4] at H
  have c4b0 : decide (t211 < 0) = true := decide_eq_true c4
  clear c4
  obtain rfl := Option.some.inj H
  go_enter Try.func13, Try.ntmps13
  go_wp2_with (first | ((with_reducible refine gate_dst (N := 2) rfl ?_); refine box_event ?hg (N := 2) ?hd (cs := #[.int .i64 a0_0, .int .i64 a0_1, .int .i64 a0_2]) (t := 23) ?hr ?_; (case hd => rfl); (case hg => rfl); (case hr => first | (go_simp; done) | (go_simp; rfl)); intro gb210 hg w5 hbox hb; have BK210 := Aside0.mk (hbox); have GW210 := Aside0.mk (bS HB.out hg); have GE210 := Aside0.mk (bS HB.out hg); replace HB := Aside0.mk (below_step (tB HB.out) hb); clear hb hbox hg) | ((with_reducible refine gate_callee (f := 21) rfl ?_); refine goesL_ (some 18) rfl rfl Try.func21 (by kernel_rfl) rfl #[.slice A1 l1.length c1, .int .i64 1048576] rfl tM ?_; (with_reducible refine (laws_szLoadS.calls _ _ l1 1048576 t211 _ ?side1 ?side2 A3.out).mono ?_); (case side1 => exact tC (Kd.C_below HR1.out HB.out)); (case side2 => exact HC1.out); rintro e w' ⟨rfl, ⟨nd, rfl⟩⟩; refine ⟨_, rfl, ?_⟩))
  go_ret
  exact ⟨by first | rfl | (simp [errW_none, errW_some] <;> rfl) | (simp [*, errW_none, errW_some] <;> rfl), tB HB.out⟩
 ·
  rw [if_neg c4] at H
  have c4b0 : decide (t211 < 0) = false := decide_eq_false c4
  clear c4
  replace H := Option.bind_eq_some_iff.mp H
  obtain ⟨⟨t212, t213, t214⟩, A60, H⟩ := H
  replace H : ((laws_toLoadS.f k l1).bind fun t215 => ((spec_ShearTimes.f k t212 t213 t214 t215).bind fun bt218 => ((laws_toLoadS.f k l1).bind fun t222 => ((laws_toBeam.f a0_0 a0_1 a0_2).bind fun bt225 => ((impl_ShearTimes.f k bt225.1 bt225.2.1 bt225.2.2 t222).bind fun bt228 => ((laws_eqIntS.f k bt228.1 bt218.1).bind fun t232 => (if t232 = true then (laws_FnExactShearTimes.j0 k l1 bt218.1 bt218.2 t222 bt228.1 bt228.2 (bt228.2 != bt218.2) a0_0 a0_1 a0_2) else (laws_FnExactShearTimes.j0 k l1 bt218.1 bt218.2 t222 bt228.1 bt228.2 true a0_0 a0_1 a0_2)))))))) = some r := H
  have A6 := Aside0.mk A60
  clear A60
  replace H := Option.bind_eq_some_iff.mp H
  obtain ⟨t215, A70, H⟩ := H
  replace H : ((spec_ShearTimes.f k t212 t213 t214 t215).bind fun bt218 => ((laws_toLoadS.f k l1).bind fun t222 => ((laws_toBeam.f a0_0 a0_1 a0_2).bind fun bt225 => ((impl_ShearTimes.f k bt225.1 bt225.2.1 bt225.2.2 t222).bind fun bt228 => ((laws_eqIntS.f k bt228.1 bt218.1).bind fun t232 => (if t232 = true then (laws_FnExactShearTimes.j0 k l1 bt218.1 bt218.2 t222 bt228.1 bt228.2 (bt228.2 != bt218.2) a0_0 a0_1 a0_2) else (laws_FnExactShearTimes.j0 k l1 bt218.1 bt218.2 t222 bt228.1 bt228.2 true a0_0 a0_1 a0_2))))))) = some r := H
  have A7 := Aside0.mk A70
  clear A70
  replace H := Option.bind_eq_some_iff.mp H
  obtain ⟨⟨t218, t221⟩, A80, H⟩ := H
  replace H : ((laws_toLoadS.f k l1).bind fun t222 => ((laws_toBeam.f a0_0 a0_1 a0_2).bind fun bt225 => ((impl_ShearTimes.f k bt225.1 bt225.2.1 bt225.2.2 t222).bind fun bt228 => ((laws_eqIntS.f k bt228.1 t218).bind fun t232 => (if t232 = true then (laws_FnExactShearTimes.j0 k l1 t218 t221 t222 bt228.1 bt228.2 (bt228.2 != t221) a0_0 a0_1 a0_2) else (laws_FnExactShearTimes.j0 k l1 t218 t221 t222 bt228.1 bt228.2 true a0_0 a0_1 a0_2)))))) = some r := H
  have A8 := Aside0.mk A80
  clear A80
  replace H := Option.bind_eq_some_iff.mp H
  obtain ⟨t222, A90, H⟩ := H
  replace H : ((laws_toBeam.f a0_0 a0_1 a0_2).bind fun bt225 => ((impl_ShearTimes.f k bt225.1 bt225.2.1 bt225.2.2 t222).bind fun bt228 => ((laws_eqIntS.f k bt228.1 t218).bind fun t232 => (if t232 = true then (laws_FnExactShearTimes.j0 k l1 t218 t221 t222 bt228.1 bt228.2 (bt228.2 != t221) a0_0 a0_1 a0_2) else (laws_FnExactShearTimes.j0 k l1 t218 t221 t222 bt228.1 bt228.2 true a0_0 a0_1 a0_2))))) = some r := H
  have A9 := Aside0.mk A90
  clear A90
  replace H := Option.bind_eq_some_iff.mp H
  obtain ⟨⟨t225, t226, t227⟩, A100, H⟩ := H
  replace H : ((impl_ShearTimes.f k t225 t226 t227 t222).bind fun bt228 => ((laws_eqIntS.f k bt228.1 t218).bind fun t232 => (if t232 = true then (laws_FnExactShearTimes.j0 k l1 t218 t221 t222 bt228.1 bt228.2 (bt228.2 != t221) a0_0 a0_1 a0_2) else (laws_FnExactShearTimes.j0 k l1 t218 t221 t222 bt228.1 bt228.2 true a0_0 a0_1 a0_2)))) = some r := H
  have A10 := Aside0.mk A100
  clear A100
  replace H := Option.bind_eq_some_iff.mp H
  obtain ⟨⟨t228, t231⟩, A110, H⟩ := H
  replace H : ((laws_eqIntS.f k t228 t218).bind fun t232 => (if t232 = true then (laws_FnExactShearTimes.j0 k l1 t218 t221 t222 t228 t231 (t231 != t221) a0_0 a0_1 a0_2) else (laws_FnExactShearTimes.j0 k l1 t218 t221 t222 t228 t231 true a0_0 a0_1 a0_2))) = some r := H
  have A11 := Aside0.mk A110
  clear A110
  have HC12 := Aside0.mk H
  clear H
  go_enter Try.func13, Try.ntmps13
  go_upto_region 8 with (first | ((with_reducible refine gate_dst (N := 2) rfl ?_); refine box_event ?hg (N := 2) ?hd (cs := #[.int .i64 a0_0, .int .i64 a0_1, .int .i64 a0_2]) (t := 23) ?hr ?_; (case hd => rfl); (case hg => rfl); (case hr => first | (go_simp; done) | (go_simp; rfl)); intro gb210 hg w13 hbox hb; have BK210 := Aside0.mk (hbox); have GW210 := Aside0.mk (bS HB.out hg); have GE210 := Aside0.mk (bS HB.out hg); replace HB := Aside0.mk (below_step (tB HB.out) hb); clear hb hbox hg) | ((with_reducible refine gate_callee (f := 21) rfl ?_); refine goesL_ (some 18) rfl rfl Try.func21 (by kernel_rfl) rfl #[.slice A1 l1.length c1, .int .i64 1048576] rfl tM ?_; (with_reducible refine (laws_szLoadS.calls _ _ l1 1048576 t211 _ ?side1 ?side2 A3.out).mono ?_); (case side1 => exact tC (Kd.C_below HR1.out HB.out)); (case side2 => exact HC1.out); rintro e w' ⟨rfl, ⟨nd, rfl⟩⟩; refine ⟨_, rfl, ?_⟩; obtain ⟨hcz14_0, hfz14_0, hcz14_1, hfz14_1, hcz14_2, hfz14_2⟩ := cz3 BK210) | ((with_reducible refine gate_callee (f := 16) rfl ?_); refine goesL_ (some 23) rfl rfl Try.func16 (by kernel_rfl) rfl #[.agg #[.int .i64 a0_0, .int .i64 a0_1, .int .i64 a0_2]] rfl tM ?_; (with_reducible refine (laws_toBeam.calls a0_0 a0_1 a0_2 t212 t213 t214 _ A6.out).mono ?_); rintro e w15 ⟨rfl, hb⟩; refine ⟨_, rfl, ?_⟩; replace BK210 := bkB BK210 hb; replace HB := Aside0.mk (below_step (tB HB.out) hb); (try clear hb); (try clear hb2); (try clear hk); (try clear hi)) | ((with_reducible refine gate_callee (f := 23) rfl ?_); refine goesL_ (some 25) rfl rfl Try.func23 (by kernel_rfl) rfl #[.slice A1 l1.length c1] rfl tM ?_; (with_reducible refine (laws_toLoadS.calls k _ _ l1 t215 _ ?side1 ?side2 A7.out).mono ?_); (case side1 => exact tC (Kd.C_below HR1.out HB.out)); (case side2 => exact HC1.out); rintro e w16 ⟨v216, rfl, ho0, hb⟩; refine ⟨_, rfl, ?_⟩; have HO217 := Aside0.mk (Kd.R_lower ho0 (below_size (tB HB.out))); replace BK210 := bkB BK210 hb; replace HB := Aside0.mk (below_step (tB HB.out) hb); (try clear hb); (try clear hb2); (try clear hk); (try clear hi); (try clear ho0); obtain ⟨Ao17, co17, eo17⟩ := Kd.R_slice HO217.out; subst eo17) | ((with_reducible refine gate_callee (f := 45) rfl ?_); refine goesL_ (some 26) rfl rfl Try.func45 (by kernel_rfl) rfl #[.agg #[.int .i64 t212, .int .i64 t213, .int .i64 t214], .slice Ao17 t215.length co17] rfl tM ?_; (with_reducible refine (spec_ShearTimes.calls k t212 t213 t214 _ _ t215 t218 t221 _ ?side1 ?side2 A8.out).mono ?_); (case side1 => exact tC (Kd.R_reads' HO217.out).2.2); (case side2 => exact (Kd.R_reads' HO217.out).2.1); rintro e w18 ⟨v219, rfl, ho0, hb⟩; refine ⟨_, rfl, ?_⟩; replace HO217 := Aside0.mk (Kd.R_below (tR HO217.out) hb); have HO220 := Aside0.mk (Kd.R_lower ho0 (below_size (tB HB.out))); replace BK210 := bkB BK210 hb; replace HB := Aside0.mk (below_step (tB HB.out) hb); (try clear hb); (try clear hb2); (try clear hk); (try clear hi); (try clear ho0)) | ((with_reducible refine gate_callee (f := 23) rfl ?_); refine goesL_ (some 30) rfl rfl Try.func23 (by kernel_rfl) rfl #[.slice A1 l1.length c1] rfl tM ?_; (with_reducible refine (laws_toLoadS.calls k _ _ l1 t222 _ ?side1 ?side2 A9.out).mono ?_); (case side1 => exact tC (Kd.C_below HR1.out HB.out)); (case side2 => exact HC1.out); rintro e w19 ⟨v223, rfl, ho0, hb⟩; refine ⟨_, rfl, ?_⟩; replace HO220 := Aside0.mk (Kd.R_below (tR HO220.out) hb); have HO224 := Aside0.mk (Kd.R_lower (Kd.R_new' ho0 (Kd.R_lt (tR HO217.out))) (below_size (tB HB.out))); replace HO217 := Aside0.mk (Kd.R_elder' (tR HO217.out) (Kd.R_base ho0) hb); replace BK210 := bkB BK210 hb; replace HB := Aside0.mk (below_step (tB HB.out) hb); (try clear hb); (try clear hb2); (try clear hk); (try clear hi); (try clear ho0); obtain ⟨hcz20_0, hfz20_0, hcz20_1, hfz20_1, hcz20_2, hfz20_2⟩ := cz3 BK210) | ((with_reducible refine gate_callee (f := 16) rfl ?_); refine goesL_ (some 33) rfl rfl Try.func16 (by kernel_rfl) rfl #[.agg #[.int .i64 a0_0, .int .i64 a0_1, .int .i64 a0_2]] rfl tM ?_; (with_reducible refine (laws_toBeam.calls a0_0 a0_1 a0_2 t225 t226 t227 _ A10.out).mono ?_); rintro e w21 ⟨rfl, hb⟩; refine ⟨_, rfl, ?_⟩; replace HO217 := Aside0.mk (Kd.R_below (tR HO217.out) hb); replace HO220 := Aside0.mk (Kd.R_below (tR HO220.out) hb); replace HO224 := Aside0.mk (Kd.R_below (tR HO224.out) hb); replace BK210 := bkB BK210 hb; replace HB := Aside0.mk (below_step (tB HB.out) hb); (try clear hb); (try clear hb2); (try clear hk); (try clear hi); obtain ⟨Ao22, co22, eo22⟩ := Kd.R_slice HO224.out; subst eo22) | ((with_reducible refine gate_callee (f := 46) rfl ?_); refine goesL_ (some 35) rfl rfl Try.func46 (by kernel_rfl) rfl #[.agg #[.int .i64 t225, .int .i64 t226, .int .i64 t227], .slice Ao22 t222.length co22] rfl tM ?_; (with_reducible refine (impl_ShearTimes.calls k t225 t226 t227 _ _ t222 t228 t231 _ ?side1 ?side2 A11.out).mono ?_); (case side1 => exact tC (Kd.R_reads' HO224.out).2.2); (case side2 => exact (Kd.R_reads' HO224.out).2.1); rintro e w23 ⟨v229, rfl, ho0, hb⟩; refine ⟨_, rfl, ?_⟩; replace HO217 := Aside0.mk (Kd.R_below (tR HO217.out) hb); replace HO224 := Aside0.mk (Kd.R_below (tR HO224.out) hb); have HO230 := Aside0.mk (Kd.R_lower (Kd.R_new' ho0 (Kd.R_lt (tR HO220.out))) (below_size (tB HB.out))); replace HO220 := Aside0.mk (Kd.R_elder' (tR HO220.out) (Kd.R_base ho0) hb); replace BK210 := bkB BK210 hb; replace HB := Aside0.mk (below_step (tB HB.out) hb); (try clear hb); (try clear hb2); (try clear hk); (try clear hi); (try clear ho0)))
  (try simp only [Act.put, List.setIfInBounds_toArray, List.set_cons_zero, List.set_cons_succ])
  go_cut [46] (fun v46 wc => ∃ (kq : Nat) (x46_11 : Bool), v46 = .bool x46_11 ∧ Aside0 (laws_FnExactShearTimes.j0 kq l1 t218 t221 t222 t228 t231 x46_11 a0_0 a0_1 a0_2 = some r) ∧ Aside0 (kq ≤ k) ∧ Aside0 (Kd.R (Kd.int .i64) 3 wc w.heap.size (fun k_ => some k_ ≠ (v229 : Value).ownBlock) v219 t218) ∧ Aside0 (Kd.R k57 57 wc w.heap.size (fun _ => True) (.slice Ao22 t222.length co22) t222) ∧ Aside0 (Kd.R (Kd.int .i64) 3 wc w.heap.size (fun k_ => some k_ ≠ (v219 : Value).ownBlock) v229 t228) ∧ Aside0 (wc.heap[gb210]? = some (.cells #[.int .i64 a0_0, .int .i64 a0_1, .int .i64 a0_2] 23 (0, 0))) ∧ Aside0 (Below w.heap.size w wc))
  case first =>
   have H := HC12.out
   clear HC12
   replace H := Option.bind_eq_some_iff.mp H
   obtain ⟨t232, A240, H⟩ := H
   replace H : (if t232 = true then (laws_FnExactShearTimes.j0 k l1 t218 t221 t222 t228 t231 (t231 != t221) a0_0 a0_1 a0_2) else (laws_FnExactShearTimes.j0 k l1 t218 t221 t222 t228 t231 true a0_0 a0_1 a0_2)) = some r := H
   have A24 := Aside0.mk A240
   clear A240
   by_cases c25 : t232 = true
   ·
    subst c25
    have H1 : (laws_FnExactShearTimes.j0 k l1 t218 t221 t222 t228 t231 (t231 != t221) a0_0 a0_1 a0_2) = some r := by rw [if_pos rfl] at H; exact H
    clear H
    have H := H1
    clear H1
    have H' := Aside0.mk H
    clear H
    obtain ⟨Ao26, co26, eo26⟩ := Kd.R_slice HO230.out
    subst eo26
    obtain ⟨Ao27, co27, eo27⟩ := Kd.R_slice HO220.out
    subst eo27
    go_wp2_with (first | ((with_reducible refine gate_callee (f := 28) rfl ?_); refine goesL_ (some 40) rfl rfl Try.func28 (by kernel_rfl) rfl #[.slice Ao26 t228.length co26, .slice Ao27 t218.length co27] rfl tM ?_; (with_reducible refine (laws_eqIntS.calls k _ _ t228 _ _ t218 true _ ?side1 ?side2 ?side3 ?side4 A24.out).mono ?_); (case side1 => exact tC (Kd.R_reads' HO230.out).2.2); (case side2 => exact (Kd.R_reads' HO230.out).2.1); (case side3 => exact tC (Kd.R_reads' HO220.out).2.2); (case side4 => exact (Kd.R_reads' HO220.out).2.1); rintro e w' ⟨rfl, ⟨nd, rfl⟩⟩; refine ⟨_, rfl, ?_⟩))
    go_meet
    case rel => exact ⟨_, ((t231 != t221)), (by first | rfl | (simp; done) | (simp [wrap64]; done) | (simp [*]; done)), H', ⟨by first | omega | exact Nat.le_refl _⟩, ⟨by (with_reducible repeat (first | apply Kd.R_alloc | apply Kd.R_drewN | apply Kd.R_drew)); exact Kd.R_mono HO220.out (fun _ hk => hk.2)⟩, ⟨by (with_reducible repeat (first | apply Kd.R_alloc | apply Kd.R_drewN | apply Kd.R_drew)); exact Kd.R_mono HO224.out (fun _ hk => trivial)⟩, ⟨by (with_reducible repeat (first | apply Kd.R_alloc | apply Kd.R_drewN | apply Kd.R_drew)); exact Kd.R_mono HO230.out (fun _ hk => hk.2)⟩, ⟨tK BK210.out⟩, ⟨tB HB.out⟩⟩
   ·
    replace c25 := Bool.eq_false_iff.mpr c25
    subst c25
    have H1 : (laws_FnExactShearTimes.j0 k l1 t218 t221 t222 t228 t231 true a0_0 a0_1 a0_2) = some r := by rw [if_neg (show ¬ (false = true) by decide)] at H; exact H
    clear H
    have H := H1
    clear H1
    have H' := Aside0.mk H
    clear H
    obtain ⟨Ao28, co28, eo28⟩ := Kd.R_slice HO230.out
    subst eo28
    obtain ⟨Ao29, co29, eo29⟩ := Kd.R_slice HO220.out
    subst eo29
    go_wp2_with (first | ((with_reducible refine gate_callee (f := 28) rfl ?_); refine goesL_ (some 40) rfl rfl Try.func28 (by kernel_rfl) rfl #[.slice Ao28 t228.length co28, .slice Ao29 t218.length co29] rfl tM ?_; (with_reducible refine (laws_eqIntS.calls k _ _ t228 _ _ t218 false _ ?side1 ?side2 ?side3 ?side4 A24.out).mono ?_); (case side1 => exact tC (Kd.R_reads' HO230.out).2.2); (case side2 => exact (Kd.R_reads' HO230.out).2.1); (case side3 => exact tC (Kd.R_reads' HO220.out).2.2); (case side4 => exact (Kd.R_reads' HO220.out).2.1); rintro e w' ⟨rfl, ⟨nd, rfl⟩⟩; refine ⟨_, rfl, ?_⟩))
    go_meet
    case rel => exact ⟨_, (true), (by first | rfl | (simp; done) | (simp [wrap64]; done) | (simp [*]; done)), H', ⟨by first | omega | exact Nat.le_refl _⟩, ⟨by (with_reducible repeat (first | apply Kd.R_alloc | apply Kd.R_drewN | apply Kd.R_drew)); exact Kd.R_mono HO220.out (fun _ hk => hk.2)⟩, ⟨by (with_reducible repeat (first | apply Kd.R_alloc | apply Kd.R_drewN | apply Kd.R_drew)); exact Kd.R_mono HO224.out (fun _ hk => trivial)⟩, ⟨by (with_reducible repeat (first | apply Kd.R_alloc | apply Kd.R_drewN | apply Kd.R_drew)); exact Kd.R_mono HO230.out (fun _ hk => hk.2)⟩, ⟨tK BK210.out⟩, ⟨tB HB.out⟩⟩
  case rest =>
   clear HC12
   try clear c1
   try clear c2
   try clear p2
   try clear c4
   try clear c4b0
   try clear p6
   try clear c13
   try clear c16
   try clear c21
   try clear c23
   try clear c25
   try clear c28
   try clear hcz14_0
   try clear hcz14_1
   try clear hcz14_2
   try clear hcz20_0
   try clear hcz20_1
   try clear hcz20_2
   try clear hfz14_0
   try clear hfz14_1
   try clear hfz14_2
   try clear hfz20_0
   try clear hfz20_1
   try clear hfz20_2
   obtain ⟨kq, x46_11, rfl, HA, HJ11, HO_6, HO_8, HO_9, BK210, HB⟩ := hcut
   cases kq with
   | zero => exact absurd HA.out (by simp [laws_FnExactShearTimes.j0])
   | succ kj11 =>
    have H := HA.out
    clear HA
    simp only [laws_FnExactShearTimes.j0] at H
    by_cases c30 : x46_11 = true
    ·
     subst c30
     have H1 : (some false) = some r := by rw [if_pos rfl] at H; exact H
     clear H
     have H := H1
     clear H1
     obtain rfl := Option.some.inj H
     go_wp2
     go_ret
     exact ⟨by first | rfl | (simp [errW_none, errW_some] <;> rfl) | (simp [*, errW_none, errW_some] <;> rfl), tB HB.out⟩
    ·
     replace c30 := Bool.eq_false_iff.mpr c30
     subst c30
     have H1 : ((laws_toLoadS.f kj11 l1).bind fun t233 => ((laws_eqLoadS.f kj11 t222 t233).bind fun t236 => (if t236 = true then ((laws_markLoadS.f kj11 t222 1).bind fun bt237 => (if bt237.1 < 0 then (laws_FnExactShearTimes.j1 kj11 l1 t218 t221 t228 true a0_0 a0_1 a0_2) else ((laws_eqIntS.f kj11 t228 t218).bind fun t239 => (if t239 = true then (laws_FnExactShearTimes.j1 kj11 l1 t218 t221 t228 (t231 != t221) a0_0 a0_1 a0_2) else (laws_FnExactShearTimes.j1 kj11 l1 t218 t221 t228 true a0_0 a0_1 a0_2))))) else (some false)))) = some r := by rw [if_neg (show ¬ (false = true) by decide)] at H; exact H
     clear H
     have H := H1
     clear H1
     replace H := Option.bind_eq_some_iff.mp H
     obtain ⟨t233, A310, H⟩ := H
     replace H : ((laws_eqLoadS.f kj11 t222 t233).bind fun t236 => (if t236 = true then ((laws_markLoadS.f kj11 t222 1).bind fun bt237 => (if bt237.1 < 0 then (laws_FnExactShearTimes.j1 kj11 l1 t218 t221 t228 true a0_0 a0_1 a0_2) else ((laws_eqIntS.f kj11 t228 t218).bind fun t239 => (if t239 = true then (laws_FnExactShearTimes.j1 kj11 l1 t218 t221 t228 (t231 != t221) a0_0 a0_1 a0_2) else (laws_FnExactShearTimes.j1 kj11 l1 t218 t221 t228 true a0_0 a0_1 a0_2))))) else (some false))) = some r := H
     have A31 := Aside0.mk A310
     clear A310
     replace H := Option.bind_eq_some_iff.mp H
     obtain ⟨t236, A320, H⟩ := H
     replace H : (if t236 = true then ((laws_markLoadS.f kj11 t222 1).bind fun bt237 => (if bt237.1 < 0 then (laws_FnExactShearTimes.j1 kj11 l1 t218 t221 t228 true a0_0 a0_1 a0_2) else ((laws_eqIntS.f kj11 t228 t218).bind fun t239 => (if t239 = true then (laws_FnExactShearTimes.j1 kj11 l1 t218 t221 t228 (t231 != t221) a0_0 a0_1 a0_2) else (laws_FnExactShearTimes.j1 kj11 l1 t218 t221 t228 true a0_0 a0_1 a0_2))))) else (some false)) = some r := H
     have A32 := Aside0.mk A320
     clear A320
     by_cases c33 : t236 = true
     ·
      subst c33
      have H1 : ((laws_markLoadS.f kj11 t222 1).bind fun bt237 => (if bt237.1 < 0 then (laws_FnExactShearTimes.j1 kj11 l1 t218 t221 t228 true a0_0 a0_1 a0_2) else ((laws_eqIntS.f kj11 t228 t218).bind fun t239 => (if t239 = true then (laws_FnExactShearTimes.j1 kj11 l1 t218 t221 t228 (t231 != t221) a0_0 a0_1 a0_2) else (laws_FnExactShearTimes.j1 kj11 l1 t218 t221 t228 true a0_0 a0_1 a0_2))))) = some r := by rw [if_pos rfl] at H; exact H
      clear H
      have H := H1
      clear H1
      replace H := Option.bind_eq_some_iff.mp H
      obtain ⟨⟨t237, t238⟩, A340, H⟩ := H
      replace H : (if t237 < 0 then (laws_FnExactShearTimes.j1 kj11 l1 t218 t221 t228 true a0_0 a0_1 a0_2) else ((laws_eqIntS.f kj11 t228 t218).bind fun t239 => (if t239 = true then (laws_FnExactShearTimes.j1 kj11 l1 t218 t221 t228 (t231 != t221) a0_0 a0_1 a0_2) else (laws_FnExactShearTimes.j1 kj11 l1 t218 t221 t228 true a0_0 a0_1 a0_2)))) = some r := H
      have A34 := Aside0.mk A340
      clear A340
      have HC35 := Aside0.mk H
      clear H
      go_upto_region 14 with (first | ((with_reducible refine gate_callee (f := 23) rfl ?_); refine goesL_ (some 49) rfl rfl Try.func23 (by kernel_rfl) rfl #[.slice A1 l1.length c1] rfl tM ?_; (with_reducible refine (laws_toLoadS.calls kj11 _ _ l1 t233 _ ?side1 ?side2 A31.out).mono ?_); (case side1 => exact tC (Kd.C_below HR1.out HB.out)); (case side2 => exact HC1.out); rintro e w36 ⟨v234, rfl, ho0, hb⟩; refine ⟨_, rfl, ?_⟩; replace HO_6 := Aside0.mk (Kd.R_below (tR HO_6.out) hb); replace HO_9 := Aside0.mk (Kd.R_below (tR HO_9.out) hb); have HO235 := Aside0.mk (Kd.R_lower (Kd.R_new' ho0 (Kd.R_lt (tR HO_8.out))) (below_size (tB HB.out))); replace HO_8 := Aside0.mk (Kd.R_elder' (tR HO_8.out) (Kd.R_base ho0) hb); replace BK210 := bkB BK210 hb; replace HB := Aside0.mk (below_step (tB HB.out) hb); (try clear hb); (try clear hb2); (try clear hk); (try clear hi); (try clear ho0); obtain ⟨Ao37, co37, eo37⟩ := Kd.R_slice HO235.out; subst eo37) | ((with_reducible refine gate_callee (f := 25) rfl ?_); refine goesL_ (some 50) rfl rfl Try.func25 (by kernel_rfl) rfl #[.slice Ao22 t222.length co22, .slice Ao37 t233.length co37] rfl tM ?_; (with_reducible refine (laws_eqLoadS.calls kj11 _ _ t222 _ _ t233 true _ ?side1 ?side2 ?side3 ?side4 A32.out).mono ?_); (case side1 => exact tC (Kd.R_reads' HO_8.out).2.2); (case side2 => exact (Kd.R_reads' HO_8.out).2.1); (case side3 => exact tC (Kd.R_reads' HO235.out).2.2); (case side4 => exact (Kd.R_reads' HO235.out).2.1); rintro e w38 ⟨rfl, hb⟩; refine ⟨_, rfl, ?_⟩; replace HO_6 := Aside0.mk (Kd.R_below (tR HO_6.out) hb); replace HO_8 := Aside0.mk (Kd.R_below (tR HO_8.out) hb); replace HO_9 := Aside0.mk (Kd.R_below (tR HO_9.out) hb); replace HO235 := Aside0.mk (Kd.R_below (tR HO235.out) hb); replace BK210 := bkB BK210 hb; replace HB := Aside0.mk (below_step (tB HB.out) hb); (try clear hb); (try clear hb2); (try clear hk); (try clear hi)) | ((with_reducible refine gate_callee (f := 33) rfl ?_); refine goesL_ (some 54) rfl rfl Try.func33 (by kernel_rfl) rfl #[.slice Ao22 t222.length co22, .int .i64 1] rfl tM ?_; (with_reducible refine (laws_markLoadS.calls kj11 (fun k_ => some k_ = (.slice Ao22 t222.length co22 : Value).ownBlock) (.slice Ao22 t222.length co22) t222 1 t237 t238 w _ ?side1 ?side2 A34.out).mono ?_); (case side1 => repeat (first | (with_reducible first | exact HB.out | apply below_alloc | apply pw_below_drewN | apply below_drew1 | refine below_set ?_ GE210.out) | exact HB.out)); (case side2 => exact Kd.R_tight rfl HO_8.out); rintro e w39 ⟨rfl, hy0, hb, hkp⟩; refine ⟨_, rfl, ?_⟩; replace HO_6 := Aside0.mk (Kd.R_mono (ok' := fun k_ => some k_ ≠ (v229 : Value).ownBlock) (Kd.R_keptB ((Kd.R_apart' HO_6.out (Kd.R_typed HO_8.out) (by decide))) hkp (fun k_ hk_ hs_ => (hk_.2) hs_)) (fun k_ hk_ => hk_.1.1)); replace HO_9 := Aside0.mk (Kd.R_mono (ok' := fun k_ => some k_ ≠ (v219 : Value).ownBlock) (Kd.R_keptB ((Kd.R_apart' HO_9.out (Kd.R_typed HO_8.out) (by decide))) hkp (fun k_ hk_ hs_ => (hk_.2) hs_)) (fun k_ hk_ => hk_.1.1)); replace BK210 := Aside0.mk (blk_kept (tK BK210.out) hkp (fun hs_ => (fun e_ => (Kd.R_ne HO_8.out BK210.out (by decide)) e_) hs_)); replace HO_8 := Aside0.mk (Kd.R_reok rfl hy0 (fun k_ e_ => HO_8.out.1 k_ e_)); replace HO235 := Aside0.mk (Kd.R_mono (ok' := fun k_ => some k_ ≠ (.slice Ao22 t222.length co22 : Value).ownBlock) (Kd.R_keptB (HO235.out) hkp (fun k_ hk_ hs_ => (hk_.2) hs_)) (fun k_ hk_ => hk_.1.2)); replace HB := Aside0.mk (hb); (try clear hb); (try clear hkp); (try clear hy0)))
      (try simp only [Act.put, List.setIfInBounds_toArray, List.set_cons_zero, List.set_cons_succ])
      go_cut [67] (fun v67 wc => ∃ (kq : Nat) (x67_34 : Bool), v67 = .bool x67_34 ∧ Aside0 (laws_FnExactShearTimes.j1 kq l1 t218 t221 t228 x67_34 a0_0 a0_1 a0_2 = some r) ∧ Aside0 (kq ≤ kj11) ∧ Aside0 (Kd.R (Kd.int .i64) 3 wc w.heap.size (fun k_ => some k_ ≠ (v229 : Value).ownBlock) v219 t218) ∧ Aside0 (Kd.R (Kd.int .i64) 3 wc w.heap.size (fun k_ => some k_ ≠ (v219 : Value).ownBlock) v229 t228) ∧ Aside0 (wc.heap[gb210]? = some (.cells #[.int .i64 a0_0, .int .i64 a0_1, .int .i64 a0_2] 23 (0, 0))) ∧ Aside0 (Below w.heap.size w wc))
      case first =>
       have H := HC35.out
       clear HC35
       by_cases c40 : t237 < 0
       ·
        rw [if_pos c40] at H
        have c40b0 : decide (t237 < 0) = true := decide_eq_true c40
        clear c40
        (first | rw [c40b0] | (simp only [i64_w, i32_w]; rw [c40b0]) | skip)
        have H' := Aside0.mk H
        clear H
        go_wp2
        go_meet
        case rel => exact ⟨_, (true), (by first | rfl | (simp; done) | (simp [wrap64]; done) | (simp [*]; done)), H', ⟨by have := HJ11.out; first | omega | exact Nat.le_refl _⟩, ⟨tR HO_6.out⟩, ⟨tR HO_9.out⟩, ⟨tK BK210.out⟩, ⟨tB HB.out⟩⟩
       ·
        rw [if_neg c40] at H
        have c40b0 : decide (t237 < 0) = false := decide_eq_false c40
        clear c40
        (first | rw [c40b0] | (simp only [i64_w, i32_w]; rw [c40b0]) | skip)
        replace H := Option.bind_eq_some_iff.mp H
        obtain ⟨t239, A410, H⟩ := H
        replace H : (if t239 = true then (laws_FnExactShearTimes.j1 kj11 l1 t218 t221 t228 (t231 != t221) a0_0 a0_1 a0_2) else (laws_FnExactShearTimes.j1 kj11 l1 t218 t221 t228 true a0_0 a0_1 a0_2)) = some r := H
        have A41 := Aside0.mk A410
        clear A410
        by_cases c42 : t239 = true
        ·
         subst c42
         have H1 : (laws_FnExactShearTimes.j1 kj11 l1 t218 t221 t228 (t231 != t221) a0_0 a0_1 a0_2) = some r := by rw [if_pos rfl] at H; exact H
         clear H
         have H := H1
         clear H1
         have H' := Aside0.mk H
         clear H
         obtain ⟨Ao43, co43, eo43⟩ := Kd.R_slice HO_9.out
         subst eo43
         obtain ⟨Ao44, co44, eo44⟩ := Kd.R_slice HO_6.out
         subst eo44
         go_wp2_with (first | (go_at_call 28; (with_reducible refine (laws_eqIntS.calls kj11 _ _ t228 _ _ t218 true _ ?side1 ?side2 ?side3 ?side4 A41.out).mono ?_); (case side1 => exact tC (Kd.R_reads' HO_9.out).2.2); (case side2 => exact (Kd.R_reads' HO_9.out).2.1); (case side3 => exact tC (Kd.R_reads' HO_6.out).2.2); (case side4 => exact (Kd.R_reads' HO_6.out).2.1); rintro e w' ⟨rfl, ⟨nd, rfl⟩⟩))
         go_meet
         case rel => exact ⟨_, ((t231 != t221)), (by first | rfl | (simp; done) | (simp [wrap64]; done) | (simp [*]; done)), H', ⟨by have := HJ11.out; first | omega | exact Nat.le_refl _⟩, ⟨tR HO_6.out⟩, ⟨tR HO_9.out⟩, ⟨tK BK210.out⟩, ⟨tB HB.out⟩⟩
        ·
         replace c42 := Bool.eq_false_iff.mpr c42
         subst c42
         have H1 : (laws_FnExactShearTimes.j1 kj11 l1 t218 t221 t228 true a0_0 a0_1 a0_2) = some r := by rw [if_neg (show ¬ (false = true) by decide)] at H; exact H
         clear H
         have H := H1
         clear H1
         have H' := Aside0.mk H
         clear H
         obtain ⟨Ao45, co45, eo45⟩ := Kd.R_slice HO_9.out
         subst eo45
         obtain ⟨Ao46, co46, eo46⟩ := Kd.R_slice HO_6.out
         subst eo46
         go_wp2_with (first | (go_at_call 28; (with_reducible refine (laws_eqIntS.calls kj11 _ _ t228 _ _ t218 false _ ?side1 ?side2 ?side3 ?side4 A41.out).mono ?_); (case side1 => exact tC (Kd.R_reads' HO_9.out).2.2); (case side2 => exact (Kd.R_reads' HO_9.out).2.1); (case side3 => exact tC (Kd.R_reads' HO_6.out).2.2); (case side4 => exact (Kd.R_reads' HO_6.out).2.1); rintro e w' ⟨rfl, ⟨nd, rfl⟩⟩))
         go_meet
         case rel => exact ⟨_, (true), (by first | rfl | (simp; done) | (simp [wrap64]; done) | (simp [*]; done)), H', ⟨by have := HJ11.out; first | omega | exact Nat.le_refl _⟩, ⟨tR HO_6.out⟩, ⟨tR HO_9.out⟩, ⟨tK BK210.out⟩, ⟨tB HB.out⟩⟩
      case rest =>
       clear HC35
       try clear c1
       try clear c2
       try clear p2
       try clear c3
       try clear c4
       try clear c4b0
       try clear p6
       try clear c13
       try clear c16
       try clear c21
       try clear c23
       try clear c25
       try clear c28
       try clear c30
       try clear c33
       try clear c40
       try clear c40b0
       try clear c42
       try clear c45
       try clear c46
       try clear hcz14_0
       try clear hcz14_1
       try clear hcz14_2
       try clear hcz20_0
       try clear hcz20_1
       try clear hcz20_2
       try clear hfz14_0
       try clear hfz14_1
       try clear hfz14_2
       try clear hfz20_0
       try clear hfz20_1
       try clear hfz20_2
       try clear p2
       try clear p6
       obtain ⟨kq, x67_34, rfl, HA, HJ34, HO_6, HO_9, BK210, HB⟩ := hcut
       cases kq with
       | zero => exact absurd HA.out (by simp [laws_FnExactShearTimes.j1])
       | succ kj34 =>
        have H := HA.out
        clear HA
        simp only [laws_FnExactShearTimes.j1] at H
        by_cases c47 : x67_34 = true
        ·
         subst c47
         have H1 : (some false) = some r := by rw [if_pos rfl] at H; exact H
         clear H
         have H := H1
         clear H1
         obtain rfl := Option.some.inj H
         go_wp2
         go_ret
         exact ⟨by first | rfl | (simp [errW_none, errW_some] <;> rfl) | (simp [*, errW_none, errW_some] <;> rfl), tB HB.out⟩
        ·
         replace c47 := Bool.eq_false_iff.mpr c47
         subst c47
         have H1 : ((laws_markIntS.f kj34 t228 1).bind fun bt240 => ((laws_heldIntS.f kj34 bt240.2 1).bind fun t242 => (if t242 < 0 then (some false) else (if t242 = bt240.1 then ((laws_toBeam.f a0_0 a0_1 a0_2).bind fun bt243 => ((laws_toLoadS.f kj34 l1).bind fun t246 => ((impl_ShearTimes.f kj34 bt243.1 bt243.2.1 bt243.2.2 t246).bind fun bt249 => ((laws_eqIntS.f kj34 bt249.1 t218).bind fun t253 => (if t253 = true then (laws_FnExactShearTimes.j2 kj34 bt240.2 bt240.1 (bt249.2 != t221)) else (laws_FnExactShearTimes.j2 kj34 bt240.2 bt240.1 true)))))) else (some false))))) = some r := by rw [if_neg (show ¬ (false = true) by decide)] at H; exact H
         clear H
         have H := H1
         clear H1
         replace H := Option.bind_eq_some_iff.mp H
         obtain ⟨⟨t240, t241⟩, A480, H⟩ := H
         replace H : ((laws_heldIntS.f kj34 t241 1).bind fun t242 => (if t242 < 0 then (some false) else (if t242 = t240 then ((laws_toBeam.f a0_0 a0_1 a0_2).bind fun bt243 => ((laws_toLoadS.f kj34 l1).bind fun t246 => ((impl_ShearTimes.f kj34 bt243.1 bt243.2.1 bt243.2.2 t246).bind fun bt249 => ((laws_eqIntS.f kj34 bt249.1 t218).bind fun t253 => (if t253 = true then (laws_FnExactShearTimes.j2 kj34 t241 t240 (bt249.2 != t221)) else (laws_FnExactShearTimes.j2 kj34 t241 t240 true)))))) else (some false)))) = some r := H
         have A48 := Aside0.mk A480
         clear A480
         replace H := Option.bind_eq_some_iff.mp H
         obtain ⟨t242, A490, H⟩ := H
         replace H : (if t242 < 0 then (some false) else (if t242 = t240 then ((laws_toBeam.f a0_0 a0_1 a0_2).bind fun bt243 => ((laws_toLoadS.f kj34 l1).bind fun t246 => ((impl_ShearTimes.f kj34 bt243.1 bt243.2.1 bt243.2.2 t246).bind fun bt249 => ((laws_eqIntS.f kj34 bt249.1 t218).bind fun t253 => (if t253 = true then (laws_FnExactShearTimes.j2 kj34 t241 t240 (bt249.2 != t221)) else (laws_FnExactShearTimes.j2 kj34 t241 t240 true)))))) else (some false))) = some r := H
         have A49 := Aside0.mk A490
         clear A490
         by_cases c50 : t242 < 0
         ·
          rw [if_pos c50] at H
          have c50b0 : decide (t242 < 0) = true := decide_eq_true c50
          clear c50
          obtain rfl := Option.some.inj H
          obtain ⟨Ao51, co51, eo51⟩ := Kd.R_slice HO_9.out
          subst eo51
          go_wp2_with (first | ((with_reducible refine gate_callee (f := 29) rfl ?_); refine goesL_ (some 70) rfl rfl Try.func29 (by kernel_rfl) rfl #[.slice Ao51 t228.length co51, .int .i64 1] rfl tM ?_; (with_reducible refine (laws_markIntS.calls kj34 (fun k_ => some k_ = (.slice Ao51 t228.length co51 : Value).ownBlock) (.slice Ao51 t228.length co51) t228 1 t240 t241 w _ ?side1 ?side2 A48.out).mono ?_); (case side1 => repeat (first | (with_reducible first | exact HB.out | apply below_alloc | apply pw_below_drewN | apply below_drew1 | refine below_set ?_ GE210.out) | exact HB.out)); (case side2 => exact Kd.R_tight rfl HO_9.out); rintro e w52 ⟨rfl, hy0, hb, hkp⟩; refine ⟨_, rfl, ?_⟩; replace HO_6 := Aside0.mk (Kd.R_mono (ok' := fun k_ => some k_ ≠ (.slice Ao51 t228.length co51 : Value).ownBlock) (Kd.R_keptB (HO_6.out) hkp (fun k_ hk_ hs_ => (hk_) hs_)) (fun k_ hk_ => hk_.1)); replace BK210 := Aside0.mk (blk_kept (tK BK210.out) hkp (fun hs_ => (fun e_ => (Kd.R_ne HO_9.out BK210.out (by decide)) e_) hs_)); replace HO_9 := Aside0.mk (Kd.R_reok rfl hy0 (fun k_ e_ => HO_9.out.1 k_ e_)); replace HB := Aside0.mk (hb); (try clear hb); (try clear hkp); (try clear hy0)) | ((with_reducible refine gate_callee (f := 30) rfl ?_); refine goesL_ (some 73) rfl rfl Try.func30 (by kernel_rfl) rfl #[.slice Ao51 t241.length co51, .int .i64 1] rfl (by (try simp only [List.map_toArray, List.map_cons, List.map_nil]); first | done | (rw [show t241.length = t228.length from (Kd.R_reads' HO_9.out).1.symm] <;> rfl) | rfl | (simp only [List.length_drop, List.length_take]; rfl)) ?_; (with_reducible refine (laws_heldIntS.calls kj34 _ _ t241 1 t242 _ ?side1 ?side2 A49.out).mono ?_); (case side1 => exact tC (Kd.R_reads' HO_9.out).2.2); (case side2 => rw [show t241.length = t228.length from (Kd.R_reads' HO_9.out).1.symm]; exact (Kd.R_reads' HO_9.out).2.1); rintro e w' ⟨rfl, ⟨nd, rfl⟩⟩; refine ⟨_, rfl, ?_⟩))
          go_ret
          exact ⟨by first | rfl | (simp [errW_none, errW_some] <;> rfl) | (simp [*, errW_none, errW_some] <;> rfl), tB HB.out⟩
         ·
          rw [if_neg c50] at H
          have c50b0 : decide (t242 < 0) = false := decide_eq_false c50
          clear c50
          by_cases c53 : t242 = t240
          ·
           rw [if_pos c53] at H
           have c53b0 : (t242 == t240) = true := beq_iff_eq.mpr c53
           have c53b1 : (t242 != t240) = false := bne_eq_false_iff_eq.mpr c53
           clear c53
           replace H := Option.bind_eq_some_iff.mp H
           obtain ⟨⟨t243, t244, t245⟩, A540, H⟩ := H
           replace H : ((laws_toLoadS.f kj34 l1).bind fun t246 => ((impl_ShearTimes.f kj34 t243 t244 t245 t246).bind fun bt249 => ((laws_eqIntS.f kj34 bt249.1 t218).bind fun t253 => (if t253 = true then (laws_FnExactShearTimes.j2 kj34 t241 t240 (bt249.2 != t221)) else (laws_FnExactShearTimes.j2 kj34 t241 t240 true))))) = some r := H
           have A54 := Aside0.mk A540
           clear A540
           replace H := Option.bind_eq_some_iff.mp H
           obtain ⟨t246, A550, H⟩ := H
           replace H : ((impl_ShearTimes.f kj34 t243 t244 t245 t246).bind fun bt249 => ((laws_eqIntS.f kj34 bt249.1 t218).bind fun t253 => (if t253 = true then (laws_FnExactShearTimes.j2 kj34 t241 t240 (bt249.2 != t221)) else (laws_FnExactShearTimes.j2 kj34 t241 t240 true)))) = some r := H
           have A55 := Aside0.mk A550
           clear A550
           replace H := Option.bind_eq_some_iff.mp H
           obtain ⟨⟨t249, t252⟩, A560, H⟩ := H
           replace H : ((laws_eqIntS.f kj34 t249 t218).bind fun t253 => (if t253 = true then (laws_FnExactShearTimes.j2 kj34 t241 t240 (t252 != t221)) else (laws_FnExactShearTimes.j2 kj34 t241 t240 true))) = some r := H
           have A56 := Aside0.mk A560
           clear A560
           have HC57 := Aside0.mk H
           clear H
           obtain ⟨Ao58, co58, eo58⟩ := Kd.R_slice HO_9.out
           subst eo58
           go_upto_region 25 with (first | ((with_reducible refine gate_callee (f := 29) rfl ?_); refine goesL_ (some 70) rfl rfl Try.func29 (by kernel_rfl) rfl #[.slice Ao58 t228.length co58, .int .i64 1] rfl tM ?_; (with_reducible refine (laws_markIntS.calls kj34 (fun k_ => some k_ = (.slice Ao58 t228.length co58 : Value).ownBlock) (.slice Ao58 t228.length co58) t228 1 t240 t241 w _ ?side1 ?side2 A48.out).mono ?_); (case side1 => repeat (first | (with_reducible first | exact HB.out | apply below_alloc | apply pw_below_drewN | apply below_drew1 | refine below_set ?_ GE210.out) | exact HB.out)); (case side2 => exact Kd.R_tight rfl HO_9.out); rintro e w59 ⟨rfl, hy0, hb, hkp⟩; refine ⟨_, rfl, ?_⟩; replace HO_6 := Aside0.mk (Kd.R_mono (ok' := fun k_ => some k_ ≠ (.slice Ao58 t228.length co58 : Value).ownBlock) (Kd.R_keptB (HO_6.out) hkp (fun k_ hk_ hs_ => (hk_) hs_)) (fun k_ hk_ => hk_.1)); replace BK210 := Aside0.mk (blk_kept (tK BK210.out) hkp (fun hs_ => (fun e_ => (Kd.R_ne HO_9.out BK210.out (by decide)) e_) hs_)); replace HO_9 := Aside0.mk (Kd.R_reok rfl hy0 (fun k_ e_ => HO_9.out.1 k_ e_)); replace HB := Aside0.mk (hb); (try clear hb); (try clear hkp); (try clear hy0)) | ((with_reducible refine gate_callee (f := 30) rfl ?_); refine goesL_ (some 73) rfl rfl Try.func30 (by kernel_rfl) rfl #[.slice Ao58 t241.length co58, .int .i64 1] rfl (by (try simp only [List.map_toArray, List.map_cons, List.map_nil]); first | done | (rw [show t241.length = t228.length from (Kd.R_reads' HO_9.out).1.symm] <;> rfl) | rfl | (simp only [List.length_drop, List.length_take]; rfl)) ?_; (with_reducible refine (laws_heldIntS.calls kj34 _ _ t241 1 t242 _ ?side1 ?side2 A49.out).mono ?_); (case side1 => exact tC (Kd.R_reads' HO_9.out).2.2); (case side2 => rw [show t241.length = t228.length from (Kd.R_reads' HO_9.out).1.symm]; exact (Kd.R_reads' HO_9.out).2.1); rintro e w' ⟨rfl, ⟨nd, rfl⟩⟩; refine ⟨_, rfl, ?_⟩; obtain ⟨hcz60_0, hfz60_0, hcz60_1, hfz60_1, hcz60_2, hfz60_2⟩ := cz3 BK210) | ((with_reducible refine gate_callee (f := 16) rfl ?_); refine goesL_ (some 81) rfl rfl Try.func16 (by kernel_rfl) rfl #[.agg #[.int .i64 a0_0, .int .i64 a0_1, .int .i64 a0_2]] rfl tM ?_; (with_reducible refine (laws_toBeam.calls a0_0 a0_1 a0_2 t243 t244 t245 _ A54.out).mono ?_); rintro e w61 ⟨rfl, hb⟩; refine ⟨_, rfl, ?_⟩; replace HO_6 := Aside0.mk (Kd.R_below (tR HO_6.out) hb); replace HO_9 := Aside0.mk (Kd.R_below (tR HO_9.out) hb); replace BK210 := bkB BK210 hb; replace HB := Aside0.mk (below_step (tB HB.out) hb); (try clear hb); (try clear hb2); (try clear hk); (try clear hi)) | ((with_reducible refine gate_callee (f := 23) rfl ?_); refine goesL_ (some 83) rfl rfl Try.func23 (by kernel_rfl) rfl #[.slice A1 l1.length c1] rfl tM ?_; (with_reducible refine (laws_toLoadS.calls kj34 _ _ l1 t246 _ ?side1 ?side2 A55.out).mono ?_); (case side1 => exact tC (Kd.C_below HR1.out HB.out)); (case side2 => exact HC1.out); rintro e w62 ⟨v247, rfl, ho0, hb⟩; refine ⟨_, rfl, ?_⟩; replace HO_6 := Aside0.mk (Kd.R_below (tR HO_6.out) hb); replace HO_9 := Aside0.mk (Kd.R_below (tR HO_9.out) hb); have HO248 := Aside0.mk (Kd.R_lower ho0 (below_size (tB HB.out))); replace BK210 := bkB BK210 hb; replace HB := Aside0.mk (below_step (tB HB.out) hb); (try clear hb); (try clear hb2); (try clear hk); (try clear hi); (try clear ho0); obtain ⟨Ao63, co63, eo63⟩ := Kd.R_slice HO248.out; subst eo63) | ((with_reducible refine gate_callee (f := 46) rfl ?_); refine goesL_ (some 84) rfl rfl Try.func46 (by kernel_rfl) rfl #[.agg #[.int .i64 t243, .int .i64 t244, .int .i64 t245], .slice Ao63 t246.length co63] rfl tM ?_; (with_reducible refine (impl_ShearTimes.calls kj34 t243 t244 t245 _ _ t246 t249 t252 _ ?side1 ?side2 A56.out).mono ?_); (case side1 => exact tC (Kd.R_reads' HO248.out).2.2); (case side2 => exact (Kd.R_reads' HO248.out).2.1); rintro e w64 ⟨v250, rfl, ho0, hb⟩; refine ⟨_, rfl, ?_⟩; replace HO248 := Aside0.mk (Kd.R_below (tR HO248.out) hb); have HO251 := Aside0.mk (Kd.R_lower (Kd.R_new' (Kd.R_new' ho0 (Kd.R_lt (tR HO_6.out))) (Kd.R_lt (tR HO_9.out))) (below_size (tB HB.out))); replace HO_6 := Aside0.mk (Kd.R_elder' (tR HO_6.out) (Kd.R_base ho0) hb); replace HO_9 := Aside0.mk (Kd.R_elder' (tR HO_9.out) (Kd.R_base ho0) hb); replace BK210 := bkB BK210 hb; replace HB := Aside0.mk (below_step (tB HB.out) hb); (try clear hb); (try clear hb2); (try clear hk); (try clear hi); (try clear ho0)))
           (try simp only [Act.put, List.setIfInBounds_toArray, List.set_cons_zero, List.set_cons_succ])
           go_cut [95] (fun v95 wc => ∃ (kq : Nat) (x95_56 : Bool), v95 = .bool x95_56 ∧ Aside0 (laws_FnExactShearTimes.j2 kq t241 t240 x95_56 = some r) ∧ Aside0 (kq ≤ kj34) ∧ Aside0 (Kd.R (Kd.int .i64) 3 wc w.heap.size (fun _ => True) (.slice Ao58 t228.length co58) t241) ∧ Aside0 (wc.heap[gb210]? = some (.cells #[.int .i64 a0_0, .int .i64 a0_1, .int .i64 a0_2] 23 (0, 0))) ∧ Aside0 (Below w.heap.size w wc))
           case first =>
            have H := HC57.out
            clear HC57
            replace H := Option.bind_eq_some_iff.mp H
            obtain ⟨t253, A650, H⟩ := H
            replace H : (if t253 = true then (laws_FnExactShearTimes.j2 kj34 t241 t240 (t252 != t221)) else (laws_FnExactShearTimes.j2 kj34 t241 t240 true)) = some r := H
            have A65 := Aside0.mk A650
            clear A650
            by_cases c66 : t253 = true
            ·
             subst c66
             have H1 : (laws_FnExactShearTimes.j2 kj34 t241 t240 (t252 != t221)) = some r := by rw [if_pos rfl] at H; exact H
             clear H
             have H := H1
             clear H1
             have H' := Aside0.mk H
             clear H
             obtain ⟨Ao67, co67, eo67⟩ := Kd.R_slice HO251.out
             subst eo67
             obtain ⟨Ao68, co68, eo68⟩ := Kd.R_slice HO_6.out
             subst eo68
             go_wp2_with (first | ((with_reducible refine gate_callee (f := 28) rfl ?_); refine goesL_ (some 89) rfl rfl Try.func28 (by kernel_rfl) rfl #[.slice Ao67 t249.length co67, .slice Ao68 t218.length co68] rfl tM ?_; (with_reducible refine (laws_eqIntS.calls kj34 _ _ t249 _ _ t218 true _ ?side1 ?side2 ?side3 ?side4 A65.out).mono ?_); (case side1 => exact tC (Kd.R_reads' HO251.out).2.2); (case side2 => exact (Kd.R_reads' HO251.out).2.1); (case side3 => exact tC (Kd.R_reads' HO_6.out).2.2); (case side4 => exact (Kd.R_reads' HO_6.out).2.1); rintro e w' ⟨rfl, ⟨nd, rfl⟩⟩; refine ⟨_, rfl, ?_⟩))
             go_meet
             case rel => exact ⟨_, ((t252 != t221)), (by first | rfl | (simp; done) | (simp [wrap64]; done) | (simp [*]; done)), H', ⟨by have := HJ11.out; have := HJ34.out; first | omega | exact Nat.le_refl _⟩, ⟨by (with_reducible repeat (first | apply Kd.R_alloc | apply Kd.R_drewN | apply Kd.R_drew)); exact Kd.R_mono HO_9.out (fun _ hk => trivial)⟩, ⟨tK BK210.out⟩, ⟨tB HB.out⟩⟩
            ·
             replace c66 := Bool.eq_false_iff.mpr c66
             subst c66
             have H1 : (laws_FnExactShearTimes.j2 kj34 t241 t240 true) = some r := by rw [if_neg (show ¬ (false = true) by decide)] at H; exact H
             clear H
             have H := H1
             clear H1
             have H' := Aside0.mk H
             clear H
             obtain ⟨Ao69, co69, eo69⟩ := Kd.R_slice HO251.out
             subst eo69
             obtain ⟨Ao70, co70, eo70⟩ := Kd.R_slice HO_6.out
             subst eo70
             go_wp2_with (first | ((with_reducible refine gate_callee (f := 28) rfl ?_); refine goesL_ (some 89) rfl rfl Try.func28 (by kernel_rfl) rfl #[.slice Ao69 t249.length co69, .slice Ao70 t218.length co70] rfl tM ?_; (with_reducible refine (laws_eqIntS.calls kj34 _ _ t249 _ _ t218 false _ ?side1 ?side2 ?side3 ?side4 A65.out).mono ?_); (case side1 => exact tC (Kd.R_reads' HO251.out).2.2); (case side2 => exact (Kd.R_reads' HO251.out).2.1); (case side3 => exact tC (Kd.R_reads' HO_6.out).2.2); (case side4 => exact (Kd.R_reads' HO_6.out).2.1); rintro e w' ⟨rfl, ⟨nd, rfl⟩⟩; refine ⟨_, rfl, ?_⟩))
             go_meet
             case rel => exact ⟨_, (true), (by first | rfl | (simp; done) | (simp [wrap64]; done) | (simp [*]; done)), H', ⟨by have := HJ11.out; have := HJ34.out; first | omega | exact Nat.le_refl _⟩, ⟨by (with_reducible repeat (first | apply Kd.R_alloc | apply Kd.R_drewN | apply Kd.R_drew)); exact Kd.R_mono HO_9.out (fun _ hk => trivial)⟩, ⟨tK BK210.out⟩, ⟨tB HB.out⟩⟩
           case rest =>
            clear HC57
            try clear c1
            try clear c2
            try clear p2
            try clear c3
            try clear c4
            try clear c4b0
            try clear c5
            try clear c6
            try clear p6
            try clear c13
            try clear c16
            try clear c21
            try clear c23
            try clear c25
            try clear c28
            try clear c29
            try clear c30
            try clear c33
            try clear c40
            try clear c40b0
            try clear c42
            try clear c45
            try clear c46
            try clear c47
            try clear c50
            try clear c50b0
            try clear c53
            try clear c53b0
            try clear c53b1
            try clear p64
            try clear c66
            try clear hcz14_0
            try clear hcz14_1
            try clear hcz14_2
            try clear hcz20_0
            try clear hcz20_1
            try clear hcz20_2
            try clear hcz60_0
            try clear hcz60_1
            try clear hcz60_2
            try clear hfz14_0
            try clear hfz14_1
            try clear hfz14_2
            try clear hfz20_0
            try clear hfz20_1
            try clear hfz20_2
            try clear hfz60_0
            try clear hfz60_1
            try clear hfz60_2
            try clear p2
            try clear p6
            obtain ⟨kq, x95_56, rfl, HA, HJ56, HO_9, BK210, HB⟩ := hcut
            have hl9_56 := (Kd.R_reads' HO_9.out).1
            rw [hl9_56] at HO_9
            (try simp only [hl9_56])
            (try simp only [hl9_56] at BK210)
            cases kq with
            | zero => exact absurd HA.out (by simp [laws_FnExactShearTimes.j2])
            | succ kj56 =>
             have H := HA.out
             clear HA
             simp only [laws_FnExactShearTimes.j2] at H
             by_cases c71 : x95_56 = true
             ·
              subst c71
              have H1 : (some false) = some r := by rw [if_pos rfl] at H; exact H
              clear H
              have H := H1
              clear H1
              obtain rfl := Option.some.inj H
              go_wp2
              go_ret
              exact ⟨by first | rfl | (simp [errW_none, errW_some] <;> rfl) | (simp [*, errW_none, errW_some] <;> rfl), tB HB.out⟩
             ·
              replace c71 := Bool.eq_false_iff.mpr c71
              subst c71
              have H1 : ((laws_heldIntS.f kj56 t241 1).bind fun t254 => (if t254 < 0 then (some false) else (if t254 = t240 then (some true) else (some false)))) = some r := by rw [if_neg (show ¬ (false = true) by decide)] at H; exact H
              clear H
              have H := H1
              clear H1
              replace H := Option.bind_eq_some_iff.mp H
              obtain ⟨t254, A720, H⟩ := H
              replace H : (if t254 < 0 then (some false) else (if t254 = t240 then (some true) else (some false))) = some r := H
              have A72 := Aside0.mk A720
              clear A720
              by_cases c73 : t254 < 0
              ·
               rw [if_pos c73] at H
               have c73b0 : decide (t254 < 0) = true := decide_eq_true c73
               clear c73
               obtain rfl := Option.some.inj H
               go_wp2_with (first | ((with_reducible refine gate_callee (f := 30) rfl ?_); refine goesL_ (some 98) rfl rfl Try.func30 (by kernel_rfl) rfl #[.slice Ao58 t241.length co58, .int .i64 1] rfl tM ?_; (with_reducible refine (laws_heldIntS.calls kj56 _ _ t241 1 t254 _ ?side1 ?side2 A72.out).mono ?_); (case side1 => exact tC (Kd.R_reads' HO_9.out).2.2); (case side2 => exact (Kd.R_reads' HO_9.out).2.1); rintro e w' ⟨rfl, ⟨nd, rfl⟩⟩; refine ⟨_, rfl, ?_⟩))
               go_ret
               exact ⟨by first | rfl | (simp [errW_none, errW_some] <;> rfl) | (simp [*, errW_none, errW_some] <;> rfl), tB HB.out⟩
              ·
               rw [if_neg c73] at H
               have c73b0 : decide (t254 < 0) = false := decide_eq_false c73
               clear c73
               by_cases c74 : t254 = t240
               ·
                rw [if_pos c74] at H
                have c74b0 : (t254 == t240) = true := beq_iff_eq.mpr c74
                have c74b1 : (t254 != t240) = false := bne_eq_false_iff_eq.mpr c74
                clear c74
                obtain rfl := Option.some.inj H
                go_wp2_with (first | ((with_reducible refine gate_callee (f := 30) rfl ?_); refine goesL_ (some 98) rfl rfl Try.func30 (by kernel_rfl) rfl #[.slice Ao58 t241.length co58, .int .i64 1] rfl tM ?_; (with_reducible refine (laws_heldIntS.calls kj56 _ _ t241 1 t254 _ ?side1 ?side2 A72.out).mono ?_); (case side1 => exact tC (Kd.R_reads' HO_9.out).2.2); (case side2 => exact (Kd.R_reads' HO_9.out).2.1); rintro e w' ⟨rfl, ⟨nd, rfl⟩⟩; refine ⟨_, rfl, ?_⟩))
                go_ret
                exact ⟨by first | rfl | (simp [errW_none, errW_some] <;> rfl) | (simp [*, errW_none, errW_some] <;> rfl), tB HB.out⟩
               ·
                rw [if_neg c74] at H
                have c74b0 : (t254 == t240) = false := beq_eq_false_iff_ne.mpr c74
                have c74b1 : (t254 != t240) = true := bne_iff_ne.mpr c74
                obtain rfl := Option.some.inj H
                go_wp2_with (first | ((with_reducible refine gate_callee (f := 30) rfl ?_); refine goesL_ (some 98) rfl rfl Try.func30 (by kernel_rfl) rfl #[.slice Ao58 t241.length co58, .int .i64 1] rfl tM ?_; (with_reducible refine (laws_heldIntS.calls kj56 _ _ t241 1 t254 _ ?side1 ?side2 A72.out).mono ?_); (case side1 => exact tC (Kd.R_reads' HO_9.out).2.2); (case side2 => exact (Kd.R_reads' HO_9.out).2.1); rintro e w' ⟨rfl, ⟨nd, rfl⟩⟩; refine ⟨_, rfl, ?_⟩))
                go_ret
                exact ⟨by first | rfl | (simp [errW_none, errW_some] <;> rfl) | (simp [*, errW_none, errW_some] <;> rfl), tB HB.out⟩
          ·
           rw [if_neg c53] at H
           have c53b0 : (t242 == t240) = false := beq_eq_false_iff_ne.mpr c53
           have c53b1 : (t242 != t240) = true := bne_iff_ne.mpr c53
           obtain rfl := Option.some.inj H
           obtain ⟨Ao75, co75, eo75⟩ := Kd.R_slice HO_9.out
           subst eo75
           go_wp2_with (first | ((with_reducible refine gate_callee (f := 29) rfl ?_); refine goesL_ (some 70) rfl rfl Try.func29 (by kernel_rfl) rfl #[.slice Ao75 t228.length co75, .int .i64 1] rfl tM ?_; (with_reducible refine (laws_markIntS.calls kj34 (fun k_ => some k_ = (.slice Ao75 t228.length co75 : Value).ownBlock) (.slice Ao75 t228.length co75) t228 1 t240 t241 w _ ?side1 ?side2 A48.out).mono ?_); (case side1 => repeat (first | (with_reducible first | exact HB.out | apply below_alloc | apply pw_below_drewN | apply below_drew1 | refine below_set ?_ GE210.out) | exact HB.out)); (case side2 => exact Kd.R_tight rfl HO_9.out); rintro e w76 ⟨rfl, hy0, hb, hkp⟩; refine ⟨_, rfl, ?_⟩; replace HO_6 := Aside0.mk (Kd.R_mono (ok' := fun k_ => some k_ ≠ (.slice Ao75 t228.length co75 : Value).ownBlock) (Kd.R_keptB (HO_6.out) hkp (fun k_ hk_ hs_ => (hk_) hs_)) (fun k_ hk_ => hk_.1)); replace BK210 := Aside0.mk (blk_kept (tK BK210.out) hkp (fun hs_ => (fun e_ => (Kd.R_ne HO_9.out BK210.out (by decide)) e_) hs_)); replace HO_9 := Aside0.mk (Kd.R_reok rfl hy0 (fun k_ e_ => HO_9.out.1 k_ e_)); replace HB := Aside0.mk (hb); (try clear hb); (try clear hkp); (try clear hy0)) | ((with_reducible refine gate_callee (f := 30) rfl ?_); refine goesL_ (some 73) rfl rfl Try.func30 (by kernel_rfl) rfl #[.slice Ao75 t241.length co75, .int .i64 1] rfl (by (try simp only [List.map_toArray, List.map_cons, List.map_nil]); first | done | (rw [show t241.length = t228.length from (Kd.R_reads' HO_9.out).1.symm] <;> rfl) | rfl | (simp only [List.length_drop, List.length_take]; rfl)) ?_; (with_reducible refine (laws_heldIntS.calls kj34 _ _ t241 1 t242 _ ?side1 ?side2 A49.out).mono ?_); (case side1 => exact tC (Kd.R_reads' HO_9.out).2.2); (case side2 => rw [show t241.length = t228.length from (Kd.R_reads' HO_9.out).1.symm]; exact (Kd.R_reads' HO_9.out).2.1); rintro e w' ⟨rfl, ⟨nd, rfl⟩⟩; refine ⟨_, rfl, ?_⟩))
           go_ret
           exact ⟨by first | rfl | (simp [errW_none, errW_some] <;> rfl) | (simp [*, errW_none, errW_some] <;> rfl), tB HB.out⟩
     ·
      replace c33 := Bool.eq_false_iff.mpr c33
      subst c33
      have H1 : (some false) = some r := by rw [if_neg (show ¬ (false = true) by decide)] at H; exact H
      clear H
      have H := H1
      clear H1
      obtain rfl := Option.some.inj H
      go_wp2_with (first | ((with_reducible refine gate_callee (f := 23) rfl ?_); refine goesL_ (some 49) rfl rfl Try.func23 (by kernel_rfl) rfl #[.slice A1 l1.length c1] rfl tM ?_; (with_reducible refine (laws_toLoadS.calls kj11 _ _ l1 t233 _ ?side1 ?side2 A31.out).mono ?_); (case side1 => exact tC (Kd.C_below HR1.out HB.out)); (case side2 => exact HC1.out); rintro e w77 ⟨v234, rfl, ho0, hb⟩; refine ⟨_, rfl, ?_⟩; replace HO_6 := Aside0.mk (Kd.R_below (tR HO_6.out) hb); replace HO_9 := Aside0.mk (Kd.R_below (tR HO_9.out) hb); have HO235 := Aside0.mk (Kd.R_lower (Kd.R_new' ho0 (Kd.R_lt (tR HO_8.out))) (below_size (tB HB.out))); replace HO_8 := Aside0.mk (Kd.R_elder' (tR HO_8.out) (Kd.R_base ho0) hb); replace BK210 := bkB BK210 hb; replace HB := Aside0.mk (below_step (tB HB.out) hb); (try clear hb); (try clear hb2); (try clear hk); (try clear hi); (try clear ho0); obtain ⟨Ao78, co78, eo78⟩ := Kd.R_slice HO235.out; subst eo78) | ((with_reducible refine gate_callee (f := 25) rfl ?_); refine goesL_ (some 50) rfl rfl Try.func25 (by kernel_rfl) rfl #[.slice Ao22 t222.length co22, .slice Ao78 t233.length co78] rfl tM ?_; (with_reducible refine (laws_eqLoadS.calls kj11 _ _ t222 _ _ t233 false _ ?side1 ?side2 ?side3 ?side4 A32.out).mono ?_); (case side1 => exact tC (Kd.R_reads' HO_8.out).2.2); (case side2 => exact (Kd.R_reads' HO_8.out).2.1); (case side3 => exact tC (Kd.R_reads' HO235.out).2.2); (case side4 => exact (Kd.R_reads' HO235.out).2.1); rintro e w79 ⟨rfl, hb⟩; refine ⟨_, rfl, ?_⟩; replace HO_6 := Aside0.mk (Kd.R_below (tR HO_6.out) hb); replace HO_8 := Aside0.mk (Kd.R_below (tR HO_8.out) hb); replace HO_9 := Aside0.mk (Kd.R_below (tR HO_9.out) hb); replace HO235 := Aside0.mk (Kd.R_below (tR HO235.out) hb); replace BK210 := bkB BK210 hb; replace HB := Aside0.mk (below_step (tB HB.out) hb); (try clear hb); (try clear hb2); (try clear hk); (try clear hi)))
      go_ret
      exact ⟨by first | rfl | (simp [errW_none, errW_some] <;> rfl) | (simp [*, errW_none, errW_some] <;> rfl), tB HB.out⟩

end Go.Proofs.Ytchcjlkbpmkajaa.PFnExactShearTimes

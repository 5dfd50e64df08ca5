/- Printed by the program print2.py over the translation: each function as a Lean function, and the proof that the call comes to its answer. -/
import Derived.Test.YtchcjlkbpmkajaaPFnExactBendTimesx0
import Derived.Test.YtchcjlkbpmkajaaPFnExactBendTimesx1
import Derived.Test.YtchcjlkbpmkajaaPFnExactBendTimesx2
import Derived.Test.YtchcjlkbpmkajaaPFnExactBendTimesx5
import Derived.Test.YtchcjlkbpmkajaaPFnExactBendTimesx7
namespace Go.Proofs.Ytchcjlkbpmkajaa.PFnExactBendTimes
open Go.RowKit Go.Proofs.YtchcjlkbpmkajaaW.PrintWords Go.Proofs.YtchcjlkbpmkajaaW.PrintLast Go.Proofs.YtchcjlkbpmkajaaW.PrintMore
attribute [local go_sem] max2_int min2_int max_two min_two max_three min_three max_four min_four   -- for this text's walks alone
set_option linter.unusedVariables false
set_option linter.unusedSimpArgs false

/-! ### laws_FnExactBendTimes: function 14 -/
mutual
def laws_FnExactBendTimes.j0 : Nat → List (S59) → List Int → Bool → List (S57) → List Int → Bool → Bool → Int → Int → Int → Option (Bool)
 | 0, _, _, _, _, _, _, _, _, _, _ => none
 | k + 1, x1, x6, x7, x8, x9, x10, x46, x229000, x229001, x229002 => if x46 = true then (some false) else ((laws_toLoadS.f k x1).bind fun t251 => ((laws_eqLoadS.f k x8 t251).bind fun t254 => (if t254 = true then ((laws_markLoadS.f k x8 1).bind fun bt255 => (if bt255.1 < 0 then (laws_FnExactBendTimes.j1 k x1 x6 x7 x9 true x229000 x229001 x229002) else ((laws_eqIntS.f k x9 x6).bind fun t257 => (if t257 = true then (laws_FnExactBendTimes.j1 k x1 x6 x7 x9 (x10 != x7) x229000 x229001 x229002) else (laws_FnExactBendTimes.j1 k x1 x6 x7 x9 true x229000 x229001 x229002))))) else (some false))))
def laws_FnExactBendTimes.j1 : Nat → List (S59) → List Int → Bool → List Int → Bool → Int → Int → Int → Option (Bool)
 | 0, _, _, _, _, _, _, _, _ => none
 | k + 1, x1, x6, x7, x9, x67, x229000, x229001, x229002 => if x67 = true then (some false) else ((laws_markIntS.f k x9 1).bind fun bt258 => ((laws_heldIntS.f k bt258.2 1).bind fun t260 => (if t260 < 0 then (some false) else (if t260 = bt258.1 then ((laws_toBeam.f x229000 x229001 x229002).bind fun bt261 => ((laws_toLoadS.f k x1).bind fun t264 => ((impl_BendTimes.f k bt261.1 bt261.2.1 bt261.2.2 t264).bind fun bt267 => ((laws_eqIntS.f k bt267.1 x6).bind fun t271 => (if t271 = true then (laws_FnExactBendTimes.j2 k bt258.2 bt258.1 (bt267.2 != x7)) else (laws_FnExactBendTimes.j2 k bt258.2 bt258.1 true)))))) else (some false)))))
def laws_FnExactBendTimes.j2 : Nat → List Int → Int → Bool → Option (Bool)
 | 0, _, _, _ => none
 | k + 1, x9, x12, x95 => if x95 = true then (some false) else ((laws_heldIntS.f k x9 1).bind fun t272 => (if t272 < 0 then (some false) else (if t272 = x12 then (some true) else (some false))))
end
def laws_FnExactBendTimes.f (k : Nat) (a0_0 : Int) (a0_1 : Int) (a0_2 : Int) (l1 : List (S59)) : Option (Bool) := (laws_szLoadS.f l1 1048576).bind fun t229 => (if t229 < 0 then (some true) else ((laws_toBeam.f a0_0 a0_1 a0_2).bind fun bt230 => ((laws_toLoadS.f k l1).bind fun t233 => ((spec_BendTimes.f k bt230.1 bt230.2.1 bt230.2.2 t233).bind fun bt236 => ((laws_toLoadS.f k l1).bind fun t240 => ((laws_toBeam.f a0_0 a0_1 a0_2).bind fun bt243 => ((impl_BendTimes.f k bt243.1 bt243.2.1 bt243.2.2 t240).bind fun bt246 => ((laws_eqIntS.f k bt246.1 bt236.1).bind fun t250 => (if t250 = true then (laws_FnExactBendTimes.j0 k l1 bt236.1 bt236.2 t240 bt246.1 bt246.2 (bt246.2 != bt236.2) a0_0 a0_1 a0_2) else (laws_FnExactBendTimes.j0 k l1 bt236.1 bt236.2 t240 bt246.1 bt246.2 true a0_0 a0_1 a0_2))))))))))
theorem laws_FnExactBendTimes.mono_l : ∀ k, (∀ y0 y1 y2 y3 y4 y5 y6 y7 y8 y9, LeO (laws_FnExactBendTimes.j0 k y0 y1 y2 y3 y4 y5 y6 y7 y8 y9) (laws_FnExactBendTimes.j0 (k + 1) y0 y1 y2 y3 y4 y5 y6 y7 y8 y9)) ∧ (∀ y0 y1 y2 y3 y4 y5 y6 y7, LeO (laws_FnExactBendTimes.j1 k y0 y1 y2 y3 y4 y5 y6 y7) (laws_FnExactBendTimes.j1 (k + 1) y0 y1 y2 y3 y4 y5 y6 y7)) ∧ (∀ y0 y1 y2, LeO (laws_FnExactBendTimes.j2 k y0 y1 y2) (laws_FnExactBendTimes.j2 (k + 1) y0 y1 y2))
 | 0 => ⟨fun _ _ _ _ _ _ _ _ _ _ r h => by simp [laws_FnExactBendTimes.j0] at h, fun _ _ _ _ _ _ _ _ r h => by simp [laws_FnExactBendTimes.j1] at h, fun _ _ _ r h => by simp [laws_FnExactBendTimes.j2] at h⟩
 | k + 1 => by
  obtain ⟨ih0, ih1, ih2⟩ := laws_FnExactBendTimes.mono_l k
  refine ⟨?_, ?_, ?_⟩
  ·
   intro y0 y1 y2 y3 y4 y5 y6 y7 y8 y9
   unfold laws_FnExactBendTimes.j0
   repeat' first
   | (with_reducible exact ih0 _ _ _ _ _ _ _ _ _ _)
   | (with_reducible exact ih1 _ _ _ _ _ _ _ _)
   | (with_reducible exact ih2 _ _ _)
   | (with_reducible exact impl_BendTimes.mono _ _ _ _ _)
   | (with_reducible exact laws_eqIntS.mono _ _ _)
   | (with_reducible exact laws_eqLoadS.mono _ _ _)
   | (with_reducible exact laws_heldIntS.mono _ _ _)
   | (with_reducible exact laws_markIntS.mono _ _ _)
   | (with_reducible exact laws_markLoadS.mono _ _ _)
   | (with_reducible exact laws_toLoadS.mono _ _)
   | (with_reducible exact spec_BendTimes.mono _ _ _ _ _)
   | (with_reducible exact LeO.refl _)
   | (with_reducible exact LeO.none _)
   | (with_reducible refine LeO.ite ?_ ?_)
   | (with_reducible refine LeO.bind ?_ (fun _ => ?_))
   | exact ih0 _ _ _ _ _ _ _ _ _ _
   | exact ih1 _ _ _ _ _ _ _ _
   | exact ih2 _ _ _
   | exact impl_BendTimes.mono _ _ _ _ _
   | exact laws_eqIntS.mono _ _ _
   | exact laws_eqLoadS.mono _ _ _
   | exact laws_heldIntS.mono _ _ _
   | exact laws_markIntS.mono _ _ _
   | exact laws_markLoadS.mono _ _ _
   | exact laws_toLoadS.mono _ _
   | exact spec_BendTimes.mono _ _ _ _ _
   | exact LeO.none _
   | refine LeO.ite ?_ ?_
   | refine LeO.bind ?_ (fun _ => ?_)
  ·
   intro y0 y1 y2 y3 y4 y5 y6 y7
   unfold laws_FnExactBendTimes.j1
   repeat' first
   | (with_reducible exact ih0 _ _ _ _ _ _ _ _ _ _)
   | (with_reducible exact ih1 _ _ _ _ _ _ _ _)
   | (with_reducible exact ih2 _ _ _)
   | (with_reducible exact impl_BendTimes.mono _ _ _ _ _)
   | (with_reducible exact laws_eqIntS.mono _ _ _)
   | (with_reducible exact laws_eqLoadS.mono _ _ _)
   | (with_reducible exact laws_heldIntS.mono _ _ _)
   | (with_reducible exact laws_markIntS.mono _ _ _)
   | (with_reducible exact laws_markLoadS.mono _ _ _)
   | (with_reducible exact laws_toLoadS.mono _ _)
   | (with_reducible exact spec_BendTimes.mono _ _ _ _ _)
   | (with_reducible exact LeO.refl _)
   | (with_reducible exact LeO.none _)
   | (with_reducible refine LeO.ite ?_ ?_)
   | (with_reducible refine LeO.bind ?_ (fun _ => ?_))
   | exact ih0 _ _ _ _ _ _ _ _ _ _
   | exact ih1 _ _ _ _ _ _ _ _
   | exact ih2 _ _ _
   | exact impl_BendTimes.mono _ _ _ _ _
   | exact laws_eqIntS.mono _ _ _
   | exact laws_eqLoadS.mono _ _ _
   | exact laws_heldIntS.mono _ _ _
   | exact laws_markIntS.mono _ _ _
   | exact laws_markLoadS.mono _ _ _
   | exact laws_toLoadS.mono _ _
   | exact spec_BendTimes.mono _ _ _ _ _
   | exact LeO.none _
   | refine LeO.ite ?_ ?_
   | refine LeO.bind ?_ (fun _ => ?_)
  ·
   intro y0 y1 y2
   unfold laws_FnExactBendTimes.j2
   repeat' first
   | (with_reducible exact ih0 _ _ _ _ _ _ _ _ _ _)
   | (with_reducible exact ih1 _ _ _ _ _ _ _ _)
   | (with_reducible exact ih2 _ _ _)
   | (with_reducible exact impl_BendTimes.mono _ _ _ _ _)
   | (with_reducible exact laws_eqIntS.mono _ _ _)
   | (with_reducible exact laws_eqLoadS.mono _ _ _)
   | (with_reducible exact laws_heldIntS.mono _ _ _)
   | (with_reducible exact laws_markIntS.mono _ _ _)
   | (with_reducible exact laws_markLoadS.mono _ _ _)
   | (with_reducible exact laws_toLoadS.mono _ _)
   | (with_reducible exact spec_BendTimes.mono _ _ _ _ _)
   | (with_reducible exact LeO.refl _)
   | (with_reducible exact LeO.none _)
   | (with_reducible refine LeO.ite ?_ ?_)
   | (with_reducible refine LeO.bind ?_ (fun _ => ?_))
   | exact ih0 _ _ _ _ _ _ _ _ _ _
   | exact ih1 _ _ _ _ _ _ _ _
   | exact ih2 _ _ _
   | exact impl_BendTimes.mono _ _ _ _ _
   | exact laws_eqIntS.mono _ _ _
   | exact laws_eqLoadS.mono _ _ _
   | exact laws_heldIntS.mono _ _ _
   | exact laws_markIntS.mono _ _ _
   | exact laws_markLoadS.mono _ _ _
   | exact laws_toLoadS.mono _ _
   | exact spec_BendTimes.mono _ _ _ _ _
   | exact LeO.none _
   | refine LeO.ite ?_ ?_
   | refine LeO.bind ?_ (fun _ => ?_)
theorem laws_FnExactBendTimes.mono : ∀ a0 a1 a2 a3 k, LeO (laws_FnExactBendTimes.f k a0 a1 a2 a3) (laws_FnExactBendTimes.f (k + 1) a0 a1 a2 a3) := by
 intro a0 a1 a2 a3 k
 obtain ⟨ih0, ih1, ih2⟩ := laws_FnExactBendTimes.mono_l k
 unfold laws_FnExactBendTimes.f
 repeat' first
   | (with_reducible exact ih0 _ _ _ _ _ _ _ _ _ _)
   | (with_reducible exact ih1 _ _ _ _ _ _ _ _)
   | (with_reducible exact ih2 _ _ _)
   | (with_reducible exact impl_BendTimes.mono _ _ _ _ _)
   | (with_reducible exact laws_eqIntS.mono _ _ _)
   | (with_reducible exact laws_eqLoadS.mono _ _ _)
   | (with_reducible exact laws_heldIntS.mono _ _ _)
   | (with_reducible exact laws_markIntS.mono _ _ _)
   | (with_reducible exact laws_markLoadS.mono _ _ _)
   | (with_reducible exact laws_toLoadS.mono _ _)
   | (with_reducible exact spec_BendTimes.mono _ _ _ _ _)
   | (with_reducible exact LeO.refl _)
   | (with_reducible exact LeO.none _)
   | (with_reducible refine LeO.ite ?_ ?_)
   | (with_reducible refine LeO.bind ?_ (fun _ => ?_))
   | exact ih0 _ _ _ _ _ _ _ _ _ _
   | exact ih1 _ _ _ _ _ _ _ _
   | exact ih2 _ _ _
   | exact impl_BendTimes.mono _ _ _ _ _
   | exact laws_eqIntS.mono _ _ _
   | exact laws_eqLoadS.mono _ _ _
   | exact laws_heldIntS.mono _ _ _
   | exact laws_markIntS.mono _ _ _
   | exact laws_markLoadS.mono _ _ _
   | exact laws_toLoadS.mono _ _
   | exact spec_BendTimes.mono _ _ _ _ _
   | exact LeO.none _
   | refine LeO.ite ?_ ?_
   | refine LeO.bind ?_ (fun _ => ?_)
set_option maxHeartbeats 8000000 in
set_option maxRecDepth 100000 in
theorem laws_FnExactBendTimes.calls (k : Nat) (a0_0 : Int) (a0_1 : Int) (a0_2 : Int) (A1 : Option Addr) (c1 : Nat) (l1 : List (S59)) (r : Bool) (w : World) (hr1 : Kd.C k59 w A1 l1.length l1) (hc1 : l1.length ≤ c1) (h : laws_FnExactBendTimes.f k a0_0 a0_1 a0_2 l1 = some r) :
  Calls Try.prog 14 #[.agg #[.int .i64 a0_0, .int .i64 a0_1, .int .i64 a0_2], .slice A1 l1.length c1] w fun e w' => e = .returned (.bool r) ∧ Below w.heap.size w w' := by
 have hu23 := Try.underlying23
 have HR1 := Aside0.mk hr1
 have HC1 := Aside0.mk hc1
 clear hr1 hc1
 have HB := Aside0.mk (Below.refl w.heap.size w)
 have H : ((laws_szLoadS.f l1 1048576).bind fun t229 => (if t229 < 0 then (some true) else ((laws_toBeam.f a0_0 a0_1 a0_2).bind fun bt230 => ((laws_toLoadS.f k l1).bind fun t233 => ((spec_BendTimes.f k bt230.1 bt230.2.1 bt230.2.2 t233).bind fun bt236 => ((laws_toLoadS.f k l1).bind fun t240 => ((laws_toBeam.f a0_0 a0_1 a0_2).bind fun bt243 => ((impl_BendTimes.f k bt243.1 bt243.2.1 bt243.2.2 t240).bind fun bt246 => ((laws_eqIntS.f k bt246.1 bt236.1).bind fun t250 => (if t250 = true then (laws_FnExactBendTimes.j0 k l1 bt236.1 bt236.2 t240 bt246.1 bt246.2 (bt246.2 != bt236.2) a0_0 a0_1 a0_2) else (laws_FnExactBendTimes.j0 k l1 bt236.1 bt236.2 t240 bt246.1 bt246.2 true a0_0 a0_1 a0_2))))))))))) = some r := h
 clear h
 replace H := Option.bind_eq_some_iff.mp H
 obtain ⟨t229, A30, H⟩ := H
 replace H : (if t229 < 0 then (some true) else ((laws_toBeam.f a0_0 a0_1 a0_2).bind fun bt230 => ((laws_toLoadS.f k l1).bind fun t233 => ((spec_BendTimes.f k bt230.1 bt230.2.1 bt230.2.2 t233).bind fun bt236 => ((laws_toLoadS.f k l1).bind fun t240 => ((laws_toBeam.f a0_0 a0_1 a0_2).bind fun bt243 => ((impl_BendTimes.f k bt243.1 bt243.2.1 bt243.2.2 t240).bind fun bt246 => ((laws_eqIntS.f k bt246.1 bt236.1).bind fun t250 => (if t250 = true then (laws_FnExactBendTimes.j0 k l1 bt236.1 bt236.2 t240 bt246.1 bt246.2 (bt246.2 != bt236.2) a0_0 a0_1 a0_2) else (laws_FnExactBendTimes.j0 k l1 bt236.1 bt236.2 t240 bt246.1 bt246.2 true a0_0 a0_1 a0_2)))))))))) = some r := H
 have A3 := Aside0.mk A30
 clear A30
 by_cases c4 : t229 < 0
 ·
  rw [if_pos c4] at H
  have c4b0 : decide (t229 < 0) = true := decide_eq_true c4
  clear c4
  obtain rfl := Option.some.inj H
  go_enter Try.func14, Try.ntmps14
  go_wp2_with (first | ((with_reducible refine gate_dst (N := 2) rfl ?_); refine box_event ?hg (N := 2) ?hd (cs := #[.int .i64 a0_0, .int .i64 a0_1, .int .i64 a0_2]) (t := 23) ?hr ?_; (case hd => rfl); (case hg => rfl); (case hr => first | (go_simp; done) | (go_simp; rfl)); intro gb228 hg w5 hbox hb; have BK228 := Aside0.mk (hbox); have GW228 := Aside0.mk (bS HB.out hg); have GE228 := Aside0.mk (bS HB.out hg); replace HB := Aside0.mk (below_step (tB HB.out) hb); clear hb hbox hg) | ((with_reducible refine gate_callee (f := 21) rfl ?_); refine goesL_ (some 18) rfl rfl Try.func21 (by kernel_rfl) rfl #[.slice A1 l1.length c1, .int .i64 1048576] rfl tM ?_; (with_reducible refine (laws_szLoadS.calls _ _ l1 1048576 t229 _ ?side1 ?side2 A3.out).mono ?_); (case side1 => exact tC (Kd.C_below HR1.out HB.out)); (case side2 => exact HC1.out); rintro e w' ⟨rfl, ⟨nd, rfl⟩⟩; refine ⟨_, rfl, ?_⟩))
  go_ret
  exact ⟨by first | rfl | (simp [errW_none, errW_some] <;> rfl) | (simp [*, errW_none, errW_some] <;> rfl), tB HB.out⟩
 ·
  rw [if_neg c4] at H
  have c4b0 : decide (t229 < 0) = false := decide_eq_false c4
  clear c4
  replace H := Option.bind_eq_some_iff.mp H
  obtain ⟨⟨t230, t231, t232⟩, A60, H⟩ := H
  replace H : ((laws_toLoadS.f k l1).bind fun t233 => ((spec_BendTimes.f k t230 t231 t232 t233).bind fun bt236 => ((laws_toLoadS.f k l1).bind fun t240 => ((laws_toBeam.f a0_0 a0_1 a0_2).bind fun bt243 => ((impl_BendTimes.f k bt243.1 bt243.2.1 bt243.2.2 t240).bind fun bt246 => ((laws_eqIntS.f k bt246.1 bt236.1).bind fun t250 => (if t250 = true then (laws_FnExactBendTimes.j0 k l1 bt236.1 bt236.2 t240 bt246.1 bt246.2 (bt246.2 != bt236.2) a0_0 a0_1 a0_2) else (laws_FnExactBendTimes.j0 k l1 bt236.1 bt236.2 t240 bt246.1 bt246.2 true a0_0 a0_1 a0_2)))))))) = some r := H
  have A6 := Aside0.mk A60
  clear A60
  replace H := Option.bind_eq_some_iff.mp H
  obtain ⟨t233, A70, H⟩ := H
  replace H : ((spec_BendTimes.f k t230 t231 t232 t233).bind fun bt236 => ((laws_toLoadS.f k l1).bind fun t240 => ((laws_toBeam.f a0_0 a0_1 a0_2).bind fun bt243 => ((impl_BendTimes.f k bt243.1 bt243.2.1 bt243.2.2 t240).bind fun bt246 => ((laws_eqIntS.f k bt246.1 bt236.1).bind fun t250 => (if t250 = true then (laws_FnExactBendTimes.j0 k l1 bt236.1 bt236.2 t240 bt246.1 bt246.2 (bt246.2 != bt236.2) a0_0 a0_1 a0_2) else (laws_FnExactBendTimes.j0 k l1 bt236.1 bt236.2 t240 bt246.1 bt246.2 true a0_0 a0_1 a0_2))))))) = some r := H
  have A7 := Aside0.mk A70
  clear A70
  replace H := Option.bind_eq_some_iff.mp H
  obtain ⟨⟨t236, t239⟩, A80, H⟩ := H
  replace H : ((laws_toLoadS.f k l1).bind fun t240 => ((laws_toBeam.f a0_0 a0_1 a0_2).bind fun bt243 => ((impl_BendTimes.f k bt243.1 bt243.2.1 bt243.2.2 t240).bind fun bt246 => ((laws_eqIntS.f k bt246.1 t236).bind fun t250 => (if t250 = true then (laws_FnExactBendTimes.j0 k l1 t236 t239 t240 bt246.1 bt246.2 (bt246.2 != t239) a0_0 a0_1 a0_2) else (laws_FnExactBendTimes.j0 k l1 t236 t239 t240 bt246.1 bt246.2 true a0_0 a0_1 a0_2)))))) = some r := H
  have A8 := Aside0.mk A80
  clear A80
  replace H := Option.bind_eq_some_iff.mp H
  obtain ⟨t240, A90, H⟩ := H
  replace H : ((laws_toBeam.f a0_0 a0_1 a0_2).bind fun bt243 => ((impl_BendTimes.f k bt243.1 bt243.2.1 bt243.2.2 t240).bind fun bt246 => ((laws_eqIntS.f k bt246.1 t236).bind fun t250 => (if t250 = true then (laws_FnExactBendTimes.j0 k l1 t236 t239 t240 bt246.1 bt246.2 (bt246.2 != t239) a0_0 a0_1 a0_2) else (laws_FnExactBendTimes.j0 k l1 t236 t239 t240 bt246.1 bt246.2 true a0_0 a0_1 a0_2))))) = some r := H
  have A9 := Aside0.mk A90
  clear A90
  replace H := Option.bind_eq_some_iff.mp H
  obtain ⟨⟨t243, t244, t245⟩, A100, H⟩ := H
  replace H : ((impl_BendTimes.f k t243 t244 t245 t240).bind fun bt246 => ((laws_eqIntS.f k bt246.1 t236).bind fun t250 => (if t250 = true then (laws_FnExactBendTimes.j0 k l1 t236 t239 t240 bt246.1 bt246.2 (bt246.2 != t239) a0_0 a0_1 a0_2) else (laws_FnExactBendTimes.j0 k l1 t236 t239 t240 bt246.1 bt246.2 true a0_0 a0_1 a0_2)))) = some r := H
  have A10 := Aside0.mk A100
  clear A100
  replace H := Option.bind_eq_some_iff.mp H
  obtain ⟨⟨t246, t249⟩, A110, H⟩ := H
  replace H : ((laws_eqIntS.f k t246 t236).bind fun t250 => (if t250 = true then (laws_FnExactBendTimes.j0 k l1 t236 t239 t240 t246 t249 (t249 != t239) a0_0 a0_1 a0_2) else (laws_FnExactBendTimes.j0 k l1 t236 t239 t240 t246 t249 true a0_0 a0_1 a0_2))) = some r := H
  have A11 := Aside0.mk A110
  clear A110
  have HC12 := Aside0.mk H
  clear H
  go_enter Try.func14, Try.ntmps14
  go_upto_region 8 with (first | ((with_reducible refine gate_dst (N := 2) rfl ?_); refine box_event ?hg (N := 2) ?hd (cs := #[.int .i64 a0_0, .int .i64 a0_1, .int .i64 a0_2]) (t := 23) ?hr ?_; (case hd => rfl); (case hg => rfl); (case hr => first | (go_simp; done) | (go_simp; rfl)); intro gb228 hg w13 hbox hb; have BK228 := Aside0.mk (hbox); have GW228 := Aside0.mk (bS HB.out hg); have GE228 := Aside0.mk (bS HB.out hg); replace HB := Aside0.mk (below_step (tB HB.out) hb); clear hb hbox hg) | ((with_reducible refine gate_callee (f := 21) rfl ?_); refine goesL_ (some 18) rfl rfl Try.func21 (by kernel_rfl) rfl #[.slice A1 l1.length c1, .int .i64 1048576] rfl tM ?_; (with_reducible refine (laws_szLoadS.calls _ _ l1 1048576 t229 _ ?side1 ?side2 A3.out).mono ?_); (case side1 => exact tC (Kd.C_below HR1.out HB.out)); (case side2 => exact HC1.out); rintro e w' ⟨rfl, ⟨nd, rfl⟩⟩; refine ⟨_, rfl, ?_⟩; obtain ⟨hcz14_0, hfz14_0, hcz14_1, hfz14_1, hcz14_2, hfz14_2⟩ := cz3 BK228) | ((with_reducible refine gate_callee (f := 16) rfl ?_); refine goesL_ (some 23) rfl rfl Try.func16 (by kernel_rfl) rfl #[.agg #[.int .i64 a0_0, .int .i64 a0_1, .int .i64 a0_2]] rfl tM ?_; (with_reducible refine (laws_toBeam.calls a0_0 a0_1 a0_2 t230 t231 t232 _ A6.out).mono ?_); rintro e w15 ⟨rfl, hb⟩; refine ⟨_, rfl, ?_⟩; replace BK228 := bkB BK228 hb; replace HB := Aside0.mk (below_step (tB HB.out) hb); (try clear hb); (try clear hb2); (try clear hk); (try clear hi)) | ((with_reducible refine gate_callee (f := 23) rfl ?_); refine goesL_ (some 25) rfl rfl Try.func23 (by kernel_rfl) rfl #[.slice A1 l1.length c1] rfl tM ?_; (with_reducible refine (laws_toLoadS.calls k _ _ l1 t233 _ ?side1 ?side2 A7.out).mono ?_); (case side1 => exact tC (Kd.C_below HR1.out HB.out)); (case side2 => exact HC1.out); rintro e w16 ⟨v234, rfl, ho0, hb⟩; refine ⟨_, rfl, ?_⟩; have HO235 := Aside0.mk (Kd.R_lower ho0 (below_size (tB HB.out))); replace BK228 := bkB BK228 hb; replace HB := Aside0.mk (below_step (tB HB.out) hb); (try clear hb); (try clear hb2); (try clear hk); (try clear hi); (try clear ho0); obtain ⟨Ao17, co17, eo17⟩ := Kd.R_slice HO235.out; subst eo17) | ((with_reducible refine gate_callee (f := 47) rfl ?_); refine goesL_ (some 26) rfl rfl Try.func47 (by kernel_rfl) rfl #[.agg #[.int .i64 t230, .int .i64 t231, .int .i64 t232], .slice Ao17 t233.length co17] rfl tM ?_; (with_reducible refine (spec_BendTimes.calls k t230 t231 t232 _ _ t233 t236 t239 _ ?side1 ?side2 A8.out).mono ?_); (case side1 => exact tC (Kd.R_reads' HO235.out).2.2); (case side2 => exact (Kd.R_reads' HO235.out).2.1); rintro e w18 ⟨v237, rfl, ho0, hb⟩; refine ⟨_, rfl, ?_⟩; replace HO235 := Aside0.mk (Kd.R_below (tR HO235.out) hb); have HO238 := Aside0.mk (Kd.R_lower ho0 (below_size (tB HB.out))); replace BK228 := bkB BK228 hb; replace HB := Aside0.mk (below_step (tB HB.out) hb); (try clear hb); (try clear hb2); (try clear hk); (try clear hi); (try clear ho0)) | ((with_reducible refine gate_callee (f := 23) rfl ?_); refine goesL_ (some 30) rfl rfl Try.func23 (by kernel_rfl) rfl #[.slice A1 l1.length c1] rfl tM ?_; (with_reducible refine (laws_toLoadS.calls k _ _ l1 t240 _ ?side1 ?side2 A9.out).mono ?_); (case side1 => exact tC (Kd.C_below HR1.out HB.out)); (case side2 => exact HC1.out); rintro e w19 ⟨v241, rfl, ho0, hb⟩; refine ⟨_, rfl, ?_⟩; replace HO238 := Aside0.mk (Kd.R_below (tR HO238.out) hb); have HO242 := Aside0.mk (Kd.R_lower (Kd.R_new' ho0 (Kd.R_lt (tR HO235.out))) (below_size (tB HB.out))); replace HO235 := Aside0.mk (Kd.R_elder' (tR HO235.out) (Kd.R_base ho0) hb); replace BK228 := bkB BK228 hb; replace HB := Aside0.mk (below_step (tB HB.out) hb); (try clear hb); (try clear hb2); (try clear hk); (try clear hi); (try clear ho0); obtain ⟨hcz20_0, hfz20_0, hcz20_1, hfz20_1, hcz20_2, hfz20_2⟩ := cz3 BK228) | ((with_reducible refine gate_callee (f := 16) rfl ?_); refine goesL_ (some 33) rfl rfl Try.func16 (by kernel_rfl) rfl #[.agg #[.int .i64 a0_0, .int .i64 a0_1, .int .i64 a0_2]] rfl tM ?_; (with_reducible refine (laws_toBeam.calls a0_0 a0_1 a0_2 t243 t244 t245 _ A10.out).mono ?_); rintro e w21 ⟨rfl, hb⟩; refine ⟨_, rfl, ?_⟩; replace HO235 := Aside0.mk (Kd.R_below (tR HO235.out) hb); replace HO238 := Aside0.mk (Kd.R_below (tR HO238.out) hb); replace HO242 := Aside0.mk (Kd.R_below (tR HO242.out) hb); replace BK228 := bkB BK228 hb; replace HB := Aside0.mk (below_step (tB HB.out) hb); (try clear hb); (try clear hb2); (try clear hk); (try clear hi); obtain ⟨Ao22, co22, eo22⟩ := Kd.R_slice HO242.out; subst eo22) | ((with_reducible refine gate_callee (f := 48) rfl ?_); refine goesL_ (some 35) rfl rfl Try.func48 (by kernel_rfl) rfl #[.agg #[.int .i64 t243, .int .i64 t244, .int .i64 t245], .slice Ao22 t240.length co22] rfl tM ?_; (with_reducible refine (impl_BendTimes.calls k t243 t244 t245 _ _ t240 t246 t249 _ ?side1 ?side2 A11.out).mono ?_); (case side1 => exact tC (Kd.R_reads' HO242.out).2.2); (case side2 => exact (Kd.R_reads' HO242.out).2.1); rintro e w23 ⟨v247, rfl, ho0, hb⟩; refine ⟨_, rfl, ?_⟩; replace HO235 := Aside0.mk (Kd.R_below (tR HO235.out) hb); replace HO242 := Aside0.mk (Kd.R_below (tR HO242.out) hb); have HO248 := Aside0.mk (Kd.R_lower (Kd.R_new' ho0 (Kd.R_lt (tR HO238.out))) (below_size (tB HB.out))); replace HO238 := Aside0.mk (Kd.R_elder' (tR HO238.out) (Kd.R_base ho0) hb); replace BK228 := bkB BK228 hb; replace HB := Aside0.mk (below_step (tB HB.out) hb); (try clear hb); (try clear hb2); (try clear hk); (try clear hi); (try clear ho0)))
  (try simp only [Act.put, List.setIfInBounds_toArray, List.set_cons_zero, List.set_cons_succ])
  go_cut [46] (fun v46 wc => ∃ (kq : Nat) (x46_11 : Bool), v46 = .bool x46_11 ∧ Aside0 (laws_FnExactBendTimes.j0 kq l1 t236 t239 t240 t246 t249 x46_11 a0_0 a0_1 a0_2 = some r) ∧ Aside0 (kq ≤ k) ∧ Aside0 (Kd.R (Kd.int .i64) 3 wc w.heap.size (fun k_ => some k_ ≠ (v247 : Value).ownBlock) v237 t236) ∧ Aside0 (Kd.R k57 57 wc w.heap.size (fun _ => True) (.slice Ao22 t240.length co22) t240) ∧ Aside0 (Kd.R (Kd.int .i64) 3 wc w.heap.size (fun k_ => some k_ ≠ (v237 : Value).ownBlock) v247 t246) ∧ Aside0 (wc.heap[gb228]? = some (.cells #[.int .i64 a0_0, .int .i64 a0_1, .int .i64 a0_2] 23 (0, 0))) ∧ Aside0 (Below w.heap.size w wc))
  case first =>
   have H := HC12.out
   clear HC12
   replace H := Option.bind_eq_some_iff.mp H
   obtain ⟨t250, A240, H⟩ := H
   replace H : (if t250 = true then (laws_FnExactBendTimes.j0 k l1 t236 t239 t240 t246 t249 (t249 != t239) a0_0 a0_1 a0_2) else (laws_FnExactBendTimes.j0 k l1 t236 t239 t240 t246 t249 true a0_0 a0_1 a0_2)) = some r := H
   have A24 := Aside0.mk A240
   clear A240
   by_cases c25 : t250 = true
   ·
    subst c25
    have H1 : (laws_FnExactBendTimes.j0 k l1 t236 t239 t240 t246 t249 (t249 != t239) a0_0 a0_1 a0_2) = some r := by rw [if_pos rfl] at H; exact H
    clear H
    have H := H1
    clear H1
    have H' := Aside0.mk H
    clear H
    obtain ⟨Ao26, co26, eo26⟩ := Kd.R_slice HO248.out
    subst eo26
    obtain ⟨Ao27, co27, eo27⟩ := Kd.R_slice HO238.out
    subst eo27
    go_wp2_with (first | ((with_reducible refine gate_callee (f := 28) rfl ?_); refine goesL_ (some 40) rfl rfl Try.func28 (by kernel_rfl) rfl #[.slice Ao26 t246.length co26, .slice Ao27 t236.length co27] rfl tM ?_; (with_reducible refine (laws_eqIntS.calls k _ _ t246 _ _ t236 true _ ?side1 ?side2 ?side3 ?side4 A24.out).mono ?_); (case side1 => exact tC (Kd.R_reads' HO248.out).2.2); (case side2 => exact (Kd.R_reads' HO248.out).2.1); (case side3 => exact tC (Kd.R_reads' HO238.out).2.2); (case side4 => exact (Kd.R_reads' HO238.out).2.1); rintro e w' ⟨rfl, ⟨nd, rfl⟩⟩; refine ⟨_, rfl, ?_⟩))
    go_meet
    case rel => exact ⟨_, ((t249 != t239)), (by first | rfl | (simp; done) | (simp [wrap64]; done) | (simp [*]; done)), H', ⟨by first | omega | exact Nat.le_refl _⟩, ⟨by (with_reducible repeat (first | apply Kd.R_alloc | apply Kd.R_drewN | apply Kd.R_drew)); exact Kd.R_mono HO238.out (fun _ hk => hk.2)⟩, ⟨by (with_reducible repeat (first | apply Kd.R_alloc | apply Kd.R_drewN | apply Kd.R_drew)); exact Kd.R_mono HO242.out (fun _ hk => trivial)⟩, ⟨by (with_reducible repeat (first | apply Kd.R_alloc | apply Kd.R_drewN | apply Kd.R_drew)); exact Kd.R_mono HO248.out (fun _ hk => hk.2)⟩, ⟨tK BK228.out⟩, ⟨tB HB.out⟩⟩
   ·
    replace c25 := Bool.eq_false_iff.mpr c25
    subst c25
    have H1 : (laws_FnExactBendTimes.j0 k l1 t236 t239 t240 t246 t249 true a0_0 a0_1 a0_2) = some r := by rw [if_neg (show ¬ (false = true) by decide)] at H; exact H
    clear H
    have H := H1
    clear H1
    have H' := Aside0.mk H
    clear H
    obtain ⟨Ao28, co28, eo28⟩ := Kd.R_slice HO248.out
    subst eo28
    obtain ⟨Ao29, co29, eo29⟩ := Kd.R_slice HO238.out
    subst eo29
    go_wp2_with (first | ((with_reducible refine gate_callee (f := 28) rfl ?_); refine goesL_ (some 40) rfl rfl Try.func28 (by kernel_rfl) rfl #[.slice Ao28 t246.length co28, .slice Ao29 t236.length co29] rfl tM ?_; (with_reducible refine (laws_eqIntS.calls k _ _ t246 _ _ t236 false _ ?side1 ?side2 ?side3 ?side4 A24.out).mono ?_); (case side1 => exact tC (Kd.R_reads' HO248.out).2.2); (case side2 => exact (Kd.R_reads' HO248.out).2.1); (case side3 => exact tC (Kd.R_reads' HO238.out).2.2); (case side4 => exact (Kd.R_reads' HO238.out).2.1); rintro e w' ⟨rfl, ⟨nd, rfl⟩⟩; refine ⟨_, rfl, ?_⟩))
    go_meet
    case rel => exact ⟨_, (true), (by first | rfl | (simp; done) | (simp [wrap64]; done) | (simp [*]; done)), H', ⟨by first | omega | exact Nat.le_refl _⟩, ⟨by (with_reducible repeat (first | apply Kd.R_alloc | apply Kd.R_drewN | apply Kd.R_drew)); exact Kd.R_mono HO238.out (fun _ hk => hk.2)⟩, ⟨by (with_reducible repeat (first | apply Kd.R_alloc | apply Kd.R_drewN | apply Kd.R_drew)); exact Kd.R_mono HO242.out (fun _ hk => trivial)⟩, ⟨by (with_reducible repeat (first | apply Kd.R_alloc | apply Kd.R_drewN | apply Kd.R_drew)); exact Kd.R_mono HO248.out (fun _ hk => hk.2)⟩, ⟨tK BK228.out⟩, ⟨tB HB.out⟩⟩
  case rest =>
   clear HC12
   try clear c1
   try clear c2
   try clear p2
   try clear c4
   try clear c4b0
   try clear p6
   try clear c14
   try clear c16
   try clear c21
   try clear c23
   try clear c25
   try clear c28
   try clear hcz14_0
   try clear hcz14_1
   try clear hcz14_2
   try clear hcz20_0
   try clear hcz20_1
   try clear hcz20_2
   try clear hfz14_0
   try clear hfz14_1
   try clear hfz14_2
   try clear hfz20_0
   try clear hfz20_1
   try clear hfz20_2
   obtain ⟨kq, x46_11, rfl, HA, HJ11, HO_6, HO_8, HO_9, BK228, HB⟩ := hcut
   cases kq with
   | zero => exact absurd HA.out (by simp [laws_FnExactBendTimes.j0])
   | succ kj11 =>
    have H := HA.out
    clear HA
    simp only [laws_FnExactBendTimes.j0] at H
    by_cases c30 : x46_11 = true
    ·
     subst c30
     have H1 : (some false) = some r := by rw [if_pos rfl] at H; exact H
     clear H
     have H := H1
     clear H1
     obtain rfl := Option.some.inj H
     go_wp2
     go_ret
     exact ⟨by first | rfl | (simp [errW_none, errW_some] <;> rfl) | (simp [*, errW_none, errW_some] <;> rfl), tB HB.out⟩
    ·
     replace c30 := Bool.eq_false_iff.mpr c30
     subst c30
     have H1 : ((laws_toLoadS.f kj11 l1).bind fun t251 => ((laws_eqLoadS.f kj11 t240 t251).bind fun t254 => (if t254 = true then ((laws_markLoadS.f kj11 t240 1).bind fun bt255 => (if bt255.1 < 0 then (laws_FnExactBendTimes.j1 kj11 l1 t236 t239 t246 true a0_0 a0_1 a0_2) else ((laws_eqIntS.f kj11 t246 t236).bind fun t257 => (if t257 = true then (laws_FnExactBendTimes.j1 kj11 l1 t236 t239 t246 (t249 != t239) a0_0 a0_1 a0_2) else (laws_FnExactBendTimes.j1 kj11 l1 t236 t239 t246 true a0_0 a0_1 a0_2))))) else (some false)))) = some r := by rw [if_neg (show ¬ (false = true) by decide)] at H; exact H
     clear H
     have H := H1
     clear H1
     replace H := Option.bind_eq_some_iff.mp H
     obtain ⟨t251, A310, H⟩ := H
     replace H : ((laws_eqLoadS.f kj11 t240 t251).bind fun t254 => (if t254 = true then ((laws_markLoadS.f kj11 t240 1).bind fun bt255 => (if bt255.1 < 0 then (laws_FnExactBendTimes.j1 kj11 l1 t236 t239 t246 true a0_0 a0_1 a0_2) else ((laws_eqIntS.f kj11 t246 t236).bind fun t257 => (if t257 = true then (laws_FnExactBendTimes.j1 kj11 l1 t236 t239 t246 (t249 != t239) a0_0 a0_1 a0_2) else (laws_FnExactBendTimes.j1 kj11 l1 t236 t239 t246 true a0_0 a0_1 a0_2))))) else (some false))) = some r := H
     have A31 := Aside0.mk A310
     clear A310
     replace H := Option.bind_eq_some_iff.mp H
     obtain ⟨t254, A320, H⟩ := H
     replace H : (if t254 = true then ((laws_markLoadS.f kj11 t240 1).bind fun bt255 => (if bt255.1 < 0 then (laws_FnExactBendTimes.j1 kj11 l1 t236 t239 t246 true a0_0 a0_1 a0_2) else ((laws_eqIntS.f kj11 t246 t236).bind fun t257 => (if t257 = true then (laws_FnExactBendTimes.j1 kj11 l1 t236 t239 t246 (t249 != t239) a0_0 a0_1 a0_2) else (laws_FnExactBendTimes.j1 kj11 l1 t236 t239 t246 true a0_0 a0_1 a0_2))))) else (some false)) = some r := H
     have A32 := Aside0.mk A320
     clear A320
     by_cases c33 : t254 = true
     ·
      subst c33
      have H1 : ((laws_markLoadS.f kj11 t240 1).bind fun bt255 => (if bt255.1 < 0 then (laws_FnExactBendTimes.j1 kj11 l1 t236 t239 t246 true a0_0 a0_1 a0_2) else ((laws_eqIntS.f kj11 t246 t236).bind fun t257 => (if t257 = true then (laws_FnExactBendTimes.j1 kj11 l1 t236 t239 t246 (t249 != t239) a0_0 a0_1 a0_2) else (laws_FnExactBendTimes.j1 kj11 l1 t236 t239 t246 true a0_0 a0_1 a0_2))))) = some r := by rw [if_pos rfl] at H; exact H
      clear H
      have H := H1
      clear H1
      replace H := Option.bind_eq_some_iff.mp H
      obtain ⟨⟨t255, t256⟩, A340, H⟩ := H
      replace H : (if t255 < 0 then (laws_FnExactBendTimes.j1 kj11 l1 t236 t239 t246 true a0_0 a0_1 a0_2) else ((laws_eqIntS.f kj11 t246 t236).bind fun t257 => (if t257 = true then (laws_FnExactBendTimes.j1 kj11 l1 t236 t239 t246 (t249 != t239) a0_0 a0_1 a0_2) else (laws_FnExactBendTimes.j1 kj11 l1 t236 t239 t246 true a0_0 a0_1 a0_2)))) = some r := H
      have A34 := Aside0.mk A340
      clear A340
      have HC35 := Aside0.mk H
      clear H
      go_upto_region 14 with (first | ((with_reducible refine gate_callee (f := 23) rfl ?_); refine goesL_ (some 49) rfl rfl Try.func23 (by kernel_rfl) rfl #[.slice A1 l1.length c1] rfl tM ?_; (with_reducible refine (laws_toLoadS.calls kj11 _ _ l1 t251 _ ?side1 ?side2 A31.out).mono ?_); (case side1 => exact tC (Kd.C_below HR1.out HB.out)); (case side2 => exact HC1.out); rintro e w36 ⟨v252, rfl, ho0, hb⟩; refine ⟨_, rfl, ?_⟩; replace HO_6 := Aside0.mk (Kd.R_below (tR HO_6.out) hb); replace HO_9 := Aside0.mk (Kd.R_below (tR HO_9.out) hb); have HO253 := Aside0.mk (Kd.R_lower (Kd.R_new' ho0 (Kd.R_lt (tR HO_8.out))) (below_size (tB HB.out))); replace HO_8 := Aside0.mk (Kd.R_elder' (tR HO_8.out) (Kd.R_base ho0) hb); replace BK228 := bkB BK228 hb; replace HB := Aside0.mk (below_step (tB HB.out) hb); (try clear hb); (try clear hb2); (try clear hk); (try clear hi); (try clear ho0); obtain ⟨Ao37, co37, eo37⟩ := Kd.R_slice HO253.out; subst eo37) | ((with_reducible refine gate_callee (f := 25) rfl ?_); refine goesL_ (some 50) rfl rfl Try.func25 (by kernel_rfl) rfl #[.slice Ao22 t240.length co22, .slice Ao37 t251.length co37] rfl tM ?_; (with_reducible refine (laws_eqLoadS.calls kj11 _ _ t240 _ _ t251 true _ ?side1 ?side2 ?side3 ?side4 A32.out).mono ?_); (case side1 => exact tC (Kd.R_reads' HO_8.out).2.2); (case side2 => exact (Kd.R_reads' HO_8.out).2.1); (case side3 => exact tC (Kd.R_reads' HO253.out).2.2); (case side4 => exact (Kd.R_reads' HO253.out).2.1); rintro e w38 ⟨rfl, hb⟩; refine ⟨_, rfl, ?_⟩; replace HO_6 := Aside0.mk (Kd.R_below (tR HO_6.out) hb); replace HO_8 := Aside0.mk (Kd.R_below (tR HO_8.out) hb); replace HO_9 := Aside0.mk (Kd.R_below (tR HO_9.out) hb); replace HO253 := Aside0.mk (Kd.R_below (tR HO253.out) hb); replace BK228 := bkB BK228 hb; replace HB := Aside0.mk (below_step (tB HB.out) hb); (try clear hb); (try clear hb2); (try clear hk); (try clear hi)) | ((with_reducible refine gate_callee (f := 33) rfl ?_); refine goesL_ (some 54) rfl rfl Try.func33 (by kernel_rfl) rfl #[.slice Ao22 t240.length co22, .int .i64 1] rfl tM ?_; (with_reducible refine (laws_markLoadS.calls kj11 (fun k_ => some k_ = (.slice Ao22 t240.length co22 : Value).ownBlock) (.slice Ao22 t240.length co22) t240 1 t255 t256 w _ ?side1 ?side2 A34.out).mono ?_); (case side1 => repeat (first | (with_reducible first | exact HB.out | apply below_alloc | apply pw_below_drewN | apply below_drew1 | refine below_set ?_ GE228.out) | exact HB.out)); (case side2 => exact Kd.R_tight rfl HO_8.out); rintro e w39 ⟨rfl, hy0, hb, hkp⟩; refine ⟨_, rfl, ?_⟩; replace HO_6 := Aside0.mk (Kd.R_mono (ok' := fun k_ => some k_ ≠ (v247 : Value).ownBlock) (Kd.R_keptB ((Kd.R_apart' HO_6.out (Kd.R_typed HO_8.out) (by decide))) hkp (fun k_ hk_ hs_ => (hk_.2) hs_)) (fun k_ hk_ => hk_.1.1)); replace HO_9 := Aside0.mk (Kd.R_mono (ok' := fun k_ => some k_ ≠ (v237 : Value).ownBlock) (Kd.R_keptB ((Kd.R_apart' HO_9.out (Kd.R_typed HO_8.out) (by decide))) hkp (fun k_ hk_ hs_ => (hk_.2) hs_)) (fun k_ hk_ => hk_.1.1)); replace BK228 := Aside0.mk (blk_kept (tK BK228.out) hkp (fun hs_ => (fun e_ => (Kd.R_ne HO_8.out BK228.out (by decide)) e_) hs_)); replace HO_8 := Aside0.mk (Kd.R_reok rfl hy0 (fun k_ e_ => HO_8.out.1 k_ e_)); replace HO253 := Aside0.mk (Kd.R_mono (ok' := fun k_ => some k_ ≠ (.slice Ao22 t240.length co22 : Value).ownBlock) (Kd.R_keptB (HO253.out) hkp (fun k_ hk_ hs_ => (hk_.2) hs_)) (fun k_ hk_ => hk_.1.2)); replace HB := Aside0.mk (hb); (try clear hb); (try clear hkp); (try clear hy0)))
      (try simp only [Act.put, List.setIfInBounds_toArray, List.set_cons_zero, List.set_cons_succ])
      go_cut [67] (fun v67 wc => ∃ (kq : Nat) (x67_34 : Bool), v67 = .bool x67_34 ∧ Aside0 (laws_FnExactBendTimes.j1 kq l1 t236 t239 t246 x67_34 a0_0 a0_1 a0_2 = some r) ∧ Aside0 (kq ≤ kj11) ∧ Aside0 (Kd.R (Kd.int .i64) 3 wc w.heap.size (fun k_ => some k_ ≠ (v247 : Value).ownBlock) v237 t236) ∧ Aside0 (Kd.R (Kd.int .i64) 3 wc w.heap.size (fun k_ => some k_ ≠ (v237 : Value).ownBlock) v247 t246) ∧ Aside0 (wc.heap[gb228]? = some (.cells #[.int .i64 a0_0, .int .i64 a0_1, .int .i64 a0_2] 23 (0, 0))) ∧ Aside0 (Below w.heap.size w wc))
      case first =>
       have H := HC35.out
       clear HC35
       by_cases c40 : t255 < 0
       ·
        rw [if_pos c40] at H
        have c40b0 : decide (t255 < 0) = true := decide_eq_true c40
        clear c40
        (first | rw [c40b0] | (simp only [i64_w, i32_w]; rw [c40b0]) | skip)
        have H' := Aside0.mk H
        clear H
        go_wp2
        go_meet
        case rel => exact ⟨_, (true), (by first | rfl | (simp; done) | (simp [wrap64]; done) | (simp [*]; done)), H', ⟨by have := HJ11.out; first | omega | exact Nat.le_refl _⟩, ⟨tR HO_6.out⟩, ⟨tR HO_9.out⟩, ⟨tK BK228.out⟩, ⟨tB HB.out⟩⟩
       ·
        rw [if_neg c40] at H
        have c40b0 : decide (t255 < 0) = false := decide_eq_false c40
        clear c40
        (first | rw [c40b0] | (simp only [i64_w, i32_w]; rw [c40b0]) | skip)
        replace H := Option.bind_eq_some_iff.mp H
        obtain ⟨t257, A410, H⟩ := H
        replace H : (if t257 = true then (laws_FnExactBendTimes.j1 kj11 l1 t236 t239 t246 (t249 != t239) a0_0 a0_1 a0_2) else (laws_FnExactBendTimes.j1 kj11 l1 t236 t239 t246 true a0_0 a0_1 a0_2)) = some r := H
        have A41 := Aside0.mk A410
        clear A410
        by_cases c42 : t257 = true
        ·
         subst c42
         have H1 : (laws_FnExactBendTimes.j1 kj11 l1 t236 t239 t246 (t249 != t239) a0_0 a0_1 a0_2) = some r := by rw [if_pos rfl] at H; exact H
         clear H
         have H := H1
         clear H1
         have H' := Aside0.mk H
         clear H
         obtain ⟨Ao43, co43, eo43⟩ := Kd.R_slice HO_9.out
         subst eo43
         obtain ⟨Ao44, co44, eo44⟩ := Kd.R_slice HO_6.out
         subst eo44
         go_wp2_with (first | (go_at_call 28; (with_reducible refine (laws_eqIntS.calls kj11 _ _ t246 _ _ t236 true _ ?side1 ?side2 ?side3 ?side4 A41.out).mono ?_); (case side1 => exact tC (Kd.R_reads' HO_9.out).2.2); (case side2 => exact (Kd.R_reads' HO_9.out).2.1); (case side3 => exact tC (Kd.R_reads' HO_6.out).2.2); (case side4 => exact (Kd.R_reads' HO_6.out).2.1); rintro e w' ⟨rfl, ⟨nd, rfl⟩⟩))
         go_meet
         case rel => exact ⟨_, ((t249 != t239)), (by first | rfl | (simp; done) | (simp [wrap64]; done) | (simp [*]; done)), H', ⟨by have := HJ11.out; first | omega | exact Nat.le_refl _⟩, ⟨tR HO_6.out⟩, ⟨tR HO_9.out⟩, ⟨tK BK228.out⟩, ⟨tB HB.out⟩⟩
        ·
         replace c42 := Bool.eq_false_iff.mpr c42
         subst c42
         have H1 : (laws_FnExactBendTimes.j1 kj11 l1 t236 t239 t246 true a0_0 a0_1 a0_2) = some r := by rw [if_neg (show ¬ (false = true) by decide)] at H; exact H
         clear H
         have H := H1
         clear H1
         have H' := Aside0.mk H
         clear H
         obtain ⟨Ao45, co45, eo45⟩ := Kd.R_slice HO_9.out
         subst eo45
         obtain ⟨Ao46, co46, eo46⟩ := Kd.R_slice HO_6.out
         subst eo46
         go_wp2_with (first | (go_at_call 28; (with_reducible refine (laws_eqIntS.calls kj11 _ _ t246 _ _ t236 false _ ?side1 ?side2 ?side3 ?side4 A41.out).mono ?_); (case side1 => exact tC (Kd.R_reads' HO_9.out).2.2); (case side2 => exact (Kd.R_reads' HO_9.out).2.1); (case side3 => exact tC (Kd.R_reads' HO_6.out).2.2); (case side4 => exact (Kd.R_reads' HO_6.out).2.1); rintro e w' ⟨rfl, ⟨nd, rfl⟩⟩))
         go_meet
         case rel => exact ⟨_, (true), (by first | rfl | (simp; done) | (simp [wrap64]; done) | (simp [*]; done)), H', ⟨by have := HJ11.out; first | omega | exact Nat.le_refl _⟩, ⟨tR HO_6.out⟩, ⟨tR HO_9.out⟩, ⟨tK BK228.out⟩, ⟨tB HB.out⟩⟩
      case rest =>
       clear HC35
       try clear c1
       try clear c2
       try clear p2
       try clear c3
       try clear c4
       try clear c4b0
       try clear p6
       try clear c14
       try clear c16
       try clear c21
       try clear c23
       try clear c25
       try clear c28
       try clear c30
       try clear c33
       try clear c40
       try clear c40b0
       try clear c42
       try clear hcz14_0
       try clear hcz14_1
       try clear hcz14_2
       try clear hcz20_0
       try clear hcz20_1
       try clear hcz20_2
       try clear hfz14_0
       try clear hfz14_1
       try clear hfz14_2
       try clear hfz20_0
       try clear hfz20_1
       try clear hfz20_2
       try clear p2
       try clear p6
       obtain ⟨kq, x67_34, rfl, HA, HJ34, HO_6, HO_9, BK228, HB⟩ := hcut
       cases kq with
       | zero => exact absurd HA.out (by simp [laws_FnExactBendTimes.j1])
       | succ kj34 =>
        have H := HA.out
        clear HA
        simp only [laws_FnExactBendTimes.j1] at H
        by_cases c47 : x67_34 = true
        ·
         subst c47
         have H1 : (some false) = some r := by rw [if_pos rfl] at H; exact H
         clear H
         have H := H1
         clear H1
         obtain rfl := Option.some.inj H
         go_wp2
         go_ret
         exact ⟨by first | rfl | (simp [errW_none, errW_some] <;> rfl) | (simp [*, errW_none, errW_some] <;> rfl), tB HB.out⟩
        ·
         replace c47 := Bool.eq_false_iff.mpr c47
         subst c47
         have H1 : ((laws_markIntS.f kj34 t246 1).bind fun bt258 => ((laws_heldIntS.f kj34 bt258.2 1).bind fun t260 => (if t260 < 0 then (some false) else (if t260 = bt258.1 then ((laws_toBeam.f a0_0 a0_1 a0_2).bind fun bt261 => ((laws_toLoadS.f kj34 l1).bind fun t264 => ((impl_BendTimes.f kj34 bt261.1 bt261.2.1 bt261.2.2 t264).bind fun bt267 => ((laws_eqIntS.f kj34 bt267.1 t236).bind fun t271 => (if t271 = true then (laws_FnExactBendTimes.j2 kj34 bt258.2 bt258.1 (bt267.2 != t239)) else (laws_FnExactBendTimes.j2 kj34 bt258.2 bt258.1 true)))))) else (some false))))) = some r := by rw [if_neg (show ¬ (false = true) by decide)] at H; exact H
         clear H
         have H := H1
         clear H1
         replace H := Option.bind_eq_some_iff.mp H
         obtain ⟨⟨t258, t259⟩, A480, H⟩ := H
         replace H : ((laws_heldIntS.f kj34 t259 1).bind fun t260 => (if t260 < 0 then (some false) else (if t260 = t258 then ((laws_toBeam.f a0_0 a0_1 a0_2).bind fun bt261 => ((laws_toLoadS.f kj34 l1).bind fun t264 => ((impl_BendTimes.f kj34 bt261.1 bt261.2.1 bt261.2.2 t264).bind fun bt267 => ((laws_eqIntS.f kj34 bt267.1 t236).bind fun t271 => (if t271 = true then (laws_FnExactBendTimes.j2 kj34 t259 t258 (bt267.2 != t239)) else (laws_FnExactBendTimes.j2 kj34 t259 t258 true)))))) else (some false)))) = some r := H
         have A48 := Aside0.mk A480
         clear A480
         replace H := Option.bind_eq_some_iff.mp H
         obtain ⟨t260, A490, H⟩ := H
         replace H : (if t260 < 0 then (some false) else (if t260 = t258 then ((laws_toBeam.f a0_0 a0_1 a0_2).bind fun bt261 => ((laws_toLoadS.f kj34 l1).bind fun t264 => ((impl_BendTimes.f kj34 bt261.1 bt261.2.1 bt261.2.2 t264).bind fun bt267 => ((laws_eqIntS.f kj34 bt267.1 t236).bind fun t271 => (if t271 = true then (laws_FnExactBendTimes.j2 kj34 t259 t258 (bt267.2 != t239)) else (laws_FnExactBendTimes.j2 kj34 t259 t258 true)))))) else (some false))) = some r := H
         have A49 := Aside0.mk A490
         clear A490
         by_cases c50 : t260 < 0
         ·
          rw [if_pos c50] at H
          have c50b0 : decide (t260 < 0) = true := decide_eq_true c50
          clear c50
          obtain rfl := Option.some.inj H
          obtain ⟨Ao51, co51, eo51⟩ := Kd.R_slice HO_9.out
          subst eo51
          go_wp2_with (first | ((with_reducible refine gate_callee (f := 29) rfl ?_); refine goesL_ (some 70) rfl rfl Try.func29 (by kernel_rfl) rfl #[.slice Ao51 t246.length co51, .int .i64 1] rfl tM ?_; (with_reducible refine (laws_markIntS.calls kj34 (fun k_ => some k_ = (.slice Ao51 t246.length co51 : Value).ownBlock) (.slice Ao51 t246.length co51) t246 1 t258 t259 w _ ?side1 ?side2 A48.out).mono ?_); (case side1 => repeat (first | (with_reducible first | exact HB.out | apply below_alloc | apply pw_below_drewN | apply below_drew1 | refine below_set ?_ GE228.out) | exact HB.out)); (case side2 => exact Kd.R_tight rfl HO_9.out); rintro e w52 ⟨rfl, hy0, hb, hkp⟩; refine ⟨_, rfl, ?_⟩; replace HO_6 := Aside0.mk (Kd.R_mono (ok' := fun k_ => some k_ ≠ (.slice Ao51 t246.length co51 : Value).ownBlock) (Kd.R_keptB (HO_6.out) hkp (fun k_ hk_ hs_ => (hk_) hs_)) (fun k_ hk_ => hk_.1)); replace BK228 := Aside0.mk (blk_kept (tK BK228.out) hkp (fun hs_ => (fun e_ => (Kd.R_ne HO_9.out BK228.out (by decide)) e_) hs_)); replace HO_9 := Aside0.mk (Kd.R_reok rfl hy0 (fun k_ e_ => HO_9.out.1 k_ e_)); replace HB := Aside0.mk (hb); (try clear hb); (try clear hkp); (try clear hy0)) | ((with_reducible refine gate_callee (f := 30) rfl ?_); refine goesL_ (some 73) rfl rfl Try.func30 (by kernel_rfl) rfl #[.slice Ao51 t259.length co51, .int .i64 1] rfl (by (try simp only [List.map_toArray, List.map_cons, List.map_nil]); first | done | (rw [show t259.length = t246.length from (Kd.R_reads' HO_9.out).1.symm] <;> rfl) | rfl | (simp only [List.length_drop, List.length_take]; rfl)) ?_; (with_reducible refine (laws_heldIntS.calls kj34 _ _ t259 1 t260 _ ?side1 ?side2 A49.out).mono ?_); (case side1 => exact tC (Kd.R_reads' HO_9.out).2.2); (case side2 => rw [show t259.length = t246.length from (Kd.R_reads' HO_9.out).1.symm]; exact (Kd.R_reads' HO_9.out).2.1); rintro e w' ⟨rfl, ⟨nd, rfl⟩⟩; refine ⟨_, rfl, ?_⟩))
          go_ret
          exact ⟨by first | rfl | (simp [errW_none, errW_some] <;> rfl) | (simp [*, errW_none, errW_some] <;> rfl), tB HB.out⟩
         ·
          rw [if_neg c50] at H
          have c50b0 : decide (t260 < 0) = false := decide_eq_false c50
          clear c50
          by_cases c53 : t260 = t258
          ·
           rw [if_pos c53] at H
           have c53b0 : (t260 == t258) = true := beq_iff_eq.mpr c53
           have c53b1 : (t260 != t258) = false := bne_eq_false_iff_eq.mpr c53
           clear c53
           replace H := Option.bind_eq_some_iff.mp H
           obtain ⟨⟨t261, t262, t263⟩, A540, H⟩ := H
           replace H : ((laws_toLoadS.f kj34 l1).bind fun t264 => ((impl_BendTimes.f kj34 t261 t262 t263 t264).bind fun bt267 => ((laws_eqIntS.f kj34 bt267.1 t236).bind fun t271 => (if t271 = true then (laws_FnExactBendTimes.j2 kj34 t259 t258 (bt267.2 != t239)) else (laws_FnExactBendTimes.j2 kj34 t259 t258 true))))) = some r := H
           have A54 := Aside0.mk A540
           clear A540
           replace H := Option.bind_eq_some_iff.mp H
           obtain ⟨t264, A550, H⟩ := H
           replace H : ((impl_BendTimes.f kj34 t261 t262 t263 t264).bind fun bt267 => ((laws_eqIntS.f kj34 bt267.1 t236).bind fun t271 => (if t271 = true then (laws_FnExactBendTimes.j2 kj34 t259 t258 (bt267.2 != t239)) else (laws_FnExactBendTimes.j2 kj34 t259 t258 true)))) = some r := H
           have A55 := Aside0.mk A550
           clear A550
           replace H := Option.bind_eq_some_iff.mp H
           obtain ⟨⟨t267, t270⟩, A560, H⟩ := H
           replace H : ((laws_eqIntS.f kj34 t267 t236).bind fun t271 => (if t271 = true then (laws_FnExactBendTimes.j2 kj34 t259 t258 (t270 != t239)) else (laws_FnExactBendTimes.j2 kj34 t259 t258 true))) = some r := H
           have A56 := Aside0.mk A560
           clear A560
           have HC57 := Aside0.mk H
           clear H
           obtain ⟨Ao58, co58, eo58⟩ := Kd.R_slice HO_9.out
           subst eo58
           go_upto_region 25 with (first | ((with_reducible refine gate_callee (f := 29) rfl ?_); refine goesL_ (some 70) rfl rfl Try.func29 (by kernel_rfl) rfl #[.slice Ao58 t246.length co58, .int .i64 1] rfl tM ?_; (with_reducible refine (laws_markIntS.calls kj34 (fun k_ => some k_ = (.slice Ao58 t246.length co58 : Value).ownBlock) (.slice Ao58 t246.length co58) t246 1 t258 t259 w _ ?side1 ?side2 A48.out).mono ?_); (case side1 => repeat (first | (with_reducible first | exact HB.out | apply below_alloc | apply pw_below_drewN | apply below_drew1 | refine below_set ?_ GE228.out) | exact HB.out)); (case side2 => exact Kd.R_tight rfl HO_9.out); rintro e w59 ⟨rfl, hy0, hb, hkp⟩; refine ⟨_, rfl, ?_⟩; replace HO_6 := Aside0.mk (Kd.R_mono (ok' := fun k_ => some k_ ≠ (.slice Ao58 t246.length co58 : Value).ownBlock) (Kd.R_keptB (HO_6.out) hkp (fun k_ hk_ hs_ => (hk_) hs_)) (fun k_ hk_ => hk_.1)); replace BK228 := Aside0.mk (blk_kept (tK BK228.out) hkp (fun hs_ => (fun e_ => (Kd.R_ne HO_9.out BK228.out (by decide)) e_) hs_)); replace HO_9 := Aside0.mk (Kd.R_reok rfl hy0 (fun k_ e_ => HO_9.out.1 k_ e_)); replace HB := Aside0.mk (hb); (try clear hb); (try clear hkp); (try clear hy0)) | ((with_reducible refine gate_callee (f := 30) rfl ?_); refine goesL_ (some 73) rfl rfl Try.func30 (by kernel_rfl) rfl #[.slice Ao58 t259.length co58, .int .i64 1] rfl (by (try simp only [List.map_toArray, List.map_cons, List.map_nil]); first | done | (rw [show t259.length = t246.length from (Kd.R_reads' HO_9.out).1.symm] <;> rfl) | rfl | (simp only [List.length_drop, List.length_take]; rfl)) ?_; (with_reducible refine (laws_heldIntS.calls kj34 _ _ t259 1 t260 _ ?side1 ?side2 A49.out).mono ?_); (case side1 => exact tC (Kd.R_reads' HO_9.out).2.2); (case side2 => rw [show t259.length = t246.length from (Kd.R_reads' HO_9.out).1.symm]; exact (Kd.R_reads' HO_9.out).2.1); rintro e w' ⟨rfl, ⟨nd, rfl⟩⟩; refine ⟨_, rfl, ?_⟩; obtain ⟨hcz60_0, hfz60_0, hcz60_1, hfz60_1, hcz60_2, hfz60_2⟩ := cz3 BK228) | ((with_reducible refine gate_callee (f := 16) rfl ?_); refine goesL_ (some 81) rfl rfl Try.func16 (by kernel_rfl) rfl #[.agg #[.int .i64 a0_0, .int .i64 a0_1, .int .i64 a0_2]] rfl tM ?_; (with_reducible refine (laws_toBeam.calls a0_0 a0_1 a0_2 t261 t262 t263 _ A54.out).mono ?_); rintro e w61 ⟨rfl, hb⟩; refine ⟨_, rfl, ?_⟩; replace HO_6 := Aside0.mk (Kd.R_below (tR HO_6.out) hb); replace HO_9 := Aside0.mk (Kd.R_below (tR HO_9.out) hb); replace BK228 := bkB BK228 hb; replace HB := Aside0.mk (below_step (tB HB.out) hb); (try clear hb); (try clear hb2); (try clear hk); (try clear hi)) | ((with_reducible refine gate_callee (f := 23) rfl ?_); refine goesL_ (some 83) rfl rfl Try.func23 (by kernel_rfl) rfl #[.slice A1 l1.length c1] rfl tM ?_; (with_reducible refine (laws_toLoadS.calls kj34 _ _ l1 t264 _ ?side1 ?side2 A55.out).mono ?_); (case side1 => exact tC (Kd.C_below HR1.out HB.out)); (case side2 => exact HC1.out); rintro e w62 ⟨v265, rfl, ho0, hb⟩; refine ⟨_, rfl, ?_⟩; replace HO_6 := Aside0.mk (Kd.R_below (tR HO_6.out) hb); replace HO_9 := Aside0.mk (Kd.R_below (tR HO_9.out) hb); have HO266 := Aside0.mk (Kd.R_lower ho0 (below_size (tB HB.out))); replace BK228 := bkB BK228 hb; replace HB := Aside0.mk (below_step (tB HB.out) hb); (try clear hb); (try clear hb2); (try clear hk); (try clear hi); (try clear ho0); obtain ⟨Ao63, co63, eo63⟩ := Kd.R_slice HO266.out; subst eo63) | ((with_reducible refine gate_callee (f := 48) rfl ?_); refine goesL_ (some 84) rfl rfl Try.func48 (by kernel_rfl) rfl #[.agg #[.int .i64 t261, .int .i64 t262, .int .i64 t263], .slice Ao63 t264.length co63] rfl tM ?_; (with_reducible refine (impl_BendTimes.calls kj34 t261 t262 t263 _ _ t264 t267 t270 _ ?side1 ?side2 A56.out).mono ?_); (case side1 => exact tC (Kd.R_reads' HO266.out).2.2); (case side2 => exact (Kd.R_reads' HO266.out).2.1); rintro e w64 ⟨v268, rfl, ho0, hb⟩; refine ⟨_, rfl, ?_⟩; replace HO266 := Aside0.mk (Kd.R_below (tR HO266.out) hb); have HO269 := Aside0.mk (Kd.R_lower (Kd.R_new' (Kd.R_new' ho0 (Kd.R_lt (tR HO_6.out))) (Kd.R_lt (tR HO_9.out))) (below_size (tB HB.out))); replace HO_6 := Aside0.mk (Kd.R_elder' (tR HO_6.out) (Kd.R_base ho0) hb); replace HO_9 := Aside0.mk (Kd.R_elder' (tR HO_9.out) (Kd.R_base ho0) hb); replace BK228 := bkB BK228 hb; replace HB := Aside0.mk (below_step (tB HB.out) hb); (try clear hb); (try clear hb2); (try clear hk); (try clear hi); (try clear ho0)))
           (try simp only [Act.put, List.setIfInBounds_toArray, List.set_cons_zero, List.set_cons_succ])
           go_cut [95] (fun v95 wc => ∃ (kq : Nat) (x95_56 : Bool), v95 = .bool x95_56 ∧ Aside0 (laws_FnExactBendTimes.j2 kq t259 t258 x95_56 = some r) ∧ Aside0 (kq ≤ kj34) ∧ Aside0 (Kd.R (Kd.int .i64) 3 wc w.heap.size (fun _ => True) (.slice Ao58 t246.length co58) t259) ∧ Aside0 (wc.heap[gb228]? = some (.cells #[.int .i64 a0_0, .int .i64 a0_1, .int .i64 a0_2] 23 (0, 0))) ∧ Aside0 (Below w.heap.size w wc))
           case first =>
            have H := HC57.out
            clear HC57
            replace H := Option.bind_eq_some_iff.mp H
            obtain ⟨t271, A650, H⟩ := H
            replace H : (if t271 = true then (laws_FnExactBendTimes.j2 kj34 t259 t258 (t270 != t239)) else (laws_FnExactBendTimes.j2 kj34 t259 t258 true)) = some r := H
            have A65 := Aside0.mk A650
            clear A650
            by_cases c66 : t271 = true
            ·
             subst c66
             have H1 : (laws_FnExactBendTimes.j2 kj34 t259 t258 (t270 != t239)) = some r := by rw [if_pos rfl] at H; exact H
             clear H
             have H := H1
             clear H1
             have H' := Aside0.mk H
             clear H
             obtain ⟨Ao67, co67, eo67⟩ := Kd.R_slice HO269.out
             subst eo67
             obtain ⟨Ao68, co68, eo68⟩ := Kd.R_slice HO_6.out
             subst eo68
             go_wp2_with (first | ((with_reducible refine gate_callee (f := 28) rfl ?_); refine goesL_ (some 89) rfl rfl Try.func28 (by kernel_rfl) rfl #[.slice Ao67 t267.length co67, .slice Ao68 t236.length co68] rfl tM ?_; (with_reducible refine (laws_eqIntS.calls kj34 _ _ t267 _ _ t236 true _ ?side1 ?side2 ?side3 ?side4 A65.out).mono ?_); (case side1 => exact tC (Kd.R_reads' HO269.out).2.2); (case side2 => exact (Kd.R_reads' HO269.out).2.1); (case side3 => exact tC (Kd.R_reads' HO_6.out).2.2); (case side4 => exact (Kd.R_reads' HO_6.out).2.1); rintro e w' ⟨rfl, ⟨nd, rfl⟩⟩; refine ⟨_, rfl, ?_⟩))
             go_meet
             case rel => exact ⟨_, ((t270 != t239)), (by first | rfl | (simp; done) | (simp [wrap64]; done) | (simp [*]; done)), H', ⟨by have := HJ11.out; have := HJ34.out; first | omega | exact Nat.le_refl _⟩, ⟨by (with_reducible repeat (first | apply Kd.R_alloc | apply Kd.R_drewN | apply Kd.R_drew)); exact Kd.R_mono HO_9.out (fun _ hk => trivial)⟩, ⟨tK BK228.out⟩, ⟨tB HB.out⟩⟩
            ·
             replace c66 := Bool.eq_false_iff.mpr c66
             subst c66
             have H1 : (laws_FnExactBendTimes.j2 kj34 t259 t258 true) = some r := by rw [if_neg (show ¬ (false = true) by decide)] at H; exact H
             clear H
             have H := H1
             clear H1
             have H' := Aside0.mk H
             clear H
             obtain ⟨Ao69, co69, eo69⟩ := Kd.R_slice HO269.out
             subst eo69
             obtain ⟨Ao70, co70, eo70⟩ := Kd.R_slice HO_6.out
             subst eo70
             go_wp2_with (first | ((with_reducible refine gate_callee (f := 28) rfl ?_); refine goesL_ (some 89) rfl rfl Try.func28 (by kernel_rfl) rfl #[.slice Ao69 t267.length co69, .slice Ao70 t236.length co70] rfl tM ?_; (with_reducible refine (laws_eqIntS.calls kj34 _ _ t267 _ _ t236 false _ ?side1 ?side2 ?side3 ?side4 A65.out).mono ?_); (case side1 => exact tC (Kd.R_reads' HO269.out).2.2); (case side2 => exact (Kd.R_reads' HO269.out).2.1); (case side3 => exact tC (Kd.R_reads' HO_6.out).2.2); (case side4 => exact (Kd.R_reads' HO_6.out).2.1); rintro e w' ⟨rfl, ⟨nd, rfl⟩⟩; refine ⟨_, rfl, ?_⟩))
             go_meet
             case rel => exact ⟨_, (true), (by first | rfl | (simp; done) | (simp [wrap64]; done) | (simp [*]; done)), H', ⟨by have := HJ11.out; have := HJ34.out; first | omega | exact Nat.le_refl _⟩, ⟨by (with_reducible repeat (first | apply Kd.R_alloc | apply Kd.R_drewN | apply Kd.R_drew)); exact Kd.R_mono HO_9.out (fun _ hk => trivial)⟩, ⟨tK BK228.out⟩, ⟨tB HB.out⟩⟩
           case rest =>
            clear HC57
            try clear c1
            try clear c2
            try clear p2
            try clear c3
            try clear c4
            try clear c4b0
            try clear c5
            try clear c6
            try clear p6
            try clear c14
            try clear c16
            try clear c21
            try clear c23
            try clear c25
            try clear c28
            try clear c29
            try clear c30
            try clear c33
            try clear c40
            try clear c40b0
            try clear c42
            try clear c47
            try clear c48
            try clear c50
            try clear c50b0
            try clear c53
            try clear c53b0
            try clear c53b1
            try clear p64
            try clear c66
            try clear hcz14_0
            try clear hcz14_1
            try clear hcz14_2
            try clear hcz20_0
            try clear hcz20_1
            try clear hcz20_2
            try clear hcz60_0
            try clear hcz60_1
            try clear hcz60_2
            try clear hfz14_0
            try clear hfz14_1
            try clear hfz14_2
            try clear hfz20_0
            try clear hfz20_1
            try clear hfz20_2
            try clear hfz60_0
            try clear hfz60_1
            try clear hfz60_2
            try clear p2
            try clear p6
            obtain ⟨kq, x95_56, rfl, HA, HJ56, HO_9, BK228, HB⟩ := hcut
            have hl9_56 := (Kd.R_reads' HO_9.out).1
            rw [hl9_56] at HO_9
            (try simp only [hl9_56])
            (try simp only [hl9_56] at BK228)
            cases kq with
            | zero => exact absurd HA.out (by simp [laws_FnExactBendTimes.j2])
            | succ kj56 =>
             have H := HA.out
             clear HA
             simp only [laws_FnExactBendTimes.j2] at H
             by_cases c71 : x95_56 = true
             ·
              subst c71
              have H1 : (some false) = some r := by rw [if_pos rfl] at H; exact H
              clear H
              have H := H1
              clear H1
              obtain rfl := Option.some.inj H
              go_wp2
              go_ret
              exact ⟨by first | rfl | (simp [errW_none, errW_some] <;> rfl) | (simp [*, errW_none, errW_some] <;> rfl), tB HB.out⟩
             ·
              replace c71 := Bool.eq_false_iff.mpr c71
              subst c71
              have H1 : ((laws_heldIntS.f kj56 t259 1).bind fun t272 => (if t272 < 0 then (some false) else (if t272 = t258 then (some true) else (some false)))) = some r := by rw [if_neg (show ¬ (false = true) by decide)] at H; exact H
              clear H
              have H := H1
              clear H1
              replace H := Option.bind_eq_some_iff.mp H
              obtain ⟨t272, A720, H⟩ := H
              replace H : (if t272 < 0 then (some false) else (if t272 = t258 then (some true) else (some false))) = some r := H
              have A72 := Aside0.mk A720
              clear A720
              by_cases c73 : t272 < 0
              ·
               rw [if_pos c73] at H
               have c73b0 : decide (t272 < 0) = true := decide_eq_true c73
               clear c73
               obtain rfl := Option.some.inj H
               go_wp2_with (first | ((with_reducible refine gate_callee (f := 30) rfl ?_); refine goesL_ (some 98) rfl rfl Try.func30 (by kernel_rfl) rfl #[.slice Ao58 t259.length co58, .int .i64 1] rfl tM ?_; (with_reducible refine (laws_heldIntS.calls kj56 _ _ t259 1 t272 _ ?side1 ?side2 A72.out).mono ?_); (case side1 => exact tC (Kd.R_reads' HO_9.out).2.2); (case side2 => exact (Kd.R_reads' HO_9.out).2.1); rintro e w' ⟨rfl, ⟨nd, rfl⟩⟩; refine ⟨_, rfl, ?_⟩))
               go_ret
               exact ⟨by first | rfl | (simp [errW_none, errW_some] <;> rfl) | (simp [*, errW_none, errW_some] <;> rfl), tB HB.out⟩
              ·
               rw [if_neg c73] at H
               have c73b0 : decide (t272 < 0) = false := decide_eq_false c73
               clear c73
               by_cases c74 : t272 = t258
               ·
                rw [if_pos c74] at H
                have c74b0 : (t272 == t258) = true := beq_iff_eq.mpr c74
                have c74b1 : (t272 != t258) = false := bne_eq_false_iff_eq.mpr c74
                clear c74
                obtain rfl := Option.some.inj H
                go_wp2_with (first | ((with_reducible refine gate_callee (f := 30) rfl ?_); refine goesL_ (some 98) rfl rfl Try.func30 (by kernel_rfl) rfl #[.slice Ao58 t259.length co58, .int .i64 1] rfl tM ?_; (with_reducible refine (laws_heldIntS.calls kj56 _ _ t259 1 t272 _ ?side1 ?side2 A72.out).mono ?_); (case side1 => exact tC (Kd.R_reads' HO_9.out).2.2); (case side2 => exact (Kd.R_reads' HO_9.out).2.1); rintro e w' ⟨rfl, ⟨nd, rfl⟩⟩; refine ⟨_, rfl, ?_⟩))
                go_ret
                exact ⟨by first | rfl | (simp [errW_none, errW_some] <;> rfl) | (simp [*, errW_none, errW_some] <;> rfl), tB HB.out⟩
               ·
                rw [if_neg c74] at H
                have c74b0 : (t272 == t258) = false := beq_eq_false_iff_ne.mpr c74
                have c74b1 : (t272 != t258) = true := bne_iff_ne.mpr c74
                obtain rfl := Option.some.inj H
                go_wp2_with (first | ((with_reducible refine gate_callee (f := 30) rfl ?_); refine goesL_ (some 98) rfl rfl Try.func30 (by kernel_rfl) rfl #[.slice Ao58 t259.length co58, .int .i64 1] rfl tM ?_; (with_reducible refine (laws_heldIntS.calls kj56 _ _ t259 1 t272 _ ?side1 ?side2 A72.out).mono ?_); (case side1 => exact tC (Kd.R_reads' HO_9.out).2.2); (case side2 => exact (Kd.R_reads' HO_9.out).2.1); rintro e w' ⟨rfl, ⟨nd, rfl⟩⟩; refine ⟨_, rfl, ?_⟩))
                go_ret
                exact ⟨by first | rfl | (simp [errW_none, errW_some] <;> rfl) | (simp [*, errW_none, errW_some] <;> rfl), tB HB.out⟩
          ·
           rw [if_neg c53] at H
           have c53b0 : (t260 == t258) = false := beq_eq_false_iff_ne.mpr c53
           have c53b1 : (t260 != t258) = true := bne_iff_ne.mpr c53
           obtain rfl := Option.some.inj H
           obtain ⟨Ao75, co75, eo75⟩ := Kd.R_slice HO_9.out
           subst eo75
           go_wp2_with (first | ((with_reducible refine gate_callee (f := 29) rfl ?_); refine goesL_ (some 70) rfl rfl Try.func29 (by kernel_rfl) rfl #[.slice Ao75 t246.length co75, .int .i64 1] rfl tM ?_; (with_reducible refine (laws_markIntS.calls kj34 (fun k_ => some k_ = (.slice Ao75 t246.length co75 : Value).ownBlock) (.slice Ao75 t246.length co75) t246 1 t258 t259 w _ ?side1 ?side2 A48.out).mono ?_); (case side1 => repeat (first | (with_reducible first | exact HB.out | apply below_alloc | apply pw_below_drewN | apply below_drew1 | refine below_set ?_ GE228.out) | exact HB.out)); (case side2 => exact Kd.R_tight rfl HO_9.out); rintro e w76 ⟨rfl, hy0, hb, hkp⟩; refine ⟨_, rfl, ?_⟩; replace HO_6 := Aside0.mk (Kd.R_mono (ok' := fun k_ => some k_ ≠ (.slice Ao75 t246.length co75 : Value).ownBlock) (Kd.R_keptB (HO_6.out) hkp (fun k_ hk_ hs_ => (hk_) hs_)) (fun k_ hk_ => hk_.1)); replace BK228 := Aside0.mk (blk_kept (tK BK228.out) hkp (fun hs_ => (fun e_ => (Kd.R_ne HO_9.out BK228.out (by decide)) e_) hs_)); replace HO_9 := Aside0.mk (Kd.R_reok rfl hy0 (fun k_ e_ => HO_9.out.1 k_ e_)); replace HB := Aside0.mk (hb); (try clear hb); (try clear hkp); (try clear hy0)) | ((with_reducible refine gate_callee (f := 30) rfl ?_); refine goesL_ (some 73) rfl rfl Try.func30 (by kernel_rfl) rfl #[.slice Ao75 t259.length co75, .int .i64 1] rfl (by (try simp only [List.map_toArray, List.map_cons, List.map_nil]); first | done | (rw [show t259.length = t246.length from (Kd.R_reads' HO_9.out).1.symm] <;> rfl) | rfl | (simp only [List.length_drop, List.length_take]; rfl)) ?_; (with_reducible refine (laws_heldIntS.calls kj34 _ _ t259 1 t260 _ ?side1 ?side2 A49.out).mono ?_); (case side1 => exact tC (Kd.R_reads' HO_9.out).2.2); (case side2 => rw [show t259.length = t246.length from (Kd.R_reads' HO_9.out).1.symm]; exact (Kd.R_reads' HO_9.out).2.1); rintro e w' ⟨rfl, ⟨nd, rfl⟩⟩; refine ⟨_, rfl, ?_⟩))
           go_ret
           exact ⟨by first | rfl | (simp [errW_none, errW_some] <;> rfl) | (simp [*, errW_none, errW_some] <;> rfl), tB HB.out⟩
     ·
      replace c33 := Bool.eq_false_iff.mpr c33
      subst c33
      have H1 : (some false) = some r := by rw [if_neg (show ¬ (false = true) by decide)] at H; exact H
      clear H
      have H := H1
      clear H1
      obtain rfl := Option.some.inj H
      go_wp2_with (first | ((with_reducible refine gate_callee (f := 23) rfl ?_); refine goesL_ (some 49) rfl rfl Try.func23 (by kernel_rfl) rfl #[.slice A1 l1.length c1] rfl tM ?_; (with_reducible refine (laws_toLoadS.calls kj11 _ _ l1 t251 _ ?side1 ?side2 A31.out).mono ?_); (case side1 => exact tC (Kd.C_below HR1.out HB.out)); (case side2 => exact HC1.out); rintro e w77 ⟨v252, rfl, ho0, hb⟩; refine ⟨_, rfl, ?_⟩; replace HO_6 := Aside0.mk (Kd.R_below (tR HO_6.out) hb); replace HO_9 := Aside0.mk (Kd.R_below (tR HO_9.out) hb); have HO253 := Aside0.mk (Kd.R_lower (Kd.R_new' ho0 (Kd.R_lt (tR HO_8.out))) (below_size (tB HB.out))); replace HO_8 := Aside0.mk (Kd.R_elder' (tR HO_8.out) (Kd.R_base ho0) hb); replace BK228 := bkB BK228 hb; replace HB := Aside0.mk (below_step (tB HB.out) hb); (try clear hb); (try clear hb2); (try clear hk); (try clear hi); (try clear ho0); obtain ⟨Ao78, co78, eo78⟩ := Kd.R_slice HO253.out; subst eo78) | ((with_reducible refine gate_callee (f := 25) rfl ?_); refine goesL_ (some 50) rfl rfl Try.func25 (by kernel_rfl) rfl #[.slice Ao22 t240.length co22, .slice Ao78 t251.length co78] rfl tM ?_; (with_reducible refine (laws_eqLoadS.calls kj11 _ _ t240 _ _ t251 false _ ?side1 ?side2 ?side3 ?side4 A32.out).mono ?_); (case side1 => exact tC (Kd.R_reads' HO_8.out).2.2); (case side2 => exact (Kd.R_reads' HO_8.out).2.1); (case side3 => exact tC (Kd.R_reads' HO253.out).2.2); (case side4 => exact (Kd.R_reads' HO253.out).2.1); rintro e w79 ⟨rfl, hb⟩; refine ⟨_, rfl, ?_⟩; replace HO_6 := Aside0.mk (Kd.R_below (tR HO_6.out) hb); replace HO_8 := Aside0.mk (Kd.R_below (tR HO_8.out) hb); replace HO_9 := Aside0.mk (Kd.R_below (tR HO_9.out) hb); replace HO253 := Aside0.mk (Kd.R_below (tR HO253.out) hb); replace BK228 := bkB BK228 hb; replace HB := Aside0.mk (below_step (tB HB.out) hb); (try clear hb); (try clear hb2); (try clear hk); (try clear hi)))
      go_ret
      exact ⟨by first | rfl | (simp [errW_none, errW_some] <;> rfl) | (simp [*, errW_none, errW_some] <;> rfl), tB HB.out⟩

end Go.Proofs.Ytchcjlkbpmkajaa.PFnExactBendTimes

/- Printed by the program print2.py over the translation: each function as a Lean function, and the proof that the call comes to its answer. -/
import Derived.Test.YtigijeedekjeiaaPFnExactTopLoadx0
import Derived.Test.YtigijeedekjeiaaPFnExactTopLoadx1
import Derived.Test.YtigijeedekjeiaaPFnExactTopLoadx4
import Derived.Test.YtigijeedekjeiaaPFnExactTopLoadx6
namespace Go.Proofs.Ytigijeedekjeiaa.PFnExactTopLoad
open Go.RowKit Go.Proofs.YtigijeedekjeiaaW.PrintWords Go.Proofs.YtigijeedekjeiaaW.PrintLast Go.Proofs.YtigijeedekjeiaaW.PrintMore
attribute [local go_sem] max2_int min2_int max_two min_two max_three min_three max_four min_four   -- for this text's walks alone
set_option linter.unusedVariables false
set_option linter.unusedSimpArgs false

/-! ### laws_FnExactTopLoad: function 8 -/
mutual
def laws_FnExactTopLoad.j0 : Nat → Int → Int → Bool → Bool → Bool → Int → List Int → List Int → Int → List Int → List Int → Int → List Int → List Int → Int → List Int → List Int → Option (Bool)
 | 0, _, _, _, _, _, _, _, _, _, _, _, _, _, _, _, _, _ => none
 | k + 1, x1, x2, x9, x12, x48, x246000, x246001, x246002, x263000, x263001, x263002, x271000, x271001, x271002, x280000, x280001, x280002 => if x48 = true then (some false) else ((laws_toPile.f k x246000 x246001 x246002).bind fun bt281 => ((laws_eqPile.f k x271000 x271001 x271002 bt281.1 bt281.2.1 bt281.2.2).bind fun t288 => (if t288 = true then ((laws_markPile.f k x271000 x271001 x271002 1).bind fun bt289 => (if bt289.1 < 0 then (laws_FnExactTopLoad.j1 k x1 x2 x9 true x246000 x246001 x246002 x263000 x263001 x263002 x280000 x280001 x280002) else ((laws_eqPile.f k x280000 x280001 x280002 x263000 x263001 x263002).bind fun t292 => (if t292 = true then (laws_FnExactTopLoad.j1 k x1 x2 x9 (x12 != x9) x246000 x246001 x246002 x263000 x263001 x263002 x280000 x280001 x280002) else (laws_FnExactTopLoad.j1 k x1 x2 x9 true x246000 x246001 x246002 x263000 x263001 x263002 x280000 x280001 x280002))))) else (some false))))
def laws_FnExactTopLoad.j1 : Nat → Int → Int → Bool → Bool → Int → List Int → List Int → Int → List Int → List Int → Int → List Int → List Int → Option (Bool)
 | 0, _, _, _, _, _, _, _, _, _, _, _, _, _ => none
 | k + 1, x1, x2, x9, x69, x246000, x246001, x246002, x263000, x263001, x263002, x280000, x280001, x280002 => if x69 = true then (some false) else ((laws_markPile.f k x280000 x280001 x280002 1).bind fun bt293 => ((laws_heldPile.f k x280000 bt293.2.1 bt293.2.2 1).bind fun t296 => (if t296 < 0 then (some false) else (if t296 = bt293.1 then ((laws_toPile.f k x246000 x246001 x246002).bind fun bt297 => ((impl_TopLoad.f k bt297.1 bt297.2.1 bt297.2.2 x1 x2).bind fun bt304 => ((laws_eqPile.f k bt304.1 bt304.2.1 bt304.2.2.1 x263000 x263001 x263002).bind fun t313 => (if t313 = true then (laws_FnExactTopLoad.j2 k bt293.1 (bt304.2.2.2 != x9) x280000 bt293.2.1 bt293.2.2) else (laws_FnExactTopLoad.j2 k bt293.1 true x280000 bt293.2.1 bt293.2.2))))) else (some false)))))
def laws_FnExactTopLoad.j2 : Nat → Int → Bool → Int → List Int → List Int → Option (Bool)
 | 0, _, _, _, _, _ => none
 | k + 1, x14, x97, x280000, x280001, x280002 => if x97 = true then (some false) else ((laws_heldPile.f k x280000 x280001 x280002 1).bind fun t314 => (if t314 < 0 then (some false) else (if t314 = x14 then (some true) else (some false))))
end
def laws_FnExactTopLoad.f (k : Nat) (a0_0 : Int) (l0_1 : List Int) (l0_2 : List Int) (a1 : Int) (a2 : Int) : Option (Bool) := (laws_szPile.f a0_0 l0_1 l0_2 1048576).bind fun t246 => (if t246 < 0 then (some true) else ((laws_toPile.f k a0_0 l0_1 l0_2).bind fun bt247 => ((spec_TopLoad.f k bt247.1 bt247.2.1 bt247.2.2 a1 a2).bind fun bt254 => ((laws_toPile.f k a0_0 l0_1 l0_2).bind fun bt263 => ((impl_TopLoad.f k bt263.1 bt263.2.1 bt263.2.2 a1 a2).bind fun bt271 => ((laws_eqPile.f k bt271.1 bt271.2.1 bt271.2.2.1 bt254.1 bt254.2.1 bt254.2.2.1).bind fun t280 => (if t280 = true then (laws_FnExactTopLoad.j0 k a1 a2 bt254.2.2.2 bt271.2.2.2 (bt271.2.2.2 != bt254.2.2.2) a0_0 l0_1 l0_2 bt254.1 bt254.2.1 bt254.2.2.1 bt263.1 bt263.2.1 bt263.2.2 bt271.1 bt271.2.1 bt271.2.2.1) else (laws_FnExactTopLoad.j0 k a1 a2 bt254.2.2.2 bt271.2.2.2 true a0_0 l0_1 l0_2 bt254.1 bt254.2.1 bt254.2.2.1 bt263.1 bt263.2.1 bt263.2.2 bt271.1 bt271.2.1 bt271.2.2.1))))))))
theorem laws_FnExactTopLoad.mono_l : ∀ k, (∀ y0 y1 y2 y3 y4 y5 y6 y7 y8 y9 y10 y11 y12 y13 y14 y15 y16, LeO (laws_FnExactTopLoad.j0 k y0 y1 y2 y3 y4 y5 y6 y7 y8 y9 y10 y11 y12 y13 y14 y15 y16) (laws_FnExactTopLoad.j0 (k + 1) y0 y1 y2 y3 y4 y5 y6 y7 y8 y9 y10 y11 y12 y13 y14 y15 y16)) ∧ (∀ y0 y1 y2 y3 y4 y5 y6 y7 y8 y9 y10 y11 y12, LeO (laws_FnExactTopLoad.j1 k y0 y1 y2 y3 y4 y5 y6 y7 y8 y9 y10 y11 y12) (laws_FnExactTopLoad.j1 (k + 1) y0 y1 y2 y3 y4 y5 y6 y7 y8 y9 y10 y11 y12)) ∧ (∀ y0 y1 y2 y3 y4, LeO (laws_FnExactTopLoad.j2 k y0 y1 y2 y3 y4) (laws_FnExactTopLoad.j2 (k + 1) y0 y1 y2 y3 y4))
 | 0 => ⟨fun _ _ _ _ _ _ _ _ _ _ _ _ _ _ _ _ _ r h => by simp [laws_FnExactTopLoad.j0] at h, fun _ _ _ _ _ _ _ _ _ _ _ _ _ r h => by simp [laws_FnExactTopLoad.j1] at h, fun _ _ _ _ _ r h => by simp [laws_FnExactTopLoad.j2] at h⟩
 | k + 1 => by
  obtain ⟨ih0, ih1, ih2⟩ := laws_FnExactTopLoad.mono_l k
  refine ⟨?_, ?_, ?_⟩
  ·
   intro y0 y1 y2 y3 y4 y5 y6 y7 y8 y9 y10 y11 y12 y13 y14 y15 y16
   unfold laws_FnExactTopLoad.j0
   repeat' first
   | (with_reducible exact ih0 _ _ _ _ _ _ _ _ _ _ _ _ _ _ _ _ _)
   | (with_reducible exact ih1 _ _ _ _ _ _ _ _ _ _ _ _ _)
   | (with_reducible exact ih2 _ _ _ _ _)
   | (with_reducible exact impl_TopLoad.mono _ _ _ _ _ _)
   | (with_reducible exact laws_eqPile.mono _ _ _ _ _ _ _)
   | (with_reducible exact laws_heldPile.mono _ _ _ _ _)
   | (with_reducible exact laws_markPile.mono _ _ _ _ _)
   | (with_reducible exact laws_toPile.mono _ _ _ _)
   | (with_reducible exact spec_TopLoad.mono _ _ _ _ _ _)
   | (with_reducible exact LeO.refl _)
   | (with_reducible exact LeO.none _)
   | (with_reducible refine LeO.ite ?_ ?_)
   | (with_reducible refine LeO.bind ?_ (fun _ => ?_))
   | exact ih0 _ _ _ _ _ _ _ _ _ _ _ _ _ _ _ _ _
   | exact ih1 _ _ _ _ _ _ _ _ _ _ _ _ _
   | exact ih2 _ _ _ _ _
   | exact impl_TopLoad.mono _ _ _ _ _ _
   | exact laws_eqPile.mono _ _ _ _ _ _ _
   | exact laws_heldPile.mono _ _ _ _ _
   | exact laws_markPile.mono _ _ _ _ _
   | exact laws_toPile.mono _ _ _ _
   | exact spec_TopLoad.mono _ _ _ _ _ _
   | exact LeO.none _
   | refine LeO.ite ?_ ?_
   | refine LeO.bind ?_ (fun _ => ?_)
  ·
   intro y0 y1 y2 y3 y4 y5 y6 y7 y8 y9 y10 y11 y12
   unfold laws_FnExactTopLoad.j1
   repeat' first
   | (with_reducible exact ih0 _ _ _ _ _ _ _ _ _ _ _ _ _ _ _ _ _)
   | (with_reducible exact ih1 _ _ _ _ _ _ _ _ _ _ _ _ _)
   | (with_reducible exact ih2 _ _ _ _ _)
   | (with_reducible exact impl_TopLoad.mono _ _ _ _ _ _)
   | (with_reducible exact laws_eqPile.mono _ _ _ _ _ _ _)
   | (with_reducible exact laws_heldPile.mono _ _ _ _ _)
   | (with_reducible exact laws_markPile.mono _ _ _ _ _)
   | (with_reducible exact laws_toPile.mono _ _ _ _)
   | (with_reducible exact spec_TopLoad.mono _ _ _ _ _ _)
   | (with_reducible exact LeO.refl _)
   | (with_reducible exact LeO.none _)
   | (with_reducible refine LeO.ite ?_ ?_)
   | (with_reducible refine LeO.bind ?_ (fun _ => ?_))
   | exact ih0 _ _ _ _ _ _ _ _ _ _ _ _ _ _ _ _ _
   | exact ih1 _ _ _ _ _ _ _ _ _ _ _ _ _
   | exact ih2 _ _ _ _ _
   | exact impl_TopLoad.mono _ _ _ _ _ _
   | exact laws_eqPile.mono _ _ _ _ _ _ _
   | exact laws_heldPile.mono _ _ _ _ _
   | exact laws_markPile.mono _ _ _ _ _
   | exact laws_toPile.mono _ _ _ _
   | exact spec_TopLoad.mono _ _ _ _ _ _
   | exact LeO.none _
   | refine LeO.ite ?_ ?_
   | refine LeO.bind ?_ (fun _ => ?_)
  ·
   intro y0 y1 y2 y3 y4
   unfold laws_FnExactTopLoad.j2
   repeat' first
   | (with_reducible exact ih0 _ _ _ _ _ _ _ _ _ _ _ _ _ _ _ _ _)
   | (with_reducible exact ih1 _ _ _ _ _ _ _ _ _ _ _ _ _)
   | (with_reducible exact ih2 _ _ _ _ _)
   | (with_reducible exact impl_TopLoad.mono _ _ _ _ _ _)
   | (with_reducible exact laws_eqPile.mono _ _ _ _ _ _ _)
   | (with_reducible exact laws_heldPile.mono _ _ _ _ _)
   | (with_reducible exact laws_markPile.mono _ _ _ _ _)
   | (with_reducible exact laws_toPile.mono _ _ _ _)
   | (with_reducible exact spec_TopLoad.mono _ _ _ _ _ _)
   | (with_reducible exact LeO.refl _)
   | (with_reducible exact LeO.none _)
   | (with_reducible refine LeO.ite ?_ ?_)
   | (with_reducible refine LeO.bind ?_ (fun _ => ?_))
   | exact ih0 _ _ _ _ _ _ _ _ _ _ _ _ _ _ _ _ _
   | exact ih1 _ _ _ _ _ _ _ _ _ _ _ _ _
   | exact ih2 _ _ _ _ _
   | exact impl_TopLoad.mono _ _ _ _ _ _
   | exact laws_eqPile.mono _ _ _ _ _ _ _
   | exact laws_heldPile.mono _ _ _ _ _
   | exact laws_markPile.mono _ _ _ _ _
   | exact laws_toPile.mono _ _ _ _
   | exact spec_TopLoad.mono _ _ _ _ _ _
   | exact LeO.none _
   | refine LeO.ite ?_ ?_
   | refine LeO.bind ?_ (fun _ => ?_)
theorem laws_FnExactTopLoad.mono : ∀ a0 a1 a2 a3 a4 k, LeO (laws_FnExactTopLoad.f k a0 a1 a2 a3 a4) (laws_FnExactTopLoad.f (k + 1) a0 a1 a2 a3 a4) := by
 intro a0 a1 a2 a3 a4 k
 obtain ⟨ih0, ih1, ih2⟩ := laws_FnExactTopLoad.mono_l k
 unfold laws_FnExactTopLoad.f
 repeat' first
   | (with_reducible exact ih0 _ _ _ _ _ _ _ _ _ _ _ _ _ _ _ _ _)
   | (with_reducible exact ih1 _ _ _ _ _ _ _ _ _ _ _ _ _)
   | (with_reducible exact ih2 _ _ _ _ _)
   | (with_reducible exact impl_TopLoad.mono _ _ _ _ _ _)
   | (with_reducible exact laws_eqPile.mono _ _ _ _ _ _ _)
   | (with_reducible exact laws_heldPile.mono _ _ _ _ _)
   | (with_reducible exact laws_markPile.mono _ _ _ _ _)
   | (with_reducible exact laws_toPile.mono _ _ _ _)
   | (with_reducible exact spec_TopLoad.mono _ _ _ _ _ _)
   | (with_reducible exact LeO.refl _)
   | (with_reducible exact LeO.none _)
   | (with_reducible refine LeO.ite ?_ ?_)
   | (with_reducible refine LeO.bind ?_ (fun _ => ?_))
   | exact ih0 _ _ _ _ _ _ _ _ _ _ _ _ _ _ _ _ _
   | exact ih1 _ _ _ _ _ _ _ _ _ _ _ _ _
   | exact ih2 _ _ _ _ _
   | exact impl_TopLoad.mono _ _ _ _ _ _
   | exact laws_eqPile.mono _ _ _ _ _ _ _
   | exact laws_heldPile.mono _ _ _ _ _
   | exact laws_markPile.mono _ _ _ _ _
   | exact laws_toPile.mono _ _ _ _
   | exact spec_TopLoad.mono _ _ _ _ _ _
   | exact LeO.none _
   | refine LeO.ite ?_ ?_
   | refine LeO.bind ?_ (fun _ => ?_)
set_option maxHeartbeats 8000000 in
set_option maxRecDepth 100000 in
theorem laws_FnExactTopLoad.calls (k : Nat) (a0_0 : Int) (A0_1 : Option Addr) (c0_1 : Nat) (l0_1 : List Int) (A0_2 : Option Addr) (c0_2 : Nat) (l0_2 : List Int) (a1 : Int) (a2 : Int) (r : Bool) (w : World) (hr0_1 : Kd.C (Kd.int .i64) w A0_1 l0_1.length l0_1) (hc0_1 : l0_1.length ≤ c0_1) (hr0_2 : Kd.C (Kd.int .i64) w A0_2 l0_2.length l0_2) (hc0_2 : l0_2.length ≤ c0_2) (h : laws_FnExactTopLoad.f k a0_0 l0_1 l0_2 a1 a2 = some r) :
  Calls Try.prog 8 #[.agg #[.int .i64 a0_0, .slice A0_1 l0_1.length c0_1, .slice A0_2 l0_2.length c0_2], .int .i64 a1, .int .i64 a2] w fun e w' => e = .returned (.bool r) ∧ Below w.heap.size w w' := by
 have hu24 := Try.underlying24
 have hu28 := Try.underlying28
 have HR0_1 := Aside0.mk hr0_1
 have HC0_1 := Aside0.mk hc0_1
 clear hr0_1 hc0_1
 have HR0_2 := Aside0.mk hr0_2
 have HC0_2 := Aside0.mk hc0_2
 clear hr0_2 hc0_2
 have HB := Aside0.mk (Below.refl w.heap.size w)
 have H : ((laws_szPile.f a0_0 l0_1 l0_2 1048576).bind fun t246 => (if t246 < 0 then (some true) else ((laws_toPile.f k a0_0 l0_1 l0_2).bind fun bt247 => ((spec_TopLoad.f k bt247.1 bt247.2.1 bt247.2.2 a1 a2).bind fun bt254 => ((laws_toPile.f k a0_0 l0_1 l0_2).bind fun bt263 => ((impl_TopLoad.f k bt263.1 bt263.2.1 bt263.2.2 a1 a2).bind fun bt271 => ((laws_eqPile.f k bt271.1 bt271.2.1 bt271.2.2.1 bt254.1 bt254.2.1 bt254.2.2.1).bind fun t280 => (if t280 = true then (laws_FnExactTopLoad.j0 k a1 a2 bt254.2.2.2 bt271.2.2.2 (bt271.2.2.2 != bt254.2.2.2) a0_0 l0_1 l0_2 bt254.1 bt254.2.1 bt254.2.2.1 bt263.1 bt263.2.1 bt263.2.2 bt271.1 bt271.2.1 bt271.2.2.1) else (laws_FnExactTopLoad.j0 k a1 a2 bt254.2.2.2 bt271.2.2.2 true a0_0 l0_1 l0_2 bt254.1 bt254.2.1 bt254.2.2.1 bt263.1 bt263.2.1 bt263.2.2 bt271.1 bt271.2.1 bt271.2.2.1))))))))) = some r := h
 clear h
 replace H := Option.bind_eq_some_iff.mp H
 obtain ⟨t246, A40, H⟩ := H
 replace H : (if t246 < 0 then (some true) else ((laws_toPile.f k a0_0 l0_1 l0_2).bind fun bt247 => ((spec_TopLoad.f k bt247.1 bt247.2.1 bt247.2.2 a1 a2).bind fun bt254 => ((laws_toPile.f k a0_0 l0_1 l0_2).bind fun bt263 => ((impl_TopLoad.f k bt263.1 bt263.2.1 bt263.2.2 a1 a2).bind fun bt271 => ((laws_eqPile.f k bt271.1 bt271.2.1 bt271.2.2.1 bt254.1 bt254.2.1 bt254.2.2.1).bind fun t280 => (if t280 = true then (laws_FnExactTopLoad.j0 k a1 a2 bt254.2.2.2 bt271.2.2.2 (bt271.2.2.2 != bt254.2.2.2) a0_0 l0_1 l0_2 bt254.1 bt254.2.1 bt254.2.2.1 bt263.1 bt263.2.1 bt263.2.2 bt271.1 bt271.2.1 bt271.2.2.1) else (laws_FnExactTopLoad.j0 k a1 a2 bt254.2.2.2 bt271.2.2.2 true a0_0 l0_1 l0_2 bt254.1 bt254.2.1 bt254.2.2.1 bt263.1 bt263.2.1 bt263.2.2 bt271.1 bt271.2.1 bt271.2.2.1)))))))) = some r := H
 have A4 := Aside0.mk A40
 clear A40
 by_cases c5 : t246 < 0
 ·
  rw [if_pos c5] at H
  have c5b0 : decide (t246 < 0) = true := decide_eq_true c5
  clear c5
  obtain rfl := Option.some.inj H
  go_enter Try.func8, Try.ntmps8
  go_wp2_with (first | ((with_reducible refine gate_dst (N := 3) rfl ?_); refine box_event ?hg (N := 3) ?hd (cs := #[.int .i64 a0_0, .slice A0_1 l0_1.length c0_1, .slice A0_2 l0_2.length c0_2]) (t := 24) ?hr ?_; (case hd => rfl); (case hg => rfl); (case hr => first | (go_simp; done) | (go_simp; rfl)); intro gb245 hg w6 hbox hb; have BK245 := Aside0.mk (hbox); have GW245 := Aside0.mk (bS HB.out hg); have GE245 := Aside0.mk (bS HB.out hg); replace HB := Aside0.mk (below_step (tB HB.out) hb); clear hb hbox hg; obtain ⟨hcz7_0, hfz7_0, hcz7_1, hfz7_1, hcz7_2, hfz7_2⟩ := cz3 BK245) | ((with_reducible refine gate_callee (f := 15) rfl ?_); refine goesL_ (some 20) rfl rfl Try.func15 (by kernel_rfl) rfl #[.agg #[.int .i64 a0_0, .slice A0_1 l0_1.length c0_1, .slice A0_2 l0_2.length c0_2], .int .i64 1048576] rfl tM ?_; (with_reducible refine (laws_szPile.calls a0_0 _ _ l0_1 _ _ l0_2 1048576 t246 _ ?side1 ?side2 ?side3 ?side4 A4.out).mono ?_); (case side1 => exact tC (Kd.C_below HR0_1.out HB.out)); (case side2 => exact HC0_1.out); (case side3 => exact tC (Kd.C_below HR0_2.out HB.out)); (case side4 => exact HC0_2.out); rintro e w8 ⟨rfl, hb⟩; refine ⟨_, rfl, ?_⟩; replace BK245 := bkB BK245 hb; replace HB := Aside0.mk (below_step (tB HB.out) hb); (try clear hb); (try clear hb2); (try clear hk); (try clear hi)))
  go_ret
  exact ⟨by first | rfl | (simp [errW_none, errW_some] <;> rfl) | (simp [*, errW_none, errW_some] <;> rfl), tB HB.out⟩
 ·
  rw [if_neg c5] at H
  have c5b0 : decide (t246 < 0) = false := decide_eq_false c5
  clear c5
  replace H := Option.bind_eq_some_iff.mp H
  obtain ⟨⟨t247, t248, t251⟩, A90, H⟩ := H
  replace H : ((spec_TopLoad.f k t247 t248 t251 a1 a2).bind fun bt254 => ((laws_toPile.f k a0_0 l0_1 l0_2).bind fun bt263 => ((impl_TopLoad.f k bt263.1 bt263.2.1 bt263.2.2 a1 a2).bind fun bt271 => ((laws_eqPile.f k bt271.1 bt271.2.1 bt271.2.2.1 bt254.1 bt254.2.1 bt254.2.2.1).bind fun t280 => (if t280 = true then (laws_FnExactTopLoad.j0 k a1 a2 bt254.2.2.2 bt271.2.2.2 (bt271.2.2.2 != bt254.2.2.2) a0_0 l0_1 l0_2 bt254.1 bt254.2.1 bt254.2.2.1 bt263.1 bt263.2.1 bt263.2.2 bt271.1 bt271.2.1 bt271.2.2.1) else (laws_FnExactTopLoad.j0 k a1 a2 bt254.2.2.2 bt271.2.2.2 true a0_0 l0_1 l0_2 bt254.1 bt254.2.1 bt254.2.2.1 bt263.1 bt263.2.1 bt263.2.2 bt271.1 bt271.2.1 bt271.2.2.1)))))) = some r := H
  have A9 := Aside0.mk A90
  clear A90
  replace H := Option.bind_eq_some_iff.mp H
  obtain ⟨⟨t254, t255, t258, t261⟩, A100, H⟩ := H
  replace H : ((laws_toPile.f k a0_0 l0_1 l0_2).bind fun bt263 => ((impl_TopLoad.f k bt263.1 bt263.2.1 bt263.2.2 a1 a2).bind fun bt271 => ((laws_eqPile.f k bt271.1 bt271.2.1 bt271.2.2.1 t254 t255 t258).bind fun t280 => (if t280 = true then (laws_FnExactTopLoad.j0 k a1 a2 t261 bt271.2.2.2 (bt271.2.2.2 != t261) a0_0 l0_1 l0_2 t254 t255 t258 bt263.1 bt263.2.1 bt263.2.2 bt271.1 bt271.2.1 bt271.2.2.1) else (laws_FnExactTopLoad.j0 k a1 a2 t261 bt271.2.2.2 true a0_0 l0_1 l0_2 t254 t255 t258 bt263.1 bt263.2.1 bt263.2.2 bt271.1 bt271.2.1 bt271.2.2.1))))) = some r := H
  have A10 := Aside0.mk A100
  clear A100
  replace H := Option.bind_eq_some_iff.mp H
  obtain ⟨⟨t263, t264, t267⟩, A110, H⟩ := H
  replace H : ((impl_TopLoad.f k t263 t264 t267 a1 a2).bind fun bt271 => ((laws_eqPile.f k bt271.1 bt271.2.1 bt271.2.2.1 t254 t255 t258).bind fun t280 => (if t280 = true then (laws_FnExactTopLoad.j0 k a1 a2 t261 bt271.2.2.2 (bt271.2.2.2 != t261) a0_0 l0_1 l0_2 t254 t255 t258 t263 t264 t267 bt271.1 bt271.2.1 bt271.2.2.1) else (laws_FnExactTopLoad.j0 k a1 a2 t261 bt271.2.2.2 true a0_0 l0_1 l0_2 t254 t255 t258 t263 t264 t267 bt271.1 bt271.2.1 bt271.2.2.1)))) = some r := H
  have A11 := Aside0.mk A110
  clear A110
  replace H := Option.bind_eq_some_iff.mp H
  obtain ⟨⟨t271, t272, t275, t278⟩, A120, H⟩ := H
  replace H : ((laws_eqPile.f k t271 t272 t275 t254 t255 t258).bind fun t280 => (if t280 = true then (laws_FnExactTopLoad.j0 k a1 a2 t261 t278 (t278 != t261) a0_0 l0_1 l0_2 t254 t255 t258 t263 t264 t267 t271 t272 t275) else (laws_FnExactTopLoad.j0 k a1 a2 t261 t278 true a0_0 l0_1 l0_2 t254 t255 t258 t263 t264 t267 t271 t272 t275))) = some r := H
  have A12 := Aside0.mk A120
  clear A120
  have HC13 := Aside0.mk H
  clear H
  go_enter Try.func8, Try.ntmps8
  go_upto_region 8 with (first | ((with_reducible refine gate_dst (N := 3) rfl ?_); refine box_event ?hg (N := 3) ?hd (cs := #[.int .i64 a0_0, .slice A0_1 l0_1.length c0_1, .slice A0_2 l0_2.length c0_2]) (t := 24) ?hr ?_; (case hd => rfl); (case hg => rfl); (case hr => first | (go_simp; done) | (go_simp; rfl)); intro gb245 hg w14 hbox hb; have BK245 := Aside0.mk (hbox); have GW245 := Aside0.mk (bS HB.out hg); have GE245 := Aside0.mk (bS HB.out hg); replace HB := Aside0.mk (below_step (tB HB.out) hb); clear hb hbox hg; obtain ⟨hcz15_0, hfz15_0, hcz15_1, hfz15_1, hcz15_2, hfz15_2⟩ := cz3 BK245) | ((with_reducible refine gate_callee (f := 15) rfl ?_); refine goesL_ (some 20) rfl rfl Try.func15 (by kernel_rfl) rfl #[.agg #[.int .i64 a0_0, .slice A0_1 l0_1.length c0_1, .slice A0_2 l0_2.length c0_2], .int .i64 1048576] rfl tM ?_; (with_reducible refine (laws_szPile.calls a0_0 _ _ l0_1 _ _ l0_2 1048576 t246 _ ?side1 ?side2 ?side3 ?side4 A4.out).mono ?_); (case side1 => exact tC (Kd.C_below HR0_1.out HB.out)); (case side2 => exact HC0_1.out); (case side3 => exact tC (Kd.C_below HR0_2.out HB.out)); (case side4 => exact HC0_2.out); rintro e w16 ⟨rfl, hb⟩; refine ⟨_, rfl, ?_⟩; replace BK245 := bkB BK245 hb; replace HB := Aside0.mk (below_step (tB HB.out) hb); (try clear hb); (try clear hb2); (try clear hk); (try clear hi); obtain ⟨hcz17_0, hfz17_0, hcz17_1, hfz17_1, hcz17_2, hfz17_2⟩ := cz3 BK245) | ((with_reducible refine gate_callee (f := 17) rfl ?_); refine goesL_ (some 25) rfl rfl Try.func17 (by kernel_rfl) rfl #[.agg #[.int .i64 a0_0, .slice A0_1 l0_1.length c0_1, .slice A0_2 l0_2.length c0_2]] rfl tM ?_; (with_reducible refine (laws_toPile.calls k a0_0 _ _ l0_1 _ _ l0_2 t247 t248 t251 _ ?side1 ?side2 ?side3 ?side4 A9.out).mono ?_); (case side1 => exact tC (Kd.C_below HR0_1.out HB.out)); (case side2 => exact HC0_1.out); (case side3 => exact tC (Kd.C_below HR0_2.out HB.out)); (case side4 => exact HC0_2.out); rintro e w18 ⟨v249, v252, rfl, ho0, ho1, hb⟩; refine ⟨_, rfl, ?_⟩; have HO250 := Aside0.mk (Kd.R_lower ho0 (below_size (tB HB.out))); have HO253 := Aside0.mk (Kd.R_lower ho1 (below_size (tB HB.out))); replace BK245 := bkB BK245 hb; replace HB := Aside0.mk (below_step (tB HB.out) hb); (try clear hb); (try clear hb2); (try clear hk); (try clear hi); (try clear ho0); (try clear ho1); obtain ⟨Ao19, co19, eo19⟩ := Kd.R_slice HO250.out; subst eo19; obtain ⟨Ao20, co20, eo20⟩ := Kd.R_slice HO253.out; subst eo20) | ((with_reducible refine gate_callee (f := 31) rfl ?_); refine goesL_ (some 28) rfl rfl Try.func31 (by kernel_rfl) rfl #[.agg #[.int .i64 t247, .slice Ao19 t248.length co19, .slice Ao20 t251.length co20], .int .i64 a1, .int .i64 a2] rfl tM ?_; (with_reducible refine (spec_TopLoad.calls k t247 _ _ t248 _ _ t251 a1 a2 t254 t255 t258 t261 _ ?side1 ?side2 ?side3 ?side4 A10.out).mono ?_); (case side1 => exact tC (Kd.R_reads' HO250.out).2.2); (case side2 => exact (Kd.R_reads' HO250.out).2.1); (case side3 => exact tC (Kd.R_reads' HO253.out).2.2); (case side4 => exact (Kd.R_reads' HO253.out).2.1); rintro e w21 ⟨v256, v259, rfl, ho0, ho1, hb⟩; refine ⟨_, rfl, ?_⟩; have HO257 := Aside0.mk (Kd.R_lower (Kd.R_new' (Kd.R_new' ho0 (Kd.R_lt (tR HO250.out))) (Kd.R_lt (tR HO253.out))) (below_size (tB HB.out))); have HO260 := Aside0.mk (Kd.R_lower (Kd.R_new' (Kd.R_new' ho1 (Kd.R_lt (tR HO250.out))) (Kd.R_lt (tR HO253.out))) (below_size (tB HB.out))); replace HO250 := Aside0.mk (Kd.R_mono (Kd.R_told (Kd.R_told (Kd.R_old (tR HO250.out) hb) (Kd.R_base ho0)) (Kd.R_base ho1)) (fun _ h_ => h_.1)); replace HO253 := Aside0.mk (Kd.R_mono (Kd.R_told (Kd.R_told (Kd.R_old (tR HO253.out) hb) (Kd.R_base ho0)) (Kd.R_base ho1)) (fun _ h_ => h_.1)); replace BK245 := bkB BK245 hb; replace HB := Aside0.mk (below_step (tB HB.out) hb); (try clear hb); (try clear hb2); (try clear hk); (try clear hi); (try clear ho0); (try clear ho1)) | ((with_reducible refine gate_dst (N := 8) rfl ?_); refine box_event ?hg (N := 8) ?hd (cs := #[.int .i64 0, .slice none 0 0, .slice none 0 0]) (t := 28) ?hr ?_; (case hd => rfl); (case hg => rfl); (case hr => first | (go_simp; done) | (go_simp; rfl)); intro gb262 hg w22 hbox hb; replace HO250 := Aside0.mk (Kd.R_below (tR HO250.out) hb); replace HO253 := Aside0.mk (Kd.R_below (tR HO253.out) hb); replace HO257 := Aside0.mk (Kd.R_below (tR HO257.out) hb); replace HO260 := Aside0.mk (Kd.R_below (tR HO260.out) hb); have BK262 := Aside0.mk (hbox); have GW262 := Aside0.mk (bS HB.out hg); have GE262 := Aside0.mk (bS HB.out hg); replace HB := Aside0.mk (below_step (tB HB.out) hb); have NB245_262 := Aside0.mk (nL BK245.out hg); have NB262_245 := Aside0.mk (nG BK245.out hg); replace BK245 := bkB BK245 hb; clear hb hbox hg; have hnb23 := NB262_245.out; have hnc23 := NB245_262.out; obtain ⟨hcz24_0, hfz24_0, hcz24_1, hfz24_1, hcz24_2, hfz24_2⟩ := cz3 BK262; obtain ⟨Ao25, co25, eo25⟩ := Kd.R_slice HO257.out; subst eo25; obtain ⟨Ao26, co26, eo26⟩ := Kd.R_slice HO260.out; subst eo26; obtain ⟨hcz27_0, hfz27_0, hcz27_1, hfz27_1, hcz27_2, hfz27_2⟩ := cz3 BK245) | ((with_reducible refine gate_callee (f := 17) rfl ?_); refine goesL_ (some 32) rfl rfl Try.func17 (by kernel_rfl) rfl #[.agg #[.int .i64 a0_0, .slice A0_1 l0_1.length c0_1, .slice A0_2 l0_2.length c0_2]] rfl tM ?_; (with_reducible refine (laws_toPile.calls k a0_0 _ _ l0_1 _ _ l0_2 t263 t264 t267 _ ?side1 ?side2 ?side3 ?side4 A11.out).mono ?_); (case side1 => exact Kd.C_below HR0_1.out (tB HB.out)); (case side2 => exact HC0_1.out); (case side3 => exact Kd.C_below HR0_2.out (tB HB.out)); (case side4 => exact HC0_2.out); rintro e w28 ⟨v265, v268, rfl, ho0, ho1, hb⟩; refine ⟨_, rfl, ?_⟩; have HO266 := Aside0.mk (Kd.R_lower (Kd.R_new' (Kd.R_new' (Kd.R_new' (Kd.R_new' ho0 (Kd.R_lt (by (with_reducible repeat (first | apply Kd.R_alloc | apply Kd.R_drewN | apply Kd.R_drew)); exact (Kd.R_mono (Kd.R_far (p := ⟨gb262, 2, none⟩) (Kd.R_far (p := ⟨gb262, 1, none⟩) (Kd.R_far (p := ⟨gb262, 0, none⟩) (Kd.R_types HO250.out BK262.out (by decide)) (fun _ hk => hk.2) (.int .i64 t254)) (fun _ hk => hk.2) (.slice Ao25 t255.length co25)) (fun _ hk => hk.2) (.slice Ao26 t258.length co26)) (fun _ h_ => h_.1))))) (Kd.R_lt (by (with_reducible repeat (first | apply Kd.R_alloc | apply Kd.R_drewN | apply Kd.R_drew)); exact (Kd.R_mono (Kd.R_far (p := ⟨gb262, 2, none⟩) (Kd.R_far (p := ⟨gb262, 1, none⟩) (Kd.R_far (p := ⟨gb262, 0, none⟩) (Kd.R_types HO253.out BK262.out (by decide)) (fun _ hk => hk.2) (.int .i64 t254)) (fun _ hk => hk.2) (.slice Ao25 t255.length co25)) (fun _ hk => hk.2) (.slice Ao26 t258.length co26)) (fun _ h_ => h_.1))))) (Kd.R_lt (by (with_reducible repeat (first | apply Kd.R_alloc | apply Kd.R_drewN | apply Kd.R_drew)); exact (Kd.R_mono (Kd.R_far (p := ⟨gb262, 2, none⟩) (Kd.R_far (p := ⟨gb262, 1, none⟩) (Kd.R_far (p := ⟨gb262, 0, none⟩) (Kd.R_types HO257.out BK262.out (by decide)) (fun _ hk => hk.2) (.int .i64 t254)) (fun _ hk => hk.2) (.slice Ao25 t255.length co25)) (fun _ hk => hk.2) (.slice Ao26 t258.length co26)) (fun _ h_ => h_.1))))) (Kd.R_lt (by (with_reducible repeat (first | apply Kd.R_alloc | apply Kd.R_drewN | apply Kd.R_drew)); exact (Kd.R_mono (Kd.R_far (p := ⟨gb262, 2, none⟩) (Kd.R_far (p := ⟨gb262, 1, none⟩) (Kd.R_far (p := ⟨gb262, 0, none⟩) (Kd.R_types HO260.out BK262.out (by decide)) (fun _ hk => hk.2) (.int .i64 t254)) (fun _ hk => hk.2) (.slice Ao25 t255.length co25)) (fun _ hk => hk.2) (.slice Ao26 t258.length co26)) (fun _ h_ => h_.1))))) (below_size (tB HB.out))); have HO269 := Aside0.mk (Kd.R_lower (Kd.R_new' (Kd.R_new' (Kd.R_new' (Kd.R_new' ho1 (Kd.R_lt (by (with_reducible repeat (first | apply Kd.R_alloc | apply Kd.R_drewN | apply Kd.R_drew)); exact (Kd.R_mono (Kd.R_far (p := ⟨gb262, 2, none⟩) (Kd.R_far (p := ⟨gb262, 1, none⟩) (Kd.R_far (p := ⟨gb262, 0, none⟩) (Kd.R_types HO250.out BK262.out (by decide)) (fun _ hk => hk.2) (.int .i64 t254)) (fun _ hk => hk.2) (.slice Ao25 t255.length co25)) (fun _ hk => hk.2) (.slice Ao26 t258.length co26)) (fun _ h_ => h_.1))))) (Kd.R_lt (by (with_reducible repeat (first | apply Kd.R_alloc | apply Kd.R_drewN | apply Kd.R_drew)); exact (Kd.R_mono (Kd.R_far (p := ⟨gb262, 2, none⟩) (Kd.R_far (p := ⟨gb262, 1, none⟩) (Kd.R_far (p := ⟨gb262, 0, none⟩) (Kd.R_types HO253.out BK262.out (by decide)) (fun _ hk => hk.2) (.int .i64 t254)) (fun _ hk => hk.2) (.slice Ao25 t255.length co25)) (fun _ hk => hk.2) (.slice Ao26 t258.length co26)) (fun _ h_ => h_.1))))) (Kd.R_lt (by (with_reducible repeat (first | apply Kd.R_alloc | apply Kd.R_drewN | apply Kd.R_drew)); exact (Kd.R_mono (Kd.R_far (p := ⟨gb262, 2, none⟩) (Kd.R_far (p := ⟨gb262, 1, none⟩) (Kd.R_far (p := ⟨gb262, 0, none⟩) (Kd.R_types HO257.out BK262.out (by decide)) (fun _ hk => hk.2) (.int .i64 t254)) (fun _ hk => hk.2) (.slice Ao25 t255.length co25)) (fun _ hk => hk.2) (.slice Ao26 t258.length co26)) (fun _ h_ => h_.1))))) (Kd.R_lt (by (with_reducible repeat (first | apply Kd.R_alloc | apply Kd.R_drewN | apply Kd.R_drew)); exact (Kd.R_mono (Kd.R_far (p := ⟨gb262, 2, none⟩) (Kd.R_far (p := ⟨gb262, 1, none⟩) (Kd.R_far (p := ⟨gb262, 0, none⟩) (Kd.R_types HO260.out BK262.out (by decide)) (fun _ hk => hk.2) (.int .i64 t254)) (fun _ hk => hk.2) (.slice Ao25 t255.length co25)) (fun _ hk => hk.2) (.slice Ao26 t258.length co26)) (fun _ h_ => h_.1))))) (below_size (tB HB.out))); replace HO250 := Aside0.mk (Kd.R_mono (Kd.R_told (Kd.R_told (Kd.R_old (by (with_reducible repeat (first | apply Kd.R_alloc | apply Kd.R_drewN | apply Kd.R_drew)); exact (Kd.R_mono (Kd.R_far (p := ⟨gb262, 2, none⟩) (Kd.R_far (p := ⟨gb262, 1, none⟩) (Kd.R_far (p := ⟨gb262, 0, none⟩) (Kd.R_types HO250.out BK262.out (by decide)) (fun _ hk => hk.2) (.int .i64 t254)) (fun _ hk => hk.2) (.slice Ao25 t255.length co25)) (fun _ hk => hk.2) (.slice Ao26 t258.length co26)) (fun _ h_ => h_.1))) hb) (Kd.R_base ho0)) (Kd.R_base ho1)) (fun _ h_ => h_.1)); replace HO253 := Aside0.mk (Kd.R_mono (Kd.R_told (Kd.R_told (Kd.R_old (by (with_reducible repeat (first | apply Kd.R_alloc | apply Kd.R_drewN | apply Kd.R_drew)); exact (Kd.R_mono (Kd.R_far (p := ⟨gb262, 2, none⟩) (Kd.R_far (p := ⟨gb262, 1, none⟩) (Kd.R_far (p := ⟨gb262, 0, none⟩) (Kd.R_types HO253.out BK262.out (by decide)) (fun _ hk => hk.2) (.int .i64 t254)) (fun _ hk => hk.2) (.slice Ao25 t255.length co25)) (fun _ hk => hk.2) (.slice Ao26 t258.length co26)) (fun _ h_ => h_.1))) hb) (Kd.R_base ho0)) (Kd.R_base ho1)) (fun _ h_ => h_.1)); replace HO257 := Aside0.mk (Kd.R_mono (Kd.R_told (Kd.R_told (Kd.R_old (by (with_reducible repeat (first | apply Kd.R_alloc | apply Kd.R_drewN | apply Kd.R_drew)); exact (Kd.R_mono (Kd.R_far (p := ⟨gb262, 2, none⟩) (Kd.R_far (p := ⟨gb262, 1, none⟩) (Kd.R_far (p := ⟨gb262, 0, none⟩) (Kd.R_types HO257.out BK262.out (by decide)) (fun _ hk => hk.2) (.int .i64 t254)) (fun _ hk => hk.2) (.slice Ao25 t255.length co25)) (fun _ hk => hk.2) (.slice Ao26 t258.length co26)) (fun _ h_ => h_.1))) hb) (Kd.R_base ho0)) (Kd.R_base ho1)) (fun _ h_ => h_.1)); replace HO260 := Aside0.mk (Kd.R_mono (Kd.R_told (Kd.R_told (Kd.R_old (by (with_reducible repeat (first | apply Kd.R_alloc | apply Kd.R_drewN | apply Kd.R_drew)); exact (Kd.R_mono (Kd.R_far (p := ⟨gb262, 2, none⟩) (Kd.R_far (p := ⟨gb262, 1, none⟩) (Kd.R_far (p := ⟨gb262, 0, none⟩) (Kd.R_types HO260.out BK262.out (by decide)) (fun _ hk => hk.2) (.int .i64 t254)) (fun _ hk => hk.2) (.slice Ao25 t255.length co25)) (fun _ hk => hk.2) (.slice Ao26 t258.length co26)) (fun _ h_ => h_.1))) hb) (Kd.R_base ho0)) (Kd.R_base ho1)) (fun _ h_ => h_.1)); replace BK245 := Aside0.mk (blk_below (g := gb245) (o := .cells #[.int .i64 a0_0, .slice A0_1 l0_1.length c0_1, .slice A0_2 l0_2.length c0_2] 24 (0, 0)) (by (with_reducible repeat (first | refine blk_drewN ?_ _ | refine blk_drew ?_ | refine blk_alloc ?_ _)); refine blk_far ?_ NB245_262.out _; (with_reducible repeat (first | refine blk_drewN ?_ _ | refine blk_drew ?_ | refine blk_alloc ?_ _)); refine blk_far ?_ NB245_262.out _; (with_reducible repeat (first | refine blk_drewN ?_ _ | refine blk_drew ?_ | refine blk_alloc ?_ _)); refine blk_far ?_ NB245_262.out _; (with_reducible repeat (first | refine blk_drewN ?_ _ | refine blk_drew ?_ | refine blk_alloc ?_ _)); exact BK245.out) hb); replace BK262 := Aside0.mk (blk_below (g := gb262) (o := .cells #[.int .i64 t254, .slice Ao25 t255.length co25, .slice Ao26 t258.length co26] 28 (0, 0)) (by (with_reducible repeat (first | refine blk_drewN ?_ _ | refine blk_drew ?_ | refine blk_alloc ?_ _)); refine blk_put (cs := #[.int .i64 t254, .slice Ao25 t255.length co25, .slice none 0 0]) ?_ 2 _ rfl; (with_reducible repeat (first | refine blk_drewN ?_ _ | refine blk_drew ?_ | refine blk_alloc ?_ _)); refine blk_put (cs := #[.int .i64 t254, .slice none 0 0, .slice none 0 0]) ?_ 1 _ rfl; (with_reducible repeat (first | refine blk_drewN ?_ _ | refine blk_drew ?_ | refine blk_alloc ?_ _)); refine blk_put (cs := #[.int .i64 0, .slice none 0 0, .slice none 0 0]) ?_ 0 _ rfl; (with_reducible repeat (first | refine blk_drewN ?_ _ | refine blk_drew ?_ | refine blk_alloc ?_ _)); exact BK262.out) hb); replace HB := Aside0.mk (below_step (tB HB.out) hb); (try clear hb); (try clear hb2); (try clear hk); (try clear hi); (try clear ho0); (try clear ho1)) | ((with_reducible refine gate_dst (N := 10) rfl ?_); refine box_event ?hg (N := 10) ?hd (cs := #[.int .i64 0, .slice none 0 0, .slice none 0 0]) (t := 28) ?hr ?_; (case hd => rfl); (case hg => rfl); (case hr => first | (go_simp; done) | (go_simp; rfl)); intro gb270 hg w29 hbox hb; replace HO250 := Aside0.mk (Kd.R_below (tR HO250.out) hb); replace HO253 := Aside0.mk (Kd.R_below (tR HO253.out) hb); replace HO257 := Aside0.mk (Kd.R_below (tR HO257.out) hb); replace HO260 := Aside0.mk (Kd.R_below (tR HO260.out) hb); replace HO266 := Aside0.mk (Kd.R_below (tR HO266.out) hb); replace HO269 := Aside0.mk (Kd.R_below (tR HO269.out) hb); have BK270 := Aside0.mk (hbox); have GW270 := Aside0.mk (bS HB.out hg); have GE270 := Aside0.mk (bS HB.out hg); replace HB := Aside0.mk (below_step (tB HB.out) hb); have NB245_270 := Aside0.mk (nL BK245.out hg); have NB270_245 := Aside0.mk (nG BK245.out hg); replace BK245 := bkB BK245 hb; have NB262_270 := Aside0.mk (nL BK262.out hg); have NB270_262 := Aside0.mk (nG BK262.out hg); replace BK262 := bkB BK262 hb; clear hb hbox hg; have hnb30 := NB270_245.out; have hnc30 := NB245_270.out; have hnb31 := NB270_262.out; have hnc31 := NB262_270.out; obtain ⟨hcz32_0, hfz32_0, hcz32_1, hfz32_1, hcz32_2, hfz32_2⟩ := cz3 BK270; obtain ⟨Ao33, co33, eo33⟩ := Kd.R_slice HO266.out; subst eo33; obtain ⟨Ao34, co34, eo34⟩ := Kd.R_slice HO269.out; subst eo34) | ((with_reducible refine gate_callee (f := 32) rfl ?_); refine goesL_ (some 37) rfl rfl Try.func32 (by kernel_rfl) rfl #[.agg #[.int .i64 t263, .slice Ao33 t264.length co33, .slice Ao34 t267.length co34], .int .i64 a1, .int .i64 a2] rfl tM ?_; (with_reducible refine (impl_TopLoad.calls k t263 _ _ t264 _ _ t267 a1 a2 t271 t272 t275 t278 _ ?side1 ?side2 ?side3 ?side4 A12.out).mono ?_); (case side1 => refine (Kd.R_reads' (e := 3) (base := w.heap.size) (ok := fun k_ => ((((some k_ ≠ (.slice Ao34 t267.length co34 : Value).ownBlock ∧ some k_ ≠ (.slice Ao19 t248.length co19 : Value).ownBlock) ∧ some k_ ≠ (.slice Ao20 t251.length co20 : Value).ownBlock) ∧ some k_ ≠ (.slice Ao25 t255.length co25 : Value).ownBlock) ∧ some k_ ≠ (.slice Ao26 t258.length co26 : Value).ownBlock)) (n := t264.length) (c := co33) ?_).2.2; exact (by (with_reducible repeat (first | apply Kd.R_alloc | apply Kd.R_drewN | apply Kd.R_drew)); exact (Kd.R_mono (Kd.R_far (p := ⟨gb270, 2, none⟩) (Kd.R_far (p := ⟨gb270, 1, none⟩) (Kd.R_far (p := ⟨gb270, 0, none⟩) (Kd.R_types HO266.out BK270.out (by decide)) (fun _ hk => hk.2) (.int .i64 t263)) (fun _ hk => hk.2) (.slice Ao33 t264.length co33)) (fun _ hk => hk.2) (.slice Ao34 t267.length co34)) (fun _ h_ => h_.1)))); (case side2 => exact (Kd.R_reads' HO266.out).2.1); (case side3 => refine (Kd.R_reads' (e := 3) (base := w.heap.size) (ok := fun k_ => ((((some k_ ≠ (.slice Ao33 t264.length co33 : Value).ownBlock ∧ some k_ ≠ (.slice Ao19 t248.length co19 : Value).ownBlock) ∧ some k_ ≠ (.slice Ao20 t251.length co20 : Value).ownBlock) ∧ some k_ ≠ (.slice Ao25 t255.length co25 : Value).ownBlock) ∧ some k_ ≠ (.slice Ao26 t258.length co26 : Value).ownBlock)) (n := t267.length) (c := co34) ?_).2.2; exact (by (with_reducible repeat (first | apply Kd.R_alloc | apply Kd.R_drewN | apply Kd.R_drew)); exact (Kd.R_mono (Kd.R_far (p := ⟨gb270, 2, none⟩) (Kd.R_far (p := ⟨gb270, 1, none⟩) (Kd.R_far (p := ⟨gb270, 0, none⟩) (Kd.R_types HO269.out BK270.out (by decide)) (fun _ hk => hk.2) (.int .i64 t263)) (fun _ hk => hk.2) (.slice Ao33 t264.length co33)) (fun _ hk => hk.2) (.slice Ao34 t267.length co34)) (fun _ h_ => h_.1)))); (case side4 => exact (Kd.R_reads' HO269.out).2.1); rintro e w35 ⟨v273, v276, rfl, ho0, ho1, hb⟩; refine ⟨_, rfl, ?_⟩; have HO274 := Aside0.mk (Kd.R_lower (Kd.R_new' (Kd.R_new' (Kd.R_new' (Kd.R_new' (Kd.R_new' (Kd.R_new' ho0 (Kd.R_lt (by (with_reducible repeat (first | apply Kd.R_alloc | apply Kd.R_drewN | apply Kd.R_drew)); exact (Kd.R_mono (Kd.R_far (p := ⟨gb270, 2, none⟩) (Kd.R_far (p := ⟨gb270, 1, none⟩) (Kd.R_far (p := ⟨gb270, 0, none⟩) (Kd.R_types HO250.out BK270.out (by decide)) (fun _ hk => hk.2) (.int .i64 t263)) (fun _ hk => hk.2) (.slice Ao33 t264.length co33)) (fun _ hk => hk.2) (.slice Ao34 t267.length co34)) (fun _ h_ => h_.1))))) (Kd.R_lt (by (with_reducible repeat (first | apply Kd.R_alloc | apply Kd.R_drewN | apply Kd.R_drew)); exact (Kd.R_mono (Kd.R_far (p := ⟨gb270, 2, none⟩) (Kd.R_far (p := ⟨gb270, 1, none⟩) (Kd.R_far (p := ⟨gb270, 0, none⟩) (Kd.R_types HO253.out BK270.out (by decide)) (fun _ hk => hk.2) (.int .i64 t263)) (fun _ hk => hk.2) (.slice Ao33 t264.length co33)) (fun _ hk => hk.2) (.slice Ao34 t267.length co34)) (fun _ h_ => h_.1))))) (Kd.R_lt (by (with_reducible repeat (first | apply Kd.R_alloc | apply Kd.R_drewN | apply Kd.R_drew)); exact (Kd.R_mono (Kd.R_far (p := ⟨gb270, 2, none⟩) (Kd.R_far (p := ⟨gb270, 1, none⟩) (Kd.R_far (p := ⟨gb270, 0, none⟩) (Kd.R_types HO257.out BK270.out (by decide)) (fun _ hk => hk.2) (.int .i64 t263)) (fun _ hk => hk.2) (.slice Ao33 t264.length co33)) (fun _ hk => hk.2) (.slice Ao34 t267.length co34)) (fun _ h_ => h_.1))))) (Kd.R_lt (by (with_reducible repeat (first | apply Kd.R_alloc | apply Kd.R_drewN | apply Kd.R_drew)); exact (Kd.R_mono (Kd.R_far (p := ⟨gb270, 2, none⟩) (Kd.R_far (p := ⟨gb270, 1, none⟩) (Kd.R_far (p := ⟨gb270, 0, none⟩) (Kd.R_types HO260.out BK270.out (by decide)) (fun _ hk => hk.2) (.int .i64 t263)) (fun _ hk => hk.2) (.slice Ao33 t264.length co33)) (fun _ hk => hk.2) (.slice Ao34 t267.length co34)) (fun _ h_ => h_.1))))) (Kd.R_lt (by (with_reducible repeat (first | apply Kd.R_alloc | apply Kd.R_drewN | apply Kd.R_drew)); exact (Kd.R_mono (Kd.R_far (p := ⟨gb270, 2, none⟩) (Kd.R_far (p := ⟨gb270, 1, none⟩) (Kd.R_far (p := ⟨gb270, 0, none⟩) (Kd.R_types HO266.out BK270.out (by decide)) (fun _ hk => hk.2) (.int .i64 t263)) (fun _ hk => hk.2) (.slice Ao33 t264.length co33)) (fun _ hk => hk.2) (.slice Ao34 t267.length co34)) (fun _ h_ => h_.1))))) (Kd.R_lt (by (with_reducible repeat (first | apply Kd.R_alloc | apply Kd.R_drewN | apply Kd.R_drew)); exact (Kd.R_mono (Kd.R_far (p := ⟨gb270, 2, none⟩) (Kd.R_far (p := ⟨gb270, 1, none⟩) (Kd.R_far (p := ⟨gb270, 0, none⟩) (Kd.R_types HO269.out BK270.out (by decide)) (fun _ hk => hk.2) (.int .i64 t263)) (fun _ hk => hk.2) (.slice Ao33 t264.length co33)) (fun _ hk => hk.2) (.slice Ao34 t267.length co34)) (fun _ h_ => h_.1))))) (below_size (tB HB.out))); have HO277 := Aside0.mk (Kd.R_lower (Kd.R_new' (Kd.R_new' (Kd.R_new' (Kd.R_new' (Kd.R_new' (Kd.R_new' ho1 (Kd.R_lt (by (with_reducible repeat (first | apply Kd.R_alloc | apply Kd.R_drewN | apply Kd.R_drew)); exact (Kd.R_mono (Kd.R_far (p := ⟨gb270, 2, none⟩) (Kd.R_far (p := ⟨gb270, 1, none⟩) (Kd.R_far (p := ⟨gb270, 0, none⟩) (Kd.R_types HO250.out BK270.out (by decide)) (fun _ hk => hk.2) (.int .i64 t263)) (fun _ hk => hk.2) (.slice Ao33 t264.length co33)) (fun _ hk => hk.2) (.slice Ao34 t267.length co34)) (fun _ h_ => h_.1))))) (Kd.R_lt (by (with_reducible repeat (first | apply Kd.R_alloc | apply Kd.R_drewN | apply Kd.R_drew)); exact (Kd.R_mono (Kd.R_far (p := ⟨gb270, 2, none⟩) (Kd.R_far (p := ⟨gb270, 1, none⟩) (Kd.R_far (p := ⟨gb270, 0, none⟩) (Kd.R_types HO253.out BK270.out (by decide)) (fun _ hk => hk.2) (.int .i64 t263)) (fun _ hk => hk.2) (.slice Ao33 t264.length co33)) (fun _ hk => hk.2) (.slice Ao34 t267.length co34)) (fun _ h_ => h_.1))))) (Kd.R_lt (by (with_reducible repeat (first | apply Kd.R_alloc | apply Kd.R_drewN | apply Kd.R_drew)); exact (Kd.R_mono (Kd.R_far (p := ⟨gb270, 2, none⟩) (Kd.R_far (p := ⟨gb270, 1, none⟩) (Kd.R_far (p := ⟨gb270, 0, none⟩) (Kd.R_types HO257.out BK270.out (by decide)) (fun _ hk => hk.2) (.int .i64 t263)) (fun _ hk => hk.2) (.slice Ao33 t264.length co33)) (fun _ hk => hk.2) (.slice Ao34 t267.length co34)) (fun _ h_ => h_.1))))) (Kd.R_lt (by (with_reducible repeat (first | apply Kd.R_alloc | apply Kd.R_drewN | apply Kd.R_drew)); exact (Kd.R_mono (Kd.R_far (p := ⟨gb270, 2, none⟩) (Kd.R_far (p := ⟨gb270, 1, none⟩) (Kd.R_far (p := ⟨gb270, 0, none⟩) (Kd.R_types HO260.out BK270.out (by decide)) (fun _ hk => hk.2) (.int .i64 t263)) (fun _ hk => hk.2) (.slice Ao33 t264.length co33)) (fun _ hk => hk.2) (.slice Ao34 t267.length co34)) (fun _ h_ => h_.1))))) (Kd.R_lt (by (with_reducible repeat (first | apply Kd.R_alloc | apply Kd.R_drewN | apply Kd.R_drew)); exact (Kd.R_mono (Kd.R_far (p := ⟨gb270, 2, none⟩) (Kd.R_far (p := ⟨gb270, 1, none⟩) (Kd.R_far (p := ⟨gb270, 0, none⟩) (Kd.R_types HO266.out BK270.out (by decide)) (fun _ hk => hk.2) (.int .i64 t263)) (fun _ hk => hk.2) (.slice Ao33 t264.length co33)) (fun _ hk => hk.2) (.slice Ao34 t267.length co34)) (fun _ h_ => h_.1))))) (Kd.R_lt (by (with_reducible repeat (first | apply Kd.R_alloc | apply Kd.R_drewN | apply Kd.R_drew)); exact (Kd.R_mono (Kd.R_far (p := ⟨gb270, 2, none⟩) (Kd.R_far (p := ⟨gb270, 1, none⟩) (Kd.R_far (p := ⟨gb270, 0, none⟩) (Kd.R_types HO269.out BK270.out (by decide)) (fun _ hk => hk.2) (.int .i64 t263)) (fun _ hk => hk.2) (.slice Ao33 t264.length co33)) (fun _ hk => hk.2) (.slice Ao34 t267.length co34)) (fun _ h_ => h_.1))))) (below_size (tB HB.out))); replace HO250 := Aside0.mk (Kd.R_mono (Kd.R_told (Kd.R_told (Kd.R_old (by (with_reducible repeat (first | apply Kd.R_alloc | apply Kd.R_drewN | apply Kd.R_drew)); exact (Kd.R_mono (Kd.R_far (p := ⟨gb270, 2, none⟩) (Kd.R_far (p := ⟨gb270, 1, none⟩) (Kd.R_far (p := ⟨gb270, 0, none⟩) (Kd.R_types HO250.out BK270.out (by decide)) (fun _ hk => hk.2) (.int .i64 t263)) (fun _ hk => hk.2) (.slice Ao33 t264.length co33)) (fun _ hk => hk.2) (.slice Ao34 t267.length co34)) (fun _ h_ => h_.1))) hb) (Kd.R_base ho0)) (Kd.R_base ho1)) (fun _ h_ => h_.1)); replace HO253 := Aside0.mk (Kd.R_mono (Kd.R_told (Kd.R_told (Kd.R_old (by (with_reducible repeat (first | apply Kd.R_alloc | apply Kd.R_drewN | apply Kd.R_drew)); exact (Kd.R_mono (Kd.R_far (p := ⟨gb270, 2, none⟩) (Kd.R_far (p := ⟨gb270, 1, none⟩) (Kd.R_far (p := ⟨gb270, 0, none⟩) (Kd.R_types HO253.out BK270.out (by decide)) (fun _ hk => hk.2) (.int .i64 t263)) (fun _ hk => hk.2) (.slice Ao33 t264.length co33)) (fun _ hk => hk.2) (.slice Ao34 t267.length co34)) (fun _ h_ => h_.1))) hb) (Kd.R_base ho0)) (Kd.R_base ho1)) (fun _ h_ => h_.1)); replace HO257 := Aside0.mk (Kd.R_mono (Kd.R_told (Kd.R_told (Kd.R_old (by (with_reducible repeat (first | apply Kd.R_alloc | apply Kd.R_drewN | apply Kd.R_drew)); exact (Kd.R_mono (Kd.R_far (p := ⟨gb270, 2, none⟩) (Kd.R_far (p := ⟨gb270, 1, none⟩) (Kd.R_far (p := ⟨gb270, 0, none⟩) (Kd.R_types HO257.out BK270.out (by decide)) (fun _ hk => hk.2) (.int .i64 t263)) (fun _ hk => hk.2) (.slice Ao33 t264.length co33)) (fun _ hk => hk.2) (.slice Ao34 t267.length co34)) (fun _ h_ => h_.1))) hb) (Kd.R_base ho0)) (Kd.R_base ho1)) (fun _ h_ => h_.1)); replace HO260 := Aside0.mk (Kd.R_mono (Kd.R_told (Kd.R_told (Kd.R_old (by (with_reducible repeat (first | apply Kd.R_alloc | apply Kd.R_drewN | apply Kd.R_drew)); exact (Kd.R_mono (Kd.R_far (p := ⟨gb270, 2, none⟩) (Kd.R_far (p := ⟨gb270, 1, none⟩) (Kd.R_far (p := ⟨gb270, 0, none⟩) (Kd.R_types HO260.out BK270.out (by decide)) (fun _ hk => hk.2) (.int .i64 t263)) (fun _ hk => hk.2) (.slice Ao33 t264.length co33)) (fun _ hk => hk.2) (.slice Ao34 t267.length co34)) (fun _ h_ => h_.1))) hb) (Kd.R_base ho0)) (Kd.R_base ho1)) (fun _ h_ => h_.1)); replace HO266 := Aside0.mk (Kd.R_mono (Kd.R_told (Kd.R_told (Kd.R_old (by (with_reducible repeat (first | apply Kd.R_alloc | apply Kd.R_drewN | apply Kd.R_drew)); exact (Kd.R_mono (Kd.R_far (p := ⟨gb270, 2, none⟩) (Kd.R_far (p := ⟨gb270, 1, none⟩) (Kd.R_far (p := ⟨gb270, 0, none⟩) (Kd.R_types HO266.out BK270.out (by decide)) (fun _ hk => hk.2) (.int .i64 t263)) (fun _ hk => hk.2) (.slice Ao33 t264.length co33)) (fun _ hk => hk.2) (.slice Ao34 t267.length co34)) (fun _ h_ => h_.1))) hb) (Kd.R_base ho0)) (Kd.R_base ho1)) (fun _ h_ => h_.1)); replace HO269 := Aside0.mk (Kd.R_mono (Kd.R_told (Kd.R_told (Kd.R_old (by (with_reducible repeat (first | apply Kd.R_alloc | apply Kd.R_drewN | apply Kd.R_drew)); exact (Kd.R_mono (Kd.R_far (p := ⟨gb270, 2, none⟩) (Kd.R_far (p := ⟨gb270, 1, none⟩) (Kd.R_far (p := ⟨gb270, 0, none⟩) (Kd.R_types HO269.out BK270.out (by decide)) (fun _ hk => hk.2) (.int .i64 t263)) (fun _ hk => hk.2) (.slice Ao33 t264.length co33)) (fun _ hk => hk.2) (.slice Ao34 t267.length co34)) (fun _ h_ => h_.1))) hb) (Kd.R_base ho0)) (Kd.R_base ho1)) (fun _ h_ => h_.1)); replace BK245 := Aside0.mk (blk_below (g := gb245) (o := .cells #[.int .i64 a0_0, .slice A0_1 l0_1.length c0_1, .slice A0_2 l0_2.length c0_2] 24 (0, 0)) (by (with_reducible repeat (first | refine blk_drewN ?_ _ | refine blk_drew ?_ | refine blk_alloc ?_ _)); refine blk_far ?_ NB245_270.out _; (with_reducible repeat (first | refine blk_drewN ?_ _ | refine blk_drew ?_ | refine blk_alloc ?_ _)); refine blk_far ?_ NB245_270.out _; (with_reducible repeat (first | refine blk_drewN ?_ _ | refine blk_drew ?_ | refine blk_alloc ?_ _)); refine blk_far ?_ NB245_270.out _; (with_reducible repeat (first | refine blk_drewN ?_ _ | refine blk_drew ?_ | refine blk_alloc ?_ _)); exact BK245.out) hb); replace BK262 := Aside0.mk (blk_below (g := gb262) (o := .cells #[.int .i64 t254, .slice Ao25 t255.length co25, .slice Ao26 t258.length co26] 28 (0, 0)) (by (with_reducible repeat (first | refine blk_drewN ?_ _ | refine blk_drew ?_ | refine blk_alloc ?_ _)); refine blk_far ?_ NB262_270.out _; (with_reducible repeat (first | refine blk_drewN ?_ _ | refine blk_drew ?_ | refine blk_alloc ?_ _)); refine blk_far ?_ NB262_270.out _; (with_reducible repeat (first | refine blk_drewN ?_ _ | refine blk_drew ?_ | refine blk_alloc ?_ _)); refine blk_far ?_ NB262_270.out _; (with_reducible repeat (first | refine blk_drewN ?_ _ | refine blk_drew ?_ | refine blk_alloc ?_ _)); exact BK262.out) hb); replace BK270 := Aside0.mk (blk_below (g := gb270) (o := .cells #[.int .i64 t263, .slice Ao33 t264.length co33, .slice Ao34 t267.length co34] 28 (0, 0)) (by (with_reducible repeat (first | refine blk_drewN ?_ _ | refine blk_drew ?_ | refine blk_alloc ?_ _)); refine blk_put (cs := #[.int .i64 t263, .slice Ao33 t264.length co33, .slice none 0 0]) ?_ 2 _ rfl; (with_reducible repeat (first | refine blk_drewN ?_ _ | refine blk_drew ?_ | refine blk_alloc ?_ _)); refine blk_put (cs := #[.int .i64 t263, .slice none 0 0, .slice none 0 0]) ?_ 1 _ rfl; (with_reducible repeat (first | refine blk_drewN ?_ _ | refine blk_drew ?_ | refine blk_alloc ?_ _)); refine blk_put (cs := #[.int .i64 0, .slice none 0 0, .slice none 0 0]) ?_ 0 _ rfl; (with_reducible repeat (first | refine blk_drewN ?_ _ | refine blk_drew ?_ | refine blk_alloc ?_ _)); exact BK270.out) hb); replace HB := Aside0.mk (below_step (tB HB.out) hb); (try clear hb); (try clear hb2); (try clear hk); (try clear hi); (try clear ho0); (try clear ho1)) | ((with_reducible refine gate_dst (N := 11) rfl ?_); refine box_event ?hg (N := 11) ?hd (cs := #[.int .i64 0, .slice none 0 0, .slice none 0 0]) (t := 28) ?hr ?_; (case hd => rfl); (case hg => rfl); (case hr => first | (go_simp; done) | (go_simp; rfl)); intro gb279 hg w36 hbox hb; replace HO250 := Aside0.mk (Kd.R_below (tR HO250.out) hb); replace HO253 := Aside0.mk (Kd.R_below (tR HO253.out) hb); replace HO257 := Aside0.mk (Kd.R_below (tR HO257.out) hb); replace HO260 := Aside0.mk (Kd.R_below (tR HO260.out) hb); replace HO266 := Aside0.mk (Kd.R_below (tR HO266.out) hb); replace HO269 := Aside0.mk (Kd.R_below (tR HO269.out) hb); replace HO274 := Aside0.mk (Kd.R_below (tR HO274.out) hb); replace HO277 := Aside0.mk (Kd.R_below (tR HO277.out) hb); have BK279 := Aside0.mk (hbox); have GW279 := Aside0.mk (bS HB.out hg); have GE279 := Aside0.mk (bS HB.out hg); replace HB := Aside0.mk (below_step (tB HB.out) hb); have NB245_279 := Aside0.mk (nL BK245.out hg); have NB279_245 := Aside0.mk (nG BK245.out hg); replace BK245 := bkB BK245 hb; have NB262_279 := Aside0.mk (nL BK262.out hg); have NB279_262 := Aside0.mk (nG BK262.out hg); replace BK262 := bkB BK262 hb; have NB270_279 := Aside0.mk (nL BK270.out hg); have NB279_270 := Aside0.mk (nG BK270.out hg); replace BK270 := bkB BK270 hb; clear hb hbox hg; have hnb37 := NB279_245.out; have hnc37 := NB245_279.out; have hnb38 := NB279_262.out; have hnc38 := NB262_279.out; have hnb39 := NB279_270.out; have hnc39 := NB270_279.out; obtain ⟨hcz40_0, hfz40_0, hcz40_1, hfz40_1, hcz40_2, hfz40_2⟩ := cz3 BK279; obtain ⟨Ao41, co41, eo41⟩ := Kd.R_slice HO274.out; subst eo41; obtain ⟨Ao42, co42, eo42⟩ := Kd.R_slice HO277.out; subst eo42))
  (try simp only [Act.put, List.setIfInBounds_toArray, List.set_cons_zero, List.set_cons_succ])
  go_cut [48] (fun v48 wc => ∃ (kq : Nat) (x48_12 : Bool), v48 = .bool x48_12 ∧ Aside0 (laws_FnExactTopLoad.j0 kq a1 a2 t261 t278 x48_12 a0_0 l0_1 l0_2 t254 t255 t258 t263 t264 t267 t271 t272 t275 = some r) ∧ Aside0 (kq ≤ k) ∧ Aside0 (Kd.R (Kd.int .i64) 3 wc w.heap.size (fun k_ => some k_ ≠ ((.slice Ao26 t258.length co26) : Value).ownBlock ∧ some k_ ≠ ((.slice Ao33 t264.length co33) : Value).ownBlock ∧ some k_ ≠ ((.slice Ao34 t267.length co34) : Value).ownBlock ∧ some k_ ≠ ((.slice Ao41 t272.length co41) : Value).ownBlock ∧ some k_ ≠ ((.slice Ao42 t275.length co42) : Value).ownBlock) (.slice Ao25 t255.length co25) t255) ∧ Aside0 (Kd.R (Kd.int .i64) 3 wc w.heap.size (fun k_ => some k_ ≠ ((.slice Ao25 t255.length co25) : Value).ownBlock ∧ some k_ ≠ ((.slice Ao33 t264.length co33) : Value).ownBlock ∧ some k_ ≠ ((.slice Ao34 t267.length co34) : Value).ownBlock ∧ some k_ ≠ ((.slice Ao41 t272.length co41) : Value).ownBlock ∧ some k_ ≠ ((.slice Ao42 t275.length co42) : Value).ownBlock) (.slice Ao26 t258.length co26) t258) ∧ Aside0 (Kd.R (Kd.int .i64) 3 wc w.heap.size (fun k_ => some k_ ≠ ((.slice Ao25 t255.length co25) : Value).ownBlock ∧ some k_ ≠ ((.slice Ao26 t258.length co26) : Value).ownBlock ∧ some k_ ≠ ((.slice Ao34 t267.length co34) : Value).ownBlock ∧ some k_ ≠ ((.slice Ao41 t272.length co41) : Value).ownBlock ∧ some k_ ≠ ((.slice Ao42 t275.length co42) : Value).ownBlock) (.slice Ao33 t264.length co33) t264) ∧ Aside0 (Kd.R (Kd.int .i64) 3 wc w.heap.size (fun k_ => some k_ ≠ ((.slice Ao25 t255.length co25) : Value).ownBlock ∧ some k_ ≠ ((.slice Ao26 t258.length co26) : Value).ownBlock ∧ some k_ ≠ ((.slice Ao33 t264.length co33) : Value).ownBlock ∧ some k_ ≠ ((.slice Ao41 t272.length co41) : Value).ownBlock ∧ some k_ ≠ ((.slice Ao42 t275.length co42) : Value).ownBlock) (.slice Ao34 t267.length co34) t267) ∧ Aside0 (Kd.R (Kd.int .i64) 3 wc w.heap.size (fun k_ => some k_ ≠ ((.slice Ao25 t255.length co25) : Value).ownBlock ∧ some k_ ≠ ((.slice Ao26 t258.length co26) : Value).ownBlock ∧ some k_ ≠ ((.slice Ao33 t264.length co33) : Value).ownBlock ∧ some k_ ≠ ((.slice Ao34 t267.length co34) : Value).ownBlock ∧ some k_ ≠ ((.slice Ao42 t275.length co42) : Value).ownBlock) (.slice Ao41 t272.length co41) t272) ∧ Aside0 (Kd.R (Kd.int .i64) 3 wc w.heap.size (fun k_ => some k_ ≠ ((.slice Ao25 t255.length co25) : Value).ownBlock ∧ some k_ ≠ ((.slice Ao26 t258.length co26) : Value).ownBlock ∧ some k_ ≠ ((.slice Ao33 t264.length co33) : Value).ownBlock ∧ some k_ ≠ ((.slice Ao34 t267.length co34) : Value).ownBlock ∧ some k_ ≠ ((.slice Ao41 t272.length co41) : Value).ownBlock) (.slice Ao42 t275.length co42) t275) ∧ Aside0 (wc.heap[gb245]? = some (.cells #[.int .i64 a0_0, (.slice A0_1 l0_1.length c0_1), (.slice A0_2 l0_2.length c0_2)] 24 (0, 0))) ∧ Aside0 (wc.heap[gb262]? = some (.cells #[.int .i64 t254, (.slice Ao25 t255.length co25), (.slice Ao26 t258.length co26)] 28 (0, 0))) ∧ Aside0 (wc.heap[gb270]? = some (.cells #[.int .i64 t263, (.slice Ao33 t264.length co33), (.slice Ao34 t267.length co34)] 28 (0, 0))) ∧ Aside0 (wc.heap[gb279]? = some (.cells #[.int .i64 t271, (.slice Ao41 t272.length co41), (.slice Ao42 t275.length co42)] 28 (0, 0))) ∧ Aside0 (Below w.heap.size w wc))
  case first =>
   have H := HC13.out
   clear HC13
   replace H := Option.bind_eq_some_iff.mp H
   obtain ⟨t280, A430, H⟩ := H
   replace H : (if t280 = true then (laws_FnExactTopLoad.j0 k a1 a2 t261 t278 (t278 != t261) a0_0 l0_1 l0_2 t254 t255 t258 t263 t264 t267 t271 t272 t275) else (laws_FnExactTopLoad.j0 k a1 a2 t261 t278 true a0_0 l0_1 l0_2 t254 t255 t258 t263 t264 t267 t271 t272 t275)) = some r := H
   have A43 := Aside0.mk A430
   clear A430
   by_cases c44 : t280 = true
   ·
    subst c44
    have H1 : (laws_FnExactTopLoad.j0 k a1 a2 t261 t278 (t278 != t261) a0_0 l0_1 l0_2 t254 t255 t258 t263 t264 t267 t271 t272 t275) = some r := by rw [if_pos rfl] at H; exact H
    clear H
    have H := H1
    clear H1
    have H' := Aside0.mk H
    clear H
    have hnb45 := NB279_245.out
    have hnc45 := NB245_279.out
    have hnb46 := NB279_262.out
    have hnc46 := NB262_279.out
    have hnb47 := NB279_270.out
    have hnc47 := NB270_279.out
    obtain ⟨hcz48_0, hfz48_0, hcz48_1, hfz48_1, hcz48_2, hfz48_2⟩ := cz3 BK279
    have hnb49 := NB262_245.out
    have hnc49 := NB245_262.out
    have hnb50 := NB262_270.out
    have hnc50 := NB270_262.out
    obtain ⟨hcz51_0, hfz51_0, hcz51_1, hfz51_1, hcz51_2, hfz51_2⟩ := cz3 BK262
    go_wp2_with (first | ((with_reducible refine gate_callee (f := 19) rfl ?_); refine goesL_ (some 42) rfl rfl Try.func19 (by kernel_rfl) rfl #[.agg #[.int .i64 t271, .slice Ao41 t272.length co41, .slice Ao42 t275.length co42], .agg #[.int .i64 t254, .slice Ao25 t255.length co25, .slice Ao26 t258.length co26]] rfl tM ?_; (with_reducible refine (laws_eqPile.calls k t271 _ _ t272 _ _ t275 t254 _ _ t255 _ _ t258 true _ ?side1 ?side2 ?side3 ?side4 ?side5 ?side6 ?side7 ?side8 A43.out).mono ?_); (case side1 => refine (Kd.R_reads' (e := 3) (base := w.heap.size) (ok := fun k_ => ((((((some k_ ≠ (.slice Ao42 t275.length co42 : Value).ownBlock ∧ some k_ ≠ (.slice Ao19 t248.length co19 : Value).ownBlock) ∧ some k_ ≠ (.slice Ao20 t251.length co20 : Value).ownBlock) ∧ some k_ ≠ (.slice Ao25 t255.length co25 : Value).ownBlock) ∧ some k_ ≠ (.slice Ao26 t258.length co26 : Value).ownBlock) ∧ some k_ ≠ (.slice Ao33 t264.length co33 : Value).ownBlock) ∧ some k_ ≠ (.slice Ao34 t267.length co34 : Value).ownBlock)) (n := t272.length) (c := co41) ?_).2.2; exact (by (with_reducible repeat (first | apply Kd.R_alloc | apply Kd.R_drewN | apply Kd.R_drew)); exact (Kd.R_mono (Kd.R_far (p := ⟨gb279, 2, none⟩) (Kd.R_far (p := ⟨gb279, 1, none⟩) (Kd.R_far (p := ⟨gb279, 0, none⟩) (Kd.R_types HO274.out BK279.out (by decide)) (fun _ hk => hk.2) (.int .i64 t271)) (fun _ hk => hk.2) (.slice Ao41 t272.length co41)) (fun _ hk => hk.2) (.slice Ao42 t275.length co42)) (fun _ h_ => h_.1)))); (case side2 => exact (Kd.R_reads' HO274.out).2.1); (case side3 => refine (Kd.R_reads' (e := 3) (base := w.heap.size) (ok := fun k_ => ((((((some k_ ≠ (.slice Ao41 t272.length co41 : Value).ownBlock ∧ some k_ ≠ (.slice Ao19 t248.length co19 : Value).ownBlock) ∧ some k_ ≠ (.slice Ao20 t251.length co20 : Value).ownBlock) ∧ some k_ ≠ (.slice Ao25 t255.length co25 : Value).ownBlock) ∧ some k_ ≠ (.slice Ao26 t258.length co26 : Value).ownBlock) ∧ some k_ ≠ (.slice Ao33 t264.length co33 : Value).ownBlock) ∧ some k_ ≠ (.slice Ao34 t267.length co34 : Value).ownBlock)) (n := t275.length) (c := co42) ?_).2.2; exact (by (with_reducible repeat (first | apply Kd.R_alloc | apply Kd.R_drewN | apply Kd.R_drew)); exact (Kd.R_mono (Kd.R_far (p := ⟨gb279, 2, none⟩) (Kd.R_far (p := ⟨gb279, 1, none⟩) (Kd.R_far (p := ⟨gb279, 0, none⟩) (Kd.R_types HO277.out BK279.out (by decide)) (fun _ hk => hk.2) (.int .i64 t271)) (fun _ hk => hk.2) (.slice Ao41 t272.length co41)) (fun _ hk => hk.2) (.slice Ao42 t275.length co42)) (fun _ h_ => h_.1)))); (case side4 => exact (Kd.R_reads' HO277.out).2.1); (case side5 => refine (Kd.R_reads' (e := 3) (base := w.heap.size) (ok := fun k_ => ((((((some k_ ≠ (.slice Ao26 t258.length co26 : Value).ownBlock ∧ some k_ ≠ (.slice Ao19 t248.length co19 : Value).ownBlock) ∧ some k_ ≠ (.slice Ao20 t251.length co20 : Value).ownBlock) ∧ some k_ ≠ (.slice Ao33 t264.length co33 : Value).ownBlock) ∧ some k_ ≠ (.slice Ao34 t267.length co34 : Value).ownBlock) ∧ some k_ ≠ (.slice Ao41 t272.length co41 : Value).ownBlock) ∧ some k_ ≠ (.slice Ao42 t275.length co42 : Value).ownBlock)) (n := t255.length) (c := co25) ?_).2.2; exact (by (with_reducible repeat (first | apply Kd.R_alloc | apply Kd.R_drewN | apply Kd.R_drew)); exact (Kd.R_mono (Kd.R_far (p := ⟨gb279, 2, none⟩) (Kd.R_far (p := ⟨gb279, 1, none⟩) (Kd.R_far (p := ⟨gb279, 0, none⟩) (Kd.R_types HO257.out BK279.out (by decide)) (fun _ hk => hk.2) (.int .i64 t271)) (fun _ hk => hk.2) (.slice Ao41 t272.length co41)) (fun _ hk => hk.2) (.slice Ao42 t275.length co42)) (fun _ h_ => h_.1)))); (case side6 => exact (Kd.R_reads' HO257.out).2.1); (case side7 => refine (Kd.R_reads' (e := 3) (base := w.heap.size) (ok := fun k_ => ((((((some k_ ≠ (.slice Ao25 t255.length co25 : Value).ownBlock ∧ some k_ ≠ (.slice Ao19 t248.length co19 : Value).ownBlock) ∧ some k_ ≠ (.slice Ao20 t251.length co20 : Value).ownBlock) ∧ some k_ ≠ (.slice Ao33 t264.length co33 : Value).ownBlock) ∧ some k_ ≠ (.slice Ao34 t267.length co34 : Value).ownBlock) ∧ some k_ ≠ (.slice Ao41 t272.length co41 : Value).ownBlock) ∧ some k_ ≠ (.slice Ao42 t275.length co42 : Value).ownBlock)) (n := t258.length) (c := co26) ?_).2.2; exact (by (with_reducible repeat (first | apply Kd.R_alloc | apply Kd.R_drewN | apply Kd.R_drew)); exact (Kd.R_mono (Kd.R_far (p := ⟨gb279, 2, none⟩) (Kd.R_far (p := ⟨gb279, 1, none⟩) (Kd.R_far (p := ⟨gb279, 0, none⟩) (Kd.R_types HO260.out BK279.out (by decide)) (fun _ hk => hk.2) (.int .i64 t271)) (fun _ hk => hk.2) (.slice Ao41 t272.length co41)) (fun _ hk => hk.2) (.slice Ao42 t275.length co42)) (fun _ h_ => h_.1)))); (case side8 => exact (Kd.R_reads' HO260.out).2.1); rintro e w52 ⟨rfl, hb⟩; refine ⟨_, rfl, ?_⟩; replace HO250 := Aside0.mk (Kd.R_below (by (with_reducible repeat (first | apply Kd.R_alloc | apply Kd.R_drewN | apply Kd.R_drew)); exact (Kd.R_mono (Kd.R_far (p := ⟨gb279, 2, none⟩) (Kd.R_far (p := ⟨gb279, 1, none⟩) (Kd.R_far (p := ⟨gb279, 0, none⟩) (Kd.R_types HO250.out BK279.out (by decide)) (fun _ hk => hk.2) (.int .i64 t271)) (fun _ hk => hk.2) (.slice Ao41 t272.length co41)) (fun _ hk => hk.2) (.slice Ao42 t275.length co42)) (fun _ h_ => h_.1))) hb); replace HO253 := Aside0.mk (Kd.R_below (by (with_reducible repeat (first | apply Kd.R_alloc | apply Kd.R_drewN | apply Kd.R_drew)); exact (Kd.R_mono (Kd.R_far (p := ⟨gb279, 2, none⟩) (Kd.R_far (p := ⟨gb279, 1, none⟩) (Kd.R_far (p := ⟨gb279, 0, none⟩) (Kd.R_types HO253.out BK279.out (by decide)) (fun _ hk => hk.2) (.int .i64 t271)) (fun _ hk => hk.2) (.slice Ao41 t272.length co41)) (fun _ hk => hk.2) (.slice Ao42 t275.length co42)) (fun _ h_ => h_.1))) hb); replace HO257 := Aside0.mk (Kd.R_below (by (with_reducible repeat (first | apply Kd.R_alloc | apply Kd.R_drewN | apply Kd.R_drew)); exact (Kd.R_mono (Kd.R_far (p := ⟨gb279, 2, none⟩) (Kd.R_far (p := ⟨gb279, 1, none⟩) (Kd.R_far (p := ⟨gb279, 0, none⟩) (Kd.R_types HO257.out BK279.out (by decide)) (fun _ hk => hk.2) (.int .i64 t271)) (fun _ hk => hk.2) (.slice Ao41 t272.length co41)) (fun _ hk => hk.2) (.slice Ao42 t275.length co42)) (fun _ h_ => h_.1))) hb); replace HO260 := Aside0.mk (Kd.R_below (by (with_reducible repeat (first | apply Kd.R_alloc | apply Kd.R_drewN | apply Kd.R_drew)); exact (Kd.R_mono (Kd.R_far (p := ⟨gb279, 2, none⟩) (Kd.R_far (p := ⟨gb279, 1, none⟩) (Kd.R_far (p := ⟨gb279, 0, none⟩) (Kd.R_types HO260.out BK279.out (by decide)) (fun _ hk => hk.2) (.int .i64 t271)) (fun _ hk => hk.2) (.slice Ao41 t272.length co41)) (fun _ hk => hk.2) (.slice Ao42 t275.length co42)) (fun _ h_ => h_.1))) hb); replace HO266 := Aside0.mk (Kd.R_below (by (with_reducible repeat (first | apply Kd.R_alloc | apply Kd.R_drewN | apply Kd.R_drew)); exact (Kd.R_mono (Kd.R_far (p := ⟨gb279, 2, none⟩) (Kd.R_far (p := ⟨gb279, 1, none⟩) (Kd.R_far (p := ⟨gb279, 0, none⟩) (Kd.R_types HO266.out BK279.out (by decide)) (fun _ hk => hk.2) (.int .i64 t271)) (fun _ hk => hk.2) (.slice Ao41 t272.length co41)) (fun _ hk => hk.2) (.slice Ao42 t275.length co42)) (fun _ h_ => h_.1))) hb); replace HO269 := Aside0.mk (Kd.R_below (by (with_reducible repeat (first | apply Kd.R_alloc | apply Kd.R_drewN | apply Kd.R_drew)); exact (Kd.R_mono (Kd.R_far (p := ⟨gb279, 2, none⟩) (Kd.R_far (p := ⟨gb279, 1, none⟩) (Kd.R_far (p := ⟨gb279, 0, none⟩) (Kd.R_types HO269.out BK279.out (by decide)) (fun _ hk => hk.2) (.int .i64 t271)) (fun _ hk => hk.2) (.slice Ao41 t272.length co41)) (fun _ hk => hk.2) (.slice Ao42 t275.length co42)) (fun _ h_ => h_.1))) hb); replace HO274 := Aside0.mk (Kd.R_below (by (with_reducible repeat (first | apply Kd.R_alloc | apply Kd.R_drewN | apply Kd.R_drew)); exact (Kd.R_mono (Kd.R_far (p := ⟨gb279, 2, none⟩) (Kd.R_far (p := ⟨gb279, 1, none⟩) (Kd.R_far (p := ⟨gb279, 0, none⟩) (Kd.R_types HO274.out BK279.out (by decide)) (fun _ hk => hk.2) (.int .i64 t271)) (fun _ hk => hk.2) (.slice Ao41 t272.length co41)) (fun _ hk => hk.2) (.slice Ao42 t275.length co42)) (fun _ h_ => h_.1))) hb); replace HO277 := Aside0.mk (Kd.R_below (by (with_reducible repeat (first | apply Kd.R_alloc | apply Kd.R_drewN | apply Kd.R_drew)); exact (Kd.R_mono (Kd.R_far (p := ⟨gb279, 2, none⟩) (Kd.R_far (p := ⟨gb279, 1, none⟩) (Kd.R_far (p := ⟨gb279, 0, none⟩) (Kd.R_types HO277.out BK279.out (by decide)) (fun _ hk => hk.2) (.int .i64 t271)) (fun _ hk => hk.2) (.slice Ao41 t272.length co41)) (fun _ hk => hk.2) (.slice Ao42 t275.length co42)) (fun _ h_ => h_.1))) hb); replace BK245 := Aside0.mk (blk_below (g := gb245) (o := .cells #[.int .i64 a0_0, .slice A0_1 l0_1.length c0_1, .slice A0_2 l0_2.length c0_2] 24 (0, 0)) (by (with_reducible repeat (first | refine blk_drewN ?_ _ | refine blk_drew ?_ | refine blk_alloc ?_ _)); refine blk_far ?_ NB245_279.out _; (with_reducible repeat (first | refine blk_drewN ?_ _ | refine blk_drew ?_ | refine blk_alloc ?_ _)); refine blk_far ?_ NB245_279.out _; (with_reducible repeat (first | refine blk_drewN ?_ _ | refine blk_drew ?_ | refine blk_alloc ?_ _)); refine blk_far ?_ NB245_279.out _; (with_reducible repeat (first | refine blk_drewN ?_ _ | refine blk_drew ?_ | refine blk_alloc ?_ _)); exact BK245.out) hb); replace BK262 := Aside0.mk (blk_below (g := gb262) (o := .cells #[.int .i64 t254, .slice Ao25 t255.length co25, .slice Ao26 t258.length co26] 28 (0, 0)) (by (with_reducible repeat (first | refine blk_drewN ?_ _ | refine blk_drew ?_ | refine blk_alloc ?_ _)); refine blk_far ?_ NB262_279.out _; (with_reducible repeat (first | refine blk_drewN ?_ _ | refine blk_drew ?_ | refine blk_alloc ?_ _)); refine blk_far ?_ NB262_279.out _; (with_reducible repeat (first | refine blk_drewN ?_ _ | refine blk_drew ?_ | refine blk_alloc ?_ _)); refine blk_far ?_ NB262_279.out _; (with_reducible repeat (first | refine blk_drewN ?_ _ | refine blk_drew ?_ | refine blk_alloc ?_ _)); exact BK262.out) hb); replace BK270 := Aside0.mk (blk_below (g := gb270) (o := .cells #[.int .i64 t263, .slice Ao33 t264.length co33, .slice Ao34 t267.length co34] 28 (0, 0)) (by (with_reducible repeat (first | refine blk_drewN ?_ _ | refine blk_drew ?_ | refine blk_alloc ?_ _)); refine blk_far ?_ NB270_279.out _; (with_reducible repeat (first | refine blk_drewN ?_ _ | refine blk_drew ?_ | refine blk_alloc ?_ _)); refine blk_far ?_ NB270_279.out _; (with_reducible repeat (first | refine blk_drewN ?_ _ | refine blk_drew ?_ | refine blk_alloc ?_ _)); refine blk_far ?_ NB270_279.out _; (with_reducible repeat (first | refine blk_drewN ?_ _ | refine blk_drew ?_ | refine blk_alloc ?_ _)); exact BK270.out) hb); replace BK279 := Aside0.mk (blk_below (g := gb279) (o := .cells #[.int .i64 t271, .slice Ao41 t272.length co41, .slice Ao42 t275.length co42] 28 (0, 0)) (by (with_reducible repeat (first | refine blk_drewN ?_ _ | refine blk_drew ?_ | refine blk_alloc ?_ _)); refine blk_put (cs := #[.int .i64 t271, .slice Ao41 t272.length co41, .slice none 0 0]) ?_ 2 _ rfl; (with_reducible repeat (first | refine blk_drewN ?_ _ | refine blk_drew ?_ | refine blk_alloc ?_ _)); refine blk_put (cs := #[.int .i64 t271, .slice none 0 0, .slice none 0 0]) ?_ 1 _ rfl; (with_reducible repeat (first | refine blk_drewN ?_ _ | refine blk_drew ?_ | refine blk_alloc ?_ _)); refine blk_put (cs := #[.int .i64 0, .slice none 0 0, .slice none 0 0]) ?_ 0 _ rfl; (with_reducible repeat (first | refine blk_drewN ?_ _ | refine blk_drew ?_ | refine blk_alloc ?_ _)); exact BK279.out) hb); replace HB := Aside0.mk (below_step (tB HB.out) hb); (try clear hb); (try clear hb2); (try clear hk); (try clear hi)))
    go_meet
    case rel => exact ⟨_, ((t278 != t261)), (by first | rfl | (simp; done) | (simp [wrap64]; done) | (simp [*]; done)), H', ⟨by first | omega | exact Nat.le_refl _⟩, ⟨by (with_reducible repeat (first | apply Kd.R_alloc | apply Kd.R_drewN | apply Kd.R_drew)); exact Kd.R_mono HO257.out (fun _ hk => ⟨hk.1.1.1.1.1.1, ⟨hk.1.1.1.2, ⟨hk.1.1.2, ⟨hk.1.2, hk.2⟩⟩⟩⟩)⟩, ⟨by (with_reducible repeat (first | apply Kd.R_alloc | apply Kd.R_drewN | apply Kd.R_drew)); exact Kd.R_mono HO260.out (fun _ hk => ⟨hk.1.1.1.1.1.1, ⟨hk.1.1.1.2, ⟨hk.1.1.2, ⟨hk.1.2, hk.2⟩⟩⟩⟩)⟩, ⟨by (with_reducible repeat (first | apply Kd.R_alloc | apply Kd.R_drewN | apply Kd.R_drew)); exact Kd.R_mono HO266.out (fun _ hk => ⟨hk.1.1.1.2, ⟨hk.1.1.2, ⟨hk.1.1.1.1.1.1, ⟨hk.1.2, hk.2⟩⟩⟩⟩)⟩, ⟨by (with_reducible repeat (first | apply Kd.R_alloc | apply Kd.R_drewN | apply Kd.R_drew)); exact Kd.R_mono HO269.out (fun _ hk => ⟨hk.1.1.1.2, ⟨hk.1.1.2, ⟨hk.1.1.1.1.1.1, ⟨hk.1.2, hk.2⟩⟩⟩⟩)⟩, ⟨by (with_reducible repeat (first | apply Kd.R_alloc | apply Kd.R_drewN | apply Kd.R_drew)); exact Kd.R_mono HO274.out (fun _ hk => ⟨hk.1.1.1.2, ⟨hk.1.1.2, ⟨hk.1.2, ⟨hk.2, hk.1.1.1.1.1.1⟩⟩⟩⟩)⟩, ⟨by (with_reducible repeat (first | apply Kd.R_alloc | apply Kd.R_drewN | apply Kd.R_drew)); exact Kd.R_mono HO277.out (fun _ hk => ⟨hk.1.1.1.2, ⟨hk.1.1.2, ⟨hk.1.2, ⟨hk.2, hk.1.1.1.1.1.1⟩⟩⟩⟩)⟩, ⟨tK BK245.out⟩, ⟨tK BK262.out⟩, ⟨tK BK270.out⟩, ⟨tK BK279.out⟩, ⟨tB HB.out⟩⟩
   ·
    replace c44 := Bool.eq_false_iff.mpr c44
    subst c44
    have H1 : (laws_FnExactTopLoad.j0 k a1 a2 t261 t278 true a0_0 l0_1 l0_2 t254 t255 t258 t263 t264 t267 t271 t272 t275) = some r := by rw [if_neg (show ¬ (false = true) by decide)] at H; exact H
    clear H
    have H := H1
    clear H1
    have H' := Aside0.mk H
    clear H
    have hnb53 := NB279_245.out
    have hnc53 := NB245_279.out
    have hnb54 := NB279_262.out
    have hnc54 := NB262_279.out
    have hnb55 := NB279_270.out
    have hnc55 := NB270_279.out
    obtain ⟨hcz56_0, hfz56_0, hcz56_1, hfz56_1, hcz56_2, hfz56_2⟩ := cz3 BK279
    have hnb57 := NB262_245.out
    have hnc57 := NB245_262.out
    have hnb58 := NB262_270.out
    have hnc58 := NB270_262.out
    obtain ⟨hcz59_0, hfz59_0, hcz59_1, hfz59_1, hcz59_2, hfz59_2⟩ := cz3 BK262
    go_wp2_with (first | ((with_reducible refine gate_callee (f := 19) rfl ?_); refine goesL_ (some 42) rfl rfl Try.func19 (by kernel_rfl) rfl #[.agg #[.int .i64 t271, .slice Ao41 t272.length co41, .slice Ao42 t275.length co42], .agg #[.int .i64 t254, .slice Ao25 t255.length co25, .slice Ao26 t258.length co26]] rfl tM ?_; (with_reducible refine (laws_eqPile.calls k t271 _ _ t272 _ _ t275 t254 _ _ t255 _ _ t258 false _ ?side1 ?side2 ?side3 ?side4 ?side5 ?side6 ?side7 ?side8 A43.out).mono ?_); (case side1 => refine (Kd.R_reads' (e := 3) (base := w.heap.size) (ok := fun k_ => ((((((some k_ ≠ (.slice Ao42 t275.length co42 : Value).ownBlock ∧ some k_ ≠ (.slice Ao19 t248.length co19 : Value).ownBlock) ∧ some k_ ≠ (.slice Ao20 t251.length co20 : Value).ownBlock) ∧ some k_ ≠ (.slice Ao25 t255.length co25 : Value).ownBlock) ∧ some k_ ≠ (.slice Ao26 t258.length co26 : Value).ownBlock) ∧ some k_ ≠ (.slice Ao33 t264.length co33 : Value).ownBlock) ∧ some k_ ≠ (.slice Ao34 t267.length co34 : Value).ownBlock)) (n := t272.length) (c := co41) ?_).2.2; exact (by (with_reducible repeat (first | apply Kd.R_alloc | apply Kd.R_drewN | apply Kd.R_drew)); exact (Kd.R_mono (Kd.R_far (p := ⟨gb279, 2, none⟩) (Kd.R_far (p := ⟨gb279, 1, none⟩) (Kd.R_far (p := ⟨gb279, 0, none⟩) (Kd.R_types HO274.out BK279.out (by decide)) (fun _ hk => hk.2) (.int .i64 t271)) (fun _ hk => hk.2) (.slice Ao41 t272.length co41)) (fun _ hk => hk.2) (.slice Ao42 t275.length co42)) (fun _ h_ => h_.1)))); (case side2 => exact (Kd.R_reads' HO274.out).2.1); (case side3 => refine (Kd.R_reads' (e := 3) (base := w.heap.size) (ok := fun k_ => ((((((some k_ ≠ (.slice Ao41 t272.length co41 : Value).ownBlock ∧ some k_ ≠ (.slice Ao19 t248.length co19 : Value).ownBlock) ∧ some k_ ≠ (.slice Ao20 t251.length co20 : Value).ownBlock) ∧ some k_ ≠ (.slice Ao25 t255.length co25 : Value).ownBlock) ∧ some k_ ≠ (.slice Ao26 t258.length co26 : Value).ownBlock) ∧ some k_ ≠ (.slice Ao33 t264.length co33 : Value).ownBlock) ∧ some k_ ≠ (.slice Ao34 t267.length co34 : Value).ownBlock)) (n := t275.length) (c := co42) ?_).2.2; exact (by (with_reducible repeat (first | apply Kd.R_alloc | apply Kd.R_drewN | apply Kd.R_drew)); exact (Kd.R_mono (Kd.R_far (p := ⟨gb279, 2, none⟩) (Kd.R_far (p := ⟨gb279, 1, none⟩) (Kd.R_far (p := ⟨gb279, 0, none⟩) (Kd.R_types HO277.out BK279.out (by decide)) (fun _ hk => hk.2) (.int .i64 t271)) (fun _ hk => hk.2) (.slice Ao41 t272.length co41)) (fun _ hk => hk.2) (.slice Ao42 t275.length co42)) (fun _ h_ => h_.1)))); (case side4 => exact (Kd.R_reads' HO277.out).2.1); (case side5 => refine (Kd.R_reads' (e := 3) (base := w.heap.size) (ok := fun k_ => ((((((some k_ ≠ (.slice Ao26 t258.length co26 : Value).ownBlock ∧ some k_ ≠ (.slice Ao19 t248.length co19 : Value).ownBlock) ∧ some k_ ≠ (.slice Ao20 t251.length co20 : Value).ownBlock) ∧ some k_ ≠ (.slice Ao33 t264.length co33 : Value).ownBlock) ∧ some k_ ≠ (.slice Ao34 t267.length co34 : Value).ownBlock) ∧ some k_ ≠ (.slice Ao41 t272.length co41 : Value).ownBlock) ∧ some k_ ≠ (.slice Ao42 t275.length co42 : Value).ownBlock)) (n := t255.length) (c := co25) ?_).2.2; exact (by (with_reducible repeat (first | apply Kd.R_alloc | apply Kd.R_drewN | apply Kd.R_drew)); exact (Kd.R_mono (Kd.R_far (p := ⟨gb279, 2, none⟩) (Kd.R_far (p := ⟨gb279, 1, none⟩) (Kd.R_far (p := ⟨gb279, 0, none⟩) (Kd.R_types HO257.out BK279.out (by decide)) (fun _ hk => hk.2) (.int .i64 t271)) (fun _ hk => hk.2) (.slice Ao41 t272.length co41)) (fun _ hk => hk.2) (.slice Ao42 t275.length co42)) (fun _ h_ => h_.1)))); (case side6 => exact (Kd.R_reads' HO257.out).2.1); (case side7 => refine (Kd.R_reads' (e := 3) (base := w.heap.size) (ok := fun k_ => ((((((some k_ ≠ (.slice Ao25 t255.length co25 : Value).ownBlock ∧ some k_ ≠ (.slice Ao19 t248.length co19 : Value).ownBlock) ∧ some k_ ≠ (.slice Ao20 t251.length co20 : Value).ownBlock) ∧ some k_ ≠ (.slice Ao33 t264.length co33 : Value).ownBlock) ∧ some k_ ≠ (.slice Ao34 t267.length co34 : Value).ownBlock) ∧ some k_ ≠ (.slice Ao41 t272.length co41 : Value).ownBlock) ∧ some k_ ≠ (.slice Ao42 t275.length co42 : Value).ownBlock)) (n := t258.length) (c := co26) ?_).2.2; exact (by (with_reducible repeat (first | apply Kd.R_alloc | apply Kd.R_drewN | apply Kd.R_drew)); exact (Kd.R_mono (Kd.R_far (p := ⟨gb279, 2, none⟩) (Kd.R_far (p := ⟨gb279, 1, none⟩) (Kd.R_far (p := ⟨gb279, 0, none⟩) (Kd.R_types HO260.out BK279.out (by decide)) (fun _ hk => hk.2) (.int .i64 t271)) (fun _ hk => hk.2) (.slice Ao41 t272.length co41)) (fun _ hk => hk.2) (.slice Ao42 t275.length co42)) (fun _ h_ => h_.1)))); (case side8 => exact (Kd.R_reads' HO260.out).2.1); rintro e w60 ⟨rfl, hb⟩; refine ⟨_, rfl, ?_⟩; replace HO250 := Aside0.mk (Kd.R_below (by (with_reducible repeat (first | apply Kd.R_alloc | apply Kd.R_drewN | apply Kd.R_drew)); exact (Kd.R_mono (Kd.R_far (p := ⟨gb279, 2, none⟩) (Kd.R_far (p := ⟨gb279, 1, none⟩) (Kd.R_far (p := ⟨gb279, 0, none⟩) (Kd.R_types HO250.out BK279.out (by decide)) (fun _ hk => hk.2) (.int .i64 t271)) (fun _ hk => hk.2) (.slice Ao41 t272.length co41)) (fun _ hk => hk.2) (.slice Ao42 t275.length co42)) (fun _ h_ => h_.1))) hb); replace HO253 := Aside0.mk (Kd.R_below (by (with_reducible repeat (first | apply Kd.R_alloc | apply Kd.R_drewN | apply Kd.R_drew)); exact (Kd.R_mono (Kd.R_far (p := ⟨gb279, 2, none⟩) (Kd.R_far (p := ⟨gb279, 1, none⟩) (Kd.R_far (p := ⟨gb279, 0, none⟩) (Kd.R_types HO253.out BK279.out (by decide)) (fun _ hk => hk.2) (.int .i64 t271)) (fun _ hk => hk.2) (.slice Ao41 t272.length co41)) (fun _ hk => hk.2) (.slice Ao42 t275.length co42)) (fun _ h_ => h_.1))) hb); replace HO257 := Aside0.mk (Kd.R_below (by (with_reducible repeat (first | apply Kd.R_alloc | apply Kd.R_drewN | apply Kd.R_drew)); exact (Kd.R_mono (Kd.R_far (p := ⟨gb279, 2, none⟩) (Kd.R_far (p := ⟨gb279, 1, none⟩) (Kd.R_far (p := ⟨gb279, 0, none⟩) (Kd.R_types HO257.out BK279.out (by decide)) (fun _ hk => hk.2) (.int .i64 t271)) (fun _ hk => hk.2) (.slice Ao41 t272.length co41)) (fun _ hk => hk.2) (.slice Ao42 t275.length co42)) (fun _ h_ => h_.1))) hb); replace HO260 := Aside0.mk (Kd.R_below (by (with_reducible repeat (first | apply Kd.R_alloc | apply Kd.R_drewN | apply Kd.R_drew)); exact (Kd.R_mono (Kd.R_far (p := ⟨gb279, 2, none⟩) (Kd.R_far (p := ⟨gb279, 1, none⟩) (Kd.R_far (p := ⟨gb279, 0, none⟩) (Kd.R_types HO260.out BK279.out (by decide)) (fun _ hk => hk.2) (.int .i64 t271)) (fun _ hk => hk.2) (.slice Ao41 t272.length co41)) (fun _ hk => hk.2) (.slice Ao42 t275.length co42)) (fun _ h_ => h_.1))) hb); replace HO266 := Aside0.mk (Kd.R_below (by (with_reducible repeat (first | apply Kd.R_alloc | apply Kd.R_drewN | apply Kd.R_drew)); exact (Kd.R_mono (Kd.R_far (p := ⟨gb279, 2, none⟩) (Kd.R_far (p := ⟨gb279, 1, none⟩) (Kd.R_far (p := ⟨gb279, 0, none⟩) (Kd.R_types HO266.out BK279.out (by decide)) (fun _ hk => hk.2) (.int .i64 t271)) (fun _ hk => hk.2) (.slice Ao41 t272.length co41)) (fun _ hk => hk.2) (.slice Ao42 t275.length co42)) (fun _ h_ => h_.1))) hb); replace HO269 := Aside0.mk (Kd.R_below (by (with_reducible repeat (first | apply Kd.R_alloc | apply Kd.R_drewN | apply Kd.R_drew)); exact (Kd.R_mono (Kd.R_far (p := ⟨gb279, 2, none⟩) (Kd.R_far (p := ⟨gb279, 1, none⟩) (Kd.R_far (p := ⟨gb279, 0, none⟩) (Kd.R_types HO269.out BK279.out (by decide)) (fun _ hk => hk.2) (.int .i64 t271)) (fun _ hk => hk.2) (.slice Ao41 t272.length co41)) (fun _ hk => hk.2) (.slice Ao42 t275.length co42)) (fun _ h_ => h_.1))) hb); replace HO274 := Aside0.mk (Kd.R_below (by (with_reducible repeat (first | apply Kd.R_alloc | apply Kd.R_drewN | apply Kd.R_drew)); exact (Kd.R_mono (Kd.R_far (p := ⟨gb279, 2, none⟩) (Kd.R_far (p := ⟨gb279, 1, none⟩) (Kd.R_far (p := ⟨gb279, 0, none⟩) (Kd.R_types HO274.out BK279.out (by decide)) (fun _ hk => hk.2) (.int .i64 t271)) (fun _ hk => hk.2) (.slice Ao41 t272.length co41)) (fun _ hk => hk.2) (.slice Ao42 t275.length co42)) (fun _ h_ => h_.1))) hb); replace HO277 := Aside0.mk (Kd.R_below (by (with_reducible repeat (first | apply Kd.R_alloc | apply Kd.R_drewN | apply Kd.R_drew)); exact (Kd.R_mono (Kd.R_far (p := ⟨gb279, 2, none⟩) (Kd.R_far (p := ⟨gb279, 1, none⟩) (Kd.R_far (p := ⟨gb279, 0, none⟩) (Kd.R_types HO277.out BK279.out (by decide)) (fun _ hk => hk.2) (.int .i64 t271)) (fun _ hk => hk.2) (.slice Ao41 t272.length co41)) (fun _ hk => hk.2) (.slice Ao42 t275.length co42)) (fun _ h_ => h_.1))) hb); replace BK245 := Aside0.mk (blk_below (g := gb245) (o := .cells #[.int .i64 a0_0, .slice A0_1 l0_1.length c0_1, .slice A0_2 l0_2.length c0_2] 24 (0, 0)) (by (with_reducible repeat (first | refine blk_drewN ?_ _ | refine blk_drew ?_ | refine blk_alloc ?_ _)); refine blk_far ?_ NB245_279.out _; (with_reducible repeat (first | refine blk_drewN ?_ _ | refine blk_drew ?_ | refine blk_alloc ?_ _)); refine blk_far ?_ NB245_279.out _; (with_reducible repeat (first | refine blk_drewN ?_ _ | refine blk_drew ?_ | refine blk_alloc ?_ _)); refine blk_far ?_ NB245_279.out _; (with_reducible repeat (first | refine blk_drewN ?_ _ | refine blk_drew ?_ | refine blk_alloc ?_ _)); exact BK245.out) hb); replace BK262 := Aside0.mk (blk_below (g := gb262) (o := .cells #[.int .i64 t254, .slice Ao25 t255.length co25, .slice Ao26 t258.length co26] 28 (0, 0)) (by (with_reducible repeat (first | refine blk_drewN ?_ _ | refine blk_drew ?_ | refine blk_alloc ?_ _)); refine blk_far ?_ NB262_279.out _; (with_reducible repeat (first | refine blk_drewN ?_ _ | refine blk_drew ?_ | refine blk_alloc ?_ _)); refine blk_far ?_ NB262_279.out _; (with_reducible repeat (first | refine blk_drewN ?_ _ | refine blk_drew ?_ | refine blk_alloc ?_ _)); refine blk_far ?_ NB262_279.out _; (with_reducible repeat (first | refine blk_drewN ?_ _ | refine blk_drew ?_ | refine blk_alloc ?_ _)); exact BK262.out) hb); replace BK270 := Aside0.mk (blk_below (g := gb270) (o := .cells #[.int .i64 t263, .slice Ao33 t264.length co33, .slice Ao34 t267.length co34] 28 (0, 0)) (by (with_reducible repeat (first | refine blk_drewN ?_ _ | refine blk_drew ?_ | refine blk_alloc ?_ _)); refine blk_far ?_ NB270_279.out _; (with_reducible repeat (first | refine blk_drewN ?_ _ | refine blk_drew ?_ | refine blk_alloc ?_ _)); refine blk_far ?_ NB270_279.out _; (with_reducible repeat (first | refine blk_drewN ?_ _ | refine blk_drew ?_ | refine blk_alloc ?_ _)); refine blk_far ?_ NB270_279.out _; (with_reducible repeat (first | refine blk_drewN ?_ _ | refine blk_drew ?_ | refine blk_alloc ?_ _)); exact BK270.out) hb); replace BK279 := Aside0.mk (blk_below (g := gb279) (o := .cells #[.int .i64 t271, .slice Ao41 t272.length co41, .slice Ao42 t275.length co42] 28 (0, 0)) (by (with_reducible repeat (first | refine blk_drewN ?_ _ | refine blk_drew ?_ | refine blk_alloc ?_ _)); refine blk_put (cs := #[.int .i64 t271, .slice Ao41 t272.length co41, .slice none 0 0]) ?_ 2 _ rfl; (with_reducible repeat (first | refine blk_drewN ?_ _ | refine blk_drew ?_ | refine blk_alloc ?_ _)); refine blk_put (cs := #[.int .i64 t271, .slice none 0 0, .slice none 0 0]) ?_ 1 _ rfl; (with_reducible repeat (first | refine blk_drewN ?_ _ | refine blk_drew ?_ | refine blk_alloc ?_ _)); refine blk_put (cs := #[.int .i64 0, .slice none 0 0, .slice none 0 0]) ?_ 0 _ rfl; (with_reducible repeat (first | refine blk_drewN ?_ _ | refine blk_drew ?_ | refine blk_alloc ?_ _)); exact BK279.out) hb); replace HB := Aside0.mk (below_step (tB HB.out) hb); (try clear hb); (try clear hb2); (try clear hk); (try clear hi)))
    go_meet
    case rel => exact ⟨_, (true), (by first | rfl | (simp; done) | (simp [wrap64]; done) | (simp [*]; done)), H', ⟨by first | omega | exact Nat.le_refl _⟩, ⟨by (with_reducible repeat (first | apply Kd.R_alloc | apply Kd.R_drewN | apply Kd.R_drew)); exact Kd.R_mono HO257.out (fun _ hk => ⟨hk.1.1.1.1.1.1, ⟨hk.1.1.1.2, ⟨hk.1.1.2, ⟨hk.1.2, hk.2⟩⟩⟩⟩)⟩, ⟨by (with_reducible repeat (first | apply Kd.R_alloc | apply Kd.R_drewN | apply Kd.R_drew)); exact Kd.R_mono HO260.out (fun _ hk => ⟨hk.1.1.1.1.1.1, ⟨hk.1.1.1.2, ⟨hk.1.1.2, ⟨hk.1.2, hk.2⟩⟩⟩⟩)⟩, ⟨by (with_reducible repeat (first | apply Kd.R_alloc | apply Kd.R_drewN | apply Kd.R_drew)); exact Kd.R_mono HO266.out (fun _ hk => ⟨hk.1.1.1.2, ⟨hk.1.1.2, ⟨hk.1.1.1.1.1.1, ⟨hk.1.2, hk.2⟩⟩⟩⟩)⟩, ⟨by (with_reducible repeat (first | apply Kd.R_alloc | apply Kd.R_drewN | apply Kd.R_drew)); exact Kd.R_mono HO269.out (fun _ hk => ⟨hk.1.1.1.2, ⟨hk.1.1.2, ⟨hk.1.1.1.1.1.1, ⟨hk.1.2, hk.2⟩⟩⟩⟩)⟩, ⟨by (with_reducible repeat (first | apply Kd.R_alloc | apply Kd.R_drewN | apply Kd.R_drew)); exact Kd.R_mono HO274.out (fun _ hk => ⟨hk.1.1.1.2, ⟨hk.1.1.2, ⟨hk.1.2, ⟨hk.2, hk.1.1.1.1.1.1⟩⟩⟩⟩)⟩, ⟨by (with_reducible repeat (first | apply Kd.R_alloc | apply Kd.R_drewN | apply Kd.R_drew)); exact Kd.R_mono HO277.out (fun _ hk => ⟨hk.1.1.1.2, ⟨hk.1.1.2, ⟨hk.1.2, ⟨hk.2, hk.1.1.1.1.1.1⟩⟩⟩⟩)⟩, ⟨tK BK245.out⟩, ⟨tK BK262.out⟩, ⟨tK BK270.out⟩, ⟨tK BK279.out⟩, ⟨tB HB.out⟩⟩
  case rest =>
   clear HC13
   try clear c1
   try clear c2
   try clear p2
   try clear c3
   try clear c4
   try clear c5
   try clear c5b0
   try clear p6
   try clear c8
   try clear c15
   try clear c17
   try clear c19
   try clear c23
   try clear c30
   try clear c31
   try clear c32
   try clear c37
   try clear c38
   try clear c39
   try clear c44
   try clear c45
   try clear c46
   try clear c47
   try clear c49
   try clear c50
   try clear c53
   try clear c54
   try clear c55
   try clear c57
   try clear c58
   try clear hcz15_0
   try clear hcz15_1
   try clear hcz15_2
   try clear hcz17_0
   try clear hcz17_1
   try clear hcz17_2
   try clear hcz24_0
   try clear hcz24_1
   try clear hcz24_2
   try clear hcz27_0
   try clear hcz27_1
   try clear hcz27_2
   try clear hcz32_0
   try clear hcz32_1
   try clear hcz32_2
   try clear hcz40_0
   try clear hcz40_1
   try clear hcz40_2
   try clear hcz48_0
   try clear hcz48_1
   try clear hcz48_2
   try clear hcz51_0
   try clear hcz51_1
   try clear hcz51_2
   try clear hcz56_0
   try clear hcz56_1
   try clear hcz56_2
   try clear hcz59_0
   try clear hcz59_1
   try clear hcz59_2
   try clear hcz7_0
   try clear hcz7_1
   try clear hcz7_2
   try clear hfz15_0
   try clear hfz15_1
   try clear hfz15_2
   try clear hfz17_0
   try clear hfz17_1
   try clear hfz17_2
   try clear hfz24_0
   try clear hfz24_1
   try clear hfz24_2
   try clear hfz27_0
   try clear hfz27_1
   try clear hfz27_2
   try clear hfz32_0
   try clear hfz32_1
   try clear hfz32_2
   try clear hfz40_0
   try clear hfz40_1
   try clear hfz40_2
   try clear hfz48_0
   try clear hfz48_1
   try clear hfz48_2
   try clear hfz51_0
   try clear hfz51_1
   try clear hfz51_2
   try clear hfz56_0
   try clear hfz56_1
   try clear hfz56_2
   try clear hfz59_0
   try clear hfz59_1
   try clear hfz59_2
   try clear hfz7_0
   try clear hfz7_1
   try clear hfz7_2
   obtain ⟨kq, x48_12, rfl, HA, HJ12, HO_263001, HO_263002, HO_271001, HO_271002, HO_280001, HO_280002, BK245, BK262, BK270, BK279, HB⟩ := hcut
   cases kq with
   | zero => exact absurd HA.out (by simp [laws_FnExactTopLoad.j0])
   | succ kj12 =>
    have H := HA.out
    clear HA
    simp only [laws_FnExactTopLoad.j0] at H
    by_cases c61 : x48_12 = true
    ·
     subst c61
     have H1 : (some false) = some r := by rw [if_pos rfl] at H; exact H
     clear H
     have H := H1
     clear H1
     obtain rfl := Option.some.inj H
     go_wp2
     go_ret
     exact ⟨by first | rfl | (simp [errW_none, errW_some] <;> rfl) | (simp [*, errW_none, errW_some] <;> rfl), tB HB.out⟩
    ·
     replace c61 := Bool.eq_false_iff.mpr c61
     subst c61
     have H1 : ((laws_toPile.f kj12 a0_0 l0_1 l0_2).bind fun bt281 => ((laws_eqPile.f kj12 t263 t264 t267 bt281.1 bt281.2.1 bt281.2.2).bind fun t288 => (if t288 = true then ((laws_markPile.f kj12 t263 t264 t267 1).bind fun bt289 => (if bt289.1 < 0 then (laws_FnExactTopLoad.j1 kj12 a1 a2 t261 true a0_0 l0_1 l0_2 t254 t255 t258 t271 t272 t275) else ((laws_eqPile.f kj12 t271 t272 t275 t254 t255 t258).bind fun t292 => (if t292 = true then (laws_FnExactTopLoad.j1 kj12 a1 a2 t261 (t278 != t261) a0_0 l0_1 l0_2 t254 t255 t258 t271 t272 t275) else (laws_FnExactTopLoad.j1 kj12 a1 a2 t261 true a0_0 l0_1 l0_2 t254 t255 t258 t271 t272 t275))))) else (some false)))) = some r := by rw [if_neg (show ¬ (false = true) by decide)] at H; exact H
     clear H
     have H := H1
     clear H1
     replace H := Option.bind_eq_some_iff.mp H
     obtain ⟨⟨t281, t282, t285⟩, A620, H⟩ := H
     replace H : ((laws_eqPile.f kj12 t263 t264 t267 t281 t282 t285).bind fun t288 => (if t288 = true then ((laws_markPile.f kj12 t263 t264 t267 1).bind fun bt289 => (if bt289.1 < 0 then (laws_FnExactTopLoad.j1 kj12 a1 a2 t261 true a0_0 l0_1 l0_2 t254 t255 t258 t271 t272 t275) else ((laws_eqPile.f kj12 t271 t272 t275 t254 t255 t258).bind fun t292 => (if t292 = true then (laws_FnExactTopLoad.j1 kj12 a1 a2 t261 (t278 != t261) a0_0 l0_1 l0_2 t254 t255 t258 t271 t272 t275) else (laws_FnExactTopLoad.j1 kj12 a1 a2 t261 true a0_0 l0_1 l0_2 t254 t255 t258 t271 t272 t275))))) else (some false))) = some r := H
     have A62 := Aside0.mk A620
     clear A620
     replace H := Option.bind_eq_some_iff.mp H
     obtain ⟨t288, A630, H⟩ := H
     replace H : (if t288 = true then ((laws_markPile.f kj12 t263 t264 t267 1).bind fun bt289 => (if bt289.1 < 0 then (laws_FnExactTopLoad.j1 kj12 a1 a2 t261 true a0_0 l0_1 l0_2 t254 t255 t258 t271 t272 t275) else ((laws_eqPile.f kj12 t271 t272 t275 t254 t255 t258).bind fun t292 => (if t292 = true then (laws_FnExactTopLoad.j1 kj12 a1 a2 t261 (t278 != t261) a0_0 l0_1 l0_2 t254 t255 t258 t271 t272 t275) else (laws_FnExactTopLoad.j1 kj12 a1 a2 t261 true a0_0 l0_1 l0_2 t254 t255 t258 t271 t272 t275))))) else (some false)) = some r := H
     have A63 := Aside0.mk A630
     clear A630
     by_cases c64 : t288 = true
     ·
      subst c64
      have H1 : ((laws_markPile.f kj12 t263 t264 t267 1).bind fun bt289 => (if bt289.1 < 0 then (laws_FnExactTopLoad.j1 kj12 a1 a2 t261 true a0_0 l0_1 l0_2 t254 t255 t258 t271 t272 t275) else ((laws_eqPile.f kj12 t271 t272 t275 t254 t255 t258).bind fun t292 => (if t292 = true then (laws_FnExactTopLoad.j1 kj12 a1 a2 t261 (t278 != t261) a0_0 l0_1 l0_2 t254 t255 t258 t271 t272 t275) else (laws_FnExactTopLoad.j1 kj12 a1 a2 t261 true a0_0 l0_1 l0_2 t254 t255 t258 t271 t272 t275))))) = some r := by rw [if_pos rfl] at H; exact H
      clear H
      have H := H1
      clear H1
      replace H := Option.bind_eq_some_iff.mp H
      obtain ⟨⟨t289, t290, t291⟩, A650, H⟩ := H
      replace H : (if t289 < 0 then (laws_FnExactTopLoad.j1 kj12 a1 a2 t261 true a0_0 l0_1 l0_2 t254 t255 t258 t271 t272 t275) else ((laws_eqPile.f kj12 t271 t272 t275 t254 t255 t258).bind fun t292 => (if t292 = true then (laws_FnExactTopLoad.j1 kj12 a1 a2 t261 (t278 != t261) a0_0 l0_1 l0_2 t254 t255 t258 t271 t272 t275) else (laws_FnExactTopLoad.j1 kj12 a1 a2 t261 true a0_0 l0_1 l0_2 t254 t255 t258 t271 t272 t275)))) = some r := H
      have A65 := Aside0.mk A650
      clear A650
      have HC66 := Aside0.mk H
      clear H
      try go_wp2
      replace HO_263001 := Aside0.mk (Kd.R_drew HO_263001.out)
      replace HO_263002 := Aside0.mk (Kd.R_drew HO_263002.out)
      replace HO_271001 := Aside0.mk (Kd.R_drew HO_271001.out)
      replace HO_271002 := Aside0.mk (Kd.R_drew HO_271002.out)
      replace HO_280001 := Aside0.mk (Kd.R_drew HO_280001.out)
      replace HO_280002 := Aside0.mk (Kd.R_drew HO_280002.out)
      replace BK245 := Aside0.mk (blk_drew BK245.out)
      replace BK262 := Aside0.mk (blk_drew BK262.out)
      replace BK270 := Aside0.mk (blk_drew BK270.out)
      replace BK279 := Aside0.mk (blk_drew BK279.out)
      replace HB := Aside0.mk (below_drew1 HB.out)
      refine start_ (n := 5) (S := fun w' => w'.cell? ⟨gb270, 0, none⟩ = some (.int .i64 t263) ∧ w'.cell? ⟨gb270, 1, none⟩ = some (.slice Ao33 t264.length co33) ∧ w'.cell? ⟨gb270, 2, none⟩ = some (.slice Ao34 t267.length co34) ∧ w'.cell? ⟨gb245, 0, none⟩ = some (.int .i64 a0_0) ∧ w'.cell? ⟨gb245, 1, none⟩ = some (.slice A0_1 l0_1.length c0_1) ∧ w'.cell? ⟨gb245, 2, none⟩ = some (.slice A0_2 l0_2.length c0_2)) (ds := []) #[false, false, false, false, false] (by kernel_rfl) rfl rfl ⟨(blk_cell BK270.out 0).trans rfl, (blk_cell BK270.out 1).trans rfl, (blk_cell BK270.out 2).trans rfl, (blk_cell BK245.out 0).trans rfl, (blk_cell BK245.out 1).trans rfl, (blk_cell BK245.out 2).trans rfl⟩ (fun hHeld => ?_)
      generalize wc.drew = w67 at HO_263001 HO_263002 HO_271001 HO_271002 HO_280001 HO_280002 BK245 BK262 BK270 BK279 HB hHeld ⊢
      refine take_ (i := 0) (N := some 49) (v := ?_) (a' := ?_) #[true, false, false, false, false] rfl rfl (by kernel_rfl) (fun _ _ _ h => h) (Or.inl ⟨by rfl, ?_⟩) hHeld ?_ ?_
      rotate_left
      ·
       rintro w' ⟨s0, s1, s2, s3, s4, s5⟩
       go_simp
       with_reducible rfl
      rotate_left
      ·
       simp only [Act.put, List.setIfInBounds_toArray, List.set_cons_zero, List.set_cons_succ, i64_w, i32_w]
       rfl
      refine take_ (i := 1) (N := some 50) (v := ?_) (a' := ?_) #[true, true, false, false, false] rfl rfl (by kernel_rfl) (fun _ _ _ h => h) (Or.inl ⟨by rfl, ?_⟩) hHeld ?_ ?_
      rotate_left
      ·
       rintro w' ⟨s0, s1, s2, s3, s4, s5⟩
       go_simp
       with_reducible rfl
      rotate_left
      ·
       simp only [Act.put, List.setIfInBounds_toArray, List.set_cons_zero, List.set_cons_succ, i64_w, i32_w]
       rfl
      refine one_ (i := 2) (N := some 51) #[true, true, true, false, false] rfl rfl (by kernel_rfl) (by decide) (fun K hK => ?_)
      refine goes_ Try.func17 (by kernel_rfl) rfl #[.agg #[.int .i64 a0_0, .slice A0_1 l0_1.length c0_1, .slice A0_2 l0_2.length c0_2]] (by rfl) rfl rfl tM ?_
      with_reducible refine (laws_toPile.calls kj12 a0_0 _ _ l0_1 _ _ l0_2 t281 t282 t285 _ ?side1 ?side2 ?side3 ?side4 A62.out).mono ?_
      (case side1 => exact tC (Kd.C_below HR0_1.out HB.out))
      (case side2 => exact HC0_1.out)
      (case side3 => exact tC (Kd.C_below HR0_2.out HB.out))
      (case side4 => exact HC0_2.out)
      rintro e w68 ⟨v283, v286, rfl, ho0, ho1, hb⟩
      refine ⟨_, rfl, ?_⟩
      have HO284 := Aside0.mk (Kd.R_lower (Kd.R_new' (Kd.R_new' (Kd.R_new' (Kd.R_new' (Kd.R_new' (Kd.R_new' ho0 (Kd.R_lt (tR HO_263001.out))) (Kd.R_lt (tR HO_263002.out))) (Kd.R_lt (tR HO_271001.out))) (Kd.R_lt (tR HO_271002.out))) (Kd.R_lt (tR HO_280001.out))) (Kd.R_lt (tR HO_280002.out))) (below_size (tB HB.out)))
      have HO287 := Aside0.mk (Kd.R_lower (Kd.R_new' (Kd.R_new' (Kd.R_new' (Kd.R_new' (Kd.R_new' (Kd.R_new' ho1 (Kd.R_lt (tR HO_263001.out))) (Kd.R_lt (tR HO_263002.out))) (Kd.R_lt (tR HO_271001.out))) (Kd.R_lt (tR HO_271002.out))) (Kd.R_lt (tR HO_280001.out))) (Kd.R_lt (tR HO_280002.out))) (below_size (tB HB.out)))
      replace HO_263001 := Aside0.mk (Kd.R_mono (Kd.R_told (Kd.R_told (Kd.R_old (tR HO_263001.out) hb) (Kd.R_base ho0)) (Kd.R_base ho1)) (fun _ h_ => h_.1))
      replace HO_263002 := Aside0.mk (Kd.R_mono (Kd.R_told (Kd.R_told (Kd.R_old (tR HO_263002.out) hb) (Kd.R_base ho0)) (Kd.R_base ho1)) (fun _ h_ => h_.1))
      replace HO_271001 := Aside0.mk (Kd.R_mono (Kd.R_told (Kd.R_told (Kd.R_old (tR HO_271001.out) hb) (Kd.R_base ho0)) (Kd.R_base ho1)) (fun _ h_ => h_.1))
      replace HO_271002 := Aside0.mk (Kd.R_mono (Kd.R_told (Kd.R_told (Kd.R_old (tR HO_271002.out) hb) (Kd.R_base ho0)) (Kd.R_base ho1)) (fun _ h_ => h_.1))
      replace HO_280001 := Aside0.mk (Kd.R_mono (Kd.R_told (Kd.R_told (Kd.R_old (tR HO_280001.out) hb) (Kd.R_base ho0)) (Kd.R_base ho1)) (fun _ h_ => h_.1))
      replace HO_280002 := Aside0.mk (Kd.R_mono (Kd.R_told (Kd.R_told (Kd.R_old (tR HO_280002.out) hb) (Kd.R_base ho0)) (Kd.R_base ho1)) (fun _ h_ => h_.1))
      replace BK245 := bkB BK245 hb
      replace BK262 := bkB BK262 hb
      replace BK270 := bkB BK270 hb
      replace BK279 := bkB BK279 hb
      replace HB := Aside0.mk (below_step (tB HB.out) hb)
      (try clear hb)
      (try clear hb2)
      (try clear hk)
      (try clear hi)
      (try clear ho0)
      (try clear ho1)
      obtain ⟨Ao69, co69, eo69⟩ := Kd.R_slice HO284.out
      (first | subst eo69 | (injection eo69 with f1_ f2_ f3_; have f4_ := f1_.symm; have f5_ := f3_.symm; clear f1_ f2_ f3_; subst f4_; subst f5_))
      obtain ⟨Ao70, co70, eo70⟩ := Kd.R_slice HO287.out
      (first | subst eo70 | (injection eo70 with f1_ f2_ f3_; have f4_ := f1_.symm; have f5_ := f3_.symm; clear f1_ f2_ f3_; subst f4_; subst f5_))
      refine hK.out _ _ ⟨(blk_cell BK270.out 0).trans rfl, (blk_cell BK270.out 1).trans rfl, (blk_cell BK270.out 2).trans rfl, (blk_cell BK245.out 0).trans rfl, (blk_cell BK245.out 1).trans rfl, (blk_cell BK245.out 2).trans rfl⟩ (fun hHeld => ?_)
      clear hK K
      refine norm_ (a' := ?_) ?_ ?_
      rotate_left
      ·
       show Act.put _ (some 51) _ = _
       simp only [Act.put, List.setIfInBounds_toArray, List.set_cons_zero, List.set_cons_succ, i64_w, i32_w]
       rfl
      refine one_ (i := 3) (N := some 52) #[true, true, true, true, false] rfl rfl (by kernel_rfl) (by decide) (fun K hK => ?_)
      refine goes_ Try.func19 (by kernel_rfl) rfl #[.agg #[.int .i64 t263, .slice Ao33 t264.length co33, .slice Ao34 t267.length co34], .agg #[.int .i64 t281, .slice Ao69 t282.length co69, .slice Ao70 t285.length co70]] (by rfl) rfl rfl tM ?_
      with_reducible refine (laws_eqPile.calls kj12 t263 _ _ t264 _ _ t267 t281 _ _ t282 _ _ t285 true _ ?side1 ?side2 ?side3 ?side4 ?side5 ?side6 ?side7 ?side8 A63.out).mono ?_
      (case side1 => exact tC (Kd.R_reads' HO_271001.out).2.2)
      (case side2 => exact (Kd.R_reads' HO_271001.out).2.1)
      (case side3 => exact tC (Kd.R_reads' HO_271002.out).2.2)
      (case side4 => exact (Kd.R_reads' HO_271002.out).2.1)
      (case side5 => exact tC (Kd.R_reads' HO284.out).2.2)
      (case side6 => exact (Kd.R_reads' HO284.out).2.1)
      (case side7 => exact tC (Kd.R_reads' HO287.out).2.2)
      (case side8 => exact (Kd.R_reads' HO287.out).2.1)
      rintro e w71 ⟨rfl, hb⟩
      refine ⟨_, rfl, ?_⟩
      replace HO_263001 := Aside0.mk (Kd.R_below (tR HO_263001.out) hb)
      replace HO_263002 := Aside0.mk (Kd.R_below (tR HO_263002.out) hb)
      replace HO_271001 := Aside0.mk (Kd.R_below (tR HO_271001.out) hb)
      replace HO_271002 := Aside0.mk (Kd.R_below (tR HO_271002.out) hb)
      replace HO_280001 := Aside0.mk (Kd.R_below (tR HO_280001.out) hb)
      replace HO_280002 := Aside0.mk (Kd.R_below (tR HO_280002.out) hb)
      replace HO284 := Aside0.mk (Kd.R_below (tR HO284.out) hb)
      replace HO287 := Aside0.mk (Kd.R_below (tR HO287.out) hb)
      replace BK245 := bkB BK245 hb
      replace BK262 := bkB BK262 hb
      replace BK270 := bkB BK270 hb
      replace BK279 := bkB BK279 hb
      replace HB := Aside0.mk (below_step (tB HB.out) hb)
      (try clear hb)
      (try clear hb2)
      (try clear hk)
      (try clear hi)
      refine hK.out _ _ ⟨(blk_cell BK270.out 0).trans rfl, (blk_cell BK270.out 1).trans rfl, (blk_cell BK270.out 2).trans rfl, (blk_cell BK245.out 0).trans rfl, (blk_cell BK245.out 1).trans rfl, (blk_cell BK245.out 2).trans rfl⟩ (fun hHeld => ?_)
      clear hK K
      refine norm_ (a' := ?_) ?_ ?_
      rotate_left
      ·
       show Act.put _ (some 52) _ = _
       simp only [Act.put, List.setIfInBounds_toArray, List.set_cons_zero, List.set_cons_succ, i64_w, i32_w]
       rfl
      refine pure_ (i := 4) (N := some 53) (v := ?_) (a' := ?_) #[true, true, true, true, true] rfl rfl (by kernel_rfl) (fun _ _ _ h => h) (Or.inl ⟨by rfl, ?_⟩) ?_ ?_
      rotate_left
      ·
       intro w'
       go_simp
       with_reducible rfl
      rotate_left
      ·
       simp only [Act.put, List.setIfInBounds_toArray, List.set_cons_zero, List.set_cons_succ, i64_w, i32_w]
       rfl
      refine done_ (by kernel_rfl) ?_
      have hnb72 := NB270_245.out
      have hnc72 := NB245_270.out
      have hnb73 := NB270_262.out
      have hnc73 := NB262_270.out
      have hnb74 := NB270_279.out
      have hnc74 := NB279_270.out
      obtain ⟨hcz75_0, hfz75_0, hcz75_1, hfz75_1, hcz75_2, hfz75_2⟩ := cz3 BK270
      go_upto_region 14 with (first | ((with_reducible refine gate_callee (f := 24) rfl ?_); refine goesL_ (some 56) rfl rfl Try.func24 (by kernel_rfl) rfl #[.agg #[.int .i64 t263, .slice Ao33 t264.length co33, .slice Ao34 t267.length co34], .int .i64 1] rfl tM ?_; (with_reducible refine (laws_markPile.calls kj12 t263 (fun k_ => some k_ = (.slice Ao33 t264.length co33 : Value).ownBlock) (.slice Ao33 t264.length co33) t264 (fun k_ => some k_ = (.slice Ao34 t267.length co34 : Value).ownBlock) (.slice Ao34 t267.length co34) t267 1 t289 t290 t291 w _ ?side1 ?side2 ?side3 ?side4 ?side5 A65.out).mono ?_); (case side1 => repeat (first | (with_reducible first | exact HB.out | apply below_alloc | apply pw_below_drewN | apply below_drew1 | refine below_set ?_ GE245.out | refine below_set ?_ GE262.out | refine below_set ?_ GE270.out | refine below_set ?_ GE279.out) | exact HB.out)); (case side2 => exact Kd.R_tight rfl HO_271001.out); (case side3 => exact fun k_ e_ => (HO_271001.out.1 k_ e_.symm).1.1.2.2.1); (case side4 => exact Kd.R_tight rfl HO_271002.out); (case side5 => exact fun k_ e_ => (HO_271002.out.1 k_ e_.symm).1.1.2.2.1); rintro e w76 ⟨rfl, hy0, hy1, hb, hkp⟩; refine ⟨_, rfl, ?_⟩; replace HO_263001 := Aside0.mk (Kd.R_mono (ok' := fun k_ => some k_ ≠ (.slice Ao26 t258.length co26 : Value).ownBlock ∧ some k_ ≠ (.slice Ao33 t264.length co33 : Value).ownBlock ∧ some k_ ≠ (.slice Ao34 t267.length co34 : Value).ownBlock ∧ some k_ ≠ (.slice Ao41 t272.length co41 : Value).ownBlock ∧ some k_ ≠ (.slice Ao42 t275.length co42 : Value).ownBlock ∧ some k_ ≠ (.slice Ao69 t282.length co69 : Value).ownBlock ∧ some k_ ≠ (.slice Ao70 t285.length co70 : Value).ownBlock) (Kd.R_keptB (HO_263001.out) hkp (fun k_ hk_ hs_ => Or.elim hs_ (fun e_ => (hk_.1.1.2.1) e_) (fun e_ => (hk_.1.1.2.2.1) e_))) (fun k_ hk_ => ⟨hk_.1.1.1.1, hk_.1.1.1.2.1, hk_.1.1.1.2.2.1, hk_.1.1.1.2.2.2.1, hk_.1.1.1.2.2.2.2, hk_.1.1.2, hk_.1.2⟩)); replace HO_263002 := Aside0.mk (Kd.R_mono (ok' := fun k_ => some k_ ≠ (.slice Ao25 t255.length co25 : Value).ownBlock ∧ some k_ ≠ (.slice Ao33 t264.length co33 : Value).ownBlock ∧ some k_ ≠ (.slice Ao34 t267.length co34 : Value).ownBlock ∧ some k_ ≠ (.slice Ao41 t272.length co41 : Value).ownBlock ∧ some k_ ≠ (.slice Ao42 t275.length co42 : Value).ownBlock ∧ some k_ ≠ (.slice Ao69 t282.length co69 : Value).ownBlock ∧ some k_ ≠ (.slice Ao70 t285.length co70 : Value).ownBlock) (Kd.R_keptB (HO_263002.out) hkp (fun k_ hk_ hs_ => Or.elim hs_ (fun e_ => (hk_.1.1.2.1) e_) (fun e_ => (hk_.1.1.2.2.1) e_))) (fun k_ hk_ => ⟨hk_.1.1.1.1, hk_.1.1.1.2.1, hk_.1.1.1.2.2.1, hk_.1.1.1.2.2.2.1, hk_.1.1.1.2.2.2.2, hk_.1.1.2, hk_.1.2⟩)); replace HO_280001 := Aside0.mk (Kd.R_mono (ok' := fun k_ => some k_ ≠ (.slice Ao25 t255.length co25 : Value).ownBlock ∧ some k_ ≠ (.slice Ao26 t258.length co26 : Value).ownBlock ∧ some k_ ≠ (.slice Ao33 t264.length co33 : Value).ownBlock ∧ some k_ ≠ (.slice Ao34 t267.length co34 : Value).ownBlock ∧ some k_ ≠ (.slice Ao42 t275.length co42 : Value).ownBlock ∧ some k_ ≠ (.slice Ao69 t282.length co69 : Value).ownBlock ∧ some k_ ≠ (.slice Ao70 t285.length co70 : Value).ownBlock) (Kd.R_keptB (HO_280001.out) hkp (fun k_ hk_ hs_ => Or.elim hs_ (fun e_ => (hk_.1.1.2.2.1) e_) (fun e_ => (hk_.1.1.2.2.2.1) e_))) (fun k_ hk_ => ⟨hk_.1.1.1.1, hk_.1.1.1.2.1, hk_.1.1.1.2.2.1, hk_.1.1.1.2.2.2.1, hk_.1.1.1.2.2.2.2, hk_.1.1.2, hk_.1.2⟩)); replace HO_280002 := Aside0.mk (Kd.R_mono (ok' := fun k_ => some k_ ≠ (.slice Ao25 t255.length co25 : Value).ownBlock ∧ some k_ ≠ (.slice Ao26 t258.length co26 : Value).ownBlock ∧ some k_ ≠ (.slice Ao33 t264.length co33 : Value).ownBlock ∧ some k_ ≠ (.slice Ao34 t267.length co34 : Value).ownBlock ∧ some k_ ≠ (.slice Ao41 t272.length co41 : Value).ownBlock ∧ some k_ ≠ (.slice Ao69 t282.length co69 : Value).ownBlock ∧ some k_ ≠ (.slice Ao70 t285.length co70 : Value).ownBlock) (Kd.R_keptB (HO_280002.out) hkp (fun k_ hk_ hs_ => Or.elim hs_ (fun e_ => (hk_.1.1.2.2.1) e_) (fun e_ => (hk_.1.1.2.2.2.1) e_))) (fun k_ hk_ => ⟨hk_.1.1.1.1, hk_.1.1.1.2.1, hk_.1.1.1.2.2.1, hk_.1.1.1.2.2.2.1, hk_.1.1.1.2.2.2.2, hk_.1.1.2, hk_.1.2⟩)); replace BK245 := Aside0.mk (blk_kept (tK BK245.out) hkp (fun hs_ => Or.elim hs_ (fun e_ => (fun e_ => (Kd.R_ne HO_271001.out BK245.out (by decide)) e_) e_) (fun e_ => (fun e_ => (Kd.R_ne HO_271002.out BK245.out (by decide)) e_) e_))); replace BK262 := Aside0.mk (blk_kept (tK BK262.out) hkp (fun hs_ => Or.elim hs_ (fun e_ => (fun e_ => (Kd.R_ne HO_271001.out BK262.out (by decide)) e_) e_) (fun e_ => (fun e_ => (Kd.R_ne HO_271002.out BK262.out (by decide)) e_) e_))); replace BK270 := Aside0.mk (blk_kept (tK BK270.out) hkp (fun hs_ => Or.elim hs_ (fun e_ => (fun e_ => (Kd.R_ne HO_271001.out BK270.out (by decide)) e_) e_) (fun e_ => (fun e_ => (Kd.R_ne HO_271002.out BK270.out (by decide)) e_) e_))); replace BK279 := Aside0.mk (blk_kept (tK BK279.out) hkp (fun hs_ => Or.elim hs_ (fun e_ => (fun e_ => (Kd.R_ne HO_271001.out BK279.out (by decide)) e_) e_) (fun e_ => (fun e_ => (Kd.R_ne HO_271002.out BK279.out (by decide)) e_) e_))); replace HO_271001 := Aside0.mk (Kd.R_reok rfl hy0 (fun k_ e_ => HO_271001.out.1 k_ e_)); replace HO_271002 := Aside0.mk (Kd.R_reok rfl hy1 (fun k_ e_ => HO_271002.out.1 k_ e_)); replace HO284 := Aside0.mk (Kd.R_mono (ok' := fun k_ => some k_ ≠ (.slice Ao25 t255.length co25 : Value).ownBlock ∧ some k_ ≠ (.slice Ao26 t258.length co26 : Value).ownBlock ∧ some k_ ≠ (.slice Ao33 t264.length co33 : Value).ownBlock ∧ some k_ ≠ (.slice Ao34 t267.length co34 : Value).ownBlock ∧ some k_ ≠ (.slice Ao41 t272.length co41 : Value).ownBlock ∧ some k_ ≠ (.slice Ao42 t275.length co42 : Value).ownBlock ∧ some k_ ≠ (.slice Ao70 t285.length co70 : Value).ownBlock) (Kd.R_keptB (HO284.out) hkp (fun k_ hk_ hs_ => Or.elim hs_ (fun e_ => (hk_.1.1.1.2) e_) (fun e_ => (hk_.1.1.2) e_))) (fun k_ hk_ => ⟨hk_.1.1.1.1.1.1.2, hk_.1.1.1.1.1.2, hk_.1.1.1.1.2, hk_.1.1.1.2, hk_.1.1.2, hk_.1.2, hk_.1.1.1.1.1.1.1⟩)); replace HO287 := Aside0.mk (Kd.R_mono (ok' := fun k_ => some k_ ≠ (.slice Ao25 t255.length co25 : Value).ownBlock ∧ some k_ ≠ (.slice Ao26 t258.length co26 : Value).ownBlock ∧ some k_ ≠ (.slice Ao33 t264.length co33 : Value).ownBlock ∧ some k_ ≠ (.slice Ao34 t267.length co34 : Value).ownBlock ∧ some k_ ≠ (.slice Ao41 t272.length co41 : Value).ownBlock ∧ some k_ ≠ (.slice Ao42 t275.length co42 : Value).ownBlock ∧ some k_ ≠ (.slice Ao69 t282.length co69 : Value).ownBlock) (Kd.R_keptB (HO287.out) hkp (fun k_ hk_ hs_ => Or.elim hs_ (fun e_ => (hk_.1.1.1.2) e_) (fun e_ => (hk_.1.1.2) e_))) (fun k_ hk_ => ⟨hk_.1.1.1.1.1.1.2, hk_.1.1.1.1.1.2, hk_.1.1.1.1.2, hk_.1.1.1.2, hk_.1.1.2, hk_.1.2, hk_.1.1.1.1.1.1.1⟩)); replace HB := Aside0.mk (hb); (try clear hb); (try clear hkp); (try clear hy0); (try clear hy1)))
      (try simp only [Act.put, List.setIfInBounds_toArray, List.set_cons_zero, List.set_cons_succ])
      go_cut [69] (fun v69 wc => ∃ (kq : Nat) (x69_65 : Bool), v69 = .bool x69_65 ∧ Aside0 (laws_FnExactTopLoad.j1 kq a1 a2 t261 x69_65 a0_0 l0_1 l0_2 t254 t255 t258 t271 t272 t275 = some r) ∧ Aside0 (kq ≤ kj12) ∧ Aside0 (Kd.R (Kd.int .i64) 3 wc w.heap.size (fun k_ => some k_ ≠ ((.slice Ao26 t258.length co26) : Value).ownBlock ∧ some k_ ≠ ((.slice Ao33 t264.length co33) : Value).ownBlock ∧ some k_ ≠ ((.slice Ao34 t267.length co34) : Value).ownBlock ∧ some k_ ≠ ((.slice Ao41 t272.length co41) : Value).ownBlock ∧ some k_ ≠ ((.slice Ao42 t275.length co42) : Value).ownBlock) (.slice Ao25 t255.length co25) t255) ∧ Aside0 (Kd.R (Kd.int .i64) 3 wc w.heap.size (fun k_ => some k_ ≠ ((.slice Ao25 t255.length co25) : Value).ownBlock ∧ some k_ ≠ ((.slice Ao33 t264.length co33) : Value).ownBlock ∧ some k_ ≠ ((.slice Ao34 t267.length co34) : Value).ownBlock ∧ some k_ ≠ ((.slice Ao41 t272.length co41) : Value).ownBlock ∧ some k_ ≠ ((.slice Ao42 t275.length co42) : Value).ownBlock) (.slice Ao26 t258.length co26) t258) ∧ Aside0 (Kd.R (Kd.int .i64) 3 wc w.heap.size (fun k_ => some k_ ≠ ((.slice Ao25 t255.length co25) : Value).ownBlock ∧ some k_ ≠ ((.slice Ao26 t258.length co26) : Value).ownBlock ∧ some k_ ≠ ((.slice Ao34 t267.length co34) : Value).ownBlock ∧ some k_ ≠ ((.slice Ao41 t272.length co41) : Value).ownBlock ∧ some k_ ≠ ((.slice Ao42 t275.length co42) : Value).ownBlock) (.slice Ao33 t264.length co33) t290) ∧ Aside0 (Kd.R (Kd.int .i64) 3 wc w.heap.size (fun k_ => some k_ ≠ ((.slice Ao25 t255.length co25) : Value).ownBlock ∧ some k_ ≠ ((.slice Ao26 t258.length co26) : Value).ownBlock ∧ some k_ ≠ ((.slice Ao33 t264.length co33) : Value).ownBlock ∧ some k_ ≠ ((.slice Ao41 t272.length co41) : Value).ownBlock ∧ some k_ ≠ ((.slice Ao42 t275.length co42) : Value).ownBlock) (.slice Ao34 t267.length co34) t291) ∧ Aside0 (Kd.R (Kd.int .i64) 3 wc w.heap.size (fun k_ => some k_ ≠ ((.slice Ao25 t255.length co25) : Value).ownBlock ∧ some k_ ≠ ((.slice Ao26 t258.length co26) : Value).ownBlock ∧ some k_ ≠ ((.slice Ao33 t264.length co33) : Value).ownBlock ∧ some k_ ≠ ((.slice Ao34 t267.length co34) : Value).ownBlock ∧ some k_ ≠ ((.slice Ao42 t275.length co42) : Value).ownBlock) (.slice Ao41 t272.length co41) t272) ∧ Aside0 (Kd.R (Kd.int .i64) 3 wc w.heap.size (fun k_ => some k_ ≠ ((.slice Ao25 t255.length co25) : Value).ownBlock ∧ some k_ ≠ ((.slice Ao26 t258.length co26) : Value).ownBlock ∧ some k_ ≠ ((.slice Ao33 t264.length co33) : Value).ownBlock ∧ some k_ ≠ ((.slice Ao34 t267.length co34) : Value).ownBlock ∧ some k_ ≠ ((.slice Ao41 t272.length co41) : Value).ownBlock) (.slice Ao42 t275.length co42) t275) ∧ Aside0 (wc.heap[gb245]? = some (.cells #[.int .i64 a0_0, (.slice A0_1 l0_1.length c0_1), (.slice A0_2 l0_2.length c0_2)] 24 (0, 0))) ∧ Aside0 (wc.heap[gb262]? = some (.cells #[.int .i64 t254, (.slice Ao25 t255.length co25), (.slice Ao26 t258.length co26)] 28 (0, 0))) ∧ Aside0 (wc.heap[gb270]? = some (.cells #[.int .i64 t263, (.slice Ao33 t264.length co33), (.slice Ao34 t267.length co34)] 28 (0, 0))) ∧ Aside0 (wc.heap[gb279]? = some (.cells #[.int .i64 t271, (.slice Ao41 t272.length co41), (.slice Ao42 t275.length co42)] 28 (0, 0))) ∧ Aside0 (Below w.heap.size w wc))
      case first =>
       have H := HC66.out
       clear HC66
       by_cases c77 : t289 < 0
       ·
        rw [if_pos c77] at H
        have c77b0 : decide (t289 < 0) = true := decide_eq_true c77
        clear c77
        (first | rw [c77b0] | (simp only [i64_w, i32_w]; rw [c77b0]) | skip)
        have H' := Aside0.mk H
        clear H
        go_wp2
        go_meet
        case rel => exact ⟨_, (true), (by first | rfl | (simp; done) | (simp [wrap64]; done) | (simp [*]; done)), H', ⟨by have := HJ12.out; first | omega | exact Nat.le_refl _⟩, ⟨by (with_reducible repeat (first | apply Kd.R_alloc | apply Kd.R_drewN | apply Kd.R_drew)); exact Kd.R_mono HO_263001.out (fun _ hk => ⟨hk.1, ⟨hk.2.1, ⟨hk.2.2.1, ⟨hk.2.2.2.1, hk.2.2.2.2.1⟩⟩⟩⟩)⟩, ⟨by (with_reducible repeat (first | apply Kd.R_alloc | apply Kd.R_drewN | apply Kd.R_drew)); exact Kd.R_mono HO_263002.out (fun _ hk => ⟨hk.1, ⟨hk.2.1, ⟨hk.2.2.1, ⟨hk.2.2.2.1, hk.2.2.2.2.1⟩⟩⟩⟩)⟩, ⟨by (with_reducible repeat (first | apply Kd.R_alloc | apply Kd.R_drewN | apply Kd.R_drew)); exact Kd.R_mono HO_271001.out (fun _ hk => ⟨hk.1.1.1, ⟨hk.1.1.2.1, ⟨hk.1.1.2.2.1, ⟨hk.1.1.2.2.2.1, hk.1.1.2.2.2.2⟩⟩⟩⟩)⟩, ⟨by (with_reducible repeat (first | apply Kd.R_alloc | apply Kd.R_drewN | apply Kd.R_drew)); exact Kd.R_mono HO_271002.out (fun _ hk => ⟨hk.1.1.1, ⟨hk.1.1.2.1, ⟨hk.1.1.2.2.1, ⟨hk.1.1.2.2.2.1, hk.1.1.2.2.2.2⟩⟩⟩⟩)⟩, ⟨by (with_reducible repeat (first | apply Kd.R_alloc | apply Kd.R_drewN | apply Kd.R_drew)); exact Kd.R_mono HO_280001.out (fun _ hk => ⟨hk.1, ⟨hk.2.1, ⟨hk.2.2.1, ⟨hk.2.2.2.1, hk.2.2.2.2.1⟩⟩⟩⟩)⟩, ⟨by (with_reducible repeat (first | apply Kd.R_alloc | apply Kd.R_drewN | apply Kd.R_drew)); exact Kd.R_mono HO_280002.out (fun _ hk => ⟨hk.1, ⟨hk.2.1, ⟨hk.2.2.1, ⟨hk.2.2.2.1, hk.2.2.2.2.1⟩⟩⟩⟩)⟩, ⟨tK BK245.out⟩, ⟨tK BK262.out⟩, ⟨tK BK270.out⟩, ⟨tK BK279.out⟩, ⟨tB HB.out⟩⟩
       ·
        rw [if_neg c77] at H
        have c77b0 : decide (t289 < 0) = false := decide_eq_false c77
        clear c77
        (first | rw [c77b0] | (simp only [i64_w, i32_w]; rw [c77b0]) | skip)
        replace H := Option.bind_eq_some_iff.mp H
        obtain ⟨t292, A780, H⟩ := H
        replace H : (if t292 = true then (laws_FnExactTopLoad.j1 kj12 a1 a2 t261 (t278 != t261) a0_0 l0_1 l0_2 t254 t255 t258 t271 t272 t275) else (laws_FnExactTopLoad.j1 kj12 a1 a2 t261 true a0_0 l0_1 l0_2 t254 t255 t258 t271 t272 t275)) = some r := H
        have A78 := Aside0.mk A780
        clear A780
        by_cases c79 : t292 = true
        ·
         subst c79
         have H1 : (laws_FnExactTopLoad.j1 kj12 a1 a2 t261 (t278 != t261) a0_0 l0_1 l0_2 t254 t255 t258 t271 t272 t275) = some r := by rw [if_pos rfl] at H; exact H
         clear H
         have H := H1
         clear H1
         have H' := Aside0.mk H
         clear H
         have hnb80 := NB279_245.out
         have hnc80 := NB245_279.out
         have hnb81 := NB279_262.out
         have hnc81 := NB262_279.out
         have hnb82 := NB279_270.out
         have hnc82 := NB270_279.out
         obtain ⟨hcz83_0, hfz83_0, hcz83_1, hfz83_1, hcz83_2, hfz83_2⟩ := cz3 BK279
         have hnb84 := NB262_245.out
         have hnc84 := NB245_262.out
         have hnb85 := NB262_270.out
         have hnc85 := NB270_262.out
         obtain ⟨hcz86_0, hfz86_0, hcz86_1, hfz86_1, hcz86_2, hfz86_2⟩ := cz3 BK262
         go_wp2_with (first | (go_at_call 19; (with_reducible refine (laws_eqPile.calls kj12 t271 _ _ t272 _ _ t275 t254 _ _ t255 _ _ t258 true _ ?side1 ?side2 ?side3 ?side4 ?side5 ?side6 ?side7 ?side8 A78.out).mono ?_); (case side1 => exact tC (Kd.R_reads' HO_280001.out).2.2); (case side2 => exact (Kd.R_reads' HO_280001.out).2.1); (case side3 => exact tC (Kd.R_reads' HO_280002.out).2.2); (case side4 => exact (Kd.R_reads' HO_280002.out).2.1); (case side5 => exact tC (Kd.R_reads' HO_263001.out).2.2); (case side6 => exact (Kd.R_reads' HO_263001.out).2.1); (case side7 => exact tC (Kd.R_reads' HO_263002.out).2.2); (case side8 => exact (Kd.R_reads' HO_263002.out).2.1); rintro e w87 ⟨rfl, hb⟩; replace HO_263001 := Aside0.mk (Kd.R_below (tR HO_263001.out) hb); replace HO_263002 := Aside0.mk (Kd.R_below (tR HO_263002.out) hb); replace HO_271001 := Aside0.mk (Kd.R_below (tR HO_271001.out) hb); replace HO_271002 := Aside0.mk (Kd.R_below (tR HO_271002.out) hb); replace HO_280001 := Aside0.mk (Kd.R_below (tR HO_280001.out) hb); replace HO_280002 := Aside0.mk (Kd.R_below (tR HO_280002.out) hb); replace HO284 := Aside0.mk (Kd.R_below (tR HO284.out) hb); replace HO287 := Aside0.mk (Kd.R_below (tR HO287.out) hb); replace BK245 := bkB BK245 hb; replace BK262 := bkB BK262 hb; replace BK270 := bkB BK270 hb; replace BK279 := bkB BK279 hb; replace HB := Aside0.mk (below_step (tB HB.out) hb); (try clear hb); (try clear hb2); (try clear hk); (try clear hi)))
         go_meet
         case rel => exact ⟨_, ((t278 != t261)), (by first | rfl | (simp; done) | (simp [wrap64]; done) | (simp [*]; done)), H', ⟨by have := HJ12.out; first | omega | exact Nat.le_refl _⟩, ⟨by (with_reducible repeat (first | apply Kd.R_alloc | apply Kd.R_drewN | apply Kd.R_drew)); exact Kd.R_mono HO_263001.out (fun _ hk => ⟨hk.1, ⟨hk.2.1, ⟨hk.2.2.1, ⟨hk.2.2.2.1, hk.2.2.2.2.1⟩⟩⟩⟩)⟩, ⟨by (with_reducible repeat (first | apply Kd.R_alloc | apply Kd.R_drewN | apply Kd.R_drew)); exact Kd.R_mono HO_263002.out (fun _ hk => ⟨hk.1, ⟨hk.2.1, ⟨hk.2.2.1, ⟨hk.2.2.2.1, hk.2.2.2.2.1⟩⟩⟩⟩)⟩, ⟨by (with_reducible repeat (first | apply Kd.R_alloc | apply Kd.R_drewN | apply Kd.R_drew)); exact Kd.R_mono HO_271001.out (fun _ hk => ⟨hk.1.1.1, ⟨hk.1.1.2.1, ⟨hk.1.1.2.2.1, ⟨hk.1.1.2.2.2.1, hk.1.1.2.2.2.2⟩⟩⟩⟩)⟩, ⟨by (with_reducible repeat (first | apply Kd.R_alloc | apply Kd.R_drewN | apply Kd.R_drew)); exact Kd.R_mono HO_271002.out (fun _ hk => ⟨hk.1.1.1, ⟨hk.1.1.2.1, ⟨hk.1.1.2.2.1, ⟨hk.1.1.2.2.2.1, hk.1.1.2.2.2.2⟩⟩⟩⟩)⟩, ⟨by (with_reducible repeat (first | apply Kd.R_alloc | apply Kd.R_drewN | apply Kd.R_drew)); exact Kd.R_mono HO_280001.out (fun _ hk => ⟨hk.1, ⟨hk.2.1, ⟨hk.2.2.1, ⟨hk.2.2.2.1, hk.2.2.2.2.1⟩⟩⟩⟩)⟩, ⟨by (with_reducible repeat (first | apply Kd.R_alloc | apply Kd.R_drewN | apply Kd.R_drew)); exact Kd.R_mono HO_280002.out (fun _ hk => ⟨hk.1, ⟨hk.2.1, ⟨hk.2.2.1, ⟨hk.2.2.2.1, hk.2.2.2.2.1⟩⟩⟩⟩)⟩, ⟨tK BK245.out⟩, ⟨tK BK262.out⟩, ⟨tK BK270.out⟩, ⟨tK BK279.out⟩, ⟨tB HB.out⟩⟩
        ·
         replace c79 := Bool.eq_false_iff.mpr c79
         subst c79
         have H1 : (laws_FnExactTopLoad.j1 kj12 a1 a2 t261 true a0_0 l0_1 l0_2 t254 t255 t258 t271 t272 t275) = some r := by rw [if_neg (show ¬ (false = true) by decide)] at H; exact H
         clear H
         have H := H1
         clear H1
         have H' := Aside0.mk H
         clear H
         have hnb88 := NB279_245.out
         have hnc88 := NB245_279.out
         have hnb89 := NB279_262.out
         have hnc89 := NB262_279.out
         have hnb90 := NB279_270.out
         have hnc90 := NB270_279.out
         obtain ⟨hcz91_0, hfz91_0, hcz91_1, hfz91_1, hcz91_2, hfz91_2⟩ := cz3 BK279
         have hnb92 := NB262_245.out
         have hnc92 := NB245_262.out
         have hnb93 := NB262_270.out
         have hnc93 := NB270_262.out
         obtain ⟨hcz94_0, hfz94_0, hcz94_1, hfz94_1, hcz94_2, hfz94_2⟩ := cz3 BK262
         go_wp2_with (first | (go_at_call 19; (with_reducible refine (laws_eqPile.calls kj12 t271 _ _ t272 _ _ t275 t254 _ _ t255 _ _ t258 false _ ?side1 ?side2 ?side3 ?side4 ?side5 ?side6 ?side7 ?side8 A78.out).mono ?_); (case side1 => exact tC (Kd.R_reads' HO_280001.out).2.2); (case side2 => exact (Kd.R_reads' HO_280001.out).2.1); (case side3 => exact tC (Kd.R_reads' HO_280002.out).2.2); (case side4 => exact (Kd.R_reads' HO_280002.out).2.1); (case side5 => exact tC (Kd.R_reads' HO_263001.out).2.2); (case side6 => exact (Kd.R_reads' HO_263001.out).2.1); (case side7 => exact tC (Kd.R_reads' HO_263002.out).2.2); (case side8 => exact (Kd.R_reads' HO_263002.out).2.1); rintro e w95 ⟨rfl, hb⟩; replace HO_263001 := Aside0.mk (Kd.R_below (tR HO_263001.out) hb); replace HO_263002 := Aside0.mk (Kd.R_below (tR HO_263002.out) hb); replace HO_271001 := Aside0.mk (Kd.R_below (tR HO_271001.out) hb); replace HO_271002 := Aside0.mk (Kd.R_below (tR HO_271002.out) hb); replace HO_280001 := Aside0.mk (Kd.R_below (tR HO_280001.out) hb); replace HO_280002 := Aside0.mk (Kd.R_below (tR HO_280002.out) hb); replace HO284 := Aside0.mk (Kd.R_below (tR HO284.out) hb); replace HO287 := Aside0.mk (Kd.R_below (tR HO287.out) hb); replace BK245 := bkB BK245 hb; replace BK262 := bkB BK262 hb; replace BK270 := bkB BK270 hb; replace BK279 := bkB BK279 hb; replace HB := Aside0.mk (below_step (tB HB.out) hb); (try clear hb); (try clear hb2); (try clear hk); (try clear hi)))
         go_meet
         case rel => exact ⟨_, (true), (by first | rfl | (simp; done) | (simp [wrap64]; done) | (simp [*]; done)), H', ⟨by have := HJ12.out; first | omega | exact Nat.le_refl _⟩, ⟨by (with_reducible repeat (first | apply Kd.R_alloc | apply Kd.R_drewN | apply Kd.R_drew)); exact Kd.R_mono HO_263001.out (fun _ hk => ⟨hk.1, ⟨hk.2.1, ⟨hk.2.2.1, ⟨hk.2.2.2.1, hk.2.2.2.2.1⟩⟩⟩⟩)⟩, ⟨by (with_reducible repeat (first | apply Kd.R_alloc | apply Kd.R_drewN | apply Kd.R_drew)); exact Kd.R_mono HO_263002.out (fun _ hk => ⟨hk.1, ⟨hk.2.1, ⟨hk.2.2.1, ⟨hk.2.2.2.1, hk.2.2.2.2.1⟩⟩⟩⟩)⟩, ⟨by (with_reducible repeat (first | apply Kd.R_alloc | apply Kd.R_drewN | apply Kd.R_drew)); exact Kd.R_mono HO_271001.out (fun _ hk => ⟨hk.1.1.1, ⟨hk.1.1.2.1, ⟨hk.1.1.2.2.1, ⟨hk.1.1.2.2.2.1, hk.1.1.2.2.2.2⟩⟩⟩⟩)⟩, ⟨by (with_reducible repeat (first | apply Kd.R_alloc | apply Kd.R_drewN | apply Kd.R_drew)); exact Kd.R_mono HO_271002.out (fun _ hk => ⟨hk.1.1.1, ⟨hk.1.1.2.1, ⟨hk.1.1.2.2.1, ⟨hk.1.1.2.2.2.1, hk.1.1.2.2.2.2⟩⟩⟩⟩)⟩, ⟨by (with_reducible repeat (first | apply Kd.R_alloc | apply Kd.R_drewN | apply Kd.R_drew)); exact Kd.R_mono HO_280001.out (fun _ hk => ⟨hk.1, ⟨hk.2.1, ⟨hk.2.2.1, ⟨hk.2.2.2.1, hk.2.2.2.2.1⟩⟩⟩⟩)⟩, ⟨by (with_reducible repeat (first | apply Kd.R_alloc | apply Kd.R_drewN | apply Kd.R_drew)); exact Kd.R_mono HO_280002.out (fun _ hk => ⟨hk.1, ⟨hk.2.1, ⟨hk.2.2.1, ⟨hk.2.2.2.1, hk.2.2.2.2.1⟩⟩⟩⟩)⟩, ⟨tK BK245.out⟩, ⟨tK BK262.out⟩, ⟨tK BK270.out⟩, ⟨tK BK279.out⟩, ⟨tB HB.out⟩⟩
      case rest =>
       clear HC66
       try clear c1
       try clear c2
       try clear p2
       try clear c3
       try clear c4
       try clear c5
       try clear c5b0
       try clear c6
       try clear p6
       try clear c7
       try clear c8
       try clear c9
       try clear c15
       try clear c17
       try clear c19
       try clear c23
       try clear c24
       try clear c30
       try clear c31
       try clear c32
       try clear c37
       try clear c38
       try clear c39
       try clear c44
       try clear c45
       try clear c46
       try clear c47
       try clear c49
       try clear c50
       try clear c53
       try clear c54
       try clear c55
       try clear c57
       try clear c58
       try clear c61
       try clear c64
       try clear p64
       try clear c72
       try clear c73
       try clear c74
       try clear c77
       try clear c77b0
       try clear c79
       try clear c80
       try clear c81
       try clear c82
       try clear c84
       try clear c85
       try clear c88
       try clear c89
       try clear c90
       try clear c92
       try clear c93
       try clear hcz15_0
       try clear hcz15_1
       try clear hcz15_2
       try clear hcz17_0
       try clear hcz17_1
       try clear hcz17_2
       try clear hcz24_0
       try clear hcz24_1
       try clear hcz24_2
       try clear hcz27_0
       try clear hcz27_1
       try clear hcz27_2
       try clear hcz32_0
       try clear hcz32_1
       try clear hcz32_2
       try clear hcz40_0
       try clear hcz40_1
       try clear hcz40_2
       try clear hcz48_0
       try clear hcz48_1
       try clear hcz48_2
       try clear hcz51_0
       try clear hcz51_1
       try clear hcz51_2
       try clear hcz56_0
       try clear hcz56_1
       try clear hcz56_2
       try clear hcz59_0
       try clear hcz59_1
       try clear hcz59_2
       try clear hcz75_0
       try clear hcz75_1
       try clear hcz75_2
       try clear hcz7_0
       try clear hcz7_1
       try clear hcz7_2
       try clear hcz83_0
       try clear hcz83_1
       try clear hcz83_2
       try clear hcz86_0
       try clear hcz86_1
       try clear hcz86_2
       try clear hcz91_0
       try clear hcz91_1
       try clear hcz91_2
       try clear hcz94_0
       try clear hcz94_1
       try clear hcz94_2
       try clear hfz15_0
       try clear hfz15_1
       try clear hfz15_2
       try clear hfz17_0
       try clear hfz17_1
       try clear hfz17_2
       try clear hfz24_0
       try clear hfz24_1
       try clear hfz24_2
       try clear hfz27_0
       try clear hfz27_1
       try clear hfz27_2
       try clear hfz32_0
       try clear hfz32_1
       try clear hfz32_2
       try clear hfz40_0
       try clear hfz40_1
       try clear hfz40_2
       try clear hfz48_0
       try clear hfz48_1
       try clear hfz48_2
       try clear hfz51_0
       try clear hfz51_1
       try clear hfz51_2
       try clear hfz56_0
       try clear hfz56_1
       try clear hfz56_2
       try clear hfz59_0
       try clear hfz59_1
       try clear hfz59_2
       try clear hfz75_0
       try clear hfz75_1
       try clear hfz75_2
       try clear hfz7_0
       try clear hfz7_1
       try clear hfz7_2
       try clear hfz83_0
       try clear hfz83_1
       try clear hfz83_2
       try clear hfz86_0
       try clear hfz86_1
       try clear hfz86_2
       try clear hfz91_0
       try clear hfz91_1
       try clear hfz91_2
       try clear hfz94_0
       try clear hfz94_1
       try clear hfz94_2
       try clear p2
       try clear p6
       obtain ⟨kq, x69_65, rfl, HA, HJ65, HO_263001, HO_263002, HO_271001, HO_271002, HO_280001, HO_280002, BK245, BK262, BK270, BK279, HB⟩ := hcut
       have hl271001_65 := (Kd.R_reads' HO_271001.out).1
       rw [hl271001_65] at HO_271001
       (try simp only [hl271001_65])
       (try simp only [hl271001_65] at BK245)
       (try simp only [hl271001_65] at BK262)
       (try simp only [hl271001_65] at BK270)
       (try simp only [hl271001_65] at BK279)
       (try simp only [hl271001_65] at HO_263001)
       (try simp only [hl271001_65] at HO_263002)
       (try simp only [hl271001_65] at HO_271002)
       (try simp only [hl271001_65] at HO_280001)
       (try simp only [hl271001_65] at HO_280002)
       have hl271002_65 := (Kd.R_reads' HO_271002.out).1
       rw [hl271002_65] at HO_271002
       (try simp only [hl271002_65])
       (try simp only [hl271002_65] at BK245)
       (try simp only [hl271002_65] at BK262)
       (try simp only [hl271002_65] at BK270)
       (try simp only [hl271002_65] at BK279)
       (try simp only [hl271002_65] at HO_263001)
       (try simp only [hl271002_65] at HO_263002)
       (try simp only [hl271002_65] at HO_271001)
       (try simp only [hl271002_65] at HO_280001)
       (try simp only [hl271002_65] at HO_280002)
       cases kq with
       | zero => exact absurd HA.out (by simp [laws_FnExactTopLoad.j1])
       | succ kj65 =>
        have H := HA.out
        clear HA
        simp only [laws_FnExactTopLoad.j1] at H
        by_cases c96 : x69_65 = true
        ·
         subst c96
         have H1 : (some false) = some r := by rw [if_pos rfl] at H; exact H
         clear H
         have H := H1
         clear H1
         obtain rfl := Option.some.inj H
         go_wp2
         go_ret
         exact ⟨by first | rfl | (simp [errW_none, errW_some] <;> rfl) | (simp [*, errW_none, errW_some] <;> rfl), tB HB.out⟩
        ·
         replace c96 := Bool.eq_false_iff.mpr c96
         subst c96
         have H1 : ((laws_markPile.f kj65 t271 t272 t275 1).bind fun bt293 => ((laws_heldPile.f kj65 t271 bt293.2.1 bt293.2.2 1).bind fun t296 => (if t296 < 0 then (some false) else (if t296 = bt293.1 then ((laws_toPile.f kj65 a0_0 l0_1 l0_2).bind fun bt297 => ((impl_TopLoad.f kj65 bt297.1 bt297.2.1 bt297.2.2 a1 a2).bind fun bt304 => ((laws_eqPile.f kj65 bt304.1 bt304.2.1 bt304.2.2.1 t254 t255 t258).bind fun t313 => (if t313 = true then (laws_FnExactTopLoad.j2 kj65 bt293.1 (bt304.2.2.2 != t261) t271 bt293.2.1 bt293.2.2) else (laws_FnExactTopLoad.j2 kj65 bt293.1 true t271 bt293.2.1 bt293.2.2))))) else (some false))))) = some r := by rw [if_neg (show ¬ (false = true) by decide)] at H; exact H
         clear H
         have H := H1
         clear H1
         replace H := Option.bind_eq_some_iff.mp H
         obtain ⟨⟨t293, t294, t295⟩, A970, H⟩ := H
         replace H : ((laws_heldPile.f kj65 t271 t294 t295 1).bind fun t296 => (if t296 < 0 then (some false) else (if t296 = t293 then ((laws_toPile.f kj65 a0_0 l0_1 l0_2).bind fun bt297 => ((impl_TopLoad.f kj65 bt297.1 bt297.2.1 bt297.2.2 a1 a2).bind fun bt304 => ((laws_eqPile.f kj65 bt304.1 bt304.2.1 bt304.2.2.1 t254 t255 t258).bind fun t313 => (if t313 = true then (laws_FnExactTopLoad.j2 kj65 t293 (bt304.2.2.2 != t261) t271 t294 t295) else (laws_FnExactTopLoad.j2 kj65 t293 true t271 t294 t295))))) else (some false)))) = some r := H
         have A97 := Aside0.mk A970
         clear A970
         replace H := Option.bind_eq_some_iff.mp H
         obtain ⟨t296, A980, H⟩ := H
         replace H : (if t296 < 0 then (some false) else (if t296 = t293 then ((laws_toPile.f kj65 a0_0 l0_1 l0_2).bind fun bt297 => ((impl_TopLoad.f kj65 bt297.1 bt297.2.1 bt297.2.2 a1 a2).bind fun bt304 => ((laws_eqPile.f kj65 bt304.1 bt304.2.1 bt304.2.2.1 t254 t255 t258).bind fun t313 => (if t313 = true then (laws_FnExactTopLoad.j2 kj65 t293 (bt304.2.2.2 != t261) t271 t294 t295) else (laws_FnExactTopLoad.j2 kj65 t293 true t271 t294 t295))))) else (some false))) = some r := H
         have A98 := Aside0.mk A980
         clear A980
         by_cases c99 : t296 < 0
         ·
          rw [if_pos c99] at H
          have c99b0 : decide (t296 < 0) = true := decide_eq_true c99
          clear c99
          obtain rfl := Option.some.inj H
          have hnb100 := NB279_245.out
          have hnc100 := NB245_279.out
          have hnb101 := NB279_262.out
          have hnc101 := NB262_279.out
          have hnb102 := NB279_270.out
          have hnc102 := NB270_279.out
          obtain ⟨hcz103_0, hfz103_0, hcz103_1, hfz103_1, hcz103_2, hfz103_2⟩ := cz3 BK279
          go_wp2_with (first | ((with_reducible refine gate_callee (f := 24) rfl ?_); refine goesL_ (some 72) rfl rfl Try.func24 (by kernel_rfl) rfl #[.agg #[.int .i64 t271, .slice Ao41 t272.length co41, .slice Ao42 t275.length co42], .int .i64 1] rfl tM ?_; (with_reducible refine (laws_markPile.calls kj65 t271 (fun k_ => some k_ = (.slice Ao41 t272.length co41 : Value).ownBlock) (.slice Ao41 t272.length co41) t272 (fun k_ => some k_ = (.slice Ao42 t275.length co42 : Value).ownBlock) (.slice Ao42 t275.length co42) t275 1 t293 t294 t295 w _ ?side1 ?side2 ?side3 ?side4 ?side5 A97.out).mono ?_); (case side1 => repeat (first | (with_reducible first | exact HB.out | apply below_alloc | apply pw_below_drewN | apply below_drew1 | refine below_set ?_ GE245.out | refine below_set ?_ GE262.out | refine below_set ?_ GE270.out | refine below_set ?_ GE279.out) | exact HB.out)); (case side2 => exact Kd.R_tight rfl HO_280001.out); (case side3 => exact fun k_ e_ => (HO_280001.out.1 k_ e_.symm).2.2.2.2); (case side4 => exact Kd.R_tight rfl HO_280002.out); (case side5 => exact fun k_ e_ => (HO_280002.out.1 k_ e_.symm).2.2.2.2); rintro e w104 ⟨rfl, hy0, hy1, hb, hkp⟩; refine ⟨_, rfl, ?_⟩; replace HO_263001 := Aside0.mk (Kd.R_mono (ok' := fun k_ => some k_ ≠ (.slice Ao26 t258.length co26 : Value).ownBlock ∧ some k_ ≠ (.slice Ao33 t290.length co33 : Value).ownBlock ∧ some k_ ≠ (.slice Ao34 t291.length co34 : Value).ownBlock ∧ some k_ ≠ (.slice Ao41 t272.length co41 : Value).ownBlock ∧ some k_ ≠ (.slice Ao42 t275.length co42 : Value).ownBlock) (Kd.R_keptB (HO_263001.out) hkp (fun k_ hk_ hs_ => Or.elim hs_ (fun e_ => (hk_.2.2.2.1) e_) (fun e_ => (hk_.2.2.2.2) e_))) (fun k_ hk_ => ⟨hk_.1.1, hk_.1.2.1, hk_.1.2.2.1, hk_.1.2.2.2.1, hk_.1.2.2.2.2⟩)); replace HO_263002 := Aside0.mk (Kd.R_mono (ok' := fun k_ => some k_ ≠ (.slice Ao25 t255.length co25 : Value).ownBlock ∧ some k_ ≠ (.slice Ao33 t290.length co33 : Value).ownBlock ∧ some k_ ≠ (.slice Ao34 t291.length co34 : Value).ownBlock ∧ some k_ ≠ (.slice Ao41 t272.length co41 : Value).ownBlock ∧ some k_ ≠ (.slice Ao42 t275.length co42 : Value).ownBlock) (Kd.R_keptB (HO_263002.out) hkp (fun k_ hk_ hs_ => Or.elim hs_ (fun e_ => (hk_.2.2.2.1) e_) (fun e_ => (hk_.2.2.2.2) e_))) (fun k_ hk_ => ⟨hk_.1.1, hk_.1.2.1, hk_.1.2.2.1, hk_.1.2.2.2.1, hk_.1.2.2.2.2⟩)); replace HO_271001 := Aside0.mk (Kd.R_mono (ok' := fun k_ => some k_ ≠ (.slice Ao25 t255.length co25 : Value).ownBlock ∧ some k_ ≠ (.slice Ao26 t258.length co26 : Value).ownBlock ∧ some k_ ≠ (.slice Ao34 t291.length co34 : Value).ownBlock ∧ some k_ ≠ (.slice Ao41 t272.length co41 : Value).ownBlock ∧ some k_ ≠ (.slice Ao42 t275.length co42 : Value).ownBlock) (Kd.R_keptB (HO_271001.out) hkp (fun k_ hk_ hs_ => Or.elim hs_ (fun e_ => (hk_.2.2.2.1) e_) (fun e_ => (hk_.2.2.2.2) e_))) (fun k_ hk_ => ⟨hk_.1.1, hk_.1.2.1, hk_.1.2.2.1, hk_.1.2.2.2.1, hk_.1.2.2.2.2⟩)); replace HO_271002 := Aside0.mk (Kd.R_mono (ok' := fun k_ => some k_ ≠ (.slice Ao25 t255.length co25 : Value).ownBlock ∧ some k_ ≠ (.slice Ao26 t258.length co26 : Value).ownBlock ∧ some k_ ≠ (.slice Ao33 t290.length co33 : Value).ownBlock ∧ some k_ ≠ (.slice Ao41 t272.length co41 : Value).ownBlock ∧ some k_ ≠ (.slice Ao42 t275.length co42 : Value).ownBlock) (Kd.R_keptB (HO_271002.out) hkp (fun k_ hk_ hs_ => Or.elim hs_ (fun e_ => (hk_.2.2.2.1) e_) (fun e_ => (hk_.2.2.2.2) e_))) (fun k_ hk_ => ⟨hk_.1.1, hk_.1.2.1, hk_.1.2.2.1, hk_.1.2.2.2.1, hk_.1.2.2.2.2⟩)); replace BK245 := Aside0.mk (blk_kept (tK BK245.out) hkp (fun hs_ => Or.elim hs_ (fun e_ => (fun e_ => (Kd.R_ne HO_280001.out BK245.out (by decide)) e_) e_) (fun e_ => (fun e_ => (Kd.R_ne HO_280002.out BK245.out (by decide)) e_) e_))); replace BK262 := Aside0.mk (blk_kept (tK BK262.out) hkp (fun hs_ => Or.elim hs_ (fun e_ => (fun e_ => (Kd.R_ne HO_280001.out BK262.out (by decide)) e_) e_) (fun e_ => (fun e_ => (Kd.R_ne HO_280002.out BK262.out (by decide)) e_) e_))); replace BK270 := Aside0.mk (blk_kept (tK BK270.out) hkp (fun hs_ => Or.elim hs_ (fun e_ => (fun e_ => (Kd.R_ne HO_280001.out BK270.out (by decide)) e_) e_) (fun e_ => (fun e_ => (Kd.R_ne HO_280002.out BK270.out (by decide)) e_) e_))); replace BK279 := Aside0.mk (blk_kept (tK BK279.out) hkp (fun hs_ => Or.elim hs_ (fun e_ => (fun e_ => (Kd.R_ne HO_280001.out BK279.out (by decide)) e_) e_) (fun e_ => (fun e_ => (Kd.R_ne HO_280002.out BK279.out (by decide)) e_) e_))); replace HO_280001 := Aside0.mk (Kd.R_reok rfl hy0 (fun k_ e_ => HO_280001.out.1 k_ e_)); replace HO_280002 := Aside0.mk (Kd.R_reok rfl hy1 (fun k_ e_ => HO_280002.out.1 k_ e_)); replace HB := Aside0.mk (hb); (try clear hb); (try clear hkp); (try clear hy0); (try clear hy1); obtain ⟨hcz105_0, hfz105_0, hcz105_1, hfz105_1, hcz105_2, hfz105_2⟩ := cz3 BK279) | ((with_reducible refine gate_callee (f := 25) rfl ?_); refine goesL_ (some 75) rfl rfl Try.func25 (by kernel_rfl) rfl #[.agg #[.int .i64 t271, .slice Ao41 t294.length co41, .slice Ao42 t295.length co42], .int .i64 1] rfl (by (try simp only [List.map_toArray, List.map_cons, List.map_nil]); first | done | (rw [show t294.length = t272.length from (Kd.R_reads' HO_280001.out).1.symm, show t295.length = t275.length from (Kd.R_reads' HO_280002.out).1.symm] <;> rfl) | rfl | (simp only [List.length_drop, List.length_take]; rfl)) ?_; (with_reducible refine (laws_heldPile.calls kj65 t271 _ _ t294 _ _ t295 1 t296 _ ?side1 ?side2 ?side3 ?side4 A98.out).mono ?_); (case side1 => exact tC (Kd.R_reads' HO_280001.out).2.2); (case side2 => rw [show t294.length = t272.length from (Kd.R_reads' HO_280001.out).1.symm]; exact (Kd.R_reads' HO_280001.out).2.1); (case side3 => exact tC (Kd.R_reads' HO_280002.out).2.2); (case side4 => rw [show t295.length = t275.length from (Kd.R_reads' HO_280002.out).1.symm]; exact (Kd.R_reads' HO_280002.out).2.1); rintro e w106 ⟨rfl, hb⟩; refine ⟨_, rfl, ?_⟩; replace HO_263001 := Aside0.mk (Kd.R_below (tR HO_263001.out) hb); replace HO_263002 := Aside0.mk (Kd.R_below (tR HO_263002.out) hb); replace HO_271001 := Aside0.mk (Kd.R_below (tR HO_271001.out) hb); replace HO_271002 := Aside0.mk (Kd.R_below (tR HO_271002.out) hb); replace HO_280001 := Aside0.mk (Kd.R_below (tR HO_280001.out) hb); replace HO_280002 := Aside0.mk (Kd.R_below (tR HO_280002.out) hb); replace BK245 := bkB BK245 hb; replace BK262 := bkB BK262 hb; replace BK270 := bkB BK270 hb; replace BK279 := bkB BK279 hb; replace HB := Aside0.mk (below_step (tB HB.out) hb); (try clear hb); (try clear hb2); (try clear hk); (try clear hi)))
          go_ret
          exact ⟨by first | rfl | (simp [errW_none, errW_some] <;> rfl) | (simp [*, errW_none, errW_some] <;> rfl), tB HB.out⟩
         ·
          rw [if_neg c99] at H
          have c99b0 : decide (t296 < 0) = false := decide_eq_false c99
          clear c99
          by_cases c107 : t296 = t293
          ·
           rw [if_pos c107] at H
           have c107b0 : (t296 == t293) = true := beq_iff_eq.mpr c107
           have c107b1 : (t296 != t293) = false := bne_eq_false_iff_eq.mpr c107
           clear c107
           replace H := Option.bind_eq_some_iff.mp H
           obtain ⟨⟨t297, t298, t301⟩, A1080, H⟩ := H
           replace H : ((impl_TopLoad.f kj65 t297 t298 t301 a1 a2).bind fun bt304 => ((laws_eqPile.f kj65 bt304.1 bt304.2.1 bt304.2.2.1 t254 t255 t258).bind fun t313 => (if t313 = true then (laws_FnExactTopLoad.j2 kj65 t293 (bt304.2.2.2 != t261) t271 t294 t295) else (laws_FnExactTopLoad.j2 kj65 t293 true t271 t294 t295)))) = some r := H
           have A108 := Aside0.mk A1080
           clear A1080
           replace H := Option.bind_eq_some_iff.mp H
           obtain ⟨⟨t304, t305, t308, t311⟩, A1090, H⟩ := H
           replace H : ((laws_eqPile.f kj65 t304 t305 t308 t254 t255 t258).bind fun t313 => (if t313 = true then (laws_FnExactTopLoad.j2 kj65 t293 (t311 != t261) t271 t294 t295) else (laws_FnExactTopLoad.j2 kj65 t293 true t271 t294 t295))) = some r := H
           have A109 := Aside0.mk A1090
           clear A1090
           have HC110 := Aside0.mk H
           clear H
           have hnb111 := NB279_245.out
           have hnc111 := NB245_279.out
           have hnb112 := NB279_262.out
           have hnc112 := NB262_279.out
           have hnb113 := NB279_270.out
           have hnc113 := NB270_279.out
           obtain ⟨hcz114_0, hfz114_0, hcz114_1, hfz114_1, hcz114_2, hfz114_2⟩ := cz3 BK279
           go_upto_region 25 with (first | ((with_reducible refine gate_callee (f := 24) rfl ?_); refine goesL_ (some 72) rfl rfl Try.func24 (by kernel_rfl) rfl #[.agg #[.int .i64 t271, .slice Ao41 t272.length co41, .slice Ao42 t275.length co42], .int .i64 1] rfl tM ?_; (with_reducible refine (laws_markPile.calls kj65 t271 (fun k_ => some k_ = (.slice Ao41 t272.length co41 : Value).ownBlock) (.slice Ao41 t272.length co41) t272 (fun k_ => some k_ = (.slice Ao42 t275.length co42 : Value).ownBlock) (.slice Ao42 t275.length co42) t275 1 t293 t294 t295 w _ ?side1 ?side2 ?side3 ?side4 ?side5 A97.out).mono ?_); (case side1 => repeat (first | (with_reducible first | exact HB.out | apply below_alloc | apply pw_below_drewN | apply below_drew1 | refine below_set ?_ GE245.out | refine below_set ?_ GE262.out | refine below_set ?_ GE270.out | refine below_set ?_ GE279.out) | exact HB.out)); (case side2 => exact Kd.R_tight rfl HO_280001.out); (case side3 => exact fun k_ e_ => (HO_280001.out.1 k_ e_.symm).2.2.2.2); (case side4 => exact Kd.R_tight rfl HO_280002.out); (case side5 => exact fun k_ e_ => (HO_280002.out.1 k_ e_.symm).2.2.2.2); rintro e w115 ⟨rfl, hy0, hy1, hb, hkp⟩; refine ⟨_, rfl, ?_⟩; replace HO_263001 := Aside0.mk (Kd.R_mono (ok' := fun k_ => some k_ ≠ (.slice Ao26 t258.length co26 : Value).ownBlock ∧ some k_ ≠ (.slice Ao33 t290.length co33 : Value).ownBlock ∧ some k_ ≠ (.slice Ao34 t291.length co34 : Value).ownBlock ∧ some k_ ≠ (.slice Ao41 t272.length co41 : Value).ownBlock ∧ some k_ ≠ (.slice Ao42 t275.length co42 : Value).ownBlock) (Kd.R_keptB (HO_263001.out) hkp (fun k_ hk_ hs_ => Or.elim hs_ (fun e_ => (hk_.2.2.2.1) e_) (fun e_ => (hk_.2.2.2.2) e_))) (fun k_ hk_ => ⟨hk_.1.1, hk_.1.2.1, hk_.1.2.2.1, hk_.1.2.2.2.1, hk_.1.2.2.2.2⟩)); replace HO_263002 := Aside0.mk (Kd.R_mono (ok' := fun k_ => some k_ ≠ (.slice Ao25 t255.length co25 : Value).ownBlock ∧ some k_ ≠ (.slice Ao33 t290.length co33 : Value).ownBlock ∧ some k_ ≠ (.slice Ao34 t291.length co34 : Value).ownBlock ∧ some k_ ≠ (.slice Ao41 t272.length co41 : Value).ownBlock ∧ some k_ ≠ (.slice Ao42 t275.length co42 : Value).ownBlock) (Kd.R_keptB (HO_263002.out) hkp (fun k_ hk_ hs_ => Or.elim hs_ (fun e_ => (hk_.2.2.2.1) e_) (fun e_ => (hk_.2.2.2.2) e_))) (fun k_ hk_ => ⟨hk_.1.1, hk_.1.2.1, hk_.1.2.2.1, hk_.1.2.2.2.1, hk_.1.2.2.2.2⟩)); replace HO_271001 := Aside0.mk (Kd.R_mono (ok' := fun k_ => some k_ ≠ (.slice Ao25 t255.length co25 : Value).ownBlock ∧ some k_ ≠ (.slice Ao26 t258.length co26 : Value).ownBlock ∧ some k_ ≠ (.slice Ao34 t291.length co34 : Value).ownBlock ∧ some k_ ≠ (.slice Ao41 t272.length co41 : Value).ownBlock ∧ some k_ ≠ (.slice Ao42 t275.length co42 : Value).ownBlock) (Kd.R_keptB (HO_271001.out) hkp (fun k_ hk_ hs_ => Or.elim hs_ (fun e_ => (hk_.2.2.2.1) e_) (fun e_ => (hk_.2.2.2.2) e_))) (fun k_ hk_ => ⟨hk_.1.1, hk_.1.2.1, hk_.1.2.2.1, hk_.1.2.2.2.1, hk_.1.2.2.2.2⟩)); replace HO_271002 := Aside0.mk (Kd.R_mono (ok' := fun k_ => some k_ ≠ (.slice Ao25 t255.length co25 : Value).ownBlock ∧ some k_ ≠ (.slice Ao26 t258.length co26 : Value).ownBlock ∧ some k_ ≠ (.slice Ao33 t290.length co33 : Value).ownBlock ∧ some k_ ≠ (.slice Ao41 t272.length co41 : Value).ownBlock ∧ some k_ ≠ (.slice Ao42 t275.length co42 : Value).ownBlock) (Kd.R_keptB (HO_271002.out) hkp (fun k_ hk_ hs_ => Or.elim hs_ (fun e_ => (hk_.2.2.2.1) e_) (fun e_ => (hk_.2.2.2.2) e_))) (fun k_ hk_ => ⟨hk_.1.1, hk_.1.2.1, hk_.1.2.2.1, hk_.1.2.2.2.1, hk_.1.2.2.2.2⟩)); replace BK245 := Aside0.mk (blk_kept (tK BK245.out) hkp (fun hs_ => Or.elim hs_ (fun e_ => (fun e_ => (Kd.R_ne HO_280001.out BK245.out (by decide)) e_) e_) (fun e_ => (fun e_ => (Kd.R_ne HO_280002.out BK245.out (by decide)) e_) e_))); replace BK262 := Aside0.mk (blk_kept (tK BK262.out) hkp (fun hs_ => Or.elim hs_ (fun e_ => (fun e_ => (Kd.R_ne HO_280001.out BK262.out (by decide)) e_) e_) (fun e_ => (fun e_ => (Kd.R_ne HO_280002.out BK262.out (by decide)) e_) e_))); replace BK270 := Aside0.mk (blk_kept (tK BK270.out) hkp (fun hs_ => Or.elim hs_ (fun e_ => (fun e_ => (Kd.R_ne HO_280001.out BK270.out (by decide)) e_) e_) (fun e_ => (fun e_ => (Kd.R_ne HO_280002.out BK270.out (by decide)) e_) e_))); replace BK279 := Aside0.mk (blk_kept (tK BK279.out) hkp (fun hs_ => Or.elim hs_ (fun e_ => (fun e_ => (Kd.R_ne HO_280001.out BK279.out (by decide)) e_) e_) (fun e_ => (fun e_ => (Kd.R_ne HO_280002.out BK279.out (by decide)) e_) e_))); replace HO_280001 := Aside0.mk (Kd.R_reok rfl hy0 (fun k_ e_ => HO_280001.out.1 k_ e_)); replace HO_280002 := Aside0.mk (Kd.R_reok rfl hy1 (fun k_ e_ => HO_280002.out.1 k_ e_)); replace HB := Aside0.mk (hb); (try clear hb); (try clear hkp); (try clear hy0); (try clear hy1); obtain ⟨hcz116_0, hfz116_0, hcz116_1, hfz116_1, hcz116_2, hfz116_2⟩ := cz3 BK279) | ((with_reducible refine gate_callee (f := 25) rfl ?_); refine goesL_ (some 75) rfl rfl Try.func25 (by kernel_rfl) rfl #[.agg #[.int .i64 t271, .slice Ao41 t294.length co41, .slice Ao42 t295.length co42], .int .i64 1] rfl (by (try simp only [List.map_toArray, List.map_cons, List.map_nil]); first | done | (rw [show t294.length = t272.length from (Kd.R_reads' HO_280001.out).1.symm, show t295.length = t275.length from (Kd.R_reads' HO_280002.out).1.symm] <;> rfl) | rfl | (simp only [List.length_drop, List.length_take]; rfl)) ?_; (with_reducible refine (laws_heldPile.calls kj65 t271 _ _ t294 _ _ t295 1 t296 _ ?side1 ?side2 ?side3 ?side4 A98.out).mono ?_); (case side1 => exact tC (Kd.R_reads' HO_280001.out).2.2); (case side2 => rw [show t294.length = t272.length from (Kd.R_reads' HO_280001.out).1.symm]; exact (Kd.R_reads' HO_280001.out).2.1); (case side3 => exact tC (Kd.R_reads' HO_280002.out).2.2); (case side4 => rw [show t295.length = t275.length from (Kd.R_reads' HO_280002.out).1.symm]; exact (Kd.R_reads' HO_280002.out).2.1); rintro e w117 ⟨rfl, hb⟩; refine ⟨_, rfl, ?_⟩; replace HO_263001 := Aside0.mk (Kd.R_below (tR HO_263001.out) hb); replace HO_263002 := Aside0.mk (Kd.R_below (tR HO_263002.out) hb); replace HO_271001 := Aside0.mk (Kd.R_below (tR HO_271001.out) hb); replace HO_271002 := Aside0.mk (Kd.R_below (tR HO_271002.out) hb); replace HO_280001 := Aside0.mk (Kd.R_below (tR HO_280001.out) hb); replace HO_280002 := Aside0.mk (Kd.R_below (tR HO_280002.out) hb); replace BK245 := bkB BK245 hb; replace BK262 := bkB BK262 hb; replace BK270 := bkB BK270 hb; replace BK279 := bkB BK279 hb; replace HB := Aside0.mk (below_step (tB HB.out) hb); (try clear hb); (try clear hb2); (try clear hk); (try clear hi); have hnb118 := NB245_262.out; have hnc118 := NB262_245.out; have hnb119 := NB245_270.out; have hnc119 := NB270_245.out; obtain ⟨hcz120_0, hfz120_0, hcz120_1, hfz120_1, hcz120_2, hfz120_2⟩ := cz3 BK245) | ((with_reducible refine gate_callee (f := 17) rfl ?_); refine goesL_ (some 83) rfl rfl Try.func17 (by kernel_rfl) rfl #[.agg #[.int .i64 a0_0, .slice A0_1 l0_1.length c0_1, .slice A0_2 l0_2.length c0_2]] rfl tM ?_; (with_reducible refine (laws_toPile.calls kj65 a0_0 _ _ l0_1 _ _ l0_2 t297 t298 t301 _ ?side1 ?side2 ?side3 ?side4 A108.out).mono ?_); (case side1 => exact tC (Kd.C_below HR0_1.out HB.out)); (case side2 => exact HC0_1.out); (case side3 => exact tC (Kd.C_below HR0_2.out HB.out)); (case side4 => exact HC0_2.out); rintro e w121 ⟨v299, v302, rfl, ho0, ho1, hb⟩; refine ⟨_, rfl, ?_⟩; have HO300 := Aside0.mk (Kd.R_lower (Kd.R_new' (Kd.R_new' (Kd.R_new' (Kd.R_new' (Kd.R_new' (Kd.R_new' ho0 (Kd.R_lt (tR HO_263001.out))) (Kd.R_lt (tR HO_263002.out))) (Kd.R_lt (tR HO_271001.out))) (Kd.R_lt (tR HO_271002.out))) (Kd.R_lt (tR HO_280001.out))) (Kd.R_lt (tR HO_280002.out))) (below_size (tB HB.out))); have HO303 := Aside0.mk (Kd.R_lower (Kd.R_new' (Kd.R_new' (Kd.R_new' (Kd.R_new' (Kd.R_new' (Kd.R_new' ho1 (Kd.R_lt (tR HO_263001.out))) (Kd.R_lt (tR HO_263002.out))) (Kd.R_lt (tR HO_271001.out))) (Kd.R_lt (tR HO_271002.out))) (Kd.R_lt (tR HO_280001.out))) (Kd.R_lt (tR HO_280002.out))) (below_size (tB HB.out))); replace HO_263001 := Aside0.mk (Kd.R_mono (Kd.R_told (Kd.R_told (Kd.R_old (tR HO_263001.out) hb) (Kd.R_base ho0)) (Kd.R_base ho1)) (fun _ h_ => h_.1)); replace HO_263002 := Aside0.mk (Kd.R_mono (Kd.R_told (Kd.R_told (Kd.R_old (tR HO_263002.out) hb) (Kd.R_base ho0)) (Kd.R_base ho1)) (fun _ h_ => h_.1)); replace HO_271001 := Aside0.mk (Kd.R_mono (Kd.R_told (Kd.R_told (Kd.R_old (tR HO_271001.out) hb) (Kd.R_base ho0)) (Kd.R_base ho1)) (fun _ h_ => h_.1)); replace HO_271002 := Aside0.mk (Kd.R_mono (Kd.R_told (Kd.R_told (Kd.R_old (tR HO_271002.out) hb) (Kd.R_base ho0)) (Kd.R_base ho1)) (fun _ h_ => h_.1)); replace HO_280001 := Aside0.mk (Kd.R_mono (Kd.R_told (Kd.R_told (Kd.R_old (tR HO_280001.out) hb) (Kd.R_base ho0)) (Kd.R_base ho1)) (fun _ h_ => h_.1)); replace HO_280002 := Aside0.mk (Kd.R_mono (Kd.R_told (Kd.R_told (Kd.R_old (tR HO_280002.out) hb) (Kd.R_base ho0)) (Kd.R_base ho1)) (fun _ h_ => h_.1)); replace BK245 := bkB BK245 hb; replace BK262 := bkB BK262 hb; replace BK270 := bkB BK270 hb; replace BK279 := bkB BK279 hb; replace HB := Aside0.mk (below_step (tB HB.out) hb); (try clear hb); (try clear hb2); (try clear hk); (try clear hi); (try clear ho0); (try clear ho1); obtain ⟨Ao122, co122, eo122⟩ := Kd.R_slice HO300.out; subst eo122; obtain ⟨Ao123, co123, eo123⟩ := Kd.R_slice HO303.out; subst eo123) | ((with_reducible refine gate_callee (f := 32) rfl ?_); refine goesL_ (some 86) rfl rfl Try.func32 (by kernel_rfl) rfl #[.agg #[.int .i64 t297, .slice Ao122 t298.length co122, .slice Ao123 t301.length co123], .int .i64 a1, .int .i64 a2] rfl tM ?_; (with_reducible refine (impl_TopLoad.calls kj65 t297 _ _ t298 _ _ t301 a1 a2 t304 t305 t308 t311 _ ?side1 ?side2 ?side3 ?side4 A109.out).mono ?_); (case side1 => exact tC (Kd.R_reads' HO300.out).2.2); (case side2 => exact (Kd.R_reads' HO300.out).2.1); (case side3 => exact tC (Kd.R_reads' HO303.out).2.2); (case side4 => exact (Kd.R_reads' HO303.out).2.1); rintro e w124 ⟨v306, v309, rfl, ho0, ho1, hb⟩; refine ⟨_, rfl, ?_⟩; have HO307 := Aside0.mk (Kd.R_lower (Kd.R_new' (Kd.R_new' (Kd.R_new' (Kd.R_new' (Kd.R_new' (Kd.R_new' (Kd.R_new' (Kd.R_new' ho0 (Kd.R_lt (tR HO_263001.out))) (Kd.R_lt (tR HO_263002.out))) (Kd.R_lt (tR HO_271001.out))) (Kd.R_lt (tR HO_271002.out))) (Kd.R_lt (tR HO_280001.out))) (Kd.R_lt (tR HO_280002.out))) (Kd.R_lt (tR HO300.out))) (Kd.R_lt (tR HO303.out))) (below_size (tB HB.out))); have HO310 := Aside0.mk (Kd.R_lower (Kd.R_new' (Kd.R_new' (Kd.R_new' (Kd.R_new' (Kd.R_new' (Kd.R_new' (Kd.R_new' (Kd.R_new' ho1 (Kd.R_lt (tR HO_263001.out))) (Kd.R_lt (tR HO_263002.out))) (Kd.R_lt (tR HO_271001.out))) (Kd.R_lt (tR HO_271002.out))) (Kd.R_lt (tR HO_280001.out))) (Kd.R_lt (tR HO_280002.out))) (Kd.R_lt (tR HO300.out))) (Kd.R_lt (tR HO303.out))) (below_size (tB HB.out))); replace HO_263001 := Aside0.mk (Kd.R_mono (Kd.R_told (Kd.R_told (Kd.R_old (tR HO_263001.out) hb) (Kd.R_base ho0)) (Kd.R_base ho1)) (fun _ h_ => h_.1)); replace HO_263002 := Aside0.mk (Kd.R_mono (Kd.R_told (Kd.R_told (Kd.R_old (tR HO_263002.out) hb) (Kd.R_base ho0)) (Kd.R_base ho1)) (fun _ h_ => h_.1)); replace HO_271001 := Aside0.mk (Kd.R_mono (Kd.R_told (Kd.R_told (Kd.R_old (tR HO_271001.out) hb) (Kd.R_base ho0)) (Kd.R_base ho1)) (fun _ h_ => h_.1)); replace HO_271002 := Aside0.mk (Kd.R_mono (Kd.R_told (Kd.R_told (Kd.R_old (tR HO_271002.out) hb) (Kd.R_base ho0)) (Kd.R_base ho1)) (fun _ h_ => h_.1)); replace HO_280001 := Aside0.mk (Kd.R_mono (Kd.R_told (Kd.R_told (Kd.R_old (tR HO_280001.out) hb) (Kd.R_base ho0)) (Kd.R_base ho1)) (fun _ h_ => h_.1)); replace HO_280002 := Aside0.mk (Kd.R_mono (Kd.R_told (Kd.R_told (Kd.R_old (tR HO_280002.out) hb) (Kd.R_base ho0)) (Kd.R_base ho1)) (fun _ h_ => h_.1)); replace HO300 := Aside0.mk (Kd.R_mono (Kd.R_told (Kd.R_told (Kd.R_old (tR HO300.out) hb) (Kd.R_base ho0)) (Kd.R_base ho1)) (fun _ h_ => h_.1)); replace HO303 := Aside0.mk (Kd.R_mono (Kd.R_told (Kd.R_told (Kd.R_old (tR HO303.out) hb) (Kd.R_base ho0)) (Kd.R_base ho1)) (fun _ h_ => h_.1)); replace BK245 := bkB BK245 hb; replace BK262 := bkB BK262 hb; replace BK270 := bkB BK270 hb; replace BK279 := bkB BK279 hb; replace HB := Aside0.mk (below_step (tB HB.out) hb); (try clear hb); (try clear hb2); (try clear hk); (try clear hi); (try clear ho0); (try clear ho1)) | ((with_reducible refine gate_dst (N := 16) rfl ?_); refine box_event ?hg (N := 16) ?hd (cs := #[.int .i64 0, .slice none 0 0, .slice none 0 0]) (t := 28) ?hr ?_; (case hd => rfl); (case hg => rfl); (case hr => first | (go_simp; done) | (go_simp; rfl)); intro gb312 hg w125 hbox hb; replace HO_263001 := Aside0.mk (Kd.R_below (tR HO_263001.out) hb); replace HO_263002 := Aside0.mk (Kd.R_below (tR HO_263002.out) hb); replace HO_271001 := Aside0.mk (Kd.R_below (tR HO_271001.out) hb); replace HO_271002 := Aside0.mk (Kd.R_below (tR HO_271002.out) hb); replace HO_280001 := Aside0.mk (Kd.R_below (tR HO_280001.out) hb); replace HO_280002 := Aside0.mk (Kd.R_below (tR HO_280002.out) hb); replace HO300 := Aside0.mk (Kd.R_below (tR HO300.out) hb); replace HO303 := Aside0.mk (Kd.R_below (tR HO303.out) hb); replace HO307 := Aside0.mk (Kd.R_below (tR HO307.out) hb); replace HO310 := Aside0.mk (Kd.R_below (tR HO310.out) hb); have BK312 := Aside0.mk (hbox); have GW312 := Aside0.mk (bS HB.out hg); have GE312 := Aside0.mk (bS HB.out hg); replace HB := Aside0.mk (below_step (tB HB.out) hb); have NB245_312 := Aside0.mk (nL BK245.out hg); have NB312_245 := Aside0.mk (nG BK245.out hg); replace BK245 := bkB BK245 hb; have NB262_312 := Aside0.mk (nL BK262.out hg); have NB312_262 := Aside0.mk (nG BK262.out hg); replace BK262 := bkB BK262 hb; have NB270_312 := Aside0.mk (nL BK270.out hg); have NB312_270 := Aside0.mk (nG BK270.out hg); replace BK270 := bkB BK270 hb; have NB279_312 := Aside0.mk (nL BK279.out hg); have NB312_279 := Aside0.mk (nG BK279.out hg); replace BK279 := bkB BK279 hb; clear hb hbox hg; have hnb126 := NB312_245.out; have hnc126 := NB245_312.out; have hnb127 := NB312_262.out; have hnc127 := NB262_312.out; have hnb128 := NB312_270.out; have hnc128 := NB270_312.out; have hnb129 := NB312_279.out; have hnc129 := NB279_312.out; obtain ⟨hcz130_0, hfz130_0, hcz130_1, hfz130_1, hcz130_2, hfz130_2⟩ := cz3 BK312; obtain ⟨Ao131, co131, eo131⟩ := Kd.R_slice HO307.out; subst eo131; obtain ⟨Ao132, co132, eo132⟩ := Kd.R_slice HO310.out; subst eo132))
           (try simp only [Act.put, List.setIfInBounds_toArray, List.set_cons_zero, List.set_cons_succ])
           go_cut [97] (fun v97 wc => ∃ (kq : Nat) (x97_109 : Bool), v97 = .bool x97_109 ∧ Aside0 (laws_FnExactTopLoad.j2 kq t293 x97_109 t271 t294 t295 = some r) ∧ Aside0 (kq ≤ kj65) ∧ Aside0 (Kd.R (Kd.int .i64) 3 wc w.heap.size (fun k_ => some k_ ≠ ((.slice Ao26 t258.length co26) : Value).ownBlock ∧ some k_ ≠ ((.slice Ao33 t290.length co33) : Value).ownBlock ∧ some k_ ≠ ((.slice Ao34 t291.length co34) : Value).ownBlock ∧ some k_ ≠ ((.slice Ao41 t272.length co41) : Value).ownBlock ∧ some k_ ≠ ((.slice Ao42 t275.length co42) : Value).ownBlock ∧ some k_ ≠ ((.slice Ao131 t305.length co131) : Value).ownBlock ∧ some k_ ≠ ((.slice Ao132 t308.length co132) : Value).ownBlock) (.slice Ao25 t255.length co25) t255) ∧ Aside0 (Kd.R (Kd.int .i64) 3 wc w.heap.size (fun k_ => some k_ ≠ ((.slice Ao25 t255.length co25) : Value).ownBlock ∧ some k_ ≠ ((.slice Ao33 t290.length co33) : Value).ownBlock ∧ some k_ ≠ ((.slice Ao34 t291.length co34) : Value).ownBlock ∧ some k_ ≠ ((.slice Ao41 t272.length co41) : Value).ownBlock ∧ some k_ ≠ ((.slice Ao42 t275.length co42) : Value).ownBlock ∧ some k_ ≠ ((.slice Ao131 t305.length co131) : Value).ownBlock ∧ some k_ ≠ ((.slice Ao132 t308.length co132) : Value).ownBlock) (.slice Ao26 t258.length co26) t258) ∧ Aside0 (Kd.R (Kd.int .i64) 3 wc w.heap.size (fun k_ => some k_ ≠ ((.slice Ao25 t255.length co25) : Value).ownBlock ∧ some k_ ≠ ((.slice Ao26 t258.length co26) : Value).ownBlock ∧ some k_ ≠ ((.slice Ao34 t291.length co34) : Value).ownBlock ∧ some k_ ≠ ((.slice Ao41 t272.length co41) : Value).ownBlock ∧ some k_ ≠ ((.slice Ao42 t275.length co42) : Value).ownBlock ∧ some k_ ≠ ((.slice Ao131 t305.length co131) : Value).ownBlock ∧ some k_ ≠ ((.slice Ao132 t308.length co132) : Value).ownBlock) (.slice Ao33 t290.length co33) t290) ∧ Aside0 (Kd.R (Kd.int .i64) 3 wc w.heap.size (fun k_ => some k_ ≠ ((.slice Ao25 t255.length co25) : Value).ownBlock ∧ some k_ ≠ ((.slice Ao26 t258.length co26) : Value).ownBlock ∧ some k_ ≠ ((.slice Ao33 t290.length co33) : Value).ownBlock ∧ some k_ ≠ ((.slice Ao41 t272.length co41) : Value).ownBlock ∧ some k_ ≠ ((.slice Ao42 t275.length co42) : Value).ownBlock ∧ some k_ ≠ ((.slice Ao131 t305.length co131) : Value).ownBlock ∧ some k_ ≠ ((.slice Ao132 t308.length co132) : Value).ownBlock) (.slice Ao34 t291.length co34) t291) ∧ Aside0 (Kd.R (Kd.int .i64) 3 wc w.heap.size (fun k_ => some k_ ≠ ((.slice Ao25 t255.length co25) : Value).ownBlock ∧ some k_ ≠ ((.slice Ao26 t258.length co26) : Value).ownBlock ∧ some k_ ≠ ((.slice Ao33 t290.length co33) : Value).ownBlock ∧ some k_ ≠ ((.slice Ao34 t291.length co34) : Value).ownBlock ∧ some k_ ≠ ((.slice Ao42 t275.length co42) : Value).ownBlock ∧ some k_ ≠ ((.slice Ao131 t305.length co131) : Value).ownBlock ∧ some k_ ≠ ((.slice Ao132 t308.length co132) : Value).ownBlock) (.slice Ao41 t272.length co41) t294) ∧ Aside0 (Kd.R (Kd.int .i64) 3 wc w.heap.size (fun k_ => some k_ ≠ ((.slice Ao25 t255.length co25) : Value).ownBlock ∧ some k_ ≠ ((.slice Ao26 t258.length co26) : Value).ownBlock ∧ some k_ ≠ ((.slice Ao33 t290.length co33) : Value).ownBlock ∧ some k_ ≠ ((.slice Ao34 t291.length co34) : Value).ownBlock ∧ some k_ ≠ ((.slice Ao41 t272.length co41) : Value).ownBlock ∧ some k_ ≠ ((.slice Ao131 t305.length co131) : Value).ownBlock ∧ some k_ ≠ ((.slice Ao132 t308.length co132) : Value).ownBlock) (.slice Ao42 t275.length co42) t295) ∧ Aside0 (Kd.R (Kd.int .i64) 3 wc w.heap.size (fun k_ => some k_ ≠ ((.slice Ao25 t255.length co25) : Value).ownBlock ∧ some k_ ≠ ((.slice Ao26 t258.length co26) : Value).ownBlock ∧ some k_ ≠ ((.slice Ao33 t290.length co33) : Value).ownBlock ∧ some k_ ≠ ((.slice Ao34 t291.length co34) : Value).ownBlock ∧ some k_ ≠ ((.slice Ao41 t272.length co41) : Value).ownBlock ∧ some k_ ≠ ((.slice Ao42 t275.length co42) : Value).ownBlock ∧ some k_ ≠ ((.slice Ao132 t308.length co132) : Value).ownBlock) (.slice Ao131 t305.length co131) t305) ∧ Aside0 (Kd.R (Kd.int .i64) 3 wc w.heap.size (fun k_ => some k_ ≠ ((.slice Ao25 t255.length co25) : Value).ownBlock ∧ some k_ ≠ ((.slice Ao26 t258.length co26) : Value).ownBlock ∧ some k_ ≠ ((.slice Ao33 t290.length co33) : Value).ownBlock ∧ some k_ ≠ ((.slice Ao34 t291.length co34) : Value).ownBlock ∧ some k_ ≠ ((.slice Ao41 t272.length co41) : Value).ownBlock ∧ some k_ ≠ ((.slice Ao42 t275.length co42) : Value).ownBlock ∧ some k_ ≠ ((.slice Ao131 t305.length co131) : Value).ownBlock) (.slice Ao132 t308.length co132) t308) ∧ Aside0 (wc.heap[gb245]? = some (.cells #[.int .i64 a0_0, (.slice A0_1 l0_1.length c0_1), (.slice A0_2 l0_2.length c0_2)] 24 (0, 0))) ∧ Aside0 (wc.heap[gb262]? = some (.cells #[.int .i64 t254, (.slice Ao25 t255.length co25), (.slice Ao26 t258.length co26)] 28 (0, 0))) ∧ Aside0 (wc.heap[gb270]? = some (.cells #[.int .i64 t263, (.slice Ao33 t290.length co33), (.slice Ao34 t291.length co34)] 28 (0, 0))) ∧ Aside0 (wc.heap[gb279]? = some (.cells #[.int .i64 t271, (.slice Ao41 t272.length co41), (.slice Ao42 t275.length co42)] 28 (0, 0))) ∧ Aside0 (wc.heap[gb312]? = some (.cells #[.int .i64 t304, (.slice Ao131 t305.length co131), (.slice Ao132 t308.length co132)] 28 (0, 0))) ∧ Aside0 (Below w.heap.size w wc))
           case first =>
            have H := HC110.out
            clear HC110
            replace H := Option.bind_eq_some_iff.mp H
            obtain ⟨t313, A1330, H⟩ := H
            replace H : (if t313 = true then (laws_FnExactTopLoad.j2 kj65 t293 (t311 != t261) t271 t294 t295) else (laws_FnExactTopLoad.j2 kj65 t293 true t271 t294 t295)) = some r := H
            have A133 := Aside0.mk A1330
            clear A1330
            by_cases c134 : t313 = true
            ·
             subst c134
             have H1 : (laws_FnExactTopLoad.j2 kj65 t293 (t311 != t261) t271 t294 t295) = some r := by rw [if_pos rfl] at H; exact H
             clear H
             have H := H1
             clear H1
             have H' := Aside0.mk H
             clear H
             have hnb135 := NB312_245.out
             have hnc135 := NB245_312.out
             have hnb136 := NB312_262.out
             have hnc136 := NB262_312.out
             have hnb137 := NB312_270.out
             have hnc137 := NB270_312.out
             have hnb138 := NB312_279.out
             have hnc138 := NB279_312.out
             obtain ⟨hcz139_0, hfz139_0, hcz139_1, hfz139_1, hcz139_2, hfz139_2⟩ := cz3 BK312
             have hnb140 := NB262_245.out
             have hnc140 := NB245_262.out
             have hnb141 := NB262_270.out
             have hnc141 := NB270_262.out
             have hnb142 := NB262_279.out
             have hnc142 := NB279_262.out
             obtain ⟨hcz143_0, hfz143_0, hcz143_1, hfz143_1, hcz143_2, hfz143_2⟩ := cz3 BK262
             go_wp2_with (first | ((with_reducible refine gate_callee (f := 19) rfl ?_); refine goesL_ (some 91) rfl rfl Try.func19 (by kernel_rfl) rfl #[.agg #[.int .i64 t304, .slice Ao131 t305.length co131, .slice Ao132 t308.length co132], .agg #[.int .i64 t254, .slice Ao25 t255.length co25, .slice Ao26 t258.length co26]] rfl tM ?_; (with_reducible refine (laws_eqPile.calls kj65 t304 _ _ t305 _ _ t308 t254 _ _ t255 _ _ t258 true _ ?side1 ?side2 ?side3 ?side4 ?side5 ?side6 ?side7 ?side8 A133.out).mono ?_); (case side1 => refine (Kd.R_reads' (e := 3) (base := w.heap.size) (ok := fun k_ => ((((((((some k_ ≠ (.slice Ao132 t308.length co132 : Value).ownBlock ∧ some k_ ≠ (.slice Ao25 t255.length co25 : Value).ownBlock) ∧ some k_ ≠ (.slice Ao26 t258.length co26 : Value).ownBlock) ∧ some k_ ≠ (.slice Ao33 t290.length co33 : Value).ownBlock) ∧ some k_ ≠ (.slice Ao34 t291.length co34 : Value).ownBlock) ∧ some k_ ≠ (.slice Ao41 t272.length co41 : Value).ownBlock) ∧ some k_ ≠ (.slice Ao42 t275.length co42 : Value).ownBlock) ∧ some k_ ≠ (.slice Ao122 t298.length co122 : Value).ownBlock) ∧ some k_ ≠ (.slice Ao123 t301.length co123 : Value).ownBlock)) (n := t305.length) (c := co131) ?_).2.2; exact (by (with_reducible repeat (first | apply Kd.R_alloc | apply Kd.R_drewN | apply Kd.R_drew)); exact (Kd.R_mono (Kd.R_far (p := ⟨gb312, 2, none⟩) (Kd.R_far (p := ⟨gb312, 1, none⟩) (Kd.R_far (p := ⟨gb312, 0, none⟩) (Kd.R_types HO307.out BK312.out (by decide)) (fun _ hk => hk.2) (.int .i64 t304)) (fun _ hk => hk.2) (.slice Ao131 t305.length co131)) (fun _ hk => hk.2) (.slice Ao132 t308.length co132)) (fun _ h_ => h_.1)))); (case side2 => exact (Kd.R_reads' HO307.out).2.1); (case side3 => refine (Kd.R_reads' (e := 3) (base := w.heap.size) (ok := fun k_ => ((((((((some k_ ≠ (.slice Ao131 t305.length co131 : Value).ownBlock ∧ some k_ ≠ (.slice Ao25 t255.length co25 : Value).ownBlock) ∧ some k_ ≠ (.slice Ao26 t258.length co26 : Value).ownBlock) ∧ some k_ ≠ (.slice Ao33 t290.length co33 : Value).ownBlock) ∧ some k_ ≠ (.slice Ao34 t291.length co34 : Value).ownBlock) ∧ some k_ ≠ (.slice Ao41 t272.length co41 : Value).ownBlock) ∧ some k_ ≠ (.slice Ao42 t275.length co42 : Value).ownBlock) ∧ some k_ ≠ (.slice Ao122 t298.length co122 : Value).ownBlock) ∧ some k_ ≠ (.slice Ao123 t301.length co123 : Value).ownBlock)) (n := t308.length) (c := co132) ?_).2.2; exact (by (with_reducible repeat (first | apply Kd.R_alloc | apply Kd.R_drewN | apply Kd.R_drew)); exact (Kd.R_mono (Kd.R_far (p := ⟨gb312, 2, none⟩) (Kd.R_far (p := ⟨gb312, 1, none⟩) (Kd.R_far (p := ⟨gb312, 0, none⟩) (Kd.R_types HO310.out BK312.out (by decide)) (fun _ hk => hk.2) (.int .i64 t304)) (fun _ hk => hk.2) (.slice Ao131 t305.length co131)) (fun _ hk => hk.2) (.slice Ao132 t308.length co132)) (fun _ h_ => h_.1)))); (case side4 => exact (Kd.R_reads' HO310.out).2.1); (case side5 => refine (Kd.R_reads' (e := 3) (base := w.heap.size) (ok := fun k_ => (((((some k_ ≠ (.slice Ao26 t258.length co26 : Value).ownBlock ∧ (some k_ ≠ (.slice Ao33 t290.length co33 : Value).ownBlock ∧ (some k_ ≠ (.slice Ao34 t291.length co34 : Value).ownBlock ∧ (some k_ ≠ (.slice Ao41 t272.length co41 : Value).ownBlock ∧ some k_ ≠ (.slice Ao42 t275.length co42 : Value).ownBlock)))) ∧ some k_ ≠ (.slice Ao122 t298.length co122 : Value).ownBlock) ∧ some k_ ≠ (.slice Ao123 t301.length co123 : Value).ownBlock) ∧ some k_ ≠ (.slice Ao131 t305.length co131 : Value).ownBlock) ∧ some k_ ≠ (.slice Ao132 t308.length co132 : Value).ownBlock)) (n := t255.length) (c := co25) ?_).2.2; exact (by (with_reducible repeat (first | apply Kd.R_alloc | apply Kd.R_drewN | apply Kd.R_drew)); exact (Kd.R_mono (Kd.R_far (p := ⟨gb312, 2, none⟩) (Kd.R_far (p := ⟨gb312, 1, none⟩) (Kd.R_far (p := ⟨gb312, 0, none⟩) (Kd.R_types HO_263001.out BK312.out (by decide)) (fun _ hk => hk.2) (.int .i64 t304)) (fun _ hk => hk.2) (.slice Ao131 t305.length co131)) (fun _ hk => hk.2) (.slice Ao132 t308.length co132)) (fun _ h_ => h_.1)))); (case side6 => exact (Kd.R_reads' HO_263001.out).2.1); (case side7 => refine (Kd.R_reads' (e := 3) (base := w.heap.size) (ok := fun k_ => (((((some k_ ≠ (.slice Ao25 t255.length co25 : Value).ownBlock ∧ (some k_ ≠ (.slice Ao33 t290.length co33 : Value).ownBlock ∧ (some k_ ≠ (.slice Ao34 t291.length co34 : Value).ownBlock ∧ (some k_ ≠ (.slice Ao41 t272.length co41 : Value).ownBlock ∧ some k_ ≠ (.slice Ao42 t275.length co42 : Value).ownBlock)))) ∧ some k_ ≠ (.slice Ao122 t298.length co122 : Value).ownBlock) ∧ some k_ ≠ (.slice Ao123 t301.length co123 : Value).ownBlock) ∧ some k_ ≠ (.slice Ao131 t305.length co131 : Value).ownBlock) ∧ some k_ ≠ (.slice Ao132 t308.length co132 : Value).ownBlock)) (n := t258.length) (c := co26) ?_).2.2; exact (by (with_reducible repeat (first | apply Kd.R_alloc | apply Kd.R_drewN | apply Kd.R_drew)); exact (Kd.R_mono (Kd.R_far (p := ⟨gb312, 2, none⟩) (Kd.R_far (p := ⟨gb312, 1, none⟩) (Kd.R_far (p := ⟨gb312, 0, none⟩) (Kd.R_types HO_263002.out BK312.out (by decide)) (fun _ hk => hk.2) (.int .i64 t304)) (fun _ hk => hk.2) (.slice Ao131 t305.length co131)) (fun _ hk => hk.2) (.slice Ao132 t308.length co132)) (fun _ h_ => h_.1)))); (case side8 => exact (Kd.R_reads' HO_263002.out).2.1); rintro e w144 ⟨rfl, hb⟩; refine ⟨_, rfl, ?_⟩; replace HO_263001 := Aside0.mk (Kd.R_below (by (with_reducible repeat (first | apply Kd.R_alloc | apply Kd.R_drewN | apply Kd.R_drew)); exact (Kd.R_mono (Kd.R_far (p := ⟨gb312, 2, none⟩) (Kd.R_far (p := ⟨gb312, 1, none⟩) (Kd.R_far (p := ⟨gb312, 0, none⟩) (Kd.R_types HO_263001.out BK312.out (by decide)) (fun _ hk => hk.2) (.int .i64 t304)) (fun _ hk => hk.2) (.slice Ao131 t305.length co131)) (fun _ hk => hk.2) (.slice Ao132 t308.length co132)) (fun _ h_ => h_.1))) hb); replace HO_263002 := Aside0.mk (Kd.R_below (by (with_reducible repeat (first | apply Kd.R_alloc | apply Kd.R_drewN | apply Kd.R_drew)); exact (Kd.R_mono (Kd.R_far (p := ⟨gb312, 2, none⟩) (Kd.R_far (p := ⟨gb312, 1, none⟩) (Kd.R_far (p := ⟨gb312, 0, none⟩) (Kd.R_types HO_263002.out BK312.out (by decide)) (fun _ hk => hk.2) (.int .i64 t304)) (fun _ hk => hk.2) (.slice Ao131 t305.length co131)) (fun _ hk => hk.2) (.slice Ao132 t308.length co132)) (fun _ h_ => h_.1))) hb); replace HO_271001 := Aside0.mk (Kd.R_below (by (with_reducible repeat (first | apply Kd.R_alloc | apply Kd.R_drewN | apply Kd.R_drew)); exact (Kd.R_mono (Kd.R_far (p := ⟨gb312, 2, none⟩) (Kd.R_far (p := ⟨gb312, 1, none⟩) (Kd.R_far (p := ⟨gb312, 0, none⟩) (Kd.R_types HO_271001.out BK312.out (by decide)) (fun _ hk => hk.2) (.int .i64 t304)) (fun _ hk => hk.2) (.slice Ao131 t305.length co131)) (fun _ hk => hk.2) (.slice Ao132 t308.length co132)) (fun _ h_ => h_.1))) hb); replace HO_271002 := Aside0.mk (Kd.R_below (by (with_reducible repeat (first | apply Kd.R_alloc | apply Kd.R_drewN | apply Kd.R_drew)); exact (Kd.R_mono (Kd.R_far (p := ⟨gb312, 2, none⟩) (Kd.R_far (p := ⟨gb312, 1, none⟩) (Kd.R_far (p := ⟨gb312, 0, none⟩) (Kd.R_types HO_271002.out BK312.out (by decide)) (fun _ hk => hk.2) (.int .i64 t304)) (fun _ hk => hk.2) (.slice Ao131 t305.length co131)) (fun _ hk => hk.2) (.slice Ao132 t308.length co132)) (fun _ h_ => h_.1))) hb); replace HO_280001 := Aside0.mk (Kd.R_below (by (with_reducible repeat (first | apply Kd.R_alloc | apply Kd.R_drewN | apply Kd.R_drew)); exact (Kd.R_mono (Kd.R_far (p := ⟨gb312, 2, none⟩) (Kd.R_far (p := ⟨gb312, 1, none⟩) (Kd.R_far (p := ⟨gb312, 0, none⟩) (Kd.R_types HO_280001.out BK312.out (by decide)) (fun _ hk => hk.2) (.int .i64 t304)) (fun _ hk => hk.2) (.slice Ao131 t305.length co131)) (fun _ hk => hk.2) (.slice Ao132 t308.length co132)) (fun _ h_ => h_.1))) hb); replace HO_280002 := Aside0.mk (Kd.R_below (by (with_reducible repeat (first | apply Kd.R_alloc | apply Kd.R_drewN | apply Kd.R_drew)); exact (Kd.R_mono (Kd.R_far (p := ⟨gb312, 2, none⟩) (Kd.R_far (p := ⟨gb312, 1, none⟩) (Kd.R_far (p := ⟨gb312, 0, none⟩) (Kd.R_types HO_280002.out BK312.out (by decide)) (fun _ hk => hk.2) (.int .i64 t304)) (fun _ hk => hk.2) (.slice Ao131 t305.length co131)) (fun _ hk => hk.2) (.slice Ao132 t308.length co132)) (fun _ h_ => h_.1))) hb); replace HO300 := Aside0.mk (Kd.R_below (by (with_reducible repeat (first | apply Kd.R_alloc | apply Kd.R_drewN | apply Kd.R_drew)); exact (Kd.R_mono (Kd.R_far (p := ⟨gb312, 2, none⟩) (Kd.R_far (p := ⟨gb312, 1, none⟩) (Kd.R_far (p := ⟨gb312, 0, none⟩) (Kd.R_types HO300.out BK312.out (by decide)) (fun _ hk => hk.2) (.int .i64 t304)) (fun _ hk => hk.2) (.slice Ao131 t305.length co131)) (fun _ hk => hk.2) (.slice Ao132 t308.length co132)) (fun _ h_ => h_.1))) hb); replace HO303 := Aside0.mk (Kd.R_below (by (with_reducible repeat (first | apply Kd.R_alloc | apply Kd.R_drewN | apply Kd.R_drew)); exact (Kd.R_mono (Kd.R_far (p := ⟨gb312, 2, none⟩) (Kd.R_far (p := ⟨gb312, 1, none⟩) (Kd.R_far (p := ⟨gb312, 0, none⟩) (Kd.R_types HO303.out BK312.out (by decide)) (fun _ hk => hk.2) (.int .i64 t304)) (fun _ hk => hk.2) (.slice Ao131 t305.length co131)) (fun _ hk => hk.2) (.slice Ao132 t308.length co132)) (fun _ h_ => h_.1))) hb); replace HO307 := Aside0.mk (Kd.R_below (by (with_reducible repeat (first | apply Kd.R_alloc | apply Kd.R_drewN | apply Kd.R_drew)); exact (Kd.R_mono (Kd.R_far (p := ⟨gb312, 2, none⟩) (Kd.R_far (p := ⟨gb312, 1, none⟩) (Kd.R_far (p := ⟨gb312, 0, none⟩) (Kd.R_types HO307.out BK312.out (by decide)) (fun _ hk => hk.2) (.int .i64 t304)) (fun _ hk => hk.2) (.slice Ao131 t305.length co131)) (fun _ hk => hk.2) (.slice Ao132 t308.length co132)) (fun _ h_ => h_.1))) hb); replace HO310 := Aside0.mk (Kd.R_below (by (with_reducible repeat (first | apply Kd.R_alloc | apply Kd.R_drewN | apply Kd.R_drew)); exact (Kd.R_mono (Kd.R_far (p := ⟨gb312, 2, none⟩) (Kd.R_far (p := ⟨gb312, 1, none⟩) (Kd.R_far (p := ⟨gb312, 0, none⟩) (Kd.R_types HO310.out BK312.out (by decide)) (fun _ hk => hk.2) (.int .i64 t304)) (fun _ hk => hk.2) (.slice Ao131 t305.length co131)) (fun _ hk => hk.2) (.slice Ao132 t308.length co132)) (fun _ h_ => h_.1))) hb); replace BK245 := Aside0.mk (blk_below (g := gb245) (o := .cells #[.int .i64 a0_0, .slice A0_1 l0_1.length c0_1, .slice A0_2 l0_2.length c0_2] 24 (0, 0)) (by (with_reducible repeat (first | refine blk_drewN ?_ _ | refine blk_drew ?_ | refine blk_alloc ?_ _)); refine blk_far ?_ NB245_312.out _; (with_reducible repeat (first | refine blk_drewN ?_ _ | refine blk_drew ?_ | refine blk_alloc ?_ _)); refine blk_far ?_ NB245_312.out _; (with_reducible repeat (first | refine blk_drewN ?_ _ | refine blk_drew ?_ | refine blk_alloc ?_ _)); refine blk_far ?_ NB245_312.out _; (with_reducible repeat (first | refine blk_drewN ?_ _ | refine blk_drew ?_ | refine blk_alloc ?_ _)); exact BK245.out) hb); replace BK262 := Aside0.mk (blk_below (g := gb262) (o := .cells #[.int .i64 t254, .slice Ao25 t255.length co25, .slice Ao26 t258.length co26] 28 (0, 0)) (by (with_reducible repeat (first | refine blk_drewN ?_ _ | refine blk_drew ?_ | refine blk_alloc ?_ _)); refine blk_far ?_ NB262_312.out _; (with_reducible repeat (first | refine blk_drewN ?_ _ | refine blk_drew ?_ | refine blk_alloc ?_ _)); refine blk_far ?_ NB262_312.out _; (with_reducible repeat (first | refine blk_drewN ?_ _ | refine blk_drew ?_ | refine blk_alloc ?_ _)); refine blk_far ?_ NB262_312.out _; (with_reducible repeat (first | refine blk_drewN ?_ _ | refine blk_drew ?_ | refine blk_alloc ?_ _)); exact BK262.out) hb); replace BK270 := Aside0.mk (blk_below (g := gb270) (o := .cells #[.int .i64 t263, .slice Ao33 t290.length co33, .slice Ao34 t291.length co34] 28 (0, 0)) (by (with_reducible repeat (first | refine blk_drewN ?_ _ | refine blk_drew ?_ | refine blk_alloc ?_ _)); refine blk_far ?_ NB270_312.out _; (with_reducible repeat (first | refine blk_drewN ?_ _ | refine blk_drew ?_ | refine blk_alloc ?_ _)); refine blk_far ?_ NB270_312.out _; (with_reducible repeat (first | refine blk_drewN ?_ _ | refine blk_drew ?_ | refine blk_alloc ?_ _)); refine blk_far ?_ NB270_312.out _; (with_reducible repeat (first | refine blk_drewN ?_ _ | refine blk_drew ?_ | refine blk_alloc ?_ _)); exact BK270.out) hb); replace BK279 := Aside0.mk (blk_below (g := gb279) (o := .cells #[.int .i64 t271, .slice Ao41 t272.length co41, .slice Ao42 t275.length co42] 28 (0, 0)) (by (with_reducible repeat (first | refine blk_drewN ?_ _ | refine blk_drew ?_ | refine blk_alloc ?_ _)); refine blk_far ?_ NB279_312.out _; (with_reducible repeat (first | refine blk_drewN ?_ _ | refine blk_drew ?_ | refine blk_alloc ?_ _)); refine blk_far ?_ NB279_312.out _; (with_reducible repeat (first | refine blk_drewN ?_ _ | refine blk_drew ?_ | refine blk_alloc ?_ _)); refine blk_far ?_ NB279_312.out _; (with_reducible repeat (first | refine blk_drewN ?_ _ | refine blk_drew ?_ | refine blk_alloc ?_ _)); exact BK279.out) hb); replace BK312 := Aside0.mk (blk_below (g := gb312) (o := .cells #[.int .i64 t304, .slice Ao131 t305.length co131, .slice Ao132 t308.length co132] 28 (0, 0)) (by (with_reducible repeat (first | refine blk_drewN ?_ _ | refine blk_drew ?_ | refine blk_alloc ?_ _)); refine blk_put (cs := #[.int .i64 t304, .slice Ao131 t305.length co131, .slice none 0 0]) ?_ 2 _ rfl; (with_reducible repeat (first | refine blk_drewN ?_ _ | refine blk_drew ?_ | refine blk_alloc ?_ _)); refine blk_put (cs := #[.int .i64 t304, .slice none 0 0, .slice none 0 0]) ?_ 1 _ rfl; (with_reducible repeat (first | refine blk_drewN ?_ _ | refine blk_drew ?_ | refine blk_alloc ?_ _)); refine blk_put (cs := #[.int .i64 0, .slice none 0 0, .slice none 0 0]) ?_ 0 _ rfl; (with_reducible repeat (first | refine blk_drewN ?_ _ | refine blk_drew ?_ | refine blk_alloc ?_ _)); exact BK312.out) hb); replace HB := Aside0.mk (below_step (tB HB.out) hb); (try clear hb); (try clear hb2); (try clear hk); (try clear hi)))
             go_meet
             case rel => exact ⟨_, ((t311 != t261)), (by first | rfl | (simp; done) | (simp [wrap64]; done) | (simp [*]; done)), H', ⟨by have := HJ12.out; have := HJ65.out; first | omega | exact Nat.le_refl _⟩, ⟨by (try simp only [hl271001_65]); (try simp only [hl271002_65]); (with_reducible repeat (first | apply Kd.R_alloc | apply Kd.R_drewN | apply Kd.R_drew)); exact Kd.R_mono HO_263001.out (fun _ hk => ⟨hk.1.1.1.1.1, ⟨hk.1.1.1.1.2.1, ⟨hk.1.1.1.1.2.2.1, ⟨hk.1.1.1.1.2.2.2.1, ⟨hk.1.1.1.1.2.2.2.2, ⟨hk.1.2, hk.2⟩⟩⟩⟩⟩⟩)⟩, ⟨by (try simp only [hl271001_65]); (try simp only [hl271002_65]); (with_reducible repeat (first | apply Kd.R_alloc | apply Kd.R_drewN | apply Kd.R_drew)); exact Kd.R_mono HO_263002.out (fun _ hk => ⟨hk.1.1.1.1.1, ⟨hk.1.1.1.1.2.1, ⟨hk.1.1.1.1.2.2.1, ⟨hk.1.1.1.1.2.2.2.1, ⟨hk.1.1.1.1.2.2.2.2, ⟨hk.1.2, hk.2⟩⟩⟩⟩⟩⟩)⟩, ⟨by (try simp only [hl271001_65]); (try simp only [hl271002_65]); (with_reducible repeat (first | apply Kd.R_alloc | apply Kd.R_drewN | apply Kd.R_drew)); exact Kd.R_mono HO_271001.out (fun _ hk => ⟨hk.1.1.1.1.1, ⟨hk.1.1.1.1.2.1, ⟨hk.1.1.1.1.2.2.1, ⟨hk.1.1.1.1.2.2.2.1, ⟨hk.1.1.1.1.2.2.2.2, ⟨hk.1.2, hk.2⟩⟩⟩⟩⟩⟩)⟩, ⟨by (try simp only [hl271001_65]); (try simp only [hl271002_65]); (with_reducible repeat (first | apply Kd.R_alloc | apply Kd.R_drewN | apply Kd.R_drew)); exact Kd.R_mono HO_271002.out (fun _ hk => ⟨hk.1.1.1.1.1, ⟨hk.1.1.1.1.2.1, ⟨hk.1.1.1.1.2.2.1, ⟨hk.1.1.1.1.2.2.2.1, ⟨hk.1.1.1.1.2.2.2.2, ⟨hk.1.2, hk.2⟩⟩⟩⟩⟩⟩)⟩, ⟨by (try simp only [hl271001_65]); (try simp only [hl271002_65]); (with_reducible repeat (first | apply Kd.R_alloc | apply Kd.R_drewN | apply Kd.R_drew)); exact Kd.R_mono HO_280001.out (fun _ hk => ⟨hk.1.1.1.1.1, ⟨hk.1.1.1.1.2.1, ⟨hk.1.1.1.1.2.2.1, ⟨hk.1.1.1.1.2.2.2.1, ⟨hk.1.1.1.1.2.2.2.2, ⟨hk.1.2, hk.2⟩⟩⟩⟩⟩⟩)⟩, ⟨by (try simp only [hl271001_65]); (try simp only [hl271002_65]); (with_reducible repeat (first | apply Kd.R_alloc | apply Kd.R_drewN | apply Kd.R_drew)); exact Kd.R_mono HO_280002.out (fun _ hk => ⟨hk.1.1.1.1.1, ⟨hk.1.1.1.1.2.1, ⟨hk.1.1.1.1.2.2.1, ⟨hk.1.1.1.1.2.2.2.1, ⟨hk.1.1.1.1.2.2.2.2, ⟨hk.1.2, hk.2⟩⟩⟩⟩⟩⟩)⟩, ⟨by (try simp only [hl271001_65]); (try simp only [hl271002_65]); (with_reducible repeat (first | apply Kd.R_alloc | apply Kd.R_drewN | apply Kd.R_drew)); exact Kd.R_mono HO307.out (fun _ hk => ⟨hk.1.1.1.1.1.1.1.2, ⟨hk.1.1.1.1.1.1.2, ⟨hk.1.1.1.1.1.2, ⟨hk.1.1.1.1.2, ⟨hk.1.1.1.2, ⟨hk.1.1.2, hk.1.1.1.1.1.1.1.1⟩⟩⟩⟩⟩⟩)⟩, ⟨by (try simp only [hl271001_65]); (try simp only [hl271002_65]); (with_reducible repeat (first | apply Kd.R_alloc | apply Kd.R_drewN | apply Kd.R_drew)); exact Kd.R_mono HO310.out (fun _ hk => ⟨hk.1.1.1.1.1.1.1.2, ⟨hk.1.1.1.1.1.1.2, ⟨hk.1.1.1.1.1.2, ⟨hk.1.1.1.1.2, ⟨hk.1.1.1.2, ⟨hk.1.1.2, hk.1.1.1.1.1.1.1.1⟩⟩⟩⟩⟩⟩)⟩, ⟨by (try simp only [hl271001_65]); (try simp only [hl271002_65]); (with_reducible repeat (first | refine blk_drewN ?_ _ | refine blk_drew ?_ | refine blk_alloc ?_ _)); exact BK245.out⟩, ⟨by (try simp only [hl271001_65]); (try simp only [hl271002_65]); (with_reducible repeat (first | refine blk_drewN ?_ _ | refine blk_drew ?_ | refine blk_alloc ?_ _)); exact BK262.out⟩, ⟨by (try simp only [hl271001_65]); (try simp only [hl271002_65]); (with_reducible repeat (first | refine blk_drewN ?_ _ | refine blk_drew ?_ | refine blk_alloc ?_ _)); exact BK270.out⟩, ⟨by (try simp only [hl271001_65]); (try simp only [hl271002_65]); (with_reducible repeat (first | refine blk_drewN ?_ _ | refine blk_drew ?_ | refine blk_alloc ?_ _)); exact BK279.out⟩, ⟨by (try simp only [hl271001_65]); (try simp only [hl271002_65]); (with_reducible repeat (first | refine blk_drewN ?_ _ | refine blk_drew ?_ | refine blk_alloc ?_ _)); exact BK312.out⟩, ⟨tB HB.out⟩⟩
            ·
             replace c134 := Bool.eq_false_iff.mpr c134
             subst c134
             have H1 : (laws_FnExactTopLoad.j2 kj65 t293 true t271 t294 t295) = some r := by rw [if_neg (show ¬ (false = true) by decide)] at H; exact H
             clear H
             have H := H1
             clear H1
             have H' := Aside0.mk H
             clear H
             have hnb145 := NB312_245.out
             have hnc145 := NB245_312.out
             have hnb146 := NB312_262.out
             have hnc146 := NB262_312.out
             have hnb147 := NB312_270.out
             have hnc147 := NB270_312.out
             have hnb148 := NB312_279.out
             have hnc148 := NB279_312.out
             obtain ⟨hcz149_0, hfz149_0, hcz149_1, hfz149_1, hcz149_2, hfz149_2⟩ := cz3 BK312
             have hnb150 := NB262_245.out
             have hnc150 := NB245_262.out
             have hnb151 := NB262_270.out
             have hnc151 := NB270_262.out
             have hnb152 := NB262_279.out
             have hnc152 := NB279_262.out
             obtain ⟨hcz153_0, hfz153_0, hcz153_1, hfz153_1, hcz153_2, hfz153_2⟩ := cz3 BK262
             go_wp2_with (first | ((with_reducible refine gate_callee (f := 19) rfl ?_); refine goesL_ (some 91) rfl rfl Try.func19 (by kernel_rfl) rfl #[.agg #[.int .i64 t304, .slice Ao131 t305.length co131, .slice Ao132 t308.length co132], .agg #[.int .i64 t254, .slice Ao25 t255.length co25, .slice Ao26 t258.length co26]] rfl tM ?_; (with_reducible refine (laws_eqPile.calls kj65 t304 _ _ t305 _ _ t308 t254 _ _ t255 _ _ t258 false _ ?side1 ?side2 ?side3 ?side4 ?side5 ?side6 ?side7 ?side8 A133.out).mono ?_); (case side1 => refine (Kd.R_reads' (e := 3) (base := w.heap.size) (ok := fun k_ => ((((((((some k_ ≠ (.slice Ao132 t308.length co132 : Value).ownBlock ∧ some k_ ≠ (.slice Ao25 t255.length co25 : Value).ownBlock) ∧ some k_ ≠ (.slice Ao26 t258.length co26 : Value).ownBlock) ∧ some k_ ≠ (.slice Ao33 t290.length co33 : Value).ownBlock) ∧ some k_ ≠ (.slice Ao34 t291.length co34 : Value).ownBlock) ∧ some k_ ≠ (.slice Ao41 t272.length co41 : Value).ownBlock) ∧ some k_ ≠ (.slice Ao42 t275.length co42 : Value).ownBlock) ∧ some k_ ≠ (.slice Ao122 t298.length co122 : Value).ownBlock) ∧ some k_ ≠ (.slice Ao123 t301.length co123 : Value).ownBlock)) (n := t305.length) (c := co131) ?_).2.2; exact (by (with_reducible repeat (first | apply Kd.R_alloc | apply Kd.R_drewN | apply Kd.R_drew)); exact (Kd.R_mono (Kd.R_far (p := ⟨gb312, 2, none⟩) (Kd.R_far (p := ⟨gb312, 1, none⟩) (Kd.R_far (p := ⟨gb312, 0, none⟩) (Kd.R_types HO307.out BK312.out (by decide)) (fun _ hk => hk.2) (.int .i64 t304)) (fun _ hk => hk.2) (.slice Ao131 t305.length co131)) (fun _ hk => hk.2) (.slice Ao132 t308.length co132)) (fun _ h_ => h_.1)))); (case side2 => exact (Kd.R_reads' HO307.out).2.1); (case side3 => refine (Kd.R_reads' (e := 3) (base := w.heap.size) (ok := fun k_ => ((((((((some k_ ≠ (.slice Ao131 t305.length co131 : Value).ownBlock ∧ some k_ ≠ (.slice Ao25 t255.length co25 : Value).ownBlock) ∧ some k_ ≠ (.slice Ao26 t258.length co26 : Value).ownBlock) ∧ some k_ ≠ (.slice Ao33 t290.length co33 : Value).ownBlock) ∧ some k_ ≠ (.slice Ao34 t291.length co34 : Value).ownBlock) ∧ some k_ ≠ (.slice Ao41 t272.length co41 : Value).ownBlock) ∧ some k_ ≠ (.slice Ao42 t275.length co42 : Value).ownBlock) ∧ some k_ ≠ (.slice Ao122 t298.length co122 : Value).ownBlock) ∧ some k_ ≠ (.slice Ao123 t301.length co123 : Value).ownBlock)) (n := t308.length) (c := co132) ?_).2.2; exact (by (with_reducible repeat (first | apply Kd.R_alloc | apply Kd.R_drewN | apply Kd.R_drew)); exact (Kd.R_mono (Kd.R_far (p := ⟨gb312, 2, none⟩) (Kd.R_far (p := ⟨gb312, 1, none⟩) (Kd.R_far (p := ⟨gb312, 0, none⟩) (Kd.R_types HO310.out BK312.out (by decide)) (fun _ hk => hk.2) (.int .i64 t304)) (fun _ hk => hk.2) (.slice Ao131 t305.length co131)) (fun _ hk => hk.2) (.slice Ao132 t308.length co132)) (fun _ h_ => h_.1)))); (case side4 => exact (Kd.R_reads' HO310.out).2.1); (case side5 => refine (Kd.R_reads' (e := 3) (base := w.heap.size) (ok := fun k_ => (((((some k_ ≠ (.slice Ao26 t258.length co26 : Value).ownBlock ∧ (some k_ ≠ (.slice Ao33 t290.length co33 : Value).ownBlock ∧ (some k_ ≠ (.slice Ao34 t291.length co34 : Value).ownBlock ∧ (some k_ ≠ (.slice Ao41 t272.length co41 : Value).ownBlock ∧ some k_ ≠ (.slice Ao42 t275.length co42 : Value).ownBlock)))) ∧ some k_ ≠ (.slice Ao122 t298.length co122 : Value).ownBlock) ∧ some k_ ≠ (.slice Ao123 t301.length co123 : Value).ownBlock) ∧ some k_ ≠ (.slice Ao131 t305.length co131 : Value).ownBlock) ∧ some k_ ≠ (.slice Ao132 t308.length co132 : Value).ownBlock)) (n := t255.length) (c := co25) ?_).2.2; exact (by (with_reducible repeat (first | apply Kd.R_alloc | apply Kd.R_drewN | apply Kd.R_drew)); exact (Kd.R_mono (Kd.R_far (p := ⟨gb312, 2, none⟩) (Kd.R_far (p := ⟨gb312, 1, none⟩) (Kd.R_far (p := ⟨gb312, 0, none⟩) (Kd.R_types HO_263001.out BK312.out (by decide)) (fun _ hk => hk.2) (.int .i64 t304)) (fun _ hk => hk.2) (.slice Ao131 t305.length co131)) (fun _ hk => hk.2) (.slice Ao132 t308.length co132)) (fun _ h_ => h_.1)))); (case side6 => exact (Kd.R_reads' HO_263001.out).2.1); (case side7 => refine (Kd.R_reads' (e := 3) (base := w.heap.size) (ok := fun k_ => (((((some k_ ≠ (.slice Ao25 t255.length co25 : Value).ownBlock ∧ (some k_ ≠ (.slice Ao33 t290.length co33 : Value).ownBlock ∧ (some k_ ≠ (.slice Ao34 t291.length co34 : Value).ownBlock ∧ (some k_ ≠ (.slice Ao41 t272.length co41 : Value).ownBlock ∧ some k_ ≠ (.slice Ao42 t275.length co42 : Value).ownBlock)))) ∧ some k_ ≠ (.slice Ao122 t298.length co122 : Value).ownBlock) ∧ some k_ ≠ (.slice Ao123 t301.length co123 : Value).ownBlock) ∧ some k_ ≠ (.slice Ao131 t305.length co131 : Value).ownBlock) ∧ some k_ ≠ (.slice Ao132 t308.length co132 : Value).ownBlock)) (n := t258.length) (c := co26) ?_).2.2; exact (by (with_reducible repeat (first | apply Kd.R_alloc | apply Kd.R_drewN | apply Kd.R_drew)); exact (Kd.R_mono (Kd.R_far (p := ⟨gb312, 2, none⟩) (Kd.R_far (p := ⟨gb312, 1, none⟩) (Kd.R_far (p := ⟨gb312, 0, none⟩) (Kd.R_types HO_263002.out BK312.out (by decide)) (fun _ hk => hk.2) (.int .i64 t304)) (fun _ hk => hk.2) (.slice Ao131 t305.length co131)) (fun _ hk => hk.2) (.slice Ao132 t308.length co132)) (fun _ h_ => h_.1)))); (case side8 => exact (Kd.R_reads' HO_263002.out).2.1); rintro e w154 ⟨rfl, hb⟩; refine ⟨_, rfl, ?_⟩; replace HO_263001 := Aside0.mk (Kd.R_below (by (with_reducible repeat (first | apply Kd.R_alloc | apply Kd.R_drewN | apply Kd.R_drew)); exact (Kd.R_mono (Kd.R_far (p := ⟨gb312, 2, none⟩) (Kd.R_far (p := ⟨gb312, 1, none⟩) (Kd.R_far (p := ⟨gb312, 0, none⟩) (Kd.R_types HO_263001.out BK312.out (by decide)) (fun _ hk => hk.2) (.int .i64 t304)) (fun _ hk => hk.2) (.slice Ao131 t305.length co131)) (fun _ hk => hk.2) (.slice Ao132 t308.length co132)) (fun _ h_ => h_.1))) hb); replace HO_263002 := Aside0.mk (Kd.R_below (by (with_reducible repeat (first | apply Kd.R_alloc | apply Kd.R_drewN | apply Kd.R_drew)); exact (Kd.R_mono (Kd.R_far (p := ⟨gb312, 2, none⟩) (Kd.R_far (p := ⟨gb312, 1, none⟩) (Kd.R_far (p := ⟨gb312, 0, none⟩) (Kd.R_types HO_263002.out BK312.out (by decide)) (fun _ hk => hk.2) (.int .i64 t304)) (fun _ hk => hk.2) (.slice Ao131 t305.length co131)) (fun _ hk => hk.2) (.slice Ao132 t308.length co132)) (fun _ h_ => h_.1))) hb); replace HO_271001 := Aside0.mk (Kd.R_below (by (with_reducible repeat (first | apply Kd.R_alloc | apply Kd.R_drewN | apply Kd.R_drew)); exact (Kd.R_mono (Kd.R_far (p := ⟨gb312, 2, none⟩) (Kd.R_far (p := ⟨gb312, 1, none⟩) (Kd.R_far (p := ⟨gb312, 0, none⟩) (Kd.R_types HO_271001.out BK312.out (by decide)) (fun _ hk => hk.2) (.int .i64 t304)) (fun _ hk => hk.2) (.slice Ao131 t305.length co131)) (fun _ hk => hk.2) (.slice Ao132 t308.length co132)) (fun _ h_ => h_.1))) hb); replace HO_271002 := Aside0.mk (Kd.R_below (by (with_reducible repeat (first | apply Kd.R_alloc | apply Kd.R_drewN | apply Kd.R_drew)); exact (Kd.R_mono (Kd.R_far (p := ⟨gb312, 2, none⟩) (Kd.R_far (p := ⟨gb312, 1, none⟩) (Kd.R_far (p := ⟨gb312, 0, none⟩) (Kd.R_types HO_271002.out BK312.out (by decide)) (fun _ hk => hk.2) (.int .i64 t304)) (fun _ hk => hk.2) (.slice Ao131 t305.length co131)) (fun _ hk => hk.2) (.slice Ao132 t308.length co132)) (fun _ h_ => h_.1))) hb); replace HO_280001 := Aside0.mk (Kd.R_below (by (with_reducible repeat (first | apply Kd.R_alloc | apply Kd.R_drewN | apply Kd.R_drew)); exact (Kd.R_mono (Kd.R_far (p := ⟨gb312, 2, none⟩) (Kd.R_far (p := ⟨gb312, 1, none⟩) (Kd.R_far (p := ⟨gb312, 0, none⟩) (Kd.R_types HO_280001.out BK312.out (by decide)) (fun _ hk => hk.2) (.int .i64 t304)) (fun _ hk => hk.2) (.slice Ao131 t305.length co131)) (fun _ hk => hk.2) (.slice Ao132 t308.length co132)) (fun _ h_ => h_.1))) hb); replace HO_280002 := Aside0.mk (Kd.R_below (by (with_reducible repeat (first | apply Kd.R_alloc | apply Kd.R_drewN | apply Kd.R_drew)); exact (Kd.R_mono (Kd.R_far (p := ⟨gb312, 2, none⟩) (Kd.R_far (p := ⟨gb312, 1, none⟩) (Kd.R_far (p := ⟨gb312, 0, none⟩) (Kd.R_types HO_280002.out BK312.out (by decide)) (fun _ hk => hk.2) (.int .i64 t304)) (fun _ hk => hk.2) (.slice Ao131 t305.length co131)) (fun _ hk => hk.2) (.slice Ao132 t308.length co132)) (fun _ h_ => h_.1))) hb); replace HO300 := Aside0.mk (Kd.R_below (by (with_reducible repeat (first | apply Kd.R_alloc | apply Kd.R_drewN | apply Kd.R_drew)); exact (Kd.R_mono (Kd.R_far (p := ⟨gb312, 2, none⟩) (Kd.R_far (p := ⟨gb312, 1, none⟩) (Kd.R_far (p := ⟨gb312, 0, none⟩) (Kd.R_types HO300.out BK312.out (by decide)) (fun _ hk => hk.2) (.int .i64 t304)) (fun _ hk => hk.2) (.slice Ao131 t305.length co131)) (fun _ hk => hk.2) (.slice Ao132 t308.length co132)) (fun _ h_ => h_.1))) hb); replace HO303 := Aside0.mk (Kd.R_below (by (with_reducible repeat (first | apply Kd.R_alloc | apply Kd.R_drewN | apply Kd.R_drew)); exact (Kd.R_mono (Kd.R_far (p := ⟨gb312, 2, none⟩) (Kd.R_far (p := ⟨gb312, 1, none⟩) (Kd.R_far (p := ⟨gb312, 0, none⟩) (Kd.R_types HO303.out BK312.out (by decide)) (fun _ hk => hk.2) (.int .i64 t304)) (fun _ hk => hk.2) (.slice Ao131 t305.length co131)) (fun _ hk => hk.2) (.slice Ao132 t308.length co132)) (fun _ h_ => h_.1))) hb); replace HO307 := Aside0.mk (Kd.R_below (by (with_reducible repeat (first | apply Kd.R_alloc | apply Kd.R_drewN | apply Kd.R_drew)); exact (Kd.R_mono (Kd.R_far (p := ⟨gb312, 2, none⟩) (Kd.R_far (p := ⟨gb312, 1, none⟩) (Kd.R_far (p := ⟨gb312, 0, none⟩) (Kd.R_types HO307.out BK312.out (by decide)) (fun _ hk => hk.2) (.int .i64 t304)) (fun _ hk => hk.2) (.slice Ao131 t305.length co131)) (fun _ hk => hk.2) (.slice Ao132 t308.length co132)) (fun _ h_ => h_.1))) hb); replace HO310 := Aside0.mk (Kd.R_below (by (with_reducible repeat (first | apply Kd.R_alloc | apply Kd.R_drewN | apply Kd.R_drew)); exact (Kd.R_mono (Kd.R_far (p := ⟨gb312, 2, none⟩) (Kd.R_far (p := ⟨gb312, 1, none⟩) (Kd.R_far (p := ⟨gb312, 0, none⟩) (Kd.R_types HO310.out BK312.out (by decide)) (fun _ hk => hk.2) (.int .i64 t304)) (fun _ hk => hk.2) (.slice Ao131 t305.length co131)) (fun _ hk => hk.2) (.slice Ao132 t308.length co132)) (fun _ h_ => h_.1))) hb); replace BK245 := Aside0.mk (blk_below (g := gb245) (o := .cells #[.int .i64 a0_0, .slice A0_1 l0_1.length c0_1, .slice A0_2 l0_2.length c0_2] 24 (0, 0)) (by (with_reducible repeat (first | refine blk_drewN ?_ _ | refine blk_drew ?_ | refine blk_alloc ?_ _)); refine blk_far ?_ NB245_312.out _; (with_reducible repeat (first | refine blk_drewN ?_ _ | refine blk_drew ?_ | refine blk_alloc ?_ _)); refine blk_far ?_ NB245_312.out _; (with_reducible repeat (first | refine blk_drewN ?_ _ | refine blk_drew ?_ | refine blk_alloc ?_ _)); refine blk_far ?_ NB245_312.out _; (with_reducible repeat (first | refine blk_drewN ?_ _ | refine blk_drew ?_ | refine blk_alloc ?_ _)); exact BK245.out) hb); replace BK262 := Aside0.mk (blk_below (g := gb262) (o := .cells #[.int .i64 t254, .slice Ao25 t255.length co25, .slice Ao26 t258.length co26] 28 (0, 0)) (by (with_reducible repeat (first | refine blk_drewN ?_ _ | refine blk_drew ?_ | refine blk_alloc ?_ _)); refine blk_far ?_ NB262_312.out _; (with_reducible repeat (first | refine blk_drewN ?_ _ | refine blk_drew ?_ | refine blk_alloc ?_ _)); refine blk_far ?_ NB262_312.out _; (with_reducible repeat (first | refine blk_drewN ?_ _ | refine blk_drew ?_ | refine blk_alloc ?_ _)); refine blk_far ?_ NB262_312.out _; (with_reducible repeat (first | refine blk_drewN ?_ _ | refine blk_drew ?_ | refine blk_alloc ?_ _)); exact BK262.out) hb); replace BK270 := Aside0.mk (blk_below (g := gb270) (o := .cells #[.int .i64 t263, .slice Ao33 t290.length co33, .slice Ao34 t291.length co34] 28 (0, 0)) (by (with_reducible repeat (first | refine blk_drewN ?_ _ | refine blk_drew ?_ | refine blk_alloc ?_ _)); refine blk_far ?_ NB270_312.out _; (with_reducible repeat (first | refine blk_drewN ?_ _ | refine blk_drew ?_ | refine blk_alloc ?_ _)); refine blk_far ?_ NB270_312.out _; (with_reducible repeat (first | refine blk_drewN ?_ _ | refine blk_drew ?_ | refine blk_alloc ?_ _)); refine blk_far ?_ NB270_312.out _; (with_reducible repeat (first | refine blk_drewN ?_ _ | refine blk_drew ?_ | refine blk_alloc ?_ _)); exact BK270.out) hb); replace BK279 := Aside0.mk (blk_below (g := gb279) (o := .cells #[.int .i64 t271, .slice Ao41 t272.length co41, .slice Ao42 t275.length co42] 28 (0, 0)) (by (with_reducible repeat (first | refine blk_drewN ?_ _ | refine blk_drew ?_ | refine blk_alloc ?_ _)); refine blk_far ?_ NB279_312.out _; (with_reducible repeat (first | refine blk_drewN ?_ _ | refine blk_drew ?_ | refine blk_alloc ?_ _)); refine blk_far ?_ NB279_312.out _; (with_reducible repeat (first | refine blk_drewN ?_ _ | refine blk_drew ?_ | refine blk_alloc ?_ _)); refine blk_far ?_ NB279_312.out _; (with_reducible repeat (first | refine blk_drewN ?_ _ | refine blk_drew ?_ | refine blk_alloc ?_ _)); exact BK279.out) hb); replace BK312 := Aside0.mk (blk_below (g := gb312) (o := .cells #[.int .i64 t304, .slice Ao131 t305.length co131, .slice Ao132 t308.length co132] 28 (0, 0)) (by (with_reducible repeat (first | refine blk_drewN ?_ _ | refine blk_drew ?_ | refine blk_alloc ?_ _)); refine blk_put (cs := #[.int .i64 t304, .slice Ao131 t305.length co131, .slice none 0 0]) ?_ 2 _ rfl; (with_reducible repeat (first | refine blk_drewN ?_ _ | refine blk_drew ?_ | refine blk_alloc ?_ _)); refine blk_put (cs := #[.int .i64 t304, .slice none 0 0, .slice none 0 0]) ?_ 1 _ rfl; (with_reducible repeat (first | refine blk_drewN ?_ _ | refine blk_drew ?_ | refine blk_alloc ?_ _)); refine blk_put (cs := #[.int .i64 0, .slice none 0 0, .slice none 0 0]) ?_ 0 _ rfl; (with_reducible repeat (first | refine blk_drewN ?_ _ | refine blk_drew ?_ | refine blk_alloc ?_ _)); exact BK312.out) hb); replace HB := Aside0.mk (below_step (tB HB.out) hb); (try clear hb); (try clear hb2); (try clear hk); (try clear hi)))
             go_meet
             case rel => exact ⟨_, (true), (by first | rfl | (simp; done) | (simp [wrap64]; done) | (simp [*]; done)), H', ⟨by have := HJ12.out; have := HJ65.out; first | omega | exact Nat.le_refl _⟩, ⟨by (try simp only [hl271001_65]); (try simp only [hl271002_65]); (with_reducible repeat (first | apply Kd.R_alloc | apply Kd.R_drewN | apply Kd.R_drew)); exact Kd.R_mono HO_263001.out (fun _ hk => ⟨hk.1.1.1.1.1, ⟨hk.1.1.1.1.2.1, ⟨hk.1.1.1.1.2.2.1, ⟨hk.1.1.1.1.2.2.2.1, ⟨hk.1.1.1.1.2.2.2.2, ⟨hk.1.2, hk.2⟩⟩⟩⟩⟩⟩)⟩, ⟨by (try simp only [hl271001_65]); (try simp only [hl271002_65]); (with_reducible repeat (first | apply Kd.R_alloc | apply Kd.R_drewN | apply Kd.R_drew)); exact Kd.R_mono HO_263002.out (fun _ hk => ⟨hk.1.1.1.1.1, ⟨hk.1.1.1.1.2.1, ⟨hk.1.1.1.1.2.2.1, ⟨hk.1.1.1.1.2.2.2.1, ⟨hk.1.1.1.1.2.2.2.2, ⟨hk.1.2, hk.2⟩⟩⟩⟩⟩⟩)⟩, ⟨by (try simp only [hl271001_65]); (try simp only [hl271002_65]); (with_reducible repeat (first | apply Kd.R_alloc | apply Kd.R_drewN | apply Kd.R_drew)); exact Kd.R_mono HO_271001.out (fun _ hk => ⟨hk.1.1.1.1.1, ⟨hk.1.1.1.1.2.1, ⟨hk.1.1.1.1.2.2.1, ⟨hk.1.1.1.1.2.2.2.1, ⟨hk.1.1.1.1.2.2.2.2, ⟨hk.1.2, hk.2⟩⟩⟩⟩⟩⟩)⟩, ⟨by (try simp only [hl271001_65]); (try simp only [hl271002_65]); (with_reducible repeat (first | apply Kd.R_alloc | apply Kd.R_drewN | apply Kd.R_drew)); exact Kd.R_mono HO_271002.out (fun _ hk => ⟨hk.1.1.1.1.1, ⟨hk.1.1.1.1.2.1, ⟨hk.1.1.1.1.2.2.1, ⟨hk.1.1.1.1.2.2.2.1, ⟨hk.1.1.1.1.2.2.2.2, ⟨hk.1.2, hk.2⟩⟩⟩⟩⟩⟩)⟩, ⟨by (try simp only [hl271001_65]); (try simp only [hl271002_65]); (with_reducible repeat (first | apply Kd.R_alloc | apply Kd.R_drewN | apply Kd.R_drew)); exact Kd.R_mono HO_280001.out (fun _ hk => ⟨hk.1.1.1.1.1, ⟨hk.1.1.1.1.2.1, ⟨hk.1.1.1.1.2.2.1, ⟨hk.1.1.1.1.2.2.2.1, ⟨hk.1.1.1.1.2.2.2.2, ⟨hk.1.2, hk.2⟩⟩⟩⟩⟩⟩)⟩, ⟨by (try simp only [hl271001_65]); (try simp only [hl271002_65]); (with_reducible repeat (first | apply Kd.R_alloc | apply Kd.R_drewN | apply Kd.R_drew)); exact Kd.R_mono HO_280002.out (fun _ hk => ⟨hk.1.1.1.1.1, ⟨hk.1.1.1.1.2.1, ⟨hk.1.1.1.1.2.2.1, ⟨hk.1.1.1.1.2.2.2.1, ⟨hk.1.1.1.1.2.2.2.2, ⟨hk.1.2, hk.2⟩⟩⟩⟩⟩⟩)⟩, ⟨by (try simp only [hl271001_65]); (try simp only [hl271002_65]); (with_reducible repeat (first | apply Kd.R_alloc | apply Kd.R_drewN | apply Kd.R_drew)); exact Kd.R_mono HO307.out (fun _ hk => ⟨hk.1.1.1.1.1.1.1.2, ⟨hk.1.1.1.1.1.1.2, ⟨hk.1.1.1.1.1.2, ⟨hk.1.1.1.1.2, ⟨hk.1.1.1.2, ⟨hk.1.1.2, hk.1.1.1.1.1.1.1.1⟩⟩⟩⟩⟩⟩)⟩, ⟨by (try simp only [hl271001_65]); (try simp only [hl271002_65]); (with_reducible repeat (first | apply Kd.R_alloc | apply Kd.R_drewN | apply Kd.R_drew)); exact Kd.R_mono HO310.out (fun _ hk => ⟨hk.1.1.1.1.1.1.1.2, ⟨hk.1.1.1.1.1.1.2, ⟨hk.1.1.1.1.1.2, ⟨hk.1.1.1.1.2, ⟨hk.1.1.1.2, ⟨hk.1.1.2, hk.1.1.1.1.1.1.1.1⟩⟩⟩⟩⟩⟩)⟩, ⟨by (try simp only [hl271001_65]); (try simp only [hl271002_65]); (with_reducible repeat (first | refine blk_drewN ?_ _ | refine blk_drew ?_ | refine blk_alloc ?_ _)); exact BK245.out⟩, ⟨by (try simp only [hl271001_65]); (try simp only [hl271002_65]); (with_reducible repeat (first | refine blk_drewN ?_ _ | refine blk_drew ?_ | refine blk_alloc ?_ _)); exact BK262.out⟩, ⟨by (try simp only [hl271001_65]); (try simp only [hl271002_65]); (with_reducible repeat (first | refine blk_drewN ?_ _ | refine blk_drew ?_ | refine blk_alloc ?_ _)); exact BK270.out⟩, ⟨by (try simp only [hl271001_65]); (try simp only [hl271002_65]); (with_reducible repeat (first | refine blk_drewN ?_ _ | refine blk_drew ?_ | refine blk_alloc ?_ _)); exact BK279.out⟩, ⟨by (try simp only [hl271001_65]); (try simp only [hl271002_65]); (with_reducible repeat (first | refine blk_drewN ?_ _ | refine blk_drew ?_ | refine blk_alloc ?_ _)); exact BK312.out⟩, ⟨tB HB.out⟩⟩
           case rest =>
            clear HC110
            try clear c1
            try clear c2
            try clear p2
            try clear c3
            try clear c4
            try clear c5
            try clear c5b0
            try clear c6
            try clear p6
            try clear c7
            try clear c8
            try clear c9
            try clear c10
            try clear c11
            try clear c12
            try clear c13
            try clear c14
            try clear c15
            try clear c17
            try clear c19
            try clear c23
            try clear c24
            try clear c25
            try clear c30
            try clear c31
            try clear c32
            try clear c37
            try clear c38
            try clear c39
            try clear c44
            try clear c45
            try clear c46
            try clear c47
            try clear c49
            try clear c50
            try clear c53
            try clear c54
            try clear c55
            try clear c57
            try clear c58
            try clear c61
            try clear c64
            try clear p64
            try clear c72
            try clear c73
            try clear c74
            try clear c77
            try clear c77b0
            try clear c79
            try clear c80
            try clear c81
            try clear c82
            try clear c84
            try clear c85
            try clear c88
            try clear c89
            try clear c90
            try clear c92
            try clear c93
            try clear c96
            try clear c99
            try clear c99b0
            try clear c100
            try clear c101
            try clear c102
            try clear c107
            try clear c107b0
            try clear c107b1
            try clear c111
            try clear c112
            try clear c113
            try clear c118
            try clear c119
            try clear c126
            try clear c127
            try clear c128
            try clear c129
            try clear c134
            try clear c135
            try clear c136
            try clear c137
            try clear c138
            try clear c140
            try clear c141
            try clear c142
            try clear c145
            try clear c146
            try clear c147
            try clear c148
            try clear c150
            try clear c151
            try clear c152
            try clear hcz103_0
            try clear hcz103_1
            try clear hcz103_2
            try clear hcz105_0
            try clear hcz105_1
            try clear hcz105_2
            try clear hcz114_0
            try clear hcz114_1
            try clear hcz114_2
            try clear hcz116_0
            try clear hcz116_1
            try clear hcz116_2
            try clear hcz120_0
            try clear hcz120_1
            try clear hcz120_2
            try clear hcz130_0
            try clear hcz130_1
            try clear hcz130_2
            try clear hcz139_0
            try clear hcz139_1
            try clear hcz139_2
            try clear hcz143_0
            try clear hcz143_1
            try clear hcz143_2
            try clear hcz149_0
            try clear hcz149_1
            try clear hcz149_2
            try clear hcz153_0
            try clear hcz153_1
            try clear hcz153_2
            try clear hcz15_0
            try clear hcz15_1
            try clear hcz15_2
            try clear hcz17_0
            try clear hcz17_1
            try clear hcz17_2
            try clear hcz24_0
            try clear hcz24_1
            try clear hcz24_2
            try clear hcz27_0
            try clear hcz27_1
            try clear hcz27_2
            try clear hcz32_0
            try clear hcz32_1
            try clear hcz32_2
            try clear hcz40_0
            try clear hcz40_1
            try clear hcz40_2
            try clear hcz48_0
            try clear hcz48_1
            try clear hcz48_2
            try clear hcz51_0
            try clear hcz51_1
            try clear hcz51_2
            try clear hcz56_0
            try clear hcz56_1
            try clear hcz56_2
            try clear hcz59_0
            try clear hcz59_1
            try clear hcz59_2
            try clear hcz75_0
            try clear hcz75_1
            try clear hcz75_2
            try clear hcz7_0
            try clear hcz7_1
            try clear hcz7_2
            try clear hcz83_0
            try clear hcz83_1
            try clear hcz83_2
            try clear hcz86_0
            try clear hcz86_1
            try clear hcz86_2
            try clear hcz91_0
            try clear hcz91_1
            try clear hcz91_2
            try clear hcz94_0
            try clear hcz94_1
            try clear hcz94_2
            try clear hfz103_0
            try clear hfz103_1
            try clear hfz103_2
            try clear hfz105_0
            try clear hfz105_1
            try clear hfz105_2
            try clear hfz114_0
            try clear hfz114_1
            try clear hfz114_2
            try clear hfz116_0
            try clear hfz116_1
            try clear hfz116_2
            try clear hfz120_0
            try clear hfz120_1
            try clear hfz120_2
            try clear hfz130_0
            try clear hfz130_1
            try clear hfz130_2
            try clear hfz139_0
            try clear hfz139_1
            try clear hfz139_2
            try clear hfz143_0
            try clear hfz143_1
            try clear hfz143_2
            try clear hfz149_0
            try clear hfz149_1
            try clear hfz149_2
            try clear hfz153_0
            try clear hfz153_1
            try clear hfz153_2
            try clear hfz15_0
            try clear hfz15_1
            try clear hfz15_2
            try clear hfz17_0
            try clear hfz17_1
            try clear hfz17_2
            try clear hfz24_0
            try clear hfz24_1
            try clear hfz24_2
            try clear hfz27_0
            try clear hfz27_1
            try clear hfz27_2
            try clear hfz32_0
            try clear hfz32_1
            try clear hfz32_2
            try clear hfz40_0
            try clear hfz40_1
            try clear hfz40_2
            try clear hfz48_0
            try clear hfz48_1
            try clear hfz48_2
            try clear hfz51_0
            try clear hfz51_1
            try clear hfz51_2
            try clear hfz56_0
            try clear hfz56_1
            try clear hfz56_2
            try clear hfz59_0
            try clear hfz59_1
            try clear hfz59_2
            try clear hfz75_0
            try clear hfz75_1
            try clear hfz75_2
            try clear hfz7_0
            try clear hfz7_1
            try clear hfz7_2
            try clear hfz83_0
            try clear hfz83_1
            try clear hfz83_2
            try clear hfz86_0
            try clear hfz86_1
            try clear hfz86_2
            try clear hfz91_0
            try clear hfz91_1
            try clear hfz91_2
            try clear hfz94_0
            try clear hfz94_1
            try clear hfz94_2
            try clear p2
            try clear p6
            try clear p64
            obtain ⟨kq, x97_109, rfl, HA, HJ109, HO_263001, HO_263002, HO_271001, HO_271002, HO_280001, HO_280002, HO_313001, HO_313002, BK245, BK262, BK270, BK279, BK312, HB⟩ := hcut
            have hl280001_109 := (Kd.R_reads' HO_280001.out).1
            rw [hl280001_109] at HO_280001
            (try simp only [hl280001_109])
            (try simp only [hl280001_109] at BK245)
            (try simp only [hl280001_109] at BK262)
            (try simp only [hl280001_109] at BK270)
            (try simp only [hl280001_109] at BK279)
            (try simp only [hl280001_109] at BK312)
            (try simp only [hl280001_109] at HO_263001)
            (try simp only [hl280001_109] at HO_263002)
            (try simp only [hl280001_109] at HO_271001)
            (try simp only [hl280001_109] at HO_271002)
            (try simp only [hl280001_109] at HO_280002)
            (try simp only [hl280001_109] at HO_313001)
            (try simp only [hl280001_109] at HO_313002)
            have hl280002_109 := (Kd.R_reads' HO_280002.out).1
            rw [hl280002_109] at HO_280002
            (try simp only [hl280002_109])
            (try simp only [hl280002_109] at BK245)
            (try simp only [hl280002_109] at BK262)
            (try simp only [hl280002_109] at BK270)
            (try simp only [hl280002_109] at BK279)
            (try simp only [hl280002_109] at BK312)
            (try simp only [hl280002_109] at HO_263001)
            (try simp only [hl280002_109] at HO_263002)
            (try simp only [hl280002_109] at HO_271001)
            (try simp only [hl280002_109] at HO_271002)
            (try simp only [hl280002_109] at HO_280001)
            (try simp only [hl280002_109] at HO_313001)
            (try simp only [hl280002_109] at HO_313002)
            cases kq with
            | zero => exact absurd HA.out (by simp [laws_FnExactTopLoad.j2])
            | succ kj109 =>
             have H := HA.out
             clear HA
             simp only [laws_FnExactTopLoad.j2] at H
             by_cases c155 : x97_109 = true
             ·
              subst c155
              have H1 : (some false) = some r := by rw [if_pos rfl] at H; exact H
              clear H
              have H := H1
              clear H1
              obtain rfl := Option.some.inj H
              go_wp2
              go_ret
              exact ⟨by first | rfl | (simp [errW_none, errW_some] <;> rfl) | (simp [*, errW_none, errW_some] <;> rfl), tB HB.out⟩
             ·
              replace c155 := Bool.eq_false_iff.mpr c155
              subst c155
              have H1 : ((laws_heldPile.f kj109 t271 t294 t295 1).bind fun t314 => (if t314 < 0 then (some false) else (if t314 = t293 then (some true) else (some false)))) = some r := by rw [if_neg (show ¬ (false = true) by decide)] at H; exact H
              clear H
              have H := H1
              clear H1
              replace H := Option.bind_eq_some_iff.mp H
              obtain ⟨t314, A1560, H⟩ := H
              replace H : (if t314 < 0 then (some false) else (if t314 = t293 then (some true) else (some false))) = some r := H
              have A156 := Aside0.mk A1560
              clear A1560
              by_cases c157 : t314 < 0
              ·
               rw [if_pos c157] at H
               have c157b0 : decide (t314 < 0) = true := decide_eq_true c157
               clear c157
               obtain rfl := Option.some.inj H
               have hnb158 := NB279_245.out
               have hnc158 := NB245_279.out
               have hnb159 := NB279_262.out
               have hnc159 := NB262_279.out
               have hnb160 := NB279_270.out
               have hnc160 := NB270_279.out
               have hnb161 := NB279_312.out
               have hnc161 := NB312_279.out
               obtain ⟨hcz162_0, hfz162_0, hcz162_1, hfz162_1, hcz162_2, hfz162_2⟩ := cz3 BK279
               go_wp2_with (first | ((with_reducible refine gate_callee (f := 25) rfl ?_); refine goesL_ (some 100) rfl rfl Try.func25 (by kernel_rfl) rfl #[.agg #[.int .i64 t271, .slice Ao41 t294.length co41, .slice Ao42 t295.length co42], .int .i64 1] rfl tM ?_; (with_reducible refine (laws_heldPile.calls kj109 t271 _ _ t294 _ _ t295 1 t314 _ ?side1 ?side2 ?side3 ?side4 A156.out).mono ?_); (case side1 => exact tC (Kd.R_reads' HO_280001.out).2.2); (case side2 => exact (Kd.R_reads' HO_280001.out).2.1); (case side3 => exact tC (Kd.R_reads' HO_280002.out).2.2); (case side4 => exact (Kd.R_reads' HO_280002.out).2.1); rintro e w163 ⟨rfl, hb⟩; refine ⟨_, rfl, ?_⟩; replace HO_263001 := Aside0.mk (Kd.R_below (tR HO_263001.out) hb); replace HO_263002 := Aside0.mk (Kd.R_below (tR HO_263002.out) hb); replace HO_271001 := Aside0.mk (Kd.R_below (tR HO_271001.out) hb); replace HO_271002 := Aside0.mk (Kd.R_below (tR HO_271002.out) hb); replace HO_280001 := Aside0.mk (Kd.R_below (tR HO_280001.out) hb); replace HO_280002 := Aside0.mk (Kd.R_below (tR HO_280002.out) hb); replace HO_313001 := Aside0.mk (Kd.R_below (tR HO_313001.out) hb); replace HO_313002 := Aside0.mk (Kd.R_below (tR HO_313002.out) hb); replace BK245 := bkB BK245 hb; replace BK262 := bkB BK262 hb; replace BK270 := bkB BK270 hb; replace BK279 := bkB BK279 hb; replace BK312 := bkB BK312 hb; replace HB := Aside0.mk (below_step (tB HB.out) hb); (try clear hb); (try clear hb2); (try clear hk); (try clear hi)))
               go_ret
               exact ⟨by first | rfl | (simp [errW_none, errW_some] <;> rfl) | (simp [*, errW_none, errW_some] <;> rfl), tB HB.out⟩
              ·
               rw [if_neg c157] at H
               have c157b0 : decide (t314 < 0) = false := decide_eq_false c157
               clear c157
               by_cases c164 : t314 = t293
               ·
                rw [if_pos c164] at H
                have c164b0 : (t314 == t293) = true := beq_iff_eq.mpr c164
                have c164b1 : (t314 != t293) = false := bne_eq_false_iff_eq.mpr c164
                clear c164
                obtain rfl := Option.some.inj H
                have hnb165 := NB279_245.out
                have hnc165 := NB245_279.out
                have hnb166 := NB279_262.out
                have hnc166 := NB262_279.out
                have hnb167 := NB279_270.out
                have hnc167 := NB270_279.out
                have hnb168 := NB279_312.out
                have hnc168 := NB312_279.out
                obtain ⟨hcz169_0, hfz169_0, hcz169_1, hfz169_1, hcz169_2, hfz169_2⟩ := cz3 BK279
                go_wp2_with (first | ((with_reducible refine gate_callee (f := 25) rfl ?_); refine goesL_ (some 100) rfl rfl Try.func25 (by kernel_rfl) rfl #[.agg #[.int .i64 t271, .slice Ao41 t294.length co41, .slice Ao42 t295.length co42], .int .i64 1] rfl tM ?_; (with_reducible refine (laws_heldPile.calls kj109 t271 _ _ t294 _ _ t295 1 t314 _ ?side1 ?side2 ?side3 ?side4 A156.out).mono ?_); (case side1 => exact tC (Kd.R_reads' HO_280001.out).2.2); (case side2 => exact (Kd.R_reads' HO_280001.out).2.1); (case side3 => exact tC (Kd.R_reads' HO_280002.out).2.2); (case side4 => exact (Kd.R_reads' HO_280002.out).2.1); rintro e w170 ⟨rfl, hb⟩; refine ⟨_, rfl, ?_⟩; replace HO_263001 := Aside0.mk (Kd.R_below (tR HO_263001.out) hb); replace HO_263002 := Aside0.mk (Kd.R_below (tR HO_263002.out) hb); replace HO_271001 := Aside0.mk (Kd.R_below (tR HO_271001.out) hb); replace HO_271002 := Aside0.mk (Kd.R_below (tR HO_271002.out) hb); replace HO_280001 := Aside0.mk (Kd.R_below (tR HO_280001.out) hb); replace HO_280002 := Aside0.mk (Kd.R_below (tR HO_280002.out) hb); replace HO_313001 := Aside0.mk (Kd.R_below (tR HO_313001.out) hb); replace HO_313002 := Aside0.mk (Kd.R_below (tR HO_313002.out) hb); replace BK245 := bkB BK245 hb; replace BK262 := bkB BK262 hb; replace BK270 := bkB BK270 hb; replace BK279 := bkB BK279 hb; replace BK312 := bkB BK312 hb; replace HB := Aside0.mk (below_step (tB HB.out) hb); (try clear hb); (try clear hb2); (try clear hk); (try clear hi)))
                go_ret
                exact ⟨by first | rfl | (simp [errW_none, errW_some] <;> rfl) | (simp [*, errW_none, errW_some] <;> rfl), tB HB.out⟩
               ·
                rw [if_neg c164] at H
                have c164b0 : (t314 == t293) = false := beq_eq_false_iff_ne.mpr c164
                have c164b1 : (t314 != t293) = true := bne_iff_ne.mpr c164
                obtain rfl := Option.some.inj H
                have hnb171 := NB279_245.out
                have hnc171 := NB245_279.out
                have hnb172 := NB279_262.out
                have hnc172 := NB262_279.out
                have hnb173 := NB279_270.out
                have hnc173 := NB270_279.out
                have hnb174 := NB279_312.out
                have hnc174 := NB312_279.out
                obtain ⟨hcz175_0, hfz175_0, hcz175_1, hfz175_1, hcz175_2, hfz175_2⟩ := cz3 BK279
                go_wp2_with (first | ((with_reducible refine gate_callee (f := 25) rfl ?_); refine goesL_ (some 100) rfl rfl Try.func25 (by kernel_rfl) rfl #[.agg #[.int .i64 t271, .slice Ao41 t294.length co41, .slice Ao42 t295.length co42], .int .i64 1] rfl tM ?_; (with_reducible refine (laws_heldPile.calls kj109 t271 _ _ t294 _ _ t295 1 t314 _ ?side1 ?side2 ?side3 ?side4 A156.out).mono ?_); (case side1 => exact tC (Kd.R_reads' HO_280001.out).2.2); (case side2 => exact (Kd.R_reads' HO_280001.out).2.1); (case side3 => exact tC (Kd.R_reads' HO_280002.out).2.2); (case side4 => exact (Kd.R_reads' HO_280002.out).2.1); rintro e w176 ⟨rfl, hb⟩; refine ⟨_, rfl, ?_⟩; replace HO_263001 := Aside0.mk (Kd.R_below (tR HO_263001.out) hb); replace HO_263002 := Aside0.mk (Kd.R_below (tR HO_263002.out) hb); replace HO_271001 := Aside0.mk (Kd.R_below (tR HO_271001.out) hb); replace HO_271002 := Aside0.mk (Kd.R_below (tR HO_271002.out) hb); replace HO_280001 := Aside0.mk (Kd.R_below (tR HO_280001.out) hb); replace HO_280002 := Aside0.mk (Kd.R_below (tR HO_280002.out) hb); replace HO_313001 := Aside0.mk (Kd.R_below (tR HO_313001.out) hb); replace HO_313002 := Aside0.mk (Kd.R_below (tR HO_313002.out) hb); replace BK245 := bkB BK245 hb; replace BK262 := bkB BK262 hb; replace BK270 := bkB BK270 hb; replace BK279 := bkB BK279 hb; replace BK312 := bkB BK312 hb; replace HB := Aside0.mk (below_step (tB HB.out) hb); (try clear hb); (try clear hb2); (try clear hk); (try clear hi)))
                go_ret
                exact ⟨by first | rfl | (simp [errW_none, errW_some] <;> rfl) | (simp [*, errW_none, errW_some] <;> rfl), tB HB.out⟩
          ·
           rw [if_neg c107] at H
           have c107b0 : (t296 == t293) = false := beq_eq_false_iff_ne.mpr c107
           have c107b1 : (t296 != t293) = true := bne_iff_ne.mpr c107
           obtain rfl := Option.some.inj H
           have hnb177 := NB279_245.out
           have hnc177 := NB245_279.out
           have hnb178 := NB279_262.out
           have hnc178 := NB262_279.out
           have hnb179 := NB279_270.out
           have hnc179 := NB270_279.out
           obtain ⟨hcz180_0, hfz180_0, hcz180_1, hfz180_1, hcz180_2, hfz180_2⟩ := cz3 BK279
           go_wp2_with (first | ((with_reducible refine gate_callee (f := 24) rfl ?_); refine goesL_ (some 72) rfl rfl Try.func24 (by kernel_rfl) rfl #[.agg #[.int .i64 t271, .slice Ao41 t272.length co41, .slice Ao42 t275.length co42], .int .i64 1] rfl tM ?_; (with_reducible refine (laws_markPile.calls kj65 t271 (fun k_ => some k_ = (.slice Ao41 t272.length co41 : Value).ownBlock) (.slice Ao41 t272.length co41) t272 (fun k_ => some k_ = (.slice Ao42 t275.length co42 : Value).ownBlock) (.slice Ao42 t275.length co42) t275 1 t293 t294 t295 w _ ?side1 ?side2 ?side3 ?side4 ?side5 A97.out).mono ?_); (case side1 => repeat (first | (with_reducible first | exact HB.out | apply below_alloc | apply pw_below_drewN | apply below_drew1 | refine below_set ?_ GE245.out | refine below_set ?_ GE262.out | refine below_set ?_ GE270.out | refine below_set ?_ GE279.out) | exact HB.out)); (case side2 => exact Kd.R_tight rfl HO_280001.out); (case side3 => exact fun k_ e_ => (HO_280001.out.1 k_ e_.symm).2.2.2.2); (case side4 => exact Kd.R_tight rfl HO_280002.out); (case side5 => exact fun k_ e_ => (HO_280002.out.1 k_ e_.symm).2.2.2.2); rintro e w181 ⟨rfl, hy0, hy1, hb, hkp⟩; refine ⟨_, rfl, ?_⟩; replace HO_263001 := Aside0.mk (Kd.R_mono (ok' := fun k_ => some k_ ≠ (.slice Ao26 t258.length co26 : Value).ownBlock ∧ some k_ ≠ (.slice Ao33 t290.length co33 : Value).ownBlock ∧ some k_ ≠ (.slice Ao34 t291.length co34 : Value).ownBlock ∧ some k_ ≠ (.slice Ao41 t272.length co41 : Value).ownBlock ∧ some k_ ≠ (.slice Ao42 t275.length co42 : Value).ownBlock) (Kd.R_keptB (HO_263001.out) hkp (fun k_ hk_ hs_ => Or.elim hs_ (fun e_ => (hk_.2.2.2.1) e_) (fun e_ => (hk_.2.2.2.2) e_))) (fun k_ hk_ => ⟨hk_.1.1, hk_.1.2.1, hk_.1.2.2.1, hk_.1.2.2.2.1, hk_.1.2.2.2.2⟩)); replace HO_263002 := Aside0.mk (Kd.R_mono (ok' := fun k_ => some k_ ≠ (.slice Ao25 t255.length co25 : Value).ownBlock ∧ some k_ ≠ (.slice Ao33 t290.length co33 : Value).ownBlock ∧ some k_ ≠ (.slice Ao34 t291.length co34 : Value).ownBlock ∧ some k_ ≠ (.slice Ao41 t272.length co41 : Value).ownBlock ∧ some k_ ≠ (.slice Ao42 t275.length co42 : Value).ownBlock) (Kd.R_keptB (HO_263002.out) hkp (fun k_ hk_ hs_ => Or.elim hs_ (fun e_ => (hk_.2.2.2.1) e_) (fun e_ => (hk_.2.2.2.2) e_))) (fun k_ hk_ => ⟨hk_.1.1, hk_.1.2.1, hk_.1.2.2.1, hk_.1.2.2.2.1, hk_.1.2.2.2.2⟩)); replace HO_271001 := Aside0.mk (Kd.R_mono (ok' := fun k_ => some k_ ≠ (.slice Ao25 t255.length co25 : Value).ownBlock ∧ some k_ ≠ (.slice Ao26 t258.length co26 : Value).ownBlock ∧ some k_ ≠ (.slice Ao34 t291.length co34 : Value).ownBlock ∧ some k_ ≠ (.slice Ao41 t272.length co41 : Value).ownBlock ∧ some k_ ≠ (.slice Ao42 t275.length co42 : Value).ownBlock) (Kd.R_keptB (HO_271001.out) hkp (fun k_ hk_ hs_ => Or.elim hs_ (fun e_ => (hk_.2.2.2.1) e_) (fun e_ => (hk_.2.2.2.2) e_))) (fun k_ hk_ => ⟨hk_.1.1, hk_.1.2.1, hk_.1.2.2.1, hk_.1.2.2.2.1, hk_.1.2.2.2.2⟩)); replace HO_271002 := Aside0.mk (Kd.R_mono (ok' := fun k_ => some k_ ≠ (.slice Ao25 t255.length co25 : Value).ownBlock ∧ some k_ ≠ (.slice Ao26 t258.length co26 : Value).ownBlock ∧ some k_ ≠ (.slice Ao33 t290.length co33 : Value).ownBlock ∧ some k_ ≠ (.slice Ao41 t272.length co41 : Value).ownBlock ∧ some k_ ≠ (.slice Ao42 t275.length co42 : Value).ownBlock) (Kd.R_keptB (HO_271002.out) hkp (fun k_ hk_ hs_ => Or.elim hs_ (fun e_ => (hk_.2.2.2.1) e_) (fun e_ => (hk_.2.2.2.2) e_))) (fun k_ hk_ => ⟨hk_.1.1, hk_.1.2.1, hk_.1.2.2.1, hk_.1.2.2.2.1, hk_.1.2.2.2.2⟩)); replace BK245 := Aside0.mk (blk_kept (tK BK245.out) hkp (fun hs_ => Or.elim hs_ (fun e_ => (fun e_ => (Kd.R_ne HO_280001.out BK245.out (by decide)) e_) e_) (fun e_ => (fun e_ => (Kd.R_ne HO_280002.out BK245.out (by decide)) e_) e_))); replace BK262 := Aside0.mk (blk_kept (tK BK262.out) hkp (fun hs_ => Or.elim hs_ (fun e_ => (fun e_ => (Kd.R_ne HO_280001.out BK262.out (by decide)) e_) e_) (fun e_ => (fun e_ => (Kd.R_ne HO_280002.out BK262.out (by decide)) e_) e_))); replace BK270 := Aside0.mk (blk_kept (tK BK270.out) hkp (fun hs_ => Or.elim hs_ (fun e_ => (fun e_ => (Kd.R_ne HO_280001.out BK270.out (by decide)) e_) e_) (fun e_ => (fun e_ => (Kd.R_ne HO_280002.out BK270.out (by decide)) e_) e_))); replace BK279 := Aside0.mk (blk_kept (tK BK279.out) hkp (fun hs_ => Or.elim hs_ (fun e_ => (fun e_ => (Kd.R_ne HO_280001.out BK279.out (by decide)) e_) e_) (fun e_ => (fun e_ => (Kd.R_ne HO_280002.out BK279.out (by decide)) e_) e_))); replace HO_280001 := Aside0.mk (Kd.R_reok rfl hy0 (fun k_ e_ => HO_280001.out.1 k_ e_)); replace HO_280002 := Aside0.mk (Kd.R_reok rfl hy1 (fun k_ e_ => HO_280002.out.1 k_ e_)); replace HB := Aside0.mk (hb); (try clear hb); (try clear hkp); (try clear hy0); (try clear hy1); obtain ⟨hcz182_0, hfz182_0, hcz182_1, hfz182_1, hcz182_2, hfz182_2⟩ := cz3 BK279) | ((with_reducible refine gate_callee (f := 25) rfl ?_); refine goesL_ (some 75) rfl rfl Try.func25 (by kernel_rfl) rfl #[.agg #[.int .i64 t271, .slice Ao41 t294.length co41, .slice Ao42 t295.length co42], .int .i64 1] rfl (by (try simp only [List.map_toArray, List.map_cons, List.map_nil]); first | done | (rw [show t294.length = t272.length from (Kd.R_reads' HO_280001.out).1.symm, show t295.length = t275.length from (Kd.R_reads' HO_280002.out).1.symm] <;> rfl) | rfl | (simp only [List.length_drop, List.length_take]; rfl)) ?_; (with_reducible refine (laws_heldPile.calls kj65 t271 _ _ t294 _ _ t295 1 t296 _ ?side1 ?side2 ?side3 ?side4 A98.out).mono ?_); (case side1 => exact tC (Kd.R_reads' HO_280001.out).2.2); (case side2 => rw [show t294.length = t272.length from (Kd.R_reads' HO_280001.out).1.symm]; exact (Kd.R_reads' HO_280001.out).2.1); (case side3 => exact tC (Kd.R_reads' HO_280002.out).2.2); (case side4 => rw [show t295.length = t275.length from (Kd.R_reads' HO_280002.out).1.symm]; exact (Kd.R_reads' HO_280002.out).2.1); rintro e w183 ⟨rfl, hb⟩; refine ⟨_, rfl, ?_⟩; replace HO_263001 := Aside0.mk (Kd.R_below (tR HO_263001.out) hb); replace HO_263002 := Aside0.mk (Kd.R_below (tR HO_263002.out) hb); replace HO_271001 := Aside0.mk (Kd.R_below (tR HO_271001.out) hb); replace HO_271002 := Aside0.mk (Kd.R_below (tR HO_271002.out) hb); replace HO_280001 := Aside0.mk (Kd.R_below (tR HO_280001.out) hb); replace HO_280002 := Aside0.mk (Kd.R_below (tR HO_280002.out) hb); replace BK245 := bkB BK245 hb; replace BK262 := bkB BK262 hb; replace BK270 := bkB BK270 hb; replace BK279 := bkB BK279 hb; replace HB := Aside0.mk (below_step (tB HB.out) hb); (try clear hb); (try clear hb2); (try clear hk); (try clear hi)))
           go_ret
           exact ⟨by first | rfl | (simp [errW_none, errW_some] <;> rfl) | (simp [*, errW_none, errW_some] <;> rfl), tB HB.out⟩
     ·
      replace c64 := Bool.eq_false_iff.mpr c64
      subst c64
      have H1 : (some false) = some r := by rw [if_neg (show ¬ (false = true) by decide)] at H; exact H
      clear H
      have H := H1
      clear H1
      obtain rfl := Option.some.inj H
      try go_wp2
      replace HO_263001 := Aside0.mk (Kd.R_drew HO_263001.out)
      replace HO_263002 := Aside0.mk (Kd.R_drew HO_263002.out)
      replace HO_271001 := Aside0.mk (Kd.R_drew HO_271001.out)
      replace HO_271002 := Aside0.mk (Kd.R_drew HO_271002.out)
      replace HO_280001 := Aside0.mk (Kd.R_drew HO_280001.out)
      replace HO_280002 := Aside0.mk (Kd.R_drew HO_280002.out)
      replace BK245 := Aside0.mk (blk_drew BK245.out)
      replace BK262 := Aside0.mk (blk_drew BK262.out)
      replace BK270 := Aside0.mk (blk_drew BK270.out)
      replace BK279 := Aside0.mk (blk_drew BK279.out)
      replace HB := Aside0.mk (below_drew1 HB.out)
      refine start_ (n := 5) (S := fun w' => w'.cell? ⟨gb270, 0, none⟩ = some (.int .i64 t263) ∧ w'.cell? ⟨gb270, 1, none⟩ = some (.slice Ao33 t264.length co33) ∧ w'.cell? ⟨gb270, 2, none⟩ = some (.slice Ao34 t267.length co34) ∧ w'.cell? ⟨gb245, 0, none⟩ = some (.int .i64 a0_0) ∧ w'.cell? ⟨gb245, 1, none⟩ = some (.slice A0_1 l0_1.length c0_1) ∧ w'.cell? ⟨gb245, 2, none⟩ = some (.slice A0_2 l0_2.length c0_2)) (ds := []) #[false, false, false, false, false] (by kernel_rfl) rfl rfl ⟨(blk_cell BK270.out 0).trans rfl, (blk_cell BK270.out 1).trans rfl, (blk_cell BK270.out 2).trans rfl, (blk_cell BK245.out 0).trans rfl, (blk_cell BK245.out 1).trans rfl, (blk_cell BK245.out 2).trans rfl⟩ (fun hHeld => ?_)
      generalize wc.drew = w184 at HO_263001 HO_263002 HO_271001 HO_271002 HO_280001 HO_280002 BK245 BK262 BK270 BK279 HB hHeld ⊢
      refine take_ (i := 0) (N := some 49) (v := ?_) (a' := ?_) #[true, false, false, false, false] rfl rfl (by kernel_rfl) (fun _ _ _ h => h) (Or.inl ⟨by rfl, ?_⟩) hHeld ?_ ?_
      rotate_left
      ·
       rintro w' ⟨s0, s1, s2, s3, s4, s5⟩
       go_simp
       with_reducible rfl
      rotate_left
      ·
       simp only [Act.put, List.setIfInBounds_toArray, List.set_cons_zero, List.set_cons_succ, i64_w, i32_w]
       rfl
      refine take_ (i := 1) (N := some 50) (v := ?_) (a' := ?_) #[true, true, false, false, false] rfl rfl (by kernel_rfl) (fun _ _ _ h => h) (Or.inl ⟨by rfl, ?_⟩) hHeld ?_ ?_
      rotate_left
      ·
       rintro w' ⟨s0, s1, s2, s3, s4, s5⟩
       go_simp
       with_reducible rfl
      rotate_left
      ·
       simp only [Act.put, List.setIfInBounds_toArray, List.set_cons_zero, List.set_cons_succ, i64_w, i32_w]
       rfl
      refine one_ (i := 2) (N := some 51) #[true, true, true, false, false] rfl rfl (by kernel_rfl) (by decide) (fun K hK => ?_)
      refine goes_ Try.func17 (by kernel_rfl) rfl #[.agg #[.int .i64 a0_0, .slice A0_1 l0_1.length c0_1, .slice A0_2 l0_2.length c0_2]] (by rfl) rfl rfl tM ?_
      with_reducible refine (laws_toPile.calls kj12 a0_0 _ _ l0_1 _ _ l0_2 t281 t282 t285 _ ?side1 ?side2 ?side3 ?side4 A62.out).mono ?_
      (case side1 => exact tC (Kd.C_below HR0_1.out HB.out))
      (case side2 => exact HC0_1.out)
      (case side3 => exact tC (Kd.C_below HR0_2.out HB.out))
      (case side4 => exact HC0_2.out)
      rintro e w185 ⟨v283, v286, rfl, ho0, ho1, hb⟩
      refine ⟨_, rfl, ?_⟩
      have HO284 := Aside0.mk (Kd.R_lower (Kd.R_new' (Kd.R_new' (Kd.R_new' (Kd.R_new' (Kd.R_new' (Kd.R_new' ho0 (Kd.R_lt (tR HO_263001.out))) (Kd.R_lt (tR HO_263002.out))) (Kd.R_lt (tR HO_271001.out))) (Kd.R_lt (tR HO_271002.out))) (Kd.R_lt (tR HO_280001.out))) (Kd.R_lt (tR HO_280002.out))) (below_size (tB HB.out)))
      have HO287 := Aside0.mk (Kd.R_lower (Kd.R_new' (Kd.R_new' (Kd.R_new' (Kd.R_new' (Kd.R_new' (Kd.R_new' ho1 (Kd.R_lt (tR HO_263001.out))) (Kd.R_lt (tR HO_263002.out))) (Kd.R_lt (tR HO_271001.out))) (Kd.R_lt (tR HO_271002.out))) (Kd.R_lt (tR HO_280001.out))) (Kd.R_lt (tR HO_280002.out))) (below_size (tB HB.out)))
      replace HO_263001 := Aside0.mk (Kd.R_mono (Kd.R_told (Kd.R_told (Kd.R_old (tR HO_263001.out) hb) (Kd.R_base ho0)) (Kd.R_base ho1)) (fun _ h_ => h_.1))
      replace HO_263002 := Aside0.mk (Kd.R_mono (Kd.R_told (Kd.R_told (Kd.R_old (tR HO_263002.out) hb) (Kd.R_base ho0)) (Kd.R_base ho1)) (fun _ h_ => h_.1))
      replace HO_271001 := Aside0.mk (Kd.R_mono (Kd.R_told (Kd.R_told (Kd.R_old (tR HO_271001.out) hb) (Kd.R_base ho0)) (Kd.R_base ho1)) (fun _ h_ => h_.1))
      replace HO_271002 := Aside0.mk (Kd.R_mono (Kd.R_told (Kd.R_told (Kd.R_old (tR HO_271002.out) hb) (Kd.R_base ho0)) (Kd.R_base ho1)) (fun _ h_ => h_.1))
      replace HO_280001 := Aside0.mk (Kd.R_mono (Kd.R_told (Kd.R_told (Kd.R_old (tR HO_280001.out) hb) (Kd.R_base ho0)) (Kd.R_base ho1)) (fun _ h_ => h_.1))
      replace HO_280002 := Aside0.mk (Kd.R_mono (Kd.R_told (Kd.R_told (Kd.R_old (tR HO_280002.out) hb) (Kd.R_base ho0)) (Kd.R_base ho1)) (fun _ h_ => h_.1))
      replace BK245 := bkB BK245 hb
      replace BK262 := bkB BK262 hb
      replace BK270 := bkB BK270 hb
      replace BK279 := bkB BK279 hb
      replace HB := Aside0.mk (below_step (tB HB.out) hb)
      (try clear hb)
      (try clear hb2)
      (try clear hk)
      (try clear hi)
      (try clear ho0)
      (try clear ho1)
      obtain ⟨Ao186, co186, eo186⟩ := Kd.R_slice HO284.out
      (first | subst eo186 | (injection eo186 with f1_ f2_ f3_; have f4_ := f1_.symm; have f5_ := f3_.symm; clear f1_ f2_ f3_; subst f4_; subst f5_))
      obtain ⟨Ao187, co187, eo187⟩ := Kd.R_slice HO287.out
      (first | subst eo187 | (injection eo187 with f1_ f2_ f3_; have f4_ := f1_.symm; have f5_ := f3_.symm; clear f1_ f2_ f3_; subst f4_; subst f5_))
      refine hK.out _ _ ⟨(blk_cell BK270.out 0).trans rfl, (blk_cell BK270.out 1).trans rfl, (blk_cell BK270.out 2).trans rfl, (blk_cell BK245.out 0).trans rfl, (blk_cell BK245.out 1).trans rfl, (blk_cell BK245.out 2).trans rfl⟩ (fun hHeld => ?_)
      clear hK K
      refine norm_ (a' := ?_) ?_ ?_
      rotate_left
      ·
       show Act.put _ (some 51) _ = _
       simp only [Act.put, List.setIfInBounds_toArray, List.set_cons_zero, List.set_cons_succ, i64_w, i32_w]
       rfl
      refine one_ (i := 3) (N := some 52) #[true, true, true, true, false] rfl rfl (by kernel_rfl) (by decide) (fun K hK => ?_)
      refine goes_ Try.func19 (by kernel_rfl) rfl #[.agg #[.int .i64 t263, .slice Ao33 t264.length co33, .slice Ao34 t267.length co34], .agg #[.int .i64 t281, .slice Ao186 t282.length co186, .slice Ao187 t285.length co187]] (by rfl) rfl rfl tM ?_
      with_reducible refine (laws_eqPile.calls kj12 t263 _ _ t264 _ _ t267 t281 _ _ t282 _ _ t285 false _ ?side1 ?side2 ?side3 ?side4 ?side5 ?side6 ?side7 ?side8 A63.out).mono ?_
      (case side1 => exact tC (Kd.R_reads' HO_271001.out).2.2)
      (case side2 => exact (Kd.R_reads' HO_271001.out).2.1)
      (case side3 => exact tC (Kd.R_reads' HO_271002.out).2.2)
      (case side4 => exact (Kd.R_reads' HO_271002.out).2.1)
      (case side5 => exact tC (Kd.R_reads' HO284.out).2.2)
      (case side6 => exact (Kd.R_reads' HO284.out).2.1)
      (case side7 => exact tC (Kd.R_reads' HO287.out).2.2)
      (case side8 => exact (Kd.R_reads' HO287.out).2.1)
      rintro e w188 ⟨rfl, hb⟩
      refine ⟨_, rfl, ?_⟩
      replace HO_263001 := Aside0.mk (Kd.R_below (tR HO_263001.out) hb)
      replace HO_263002 := Aside0.mk (Kd.R_below (tR HO_263002.out) hb)
      replace HO_271001 := Aside0.mk (Kd.R_below (tR HO_271001.out) hb)
      replace HO_271002 := Aside0.mk (Kd.R_below (tR HO_271002.out) hb)
      replace HO_280001 := Aside0.mk (Kd.R_below (tR HO_280001.out) hb)
      replace HO_280002 := Aside0.mk (Kd.R_below (tR HO_280002.out) hb)
      replace HO284 := Aside0.mk (Kd.R_below (tR HO284.out) hb)
      replace HO287 := Aside0.mk (Kd.R_below (tR HO287.out) hb)
      replace BK245 := bkB BK245 hb
      replace BK262 := bkB BK262 hb
      replace BK270 := bkB BK270 hb
      replace BK279 := bkB BK279 hb
      replace HB := Aside0.mk (below_step (tB HB.out) hb)
      (try clear hb)
      (try clear hb2)
      (try clear hk)
      (try clear hi)
      refine hK.out _ _ ⟨(blk_cell BK270.out 0).trans rfl, (blk_cell BK270.out 1).trans rfl, (blk_cell BK270.out 2).trans rfl, (blk_cell BK245.out 0).trans rfl, (blk_cell BK245.out 1).trans rfl, (blk_cell BK245.out 2).trans rfl⟩ (fun hHeld => ?_)
      clear hK K
      refine norm_ (a' := ?_) ?_ ?_
      rotate_left
      ·
       show Act.put _ (some 52) _ = _
       simp only [Act.put, List.setIfInBounds_toArray, List.set_cons_zero, List.set_cons_succ, i64_w, i32_w]
       rfl
      refine pure_ (i := 4) (N := some 53) (v := ?_) (a' := ?_) #[true, true, true, true, true] rfl rfl (by kernel_rfl) (fun _ _ _ h => h) (Or.inl ⟨by rfl, ?_⟩) ?_ ?_
      rotate_left
      ·
       intro w'
       go_simp
       with_reducible rfl
      rotate_left
      ·
       simp only [Act.put, List.setIfInBounds_toArray, List.set_cons_zero, List.set_cons_succ, i64_w, i32_w]
       rfl
      refine done_ (by kernel_rfl) ?_
      try go_wp2
      go_ret
      exact ⟨by first | rfl | (simp [errW_none, errW_some] <;> rfl) | (simp [*, errW_none, errW_some] <;> rfl), tB HB.out⟩

end Go.Proofs.Ytigijeedekjeiaa.PFnExactTopLoad

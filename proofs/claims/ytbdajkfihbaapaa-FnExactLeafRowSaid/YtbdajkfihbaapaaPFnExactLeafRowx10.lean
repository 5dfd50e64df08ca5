/- Printed by the program print2.py over the translation: each function as a Lean function, and the proof that the call comes to its answer. -/
import Derived.Test.YtbdajkfihbaapaaPFnExactLeafRowx0
import Derived.Test.YtbdajkfihbaapaaPFnExactLeafRowx1
import Derived.Test.YtbdajkfihbaapaaPFnExactLeafRowx2
import Derived.Test.YtbdajkfihbaapaaPFnExactLeafRowx4
import Derived.Test.YtbdajkfihbaapaaPFnExactLeafRowx8
import Derived.Test.YtbdajkfihbaapaaPFnExactLeafRowx9
namespace Go.Proofs.Ytbdajkfihbaapaa.PFnExactLeafRow
open Go.RowKit Go.Proofs.YtbdajkfihbaapaaW.PrintWords Go.Proofs.YtbdajkfihbaapaaW.PrintLast Go.Proofs.YtbdajkfihbaapaaW.PrintMore
attribute [local go_sem] max2_int min2_int max_two min_two max_three min_three max_four min_four   -- for this text's walks alone
set_option linter.unusedVariables false
set_option linter.unusedSimpArgs false

/-! ### laws_FnExactLeafRow: function 11 -/
mutual
def laws_FnExactLeafRow.j0 : Nat → Int → List (S67) → Bool → List (S67) → Bool → Bool → List (S58) → List (S58) → List (S58) → List (S58) → Option (Bool)
 | 0, _, _, _, _, _, _, _, _, _, _ => none
 | k + 1, x1, x6, x7, x9, x10, x44, x271000, x271001, x289000, x289001 => if x44 = true then (some false) else ((laws_toMobile.f k x271000 x271001).bind fun bt294 => ((laws_eqMobile.f k x289000 x289001 bt294.1 bt294.2).bind fun t300 => (if t300 = true then ((laws_markMobile.f k x289000 x289001 1).bind fun bt301 => (if bt301.1 < 0 then (laws_FnExactLeafRow.j1 k x1 x6 x7 x9 true x271000 x271001) else ((laws_eqLoadS.f k x9 x6).bind fun t304 => (if t304 = true then (laws_FnExactLeafRow.j1 k x1 x6 x7 x9 (x10 != x7) x271000 x271001) else (laws_FnExactLeafRow.j1 k x1 x6 x7 x9 true x271000 x271001))))) else (some false))))
def laws_FnExactLeafRow.j1 : Nat → Int → List (S67) → Bool → List (S67) → Bool → List (S58) → List (S58) → Option (Bool)
 | 0, _, _, _, _, _, _, _ => none
 | k + 1, x1, x6, x7, x9, x65, x271000, x271001 => if x65 = true then (some false) else ((laws_markLoadS.f k x9 1).bind fun bt305 => ((laws_heldLoadS.f k bt305.2 1).bind fun t307 => (if t307 < 0 then (some false) else (if t307 = bt305.1 then ((laws_toMobile.f k x271000 x271001).bind fun bt308 => ((impl_LeafRow.f k bt308.1 bt308.2 x1).bind fun bt314 => ((laws_eqLoadS.f k bt314.1 x6).bind fun t318 => (if t318 = true then (laws_FnExactLeafRow.j2 k bt305.2 bt305.1 (bt314.2 != x7)) else (laws_FnExactLeafRow.j2 k bt305.2 bt305.1 true))))) else (some false)))))
def laws_FnExactLeafRow.j2 : Nat → List (S67) → Int → Bool → Option (Bool)
 | 0, _, _, _ => none
 | k + 1, x9, x12, x92 => if x92 = true then (some false) else ((laws_heldLoadS.f k x9 1).bind fun t319 => (if t319 < 0 then (some false) else (if t319 = x12 then (some true) else (some false))))
end
def laws_FnExactLeafRow.f (k : Nat) (l0_0 : List (S58)) (l0_1 : List (S58)) (a1 : Int) : Option (Bool) := (laws_szMobile.f l0_0 l0_1 1048576).bind fun t271 => (if t271 < 0 then (some true) else ((laws_toMobile.f k l0_0 l0_1).bind fun bt272 => ((spec_LeafRow.f k bt272.1 bt272.2 a1).bind fun bt278 => ((laws_toMobile.f k l0_0 l0_1).bind fun bt282 => ((impl_LeafRow.f k bt282.1 bt282.2 a1).bind fun bt289 => ((laws_eqLoadS.f k bt289.1 bt278.1).bind fun t293 => (if t293 = true then (laws_FnExactLeafRow.j0 k a1 bt278.1 bt278.2 bt289.1 bt289.2 (bt289.2 != bt278.2) l0_0 l0_1 bt282.1 bt282.2) else (laws_FnExactLeafRow.j0 k a1 bt278.1 bt278.2 bt289.1 bt289.2 true l0_0 l0_1 bt282.1 bt282.2))))))))
theorem laws_FnExactLeafRow.mono_l : ∀ k, (∀ y0 y1 y2 y3 y4 y5 y6 y7 y8 y9, LeO (laws_FnExactLeafRow.j0 k y0 y1 y2 y3 y4 y5 y6 y7 y8 y9) (laws_FnExactLeafRow.j0 (k + 1) y0 y1 y2 y3 y4 y5 y6 y7 y8 y9)) ∧ (∀ y0 y1 y2 y3 y4 y5 y6, LeO (laws_FnExactLeafRow.j1 k y0 y1 y2 y3 y4 y5 y6) (laws_FnExactLeafRow.j1 (k + 1) y0 y1 y2 y3 y4 y5 y6)) ∧ (∀ y0 y1 y2, LeO (laws_FnExactLeafRow.j2 k y0 y1 y2) (laws_FnExactLeafRow.j2 (k + 1) y0 y1 y2))
 | 0 => ⟨fun _ _ _ _ _ _ _ _ _ _ r h => by simp [laws_FnExactLeafRow.j0] at h, fun _ _ _ _ _ _ _ r h => by simp [laws_FnExactLeafRow.j1] at h, fun _ _ _ r h => by simp [laws_FnExactLeafRow.j2] at h⟩
 | k + 1 => by
  obtain ⟨ih0, ih1, ih2⟩ := laws_FnExactLeafRow.mono_l k
  refine ⟨?_, ?_, ?_⟩
  ·
   intro y0 y1 y2 y3 y4 y5 y6 y7 y8 y9
   unfold laws_FnExactLeafRow.j0
   repeat' first
   | (with_reducible exact ih0 _ _ _ _ _ _ _ _ _ _)
   | (with_reducible exact ih1 _ _ _ _ _ _ _)
   | (with_reducible exact ih2 _ _ _)
   | (with_reducible exact impl_LeafRow.mono _ _ _ _)
   | (with_reducible exact laws_eqLoadS.mono _ _ _)
   | (with_reducible exact laws_eqMobile.mono _ _ _ _ _)
   | (with_reducible exact laws_heldLoadS.mono _ _ _)
   | (with_reducible exact laws_markLoadS.mono _ _ _)
   | (with_reducible exact laws_markMobile.mono _ _ _ _)
   | (with_reducible exact laws_toMobile.mono _ _ _)
   | (with_reducible exact spec_LeafRow.mono _ _ _ _)
   | (with_reducible exact LeO.refl _)
   | (with_reducible exact LeO.none _)
   | (with_reducible refine LeO.ite ?_ ?_)
   | (with_reducible refine LeO.bind ?_ (fun _ => ?_))
   | exact ih0 _ _ _ _ _ _ _ _ _ _
   | exact ih1 _ _ _ _ _ _ _
   | exact ih2 _ _ _
   | exact impl_LeafRow.mono _ _ _ _
   | exact laws_eqLoadS.mono _ _ _
   | exact laws_eqMobile.mono _ _ _ _ _
   | exact laws_heldLoadS.mono _ _ _
   | exact laws_markLoadS.mono _ _ _
   | exact laws_markMobile.mono _ _ _ _
   | exact laws_toMobile.mono _ _ _
   | exact spec_LeafRow.mono _ _ _ _
   | exact LeO.none _
   | refine LeO.ite ?_ ?_
   | refine LeO.bind ?_ (fun _ => ?_)
  ·
   intro y0 y1 y2 y3 y4 y5 y6
   unfold laws_FnExactLeafRow.j1
   repeat' first
   | (with_reducible exact ih0 _ _ _ _ _ _ _ _ _ _)
   | (with_reducible exact ih1 _ _ _ _ _ _ _)
   | (with_reducible exact ih2 _ _ _)
   | (with_reducible exact impl_LeafRow.mono _ _ _ _)
   | (with_reducible exact laws_eqLoadS.mono _ _ _)
   | (with_reducible exact laws_eqMobile.mono _ _ _ _ _)
   | (with_reducible exact laws_heldLoadS.mono _ _ _)
   | (with_reducible exact laws_markLoadS.mono _ _ _)
   | (with_reducible exact laws_markMobile.mono _ _ _ _)
   | (with_reducible exact laws_toMobile.mono _ _ _)
   | (with_reducible exact spec_LeafRow.mono _ _ _ _)
   | (with_reducible exact LeO.refl _)
   | (with_reducible exact LeO.none _)
   | (with_reducible refine LeO.ite ?_ ?_)
   | (with_reducible refine LeO.bind ?_ (fun _ => ?_))
   | exact ih0 _ _ _ _ _ _ _ _ _ _
   | exact ih1 _ _ _ _ _ _ _
   | exact ih2 _ _ _
   | exact impl_LeafRow.mono _ _ _ _
   | exact laws_eqLoadS.mono _ _ _
   | exact laws_eqMobile.mono _ _ _ _ _
   | exact laws_heldLoadS.mono _ _ _
   | exact laws_markLoadS.mono _ _ _
   | exact laws_markMobile.mono _ _ _ _
   | exact laws_toMobile.mono _ _ _
   | exact spec_LeafRow.mono _ _ _ _
   | exact LeO.none _
   | refine LeO.ite ?_ ?_
   | refine LeO.bind ?_ (fun _ => ?_)
  ·
   intro y0 y1 y2
   unfold laws_FnExactLeafRow.j2
   repeat' first
   | (with_reducible exact ih0 _ _ _ _ _ _ _ _ _ _)
   | (with_reducible exact ih1 _ _ _ _ _ _ _)
   | (with_reducible exact ih2 _ _ _)
   | (with_reducible exact impl_LeafRow.mono _ _ _ _)
   | (with_reducible exact laws_eqLoadS.mono _ _ _)
   | (with_reducible exact laws_eqMobile.mono _ _ _ _ _)
   | (with_reducible exact laws_heldLoadS.mono _ _ _)
   | (with_reducible exact laws_markLoadS.mono _ _ _)
   | (with_reducible exact laws_markMobile.mono _ _ _ _)
   | (with_reducible exact laws_toMobile.mono _ _ _)
   | (with_reducible exact spec_LeafRow.mono _ _ _ _)
   | (with_reducible exact LeO.refl _)
   | (with_reducible exact LeO.none _)
   | (with_reducible refine LeO.ite ?_ ?_)
   | (with_reducible refine LeO.bind ?_ (fun _ => ?_))
   | exact ih0 _ _ _ _ _ _ _ _ _ _
   | exact ih1 _ _ _ _ _ _ _
   | exact ih2 _ _ _
   | exact impl_LeafRow.mono _ _ _ _
   | exact laws_eqLoadS.mono _ _ _
   | exact laws_eqMobile.mono _ _ _ _ _
   | exact laws_heldLoadS.mono _ _ _
   | exact laws_markLoadS.mono _ _ _
   | exact laws_markMobile.mono _ _ _ _
   | exact laws_toMobile.mono _ _ _
   | exact spec_LeafRow.mono _ _ _ _
   | exact LeO.none _
   | refine LeO.ite ?_ ?_
   | refine LeO.bind ?_ (fun _ => ?_)
theorem laws_FnExactLeafRow.mono : ∀ a0 a1 a2 k, LeO (laws_FnExactLeafRow.f k a0 a1 a2) (laws_FnExactLeafRow.f (k + 1) a0 a1 a2) := by
 intro a0 a1 a2 k
 obtain ⟨ih0, ih1, ih2⟩ := laws_FnExactLeafRow.mono_l k
 unfold laws_FnExactLeafRow.f
 repeat' first
   | (with_reducible exact ih0 _ _ _ _ _ _ _ _ _ _)
   | (with_reducible exact ih1 _ _ _ _ _ _ _)
   | (with_reducible exact ih2 _ _ _)
   | (with_reducible exact impl_LeafRow.mono _ _ _ _)
   | (with_reducible exact laws_eqLoadS.mono _ _ _)
   | (with_reducible exact laws_eqMobile.mono _ _ _ _ _)
   | (with_reducible exact laws_heldLoadS.mono _ _ _)
   | (with_reducible exact laws_markLoadS.mono _ _ _)
   | (with_reducible exact laws_markMobile.mono _ _ _ _)
   | (with_reducible exact laws_toMobile.mono _ _ _)
   | (with_reducible exact spec_LeafRow.mono _ _ _ _)
   | (with_reducible exact LeO.refl _)
   | (with_reducible exact LeO.none _)
   | (with_reducible refine LeO.ite ?_ ?_)
   | (with_reducible refine LeO.bind ?_ (fun _ => ?_))
   | exact ih0 _ _ _ _ _ _ _ _ _ _
   | exact ih1 _ _ _ _ _ _ _
   | exact ih2 _ _ _
   | exact impl_LeafRow.mono _ _ _ _
   | exact laws_eqLoadS.mono _ _ _
   | exact laws_eqMobile.mono _ _ _ _ _
   | exact laws_heldLoadS.mono _ _ _
   | exact laws_markLoadS.mono _ _ _
   | exact laws_markMobile.mono _ _ _ _
   | exact laws_toMobile.mono _ _ _
   | exact spec_LeafRow.mono _ _ _ _
   | exact LeO.none _
   | refine LeO.ite ?_ ?_
   | refine LeO.bind ?_ (fun _ => ?_)
set_option maxHeartbeats 8000000 in
set_option maxRecDepth 100000 in
theorem laws_FnExactLeafRow.calls (k : Nat) (A0_0 : Option Addr) (c0_0 : Nat) (l0_0 : List (S58)) (A0_1 : Option Addr) (c0_1 : Nat) (l0_1 : List (S58)) (a1 : Int) (r : Bool) (w : World) (hr0_0 : Kd.C k58 w A0_0 l0_0.length l0_0) (hc0_0 : l0_0.length ≤ c0_0) (hr0_1 : Kd.C k58 w A0_1 l0_1.length l0_1) (hc0_1 : l0_1.length ≤ c0_1) (h : laws_FnExactLeafRow.f k l0_0 l0_1 a1 = some r) :
  Calls Try.prog 11 #[.agg #[.slice A0_0 l0_0.length c0_0, .slice A0_1 l0_1.length c0_1], .int .i64 a1] w fun e w' => e = .returned (.bool r) ∧ Below w.heap.size w w' := by
 have hu24 := Try.underlying24
 have hu27 := Try.underlying27
 have HR0_0 := Aside0.mk hr0_0
 have HC0_0 := Aside0.mk hc0_0
 clear hr0_0 hc0_0
 have HR0_1 := Aside0.mk hr0_1
 have HC0_1 := Aside0.mk hc0_1
 clear hr0_1 hc0_1
 have HB := Aside0.mk (Below.refl w.heap.size w)
 have H : ((laws_szMobile.f l0_0 l0_1 1048576).bind fun t271 => (if t271 < 0 then (some true) else ((laws_toMobile.f k l0_0 l0_1).bind fun bt272 => ((spec_LeafRow.f k bt272.1 bt272.2 a1).bind fun bt278 => ((laws_toMobile.f k l0_0 l0_1).bind fun bt282 => ((impl_LeafRow.f k bt282.1 bt282.2 a1).bind fun bt289 => ((laws_eqLoadS.f k bt289.1 bt278.1).bind fun t293 => (if t293 = true then (laws_FnExactLeafRow.j0 k a1 bt278.1 bt278.2 bt289.1 bt289.2 (bt289.2 != bt278.2) l0_0 l0_1 bt282.1 bt282.2) else (laws_FnExactLeafRow.j0 k a1 bt278.1 bt278.2 bt289.1 bt289.2 true l0_0 l0_1 bt282.1 bt282.2))))))))) = some r := h
 clear h
 replace H := Option.bind_eq_some_iff.mp H
 obtain ⟨t271, A30, H⟩ := H
 replace H : (if t271 < 0 then (some true) else ((laws_toMobile.f k l0_0 l0_1).bind fun bt272 => ((spec_LeafRow.f k bt272.1 bt272.2 a1).bind fun bt278 => ((laws_toMobile.f k l0_0 l0_1).bind fun bt282 => ((impl_LeafRow.f k bt282.1 bt282.2 a1).bind fun bt289 => ((laws_eqLoadS.f k bt289.1 bt278.1).bind fun t293 => (if t293 = true then (laws_FnExactLeafRow.j0 k a1 bt278.1 bt278.2 bt289.1 bt289.2 (bt289.2 != bt278.2) l0_0 l0_1 bt282.1 bt282.2) else (laws_FnExactLeafRow.j0 k a1 bt278.1 bt278.2 bt289.1 bt289.2 true l0_0 l0_1 bt282.1 bt282.2)))))))) = some r := H
 have A3 := Aside0.mk A30
 clear A30
 by_cases c4 : t271 < 0
 ·
  rw [if_pos c4] at H
  have c4b0 : decide (t271 < 0) = true := decide_eq_true c4
  clear c4
  obtain rfl := Option.some.inj H
  go_enter Try.func11, Try.ntmps11
  go_wp2_with (first | ((with_reducible refine gate_dst (N := 2) rfl ?_); refine box_event ?hg (N := 2) ?hd (cs := #[.slice A0_0 l0_0.length c0_0, .slice A0_1 l0_1.length c0_1]) (t := 24) ?hr ?_; (case hd => rfl); (case hg => rfl); (case hr => first | (go_simp; done) | (go_simp; rfl)); intro gb270 hg w5 hbox hb; have BK270 := Aside0.mk (hbox); have GW270 := Aside0.mk (bS HB.out hg); have GE270 := Aside0.mk (bS HB.out hg); replace HB := Aside0.mk (below_step (tB HB.out) hb); clear hb hbox hg; obtain ⟨hcz6_0, hfz6_0, hcz6_1, hfz6_1⟩ := cz2 BK270) | ((with_reducible refine gate_callee (f := 15) rfl ?_); refine goesL_ (some 18) rfl rfl Try.func15 (by kernel_rfl) rfl #[.agg #[.slice A0_0 l0_0.length c0_0, .slice A0_1 l0_1.length c0_1], .int .i64 1048576] rfl tM ?_; (with_reducible refine (laws_szMobile.calls _ _ l0_0 _ _ l0_1 1048576 t271 _ ?side1 ?side2 ?side3 ?side4 A3.out).mono ?_); (case side1 => exact tC (Kd.C_below HR0_0.out HB.out)); (case side2 => exact HC0_0.out); (case side3 => exact tC (Kd.C_below HR0_1.out HB.out)); (case side4 => exact HC0_1.out); rintro e w7 ⟨rfl, hb⟩; refine ⟨_, rfl, ?_⟩; replace BK270 := bkB BK270 hb; replace HB := Aside0.mk (below_step (tB HB.out) hb); (try clear hb); (try clear hb2); (try clear hk); (try clear hi)))
  go_ret
  exact ⟨by first | rfl | (simp [errW_none, errW_some] <;> rfl) | (simp [*, errW_none, errW_some] <;> rfl), tB HB.out⟩
 ·
  rw [if_neg c4] at H
  have c4b0 : decide (t271 < 0) = false := decide_eq_false c4
  clear c4
  replace H := Option.bind_eq_some_iff.mp H
  obtain ⟨⟨t272, t275⟩, A80, H⟩ := H
  replace H : ((spec_LeafRow.f k t272 t275 a1).bind fun bt278 => ((laws_toMobile.f k l0_0 l0_1).bind fun bt282 => ((impl_LeafRow.f k bt282.1 bt282.2 a1).bind fun bt289 => ((laws_eqLoadS.f k bt289.1 bt278.1).bind fun t293 => (if t293 = true then (laws_FnExactLeafRow.j0 k a1 bt278.1 bt278.2 bt289.1 bt289.2 (bt289.2 != bt278.2) l0_0 l0_1 bt282.1 bt282.2) else (laws_FnExactLeafRow.j0 k a1 bt278.1 bt278.2 bt289.1 bt289.2 true l0_0 l0_1 bt282.1 bt282.2)))))) = some r := H
  have A8 := Aside0.mk A80
  clear A80
  replace H := Option.bind_eq_some_iff.mp H
  obtain ⟨⟨t278, t281⟩, A90, H⟩ := H
  replace H : ((laws_toMobile.f k l0_0 l0_1).bind fun bt282 => ((impl_LeafRow.f k bt282.1 bt282.2 a1).bind fun bt289 => ((laws_eqLoadS.f k bt289.1 t278).bind fun t293 => (if t293 = true then (laws_FnExactLeafRow.j0 k a1 t278 t281 bt289.1 bt289.2 (bt289.2 != t281) l0_0 l0_1 bt282.1 bt282.2) else (laws_FnExactLeafRow.j0 k a1 t278 t281 bt289.1 bt289.2 true l0_0 l0_1 bt282.1 bt282.2))))) = some r := H
  have A9 := Aside0.mk A90
  clear A90
  replace H := Option.bind_eq_some_iff.mp H
  obtain ⟨⟨t282, t285⟩, A100, H⟩ := H
  replace H : ((impl_LeafRow.f k t282 t285 a1).bind fun bt289 => ((laws_eqLoadS.f k bt289.1 t278).bind fun t293 => (if t293 = true then (laws_FnExactLeafRow.j0 k a1 t278 t281 bt289.1 bt289.2 (bt289.2 != t281) l0_0 l0_1 t282 t285) else (laws_FnExactLeafRow.j0 k a1 t278 t281 bt289.1 bt289.2 true l0_0 l0_1 t282 t285)))) = some r := H
  have A10 := Aside0.mk A100
  clear A100
  replace H := Option.bind_eq_some_iff.mp H
  obtain ⟨⟨t289, t292⟩, A110, H⟩ := H
  replace H : ((laws_eqLoadS.f k t289 t278).bind fun t293 => (if t293 = true then (laws_FnExactLeafRow.j0 k a1 t278 t281 t289 t292 (t292 != t281) l0_0 l0_1 t282 t285) else (laws_FnExactLeafRow.j0 k a1 t278 t281 t289 t292 true l0_0 l0_1 t282 t285))) = some r := H
  have A11 := Aside0.mk A110
  clear A110
  have HC12 := Aside0.mk H
  clear H
  go_enter Try.func11, Try.ntmps11
  go_upto_region 8 with (first | ((with_reducible refine gate_dst (N := 2) rfl ?_); refine box_event ?hg (N := 2) ?hd (cs := #[.slice A0_0 l0_0.length c0_0, .slice A0_1 l0_1.length c0_1]) (t := 24) ?hr ?_; (case hd => rfl); (case hg => rfl); (case hr => first | (go_simp; done) | (go_simp; rfl)); intro gb270 hg w13 hbox hb; have BK270 := Aside0.mk (hbox); have GW270 := Aside0.mk (bS HB.out hg); have GE270 := Aside0.mk (bS HB.out hg); replace HB := Aside0.mk (below_step (tB HB.out) hb); clear hb hbox hg; obtain ⟨hcz14_0, hfz14_0, hcz14_1, hfz14_1⟩ := cz2 BK270) | ((with_reducible refine gate_callee (f := 15) rfl ?_); refine goesL_ (some 18) rfl rfl Try.func15 (by kernel_rfl) rfl #[.agg #[.slice A0_0 l0_0.length c0_0, .slice A0_1 l0_1.length c0_1], .int .i64 1048576] rfl tM ?_; (with_reducible refine (laws_szMobile.calls _ _ l0_0 _ _ l0_1 1048576 t271 _ ?side1 ?side2 ?side3 ?side4 A3.out).mono ?_); (case side1 => exact tC (Kd.C_below HR0_0.out HB.out)); (case side2 => exact HC0_0.out); (case side3 => exact tC (Kd.C_below HR0_1.out HB.out)); (case side4 => exact HC0_1.out); rintro e w15 ⟨rfl, hb⟩; refine ⟨_, rfl, ?_⟩; replace BK270 := bkB BK270 hb; replace HB := Aside0.mk (below_step (tB HB.out) hb); (try clear hb); (try clear hb2); (try clear hk); (try clear hi); obtain ⟨hcz16_0, hfz16_0, hcz16_1, hfz16_1⟩ := cz2 BK270) | ((with_reducible refine gate_callee (f := 17) rfl ?_); refine goesL_ (some 23) rfl rfl Try.func17 (by kernel_rfl) rfl #[.agg #[.slice A0_0 l0_0.length c0_0, .slice A0_1 l0_1.length c0_1]] rfl tM ?_; (with_reducible refine (laws_toMobile.calls k _ _ l0_0 _ _ l0_1 t272 t275 _ ?side1 ?side2 ?side3 ?side4 A8.out).mono ?_); (case side1 => exact tC (Kd.C_below HR0_0.out HB.out)); (case side2 => exact HC0_0.out); (case side3 => exact tC (Kd.C_below HR0_1.out HB.out)); (case side4 => exact HC0_1.out); rintro e w17 ⟨v273, v276, rfl, ho0, ho1, hb⟩; refine ⟨_, rfl, ?_⟩; have HO274 := Aside0.mk (Kd.R_lower ho0 (below_size (tB HB.out))); have HO277 := Aside0.mk (Kd.R_lower ho1 (below_size (tB HB.out))); replace BK270 := bkB BK270 hb; replace HB := Aside0.mk (below_step (tB HB.out) hb); (try clear hb); (try clear hb2); (try clear hk); (try clear hi); (try clear ho0); (try clear ho1); obtain ⟨Ao18, co18, eo18⟩ := Kd.R_slice HO274.out; subst eo18; obtain ⟨Ao19, co19, eo19⟩ := Kd.R_slice HO277.out; subst eo19) | ((with_reducible refine gate_callee (f := 39) rfl ?_); refine goesL_ (some 25) rfl rfl Try.func39 (by kernel_rfl) rfl #[.agg #[.slice Ao18 t272.length co18, .slice Ao19 t275.length co19], .int .i64 a1] rfl tM ?_; (with_reducible refine (spec_LeafRow.calls k _ _ t272 _ _ t275 a1 t278 t281 _ ?side1 ?side2 ?side3 ?side4 A9.out).mono ?_); (case side1 => exact tC (Kd.R_reads' HO274.out).2.2); (case side2 => exact (Kd.R_reads' HO274.out).2.1); (case side3 => exact tC (Kd.R_reads' HO277.out).2.2); (case side4 => exact (Kd.R_reads' HO277.out).2.1); rintro e w20 ⟨v279, rfl, ho0, hb⟩; refine ⟨_, rfl, ?_⟩; replace HO274 := Aside0.mk (Kd.R_below (tR HO274.out) hb); replace HO277 := Aside0.mk (Kd.R_below (tR HO277.out) hb); have HO280 := Aside0.mk (Kd.R_lower ho0 (below_size (tB HB.out))); replace BK270 := bkB BK270 hb; replace HB := Aside0.mk (below_step (tB HB.out) hb); (try clear hb); (try clear hb2); (try clear hk); (try clear hi); (try clear ho0); obtain ⟨hcz21_0, hfz21_0, hcz21_1, hfz21_1⟩ := cz2 BK270) | ((with_reducible refine gate_callee (f := 17) rfl ?_); refine goesL_ (some 29) rfl rfl Try.func17 (by kernel_rfl) rfl #[.agg #[.slice A0_0 l0_0.length c0_0, .slice A0_1 l0_1.length c0_1]] rfl tM ?_; (with_reducible refine (laws_toMobile.calls k _ _ l0_0 _ _ l0_1 t282 t285 _ ?side1 ?side2 ?side3 ?side4 A10.out).mono ?_); (case side1 => exact tC (Kd.C_below HR0_0.out HB.out)); (case side2 => exact HC0_0.out); (case side3 => exact tC (Kd.C_below HR0_1.out HB.out)); (case side4 => exact HC0_1.out); rintro e w22 ⟨v283, v286, rfl, ho0, ho1, hb⟩; refine ⟨_, rfl, ?_⟩; replace HO280 := Aside0.mk (Kd.R_below (tR HO280.out) hb); have HO284 := Aside0.mk (Kd.R_lower (Kd.R_new' (Kd.R_new' ho0 (Kd.R_lt (tR HO274.out))) (Kd.R_lt (tR HO277.out))) (below_size (tB HB.out))); have HO287 := Aside0.mk (Kd.R_lower (Kd.R_new' (Kd.R_new' ho1 (Kd.R_lt (tR HO274.out))) (Kd.R_lt (tR HO277.out))) (below_size (tB HB.out))); replace HO274 := Aside0.mk (Kd.R_mono (Kd.R_told (Kd.R_told (Kd.R_old (tR HO274.out) hb) (Kd.R_base ho0)) (Kd.R_base ho1)) (fun _ h_ => h_.1)); replace HO277 := Aside0.mk (Kd.R_mono (Kd.R_told (Kd.R_told (Kd.R_old (tR HO277.out) hb) (Kd.R_base ho0)) (Kd.R_base ho1)) (fun _ h_ => h_.1)); replace BK270 := bkB BK270 hb; replace HB := Aside0.mk (below_step (tB HB.out) hb); (try clear hb); (try clear hb2); (try clear hk); (try clear hi); (try clear ho0); (try clear ho1)) | ((with_reducible refine gate_dst (N := 8) rfl ?_); refine box_event ?hg (N := 8) ?hd (cs := #[.slice none 0 0, .slice none 0 0]) (t := 27) ?hr ?_; (case hd => rfl); (case hg => rfl); (case hr => first | (go_simp; done) | (go_simp; rfl)); intro gb288 hg w23 hbox hb; replace HO274 := Aside0.mk (Kd.R_below (tR HO274.out) hb); replace HO277 := Aside0.mk (Kd.R_below (tR HO277.out) hb); replace HO280 := Aside0.mk (Kd.R_below (tR HO280.out) hb); replace HO284 := Aside0.mk (Kd.R_below (tR HO284.out) hb); replace HO287 := Aside0.mk (Kd.R_below (tR HO287.out) hb); have BK288 := Aside0.mk (hbox); have GW288 := Aside0.mk (bS HB.out hg); have GE288 := Aside0.mk (bS HB.out hg); replace HB := Aside0.mk (below_step (tB HB.out) hb); have NB270_288 := Aside0.mk (nL BK270.out hg); have NB288_270 := Aside0.mk (nG BK270.out hg); replace BK270 := bkB BK270 hb; clear hb hbox hg; obtain ⟨Ao24, co24, eo24⟩ := Kd.R_slice HO284.out; subst eo24; have hnb25 := NB288_270.out; have hnc25 := NB270_288.out; obtain ⟨hcz26_0, hfz26_0, hcz26_1, hfz26_1⟩ := cz2 BK288; obtain ⟨Ao27, co27, eo27⟩ := Kd.R_slice HO287.out; subst eo27) | ((with_reducible refine gate_callee (f := 40) rfl ?_); refine goesL_ (some 33) rfl rfl Try.func40 (by kernel_rfl) rfl #[.agg #[.slice Ao24 t282.length co24, .slice Ao27 t285.length co27], .int .i64 a1] rfl tM ?_; (with_reducible refine (impl_LeafRow.calls k _ _ t282 _ _ t285 a1 t289 t292 _ ?side1 ?side2 ?side3 ?side4 A11.out).mono ?_); (case side1 => refine (Kd.R_reads' (e := 58) (base := w.heap.size) (ok := fun k_ => ((some k_ ≠ (.slice Ao27 t285.length co27 : Value).ownBlock ∧ some k_ ≠ (.slice Ao18 t272.length co18 : Value).ownBlock) ∧ some k_ ≠ (.slice Ao19 t275.length co19 : Value).ownBlock)) (n := t282.length) (c := co24) ?_).2.2; exact (by (with_reducible repeat (first | apply Kd.R_alloc | apply Kd.R_drewN | apply Kd.R_drew)); exact (Kd.R_mono (Kd.R_far (p := ⟨gb288, 1, none⟩) (Kd.R_far (p := ⟨gb288, 0, none⟩) (Kd.R_types HO284.out BK288.out (by decide)) (fun _ hk => hk.2) (.slice Ao24 t282.length co24)) (fun _ hk => hk.2) (.slice Ao27 t285.length co27)) (fun _ h_ => h_.1)))); (case side2 => exact (Kd.R_reads' HO284.out).2.1); (case side3 => refine (Kd.R_reads' (e := 58) (base := w.heap.size) (ok := fun k_ => ((some k_ ≠ (.slice Ao24 t282.length co24 : Value).ownBlock ∧ some k_ ≠ (.slice Ao18 t272.length co18 : Value).ownBlock) ∧ some k_ ≠ (.slice Ao19 t275.length co19 : Value).ownBlock)) (n := t285.length) (c := co27) ?_).2.2; exact (by (with_reducible repeat (first | apply Kd.R_alloc | apply Kd.R_drewN | apply Kd.R_drew)); exact (Kd.R_mono (Kd.R_far (p := ⟨gb288, 1, none⟩) (Kd.R_far (p := ⟨gb288, 0, none⟩) (Kd.R_types HO287.out BK288.out (by decide)) (fun _ hk => hk.2) (.slice Ao24 t282.length co24)) (fun _ hk => hk.2) (.slice Ao27 t285.length co27)) (fun _ h_ => h_.1)))); (case side4 => exact (Kd.R_reads' HO287.out).2.1); rintro e w28 ⟨v290, rfl, ho0, hb⟩; refine ⟨_, rfl, ?_⟩; replace HO274 := Aside0.mk (Kd.R_below (by (with_reducible repeat (first | apply Kd.R_alloc | apply Kd.R_drewN | apply Kd.R_drew)); exact (Kd.R_mono (Kd.R_far (p := ⟨gb288, 1, none⟩) (Kd.R_far (p := ⟨gb288, 0, none⟩) (Kd.R_types HO274.out BK288.out (by decide)) (fun _ hk => hk.2) (.slice Ao24 t282.length co24)) (fun _ hk => hk.2) (.slice Ao27 t285.length co27)) (fun _ h_ => h_.1))) hb); replace HO277 := Aside0.mk (Kd.R_below (by (with_reducible repeat (first | apply Kd.R_alloc | apply Kd.R_drewN | apply Kd.R_drew)); exact (Kd.R_mono (Kd.R_far (p := ⟨gb288, 1, none⟩) (Kd.R_far (p := ⟨gb288, 0, none⟩) (Kd.R_types HO277.out BK288.out (by decide)) (fun _ hk => hk.2) (.slice Ao24 t282.length co24)) (fun _ hk => hk.2) (.slice Ao27 t285.length co27)) (fun _ h_ => h_.1))) hb); replace HO284 := Aside0.mk (Kd.R_below (by (with_reducible repeat (first | apply Kd.R_alloc | apply Kd.R_drewN | apply Kd.R_drew)); exact (Kd.R_mono (Kd.R_far (p := ⟨gb288, 1, none⟩) (Kd.R_far (p := ⟨gb288, 0, none⟩) (Kd.R_types HO284.out BK288.out (by decide)) (fun _ hk => hk.2) (.slice Ao24 t282.length co24)) (fun _ hk => hk.2) (.slice Ao27 t285.length co27)) (fun _ h_ => h_.1))) hb); replace HO287 := Aside0.mk (Kd.R_below (by (with_reducible repeat (first | apply Kd.R_alloc | apply Kd.R_drewN | apply Kd.R_drew)); exact (Kd.R_mono (Kd.R_far (p := ⟨gb288, 1, none⟩) (Kd.R_far (p := ⟨gb288, 0, none⟩) (Kd.R_types HO287.out BK288.out (by decide)) (fun _ hk => hk.2) (.slice Ao24 t282.length co24)) (fun _ hk => hk.2) (.slice Ao27 t285.length co27)) (fun _ h_ => h_.1))) hb); have HO291 := Aside0.mk (Kd.R_lower (Kd.R_new' ho0 (Kd.R_lt (by (with_reducible repeat (first | apply Kd.R_alloc | apply Kd.R_drewN | apply Kd.R_drew)); exact (Kd.R_mono (Kd.R_far (p := ⟨gb288, 1, none⟩) (Kd.R_far (p := ⟨gb288, 0, none⟩) (Kd.R_types HO280.out BK288.out (by decide)) (fun _ hk => hk.2) (.slice Ao24 t282.length co24)) (fun _ hk => hk.2) (.slice Ao27 t285.length co27)) (fun _ h_ => h_.1))))) (below_size (tB HB.out))); replace HO280 := Aside0.mk (Kd.R_elder' (by (with_reducible repeat (first | apply Kd.R_alloc | apply Kd.R_drewN | apply Kd.R_drew)); exact (Kd.R_mono (Kd.R_far (p := ⟨gb288, 1, none⟩) (Kd.R_far (p := ⟨gb288, 0, none⟩) (Kd.R_types HO280.out BK288.out (by decide)) (fun _ hk => hk.2) (.slice Ao24 t282.length co24)) (fun _ hk => hk.2) (.slice Ao27 t285.length co27)) (fun _ h_ => h_.1))) (Kd.R_base ho0) hb); replace BK270 := Aside0.mk (blk_below (g := gb270) (o := .cells #[.slice A0_0 l0_0.length c0_0, .slice A0_1 l0_1.length c0_1] 24 (0, 0)) (by (with_reducible repeat (first | refine blk_drewN ?_ _ | refine blk_drew ?_ | refine blk_alloc ?_ _)); refine blk_far ?_ NB270_288.out _; (with_reducible repeat (first | refine blk_drewN ?_ _ | refine blk_drew ?_ | refine blk_alloc ?_ _)); refine blk_far ?_ NB270_288.out _; (with_reducible repeat (first | refine blk_drewN ?_ _ | refine blk_drew ?_ | refine blk_alloc ?_ _)); exact BK270.out) hb); replace BK288 := Aside0.mk (blk_below (g := gb288) (o := .cells #[.slice Ao24 t282.length co24, .slice Ao27 t285.length co27] 27 (0, 0)) (by (with_reducible repeat (first | refine blk_drewN ?_ _ | refine blk_drew ?_ | refine blk_alloc ?_ _)); refine blk_put (cs := #[.slice Ao24 t282.length co24, .slice none 0 0]) ?_ 1 _ rfl; (with_reducible repeat (first | refine blk_drewN ?_ _ | refine blk_drew ?_ | refine blk_alloc ?_ _)); refine blk_put (cs := #[.slice none 0 0, .slice none 0 0]) ?_ 0 _ rfl; (with_reducible repeat (first | refine blk_drewN ?_ _ | refine blk_drew ?_ | refine blk_alloc ?_ _)); exact BK288.out) hb); replace HB := Aside0.mk (below_step (tB HB.out) hb); (try clear hb); (try clear hb2); (try clear hk); (try clear hi); (try clear ho0)))
  (try simp only [Act.put, List.setIfInBounds_toArray, List.set_cons_zero, List.set_cons_succ])
  go_cut [44] (fun v44 wc => ∃ (kq : Nat) (x44_11 : Bool), v44 = .bool x44_11 ∧ Aside0 (laws_FnExactLeafRow.j0 kq a1 t278 t281 t289 t292 x44_11 l0_0 l0_1 t282 t285 = some r) ∧ Aside0 (kq ≤ k) ∧ Aside0 (Kd.R k67 67 wc w.heap.size (fun k_ => some k_ ≠ (v290 : Value).ownBlock) v279 t278) ∧ Aside0 (Kd.R k67 67 wc w.heap.size (fun k_ => some k_ ≠ (v279 : Value).ownBlock) v290 t289) ∧ Aside0 (Kd.R k58 58 wc w.heap.size (fun k_ => some k_ ≠ ((.slice Ao27 t285.length co27) : Value).ownBlock) (.slice Ao24 t282.length co24) t282) ∧ Aside0 (Kd.R k58 58 wc w.heap.size (fun k_ => some k_ ≠ ((.slice Ao24 t282.length co24) : Value).ownBlock) (.slice Ao27 t285.length co27) t285) ∧ Aside0 (wc.heap[gb270]? = some (.cells #[(.slice A0_0 l0_0.length c0_0), (.slice A0_1 l0_1.length c0_1)] 24 (0, 0))) ∧ Aside0 (wc.heap[gb288]? = some (.cells #[(.slice Ao24 t282.length co24), (.slice Ao27 t285.length co27)] 27 (0, 0))) ∧ Aside0 (Below w.heap.size w wc))
  case first =>
   have H := HC12.out
   clear HC12
   replace H := Option.bind_eq_some_iff.mp H
   obtain ⟨t293, A290, H⟩ := H
   replace H : (if t293 = true then (laws_FnExactLeafRow.j0 k a1 t278 t281 t289 t292 (t292 != t281) l0_0 l0_1 t282 t285) else (laws_FnExactLeafRow.j0 k a1 t278 t281 t289 t292 true l0_0 l0_1 t282 t285)) = some r := H
   have A29 := Aside0.mk A290
   clear A290
   by_cases c30 : t293 = true
   ·
    subst c30
    have H1 : (laws_FnExactLeafRow.j0 k a1 t278 t281 t289 t292 (t292 != t281) l0_0 l0_1 t282 t285) = some r := by rw [if_pos rfl] at H; exact H
    clear H
    have H := H1
    clear H1
    have H' := Aside0.mk H
    clear H
    obtain ⟨Ao31, co31, eo31⟩ := Kd.R_slice HO291.out
    subst eo31
    obtain ⟨Ao32, co32, eo32⟩ := Kd.R_slice HO280.out
    subst eo32
    go_wp2_with (first | ((with_reducible refine gate_callee (f := 41) rfl ?_); refine goesL_ (some 38) rfl rfl Try.func41 (by kernel_rfl) rfl #[.slice Ao31 t289.length co31, .slice Ao32 t278.length co32] rfl tM ?_; (with_reducible refine (laws_eqLoadS.calls k _ _ t289 _ _ t278 true _ ?side1 ?side2 ?side3 ?side4 A29.out).mono ?_); (case side1 => exact tC (Kd.R_reads' HO291.out).2.2); (case side2 => exact (Kd.R_reads' HO291.out).2.1); (case side3 => exact tC (Kd.R_reads' HO280.out).2.2); (case side4 => exact (Kd.R_reads' HO280.out).2.1); rintro e w33 ⟨rfl, hb⟩; refine ⟨_, rfl, ?_⟩; replace HO274 := Aside0.mk (Kd.R_below (tR HO274.out) hb); replace HO277 := Aside0.mk (Kd.R_below (tR HO277.out) hb); replace HO280 := Aside0.mk (Kd.R_below (tR HO280.out) hb); replace HO284 := Aside0.mk (Kd.R_below (tR HO284.out) hb); replace HO287 := Aside0.mk (Kd.R_below (tR HO287.out) hb); replace HO291 := Aside0.mk (Kd.R_below (tR HO291.out) hb); replace BK270 := bkB BK270 hb; replace BK288 := bkB BK288 hb; replace HB := Aside0.mk (below_step (tB HB.out) hb); (try clear hb); (try clear hb2); (try clear hk); (try clear hi)))
    go_meet
    case rel => exact ⟨_, ((t292 != t281)), (by first | rfl | (simp; done) | (simp [wrap64]; done) | (simp [*]; done)), H', ⟨by first | omega | exact Nat.le_refl _⟩, ⟨by (with_reducible repeat (first | apply Kd.R_alloc | apply Kd.R_drewN | apply Kd.R_drew)); exact Kd.R_mono HO280.out (fun _ hk => hk.2)⟩, ⟨by (with_reducible repeat (first | apply Kd.R_alloc | apply Kd.R_drewN | apply Kd.R_drew)); exact Kd.R_mono HO291.out (fun _ hk => hk.2)⟩, ⟨by (with_reducible repeat (first | apply Kd.R_alloc | apply Kd.R_drewN | apply Kd.R_drew)); exact Kd.R_mono HO284.out (fun _ hk => hk.1.1)⟩, ⟨by (with_reducible repeat (first | apply Kd.R_alloc | apply Kd.R_drewN | apply Kd.R_drew)); exact Kd.R_mono HO287.out (fun _ hk => hk.1.1)⟩, ⟨tK BK270.out⟩, ⟨tK BK288.out⟩, ⟨tB HB.out⟩⟩
   ·
    replace c30 := Bool.eq_false_iff.mpr c30
    subst c30
    have H1 : (laws_FnExactLeafRow.j0 k a1 t278 t281 t289 t292 true l0_0 l0_1 t282 t285) = some r := by rw [if_neg (show ¬ (false = true) by decide)] at H; exact H
    clear H
    have H := H1
    clear H1
    have H' := Aside0.mk H
    clear H
    obtain ⟨Ao34, co34, eo34⟩ := Kd.R_slice HO291.out
    subst eo34
    obtain ⟨Ao35, co35, eo35⟩ := Kd.R_slice HO280.out
    subst eo35
    go_wp2_with (first | ((with_reducible refine gate_callee (f := 41) rfl ?_); refine goesL_ (some 38) rfl rfl Try.func41 (by kernel_rfl) rfl #[.slice Ao34 t289.length co34, .slice Ao35 t278.length co35] rfl tM ?_; (with_reducible refine (laws_eqLoadS.calls k _ _ t289 _ _ t278 false _ ?side1 ?side2 ?side3 ?side4 A29.out).mono ?_); (case side1 => exact tC (Kd.R_reads' HO291.out).2.2); (case side2 => exact (Kd.R_reads' HO291.out).2.1); (case side3 => exact tC (Kd.R_reads' HO280.out).2.2); (case side4 => exact (Kd.R_reads' HO280.out).2.1); rintro e w36 ⟨rfl, hb⟩; refine ⟨_, rfl, ?_⟩; replace HO274 := Aside0.mk (Kd.R_below (tR HO274.out) hb); replace HO277 := Aside0.mk (Kd.R_below (tR HO277.out) hb); replace HO280 := Aside0.mk (Kd.R_below (tR HO280.out) hb); replace HO284 := Aside0.mk (Kd.R_below (tR HO284.out) hb); replace HO287 := Aside0.mk (Kd.R_below (tR HO287.out) hb); replace HO291 := Aside0.mk (Kd.R_below (tR HO291.out) hb); replace BK270 := bkB BK270 hb; replace BK288 := bkB BK288 hb; replace HB := Aside0.mk (below_step (tB HB.out) hb); (try clear hb); (try clear hb2); (try clear hk); (try clear hi)))
    go_meet
    case rel => exact ⟨_, (true), (by first | rfl | (simp; done) | (simp [wrap64]; done) | (simp [*]; done)), H', ⟨by first | omega | exact Nat.le_refl _⟩, ⟨by (with_reducible repeat (first | apply Kd.R_alloc | apply Kd.R_drewN | apply Kd.R_drew)); exact Kd.R_mono HO280.out (fun _ hk => hk.2)⟩, ⟨by (with_reducible repeat (first | apply Kd.R_alloc | apply Kd.R_drewN | apply Kd.R_drew)); exact Kd.R_mono HO291.out (fun _ hk => hk.2)⟩, ⟨by (with_reducible repeat (first | apply Kd.R_alloc | apply Kd.R_drewN | apply Kd.R_drew)); exact Kd.R_mono HO284.out (fun _ hk => hk.1.1)⟩, ⟨by (with_reducible repeat (first | apply Kd.R_alloc | apply Kd.R_drewN | apply Kd.R_drew)); exact Kd.R_mono HO287.out (fun _ hk => hk.1.1)⟩, ⟨tK BK270.out⟩, ⟨tK BK288.out⟩, ⟨tB HB.out⟩⟩
  case rest =>
   clear HC12
   try clear c1
   try clear c2
   try clear p2
   try clear c3
   try clear c4
   try clear c4b0
   try clear p6
   try clear c11
   try clear c15
   try clear c17
   try clear c25
   try clear c30
   try clear hcz14_0
   try clear hcz14_1
   try clear hcz16_0
   try clear hcz16_1
   try clear hcz21_0
   try clear hcz21_1
   try clear hcz26_0
   try clear hcz26_1
   try clear hcz6_0
   try clear hcz6_1
   try clear hfz14_0
   try clear hfz14_1
   try clear hfz16_0
   try clear hfz16_1
   try clear hfz21_0
   try clear hfz21_1
   try clear hfz26_0
   try clear hfz26_1
   try clear hfz6_0
   try clear hfz6_1
   obtain ⟨kq, x44_11, rfl, HA, HJ11, HO_6, HO_9, HO_289000, HO_289001, BK270, BK288, HB⟩ := hcut
   cases kq with
   | zero => exact absurd HA.out (by simp [laws_FnExactLeafRow.j0])
   | succ kj11 =>
    have H := HA.out
    clear HA
    simp only [laws_FnExactLeafRow.j0] at H
    by_cases c37 : x44_11 = true
    ·
     subst c37
     have H1 : (some false) = some r := by rw [if_pos rfl] at H; exact H
     clear H
     have H := H1
     clear H1
     obtain rfl := Option.some.inj H
     go_wp2
     go_ret
     exact ⟨by first | rfl | (simp [errW_none, errW_some] <;> rfl) | (simp [*, errW_none, errW_some] <;> rfl), tB HB.out⟩
    ·
     replace c37 := Bool.eq_false_iff.mpr c37
     subst c37
     have H1 : ((laws_toMobile.f kj11 l0_0 l0_1).bind fun bt294 => ((laws_eqMobile.f kj11 t282 t285 bt294.1 bt294.2).bind fun t300 => (if t300 = true then ((laws_markMobile.f kj11 t282 t285 1).bind fun bt301 => (if bt301.1 < 0 then (laws_FnExactLeafRow.j1 kj11 a1 t278 t281 t289 true l0_0 l0_1) else ((laws_eqLoadS.f kj11 t289 t278).bind fun t304 => (if t304 = true then (laws_FnExactLeafRow.j1 kj11 a1 t278 t281 t289 (t292 != t281) l0_0 l0_1) else (laws_FnExactLeafRow.j1 kj11 a1 t278 t281 t289 true l0_0 l0_1))))) else (some false)))) = some r := by rw [if_neg (show ¬ (false = true) by decide)] at H; exact H
     clear H
     have H := H1
     clear H1
     replace H := Option.bind_eq_some_iff.mp H
     obtain ⟨⟨t294, t297⟩, A380, H⟩ := H
     replace H : ((laws_eqMobile.f kj11 t282 t285 t294 t297).bind fun t300 => (if t300 = true then ((laws_markMobile.f kj11 t282 t285 1).bind fun bt301 => (if bt301.1 < 0 then (laws_FnExactLeafRow.j1 kj11 a1 t278 t281 t289 true l0_0 l0_1) else ((laws_eqLoadS.f kj11 t289 t278).bind fun t304 => (if t304 = true then (laws_FnExactLeafRow.j1 kj11 a1 t278 t281 t289 (t292 != t281) l0_0 l0_1) else (laws_FnExactLeafRow.j1 kj11 a1 t278 t281 t289 true l0_0 l0_1))))) else (some false))) = some r := H
     have A38 := Aside0.mk A380
     clear A380
     replace H := Option.bind_eq_some_iff.mp H
     obtain ⟨t300, A390, H⟩ := H
     replace H : (if t300 = true then ((laws_markMobile.f kj11 t282 t285 1).bind fun bt301 => (if bt301.1 < 0 then (laws_FnExactLeafRow.j1 kj11 a1 t278 t281 t289 true l0_0 l0_1) else ((laws_eqLoadS.f kj11 t289 t278).bind fun t304 => (if t304 = true then (laws_FnExactLeafRow.j1 kj11 a1 t278 t281 t289 (t292 != t281) l0_0 l0_1) else (laws_FnExactLeafRow.j1 kj11 a1 t278 t281 t289 true l0_0 l0_1))))) else (some false)) = some r := H
     have A39 := Aside0.mk A390
     clear A390
     by_cases c40 : t300 = true
     ·
      subst c40
      have H1 : ((laws_markMobile.f kj11 t282 t285 1).bind fun bt301 => (if bt301.1 < 0 then (laws_FnExactLeafRow.j1 kj11 a1 t278 t281 t289 true l0_0 l0_1) else ((laws_eqLoadS.f kj11 t289 t278).bind fun t304 => (if t304 = true then (laws_FnExactLeafRow.j1 kj11 a1 t278 t281 t289 (t292 != t281) l0_0 l0_1) else (laws_FnExactLeafRow.j1 kj11 a1 t278 t281 t289 true l0_0 l0_1))))) = some r := by rw [if_pos rfl] at H; exact H
      clear H
      have H := H1
      clear H1
      replace H := Option.bind_eq_some_iff.mp H
      obtain ⟨⟨t301, t302, t303⟩, A410, H⟩ := H
      replace H : (if t301 < 0 then (laws_FnExactLeafRow.j1 kj11 a1 t278 t281 t289 true l0_0 l0_1) else ((laws_eqLoadS.f kj11 t289 t278).bind fun t304 => (if t304 = true then (laws_FnExactLeafRow.j1 kj11 a1 t278 t281 t289 (t292 != t281) l0_0 l0_1) else (laws_FnExactLeafRow.j1 kj11 a1 t278 t281 t289 true l0_0 l0_1)))) = some r := H
      have A41 := Aside0.mk A410
      clear A410
      have HC42 := Aside0.mk H
      clear H
      try go_wp2
      replace HO_6 := Aside0.mk (Kd.R_drew HO_6.out)
      replace HO_9 := Aside0.mk (Kd.R_drew HO_9.out)
      replace HO_289000 := Aside0.mk (Kd.R_drew HO_289000.out)
      replace HO_289001 := Aside0.mk (Kd.R_drew HO_289001.out)
      replace BK270 := Aside0.mk (blk_drew BK270.out)
      replace BK288 := Aside0.mk (blk_drew BK288.out)
      replace HB := Aside0.mk (below_drew1 HB.out)
      refine start_ (n := 5) (S := fun w' => w'.cell? ⟨gb288, 0, none⟩ = some (.slice Ao24 t282.length co24) ∧ w'.cell? ⟨gb288, 1, none⟩ = some (.slice Ao27 t285.length co27) ∧ w'.cell? ⟨gb270, 0, none⟩ = some (.slice A0_0 l0_0.length c0_0) ∧ w'.cell? ⟨gb270, 1, none⟩ = some (.slice A0_1 l0_1.length c0_1)) (ds := []) #[false, false, false, false, false] (by kernel_rfl) rfl rfl ⟨(blk_cell BK288.out 0).trans rfl, (blk_cell BK288.out 1).trans rfl, (blk_cell BK270.out 0).trans rfl, (blk_cell BK270.out 1).trans rfl⟩ (fun hHeld => ?_)
      generalize wc.drew = w43 at HO_6 HO_9 HO_289000 HO_289001 BK270 BK288 HB hHeld ⊢
      refine take_ (i := 0) (N := some 45) (v := ?_) (a' := ?_) #[true, false, false, false, false] rfl rfl (by kernel_rfl) (fun _ _ _ h => h) (Or.inl ⟨by rfl, ?_⟩) hHeld ?_ ?_
      rotate_left
      ·
       rintro w' ⟨s0, s1, s2, s3⟩
       go_simp
       with_reducible rfl
      rotate_left
      ·
       simp only [Act.put, List.setIfInBounds_toArray, List.set_cons_zero, List.set_cons_succ, i64_w, i32_w]
       rfl
      refine take_ (i := 1) (N := some 46) (v := ?_) (a' := ?_) #[true, true, false, false, false] rfl rfl (by kernel_rfl) (fun _ _ _ h => h) (Or.inl ⟨by rfl, ?_⟩) hHeld ?_ ?_
      rotate_left
      ·
       rintro w' ⟨s0, s1, s2, s3⟩
       go_simp
       with_reducible rfl
      rotate_left
      ·
       simp only [Act.put, List.setIfInBounds_toArray, List.set_cons_zero, List.set_cons_succ, i64_w, i32_w]
       rfl
      refine one_ (i := 2) (N := some 47) #[true, true, true, false, false] rfl rfl (by kernel_rfl) (by decide) (fun K hK => ?_)
      refine goes_ Try.func17 (by kernel_rfl) rfl #[.agg #[.slice A0_0 l0_0.length c0_0, .slice A0_1 l0_1.length c0_1]] (by rfl) rfl rfl tM ?_
      with_reducible refine (laws_toMobile.calls kj11 _ _ l0_0 _ _ l0_1 t294 t297 _ ?side1 ?side2 ?side3 ?side4 A38.out).mono ?_
      (case side1 => exact tC (Kd.C_below HR0_0.out HB.out))
      (case side2 => exact HC0_0.out)
      (case side3 => exact tC (Kd.C_below HR0_1.out HB.out))
      (case side4 => exact HC0_1.out)
      rintro e w44 ⟨v295, v298, rfl, ho0, ho1, hb⟩
      refine ⟨_, rfl, ?_⟩
      replace HO_6 := Aside0.mk (Kd.R_below (tR HO_6.out) hb)
      replace HO_9 := Aside0.mk (Kd.R_below (tR HO_9.out) hb)
      have HO296 := Aside0.mk (Kd.R_lower (Kd.R_new' (Kd.R_new' ho0 (Kd.R_lt (tR HO_289000.out))) (Kd.R_lt (tR HO_289001.out))) (below_size (tB HB.out)))
      have HO299 := Aside0.mk (Kd.R_lower (Kd.R_new' (Kd.R_new' ho1 (Kd.R_lt (tR HO_289000.out))) (Kd.R_lt (tR HO_289001.out))) (below_size (tB HB.out)))
      replace HO_289000 := Aside0.mk (Kd.R_mono (Kd.R_told (Kd.R_told (Kd.R_old (tR HO_289000.out) hb) (Kd.R_base ho0)) (Kd.R_base ho1)) (fun _ h_ => h_.1))
      replace HO_289001 := Aside0.mk (Kd.R_mono (Kd.R_told (Kd.R_told (Kd.R_old (tR HO_289001.out) hb) (Kd.R_base ho0)) (Kd.R_base ho1)) (fun _ h_ => h_.1))
      replace BK270 := bkB BK270 hb
      replace BK288 := bkB BK288 hb
      replace HB := Aside0.mk (below_step (tB HB.out) hb)
      (try clear hb)
      (try clear hb2)
      (try clear hk)
      (try clear hi)
      (try clear ho0)
      (try clear ho1)
      obtain ⟨Ao45, co45, eo45⟩ := Kd.R_slice HO296.out
      (first | subst eo45 | (injection eo45 with f1_ f2_ f3_; have f4_ := f1_.symm; have f5_ := f3_.symm; clear f1_ f2_ f3_; subst f4_; subst f5_))
      obtain ⟨Ao46, co46, eo46⟩ := Kd.R_slice HO299.out
      (first | subst eo46 | (injection eo46 with f1_ f2_ f3_; have f4_ := f1_.symm; have f5_ := f3_.symm; clear f1_ f2_ f3_; subst f4_; subst f5_))
      refine hK.out _ _ ⟨(blk_cell BK288.out 0).trans rfl, (blk_cell BK288.out 1).trans rfl, (blk_cell BK270.out 0).trans rfl, (blk_cell BK270.out 1).trans rfl⟩ (fun hHeld => ?_)
      clear hK K
      refine norm_ (a' := ?_) ?_ ?_
      rotate_left
      ·
       show Act.put _ (some 47) _ = _
       simp only [Act.put, List.setIfInBounds_toArray, List.set_cons_zero, List.set_cons_succ, i64_w, i32_w]
       rfl
      refine one_ (i := 3) (N := some 48) #[true, true, true, true, false] rfl rfl (by kernel_rfl) (by decide) (fun K hK => ?_)
      refine goes_ Try.func19 (by kernel_rfl) rfl #[.agg #[.slice Ao24 t282.length co24, .slice Ao27 t285.length co27], .agg #[.slice Ao45 t294.length co45, .slice Ao46 t297.length co46]] (by rfl) rfl rfl tM ?_
      with_reducible refine (laws_eqMobile.calls kj11 _ _ t282 _ _ t285 _ _ t294 _ _ t297 true _ ?side1 ?side2 ?side3 ?side4 ?side5 ?side6 ?side7 ?side8 A39.out).mono ?_
      (case side1 => exact tC (Kd.R_reads' HO_289000.out).2.2)
      (case side2 => exact (Kd.R_reads' HO_289000.out).2.1)
      (case side3 => exact tC (Kd.R_reads' HO_289001.out).2.2)
      (case side4 => exact (Kd.R_reads' HO_289001.out).2.1)
      (case side5 => exact tC (Kd.R_reads' HO296.out).2.2)
      (case side6 => exact (Kd.R_reads' HO296.out).2.1)
      (case side7 => exact tC (Kd.R_reads' HO299.out).2.2)
      (case side8 => exact (Kd.R_reads' HO299.out).2.1)
      rintro e w47 ⟨rfl, hb⟩
      refine ⟨_, rfl, ?_⟩
      replace HO_6 := Aside0.mk (Kd.R_below (tR HO_6.out) hb)
      replace HO_9 := Aside0.mk (Kd.R_below (tR HO_9.out) hb)
      replace HO_289000 := Aside0.mk (Kd.R_below (tR HO_289000.out) hb)
      replace HO_289001 := Aside0.mk (Kd.R_below (tR HO_289001.out) hb)
      replace HO296 := Aside0.mk (Kd.R_below (tR HO296.out) hb)
      replace HO299 := Aside0.mk (Kd.R_below (tR HO299.out) hb)
      replace BK270 := bkB BK270 hb
      replace BK288 := bkB BK288 hb
      replace HB := Aside0.mk (below_step (tB HB.out) hb)
      (try clear hb)
      (try clear hb2)
      (try clear hk)
      (try clear hi)
      refine hK.out _ _ ⟨(blk_cell BK288.out 0).trans rfl, (blk_cell BK288.out 1).trans rfl, (blk_cell BK270.out 0).trans rfl, (blk_cell BK270.out 1).trans rfl⟩ (fun hHeld => ?_)
      clear hK K
      refine norm_ (a' := ?_) ?_ ?_
      rotate_left
      ·
       show Act.put _ (some 48) _ = _
       simp only [Act.put, List.setIfInBounds_toArray, List.set_cons_zero, List.set_cons_succ, i64_w, i32_w]
       rfl
      refine pure_ (i := 4) (N := some 49) (v := ?_) (a' := ?_) #[true, true, true, true, true] rfl rfl (by kernel_rfl) (fun _ _ _ h => h) (Or.inl ⟨by rfl, ?_⟩) ?_ ?_
      rotate_left
      ·
       intro w'
       go_simp
       with_reducible rfl
      rotate_left
      ·
       simp only [Act.put, List.setIfInBounds_toArray, List.set_cons_zero, List.set_cons_succ, i64_w, i32_w]
       rfl
      refine done_ (by kernel_rfl) ?_
      have hnb48 := NB288_270.out
      have hnc48 := NB270_288.out
      obtain ⟨hcz49_0, hfz49_0, hcz49_1, hfz49_1⟩ := cz2 BK288
      go_upto_region 14 with (first | ((with_reducible refine gate_callee (f := 24) rfl ?_); refine goesL_ (some 52) rfl rfl Try.func24 (by kernel_rfl) rfl #[.agg #[.slice Ao24 t282.length co24, .slice Ao27 t285.length co27], .int .i64 1] rfl tM ?_; (with_reducible refine (laws_markMobile.calls kj11 (fun k_ => some k_ = (.slice Ao24 t282.length co24 : Value).ownBlock) (.slice Ao24 t282.length co24) t282 (fun k_ => some k_ = (.slice Ao27 t285.length co27 : Value).ownBlock) (.slice Ao27 t285.length co27) t285 1 t301 t302 t303 w _ ?side1 ?side2 ?side3 ?side4 ?side5 A41.out).mono ?_); (case side1 => repeat (first | (with_reducible first | exact HB.out | apply below_alloc | apply pw_below_drewN | apply below_drew1 | refine below_set ?_ GE270.out | refine below_set ?_ GE288.out) | exact HB.out)); (case side2 => exact Kd.R_tight rfl HO_289000.out); (case side3 => exact fun k_ e_ => (HO_289000.out.1 k_ e_.symm).1.1); (case side4 => exact Kd.R_tight rfl HO_289001.out); (case side5 => exact fun k_ e_ => (HO_289001.out.1 k_ e_.symm).1.1); rintro e w50 ⟨rfl, hy0, hy1, hb, hkp⟩; refine ⟨_, rfl, ?_⟩; replace HO_6 := Aside0.mk (Kd.R_mono (ok' := fun k_ => some k_ ≠ (v290 : Value).ownBlock) (Kd.R_keptB ((Kd.R_apart' (Kd.R_apart' HO_6.out (Kd.R_typed HO_289000.out) (by decide)) (Kd.R_typed HO_289001.out) (by decide))) hkp (fun k_ hk_ hs_ => Or.elim hs_ (fun e_ => (hk_.1.2) e_) (fun e_ => (hk_.2) e_))) (fun k_ hk_ => hk_.1.1.1)); replace HO_9 := Aside0.mk (Kd.R_mono (ok' := fun k_ => some k_ ≠ (v279 : Value).ownBlock) (Kd.R_keptB ((Kd.R_apart' (Kd.R_apart' HO_9.out (Kd.R_typed HO_289000.out) (by decide)) (Kd.R_typed HO_289001.out) (by decide))) hkp (fun k_ hk_ hs_ => Or.elim hs_ (fun e_ => (hk_.1.2) e_) (fun e_ => (hk_.2) e_))) (fun k_ hk_ => hk_.1.1.1)); replace BK270 := Aside0.mk (blk_kept (tK BK270.out) hkp (fun hs_ => Or.elim hs_ (fun e_ => (fun e_ => (Kd.R_ne HO_289000.out BK270.out (by decide)) e_) e_) (fun e_ => (fun e_ => (Kd.R_ne HO_289001.out BK270.out (by decide)) e_) e_))); replace BK288 := Aside0.mk (blk_kept (tK BK288.out) hkp (fun hs_ => Or.elim hs_ (fun e_ => (fun e_ => (Kd.R_ne HO_289000.out BK288.out (by decide)) e_) e_) (fun e_ => (fun e_ => (Kd.R_ne HO_289001.out BK288.out (by decide)) e_) e_))); replace HO_289000 := Aside0.mk (Kd.R_reok rfl hy0 (fun k_ e_ => HO_289000.out.1 k_ e_)); replace HO_289001 := Aside0.mk (Kd.R_reok rfl hy1 (fun k_ e_ => HO_289001.out.1 k_ e_)); replace HO296 := Aside0.mk (Kd.R_mono (ok' := fun k_ => some k_ ≠ (.slice Ao24 t282.length co24 : Value).ownBlock ∧ some k_ ≠ (.slice Ao27 t285.length co27 : Value).ownBlock ∧ some k_ ≠ (.slice Ao46 t297.length co46 : Value).ownBlock) (Kd.R_keptB (HO296.out) hkp (fun k_ hk_ hs_ => Or.elim hs_ (fun e_ => (hk_.1.2) e_) (fun e_ => (hk_.2) e_))) (fun k_ hk_ => ⟨hk_.1.1.2, hk_.1.2, hk_.1.1.1⟩)); replace HO299 := Aside0.mk (Kd.R_mono (ok' := fun k_ => some k_ ≠ (.slice Ao24 t282.length co24 : Value).ownBlock ∧ some k_ ≠ (.slice Ao27 t285.length co27 : Value).ownBlock ∧ some k_ ≠ (.slice Ao45 t294.length co45 : Value).ownBlock) (Kd.R_keptB (HO299.out) hkp (fun k_ hk_ hs_ => Or.elim hs_ (fun e_ => (hk_.1.2) e_) (fun e_ => (hk_.2) e_))) (fun k_ hk_ => ⟨hk_.1.1.2, hk_.1.2, hk_.1.1.1⟩)); replace HB := Aside0.mk (hb); (try clear hb); (try clear hkp); (try clear hy0); (try clear hy1)))
      (try simp only [Act.put, List.setIfInBounds_toArray, List.set_cons_zero, List.set_cons_succ])
      go_cut [65] (fun v65 wc => ∃ (kq : Nat) (x65_41 : Bool), v65 = .bool x65_41 ∧ Aside0 (laws_FnExactLeafRow.j1 kq a1 t278 t281 t289 x65_41 l0_0 l0_1 = some r) ∧ Aside0 (kq ≤ kj11) ∧ Aside0 (Kd.R k67 67 wc w.heap.size (fun k_ => some k_ ≠ (v290 : Value).ownBlock) v279 t278) ∧ Aside0 (Kd.R k67 67 wc w.heap.size (fun k_ => some k_ ≠ (v279 : Value).ownBlock) v290 t289) ∧ Aside0 (Kd.R k58 58 wc w.heap.size (fun k_ => some k_ ≠ ((.slice Ao27 t285.length co27) : Value).ownBlock) (.slice Ao24 t282.length co24) t302) ∧ Aside0 (Kd.R k58 58 wc w.heap.size (fun k_ => some k_ ≠ ((.slice Ao24 t282.length co24) : Value).ownBlock) (.slice Ao27 t285.length co27) t303) ∧ Aside0 (wc.heap[gb270]? = some (.cells #[(.slice A0_0 l0_0.length c0_0), (.slice A0_1 l0_1.length c0_1)] 24 (0, 0))) ∧ Aside0 (wc.heap[gb288]? = some (.cells #[(.slice Ao24 t282.length co24), (.slice Ao27 t285.length co27)] 27 (0, 0))) ∧ Aside0 (Below w.heap.size w wc))
      case first =>
       have H := HC42.out
       clear HC42
       by_cases c51 : t301 < 0
       ·
        rw [if_pos c51] at H
        have c51b0 : decide (t301 < 0) = true := decide_eq_true c51
        clear c51
        (first | rw [c51b0] | (simp only [i64_w, i32_w]; rw [c51b0]) | skip)
        have H' := Aside0.mk H
        clear H
        go_wp2
        go_meet
        case rel => exact ⟨_, (true), (by first | rfl | (simp; done) | (simp [wrap64]; done) | (simp [*]; done)), H', ⟨by have := HJ11.out; first | omega | exact Nat.le_refl _⟩, ⟨tR HO_6.out⟩, ⟨tR HO_9.out⟩, ⟨by (with_reducible repeat (first | apply Kd.R_alloc | apply Kd.R_drewN | apply Kd.R_drew)); exact Kd.R_mono HO_289000.out (fun _ hk => hk.1.1)⟩, ⟨by (with_reducible repeat (first | apply Kd.R_alloc | apply Kd.R_drewN | apply Kd.R_drew)); exact Kd.R_mono HO_289001.out (fun _ hk => hk.1.1)⟩, ⟨tK BK270.out⟩, ⟨tK BK288.out⟩, ⟨tB HB.out⟩⟩
       ·
        rw [if_neg c51] at H
        have c51b0 : decide (t301 < 0) = false := decide_eq_false c51
        clear c51
        (first | rw [c51b0] | (simp only [i64_w, i32_w]; rw [c51b0]) | skip)
        replace H := Option.bind_eq_some_iff.mp H
        obtain ⟨t304, A520, H⟩ := H
        replace H : (if t304 = true then (laws_FnExactLeafRow.j1 kj11 a1 t278 t281 t289 (t292 != t281) l0_0 l0_1) else (laws_FnExactLeafRow.j1 kj11 a1 t278 t281 t289 true l0_0 l0_1)) = some r := H
        have A52 := Aside0.mk A520
        clear A520
        by_cases c53 : t304 = true
        ·
         subst c53
         have H1 : (laws_FnExactLeafRow.j1 kj11 a1 t278 t281 t289 (t292 != t281) l0_0 l0_1) = some r := by rw [if_pos rfl] at H; exact H
         clear H
         have H := H1
         clear H1
         have H' := Aside0.mk H
         clear H
         obtain ⟨Ao54, co54, eo54⟩ := Kd.R_slice HO_9.out
         subst eo54
         obtain ⟨Ao55, co55, eo55⟩ := Kd.R_slice HO_6.out
         subst eo55
         go_wp2_with (first | (go_at_call 41; (with_reducible refine (laws_eqLoadS.calls kj11 _ _ t289 _ _ t278 true _ ?side1 ?side2 ?side3 ?side4 A52.out).mono ?_); (case side1 => exact tC (Kd.R_reads' HO_9.out).2.2); (case side2 => exact (Kd.R_reads' HO_9.out).2.1); (case side3 => exact tC (Kd.R_reads' HO_6.out).2.2); (case side4 => exact (Kd.R_reads' HO_6.out).2.1); rintro e w56 ⟨rfl, hb⟩; replace HO_6 := Aside0.mk (Kd.R_below (tR HO_6.out) hb); replace HO_9 := Aside0.mk (Kd.R_below (tR HO_9.out) hb); replace HO_289000 := Aside0.mk (Kd.R_below (tR HO_289000.out) hb); replace HO_289001 := Aside0.mk (Kd.R_below (tR HO_289001.out) hb); replace HO296 := Aside0.mk (Kd.R_below (tR HO296.out) hb); replace HO299 := Aside0.mk (Kd.R_below (tR HO299.out) hb); replace BK270 := bkB BK270 hb; replace BK288 := bkB BK288 hb; replace HB := Aside0.mk (below_step (tB HB.out) hb); (try clear hb); (try clear hb2); (try clear hk); (try clear hi)))
         go_meet
         case rel => exact ⟨_, ((t292 != t281)), (by first | rfl | (simp; done) | (simp [wrap64]; done) | (simp [*]; done)), H', ⟨by have := HJ11.out; first | omega | exact Nat.le_refl _⟩, ⟨tR HO_6.out⟩, ⟨tR HO_9.out⟩, ⟨by (with_reducible repeat (first | apply Kd.R_alloc | apply Kd.R_drewN | apply Kd.R_drew)); exact Kd.R_mono HO_289000.out (fun _ hk => hk.1.1)⟩, ⟨by (with_reducible repeat (first | apply Kd.R_alloc | apply Kd.R_drewN | apply Kd.R_drew)); exact Kd.R_mono HO_289001.out (fun _ hk => hk.1.1)⟩, ⟨tK BK270.out⟩, ⟨tK BK288.out⟩, ⟨tB HB.out⟩⟩
        ·
         replace c53 := Bool.eq_false_iff.mpr c53
         subst c53
         have H1 : (laws_FnExactLeafRow.j1 kj11 a1 t278 t281 t289 true l0_0 l0_1) = some r := by rw [if_neg (show ¬ (false = true) by decide)] at H; exact H
         clear H
         have H := H1
         clear H1
         have H' := Aside0.mk H
         clear H
         obtain ⟨Ao57, co57, eo57⟩ := Kd.R_slice HO_9.out
         subst eo57
         obtain ⟨Ao58, co58, eo58⟩ := Kd.R_slice HO_6.out
         subst eo58
         go_wp2_with (first | (go_at_call 41; (with_reducible refine (laws_eqLoadS.calls kj11 _ _ t289 _ _ t278 false _ ?side1 ?side2 ?side3 ?side4 A52.out).mono ?_); (case side1 => exact tC (Kd.R_reads' HO_9.out).2.2); (case side2 => exact (Kd.R_reads' HO_9.out).2.1); (case side3 => exact tC (Kd.R_reads' HO_6.out).2.2); (case side4 => exact (Kd.R_reads' HO_6.out).2.1); rintro e w59 ⟨rfl, hb⟩; replace HO_6 := Aside0.mk (Kd.R_below (tR HO_6.out) hb); replace HO_9 := Aside0.mk (Kd.R_below (tR HO_9.out) hb); replace HO_289000 := Aside0.mk (Kd.R_below (tR HO_289000.out) hb); replace HO_289001 := Aside0.mk (Kd.R_below (tR HO_289001.out) hb); replace HO296 := Aside0.mk (Kd.R_below (tR HO296.out) hb); replace HO299 := Aside0.mk (Kd.R_below (tR HO299.out) hb); replace BK270 := bkB BK270 hb; replace BK288 := bkB BK288 hb; replace HB := Aside0.mk (below_step (tB HB.out) hb); (try clear hb); (try clear hb2); (try clear hk); (try clear hi)))
         go_meet
         case rel => exact ⟨_, (true), (by first | rfl | (simp; done) | (simp [wrap64]; done) | (simp [*]; done)), H', ⟨by have := HJ11.out; first | omega | exact Nat.le_refl _⟩, ⟨tR HO_6.out⟩, ⟨tR HO_9.out⟩, ⟨by (with_reducible repeat (first | apply Kd.R_alloc | apply Kd.R_drewN | apply Kd.R_drew)); exact Kd.R_mono HO_289000.out (fun _ hk => hk.1.1)⟩, ⟨by (with_reducible repeat (first | apply Kd.R_alloc | apply Kd.R_drewN | apply Kd.R_drew)); exact Kd.R_mono HO_289001.out (fun _ hk => hk.1.1)⟩, ⟨tK BK270.out⟩, ⟨tK BK288.out⟩, ⟨tB HB.out⟩⟩
      case rest =>
       clear HC42
       try clear c1
       try clear c2
       try clear p2
       try clear c3
       try clear c4
       try clear c4b0
       try clear c5
       try clear p6
       try clear c11
       try clear c15
       try clear c17
       try clear c19
       try clear c24
       try clear c25
       try clear c30
       try clear c37
       try clear c39
       try clear c40
       try clear c41
       try clear c48
       try clear c51
       try clear c51b0
       try clear c53
       try clear hcz14_0
       try clear hcz14_1
       try clear hcz16_0
       try clear hcz16_1
       try clear hcz21_0
       try clear hcz21_1
       try clear hcz26_0
       try clear hcz26_1
       try clear hcz49_0
       try clear hcz49_1
       try clear hcz6_0
       try clear hcz6_1
       try clear hfz14_0
       try clear hfz14_1
       try clear hfz16_0
       try clear hfz16_1
       try clear hfz21_0
       try clear hfz21_1
       try clear hfz26_0
       try clear hfz26_1
       try clear hfz49_0
       try clear hfz49_1
       try clear hfz6_0
       try clear hfz6_1
       try clear p2
       try clear p6
       obtain ⟨kq, x65_41, rfl, HA, HJ41, HO_6, HO_9, HO_289000, HO_289001, BK270, BK288, HB⟩ := hcut
       have hl289000_41 := (Kd.R_reads' HO_289000.out).1
       rw [hl289000_41] at HO_289000
       (try simp only [hl289000_41])
       (try simp only [hl289000_41] at BK270)
       (try simp only [hl289000_41] at BK288)
       (try simp only [hl289000_41] at HO_6)
       (try simp only [hl289000_41] at HO_9)
       (try simp only [hl289000_41] at HO_289001)
       have hl289001_41 := (Kd.R_reads' HO_289001.out).1
       rw [hl289001_41] at HO_289001
       (try simp only [hl289001_41])
       (try simp only [hl289001_41] at BK270)
       (try simp only [hl289001_41] at BK288)
       (try simp only [hl289001_41] at HO_6)
       (try simp only [hl289001_41] at HO_9)
       (try simp only [hl289001_41] at HO_289000)
       cases kq with
       | zero => exact absurd HA.out (by simp [laws_FnExactLeafRow.j1])
       | succ kj41 =>
        have H := HA.out
        clear HA
        simp only [laws_FnExactLeafRow.j1] at H
        by_cases c60 : x65_41 = true
        ·
         subst c60
         have H1 : (some false) = some r := by rw [if_pos rfl] at H; exact H
         clear H
         have H := H1
         clear H1
         obtain rfl := Option.some.inj H
         go_wp2
         go_ret
         exact ⟨by first | rfl | (simp [errW_none, errW_some] <;> rfl) | (simp [*, errW_none, errW_some] <;> rfl), tB HB.out⟩
        ·
         replace c60 := Bool.eq_false_iff.mpr c60
         subst c60
         have H1 : ((laws_markLoadS.f kj41 t289 1).bind fun bt305 => ((laws_heldLoadS.f kj41 bt305.2 1).bind fun t307 => (if t307 < 0 then (some false) else (if t307 = bt305.1 then ((laws_toMobile.f kj41 l0_0 l0_1).bind fun bt308 => ((impl_LeafRow.f kj41 bt308.1 bt308.2 a1).bind fun bt314 => ((laws_eqLoadS.f kj41 bt314.1 t278).bind fun t318 => (if t318 = true then (laws_FnExactLeafRow.j2 kj41 bt305.2 bt305.1 (bt314.2 != t281)) else (laws_FnExactLeafRow.j2 kj41 bt305.2 bt305.1 true))))) else (some false))))) = some r := by rw [if_neg (show ¬ (false = true) by decide)] at H; exact H
         clear H
         have H := H1
         clear H1
         replace H := Option.bind_eq_some_iff.mp H
         obtain ⟨⟨t305, t306⟩, A610, H⟩ := H
         replace H : ((laws_heldLoadS.f kj41 t306 1).bind fun t307 => (if t307 < 0 then (some false) else (if t307 = t305 then ((laws_toMobile.f kj41 l0_0 l0_1).bind fun bt308 => ((impl_LeafRow.f kj41 bt308.1 bt308.2 a1).bind fun bt314 => ((laws_eqLoadS.f kj41 bt314.1 t278).bind fun t318 => (if t318 = true then (laws_FnExactLeafRow.j2 kj41 t306 t305 (bt314.2 != t281)) else (laws_FnExactLeafRow.j2 kj41 t306 t305 true))))) else (some false)))) = some r := H
         have A61 := Aside0.mk A610
         clear A610
         replace H := Option.bind_eq_some_iff.mp H
         obtain ⟨t307, A620, H⟩ := H
         replace H : (if t307 < 0 then (some false) else (if t307 = t305 then ((laws_toMobile.f kj41 l0_0 l0_1).bind fun bt308 => ((impl_LeafRow.f kj41 bt308.1 bt308.2 a1).bind fun bt314 => ((laws_eqLoadS.f kj41 bt314.1 t278).bind fun t318 => (if t318 = true then (laws_FnExactLeafRow.j2 kj41 t306 t305 (bt314.2 != t281)) else (laws_FnExactLeafRow.j2 kj41 t306 t305 true))))) else (some false))) = some r := H
         have A62 := Aside0.mk A620
         clear A620
         by_cases c63 : t307 < 0
         ·
          rw [if_pos c63] at H
          have c63b0 : decide (t307 < 0) = true := decide_eq_true c63
          clear c63
          obtain rfl := Option.some.inj H
          obtain ⟨Ao64, co64, eo64⟩ := Kd.R_slice HO_9.out
          subst eo64
          go_wp2_with (first | ((with_reducible refine gate_callee (f := 42) rfl ?_); refine goesL_ (some 68) rfl rfl Try.func42 (by kernel_rfl) rfl #[.slice Ao64 t289.length co64, .int .i64 1] rfl tM ?_; (with_reducible refine (laws_markLoadS.calls kj41 (fun k_ => some k_ = (.slice Ao64 t289.length co64 : Value).ownBlock) (.slice Ao64 t289.length co64) t289 1 t305 t306 w _ ?side1 ?side2 A61.out).mono ?_); (case side1 => repeat (first | (with_reducible first | exact HB.out | apply below_alloc | apply pw_below_drewN | apply below_drew1 | refine below_set ?_ GE270.out | refine below_set ?_ GE288.out) | exact HB.out)); (case side2 => exact Kd.R_tight rfl HO_9.out); rintro e w65 ⟨rfl, hy0, hb, hkp⟩; refine ⟨_, rfl, ?_⟩; replace HO_6 := Aside0.mk (Kd.R_mono (ok' := fun k_ => some k_ ≠ (.slice Ao64 t289.length co64 : Value).ownBlock) (Kd.R_keptB (HO_6.out) hkp (fun k_ hk_ hs_ => (hk_) hs_)) (fun k_ hk_ => hk_.1)); replace HO_289000 := Aside0.mk (Kd.R_mono (ok' := fun k_ => some k_ ≠ (.slice Ao27 t303.length co27 : Value).ownBlock) (Kd.R_keptB ((Kd.R_apart' HO_289000.out (Kd.R_typed HO_9.out) (by decide))) hkp (fun k_ hk_ hs_ => (hk_.2) hs_)) (fun k_ hk_ => hk_.1.1)); replace HO_289001 := Aside0.mk (Kd.R_mono (ok' := fun k_ => some k_ ≠ (.slice Ao24 t302.length co24 : Value).ownBlock) (Kd.R_keptB ((Kd.R_apart' HO_289001.out (Kd.R_typed HO_9.out) (by decide))) hkp (fun k_ hk_ hs_ => (hk_.2) hs_)) (fun k_ hk_ => hk_.1.1)); replace BK270 := Aside0.mk (blk_kept (tK BK270.out) hkp (fun hs_ => (fun e_ => (Kd.R_ne HO_9.out BK270.out (by decide)) e_) hs_)); replace BK288 := Aside0.mk (blk_kept (tK BK288.out) hkp (fun hs_ => (fun e_ => (Kd.R_ne HO_9.out BK288.out (by decide)) e_) hs_)); replace HO_9 := Aside0.mk (Kd.R_reok rfl hy0 (fun k_ e_ => HO_9.out.1 k_ e_)); replace HB := Aside0.mk (hb); (try clear hb); (try clear hkp); (try clear hy0)) | ((with_reducible refine gate_callee (f := 43) rfl ?_); refine goesL_ (some 71) rfl rfl Try.func43 (by kernel_rfl) rfl #[.slice Ao64 t306.length co64, .int .i64 1] rfl (by (try simp only [List.map_toArray, List.map_cons, List.map_nil]); first | done | (rw [show t306.length = t289.length from (Kd.R_reads' HO_9.out).1.symm] <;> rfl) | rfl | (simp only [List.length_drop, List.length_take]; rfl)) ?_; (with_reducible refine (laws_heldLoadS.calls kj41 _ _ t306 1 t307 _ ?side1 ?side2 A62.out).mono ?_); (case side1 => exact tC (Kd.R_reads' HO_9.out).2.2); (case side2 => rw [show t306.length = t289.length from (Kd.R_reads' HO_9.out).1.symm]; exact (Kd.R_reads' HO_9.out).2.1); rintro e w' ⟨rfl, ⟨nd, rfl⟩⟩; refine ⟨_, rfl, ?_⟩))
          go_ret
          exact ⟨by first | rfl | (simp [errW_none, errW_some] <;> rfl) | (simp [*, errW_none, errW_some] <;> rfl), tB HB.out⟩
         ·
          rw [if_neg c63] at H
          have c63b0 : decide (t307 < 0) = false := decide_eq_false c63
          clear c63
          by_cases c66 : t307 = t305
          ·
           rw [if_pos c66] at H
           have c66b0 : (t307 == t305) = true := beq_iff_eq.mpr c66
           have c66b1 : (t307 != t305) = false := bne_eq_false_iff_eq.mpr c66
           clear c66
           replace H := Option.bind_eq_some_iff.mp H
           obtain ⟨⟨t308, t311⟩, A670, H⟩ := H
           replace H : ((impl_LeafRow.f kj41 t308 t311 a1).bind fun bt314 => ((laws_eqLoadS.f kj41 bt314.1 t278).bind fun t318 => (if t318 = true then (laws_FnExactLeafRow.j2 kj41 t306 t305 (bt314.2 != t281)) else (laws_FnExactLeafRow.j2 kj41 t306 t305 true)))) = some r := H
           have A67 := Aside0.mk A670
           clear A670
           replace H := Option.bind_eq_some_iff.mp H
           obtain ⟨⟨t314, t317⟩, A680, H⟩ := H
           replace H : ((laws_eqLoadS.f kj41 t314 t278).bind fun t318 => (if t318 = true then (laws_FnExactLeafRow.j2 kj41 t306 t305 (t317 != t281)) else (laws_FnExactLeafRow.j2 kj41 t306 t305 true))) = some r := H
           have A68 := Aside0.mk A680
           clear A680
           have HC69 := Aside0.mk H
           clear H
           obtain ⟨Ao70, co70, eo70⟩ := Kd.R_slice HO_9.out
           subst eo70
           go_upto_region 25 with (first | ((with_reducible refine gate_callee (f := 42) rfl ?_); refine goesL_ (some 68) rfl rfl Try.func42 (by kernel_rfl) rfl #[.slice Ao70 t289.length co70, .int .i64 1] rfl tM ?_; (with_reducible refine (laws_markLoadS.calls kj41 (fun k_ => some k_ = (.slice Ao70 t289.length co70 : Value).ownBlock) (.slice Ao70 t289.length co70) t289 1 t305 t306 w _ ?side1 ?side2 A61.out).mono ?_); (case side1 => repeat (first | (with_reducible first | exact HB.out | apply below_alloc | apply pw_below_drewN | apply below_drew1 | refine below_set ?_ GE270.out | refine below_set ?_ GE288.out) | exact HB.out)); (case side2 => exact Kd.R_tight rfl HO_9.out); rintro e w71 ⟨rfl, hy0, hb, hkp⟩; refine ⟨_, rfl, ?_⟩; replace HO_6 := Aside0.mk (Kd.R_mono (ok' := fun k_ => some k_ ≠ (.slice Ao70 t289.length co70 : Value).ownBlock) (Kd.R_keptB (HO_6.out) hkp (fun k_ hk_ hs_ => (hk_) hs_)) (fun k_ hk_ => hk_.1)); replace HO_289000 := Aside0.mk (Kd.R_mono (ok' := fun k_ => some k_ ≠ (.slice Ao27 t303.length co27 : Value).ownBlock) (Kd.R_keptB ((Kd.R_apart' HO_289000.out (Kd.R_typed HO_9.out) (by decide))) hkp (fun k_ hk_ hs_ => (hk_.2) hs_)) (fun k_ hk_ => hk_.1.1)); replace HO_289001 := Aside0.mk (Kd.R_mono (ok' := fun k_ => some k_ ≠ (.slice Ao24 t302.length co24 : Value).ownBlock) (Kd.R_keptB ((Kd.R_apart' HO_289001.out (Kd.R_typed HO_9.out) (by decide))) hkp (fun k_ hk_ hs_ => (hk_.2) hs_)) (fun k_ hk_ => hk_.1.1)); replace BK270 := Aside0.mk (blk_kept (tK BK270.out) hkp (fun hs_ => (fun e_ => (Kd.R_ne HO_9.out BK270.out (by decide)) e_) hs_)); replace BK288 := Aside0.mk (blk_kept (tK BK288.out) hkp (fun hs_ => (fun e_ => (Kd.R_ne HO_9.out BK288.out (by decide)) e_) hs_)); replace HO_9 := Aside0.mk (Kd.R_reok rfl hy0 (fun k_ e_ => HO_9.out.1 k_ e_)); replace HB := Aside0.mk (hb); (try clear hb); (try clear hkp); (try clear hy0)) | ((with_reducible refine gate_callee (f := 43) rfl ?_); refine goesL_ (some 71) rfl rfl Try.func43 (by kernel_rfl) rfl #[.slice Ao70 t306.length co70, .int .i64 1] rfl (by (try simp only [List.map_toArray, List.map_cons, List.map_nil]); first | done | (rw [show t306.length = t289.length from (Kd.R_reads' HO_9.out).1.symm] <;> rfl) | rfl | (simp only [List.length_drop, List.length_take]; rfl)) ?_; (with_reducible refine (laws_heldLoadS.calls kj41 _ _ t306 1 t307 _ ?side1 ?side2 A62.out).mono ?_); (case side1 => exact tC (Kd.R_reads' HO_9.out).2.2); (case side2 => rw [show t306.length = t289.length from (Kd.R_reads' HO_9.out).1.symm]; exact (Kd.R_reads' HO_9.out).2.1); rintro e w' ⟨rfl, ⟨nd, rfl⟩⟩; refine ⟨_, rfl, ?_⟩; have hnb72 := NB270_288.out; have hnc72 := NB288_270.out; obtain ⟨hcz73_0, hfz73_0, hcz73_1, hfz73_1⟩ := cz2 BK270) | ((with_reducible refine gate_callee (f := 17) rfl ?_); refine goesL_ (some 79) rfl rfl Try.func17 (by kernel_rfl) rfl #[.agg #[.slice A0_0 l0_0.length c0_0, .slice A0_1 l0_1.length c0_1]] rfl tM ?_; (with_reducible refine (laws_toMobile.calls kj41 _ _ l0_0 _ _ l0_1 t308 t311 _ ?side1 ?side2 ?side3 ?side4 A67.out).mono ?_); (case side1 => exact tC (Kd.C_below HR0_0.out (tB HB.out))); (case side2 => exact HC0_0.out); (case side3 => exact tC (Kd.C_below HR0_1.out (tB HB.out))); (case side4 => exact HC0_1.out); rintro e w74 ⟨v309, v312, rfl, ho0, ho1, hb⟩; refine ⟨_, rfl, ?_⟩; replace HO_6 := Aside0.mk (Kd.R_below (tR HO_6.out) hb); replace HO_9 := Aside0.mk (Kd.R_below (tR HO_9.out) hb); have HO310 := Aside0.mk (Kd.R_lower (Kd.R_new' (Kd.R_new' ho0 (Kd.R_lt (tR HO_289000.out))) (Kd.R_lt (tR HO_289001.out))) (below_size (tB HB.out))); have HO313 := Aside0.mk (Kd.R_lower (Kd.R_new' (Kd.R_new' ho1 (Kd.R_lt (tR HO_289000.out))) (Kd.R_lt (tR HO_289001.out))) (below_size (tB HB.out))); replace HO_289000 := Aside0.mk (Kd.R_mono (Kd.R_told (Kd.R_told (Kd.R_old (tR HO_289000.out) hb) (Kd.R_base ho0)) (Kd.R_base ho1)) (fun _ h_ => h_.1)); replace HO_289001 := Aside0.mk (Kd.R_mono (Kd.R_told (Kd.R_told (Kd.R_old (tR HO_289001.out) hb) (Kd.R_base ho0)) (Kd.R_base ho1)) (fun _ h_ => h_.1)); replace BK270 := bkB BK270 hb; replace BK288 := bkB BK288 hb; replace HB := Aside0.mk (below_step (tB HB.out) hb); (try clear hb); (try clear hb2); (try clear hk); (try clear hi); (try clear ho0); (try clear ho1); obtain ⟨Ao75, co75, eo75⟩ := Kd.R_slice HO310.out; subst eo75; obtain ⟨Ao76, co76, eo76⟩ := Kd.R_slice HO313.out; subst eo76) | ((with_reducible refine gate_callee (f := 40) rfl ?_); refine goesL_ (some 81) rfl rfl Try.func40 (by kernel_rfl) rfl #[.agg #[.slice Ao75 t308.length co75, .slice Ao76 t311.length co76], .int .i64 a1] rfl tM ?_; (with_reducible refine (impl_LeafRow.calls kj41 _ _ t308 _ _ t311 a1 t314 t317 _ ?side1 ?side2 ?side3 ?side4 A68.out).mono ?_); (case side1 => exact tC (Kd.R_reads' HO310.out).2.2); (case side2 => exact (Kd.R_reads' HO310.out).2.1); (case side3 => exact tC (Kd.R_reads' HO313.out).2.2); (case side4 => exact (Kd.R_reads' HO313.out).2.1); rintro e w77 ⟨v315, rfl, ho0, hb⟩; refine ⟨_, rfl, ?_⟩; replace HO_289000 := Aside0.mk (Kd.R_below (tR HO_289000.out) hb); replace HO_289001 := Aside0.mk (Kd.R_below (tR HO_289001.out) hb); replace HO310 := Aside0.mk (Kd.R_below (tR HO310.out) hb); replace HO313 := Aside0.mk (Kd.R_below (tR HO313.out) hb); have HO316 := Aside0.mk (Kd.R_lower (Kd.R_new' (Kd.R_new' ho0 (Kd.R_lt (tR HO_6.out))) (Kd.R_lt (tR HO_9.out))) (below_size (tB HB.out))); replace HO_6 := Aside0.mk (Kd.R_elder' (tR HO_6.out) (Kd.R_base ho0) hb); replace HO_9 := Aside0.mk (Kd.R_elder' (tR HO_9.out) (Kd.R_base ho0) hb); replace BK270 := bkB BK270 hb; replace BK288 := bkB BK288 hb; replace HB := Aside0.mk (below_step (tB HB.out) hb); (try clear hb); (try clear hb2); (try clear hk); (try clear hi); (try clear ho0)))
           (try simp only [Act.put, List.setIfInBounds_toArray, List.set_cons_zero, List.set_cons_succ])
           go_cut [92] (fun v92 wc => ∃ (kq : Nat) (x92_68 : Bool), v92 = .bool x92_68 ∧ Aside0 (laws_FnExactLeafRow.j2 kq t306 t305 x92_68 = some r) ∧ Aside0 (kq ≤ kj41) ∧ Aside0 (Kd.R k67 67 wc w.heap.size (fun _ => True) (.slice Ao70 t289.length co70) t306) ∧ Aside0 (Kd.R k58 58 wc w.heap.size (fun k_ => some k_ ≠ ((.slice Ao27 t303.length co27) : Value).ownBlock) (.slice Ao24 t302.length co24) t302) ∧ Aside0 (Kd.R k58 58 wc w.heap.size (fun k_ => some k_ ≠ ((.slice Ao24 t302.length co24) : Value).ownBlock) (.slice Ao27 t303.length co27) t303) ∧ Aside0 (wc.heap[gb270]? = some (.cells #[(.slice A0_0 l0_0.length c0_0), (.slice A0_1 l0_1.length c0_1)] 24 (0, 0))) ∧ Aside0 (wc.heap[gb288]? = some (.cells #[(.slice Ao24 t302.length co24), (.slice Ao27 t303.length co27)] 27 (0, 0))) ∧ Aside0 (Below w.heap.size w wc))
           case first =>
            have H := HC69.out
            clear HC69
            replace H := Option.bind_eq_some_iff.mp H
            obtain ⟨t318, A780, H⟩ := H
            replace H : (if t318 = true then (laws_FnExactLeafRow.j2 kj41 t306 t305 (t317 != t281)) else (laws_FnExactLeafRow.j2 kj41 t306 t305 true)) = some r := H
            have A78 := Aside0.mk A780
            clear A780
            by_cases c79 : t318 = true
            ·
             subst c79
             have H1 : (laws_FnExactLeafRow.j2 kj41 t306 t305 (t317 != t281)) = some r := by rw [if_pos rfl] at H; exact H
             clear H
             have H := H1
             clear H1
             have H' := Aside0.mk H
             clear H
             obtain ⟨Ao80, co80, eo80⟩ := Kd.R_slice HO316.out
             subst eo80
             obtain ⟨Ao81, co81, eo81⟩ := Kd.R_slice HO_6.out
             subst eo81
             go_wp2_with (first | ((with_reducible refine gate_callee (f := 41) rfl ?_); refine goesL_ (some 86) rfl rfl Try.func41 (by kernel_rfl) rfl #[.slice Ao80 t314.length co80, .slice Ao81 t278.length co81] rfl tM ?_; (with_reducible refine (laws_eqLoadS.calls kj41 _ _ t314 _ _ t278 true _ ?side1 ?side2 ?side3 ?side4 A78.out).mono ?_); (case side1 => exact tC (Kd.R_reads' HO316.out).2.2); (case side2 => exact (Kd.R_reads' HO316.out).2.1); (case side3 => exact tC (Kd.R_reads' HO_6.out).2.2); (case side4 => exact (Kd.R_reads' HO_6.out).2.1); rintro e w82 ⟨rfl, hb⟩; refine ⟨_, rfl, ?_⟩; replace HO_6 := Aside0.mk (Kd.R_below (tR HO_6.out) hb); replace HO_9 := Aside0.mk (Kd.R_below (tR HO_9.out) hb); replace HO_289000 := Aside0.mk (Kd.R_below (tR HO_289000.out) hb); replace HO_289001 := Aside0.mk (Kd.R_below (tR HO_289001.out) hb); replace HO310 := Aside0.mk (Kd.R_below (tR HO310.out) hb); replace HO313 := Aside0.mk (Kd.R_below (tR HO313.out) hb); replace HO316 := Aside0.mk (Kd.R_below (tR HO316.out) hb); replace BK270 := bkB BK270 hb; replace BK288 := bkB BK288 hb; replace HB := Aside0.mk (below_step (tB HB.out) hb); (try clear hb); (try clear hb2); (try clear hk); (try clear hi)))
             go_meet
             case rel => exact ⟨_, ((t317 != t281)), (by first | rfl | (simp; done) | (simp [wrap64]; done) | (simp [*]; done)), H', ⟨by have := HJ11.out; have := HJ41.out; first | omega | exact Nat.le_refl _⟩, ⟨by (try simp only [hl289000_41]); (try simp only [hl289001_41]); (with_reducible repeat (first | apply Kd.R_alloc | apply Kd.R_drewN | apply Kd.R_drew)); exact Kd.R_mono HO_9.out (fun _ hk => trivial)⟩, ⟨by (try simp only [hl289000_41]); (try simp only [hl289001_41]); (with_reducible repeat (first | apply Kd.R_alloc | apply Kd.R_drewN | apply Kd.R_drew)); exact Kd.R_mono HO_289000.out (fun _ hk => hk.1.1)⟩, ⟨by (try simp only [hl289000_41]); (try simp only [hl289001_41]); (with_reducible repeat (first | apply Kd.R_alloc | apply Kd.R_drewN | apply Kd.R_drew)); exact Kd.R_mono HO_289001.out (fun _ hk => hk.1.1)⟩, ⟨by (try simp only [hl289000_41]); (try simp only [hl289001_41]); (with_reducible repeat (first | refine blk_drewN ?_ _ | refine blk_drew ?_ | refine blk_alloc ?_ _)); exact BK270.out⟩, ⟨by (try simp only [hl289000_41]); (try simp only [hl289001_41]); (with_reducible repeat (first | refine blk_drewN ?_ _ | refine blk_drew ?_ | refine blk_alloc ?_ _)); exact BK288.out⟩, ⟨tB HB.out⟩⟩
            ·
             replace c79 := Bool.eq_false_iff.mpr c79
             subst c79
             have H1 : (laws_FnExactLeafRow.j2 kj41 t306 t305 true) = some r := by rw [if_neg (show ¬ (false = true) by decide)] at H; exact H
             clear H
             have H := H1
             clear H1
             have H' := Aside0.mk H
             clear H
             obtain ⟨Ao83, co83, eo83⟩ := Kd.R_slice HO316.out
             subst eo83
             obtain ⟨Ao84, co84, eo84⟩ := Kd.R_slice HO_6.out
             subst eo84
             go_wp2_with (first | ((with_reducible refine gate_callee (f := 41) rfl ?_); refine goesL_ (some 86) rfl rfl Try.func41 (by kernel_rfl) rfl #[.slice Ao83 t314.length co83, .slice Ao84 t278.length co84] rfl tM ?_; (with_reducible refine (laws_eqLoadS.calls kj41 _ _ t314 _ _ t278 false _ ?side1 ?side2 ?side3 ?side4 A78.out).mono ?_); (case side1 => exact tC (Kd.R_reads' HO316.out).2.2); (case side2 => exact (Kd.R_reads' HO316.out).2.1); (case side3 => exact tC (Kd.R_reads' HO_6.out).2.2); (case side4 => exact (Kd.R_reads' HO_6.out).2.1); rintro e w85 ⟨rfl, hb⟩; refine ⟨_, rfl, ?_⟩; replace HO_6 := Aside0.mk (Kd.R_below (tR HO_6.out) hb); replace HO_9 := Aside0.mk (Kd.R_below (tR HO_9.out) hb); replace HO_289000 := Aside0.mk (Kd.R_below (tR HO_289000.out) hb); replace HO_289001 := Aside0.mk (Kd.R_below (tR HO_289001.out) hb); replace HO310 := Aside0.mk (Kd.R_below (tR HO310.out) hb); replace HO313 := Aside0.mk (Kd.R_below (tR HO313.out) hb); replace HO316 := Aside0.mk (Kd.R_below (tR HO316.out) hb); replace BK270 := bkB BK270 hb; replace BK288 := bkB BK288 hb; replace HB := Aside0.mk (below_step (tB HB.out) hb); (try clear hb); (try clear hb2); (try clear hk); (try clear hi)))
             go_meet
             case rel => exact ⟨_, (true), (by first | rfl | (simp; done) | (simp [wrap64]; done) | (simp [*]; done)), H', ⟨by have := HJ11.out; have := HJ41.out; first | omega | exact Nat.le_refl _⟩, ⟨by (try simp only [hl289000_41]); (try simp only [hl289001_41]); (with_reducible repeat (first | apply Kd.R_alloc | apply Kd.R_drewN | apply Kd.R_drew)); exact Kd.R_mono HO_9.out (fun _ hk => trivial)⟩, ⟨by (try simp only [hl289000_41]); (try simp only [hl289001_41]); (with_reducible repeat (first | apply Kd.R_alloc | apply Kd.R_drewN | apply Kd.R_drew)); exact Kd.R_mono HO_289000.out (fun _ hk => hk.1.1)⟩, ⟨by (try simp only [hl289000_41]); (try simp only [hl289001_41]); (with_reducible repeat (first | apply Kd.R_alloc | apply Kd.R_drewN | apply Kd.R_drew)); exact Kd.R_mono HO_289001.out (fun _ hk => hk.1.1)⟩, ⟨by (try simp only [hl289000_41]); (try simp only [hl289001_41]); (with_reducible repeat (first | refine blk_drewN ?_ _ | refine blk_drew ?_ | refine blk_alloc ?_ _)); exact BK270.out⟩, ⟨by (try simp only [hl289000_41]); (try simp only [hl289001_41]); (with_reducible repeat (first | refine blk_drewN ?_ _ | refine blk_drew ?_ | refine blk_alloc ?_ _)); exact BK288.out⟩, ⟨tB HB.out⟩⟩
           case rest =>
            clear HC69
            try clear c1
            try clear c2
            try clear p2
            try clear c3
            try clear c4
            try clear c4b0
            try clear c5
            try clear c6
            try clear p6
            try clear c7
            try clear c11
            try clear c15
            try clear c17
            try clear c19
            try clear c24
            try clear c25
            try clear c30
            try clear c37
            try clear c39
            try clear c40
            try clear c41
            try clear c42
            try clear c43
            try clear c48
            try clear c51
            try clear c51b0
            try clear c53
            try clear c60
            try clear c63
            try clear c63b0
            try clear p64
            try clear c66
            try clear c66b0
            try clear c66b1
            try clear c72
            try clear c79
            try clear hcz14_0
            try clear hcz14_1
            try clear hcz16_0
            try clear hcz16_1
            try clear hcz21_0
            try clear hcz21_1
            try clear hcz26_0
            try clear hcz26_1
            try clear hcz49_0
            try clear hcz49_1
            try clear hcz6_0
            try clear hcz6_1
            try clear hcz73_0
            try clear hcz73_1
            try clear hfz14_0
            try clear hfz14_1
            try clear hfz16_0
            try clear hfz16_1
            try clear hfz21_0
            try clear hfz21_1
            try clear hfz26_0
            try clear hfz26_1
            try clear hfz49_0
            try clear hfz49_1
            try clear hfz6_0
            try clear hfz6_1
            try clear hfz73_0
            try clear hfz73_1
            try clear p2
            try clear p6
            obtain ⟨kq, x92_68, rfl, HA, HJ68, HO_9, HO_289000, HO_289001, BK270, BK288, HB⟩ := hcut
            have hl9_68 := (Kd.R_reads' HO_9.out).1
            rw [hl9_68] at HO_9
            (try simp only [hl9_68])
            (try simp only [hl9_68] at BK270)
            (try simp only [hl9_68] at BK288)
            (try simp only [hl9_68] at HO_289000)
            (try simp only [hl9_68] at HO_289001)
            cases kq with
            | zero => exact absurd HA.out (by simp [laws_FnExactLeafRow.j2])
            | succ kj68 =>
             have H := HA.out
             clear HA
             simp only [laws_FnExactLeafRow.j2] at H
             by_cases c86 : x92_68 = true
             ·
              subst c86
              have H1 : (some false) = some r := by rw [if_pos rfl] at H; exact H
              clear H
              have H := H1
              clear H1
              obtain rfl := Option.some.inj H
              go_wp2
              go_ret
              exact ⟨by first | rfl | (simp [errW_none, errW_some] <;> rfl) | (simp [*, errW_none, errW_some] <;> rfl), tB HB.out⟩
             ·
              replace c86 := Bool.eq_false_iff.mpr c86
              subst c86
              have H1 : ((laws_heldLoadS.f kj68 t306 1).bind fun t319 => (if t319 < 0 then (some false) else (if t319 = t305 then (some true) else (some false)))) = some r := by rw [if_neg (show ¬ (false = true) by decide)] at H; exact H
              clear H
              have H := H1
              clear H1
              replace H := Option.bind_eq_some_iff.mp H
              obtain ⟨t319, A870, H⟩ := H
              replace H : (if t319 < 0 then (some false) else (if t319 = t305 then (some true) else (some false))) = some r := H
              have A87 := Aside0.mk A870
              clear A870
              by_cases c88 : t319 < 0
              ·
               rw [if_pos c88] at H
               have c88b0 : decide (t319 < 0) = true := decide_eq_true c88
               clear c88
               obtain rfl := Option.some.inj H
               go_wp2_with (first | ((with_reducible refine gate_callee (f := 43) rfl ?_); refine goesL_ (some 95) rfl rfl Try.func43 (by kernel_rfl) rfl #[.slice Ao70 t306.length co70, .int .i64 1] rfl tM ?_; (with_reducible refine (laws_heldLoadS.calls kj68 _ _ t306 1 t319 _ ?side1 ?side2 A87.out).mono ?_); (case side1 => exact tC (Kd.R_reads' HO_9.out).2.2); (case side2 => exact (Kd.R_reads' HO_9.out).2.1); rintro e w' ⟨rfl, ⟨nd, rfl⟩⟩; refine ⟨_, rfl, ?_⟩))
               go_ret
               exact ⟨by first | rfl | (simp [errW_none, errW_some] <;> rfl) | (simp [*, errW_none, errW_some] <;> rfl), tB HB.out⟩
              ·
               rw [if_neg c88] at H
               have c88b0 : decide (t319 < 0) = false := decide_eq_false c88
               clear c88
               by_cases c89 : t319 = t305
               ·
                rw [if_pos c89] at H
                have c89b0 : (t319 == t305) = true := beq_iff_eq.mpr c89
                have c89b1 : (t319 != t305) = false := bne_eq_false_iff_eq.mpr c89
                clear c89
                obtain rfl := Option.some.inj H
                go_wp2_with (first | ((with_reducible refine gate_callee (f := 43) rfl ?_); refine goesL_ (some 95) rfl rfl Try.func43 (by kernel_rfl) rfl #[.slice Ao70 t306.length co70, .int .i64 1] rfl tM ?_; (with_reducible refine (laws_heldLoadS.calls kj68 _ _ t306 1 t319 _ ?side1 ?side2 A87.out).mono ?_); (case side1 => exact tC (Kd.R_reads' HO_9.out).2.2); (case side2 => exact (Kd.R_reads' HO_9.out).2.1); rintro e w' ⟨rfl, ⟨nd, rfl⟩⟩; refine ⟨_, rfl, ?_⟩))
                go_ret
                exact ⟨by first | rfl | (simp [errW_none, errW_some] <;> rfl) | (simp [*, errW_none, errW_some] <;> rfl), tB HB.out⟩
               ·
                rw [if_neg c89] at H
                have c89b0 : (t319 == t305) = false := beq_eq_false_iff_ne.mpr c89
                have c89b1 : (t319 != t305) = true := bne_iff_ne.mpr c89
                obtain rfl := Option.some.inj H
                go_wp2_with (first | ((with_reducible refine gate_callee (f := 43) rfl ?_); refine goesL_ (some 95) rfl rfl Try.func43 (by kernel_rfl) rfl #[.slice Ao70 t306.length co70, .int .i64 1] rfl tM ?_; (with_reducible refine (laws_heldLoadS.calls kj68 _ _ t306 1 t319 _ ?side1 ?side2 A87.out).mono ?_); (case side1 => exact tC (Kd.R_reads' HO_9.out).2.2); (case side2 => exact (Kd.R_reads' HO_9.out).2.1); rintro e w' ⟨rfl, ⟨nd, rfl⟩⟩; refine ⟨_, rfl, ?_⟩))
                go_ret
                exact ⟨by first | rfl | (simp [errW_none, errW_some] <;> rfl) | (simp [*, errW_none, errW_some] <;> rfl), tB HB.out⟩
          ·
           rw [if_neg c66] at H
           have c66b0 : (t307 == t305) = false := beq_eq_false_iff_ne.mpr c66
           have c66b1 : (t307 != t305) = true := bne_iff_ne.mpr c66
           obtain rfl := Option.some.inj H
           obtain ⟨Ao90, co90, eo90⟩ := Kd.R_slice HO_9.out
           subst eo90
           go_wp2_with (first | ((with_reducible refine gate_callee (f := 42) rfl ?_); refine goesL_ (some 68) rfl rfl Try.func42 (by kernel_rfl) rfl #[.slice Ao90 t289.length co90, .int .i64 1] rfl tM ?_; (with_reducible refine (laws_markLoadS.calls kj41 (fun k_ => some k_ = (.slice Ao90 t289.length co90 : Value).ownBlock) (.slice Ao90 t289.length co90) t289 1 t305 t306 w _ ?side1 ?side2 A61.out).mono ?_); (case side1 => repeat (first | (with_reducible first | exact HB.out | apply below_alloc | apply pw_below_drewN | apply below_drew1 | refine below_set ?_ GE270.out | refine below_set ?_ GE288.out) | exact HB.out)); (case side2 => exact Kd.R_tight rfl HO_9.out); rintro e w91 ⟨rfl, hy0, hb, hkp⟩; refine ⟨_, rfl, ?_⟩; replace HO_6 := Aside0.mk (Kd.R_mono (ok' := fun k_ => some k_ ≠ (.slice Ao90 t289.length co90 : Value).ownBlock) (Kd.R_keptB (HO_6.out) hkp (fun k_ hk_ hs_ => (hk_) hs_)) (fun k_ hk_ => hk_.1)); replace HO_289000 := Aside0.mk (Kd.R_mono (ok' := fun k_ => some k_ ≠ (.slice Ao27 t303.length co27 : Value).ownBlock) (Kd.R_keptB ((Kd.R_apart' HO_289000.out (Kd.R_typed HO_9.out) (by decide))) hkp (fun k_ hk_ hs_ => (hk_.2) hs_)) (fun k_ hk_ => hk_.1.1)); replace HO_289001 := Aside0.mk (Kd.R_mono (ok' := fun k_ => some k_ ≠ (.slice Ao24 t302.length co24 : Value).ownBlock) (Kd.R_keptB ((Kd.R_apart' HO_289001.out (Kd.R_typed HO_9.out) (by decide))) hkp (fun k_ hk_ hs_ => (hk_.2) hs_)) (fun k_ hk_ => hk_.1.1)); replace BK270 := Aside0.mk (blk_kept (tK BK270.out) hkp (fun hs_ => (fun e_ => (Kd.R_ne HO_9.out BK270.out (by decide)) e_) hs_)); replace BK288 := Aside0.mk (blk_kept (tK BK288.out) hkp (fun hs_ => (fun e_ => (Kd.R_ne HO_9.out BK288.out (by decide)) e_) hs_)); replace HO_9 := Aside0.mk (Kd.R_reok rfl hy0 (fun k_ e_ => HO_9.out.1 k_ e_)); replace HB := Aside0.mk (hb); (try clear hb); (try clear hkp); (try clear hy0)) | ((with_reducible refine gate_callee (f := 43) rfl ?_); refine goesL_ (some 71) rfl rfl Try.func43 (by kernel_rfl) rfl #[.slice Ao90 t306.length co90, .int .i64 1] rfl (by (try simp only [List.map_toArray, List.map_cons, List.map_nil]); first | done | (rw [show t306.length = t289.length from (Kd.R_reads' HO_9.out).1.symm] <;> rfl) | rfl | (simp only [List.length_drop, List.length_take]; rfl)) ?_; (with_reducible refine (laws_heldLoadS.calls kj41 _ _ t306 1 t307 _ ?side1 ?side2 A62.out).mono ?_); (case side1 => exact tC (Kd.R_reads' HO_9.out).2.2); (case side2 => rw [show t306.length = t289.length from (Kd.R_reads' HO_9.out).1.symm]; exact (Kd.R_reads' HO_9.out).2.1); rintro e w' ⟨rfl, ⟨nd, rfl⟩⟩; refine ⟨_, rfl, ?_⟩))
           go_ret
           exact ⟨by first | rfl | (simp [errW_none, errW_some] <;> rfl) | (simp [*, errW_none, errW_some] <;> rfl), tB HB.out⟩
     ·
      replace c40 := Bool.eq_false_iff.mpr c40
      subst c40
      have H1 : (some false) = some r := by rw [if_neg (show ¬ (false = true) by decide)] at H; exact H
      clear H
      have H := H1
      clear H1
      obtain rfl := Option.some.inj H
      try go_wp2
      replace HO_6 := Aside0.mk (Kd.R_drew HO_6.out)
      replace HO_9 := Aside0.mk (Kd.R_drew HO_9.out)
      replace HO_289000 := Aside0.mk (Kd.R_drew HO_289000.out)
      replace HO_289001 := Aside0.mk (Kd.R_drew HO_289001.out)
      replace BK270 := Aside0.mk (blk_drew BK270.out)
      replace BK288 := Aside0.mk (blk_drew BK288.out)
      replace HB := Aside0.mk (below_drew1 HB.out)
      refine start_ (n := 5) (S := fun w' => w'.cell? ⟨gb288, 0, none⟩ = some (.slice Ao24 t282.length co24) ∧ w'.cell? ⟨gb288, 1, none⟩ = some (.slice Ao27 t285.length co27) ∧ w'.cell? ⟨gb270, 0, none⟩ = some (.slice A0_0 l0_0.length c0_0) ∧ w'.cell? ⟨gb270, 1, none⟩ = some (.slice A0_1 l0_1.length c0_1)) (ds := []) #[false, false, false, false, false] (by kernel_rfl) rfl rfl ⟨(blk_cell BK288.out 0).trans rfl, (blk_cell BK288.out 1).trans rfl, (blk_cell BK270.out 0).trans rfl, (blk_cell BK270.out 1).trans rfl⟩ (fun hHeld => ?_)
      generalize wc.drew = w92 at HO_6 HO_9 HO_289000 HO_289001 BK270 BK288 HB hHeld ⊢
      refine take_ (i := 0) (N := some 45) (v := ?_) (a' := ?_) #[true, false, false, false, false] rfl rfl (by kernel_rfl) (fun _ _ _ h => h) (Or.inl ⟨by rfl, ?_⟩) hHeld ?_ ?_
      rotate_left
      ·
       rintro w' ⟨s0, s1, s2, s3⟩
       go_simp
       with_reducible rfl
      rotate_left
      ·
       simp only [Act.put, List.setIfInBounds_toArray, List.set_cons_zero, List.set_cons_succ, i64_w, i32_w]
       rfl
      refine take_ (i := 1) (N := some 46) (v := ?_) (a' := ?_) #[true, true, false, false, false] rfl rfl (by kernel_rfl) (fun _ _ _ h => h) (Or.inl ⟨by rfl, ?_⟩) hHeld ?_ ?_
      rotate_left
      ·
       rintro w' ⟨s0, s1, s2, s3⟩
       go_simp
       with_reducible rfl
      rotate_left
      ·
       simp only [Act.put, List.setIfInBounds_toArray, List.set_cons_zero, List.set_cons_succ, i64_w, i32_w]
       rfl
      refine one_ (i := 2) (N := some 47) #[true, true, true, false, false] rfl rfl (by kernel_rfl) (by decide) (fun K hK => ?_)
      refine goes_ Try.func17 (by kernel_rfl) rfl #[.agg #[.slice A0_0 l0_0.length c0_0, .slice A0_1 l0_1.length c0_1]] (by rfl) rfl rfl tM ?_
      with_reducible refine (laws_toMobile.calls kj11 _ _ l0_0 _ _ l0_1 t294 t297 _ ?side1 ?side2 ?side3 ?side4 A38.out).mono ?_
      (case side1 => exact tC (Kd.C_below HR0_0.out HB.out))
      (case side2 => exact HC0_0.out)
      (case side3 => exact tC (Kd.C_below HR0_1.out HB.out))
      (case side4 => exact HC0_1.out)
      rintro e w93 ⟨v295, v298, rfl, ho0, ho1, hb⟩
      refine ⟨_, rfl, ?_⟩
      replace HO_6 := Aside0.mk (Kd.R_below (tR HO_6.out) hb)
      replace HO_9 := Aside0.mk (Kd.R_below (tR HO_9.out) hb)
      have HO296 := Aside0.mk (Kd.R_lower (Kd.R_new' (Kd.R_new' ho0 (Kd.R_lt (tR HO_289000.out))) (Kd.R_lt (tR HO_289001.out))) (below_size (tB HB.out)))
      have HO299 := Aside0.mk (Kd.R_lower (Kd.R_new' (Kd.R_new' ho1 (Kd.R_lt (tR HO_289000.out))) (Kd.R_lt (tR HO_289001.out))) (below_size (tB HB.out)))
      replace HO_289000 := Aside0.mk (Kd.R_mono (Kd.R_told (Kd.R_told (Kd.R_old (tR HO_289000.out) hb) (Kd.R_base ho0)) (Kd.R_base ho1)) (fun _ h_ => h_.1))
      replace HO_289001 := Aside0.mk (Kd.R_mono (Kd.R_told (Kd.R_told (Kd.R_old (tR HO_289001.out) hb) (Kd.R_base ho0)) (Kd.R_base ho1)) (fun _ h_ => h_.1))
      replace BK270 := bkB BK270 hb
      replace BK288 := bkB BK288 hb
      replace HB := Aside0.mk (below_step (tB HB.out) hb)
      (try clear hb)
      (try clear hb2)
      (try clear hk)
      (try clear hi)
      (try clear ho0)
      (try clear ho1)
      obtain ⟨Ao94, co94, eo94⟩ := Kd.R_slice HO296.out
      (first | subst eo94 | (injection eo94 with f1_ f2_ f3_; have f4_ := f1_.symm; have f5_ := f3_.symm; clear f1_ f2_ f3_; subst f4_; subst f5_))
      obtain ⟨Ao95, co95, eo95⟩ := Kd.R_slice HO299.out
      (first | subst eo95 | (injection eo95 with f1_ f2_ f3_; have f4_ := f1_.symm; have f5_ := f3_.symm; clear f1_ f2_ f3_; subst f4_; subst f5_))
      refine hK.out _ _ ⟨(blk_cell BK288.out 0).trans rfl, (blk_cell BK288.out 1).trans rfl, (blk_cell BK270.out 0).trans rfl, (blk_cell BK270.out 1).trans rfl⟩ (fun hHeld => ?_)
      clear hK K
      refine norm_ (a' := ?_) ?_ ?_
      rotate_left
      ·
       show Act.put _ (some 47) _ = _
       simp only [Act.put, List.setIfInBounds_toArray, List.set_cons_zero, List.set_cons_succ, i64_w, i32_w]
       rfl
      refine one_ (i := 3) (N := some 48) #[true, true, true, true, false] rfl rfl (by kernel_rfl) (by decide) (fun K hK => ?_)
      refine goes_ Try.func19 (by kernel_rfl) rfl #[.agg #[.slice Ao24 t282.length co24, .slice Ao27 t285.length co27], .agg #[.slice Ao94 t294.length co94, .slice Ao95 t297.length co95]] (by rfl) rfl rfl tM ?_
      with_reducible refine (laws_eqMobile.calls kj11 _ _ t282 _ _ t285 _ _ t294 _ _ t297 false _ ?side1 ?side2 ?side3 ?side4 ?side5 ?side6 ?side7 ?side8 A39.out).mono ?_
      (case side1 => exact tC (Kd.R_reads' HO_289000.out).2.2)
      (case side2 => exact (Kd.R_reads' HO_289000.out).2.1)
      (case side3 => exact tC (Kd.R_reads' HO_289001.out).2.2)
      (case side4 => exact (Kd.R_reads' HO_289001.out).2.1)
      (case side5 => exact tC (Kd.R_reads' HO296.out).2.2)
      (case side6 => exact (Kd.R_reads' HO296.out).2.1)
      (case side7 => exact tC (Kd.R_reads' HO299.out).2.2)
      (case side8 => exact (Kd.R_reads' HO299.out).2.1)
      rintro e w96 ⟨rfl, hb⟩
      refine ⟨_, rfl, ?_⟩
      replace HO_6 := Aside0.mk (Kd.R_below (tR HO_6.out) hb)
      replace HO_9 := Aside0.mk (Kd.R_below (tR HO_9.out) hb)
      replace HO_289000 := Aside0.mk (Kd.R_below (tR HO_289000.out) hb)
      replace HO_289001 := Aside0.mk (Kd.R_below (tR HO_289001.out) hb)
      replace HO296 := Aside0.mk (Kd.R_below (tR HO296.out) hb)
      replace HO299 := Aside0.mk (Kd.R_below (tR HO299.out) hb)
      replace BK270 := bkB BK270 hb
      replace BK288 := bkB BK288 hb
      replace HB := Aside0.mk (below_step (tB HB.out) hb)
      (try clear hb)
      (try clear hb2)
      (try clear hk)
      (try clear hi)
      refine hK.out _ _ ⟨(blk_cell BK288.out 0).trans rfl, (blk_cell BK288.out 1).trans rfl, (blk_cell BK270.out 0).trans rfl, (blk_cell BK270.out 1).trans rfl⟩ (fun hHeld => ?_)
      clear hK K
      refine norm_ (a' := ?_) ?_ ?_
      rotate_left
      ·
       show Act.put _ (some 48) _ = _
       simp only [Act.put, List.setIfInBounds_toArray, List.set_cons_zero, List.set_cons_succ, i64_w, i32_w]
       rfl
      refine pure_ (i := 4) (N := some 49) (v := ?_) (a' := ?_) #[true, true, true, true, true] rfl rfl (by kernel_rfl) (fun _ _ _ h => h) (Or.inl ⟨by rfl, ?_⟩) ?_ ?_
      rotate_left
      ·
       intro w'
       go_simp
       with_reducible rfl
      rotate_left
      ·
       simp only [Act.put, List.setIfInBounds_toArray, List.set_cons_zero, List.set_cons_succ, i64_w, i32_w]
       rfl
      refine done_ (by kernel_rfl) ?_
      try go_wp2
      go_ret
      exact ⟨by first | rfl | (simp [errW_none, errW_some] <;> rfl) | (simp [*, errW_none, errW_some] <;> rfl), tB HB.out⟩

end Go.Proofs.Ytbdajkfihbaapaa.PFnExactLeafRow

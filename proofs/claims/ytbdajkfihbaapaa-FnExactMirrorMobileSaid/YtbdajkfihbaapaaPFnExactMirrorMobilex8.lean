/- Printed by the program print2.py over the translation: each function as a Lean function, and the proof that the call comes to its answer. -/
import Derived.Test.YtbdajkfihbaapaaPFnExactMirrorMobilex0
import Derived.Test.YtbdajkfihbaapaaPFnExactMirrorMobilex1
import Derived.Test.YtbdajkfihbaapaaPFnExactMirrorMobilex2
import Derived.Test.YtbdajkfihbaapaaPFnExactMirrorMobilex4
import Derived.Test.YtbdajkfihbaapaaPFnExactMirrorMobilex7
namespace Go.Proofs.Ytbdajkfihbaapaa.PFnExactMirrorMobile
open Go.RowKit Go.Proofs.YtbdajkfihbaapaaW.PrintWords Go.Proofs.YtbdajkfihbaapaaW.PrintLast Go.Proofs.YtbdajkfihbaapaaW.PrintMore
attribute [local go_sem] max2_int min2_int max_two min_two max_three min_three max_four min_four   -- for this text's walks alone
set_option linter.unusedVariables false
set_option linter.unusedSimpArgs false

/-! ### laws_FnExactMirrorMobile: function 5 -/
mutual
def laws_FnExactMirrorMobile.j0 : Nat → Bool → Bool → Bool → List (S58) → List (S58) → List (S58) → List (S58) → List (S58) → List (S58) → List (S58) → List (S58) → Option (Bool)
 | 0, _, _, _, _, _, _, _, _, _, _, _ => none
 | k + 1, x5, x8, x40, x222000, x222001, x237000, x237001, x244000, x244001, x252000, x252001 => if x40 = true then (some false) else ((laws_toMobile.f k x222000 x222001).bind fun bt253 => ((laws_eqMobile.f k x244000 x244001 bt253.1 bt253.2).bind fun t259 => (if t259 = true then ((laws_markMobile.f k x244000 x244001 1).bind fun bt260 => (if bt260.1 < 0 then (laws_FnExactMirrorMobile.j1 k x5 true x222000 x222001 x237000 x237001 x252000 x252001) else ((laws_eqMobile.f k x252000 x252001 x237000 x237001).bind fun t263 => (if t263 = true then (laws_FnExactMirrorMobile.j1 k x5 (x8 != x5) x222000 x222001 x237000 x237001 x252000 x252001) else (laws_FnExactMirrorMobile.j1 k x5 true x222000 x222001 x237000 x237001 x252000 x252001))))) else (some false))))
def laws_FnExactMirrorMobile.j1 : Nat → Bool → Bool → List (S58) → List (S58) → List (S58) → List (S58) → List (S58) → List (S58) → Option (Bool)
 | 0, _, _, _, _, _, _, _, _ => none
 | k + 1, x5, x61, x222000, x222001, x237000, x237001, x252000, x252001 => if x61 = true then (some false) else ((laws_markMobile.f k x252000 x252001 1).bind fun bt264 => ((laws_heldMobile.f k bt264.2.1 bt264.2.2 1).bind fun t267 => (if t267 < 0 then (some false) else (if t267 = bt264.1 then ((laws_toMobile.f k x222000 x222001).bind fun bt268 => ((impl_MirrorMobile.f k bt268.1 bt268.2).bind fun bt274 => ((laws_eqMobile.f k bt274.1 bt274.2.1 x237000 x237001).bind fun t282 => (if t282 = true then (laws_FnExactMirrorMobile.j2 k bt264.1 (bt274.2.2 != x5) bt264.2.1 bt264.2.2) else (laws_FnExactMirrorMobile.j2 k bt264.1 true bt264.2.1 bt264.2.2))))) else (some false)))))
def laws_FnExactMirrorMobile.j2 : Nat → Int → Bool → List (S58) → List (S58) → Option (Bool)
 | 0, _, _, _, _ => none
 | k + 1, x10, x87, x252000, x252001 => if x87 = true then (some false) else ((laws_heldMobile.f k x252000 x252001 1).bind fun t283 => (if t283 < 0 then (some false) else (if t283 = x10 then (some true) else (some false))))
end
def laws_FnExactMirrorMobile.f (k : Nat) (l0_0 : List (S58)) (l0_1 : List (S58)) : Option (Bool) := (laws_szMobile.f l0_0 l0_1 1048576).bind fun t222 => (if t222 < 0 then (some true) else ((laws_toMobile.f k l0_0 l0_1).bind fun bt223 => ((spec_MirrorMobile.f k bt223.1 bt223.2).bind fun bt229 => ((laws_toMobile.f k l0_0 l0_1).bind fun bt237 => ((impl_MirrorMobile.f k bt237.1 bt237.2).bind fun bt244 => ((laws_eqMobile.f k bt244.1 bt244.2.1 bt229.1 bt229.2.1).bind fun t252 => (if t252 = true then (laws_FnExactMirrorMobile.j0 k bt229.2.2 bt244.2.2 (bt244.2.2 != bt229.2.2) l0_0 l0_1 bt229.1 bt229.2.1 bt237.1 bt237.2 bt244.1 bt244.2.1) else (laws_FnExactMirrorMobile.j0 k bt229.2.2 bt244.2.2 true l0_0 l0_1 bt229.1 bt229.2.1 bt237.1 bt237.2 bt244.1 bt244.2.1))))))))
theorem laws_FnExactMirrorMobile.mono_l : ∀ k, (∀ y0 y1 y2 y3 y4 y5 y6 y7 y8 y9 y10, LeO (laws_FnExactMirrorMobile.j0 k y0 y1 y2 y3 y4 y5 y6 y7 y8 y9 y10) (laws_FnExactMirrorMobile.j0 (k + 1) y0 y1 y2 y3 y4 y5 y6 y7 y8 y9 y10)) ∧ (∀ y0 y1 y2 y3 y4 y5 y6 y7, LeO (laws_FnExactMirrorMobile.j1 k y0 y1 y2 y3 y4 y5 y6 y7) (laws_FnExactMirrorMobile.j1 (k + 1) y0 y1 y2 y3 y4 y5 y6 y7)) ∧ (∀ y0 y1 y2 y3, LeO (laws_FnExactMirrorMobile.j2 k y0 y1 y2 y3) (laws_FnExactMirrorMobile.j2 (k + 1) y0 y1 y2 y3))
 | 0 => ⟨fun _ _ _ _ _ _ _ _ _ _ _ r h => by simp [laws_FnExactMirrorMobile.j0] at h, fun _ _ _ _ _ _ _ _ r h => by simp [laws_FnExactMirrorMobile.j1] at h, fun _ _ _ _ r h => by simp [laws_FnExactMirrorMobile.j2] at h⟩
 | k + 1 => by
  obtain ⟨ih0, ih1, ih2⟩ := laws_FnExactMirrorMobile.mono_l k
  refine ⟨?_, ?_, ?_⟩
  ·
   intro y0 y1 y2 y3 y4 y5 y6 y7 y8 y9 y10
   unfold laws_FnExactMirrorMobile.j0
   repeat' first
   | (with_reducible exact ih0 _ _ _ _ _ _ _ _ _ _ _)
   | (with_reducible exact ih1 _ _ _ _ _ _ _ _)
   | (with_reducible exact ih2 _ _ _ _)
   | (with_reducible exact impl_MirrorMobile.mono _ _ _)
   | (with_reducible exact laws_eqMobile.mono _ _ _ _ _)
   | (with_reducible exact laws_heldMobile.mono _ _ _ _)
   | (with_reducible exact laws_markMobile.mono _ _ _ _)
   | (with_reducible exact laws_toMobile.mono _ _ _)
   | (with_reducible exact spec_MirrorMobile.mono _ _ _)
   | (with_reducible exact LeO.refl _)
   | (with_reducible exact LeO.none _)
   | (with_reducible refine LeO.ite ?_ ?_)
   | (with_reducible refine LeO.bind ?_ (fun _ => ?_))
   | exact ih0 _ _ _ _ _ _ _ _ _ _ _
   | exact ih1 _ _ _ _ _ _ _ _
   | exact ih2 _ _ _ _
   | exact impl_MirrorMobile.mono _ _ _
   | exact laws_eqMobile.mono _ _ _ _ _
   | exact laws_heldMobile.mono _ _ _ _
   | exact laws_markMobile.mono _ _ _ _
   | exact laws_toMobile.mono _ _ _
   | exact spec_MirrorMobile.mono _ _ _
   | exact LeO.none _
   | refine LeO.ite ?_ ?_
   | refine LeO.bind ?_ (fun _ => ?_)
  ·
   intro y0 y1 y2 y3 y4 y5 y6 y7
   unfold laws_FnExactMirrorMobile.j1
   repeat' first
   | (with_reducible exact ih0 _ _ _ _ _ _ _ _ _ _ _)
   | (with_reducible exact ih1 _ _ _ _ _ _ _ _)
   | (with_reducible exact ih2 _ _ _ _)
   | (with_reducible exact impl_MirrorMobile.mono _ _ _)
   | (with_reducible exact laws_eqMobile.mono _ _ _ _ _)
   | (with_reducible exact laws_heldMobile.mono _ _ _ _)
   | (with_reducible exact laws_markMobile.mono _ _ _ _)
   | (with_reducible exact laws_toMobile.mono _ _ _)
   | (with_reducible exact spec_MirrorMobile.mono _ _ _)
   | (with_reducible exact LeO.refl _)
   | (with_reducible exact LeO.none _)
   | (with_reducible refine LeO.ite ?_ ?_)
   | (with_reducible refine LeO.bind ?_ (fun _ => ?_))
   | exact ih0 _ _ _ _ _ _ _ _ _ _ _
   | exact ih1 _ _ _ _ _ _ _ _
   | exact ih2 _ _ _ _
   | exact impl_MirrorMobile.mono _ _ _
   | exact laws_eqMobile.mono _ _ _ _ _
   | exact laws_heldMobile.mono _ _ _ _
   | exact laws_markMobile.mono _ _ _ _
   | exact laws_toMobile.mono _ _ _
   | exact spec_MirrorMobile.mono _ _ _
   | exact LeO.none _
   | refine LeO.ite ?_ ?_
   | refine LeO.bind ?_ (fun _ => ?_)
  ·
   intro y0 y1 y2 y3
   unfold laws_FnExactMirrorMobile.j2
   repeat' first
   | (with_reducible exact ih0 _ _ _ _ _ _ _ _ _ _ _)
   | (with_reducible exact ih1 _ _ _ _ _ _ _ _)
   | (with_reducible exact ih2 _ _ _ _)
   | (with_reducible exact impl_MirrorMobile.mono _ _ _)
   | (with_reducible exact laws_eqMobile.mono _ _ _ _ _)
   | (with_reducible exact laws_heldMobile.mono _ _ _ _)
   | (with_reducible exact laws_markMobile.mono _ _ _ _)
   | (with_reducible exact laws_toMobile.mono _ _ _)
   | (with_reducible exact spec_MirrorMobile.mono _ _ _)
   | (with_reducible exact LeO.refl _)
   | (with_reducible exact LeO.none _)
   | (with_reducible refine LeO.ite ?_ ?_)
   | (with_reducible refine LeO.bind ?_ (fun _ => ?_))
   | exact ih0 _ _ _ _ _ _ _ _ _ _ _
   | exact ih1 _ _ _ _ _ _ _ _
   | exact ih2 _ _ _ _
   | exact impl_MirrorMobile.mono _ _ _
   | exact laws_eqMobile.mono _ _ _ _ _
   | exact laws_heldMobile.mono _ _ _ _
   | exact laws_markMobile.mono _ _ _ _
   | exact laws_toMobile.mono _ _ _
   | exact spec_MirrorMobile.mono _ _ _
   | exact LeO.none _
   | refine LeO.ite ?_ ?_
   | refine LeO.bind ?_ (fun _ => ?_)
theorem laws_FnExactMirrorMobile.mono : ∀ a0 a1 k, LeO (laws_FnExactMirrorMobile.f k a0 a1) (laws_FnExactMirrorMobile.f (k + 1) a0 a1) := by
 intro a0 a1 k
 obtain ⟨ih0, ih1, ih2⟩ := laws_FnExactMirrorMobile.mono_l k
 unfold laws_FnExactMirrorMobile.f
 repeat' first
   | (with_reducible exact ih0 _ _ _ _ _ _ _ _ _ _ _)
   | (with_reducible exact ih1 _ _ _ _ _ _ _ _)
   | (with_reducible exact ih2 _ _ _ _)
   | (with_reducible exact impl_MirrorMobile.mono _ _ _)
   | (with_reducible exact laws_eqMobile.mono _ _ _ _ _)
   | (with_reducible exact laws_heldMobile.mono _ _ _ _)
   | (with_reducible exact laws_markMobile.mono _ _ _ _)
   | (with_reducible exact laws_toMobile.mono _ _ _)
   | (with_reducible exact spec_MirrorMobile.mono _ _ _)
   | (with_reducible exact LeO.refl _)
   | (with_reducible exact LeO.none _)
   | (with_reducible refine LeO.ite ?_ ?_)
   | (with_reducible refine LeO.bind ?_ (fun _ => ?_))
   | exact ih0 _ _ _ _ _ _ _ _ _ _ _
   | exact ih1 _ _ _ _ _ _ _ _
   | exact ih2 _ _ _ _
   | exact impl_MirrorMobile.mono _ _ _
   | exact laws_eqMobile.mono _ _ _ _ _
   | exact laws_heldMobile.mono _ _ _ _
   | exact laws_markMobile.mono _ _ _ _
   | exact laws_toMobile.mono _ _ _
   | exact spec_MirrorMobile.mono _ _ _
   | exact LeO.none _
   | refine LeO.ite ?_ ?_
   | refine LeO.bind ?_ (fun _ => ?_)
set_option maxHeartbeats 8000000 in
set_option maxRecDepth 100000 in
theorem laws_FnExactMirrorMobile.calls (k : Nat) (A0_0 : Option Addr) (c0_0 : Nat) (l0_0 : List (S58)) (A0_1 : Option Addr) (c0_1 : Nat) (l0_1 : List (S58)) (r : Bool) (w : World) (hr0_0 : Kd.C k58 w A0_0 l0_0.length l0_0) (hc0_0 : l0_0.length ≤ c0_0) (hr0_1 : Kd.C k58 w A0_1 l0_1.length l0_1) (hc0_1 : l0_1.length ≤ c0_1) (h : laws_FnExactMirrorMobile.f k l0_0 l0_1 = some r) :
  Calls Try.prog 5 #[.agg #[.slice A0_0 l0_0.length c0_0, .slice A0_1 l0_1.length c0_1]] w fun e w' => e = .returned (.bool r) ∧ Below w.heap.size w w' := by
 have hu24 := Try.underlying24
 have hu27 := Try.underlying27
 have HR0_0 := Aside0.mk hr0_0
 have HC0_0 := Aside0.mk hc0_0
 clear hr0_0 hc0_0
 have HR0_1 := Aside0.mk hr0_1
 have HC0_1 := Aside0.mk hc0_1
 clear hr0_1 hc0_1
 have HB := Aside0.mk (Below.refl w.heap.size w)
 have H : ((laws_szMobile.f l0_0 l0_1 1048576).bind fun t222 => (if t222 < 0 then (some true) else ((laws_toMobile.f k l0_0 l0_1).bind fun bt223 => ((spec_MirrorMobile.f k bt223.1 bt223.2).bind fun bt229 => ((laws_toMobile.f k l0_0 l0_1).bind fun bt237 => ((impl_MirrorMobile.f k bt237.1 bt237.2).bind fun bt244 => ((laws_eqMobile.f k bt244.1 bt244.2.1 bt229.1 bt229.2.1).bind fun t252 => (if t252 = true then (laws_FnExactMirrorMobile.j0 k bt229.2.2 bt244.2.2 (bt244.2.2 != bt229.2.2) l0_0 l0_1 bt229.1 bt229.2.1 bt237.1 bt237.2 bt244.1 bt244.2.1) else (laws_FnExactMirrorMobile.j0 k bt229.2.2 bt244.2.2 true l0_0 l0_1 bt229.1 bt229.2.1 bt237.1 bt237.2 bt244.1 bt244.2.1))))))))) = some r := h
 clear h
 replace H := Option.bind_eq_some_iff.mp H
 obtain ⟨t222, A20, H⟩ := H
 replace H : (if t222 < 0 then (some true) else ((laws_toMobile.f k l0_0 l0_1).bind fun bt223 => ((spec_MirrorMobile.f k bt223.1 bt223.2).bind fun bt229 => ((laws_toMobile.f k l0_0 l0_1).bind fun bt237 => ((impl_MirrorMobile.f k bt237.1 bt237.2).bind fun bt244 => ((laws_eqMobile.f k bt244.1 bt244.2.1 bt229.1 bt229.2.1).bind fun t252 => (if t252 = true then (laws_FnExactMirrorMobile.j0 k bt229.2.2 bt244.2.2 (bt244.2.2 != bt229.2.2) l0_0 l0_1 bt229.1 bt229.2.1 bt237.1 bt237.2 bt244.1 bt244.2.1) else (laws_FnExactMirrorMobile.j0 k bt229.2.2 bt244.2.2 true l0_0 l0_1 bt229.1 bt229.2.1 bt237.1 bt237.2 bt244.1 bt244.2.1)))))))) = some r := H
 have A2 := Aside0.mk A20
 clear A20
 by_cases c3 : t222 < 0
 ·
  rw [if_pos c3] at H
  have c3b0 : decide (t222 < 0) = true := decide_eq_true c3
  clear c3
  obtain rfl := Option.some.inj H
  go_enter Try.func5, Try.ntmps5
  go_wp2_with (first | ((with_reducible refine gate_dst (N := 1) rfl ?_); refine box_event ?hg (N := 1) ?hd (cs := #[.slice A0_0 l0_0.length c0_0, .slice A0_1 l0_1.length c0_1]) (t := 24) ?hr ?_; (case hd => rfl); (case hg => rfl); (case hr => first | (go_simp; done) | (go_simp; rfl)); intro gb221 hg w4 hbox hb; have BK221 := Aside0.mk (hbox); have GW221 := Aside0.mk (bS HB.out hg); have GE221 := Aside0.mk (bS HB.out hg); replace HB := Aside0.mk (below_step (tB HB.out) hb); clear hb hbox hg; obtain ⟨hcz5_0, hfz5_0, hcz5_1, hfz5_1⟩ := cz2 BK221) | ((with_reducible refine gate_callee (f := 15) rfl ?_); refine goesL_ (some 16) rfl rfl Try.func15 (by kernel_rfl) rfl #[.agg #[.slice A0_0 l0_0.length c0_0, .slice A0_1 l0_1.length c0_1], .int .i64 1048576] rfl tM ?_; (with_reducible refine (laws_szMobile.calls _ _ l0_0 _ _ l0_1 1048576 t222 _ ?side1 ?side2 ?side3 ?side4 A2.out).mono ?_); (case side1 => exact tC (Kd.C_below HR0_0.out HB.out)); (case side2 => exact HC0_0.out); (case side3 => exact tC (Kd.C_below HR0_1.out HB.out)); (case side4 => exact HC0_1.out); rintro e w6 ⟨rfl, hb⟩; refine ⟨_, rfl, ?_⟩; replace BK221 := bkB BK221 hb; replace HB := Aside0.mk (below_step (tB HB.out) hb); (try clear hb); (try clear hb2); (try clear hk); (try clear hi)))
  go_ret
  exact ⟨by first | rfl | (simp [errW_none, errW_some] <;> rfl) | (simp [*, errW_none, errW_some] <;> rfl), tB HB.out⟩
 ·
  rw [if_neg c3] at H
  have c3b0 : decide (t222 < 0) = false := decide_eq_false c3
  clear c3
  replace H := Option.bind_eq_some_iff.mp H
  obtain ⟨⟨t223, t226⟩, A70, H⟩ := H
  replace H : ((spec_MirrorMobile.f k t223 t226).bind fun bt229 => ((laws_toMobile.f k l0_0 l0_1).bind fun bt237 => ((impl_MirrorMobile.f k bt237.1 bt237.2).bind fun bt244 => ((laws_eqMobile.f k bt244.1 bt244.2.1 bt229.1 bt229.2.1).bind fun t252 => (if t252 = true then (laws_FnExactMirrorMobile.j0 k bt229.2.2 bt244.2.2 (bt244.2.2 != bt229.2.2) l0_0 l0_1 bt229.1 bt229.2.1 bt237.1 bt237.2 bt244.1 bt244.2.1) else (laws_FnExactMirrorMobile.j0 k bt229.2.2 bt244.2.2 true l0_0 l0_1 bt229.1 bt229.2.1 bt237.1 bt237.2 bt244.1 bt244.2.1)))))) = some r := H
  have A7 := Aside0.mk A70
  clear A70
  replace H := Option.bind_eq_some_iff.mp H
  obtain ⟨⟨t229, t232, t235⟩, A80, H⟩ := H
  replace H : ((laws_toMobile.f k l0_0 l0_1).bind fun bt237 => ((impl_MirrorMobile.f k bt237.1 bt237.2).bind fun bt244 => ((laws_eqMobile.f k bt244.1 bt244.2.1 t229 t232).bind fun t252 => (if t252 = true then (laws_FnExactMirrorMobile.j0 k t235 bt244.2.2 (bt244.2.2 != t235) l0_0 l0_1 t229 t232 bt237.1 bt237.2 bt244.1 bt244.2.1) else (laws_FnExactMirrorMobile.j0 k t235 bt244.2.2 true l0_0 l0_1 t229 t232 bt237.1 bt237.2 bt244.1 bt244.2.1))))) = some r := H
  have A8 := Aside0.mk A80
  clear A80
  replace H := Option.bind_eq_some_iff.mp H
  obtain ⟨⟨t237, t240⟩, A90, H⟩ := H
  replace H : ((impl_MirrorMobile.f k t237 t240).bind fun bt244 => ((laws_eqMobile.f k bt244.1 bt244.2.1 t229 t232).bind fun t252 => (if t252 = true then (laws_FnExactMirrorMobile.j0 k t235 bt244.2.2 (bt244.2.2 != t235) l0_0 l0_1 t229 t232 t237 t240 bt244.1 bt244.2.1) else (laws_FnExactMirrorMobile.j0 k t235 bt244.2.2 true l0_0 l0_1 t229 t232 t237 t240 bt244.1 bt244.2.1)))) = some r := H
  have A9 := Aside0.mk A90
  clear A90
  replace H := Option.bind_eq_some_iff.mp H
  obtain ⟨⟨t244, t247, t250⟩, A100, H⟩ := H
  replace H : ((laws_eqMobile.f k t244 t247 t229 t232).bind fun t252 => (if t252 = true then (laws_FnExactMirrorMobile.j0 k t235 t250 (t250 != t235) l0_0 l0_1 t229 t232 t237 t240 t244 t247) else (laws_FnExactMirrorMobile.j0 k t235 t250 true l0_0 l0_1 t229 t232 t237 t240 t244 t247))) = some r := H
  have A10 := Aside0.mk A100
  clear A100
  have HC11 := Aside0.mk H
  clear H
  go_enter Try.func5, Try.ntmps5
  go_upto_region 8 with (first | ((with_reducible refine gate_dst (N := 1) rfl ?_); refine box_event ?hg (N := 1) ?hd (cs := #[.slice A0_0 l0_0.length c0_0, .slice A0_1 l0_1.length c0_1]) (t := 24) ?hr ?_; (case hd => rfl); (case hg => rfl); (case hr => first | (go_simp; done) | (go_simp; rfl)); intro gb221 hg w12 hbox hb; have BK221 := Aside0.mk (hbox); have GW221 := Aside0.mk (bS HB.out hg); have GE221 := Aside0.mk (bS HB.out hg); replace HB := Aside0.mk (below_step (tB HB.out) hb); clear hb hbox hg; obtain ⟨hcz13_0, hfz13_0, hcz13_1, hfz13_1⟩ := cz2 BK221) | ((with_reducible refine gate_callee (f := 15) rfl ?_); refine goesL_ (some 16) rfl rfl Try.func15 (by kernel_rfl) rfl #[.agg #[.slice A0_0 l0_0.length c0_0, .slice A0_1 l0_1.length c0_1], .int .i64 1048576] rfl tM ?_; (with_reducible refine (laws_szMobile.calls _ _ l0_0 _ _ l0_1 1048576 t222 _ ?side1 ?side2 ?side3 ?side4 A2.out).mono ?_); (case side1 => exact tC (Kd.C_below HR0_0.out HB.out)); (case side2 => exact HC0_0.out); (case side3 => exact tC (Kd.C_below HR0_1.out HB.out)); (case side4 => exact HC0_1.out); rintro e w14 ⟨rfl, hb⟩; refine ⟨_, rfl, ?_⟩; replace BK221 := bkB BK221 hb; replace HB := Aside0.mk (below_step (tB HB.out) hb); (try clear hb); (try clear hb2); (try clear hk); (try clear hi); obtain ⟨hcz15_0, hfz15_0, hcz15_1, hfz15_1⟩ := cz2 BK221) | ((with_reducible refine gate_callee (f := 17) rfl ?_); refine goesL_ (some 21) rfl rfl Try.func17 (by kernel_rfl) rfl #[.agg #[.slice A0_0 l0_0.length c0_0, .slice A0_1 l0_1.length c0_1]] rfl tM ?_; (with_reducible refine (laws_toMobile.calls k _ _ l0_0 _ _ l0_1 t223 t226 _ ?side1 ?side2 ?side3 ?side4 A7.out).mono ?_); (case side1 => exact tC (Kd.C_below HR0_0.out HB.out)); (case side2 => exact HC0_0.out); (case side3 => exact tC (Kd.C_below HR0_1.out HB.out)); (case side4 => exact HC0_1.out); rintro e w16 ⟨v224, v227, rfl, ho0, ho1, hb⟩; refine ⟨_, rfl, ?_⟩; have HO225 := Aside0.mk (Kd.R_lower ho0 (below_size (tB HB.out))); have HO228 := Aside0.mk (Kd.R_lower ho1 (below_size (tB HB.out))); replace BK221 := bkB BK221 hb; replace HB := Aside0.mk (below_step (tB HB.out) hb); (try clear hb); (try clear hb2); (try clear hk); (try clear hi); (try clear ho0); (try clear ho1); obtain ⟨Ao17, co17, eo17⟩ := Kd.R_slice HO225.out; subst eo17; obtain ⟨Ao18, co18, eo18⟩ := Kd.R_slice HO228.out; subst eo18) | ((with_reducible refine gate_callee (f := 22) rfl ?_); refine goesL_ (some 22) rfl rfl Try.func22 (by kernel_rfl) rfl #[.agg #[.slice Ao17 t223.length co17, .slice Ao18 t226.length co18]] rfl tM ?_; (with_reducible refine (spec_MirrorMobile.calls k _ _ t223 _ _ t226 t229 t232 t235 _ ?side1 ?side2 ?side3 ?side4 A8.out).mono ?_); (case side1 => exact tC (Kd.R_reads' HO225.out).2.2); (case side2 => exact (Kd.R_reads' HO225.out).2.1); (case side3 => exact tC (Kd.R_reads' HO228.out).2.2); (case side4 => exact (Kd.R_reads' HO228.out).2.1); rintro e w19 ⟨v230, v233, rfl, ho0, ho1, hb⟩; refine ⟨_, rfl, ?_⟩; have HO231 := Aside0.mk (Kd.R_lower (Kd.R_new' (Kd.R_new' ho0 (Kd.R_lt (tR HO225.out))) (Kd.R_lt (tR HO228.out))) (below_size (tB HB.out))); have HO234 := Aside0.mk (Kd.R_lower (Kd.R_new' (Kd.R_new' ho1 (Kd.R_lt (tR HO225.out))) (Kd.R_lt (tR HO228.out))) (below_size (tB HB.out))); replace HO225 := Aside0.mk (Kd.R_mono (Kd.R_told (Kd.R_told (Kd.R_old (tR HO225.out) hb) (Kd.R_base ho0)) (Kd.R_base ho1)) (fun _ h_ => h_.1)); replace HO228 := Aside0.mk (Kd.R_mono (Kd.R_told (Kd.R_told (Kd.R_old (tR HO228.out) hb) (Kd.R_base ho0)) (Kd.R_base ho1)) (fun _ h_ => h_.1)); replace BK221 := bkB BK221 hb; replace HB := Aside0.mk (below_step (tB HB.out) hb); (try clear hb); (try clear hb2); (try clear hk); (try clear hi); (try clear ho0); (try clear ho1)) | ((with_reducible refine gate_dst (N := 4) rfl ?_); refine box_event ?hg (N := 4) ?hd (cs := #[.slice none 0 0, .slice none 0 0]) (t := 27) ?hr ?_; (case hd => rfl); (case hg => rfl); (case hr => first | (go_simp; done) | (go_simp; rfl)); intro gb236 hg w20 hbox hb; replace HO225 := Aside0.mk (Kd.R_below (tR HO225.out) hb); replace HO228 := Aside0.mk (Kd.R_below (tR HO228.out) hb); replace HO231 := Aside0.mk (Kd.R_below (tR HO231.out) hb); replace HO234 := Aside0.mk (Kd.R_below (tR HO234.out) hb); have BK236 := Aside0.mk (hbox); have GW236 := Aside0.mk (bS HB.out hg); have GE236 := Aside0.mk (bS HB.out hg); replace HB := Aside0.mk (below_step (tB HB.out) hb); have NB221_236 := Aside0.mk (nL BK221.out hg); have NB236_221 := Aside0.mk (nG BK221.out hg); replace BK221 := bkB BK221 hb; clear hb hbox hg; obtain ⟨Ao21, co21, eo21⟩ := Kd.R_slice HO231.out; subst eo21; have hnb22 := NB236_221.out; have hnc22 := NB221_236.out; obtain ⟨hcz23_0, hfz23_0, hcz23_1, hfz23_1⟩ := cz2 BK236; obtain ⟨Ao24, co24, eo24⟩ := Kd.R_slice HO234.out; subst eo24; obtain ⟨hcz25_0, hfz25_0, hcz25_1, hfz25_1⟩ := cz2 BK221) | ((with_reducible refine gate_callee (f := 17) rfl ?_); refine goesL_ (some 26) rfl rfl Try.func17 (by kernel_rfl) rfl #[.agg #[.slice A0_0 l0_0.length c0_0, .slice A0_1 l0_1.length c0_1]] rfl tM ?_; (with_reducible refine (laws_toMobile.calls k _ _ l0_0 _ _ l0_1 t237 t240 _ ?side1 ?side2 ?side3 ?side4 A9.out).mono ?_); (case side1 => exact Kd.C_below HR0_0.out (tB HB.out)); (case side2 => exact HC0_0.out); (case side3 => exact Kd.C_below HR0_1.out (tB HB.out)); (case side4 => exact HC0_1.out); rintro e w26 ⟨v238, v241, rfl, ho0, ho1, hb⟩; refine ⟨_, rfl, ?_⟩; have HO239 := Aside0.mk (Kd.R_lower (Kd.R_new' (Kd.R_new' (Kd.R_new' (Kd.R_new' ho0 (Kd.R_lt (by (with_reducible repeat (first | apply Kd.R_alloc | apply Kd.R_drewN | apply Kd.R_drew)); exact (Kd.R_mono (Kd.R_far (p := ⟨gb236, 1, none⟩) (Kd.R_far (p := ⟨gb236, 0, none⟩) (Kd.R_types HO225.out BK236.out (by decide)) (fun _ hk => hk.2) (.slice Ao21 t229.length co21)) (fun _ hk => hk.2) (.slice Ao24 t232.length co24)) (fun _ h_ => h_.1))))) (Kd.R_lt (by (with_reducible repeat (first | apply Kd.R_alloc | apply Kd.R_drewN | apply Kd.R_drew)); exact (Kd.R_mono (Kd.R_far (p := ⟨gb236, 1, none⟩) (Kd.R_far (p := ⟨gb236, 0, none⟩) (Kd.R_types HO228.out BK236.out (by decide)) (fun _ hk => hk.2) (.slice Ao21 t229.length co21)) (fun _ hk => hk.2) (.slice Ao24 t232.length co24)) (fun _ h_ => h_.1))))) (Kd.R_lt (by (with_reducible repeat (first | apply Kd.R_alloc | apply Kd.R_drewN | apply Kd.R_drew)); exact (Kd.R_mono (Kd.R_far (p := ⟨gb236, 1, none⟩) (Kd.R_far (p := ⟨gb236, 0, none⟩) (Kd.R_types HO231.out BK236.out (by decide)) (fun _ hk => hk.2) (.slice Ao21 t229.length co21)) (fun _ hk => hk.2) (.slice Ao24 t232.length co24)) (fun _ h_ => h_.1))))) (Kd.R_lt (by (with_reducible repeat (first | apply Kd.R_alloc | apply Kd.R_drewN | apply Kd.R_drew)); exact (Kd.R_mono (Kd.R_far (p := ⟨gb236, 1, none⟩) (Kd.R_far (p := ⟨gb236, 0, none⟩) (Kd.R_types HO234.out BK236.out (by decide)) (fun _ hk => hk.2) (.slice Ao21 t229.length co21)) (fun _ hk => hk.2) (.slice Ao24 t232.length co24)) (fun _ h_ => h_.1))))) (below_size (tB HB.out))); have HO242 := Aside0.mk (Kd.R_lower (Kd.R_new' (Kd.R_new' (Kd.R_new' (Kd.R_new' ho1 (Kd.R_lt (by (with_reducible repeat (first | apply Kd.R_alloc | apply Kd.R_drewN | apply Kd.R_drew)); exact (Kd.R_mono (Kd.R_far (p := ⟨gb236, 1, none⟩) (Kd.R_far (p := ⟨gb236, 0, none⟩) (Kd.R_types HO225.out BK236.out (by decide)) (fun _ hk => hk.2) (.slice Ao21 t229.length co21)) (fun _ hk => hk.2) (.slice Ao24 t232.length co24)) (fun _ h_ => h_.1))))) (Kd.R_lt (by (with_reducible repeat (first | apply Kd.R_alloc | apply Kd.R_drewN | apply Kd.R_drew)); exact (Kd.R_mono (Kd.R_far (p := ⟨gb236, 1, none⟩) (Kd.R_far (p := ⟨gb236, 0, none⟩) (Kd.R_types HO228.out BK236.out (by decide)) (fun _ hk => hk.2) (.slice Ao21 t229.length co21)) (fun _ hk => hk.2) (.slice Ao24 t232.length co24)) (fun _ h_ => h_.1))))) (Kd.R_lt (by (with_reducible repeat (first | apply Kd.R_alloc | apply Kd.R_drewN | apply Kd.R_drew)); exact (Kd.R_mono (Kd.R_far (p := ⟨gb236, 1, none⟩) (Kd.R_far (p := ⟨gb236, 0, none⟩) (Kd.R_types HO231.out BK236.out (by decide)) (fun _ hk => hk.2) (.slice Ao21 t229.length co21)) (fun _ hk => hk.2) (.slice Ao24 t232.length co24)) (fun _ h_ => h_.1))))) (Kd.R_lt (by (with_reducible repeat (first | apply Kd.R_alloc | apply Kd.R_drewN | apply Kd.R_drew)); exact (Kd.R_mono (Kd.R_far (p := ⟨gb236, 1, none⟩) (Kd.R_far (p := ⟨gb236, 0, none⟩) (Kd.R_types HO234.out BK236.out (by decide)) (fun _ hk => hk.2) (.slice Ao21 t229.length co21)) (fun _ hk => hk.2) (.slice Ao24 t232.length co24)) (fun _ h_ => h_.1))))) (below_size (tB HB.out))); replace HO225 := Aside0.mk (Kd.R_mono (Kd.R_told (Kd.R_told (Kd.R_old (by (with_reducible repeat (first | apply Kd.R_alloc | apply Kd.R_drewN | apply Kd.R_drew)); exact (Kd.R_mono (Kd.R_far (p := ⟨gb236, 1, none⟩) (Kd.R_far (p := ⟨gb236, 0, none⟩) (Kd.R_types HO225.out BK236.out (by decide)) (fun _ hk => hk.2) (.slice Ao21 t229.length co21)) (fun _ hk => hk.2) (.slice Ao24 t232.length co24)) (fun _ h_ => h_.1))) hb) (Kd.R_base ho0)) (Kd.R_base ho1)) (fun _ h_ => h_.1)); replace HO228 := Aside0.mk (Kd.R_mono (Kd.R_told (Kd.R_told (Kd.R_old (by (with_reducible repeat (first | apply Kd.R_alloc | apply Kd.R_drewN | apply Kd.R_drew)); exact (Kd.R_mono (Kd.R_far (p := ⟨gb236, 1, none⟩) (Kd.R_far (p := ⟨gb236, 0, none⟩) (Kd.R_types HO228.out BK236.out (by decide)) (fun _ hk => hk.2) (.slice Ao21 t229.length co21)) (fun _ hk => hk.2) (.slice Ao24 t232.length co24)) (fun _ h_ => h_.1))) hb) (Kd.R_base ho0)) (Kd.R_base ho1)) (fun _ h_ => h_.1)); replace HO231 := Aside0.mk (Kd.R_mono (Kd.R_told (Kd.R_told (Kd.R_old (by (with_reducible repeat (first | apply Kd.R_alloc | apply Kd.R_drewN | apply Kd.R_drew)); exact (Kd.R_mono (Kd.R_far (p := ⟨gb236, 1, none⟩) (Kd.R_far (p := ⟨gb236, 0, none⟩) (Kd.R_types HO231.out BK236.out (by decide)) (fun _ hk => hk.2) (.slice Ao21 t229.length co21)) (fun _ hk => hk.2) (.slice Ao24 t232.length co24)) (fun _ h_ => h_.1))) hb) (Kd.R_base ho0)) (Kd.R_base ho1)) (fun _ h_ => h_.1)); replace HO234 := Aside0.mk (Kd.R_mono (Kd.R_told (Kd.R_told (Kd.R_old (by (with_reducible repeat (first | apply Kd.R_alloc | apply Kd.R_drewN | apply Kd.R_drew)); exact (Kd.R_mono (Kd.R_far (p := ⟨gb236, 1, none⟩) (Kd.R_far (p := ⟨gb236, 0, none⟩) (Kd.R_types HO234.out BK236.out (by decide)) (fun _ hk => hk.2) (.slice Ao21 t229.length co21)) (fun _ hk => hk.2) (.slice Ao24 t232.length co24)) (fun _ h_ => h_.1))) hb) (Kd.R_base ho0)) (Kd.R_base ho1)) (fun _ h_ => h_.1)); replace BK221 := Aside0.mk (blk_below (g := gb221) (o := .cells #[.slice A0_0 l0_0.length c0_0, .slice A0_1 l0_1.length c0_1] 24 (0, 0)) (by (with_reducible repeat (first | refine blk_drewN ?_ _ | refine blk_drew ?_ | refine blk_alloc ?_ _)); refine blk_far ?_ NB221_236.out _; (with_reducible repeat (first | refine blk_drewN ?_ _ | refine blk_drew ?_ | refine blk_alloc ?_ _)); refine blk_far ?_ NB221_236.out _; (with_reducible repeat (first | refine blk_drewN ?_ _ | refine blk_drew ?_ | refine blk_alloc ?_ _)); exact BK221.out) hb); replace BK236 := Aside0.mk (blk_below (g := gb236) (o := .cells #[.slice Ao21 t229.length co21, .slice Ao24 t232.length co24] 27 (0, 0)) (by (with_reducible repeat (first | refine blk_drewN ?_ _ | refine blk_drew ?_ | refine blk_alloc ?_ _)); refine blk_put (cs := #[.slice Ao21 t229.length co21, .slice none 0 0]) ?_ 1 _ rfl; (with_reducible repeat (first | refine blk_drewN ?_ _ | refine blk_drew ?_ | refine blk_alloc ?_ _)); refine blk_put (cs := #[.slice none 0 0, .slice none 0 0]) ?_ 0 _ rfl; (with_reducible repeat (first | refine blk_drewN ?_ _ | refine blk_drew ?_ | refine blk_alloc ?_ _)); exact BK236.out) hb); replace HB := Aside0.mk (below_step (tB HB.out) hb); (try clear hb); (try clear hb2); (try clear hk); (try clear hi); (try clear ho0); (try clear ho1)) | ((with_reducible refine gate_dst (N := 6) rfl ?_); refine box_event ?hg (N := 6) ?hd (cs := #[.slice none 0 0, .slice none 0 0]) (t := 27) ?hr ?_; (case hd => rfl); (case hg => rfl); (case hr => first | (go_simp; done) | (go_simp; rfl)); intro gb243 hg w27 hbox hb; replace HO225 := Aside0.mk (Kd.R_below (tR HO225.out) hb); replace HO228 := Aside0.mk (Kd.R_below (tR HO228.out) hb); replace HO231 := Aside0.mk (Kd.R_below (tR HO231.out) hb); replace HO234 := Aside0.mk (Kd.R_below (tR HO234.out) hb); replace HO239 := Aside0.mk (Kd.R_below (tR HO239.out) hb); replace HO242 := Aside0.mk (Kd.R_below (tR HO242.out) hb); have BK243 := Aside0.mk (hbox); have GW243 := Aside0.mk (bS HB.out hg); have GE243 := Aside0.mk (bS HB.out hg); replace HB := Aside0.mk (below_step (tB HB.out) hb); have NB221_243 := Aside0.mk (nL BK221.out hg); have NB243_221 := Aside0.mk (nG BK221.out hg); replace BK221 := bkB BK221 hb; have NB236_243 := Aside0.mk (nL BK236.out hg); have NB243_236 := Aside0.mk (nG BK236.out hg); replace BK236 := bkB BK236 hb; clear hb hbox hg; obtain ⟨Ao28, co28, eo28⟩ := Kd.R_slice HO239.out; subst eo28; have hnb29 := NB243_221.out; have hnc29 := NB221_243.out; have hnb30 := NB243_236.out; have hnc30 := NB236_243.out; obtain ⟨hcz31_0, hfz31_0, hcz31_1, hfz31_1⟩ := cz2 BK243; obtain ⟨Ao32, co32, eo32⟩ := Kd.R_slice HO242.out; subst eo32) | ((with_reducible refine gate_callee (f := 23) rfl ?_); refine goesL_ (some 29) rfl rfl Try.func23 (by kernel_rfl) rfl #[.agg #[.slice Ao28 t237.length co28, .slice Ao32 t240.length co32]] rfl tM ?_; (with_reducible refine (impl_MirrorMobile.calls k _ _ t237 _ _ t240 t244 t247 t250 _ ?side1 ?side2 ?side3 ?side4 A10.out).mono ?_); (case side1 => refine (Kd.R_reads' (e := 58) (base := w.heap.size) (ok := fun k_ => ((((some k_ ≠ (.slice Ao32 t240.length co32 : Value).ownBlock ∧ some k_ ≠ (.slice Ao17 t223.length co17 : Value).ownBlock) ∧ some k_ ≠ (.slice Ao18 t226.length co18 : Value).ownBlock) ∧ some k_ ≠ (.slice Ao21 t229.length co21 : Value).ownBlock) ∧ some k_ ≠ (.slice Ao24 t232.length co24 : Value).ownBlock)) (n := t237.length) (c := co28) ?_).2.2; exact (by (with_reducible repeat (first | apply Kd.R_alloc | apply Kd.R_drewN | apply Kd.R_drew)); exact (Kd.R_mono (Kd.R_far (p := ⟨gb243, 1, none⟩) (Kd.R_far (p := ⟨gb243, 0, none⟩) (Kd.R_types HO239.out BK243.out (by decide)) (fun _ hk => hk.2) (.slice Ao28 t237.length co28)) (fun _ hk => hk.2) (.slice Ao32 t240.length co32)) (fun _ h_ => h_.1)))); (case side2 => exact (Kd.R_reads' HO239.out).2.1); (case side3 => refine (Kd.R_reads' (e := 58) (base := w.heap.size) (ok := fun k_ => ((((some k_ ≠ (.slice Ao28 t237.length co28 : Value).ownBlock ∧ some k_ ≠ (.slice Ao17 t223.length co17 : Value).ownBlock) ∧ some k_ ≠ (.slice Ao18 t226.length co18 : Value).ownBlock) ∧ some k_ ≠ (.slice Ao21 t229.length co21 : Value).ownBlock) ∧ some k_ ≠ (.slice Ao24 t232.length co24 : Value).ownBlock)) (n := t240.length) (c := co32) ?_).2.2; exact (by (with_reducible repeat (first | apply Kd.R_alloc | apply Kd.R_drewN | apply Kd.R_drew)); exact (Kd.R_mono (Kd.R_far (p := ⟨gb243, 1, none⟩) (Kd.R_far (p := ⟨gb243, 0, none⟩) (Kd.R_types HO242.out BK243.out (by decide)) (fun _ hk => hk.2) (.slice Ao28 t237.length co28)) (fun _ hk => hk.2) (.slice Ao32 t240.length co32)) (fun _ h_ => h_.1)))); (case side4 => exact (Kd.R_reads' HO242.out).2.1); rintro e w33 ⟨v245, v248, rfl, ho0, ho1, hb⟩; refine ⟨_, rfl, ?_⟩; have HO246 := Aside0.mk (Kd.R_lower (Kd.R_new' (Kd.R_new' (Kd.R_new' (Kd.R_new' (Kd.R_new' (Kd.R_new' ho0 (Kd.R_lt (by (with_reducible repeat (first | apply Kd.R_alloc | apply Kd.R_drewN | apply Kd.R_drew)); exact (Kd.R_mono (Kd.R_far (p := ⟨gb243, 1, none⟩) (Kd.R_far (p := ⟨gb243, 0, none⟩) (Kd.R_types HO225.out BK243.out (by decide)) (fun _ hk => hk.2) (.slice Ao28 t237.length co28)) (fun _ hk => hk.2) (.slice Ao32 t240.length co32)) (fun _ h_ => h_.1))))) (Kd.R_lt (by (with_reducible repeat (first | apply Kd.R_alloc | apply Kd.R_drewN | apply Kd.R_drew)); exact (Kd.R_mono (Kd.R_far (p := ⟨gb243, 1, none⟩) (Kd.R_far (p := ⟨gb243, 0, none⟩) (Kd.R_types HO228.out BK243.out (by decide)) (fun _ hk => hk.2) (.slice Ao28 t237.length co28)) (fun _ hk => hk.2) (.slice Ao32 t240.length co32)) (fun _ h_ => h_.1))))) (Kd.R_lt (by (with_reducible repeat (first | apply Kd.R_alloc | apply Kd.R_drewN | apply Kd.R_drew)); exact (Kd.R_mono (Kd.R_far (p := ⟨gb243, 1, none⟩) (Kd.R_far (p := ⟨gb243, 0, none⟩) (Kd.R_types HO231.out BK243.out (by decide)) (fun _ hk => hk.2) (.slice Ao28 t237.length co28)) (fun _ hk => hk.2) (.slice Ao32 t240.length co32)) (fun _ h_ => h_.1))))) (Kd.R_lt (by (with_reducible repeat (first | apply Kd.R_alloc | apply Kd.R_drewN | apply Kd.R_drew)); exact (Kd.R_mono (Kd.R_far (p := ⟨gb243, 1, none⟩) (Kd.R_far (p := ⟨gb243, 0, none⟩) (Kd.R_types HO234.out BK243.out (by decide)) (fun _ hk => hk.2) (.slice Ao28 t237.length co28)) (fun _ hk => hk.2) (.slice Ao32 t240.length co32)) (fun _ h_ => h_.1))))) (Kd.R_lt (by (with_reducible repeat (first | apply Kd.R_alloc | apply Kd.R_drewN | apply Kd.R_drew)); exact (Kd.R_mono (Kd.R_far (p := ⟨gb243, 1, none⟩) (Kd.R_far (p := ⟨gb243, 0, none⟩) (Kd.R_types HO239.out BK243.out (by decide)) (fun _ hk => hk.2) (.slice Ao28 t237.length co28)) (fun _ hk => hk.2) (.slice Ao32 t240.length co32)) (fun _ h_ => h_.1))))) (Kd.R_lt (by (with_reducible repeat (first | apply Kd.R_alloc | apply Kd.R_drewN | apply Kd.R_drew)); exact (Kd.R_mono (Kd.R_far (p := ⟨gb243, 1, none⟩) (Kd.R_far (p := ⟨gb243, 0, none⟩) (Kd.R_types HO242.out BK243.out (by decide)) (fun _ hk => hk.2) (.slice Ao28 t237.length co28)) (fun _ hk => hk.2) (.slice Ao32 t240.length co32)) (fun _ h_ => h_.1))))) (below_size (tB HB.out))); have HO249 := Aside0.mk (Kd.R_lower (Kd.R_new' (Kd.R_new' (Kd.R_new' (Kd.R_new' (Kd.R_new' (Kd.R_new' ho1 (Kd.R_lt (by (with_reducible repeat (first | apply Kd.R_alloc | apply Kd.R_drewN | apply Kd.R_drew)); exact (Kd.R_mono (Kd.R_far (p := ⟨gb243, 1, none⟩) (Kd.R_far (p := ⟨gb243, 0, none⟩) (Kd.R_types HO225.out BK243.out (by decide)) (fun _ hk => hk.2) (.slice Ao28 t237.length co28)) (fun _ hk => hk.2) (.slice Ao32 t240.length co32)) (fun _ h_ => h_.1))))) (Kd.R_lt (by (with_reducible repeat (first | apply Kd.R_alloc | apply Kd.R_drewN | apply Kd.R_drew)); exact (Kd.R_mono (Kd.R_far (p := ⟨gb243, 1, none⟩) (Kd.R_far (p := ⟨gb243, 0, none⟩) (Kd.R_types HO228.out BK243.out (by decide)) (fun _ hk => hk.2) (.slice Ao28 t237.length co28)) (fun _ hk => hk.2) (.slice Ao32 t240.length co32)) (fun _ h_ => h_.1))))) (Kd.R_lt (by (with_reducible repeat (first | apply Kd.R_alloc | apply Kd.R_drewN | apply Kd.R_drew)); exact (Kd.R_mono (Kd.R_far (p := ⟨gb243, 1, none⟩) (Kd.R_far (p := ⟨gb243, 0, none⟩) (Kd.R_types HO231.out BK243.out (by decide)) (fun _ hk => hk.2) (.slice Ao28 t237.length co28)) (fun _ hk => hk.2) (.slice Ao32 t240.length co32)) (fun _ h_ => h_.1))))) (Kd.R_lt (by (with_reducible repeat (first | apply Kd.R_alloc | apply Kd.R_drewN | apply Kd.R_drew)); exact (Kd.R_mono (Kd.R_far (p := ⟨gb243, 1, none⟩) (Kd.R_far (p := ⟨gb243, 0, none⟩) (Kd.R_types HO234.out BK243.out (by decide)) (fun _ hk => hk.2) (.slice Ao28 t237.length co28)) (fun _ hk => hk.2) (.slice Ao32 t240.length co32)) (fun _ h_ => h_.1))))) (Kd.R_lt (by (with_reducible repeat (first | apply Kd.R_alloc | apply Kd.R_drewN | apply Kd.R_drew)); exact (Kd.R_mono (Kd.R_far (p := ⟨gb243, 1, none⟩) (Kd.R_far (p := ⟨gb243, 0, none⟩) (Kd.R_types HO239.out BK243.out (by decide)) (fun _ hk => hk.2) (.slice Ao28 t237.length co28)) (fun _ hk => hk.2) (.slice Ao32 t240.length co32)) (fun _ h_ => h_.1))))) (Kd.R_lt (by (with_reducible repeat (first | apply Kd.R_alloc | apply Kd.R_drewN | apply Kd.R_drew)); exact (Kd.R_mono (Kd.R_far (p := ⟨gb243, 1, none⟩) (Kd.R_far (p := ⟨gb243, 0, none⟩) (Kd.R_types HO242.out BK243.out (by decide)) (fun _ hk => hk.2) (.slice Ao28 t237.length co28)) (fun _ hk => hk.2) (.slice Ao32 t240.length co32)) (fun _ h_ => h_.1))))) (below_size (tB HB.out))); replace HO225 := Aside0.mk (Kd.R_mono (Kd.R_told (Kd.R_told (Kd.R_old (by (with_reducible repeat (first | apply Kd.R_alloc | apply Kd.R_drewN | apply Kd.R_drew)); exact (Kd.R_mono (Kd.R_far (p := ⟨gb243, 1, none⟩) (Kd.R_far (p := ⟨gb243, 0, none⟩) (Kd.R_types HO225.out BK243.out (by decide)) (fun _ hk => hk.2) (.slice Ao28 t237.length co28)) (fun _ hk => hk.2) (.slice Ao32 t240.length co32)) (fun _ h_ => h_.1))) hb) (Kd.R_base ho0)) (Kd.R_base ho1)) (fun _ h_ => h_.1)); replace HO228 := Aside0.mk (Kd.R_mono (Kd.R_told (Kd.R_told (Kd.R_old (by (with_reducible repeat (first | apply Kd.R_alloc | apply Kd.R_drewN | apply Kd.R_drew)); exact (Kd.R_mono (Kd.R_far (p := ⟨gb243, 1, none⟩) (Kd.R_far (p := ⟨gb243, 0, none⟩) (Kd.R_types HO228.out BK243.out (by decide)) (fun _ hk => hk.2) (.slice Ao28 t237.length co28)) (fun _ hk => hk.2) (.slice Ao32 t240.length co32)) (fun _ h_ => h_.1))) hb) (Kd.R_base ho0)) (Kd.R_base ho1)) (fun _ h_ => h_.1)); replace HO231 := Aside0.mk (Kd.R_mono (Kd.R_told (Kd.R_told (Kd.R_old (by (with_reducible repeat (first | apply Kd.R_alloc | apply Kd.R_drewN | apply Kd.R_drew)); exact (Kd.R_mono (Kd.R_far (p := ⟨gb243, 1, none⟩) (Kd.R_far (p := ⟨gb243, 0, none⟩) (Kd.R_types HO231.out BK243.out (by decide)) (fun _ hk => hk.2) (.slice Ao28 t237.length co28)) (fun _ hk => hk.2) (.slice Ao32 t240.length co32)) (fun _ h_ => h_.1))) hb) (Kd.R_base ho0)) (Kd.R_base ho1)) (fun _ h_ => h_.1)); replace HO234 := Aside0.mk (Kd.R_mono (Kd.R_told (Kd.R_told (Kd.R_old (by (with_reducible repeat (first | apply Kd.R_alloc | apply Kd.R_drewN | apply Kd.R_drew)); exact (Kd.R_mono (Kd.R_far (p := ⟨gb243, 1, none⟩) (Kd.R_far (p := ⟨gb243, 0, none⟩) (Kd.R_types HO234.out BK243.out (by decide)) (fun _ hk => hk.2) (.slice Ao28 t237.length co28)) (fun _ hk => hk.2) (.slice Ao32 t240.length co32)) (fun _ h_ => h_.1))) hb) (Kd.R_base ho0)) (Kd.R_base ho1)) (fun _ h_ => h_.1)); replace HO239 := Aside0.mk (Kd.R_mono (Kd.R_told (Kd.R_told (Kd.R_old (by (with_reducible repeat (first | apply Kd.R_alloc | apply Kd.R_drewN | apply Kd.R_drew)); exact (Kd.R_mono (Kd.R_far (p := ⟨gb243, 1, none⟩) (Kd.R_far (p := ⟨gb243, 0, none⟩) (Kd.R_types HO239.out BK243.out (by decide)) (fun _ hk => hk.2) (.slice Ao28 t237.length co28)) (fun _ hk => hk.2) (.slice Ao32 t240.length co32)) (fun _ h_ => h_.1))) hb) (Kd.R_base ho0)) (Kd.R_base ho1)) (fun _ h_ => h_.1)); replace HO242 := Aside0.mk (Kd.R_mono (Kd.R_told (Kd.R_told (Kd.R_old (by (with_reducible repeat (first | apply Kd.R_alloc | apply Kd.R_drewN | apply Kd.R_drew)); exact (Kd.R_mono (Kd.R_far (p := ⟨gb243, 1, none⟩) (Kd.R_far (p := ⟨gb243, 0, none⟩) (Kd.R_types HO242.out BK243.out (by decide)) (fun _ hk => hk.2) (.slice Ao28 t237.length co28)) (fun _ hk => hk.2) (.slice Ao32 t240.length co32)) (fun _ h_ => h_.1))) hb) (Kd.R_base ho0)) (Kd.R_base ho1)) (fun _ h_ => h_.1)); replace BK221 := Aside0.mk (blk_below (g := gb221) (o := .cells #[.slice A0_0 l0_0.length c0_0, .slice A0_1 l0_1.length c0_1] 24 (0, 0)) (by (with_reducible repeat (first | refine blk_drewN ?_ _ | refine blk_drew ?_ | refine blk_alloc ?_ _)); refine blk_far ?_ NB221_243.out _; (with_reducible repeat (first | refine blk_drewN ?_ _ | refine blk_drew ?_ | refine blk_alloc ?_ _)); refine blk_far ?_ NB221_243.out _; (with_reducible repeat (first | refine blk_drewN ?_ _ | refine blk_drew ?_ | refine blk_alloc ?_ _)); exact BK221.out) hb); replace BK236 := Aside0.mk (blk_below (g := gb236) (o := .cells #[.slice Ao21 t229.length co21, .slice Ao24 t232.length co24] 27 (0, 0)) (by (with_reducible repeat (first | refine blk_drewN ?_ _ | refine blk_drew ?_ | refine blk_alloc ?_ _)); refine blk_far ?_ NB236_243.out _; (with_reducible repeat (first | refine blk_drewN ?_ _ | refine blk_drew ?_ | refine blk_alloc ?_ _)); refine blk_far ?_ NB236_243.out _; (with_reducible repeat (first | refine blk_drewN ?_ _ | refine blk_drew ?_ | refine blk_alloc ?_ _)); exact BK236.out) hb); replace BK243 := Aside0.mk (blk_below (g := gb243) (o := .cells #[.slice Ao28 t237.length co28, .slice Ao32 t240.length co32] 27 (0, 0)) (by (with_reducible repeat (first | refine blk_drewN ?_ _ | refine blk_drew ?_ | refine blk_alloc ?_ _)); refine blk_put (cs := #[.slice Ao28 t237.length co28, .slice none 0 0]) ?_ 1 _ rfl; (with_reducible repeat (first | refine blk_drewN ?_ _ | refine blk_drew ?_ | refine blk_alloc ?_ _)); refine blk_put (cs := #[.slice none 0 0, .slice none 0 0]) ?_ 0 _ rfl; (with_reducible repeat (first | refine blk_drewN ?_ _ | refine blk_drew ?_ | refine blk_alloc ?_ _)); exact BK243.out) hb); replace HB := Aside0.mk (below_step (tB HB.out) hb); (try clear hb); (try clear hb2); (try clear hk); (try clear hi); (try clear ho0); (try clear ho1)) | ((with_reducible refine gate_dst (N := 7) rfl ?_); refine box_event ?hg (N := 7) ?hd (cs := #[.slice none 0 0, .slice none 0 0]) (t := 27) ?hr ?_; (case hd => rfl); (case hg => rfl); (case hr => first | (go_simp; done) | (go_simp; rfl)); intro gb251 hg w34 hbox hb; replace HO225 := Aside0.mk (Kd.R_below (tR HO225.out) hb); replace HO228 := Aside0.mk (Kd.R_below (tR HO228.out) hb); replace HO231 := Aside0.mk (Kd.R_below (tR HO231.out) hb); replace HO234 := Aside0.mk (Kd.R_below (tR HO234.out) hb); replace HO239 := Aside0.mk (Kd.R_below (tR HO239.out) hb); replace HO242 := Aside0.mk (Kd.R_below (tR HO242.out) hb); replace HO246 := Aside0.mk (Kd.R_below (tR HO246.out) hb); replace HO249 := Aside0.mk (Kd.R_below (tR HO249.out) hb); have BK251 := Aside0.mk (hbox); have GW251 := Aside0.mk (bS HB.out hg); have GE251 := Aside0.mk (bS HB.out hg); replace HB := Aside0.mk (below_step (tB HB.out) hb); have NB221_251 := Aside0.mk (nL BK221.out hg); have NB251_221 := Aside0.mk (nG BK221.out hg); replace BK221 := bkB BK221 hb; have NB236_251 := Aside0.mk (nL BK236.out hg); have NB251_236 := Aside0.mk (nG BK236.out hg); replace BK236 := bkB BK236 hb; have NB243_251 := Aside0.mk (nL BK243.out hg); have NB251_243 := Aside0.mk (nG BK243.out hg); replace BK243 := bkB BK243 hb; clear hb hbox hg; obtain ⟨Ao35, co35, eo35⟩ := Kd.R_slice HO246.out; subst eo35; have hnb36 := NB251_221.out; have hnc36 := NB221_251.out; have hnb37 := NB251_236.out; have hnc37 := NB236_251.out; have hnb38 := NB251_243.out; have hnc38 := NB243_251.out; obtain ⟨hcz39_0, hfz39_0, hcz39_1, hfz39_1⟩ := cz2 BK251; obtain ⟨Ao40, co40, eo40⟩ := Kd.R_slice HO249.out; subst eo40))
  (try simp only [Act.put, List.setIfInBounds_toArray, List.set_cons_zero, List.set_cons_succ])
  go_cut [40] (fun v40 wc => ∃ (kq : Nat) (x40_10 : Bool), v40 = .bool x40_10 ∧ Aside0 (laws_FnExactMirrorMobile.j0 kq t235 t250 x40_10 l0_0 l0_1 t229 t232 t237 t240 t244 t247 = some r) ∧ Aside0 (kq ≤ k) ∧ Aside0 (Kd.R k58 58 wc w.heap.size (fun k_ => some k_ ≠ ((.slice Ao24 t232.length co24) : Value).ownBlock ∧ some k_ ≠ ((.slice Ao28 t237.length co28) : Value).ownBlock ∧ some k_ ≠ ((.slice Ao32 t240.length co32) : Value).ownBlock ∧ some k_ ≠ ((.slice Ao35 t244.length co35) : Value).ownBlock ∧ some k_ ≠ ((.slice Ao40 t247.length co40) : Value).ownBlock) (.slice Ao21 t229.length co21) t229) ∧ Aside0 (Kd.R k58 58 wc w.heap.size (fun k_ => some k_ ≠ ((.slice Ao21 t229.length co21) : Value).ownBlock ∧ some k_ ≠ ((.slice Ao28 t237.length co28) : Value).ownBlock ∧ some k_ ≠ ((.slice Ao32 t240.length co32) : Value).ownBlock ∧ some k_ ≠ ((.slice Ao35 t244.length co35) : Value).ownBlock ∧ some k_ ≠ ((.slice Ao40 t247.length co40) : Value).ownBlock) (.slice Ao24 t232.length co24) t232) ∧ Aside0 (Kd.R k58 58 wc w.heap.size (fun k_ => some k_ ≠ ((.slice Ao21 t229.length co21) : Value).ownBlock ∧ some k_ ≠ ((.slice Ao24 t232.length co24) : Value).ownBlock ∧ some k_ ≠ ((.slice Ao32 t240.length co32) : Value).ownBlock ∧ some k_ ≠ ((.slice Ao35 t244.length co35) : Value).ownBlock ∧ some k_ ≠ ((.slice Ao40 t247.length co40) : Value).ownBlock) (.slice Ao28 t237.length co28) t237) ∧ Aside0 (Kd.R k58 58 wc w.heap.size (fun k_ => some k_ ≠ ((.slice Ao21 t229.length co21) : Value).ownBlock ∧ some k_ ≠ ((.slice Ao24 t232.length co24) : Value).ownBlock ∧ some k_ ≠ ((.slice Ao28 t237.length co28) : Value).ownBlock ∧ some k_ ≠ ((.slice Ao35 t244.length co35) : Value).ownBlock ∧ some k_ ≠ ((.slice Ao40 t247.length co40) : Value).ownBlock) (.slice Ao32 t240.length co32) t240) ∧ Aside0 (Kd.R k58 58 wc w.heap.size (fun k_ => some k_ ≠ ((.slice Ao21 t229.length co21) : Value).ownBlock ∧ some k_ ≠ ((.slice Ao24 t232.length co24) : Value).ownBlock ∧ some k_ ≠ ((.slice Ao28 t237.length co28) : Value).ownBlock ∧ some k_ ≠ ((.slice Ao32 t240.length co32) : Value).ownBlock ∧ some k_ ≠ ((.slice Ao40 t247.length co40) : Value).ownBlock) (.slice Ao35 t244.length co35) t244) ∧ Aside0 (Kd.R k58 58 wc w.heap.size (fun k_ => some k_ ≠ ((.slice Ao21 t229.length co21) : Value).ownBlock ∧ some k_ ≠ ((.slice Ao24 t232.length co24) : Value).ownBlock ∧ some k_ ≠ ((.slice Ao28 t237.length co28) : Value).ownBlock ∧ some k_ ≠ ((.slice Ao32 t240.length co32) : Value).ownBlock ∧ some k_ ≠ ((.slice Ao35 t244.length co35) : Value).ownBlock) (.slice Ao40 t247.length co40) t247) ∧ Aside0 (wc.heap[gb221]? = some (.cells #[(.slice A0_0 l0_0.length c0_0), (.slice A0_1 l0_1.length c0_1)] 24 (0, 0))) ∧ Aside0 (wc.heap[gb236]? = some (.cells #[(.slice Ao21 t229.length co21), (.slice Ao24 t232.length co24)] 27 (0, 0))) ∧ Aside0 (wc.heap[gb243]? = some (.cells #[(.slice Ao28 t237.length co28), (.slice Ao32 t240.length co32)] 27 (0, 0))) ∧ Aside0 (wc.heap[gb251]? = some (.cells #[(.slice Ao35 t244.length co35), (.slice Ao40 t247.length co40)] 27 (0, 0))) ∧ Aside0 (Below w.heap.size w wc))
  case first =>
   have H := HC11.out
   clear HC11
   replace H := Option.bind_eq_some_iff.mp H
   obtain ⟨t252, A410, H⟩ := H
   replace H : (if t252 = true then (laws_FnExactMirrorMobile.j0 k t235 t250 (t250 != t235) l0_0 l0_1 t229 t232 t237 t240 t244 t247) else (laws_FnExactMirrorMobile.j0 k t235 t250 true l0_0 l0_1 t229 t232 t237 t240 t244 t247)) = some r := H
   have A41 := Aside0.mk A410
   clear A410
   by_cases c42 : t252 = true
   ·
    subst c42
    have H1 : (laws_FnExactMirrorMobile.j0 k t235 t250 (t250 != t235) l0_0 l0_1 t229 t232 t237 t240 t244 t247) = some r := by rw [if_pos rfl] at H; exact H
    clear H
    have H := H1
    clear H1
    have H' := Aside0.mk H
    clear H
    have hnb43 := NB251_221.out
    have hnc43 := NB221_251.out
    have hnb44 := NB251_236.out
    have hnc44 := NB236_251.out
    have hnb45 := NB251_243.out
    have hnc45 := NB243_251.out
    obtain ⟨hcz46_0, hfz46_0, hcz46_1, hfz46_1⟩ := cz2 BK251
    have hnb47 := NB236_221.out
    have hnc47 := NB221_236.out
    have hnb48 := NB236_243.out
    have hnc48 := NB243_236.out
    obtain ⟨hcz49_0, hfz49_0, hcz49_1, hfz49_1⟩ := cz2 BK236
    go_wp2_with (first | ((with_reducible refine gate_callee (f := 19) rfl ?_); refine goesL_ (some 34) rfl rfl Try.func19 (by kernel_rfl) rfl #[.agg #[.slice Ao35 t244.length co35, .slice Ao40 t247.length co40], .agg #[.slice Ao21 t229.length co21, .slice Ao24 t232.length co24]] rfl tM ?_; (with_reducible refine (laws_eqMobile.calls k _ _ t244 _ _ t247 _ _ t229 _ _ t232 true _ ?side1 ?side2 ?side3 ?side4 ?side5 ?side6 ?side7 ?side8 A41.out).mono ?_); (case side1 => refine (Kd.R_reads' (e := 58) (base := w.heap.size) (ok := fun k_ => ((((((some k_ ≠ (.slice Ao40 t247.length co40 : Value).ownBlock ∧ some k_ ≠ (.slice Ao17 t223.length co17 : Value).ownBlock) ∧ some k_ ≠ (.slice Ao18 t226.length co18 : Value).ownBlock) ∧ some k_ ≠ (.slice Ao21 t229.length co21 : Value).ownBlock) ∧ some k_ ≠ (.slice Ao24 t232.length co24 : Value).ownBlock) ∧ some k_ ≠ (.slice Ao28 t237.length co28 : Value).ownBlock) ∧ some k_ ≠ (.slice Ao32 t240.length co32 : Value).ownBlock)) (n := t244.length) (c := co35) ?_).2.2; exact (by (with_reducible repeat (first | apply Kd.R_alloc | apply Kd.R_drewN | apply Kd.R_drew)); exact (Kd.R_mono (Kd.R_far (p := ⟨gb251, 1, none⟩) (Kd.R_far (p := ⟨gb251, 0, none⟩) (Kd.R_types HO246.out BK251.out (by decide)) (fun _ hk => hk.2) (.slice Ao35 t244.length co35)) (fun _ hk => hk.2) (.slice Ao40 t247.length co40)) (fun _ h_ => h_.1)))); (case side2 => exact (Kd.R_reads' HO246.out).2.1); (case side3 => refine (Kd.R_reads' (e := 58) (base := w.heap.size) (ok := fun k_ => ((((((some k_ ≠ (.slice Ao35 t244.length co35 : Value).ownBlock ∧ some k_ ≠ (.slice Ao17 t223.length co17 : Value).ownBlock) ∧ some k_ ≠ (.slice Ao18 t226.length co18 : Value).ownBlock) ∧ some k_ ≠ (.slice Ao21 t229.length co21 : Value).ownBlock) ∧ some k_ ≠ (.slice Ao24 t232.length co24 : Value).ownBlock) ∧ some k_ ≠ (.slice Ao28 t237.length co28 : Value).ownBlock) ∧ some k_ ≠ (.slice Ao32 t240.length co32 : Value).ownBlock)) (n := t247.length) (c := co40) ?_).2.2; exact (by (with_reducible repeat (first | apply Kd.R_alloc | apply Kd.R_drewN | apply Kd.R_drew)); exact (Kd.R_mono (Kd.R_far (p := ⟨gb251, 1, none⟩) (Kd.R_far (p := ⟨gb251, 0, none⟩) (Kd.R_types HO249.out BK251.out (by decide)) (fun _ hk => hk.2) (.slice Ao35 t244.length co35)) (fun _ hk => hk.2) (.slice Ao40 t247.length co40)) (fun _ h_ => h_.1)))); (case side4 => exact (Kd.R_reads' HO249.out).2.1); (case side5 => refine (Kd.R_reads' (e := 58) (base := w.heap.size) (ok := fun k_ => ((((((some k_ ≠ (.slice Ao24 t232.length co24 : Value).ownBlock ∧ some k_ ≠ (.slice Ao17 t223.length co17 : Value).ownBlock) ∧ some k_ ≠ (.slice Ao18 t226.length co18 : Value).ownBlock) ∧ some k_ ≠ (.slice Ao28 t237.length co28 : Value).ownBlock) ∧ some k_ ≠ (.slice Ao32 t240.length co32 : Value).ownBlock) ∧ some k_ ≠ (.slice Ao35 t244.length co35 : Value).ownBlock) ∧ some k_ ≠ (.slice Ao40 t247.length co40 : Value).ownBlock)) (n := t229.length) (c := co21) ?_).2.2; exact (by (with_reducible repeat (first | apply Kd.R_alloc | apply Kd.R_drewN | apply Kd.R_drew)); exact (Kd.R_mono (Kd.R_far (p := ⟨gb251, 1, none⟩) (Kd.R_far (p := ⟨gb251, 0, none⟩) (Kd.R_types HO231.out BK251.out (by decide)) (fun _ hk => hk.2) (.slice Ao35 t244.length co35)) (fun _ hk => hk.2) (.slice Ao40 t247.length co40)) (fun _ h_ => h_.1)))); (case side6 => exact (Kd.R_reads' HO231.out).2.1); (case side7 => refine (Kd.R_reads' (e := 58) (base := w.heap.size) (ok := fun k_ => ((((((some k_ ≠ (.slice Ao21 t229.length co21 : Value).ownBlock ∧ some k_ ≠ (.slice Ao17 t223.length co17 : Value).ownBlock) ∧ some k_ ≠ (.slice Ao18 t226.length co18 : Value).ownBlock) ∧ some k_ ≠ (.slice Ao28 t237.length co28 : Value).ownBlock) ∧ some k_ ≠ (.slice Ao32 t240.length co32 : Value).ownBlock) ∧ some k_ ≠ (.slice Ao35 t244.length co35 : Value).ownBlock) ∧ some k_ ≠ (.slice Ao40 t247.length co40 : Value).ownBlock)) (n := t232.length) (c := co24) ?_).2.2; exact (by (with_reducible repeat (first | apply Kd.R_alloc | apply Kd.R_drewN | apply Kd.R_drew)); exact (Kd.R_mono (Kd.R_far (p := ⟨gb251, 1, none⟩) (Kd.R_far (p := ⟨gb251, 0, none⟩) (Kd.R_types HO234.out BK251.out (by decide)) (fun _ hk => hk.2) (.slice Ao35 t244.length co35)) (fun _ hk => hk.2) (.slice Ao40 t247.length co40)) (fun _ h_ => h_.1)))); (case side8 => exact (Kd.R_reads' HO234.out).2.1); rintro e w50 ⟨rfl, hb⟩; refine ⟨_, rfl, ?_⟩; replace HO225 := Aside0.mk (Kd.R_below (by (with_reducible repeat (first | apply Kd.R_alloc | apply Kd.R_drewN | apply Kd.R_drew)); exact (Kd.R_mono (Kd.R_far (p := ⟨gb251, 1, none⟩) (Kd.R_far (p := ⟨gb251, 0, none⟩) (Kd.R_types HO225.out BK251.out (by decide)) (fun _ hk => hk.2) (.slice Ao35 t244.length co35)) (fun _ hk => hk.2) (.slice Ao40 t247.length co40)) (fun _ h_ => h_.1))) hb); replace HO228 := Aside0.mk (Kd.R_below (by (with_reducible repeat (first | apply Kd.R_alloc | apply Kd.R_drewN | apply Kd.R_drew)); exact (Kd.R_mono (Kd.R_far (p := ⟨gb251, 1, none⟩) (Kd.R_far (p := ⟨gb251, 0, none⟩) (Kd.R_types HO228.out BK251.out (by decide)) (fun _ hk => hk.2) (.slice Ao35 t244.length co35)) (fun _ hk => hk.2) (.slice Ao40 t247.length co40)) (fun _ h_ => h_.1))) hb); replace HO231 := Aside0.mk (Kd.R_below (by (with_reducible repeat (first | apply Kd.R_alloc | apply Kd.R_drewN | apply Kd.R_drew)); exact (Kd.R_mono (Kd.R_far (p := ⟨gb251, 1, none⟩) (Kd.R_far (p := ⟨gb251, 0, none⟩) (Kd.R_types HO231.out BK251.out (by decide)) (fun _ hk => hk.2) (.slice Ao35 t244.length co35)) (fun _ hk => hk.2) (.slice Ao40 t247.length co40)) (fun _ h_ => h_.1))) hb); replace HO234 := Aside0.mk (Kd.R_below (by (with_reducible repeat (first | apply Kd.R_alloc | apply Kd.R_drewN | apply Kd.R_drew)); exact (Kd.R_mono (Kd.R_far (p := ⟨gb251, 1, none⟩) (Kd.R_far (p := ⟨gb251, 0, none⟩) (Kd.R_types HO234.out BK251.out (by decide)) (fun _ hk => hk.2) (.slice Ao35 t244.length co35)) (fun _ hk => hk.2) (.slice Ao40 t247.length co40)) (fun _ h_ => h_.1))) hb); replace HO239 := Aside0.mk (Kd.R_below (by (with_reducible repeat (first | apply Kd.R_alloc | apply Kd.R_drewN | apply Kd.R_drew)); exact (Kd.R_mono (Kd.R_far (p := ⟨gb251, 1, none⟩) (Kd.R_far (p := ⟨gb251, 0, none⟩) (Kd.R_types HO239.out BK251.out (by decide)) (fun _ hk => hk.2) (.slice Ao35 t244.length co35)) (fun _ hk => hk.2) (.slice Ao40 t247.length co40)) (fun _ h_ => h_.1))) hb); replace HO242 := Aside0.mk (Kd.R_below (by (with_reducible repeat (first | apply Kd.R_alloc | apply Kd.R_drewN | apply Kd.R_drew)); exact (Kd.R_mono (Kd.R_far (p := ⟨gb251, 1, none⟩) (Kd.R_far (p := ⟨gb251, 0, none⟩) (Kd.R_types HO242.out BK251.out (by decide)) (fun _ hk => hk.2) (.slice Ao35 t244.length co35)) (fun _ hk => hk.2) (.slice Ao40 t247.length co40)) (fun _ h_ => h_.1))) hb); replace HO246 := Aside0.mk (Kd.R_below (by (with_reducible repeat (first | apply Kd.R_alloc | apply Kd.R_drewN | apply Kd.R_drew)); exact (Kd.R_mono (Kd.R_far (p := ⟨gb251, 1, none⟩) (Kd.R_far (p := ⟨gb251, 0, none⟩) (Kd.R_types HO246.out BK251.out (by decide)) (fun _ hk => hk.2) (.slice Ao35 t244.length co35)) (fun _ hk => hk.2) (.slice Ao40 t247.length co40)) (fun _ h_ => h_.1))) hb); replace HO249 := Aside0.mk (Kd.R_below (by (with_reducible repeat (first | apply Kd.R_alloc | apply Kd.R_drewN | apply Kd.R_drew)); exact (Kd.R_mono (Kd.R_far (p := ⟨gb251, 1, none⟩) (Kd.R_far (p := ⟨gb251, 0, none⟩) (Kd.R_types HO249.out BK251.out (by decide)) (fun _ hk => hk.2) (.slice Ao35 t244.length co35)) (fun _ hk => hk.2) (.slice Ao40 t247.length co40)) (fun _ h_ => h_.1))) hb); replace BK221 := Aside0.mk (blk_below (g := gb221) (o := .cells #[.slice A0_0 l0_0.length c0_0, .slice A0_1 l0_1.length c0_1] 24 (0, 0)) (by (with_reducible repeat (first | refine blk_drewN ?_ _ | refine blk_drew ?_ | refine blk_alloc ?_ _)); refine blk_far ?_ NB221_251.out _; (with_reducible repeat (first | refine blk_drewN ?_ _ | refine blk_drew ?_ | refine blk_alloc ?_ _)); refine blk_far ?_ NB221_251.out _; (with_reducible repeat (first | refine blk_drewN ?_ _ | refine blk_drew ?_ | refine blk_alloc ?_ _)); exact BK221.out) hb); replace BK236 := Aside0.mk (blk_below (g := gb236) (o := .cells #[.slice Ao21 t229.length co21, .slice Ao24 t232.length co24] 27 (0, 0)) (by (with_reducible repeat (first | refine blk_drewN ?_ _ | refine blk_drew ?_ | refine blk_alloc ?_ _)); refine blk_far ?_ NB236_251.out _; (with_reducible repeat (first | refine blk_drewN ?_ _ | refine blk_drew ?_ | refine blk_alloc ?_ _)); refine blk_far ?_ NB236_251.out _; (with_reducible repeat (first | refine blk_drewN ?_ _ | refine blk_drew ?_ | refine blk_alloc ?_ _)); exact BK236.out) hb); replace BK243 := Aside0.mk (blk_below (g := gb243) (o := .cells #[.slice Ao28 t237.length co28, .slice Ao32 t240.length co32] 27 (0, 0)) (by (with_reducible repeat (first | refine blk_drewN ?_ _ | refine blk_drew ?_ | refine blk_alloc ?_ _)); refine blk_far ?_ NB243_251.out _; (with_reducible repeat (first | refine blk_drewN ?_ _ | refine blk_drew ?_ | refine blk_alloc ?_ _)); refine blk_far ?_ NB243_251.out _; (with_reducible repeat (first | refine blk_drewN ?_ _ | refine blk_drew ?_ | refine blk_alloc ?_ _)); exact BK243.out) hb); replace BK251 := Aside0.mk (blk_below (g := gb251) (o := .cells #[.slice Ao35 t244.length co35, .slice Ao40 t247.length co40] 27 (0, 0)) (by (with_reducible repeat (first | refine blk_drewN ?_ _ | refine blk_drew ?_ | refine blk_alloc ?_ _)); refine blk_put (cs := #[.slice Ao35 t244.length co35, .slice none 0 0]) ?_ 1 _ rfl; (with_reducible repeat (first | refine blk_drewN ?_ _ | refine blk_drew ?_ | refine blk_alloc ?_ _)); refine blk_put (cs := #[.slice none 0 0, .slice none 0 0]) ?_ 0 _ rfl; (with_reducible repeat (first | refine blk_drewN ?_ _ | refine blk_drew ?_ | refine blk_alloc ?_ _)); exact BK251.out) hb); replace HB := Aside0.mk (below_step (tB HB.out) hb); (try clear hb); (try clear hb2); (try clear hk); (try clear hi)))
    go_meet
    case rel => exact ⟨_, ((t250 != t235)), (by first | rfl | (simp; done) | (simp [wrap64]; done) | (simp [*]; done)), H', ⟨by first | omega | exact Nat.le_refl _⟩, ⟨by (with_reducible repeat (first | apply Kd.R_alloc | apply Kd.R_drewN | apply Kd.R_drew)); exact Kd.R_mono HO231.out (fun _ hk => ⟨hk.1.1.1.1.1.1, ⟨hk.1.1.1.2, ⟨hk.1.1.2, ⟨hk.1.2, hk.2⟩⟩⟩⟩)⟩, ⟨by (with_reducible repeat (first | apply Kd.R_alloc | apply Kd.R_drewN | apply Kd.R_drew)); exact Kd.R_mono HO234.out (fun _ hk => ⟨hk.1.1.1.1.1.1, ⟨hk.1.1.1.2, ⟨hk.1.1.2, ⟨hk.1.2, hk.2⟩⟩⟩⟩)⟩, ⟨by (with_reducible repeat (first | apply Kd.R_alloc | apply Kd.R_drewN | apply Kd.R_drew)); exact Kd.R_mono HO239.out (fun _ hk => ⟨hk.1.1.1.2, ⟨hk.1.1.2, ⟨hk.1.1.1.1.1.1, ⟨hk.1.2, hk.2⟩⟩⟩⟩)⟩, ⟨by (with_reducible repeat (first | apply Kd.R_alloc | apply Kd.R_drewN | apply Kd.R_drew)); exact Kd.R_mono HO242.out (fun _ hk => ⟨hk.1.1.1.2, ⟨hk.1.1.2, ⟨hk.1.1.1.1.1.1, ⟨hk.1.2, hk.2⟩⟩⟩⟩)⟩, ⟨by (with_reducible repeat (first | apply Kd.R_alloc | apply Kd.R_drewN | apply Kd.R_drew)); exact Kd.R_mono HO246.out (fun _ hk => ⟨hk.1.1.1.2, ⟨hk.1.1.2, ⟨hk.1.2, ⟨hk.2, hk.1.1.1.1.1.1⟩⟩⟩⟩)⟩, ⟨by (with_reducible repeat (first | apply Kd.R_alloc | apply Kd.R_drewN | apply Kd.R_drew)); exact Kd.R_mono HO249.out (fun _ hk => ⟨hk.1.1.1.2, ⟨hk.1.1.2, ⟨hk.1.2, ⟨hk.2, hk.1.1.1.1.1.1⟩⟩⟩⟩)⟩, ⟨tK BK221.out⟩, ⟨tK BK236.out⟩, ⟨tK BK243.out⟩, ⟨tK BK251.out⟩, ⟨tB HB.out⟩⟩
   ·
    replace c42 := Bool.eq_false_iff.mpr c42
    subst c42
    have H1 : (laws_FnExactMirrorMobile.j0 k t235 t250 true l0_0 l0_1 t229 t232 t237 t240 t244 t247) = some r := by rw [if_neg (show ¬ (false = true) by decide)] at H; exact H
    clear H
    have H := H1
    clear H1
    have H' := Aside0.mk H
    clear H
    have hnb51 := NB251_221.out
    have hnc51 := NB221_251.out
    have hnb52 := NB251_236.out
    have hnc52 := NB236_251.out
    have hnb53 := NB251_243.out
    have hnc53 := NB243_251.out
    obtain ⟨hcz54_0, hfz54_0, hcz54_1, hfz54_1⟩ := cz2 BK251
    have hnb55 := NB236_221.out
    have hnc55 := NB221_236.out
    have hnb56 := NB236_243.out
    have hnc56 := NB243_236.out
    obtain ⟨hcz57_0, hfz57_0, hcz57_1, hfz57_1⟩ := cz2 BK236
    go_wp2_with (first | ((with_reducible refine gate_callee (f := 19) rfl ?_); refine goesL_ (some 34) rfl rfl Try.func19 (by kernel_rfl) rfl #[.agg #[.slice Ao35 t244.length co35, .slice Ao40 t247.length co40], .agg #[.slice Ao21 t229.length co21, .slice Ao24 t232.length co24]] rfl tM ?_; (with_reducible refine (laws_eqMobile.calls k _ _ t244 _ _ t247 _ _ t229 _ _ t232 false _ ?side1 ?side2 ?side3 ?side4 ?side5 ?side6 ?side7 ?side8 A41.out).mono ?_); (case side1 => refine (Kd.R_reads' (e := 58) (base := w.heap.size) (ok := fun k_ => ((((((some k_ ≠ (.slice Ao40 t247.length co40 : Value).ownBlock ∧ some k_ ≠ (.slice Ao17 t223.length co17 : Value).ownBlock) ∧ some k_ ≠ (.slice Ao18 t226.length co18 : Value).ownBlock) ∧ some k_ ≠ (.slice Ao21 t229.length co21 : Value).ownBlock) ∧ some k_ ≠ (.slice Ao24 t232.length co24 : Value).ownBlock) ∧ some k_ ≠ (.slice Ao28 t237.length co28 : Value).ownBlock) ∧ some k_ ≠ (.slice Ao32 t240.length co32 : Value).ownBlock)) (n := t244.length) (c := co35) ?_).2.2; exact (by (with_reducible repeat (first | apply Kd.R_alloc | apply Kd.R_drewN | apply Kd.R_drew)); exact (Kd.R_mono (Kd.R_far (p := ⟨gb251, 1, none⟩) (Kd.R_far (p := ⟨gb251, 0, none⟩) (Kd.R_types HO246.out BK251.out (by decide)) (fun _ hk => hk.2) (.slice Ao35 t244.length co35)) (fun _ hk => hk.2) (.slice Ao40 t247.length co40)) (fun _ h_ => h_.1)))); (case side2 => exact (Kd.R_reads' HO246.out).2.1); (case side3 => refine (Kd.R_reads' (e := 58) (base := w.heap.size) (ok := fun k_ => ((((((some k_ ≠ (.slice Ao35 t244.length co35 : Value).ownBlock ∧ some k_ ≠ (.slice Ao17 t223.length co17 : Value).ownBlock) ∧ some k_ ≠ (.slice Ao18 t226.length co18 : Value).ownBlock) ∧ some k_ ≠ (.slice Ao21 t229.length co21 : Value).ownBlock) ∧ some k_ ≠ (.slice Ao24 t232.length co24 : Value).ownBlock) ∧ some k_ ≠ (.slice Ao28 t237.length co28 : Value).ownBlock) ∧ some k_ ≠ (.slice Ao32 t240.length co32 : Value).ownBlock)) (n := t247.length) (c := co40) ?_).2.2; exact (by (with_reducible repeat (first | apply Kd.R_alloc | apply Kd.R_drewN | apply Kd.R_drew)); exact (Kd.R_mono (Kd.R_far (p := ⟨gb251, 1, none⟩) (Kd.R_far (p := ⟨gb251, 0, none⟩) (Kd.R_types HO249.out BK251.out (by decide)) (fun _ hk => hk.2) (.slice Ao35 t244.length co35)) (fun _ hk => hk.2) (.slice Ao40 t247.length co40)) (fun _ h_ => h_.1)))); (case side4 => exact (Kd.R_reads' HO249.out).2.1); (case side5 => refine (Kd.R_reads' (e := 58) (base := w.heap.size) (ok := fun k_ => ((((((some k_ ≠ (.slice Ao24 t232.length co24 : Value).ownBlock ∧ some k_ ≠ (.slice Ao17 t223.length co17 : Value).ownBlock) ∧ some k_ ≠ (.slice Ao18 t226.length co18 : Value).ownBlock) ∧ some k_ ≠ (.slice Ao28 t237.length co28 : Value).ownBlock) ∧ some k_ ≠ (.slice Ao32 t240.length co32 : Value).ownBlock) ∧ some k_ ≠ (.slice Ao35 t244.length co35 : Value).ownBlock) ∧ some k_ ≠ (.slice Ao40 t247.length co40 : Value).ownBlock)) (n := t229.length) (c := co21) ?_).2.2; exact (by (with_reducible repeat (first | apply Kd.R_alloc | apply Kd.R_drewN | apply Kd.R_drew)); exact (Kd.R_mono (Kd.R_far (p := ⟨gb251, 1, none⟩) (Kd.R_far (p := ⟨gb251, 0, none⟩) (Kd.R_types HO231.out BK251.out (by decide)) (fun _ hk => hk.2) (.slice Ao35 t244.length co35)) (fun _ hk => hk.2) (.slice Ao40 t247.length co40)) (fun _ h_ => h_.1)))); (case side6 => exact (Kd.R_reads' HO231.out).2.1); (case side7 => refine (Kd.R_reads' (e := 58) (base := w.heap.size) (ok := fun k_ => ((((((some k_ ≠ (.slice Ao21 t229.length co21 : Value).ownBlock ∧ some k_ ≠ (.slice Ao17 t223.length co17 : Value).ownBlock) ∧ some k_ ≠ (.slice Ao18 t226.length co18 : Value).ownBlock) ∧ some k_ ≠ (.slice Ao28 t237.length co28 : Value).ownBlock) ∧ some k_ ≠ (.slice Ao32 t240.length co32 : Value).ownBlock) ∧ some k_ ≠ (.slice Ao35 t244.length co35 : Value).ownBlock) ∧ some k_ ≠ (.slice Ao40 t247.length co40 : Value).ownBlock)) (n := t232.length) (c := co24) ?_).2.2; exact (by (with_reducible repeat (first | apply Kd.R_alloc | apply Kd.R_drewN | apply Kd.R_drew)); exact (Kd.R_mono (Kd.R_far (p := ⟨gb251, 1, none⟩) (Kd.R_far (p := ⟨gb251, 0, none⟩) (Kd.R_types HO234.out BK251.out (by decide)) (fun _ hk => hk.2) (.slice Ao35 t244.length co35)) (fun _ hk => hk.2) (.slice Ao40 t247.length co40)) (fun _ h_ => h_.1)))); (case side8 => exact (Kd.R_reads' HO234.out).2.1); rintro e w58 ⟨rfl, hb⟩; refine ⟨_, rfl, ?_⟩; replace HO225 := Aside0.mk (Kd.R_below (by (with_reducible repeat (first | apply Kd.R_alloc | apply Kd.R_drewN | apply Kd.R_drew)); exact (Kd.R_mono (Kd.R_far (p := ⟨gb251, 1, none⟩) (Kd.R_far (p := ⟨gb251, 0, none⟩) (Kd.R_types HO225.out BK251.out (by decide)) (fun _ hk => hk.2) (.slice Ao35 t244.length co35)) (fun _ hk => hk.2) (.slice Ao40 t247.length co40)) (fun _ h_ => h_.1))) hb); replace HO228 := Aside0.mk (Kd.R_below (by (with_reducible repeat (first | apply Kd.R_alloc | apply Kd.R_drewN | apply Kd.R_drew)); exact (Kd.R_mono (Kd.R_far (p := ⟨gb251, 1, none⟩) (Kd.R_far (p := ⟨gb251, 0, none⟩) (Kd.R_types HO228.out BK251.out (by decide)) (fun _ hk => hk.2) (.slice Ao35 t244.length co35)) (fun _ hk => hk.2) (.slice Ao40 t247.length co40)) (fun _ h_ => h_.1))) hb); replace HO231 := Aside0.mk (Kd.R_below (by (with_reducible repeat (first | apply Kd.R_alloc | apply Kd.R_drewN | apply Kd.R_drew)); exact (Kd.R_mono (Kd.R_far (p := ⟨gb251, 1, none⟩) (Kd.R_far (p := ⟨gb251, 0, none⟩) (Kd.R_types HO231.out BK251.out (by decide)) (fun _ hk => hk.2) (.slice Ao35 t244.length co35)) (fun _ hk => hk.2) (.slice Ao40 t247.length co40)) (fun _ h_ => h_.1))) hb); replace HO234 := Aside0.mk (Kd.R_below (by (with_reducible repeat (first | apply Kd.R_alloc | apply Kd.R_drewN | apply Kd.R_drew)); exact (Kd.R_mono (Kd.R_far (p := ⟨gb251, 1, none⟩) (Kd.R_far (p := ⟨gb251, 0, none⟩) (Kd.R_types HO234.out BK251.out (by decide)) (fun _ hk => hk.2) (.slice Ao35 t244.length co35)) (fun _ hk => hk.2) (.slice Ao40 t247.length co40)) (fun _ h_ => h_.1))) hb); replace HO239 := Aside0.mk (Kd.R_below (by (with_reducible repeat (first | apply Kd.R_alloc | apply Kd.R_drewN | apply Kd.R_drew)); exact (Kd.R_mono (Kd.R_far (p := ⟨gb251, 1, none⟩) (Kd.R_far (p := ⟨gb251, 0, none⟩) (Kd.R_types HO239.out BK251.out (by decide)) (fun _ hk => hk.2) (.slice Ao35 t244.length co35)) (fun _ hk => hk.2) (.slice Ao40 t247.length co40)) (fun _ h_ => h_.1))) hb); replace HO242 := Aside0.mk (Kd.R_below (by (with_reducible repeat (first | apply Kd.R_alloc | apply Kd.R_drewN | apply Kd.R_drew)); exact (Kd.R_mono (Kd.R_far (p := ⟨gb251, 1, none⟩) (Kd.R_far (p := ⟨gb251, 0, none⟩) (Kd.R_types HO242.out BK251.out (by decide)) (fun _ hk => hk.2) (.slice Ao35 t244.length co35)) (fun _ hk => hk.2) (.slice Ao40 t247.length co40)) (fun _ h_ => h_.1))) hb); replace HO246 := Aside0.mk (Kd.R_below (by (with_reducible repeat (first | apply Kd.R_alloc | apply Kd.R_drewN | apply Kd.R_drew)); exact (Kd.R_mono (Kd.R_far (p := ⟨gb251, 1, none⟩) (Kd.R_far (p := ⟨gb251, 0, none⟩) (Kd.R_types HO246.out BK251.out (by decide)) (fun _ hk => hk.2) (.slice Ao35 t244.length co35)) (fun _ hk => hk.2) (.slice Ao40 t247.length co40)) (fun _ h_ => h_.1))) hb); replace HO249 := Aside0.mk (Kd.R_below (by (with_reducible repeat (first | apply Kd.R_alloc | apply Kd.R_drewN | apply Kd.R_drew)); exact (Kd.R_mono (Kd.R_far (p := ⟨gb251, 1, none⟩) (Kd.R_far (p := ⟨gb251, 0, none⟩) (Kd.R_types HO249.out BK251.out (by decide)) (fun _ hk => hk.2) (.slice Ao35 t244.length co35)) (fun _ hk => hk.2) (.slice Ao40 t247.length co40)) (fun _ h_ => h_.1))) hb); replace BK221 := Aside0.mk (blk_below (g := gb221) (o := .cells #[.slice A0_0 l0_0.length c0_0, .slice A0_1 l0_1.length c0_1] 24 (0, 0)) (by (with_reducible repeat (first | refine blk_drewN ?_ _ | refine blk_drew ?_ | refine blk_alloc ?_ _)); refine blk_far ?_ NB221_251.out _; (with_reducible repeat (first | refine blk_drewN ?_ _ | refine blk_drew ?_ | refine blk_alloc ?_ _)); refine blk_far ?_ NB221_251.out _; (with_reducible repeat (first | refine blk_drewN ?_ _ | refine blk_drew ?_ | refine blk_alloc ?_ _)); exact BK221.out) hb); replace BK236 := Aside0.mk (blk_below (g := gb236) (o := .cells #[.slice Ao21 t229.length co21, .slice Ao24 t232.length co24] 27 (0, 0)) (by (with_reducible repeat (first | refine blk_drewN ?_ _ | refine blk_drew ?_ | refine blk_alloc ?_ _)); refine blk_far ?_ NB236_251.out _; (with_reducible repeat (first | refine blk_drewN ?_ _ | refine blk_drew ?_ | refine blk_alloc ?_ _)); refine blk_far ?_ NB236_251.out _; (with_reducible repeat (first | refine blk_drewN ?_ _ | refine blk_drew ?_ | refine blk_alloc ?_ _)); exact BK236.out) hb); replace BK243 := Aside0.mk (blk_below (g := gb243) (o := .cells #[.slice Ao28 t237.length co28, .slice Ao32 t240.length co32] 27 (0, 0)) (by (with_reducible repeat (first | refine blk_drewN ?_ _ | refine blk_drew ?_ | refine blk_alloc ?_ _)); refine blk_far ?_ NB243_251.out _; (with_reducible repeat (first | refine blk_drewN ?_ _ | refine blk_drew ?_ | refine blk_alloc ?_ _)); refine blk_far ?_ NB243_251.out _; (with_reducible repeat (first | refine blk_drewN ?_ _ | refine blk_drew ?_ | refine blk_alloc ?_ _)); exact BK243.out) hb); replace BK251 := Aside0.mk (blk_below (g := gb251) (o := .cells #[.slice Ao35 t244.length co35, .slice Ao40 t247.length co40] 27 (0, 0)) (by (with_reducible repeat (first | refine blk_drewN ?_ _ | refine blk_drew ?_ | refine blk_alloc ?_ _)); refine blk_put (cs := #[.slice Ao35 t244.length co35, .slice none 0 0]) ?_ 1 _ rfl; (with_reducible repeat (first | refine blk_drewN ?_ _ | refine blk_drew ?_ | refine blk_alloc ?_ _)); refine blk_put (cs := #[.slice none 0 0, .slice none 0 0]) ?_ 0 _ rfl; (with_reducible repeat (first | refine blk_drewN ?_ _ | refine blk_drew ?_ | refine blk_alloc ?_ _)); exact BK251.out) hb); replace HB := Aside0.mk (below_step (tB HB.out) hb); (try clear hb); (try clear hb2); (try clear hk); (try clear hi)))
    go_meet
    case rel => exact ⟨_, (true), (by first | rfl | (simp; done) | (simp [wrap64]; done) | (simp [*]; done)), H', ⟨by first | omega | exact Nat.le_refl _⟩, ⟨by (with_reducible repeat (first | apply Kd.R_alloc | apply Kd.R_drewN | apply Kd.R_drew)); exact Kd.R_mono HO231.out (fun _ hk => ⟨hk.1.1.1.1.1.1, ⟨hk.1.1.1.2, ⟨hk.1.1.2, ⟨hk.1.2, hk.2⟩⟩⟩⟩)⟩, ⟨by (with_reducible repeat (first | apply Kd.R_alloc | apply Kd.R_drewN | apply Kd.R_drew)); exact Kd.R_mono HO234.out (fun _ hk => ⟨hk.1.1.1.1.1.1, ⟨hk.1.1.1.2, ⟨hk.1.1.2, ⟨hk.1.2, hk.2⟩⟩⟩⟩)⟩, ⟨by (with_reducible repeat (first | apply Kd.R_alloc | apply Kd.R_drewN | apply Kd.R_drew)); exact Kd.R_mono HO239.out (fun _ hk => ⟨hk.1.1.1.2, ⟨hk.1.1.2, ⟨hk.1.1.1.1.1.1, ⟨hk.1.2, hk.2⟩⟩⟩⟩)⟩, ⟨by (with_reducible repeat (first | apply Kd.R_alloc | apply Kd.R_drewN | apply Kd.R_drew)); exact Kd.R_mono HO242.out (fun _ hk => ⟨hk.1.1.1.2, ⟨hk.1.1.2, ⟨hk.1.1.1.1.1.1, ⟨hk.1.2, hk.2⟩⟩⟩⟩)⟩, ⟨by (with_reducible repeat (first | apply Kd.R_alloc | apply Kd.R_drewN | apply Kd.R_drew)); exact Kd.R_mono HO246.out (fun _ hk => ⟨hk.1.1.1.2, ⟨hk.1.1.2, ⟨hk.1.2, ⟨hk.2, hk.1.1.1.1.1.1⟩⟩⟩⟩)⟩, ⟨by (with_reducible repeat (first | apply Kd.R_alloc | apply Kd.R_drewN | apply Kd.R_drew)); exact Kd.R_mono HO249.out (fun _ hk => ⟨hk.1.1.1.2, ⟨hk.1.1.2, ⟨hk.1.2, ⟨hk.2, hk.1.1.1.1.1.1⟩⟩⟩⟩)⟩, ⟨tK BK221.out⟩, ⟨tK BK236.out⟩, ⟨tK BK243.out⟩, ⟨tK BK251.out⟩, ⟨tB HB.out⟩⟩
  case rest =>
   clear HC11
   try clear c1
   try clear c2
   try clear p2
   try clear c3
   try clear c3b0
   try clear c4
   try clear c5
   try clear p6
   try clear c15
   try clear c17
   try clear c19
   try clear c22
   try clear c23
   try clear c29
   try clear c30
   try clear c36
   try clear c37
   try clear c38
   try clear c42
   try clear c43
   try clear c44
   try clear c45
   try clear c47
   try clear c48
   try clear c51
   try clear c52
   try clear c53
   try clear c55
   try clear c56
   try clear hcz13_0
   try clear hcz13_1
   try clear hcz15_0
   try clear hcz15_1
   try clear hcz23_0
   try clear hcz23_1
   try clear hcz25_0
   try clear hcz25_1
   try clear hcz31_0
   try clear hcz31_1
   try clear hcz39_0
   try clear hcz39_1
   try clear hcz46_0
   try clear hcz46_1
   try clear hcz49_0
   try clear hcz49_1
   try clear hcz54_0
   try clear hcz54_1
   try clear hcz57_0
   try clear hcz57_1
   try clear hcz5_0
   try clear hcz5_1
   try clear hfz13_0
   try clear hfz13_1
   try clear hfz15_0
   try clear hfz15_1
   try clear hfz23_0
   try clear hfz23_1
   try clear hfz25_0
   try clear hfz25_1
   try clear hfz31_0
   try clear hfz31_1
   try clear hfz39_0
   try clear hfz39_1
   try clear hfz46_0
   try clear hfz46_1
   try clear hfz49_0
   try clear hfz49_1
   try clear hfz54_0
   try clear hfz54_1
   try clear hfz57_0
   try clear hfz57_1
   try clear hfz5_0
   try clear hfz5_1
   obtain ⟨kq, x40_10, rfl, HA, HJ10, HO_237000, HO_237001, HO_244000, HO_244001, HO_252000, HO_252001, BK221, BK236, BK243, BK251, HB⟩ := hcut
   cases kq with
   | zero => exact absurd HA.out (by simp [laws_FnExactMirrorMobile.j0])
   | succ kj10 =>
    have H := HA.out
    clear HA
    simp only [laws_FnExactMirrorMobile.j0] at H
    by_cases c59 : x40_10 = true
    ·
     subst c59
     have H1 : (some false) = some r := by rw [if_pos rfl] at H; exact H
     clear H
     have H := H1
     clear H1
     obtain rfl := Option.some.inj H
     go_wp2
     go_ret
     exact ⟨by first | rfl | (simp [errW_none, errW_some] <;> rfl) | (simp [*, errW_none, errW_some] <;> rfl), tB HB.out⟩
    ·
     replace c59 := Bool.eq_false_iff.mpr c59
     subst c59
     have H1 : ((laws_toMobile.f kj10 l0_0 l0_1).bind fun bt253 => ((laws_eqMobile.f kj10 t237 t240 bt253.1 bt253.2).bind fun t259 => (if t259 = true then ((laws_markMobile.f kj10 t237 t240 1).bind fun bt260 => (if bt260.1 < 0 then (laws_FnExactMirrorMobile.j1 kj10 t235 true l0_0 l0_1 t229 t232 t244 t247) else ((laws_eqMobile.f kj10 t244 t247 t229 t232).bind fun t263 => (if t263 = true then (laws_FnExactMirrorMobile.j1 kj10 t235 (t250 != t235) l0_0 l0_1 t229 t232 t244 t247) else (laws_FnExactMirrorMobile.j1 kj10 t235 true l0_0 l0_1 t229 t232 t244 t247))))) else (some false)))) = some r := by rw [if_neg (show ¬ (false = true) by decide)] at H; exact H
     clear H
     have H := H1
     clear H1
     replace H := Option.bind_eq_some_iff.mp H
     obtain ⟨⟨t253, t256⟩, A600, H⟩ := H
     replace H : ((laws_eqMobile.f kj10 t237 t240 t253 t256).bind fun t259 => (if t259 = true then ((laws_markMobile.f kj10 t237 t240 1).bind fun bt260 => (if bt260.1 < 0 then (laws_FnExactMirrorMobile.j1 kj10 t235 true l0_0 l0_1 t229 t232 t244 t247) else ((laws_eqMobile.f kj10 t244 t247 t229 t232).bind fun t263 => (if t263 = true then (laws_FnExactMirrorMobile.j1 kj10 t235 (t250 != t235) l0_0 l0_1 t229 t232 t244 t247) else (laws_FnExactMirrorMobile.j1 kj10 t235 true l0_0 l0_1 t229 t232 t244 t247))))) else (some false))) = some r := H
     have A60 := Aside0.mk A600
     clear A600
     replace H := Option.bind_eq_some_iff.mp H
     obtain ⟨t259, A610, H⟩ := H
     replace H : (if t259 = true then ((laws_markMobile.f kj10 t237 t240 1).bind fun bt260 => (if bt260.1 < 0 then (laws_FnExactMirrorMobile.j1 kj10 t235 true l0_0 l0_1 t229 t232 t244 t247) else ((laws_eqMobile.f kj10 t244 t247 t229 t232).bind fun t263 => (if t263 = true then (laws_FnExactMirrorMobile.j1 kj10 t235 (t250 != t235) l0_0 l0_1 t229 t232 t244 t247) else (laws_FnExactMirrorMobile.j1 kj10 t235 true l0_0 l0_1 t229 t232 t244 t247))))) else (some false)) = some r := H
     have A61 := Aside0.mk A610
     clear A610
     by_cases c62 : t259 = true
     ·
      subst c62
      have H1 : ((laws_markMobile.f kj10 t237 t240 1).bind fun bt260 => (if bt260.1 < 0 then (laws_FnExactMirrorMobile.j1 kj10 t235 true l0_0 l0_1 t229 t232 t244 t247) else ((laws_eqMobile.f kj10 t244 t247 t229 t232).bind fun t263 => (if t263 = true then (laws_FnExactMirrorMobile.j1 kj10 t235 (t250 != t235) l0_0 l0_1 t229 t232 t244 t247) else (laws_FnExactMirrorMobile.j1 kj10 t235 true l0_0 l0_1 t229 t232 t244 t247))))) = some r := by rw [if_pos rfl] at H; exact H
      clear H
      have H := H1
      clear H1
      replace H := Option.bind_eq_some_iff.mp H
      obtain ⟨⟨t260, t261, t262⟩, A630, H⟩ := H
      replace H : (if t260 < 0 then (laws_FnExactMirrorMobile.j1 kj10 t235 true l0_0 l0_1 t229 t232 t244 t247) else ((laws_eqMobile.f kj10 t244 t247 t229 t232).bind fun t263 => (if t263 = true then (laws_FnExactMirrorMobile.j1 kj10 t235 (t250 != t235) l0_0 l0_1 t229 t232 t244 t247) else (laws_FnExactMirrorMobile.j1 kj10 t235 true l0_0 l0_1 t229 t232 t244 t247)))) = some r := H
      have A63 := Aside0.mk A630
      clear A630
      have HC64 := Aside0.mk H
      clear H
      try go_wp2
      replace HO_237000 := Aside0.mk (Kd.R_drew HO_237000.out)
      replace HO_237001 := Aside0.mk (Kd.R_drew HO_237001.out)
      replace HO_244000 := Aside0.mk (Kd.R_drew HO_244000.out)
      replace HO_244001 := Aside0.mk (Kd.R_drew HO_244001.out)
      replace HO_252000 := Aside0.mk (Kd.R_drew HO_252000.out)
      replace HO_252001 := Aside0.mk (Kd.R_drew HO_252001.out)
      replace BK221 := Aside0.mk (blk_drew BK221.out)
      replace BK236 := Aside0.mk (blk_drew BK236.out)
      replace BK243 := Aside0.mk (blk_drew BK243.out)
      replace BK251 := Aside0.mk (blk_drew BK251.out)
      replace HB := Aside0.mk (below_drew1 HB.out)
      refine start_ (n := 5) (S := fun w' => w'.cell? ⟨gb243, 0, none⟩ = some (.slice Ao28 t237.length co28) ∧ w'.cell? ⟨gb243, 1, none⟩ = some (.slice Ao32 t240.length co32) ∧ w'.cell? ⟨gb221, 0, none⟩ = some (.slice A0_0 l0_0.length c0_0) ∧ w'.cell? ⟨gb221, 1, none⟩ = some (.slice A0_1 l0_1.length c0_1)) (ds := []) #[false, false, false, false, false] (by kernel_rfl) rfl rfl ⟨(blk_cell BK243.out 0).trans rfl, (blk_cell BK243.out 1).trans rfl, (blk_cell BK221.out 0).trans rfl, (blk_cell BK221.out 1).trans rfl⟩ (fun hHeld => ?_)
      generalize wc.drew = w65 at HO_237000 HO_237001 HO_244000 HO_244001 HO_252000 HO_252001 BK221 BK236 BK243 BK251 HB hHeld ⊢
      refine take_ (i := 0) (N := some 41) (v := ?_) (a' := ?_) #[true, false, false, false, false] rfl rfl (by kernel_rfl) (fun _ _ _ h => h) (Or.inl ⟨by rfl, ?_⟩) hHeld ?_ ?_
      rotate_left
      ·
       rintro w' ⟨s0, s1, s2, s3⟩
       go_simp
       with_reducible rfl
      rotate_left
      ·
       simp only [Act.put, List.setIfInBounds_toArray, List.set_cons_zero, List.set_cons_succ, i64_w, i32_w]
       rfl
      refine take_ (i := 1) (N := some 42) (v := ?_) (a' := ?_) #[true, true, false, false, false] rfl rfl (by kernel_rfl) (fun _ _ _ h => h) (Or.inl ⟨by rfl, ?_⟩) hHeld ?_ ?_
      rotate_left
      ·
       rintro w' ⟨s0, s1, s2, s3⟩
       go_simp
       with_reducible rfl
      rotate_left
      ·
       simp only [Act.put, List.setIfInBounds_toArray, List.set_cons_zero, List.set_cons_succ, i64_w, i32_w]
       rfl
      refine one_ (i := 2) (N := some 43) #[true, true, true, false, false] rfl rfl (by kernel_rfl) (by decide) (fun K hK => ?_)
      refine goes_ Try.func17 (by kernel_rfl) rfl #[.agg #[.slice A0_0 l0_0.length c0_0, .slice A0_1 l0_1.length c0_1]] (by rfl) rfl rfl tM ?_
      with_reducible refine (laws_toMobile.calls kj10 _ _ l0_0 _ _ l0_1 t253 t256 _ ?side1 ?side2 ?side3 ?side4 A60.out).mono ?_
      (case side1 => exact tC (Kd.C_below HR0_0.out HB.out))
      (case side2 => exact HC0_0.out)
      (case side3 => exact tC (Kd.C_below HR0_1.out HB.out))
      (case side4 => exact HC0_1.out)
      rintro e w66 ⟨v254, v257, rfl, ho0, ho1, hb⟩
      refine ⟨_, rfl, ?_⟩
      have HO255 := Aside0.mk (Kd.R_lower (Kd.R_new' (Kd.R_new' (Kd.R_new' (Kd.R_new' (Kd.R_new' (Kd.R_new' ho0 (Kd.R_lt (tR HO_237000.out))) (Kd.R_lt (tR HO_237001.out))) (Kd.R_lt (tR HO_244000.out))) (Kd.R_lt (tR HO_244001.out))) (Kd.R_lt (tR HO_252000.out))) (Kd.R_lt (tR HO_252001.out))) (below_size (tB HB.out)))
      have HO258 := Aside0.mk (Kd.R_lower (Kd.R_new' (Kd.R_new' (Kd.R_new' (Kd.R_new' (Kd.R_new' (Kd.R_new' ho1 (Kd.R_lt (tR HO_237000.out))) (Kd.R_lt (tR HO_237001.out))) (Kd.R_lt (tR HO_244000.out))) (Kd.R_lt (tR HO_244001.out))) (Kd.R_lt (tR HO_252000.out))) (Kd.R_lt (tR HO_252001.out))) (below_size (tB HB.out)))
      replace HO_237000 := Aside0.mk (Kd.R_mono (Kd.R_told (Kd.R_told (Kd.R_old (tR HO_237000.out) hb) (Kd.R_base ho0)) (Kd.R_base ho1)) (fun _ h_ => h_.1))
      replace HO_237001 := Aside0.mk (Kd.R_mono (Kd.R_told (Kd.R_told (Kd.R_old (tR HO_237001.out) hb) (Kd.R_base ho0)) (Kd.R_base ho1)) (fun _ h_ => h_.1))
      replace HO_244000 := Aside0.mk (Kd.R_mono (Kd.R_told (Kd.R_told (Kd.R_old (tR HO_244000.out) hb) (Kd.R_base ho0)) (Kd.R_base ho1)) (fun _ h_ => h_.1))
      replace HO_244001 := Aside0.mk (Kd.R_mono (Kd.R_told (Kd.R_told (Kd.R_old (tR HO_244001.out) hb) (Kd.R_base ho0)) (Kd.R_base ho1)) (fun _ h_ => h_.1))
      replace HO_252000 := Aside0.mk (Kd.R_mono (Kd.R_told (Kd.R_told (Kd.R_old (tR HO_252000.out) hb) (Kd.R_base ho0)) (Kd.R_base ho1)) (fun _ h_ => h_.1))
      replace HO_252001 := Aside0.mk (Kd.R_mono (Kd.R_told (Kd.R_told (Kd.R_old (tR HO_252001.out) hb) (Kd.R_base ho0)) (Kd.R_base ho1)) (fun _ h_ => h_.1))
      replace BK221 := bkB BK221 hb
      replace BK236 := bkB BK236 hb
      replace BK243 := bkB BK243 hb
      replace BK251 := bkB BK251 hb
      replace HB := Aside0.mk (below_step (tB HB.out) hb)
      (try clear hb)
      (try clear hb2)
      (try clear hk)
      (try clear hi)
      (try clear ho0)
      (try clear ho1)
      obtain ⟨Ao67, co67, eo67⟩ := Kd.R_slice HO255.out
      (first | subst eo67 | (injection eo67 with f1_ f2_ f3_; have f4_ := f1_.symm; have f5_ := f3_.symm; clear f1_ f2_ f3_; subst f4_; subst f5_))
      obtain ⟨Ao68, co68, eo68⟩ := Kd.R_slice HO258.out
      (first | subst eo68 | (injection eo68 with f1_ f2_ f3_; have f4_ := f1_.symm; have f5_ := f3_.symm; clear f1_ f2_ f3_; subst f4_; subst f5_))
      refine hK.out _ _ ⟨(blk_cell BK243.out 0).trans rfl, (blk_cell BK243.out 1).trans rfl, (blk_cell BK221.out 0).trans rfl, (blk_cell BK221.out 1).trans rfl⟩ (fun hHeld => ?_)
      clear hK K
      refine norm_ (a' := ?_) ?_ ?_
      rotate_left
      ·
       show Act.put _ (some 43) _ = _
       simp only [Act.put, List.setIfInBounds_toArray, List.set_cons_zero, List.set_cons_succ, i64_w, i32_w]
       rfl
      refine one_ (i := 3) (N := some 44) #[true, true, true, true, false] rfl rfl (by kernel_rfl) (by decide) (fun K hK => ?_)
      refine goes_ Try.func19 (by kernel_rfl) rfl #[.agg #[.slice Ao28 t237.length co28, .slice Ao32 t240.length co32], .agg #[.slice Ao67 t253.length co67, .slice Ao68 t256.length co68]] (by rfl) rfl rfl tM ?_
      with_reducible refine (laws_eqMobile.calls kj10 _ _ t237 _ _ t240 _ _ t253 _ _ t256 true _ ?side1 ?side2 ?side3 ?side4 ?side5 ?side6 ?side7 ?side8 A61.out).mono ?_
      (case side1 => exact tC (Kd.R_reads' HO_244000.out).2.2)
      (case side2 => exact (Kd.R_reads' HO_244000.out).2.1)
      (case side3 => exact tC (Kd.R_reads' HO_244001.out).2.2)
      (case side4 => exact (Kd.R_reads' HO_244001.out).2.1)
      (case side5 => exact tC (Kd.R_reads' HO255.out).2.2)
      (case side6 => exact (Kd.R_reads' HO255.out).2.1)
      (case side7 => exact tC (Kd.R_reads' HO258.out).2.2)
      (case side8 => exact (Kd.R_reads' HO258.out).2.1)
      rintro e w69 ⟨rfl, hb⟩
      refine ⟨_, rfl, ?_⟩
      replace HO_237000 := Aside0.mk (Kd.R_below (tR HO_237000.out) hb)
      replace HO_237001 := Aside0.mk (Kd.R_below (tR HO_237001.out) hb)
      replace HO_244000 := Aside0.mk (Kd.R_below (tR HO_244000.out) hb)
      replace HO_244001 := Aside0.mk (Kd.R_below (tR HO_244001.out) hb)
      replace HO_252000 := Aside0.mk (Kd.R_below (tR HO_252000.out) hb)
      replace HO_252001 := Aside0.mk (Kd.R_below (tR HO_252001.out) hb)
      replace HO255 := Aside0.mk (Kd.R_below (tR HO255.out) hb)
      replace HO258 := Aside0.mk (Kd.R_below (tR HO258.out) hb)
      replace BK221 := bkB BK221 hb
      replace BK236 := bkB BK236 hb
      replace BK243 := bkB BK243 hb
      replace BK251 := bkB BK251 hb
      replace HB := Aside0.mk (below_step (tB HB.out) hb)
      (try clear hb)
      (try clear hb2)
      (try clear hk)
      (try clear hi)
      refine hK.out _ _ ⟨(blk_cell BK243.out 0).trans rfl, (blk_cell BK243.out 1).trans rfl, (blk_cell BK221.out 0).trans rfl, (blk_cell BK221.out 1).trans rfl⟩ (fun hHeld => ?_)
      clear hK K
      refine norm_ (a' := ?_) ?_ ?_
      rotate_left
      ·
       show Act.put _ (some 44) _ = _
       simp only [Act.put, List.setIfInBounds_toArray, List.set_cons_zero, List.set_cons_succ, i64_w, i32_w]
       rfl
      refine pure_ (i := 4) (N := some 45) (v := ?_) (a' := ?_) #[true, true, true, true, true] rfl rfl (by kernel_rfl) (fun _ _ _ h => h) (Or.inl ⟨by rfl, ?_⟩) ?_ ?_
      rotate_left
      ·
       intro w'
       go_simp
       with_reducible rfl
      rotate_left
      ·
       simp only [Act.put, List.setIfInBounds_toArray, List.set_cons_zero, List.set_cons_succ, i64_w, i32_w]
       rfl
      refine done_ (by kernel_rfl) ?_
      have hnb70 := NB243_221.out
      have hnc70 := NB221_243.out
      have hnb71 := NB243_236.out
      have hnc71 := NB236_243.out
      have hnb72 := NB243_251.out
      have hnc72 := NB251_243.out
      obtain ⟨hcz73_0, hfz73_0, hcz73_1, hfz73_1⟩ := cz2 BK243
      go_upto_region 14 with (first | ((with_reducible refine gate_callee (f := 24) rfl ?_); refine goesL_ (some 48) rfl rfl Try.func24 (by kernel_rfl) rfl #[.agg #[.slice Ao28 t237.length co28, .slice Ao32 t240.length co32], .int .i64 1] rfl tM ?_; (with_reducible refine (laws_markMobile.calls kj10 (fun k_ => some k_ = (.slice Ao28 t237.length co28 : Value).ownBlock) (.slice Ao28 t237.length co28) t237 (fun k_ => some k_ = (.slice Ao32 t240.length co32 : Value).ownBlock) (.slice Ao32 t240.length co32) t240 1 t260 t261 t262 w _ ?side1 ?side2 ?side3 ?side4 ?side5 A63.out).mono ?_); (case side1 => repeat (first | (with_reducible first | exact HB.out | apply below_alloc | apply pw_below_drewN | apply below_drew1 | refine below_set ?_ GE221.out | refine below_set ?_ GE236.out | refine below_set ?_ GE243.out | refine below_set ?_ GE251.out) | exact HB.out)); (case side2 => exact Kd.R_tight rfl HO_244000.out); (case side3 => exact fun k_ e_ => (HO_244000.out.1 k_ e_.symm).1.1.2.2.1); (case side4 => exact Kd.R_tight rfl HO_244001.out); (case side5 => exact fun k_ e_ => (HO_244001.out.1 k_ e_.symm).1.1.2.2.1); rintro e w74 ⟨rfl, hy0, hy1, hb, hkp⟩; refine ⟨_, rfl, ?_⟩; replace HO_237000 := Aside0.mk (Kd.R_mono (ok' := fun k_ => some k_ ≠ (.slice Ao24 t232.length co24 : Value).ownBlock ∧ some k_ ≠ (.slice Ao28 t237.length co28 : Value).ownBlock ∧ some k_ ≠ (.slice Ao32 t240.length co32 : Value).ownBlock ∧ some k_ ≠ (.slice Ao35 t244.length co35 : Value).ownBlock ∧ some k_ ≠ (.slice Ao40 t247.length co40 : Value).ownBlock ∧ some k_ ≠ (.slice Ao67 t253.length co67 : Value).ownBlock ∧ some k_ ≠ (.slice Ao68 t256.length co68 : Value).ownBlock) (Kd.R_keptB (HO_237000.out) hkp (fun k_ hk_ hs_ => Or.elim hs_ (fun e_ => (hk_.1.1.2.1) e_) (fun e_ => (hk_.1.1.2.2.1) e_))) (fun k_ hk_ => ⟨hk_.1.1.1.1, hk_.1.1.1.2.1, hk_.1.1.1.2.2.1, hk_.1.1.1.2.2.2.1, hk_.1.1.1.2.2.2.2, hk_.1.1.2, hk_.1.2⟩)); replace HO_237001 := Aside0.mk (Kd.R_mono (ok' := fun k_ => some k_ ≠ (.slice Ao21 t229.length co21 : Value).ownBlock ∧ some k_ ≠ (.slice Ao28 t237.length co28 : Value).ownBlock ∧ some k_ ≠ (.slice Ao32 t240.length co32 : Value).ownBlock ∧ some k_ ≠ (.slice Ao35 t244.length co35 : Value).ownBlock ∧ some k_ ≠ (.slice Ao40 t247.length co40 : Value).ownBlock ∧ some k_ ≠ (.slice Ao67 t253.length co67 : Value).ownBlock ∧ some k_ ≠ (.slice Ao68 t256.length co68 : Value).ownBlock) (Kd.R_keptB (HO_237001.out) hkp (fun k_ hk_ hs_ => Or.elim hs_ (fun e_ => (hk_.1.1.2.1) e_) (fun e_ => (hk_.1.1.2.2.1) e_))) (fun k_ hk_ => ⟨hk_.1.1.1.1, hk_.1.1.1.2.1, hk_.1.1.1.2.2.1, hk_.1.1.1.2.2.2.1, hk_.1.1.1.2.2.2.2, hk_.1.1.2, hk_.1.2⟩)); replace HO_252000 := Aside0.mk (Kd.R_mono (ok' := fun k_ => some k_ ≠ (.slice Ao21 t229.length co21 : Value).ownBlock ∧ some k_ ≠ (.slice Ao24 t232.length co24 : Value).ownBlock ∧ some k_ ≠ (.slice Ao28 t237.length co28 : Value).ownBlock ∧ some k_ ≠ (.slice Ao32 t240.length co32 : Value).ownBlock ∧ some k_ ≠ (.slice Ao40 t247.length co40 : Value).ownBlock ∧ some k_ ≠ (.slice Ao67 t253.length co67 : Value).ownBlock ∧ some k_ ≠ (.slice Ao68 t256.length co68 : Value).ownBlock) (Kd.R_keptB (HO_252000.out) hkp (fun k_ hk_ hs_ => Or.elim hs_ (fun e_ => (hk_.1.1.2.2.1) e_) (fun e_ => (hk_.1.1.2.2.2.1) e_))) (fun k_ hk_ => ⟨hk_.1.1.1.1, hk_.1.1.1.2.1, hk_.1.1.1.2.2.1, hk_.1.1.1.2.2.2.1, hk_.1.1.1.2.2.2.2, hk_.1.1.2, hk_.1.2⟩)); replace HO_252001 := Aside0.mk (Kd.R_mono (ok' := fun k_ => some k_ ≠ (.slice Ao21 t229.length co21 : Value).ownBlock ∧ some k_ ≠ (.slice Ao24 t232.length co24 : Value).ownBlock ∧ some k_ ≠ (.slice Ao28 t237.length co28 : Value).ownBlock ∧ some k_ ≠ (.slice Ao32 t240.length co32 : Value).ownBlock ∧ some k_ ≠ (.slice Ao35 t244.length co35 : Value).ownBlock ∧ some k_ ≠ (.slice Ao67 t253.length co67 : Value).ownBlock ∧ some k_ ≠ (.slice Ao68 t256.length co68 : Value).ownBlock) (Kd.R_keptB (HO_252001.out) hkp (fun k_ hk_ hs_ => Or.elim hs_ (fun e_ => (hk_.1.1.2.2.1) e_) (fun e_ => (hk_.1.1.2.2.2.1) e_))) (fun k_ hk_ => ⟨hk_.1.1.1.1, hk_.1.1.1.2.1, hk_.1.1.1.2.2.1, hk_.1.1.1.2.2.2.1, hk_.1.1.1.2.2.2.2, hk_.1.1.2, hk_.1.2⟩)); replace BK221 := Aside0.mk (blk_kept (tK BK221.out) hkp (fun hs_ => Or.elim hs_ (fun e_ => (fun e_ => (Kd.R_ne HO_244000.out BK221.out (by decide)) e_) e_) (fun e_ => (fun e_ => (Kd.R_ne HO_244001.out BK221.out (by decide)) e_) e_))); replace BK236 := Aside0.mk (blk_kept (tK BK236.out) hkp (fun hs_ => Or.elim hs_ (fun e_ => (fun e_ => (Kd.R_ne HO_244000.out BK236.out (by decide)) e_) e_) (fun e_ => (fun e_ => (Kd.R_ne HO_244001.out BK236.out (by decide)) e_) e_))); replace BK243 := Aside0.mk (blk_kept (tK BK243.out) hkp (fun hs_ => Or.elim hs_ (fun e_ => (fun e_ => (Kd.R_ne HO_244000.out BK243.out (by decide)) e_) e_) (fun e_ => (fun e_ => (Kd.R_ne HO_244001.out BK243.out (by decide)) e_) e_))); replace BK251 := Aside0.mk (blk_kept (tK BK251.out) hkp (fun hs_ => Or.elim hs_ (fun e_ => (fun e_ => (Kd.R_ne HO_244000.out BK251.out (by decide)) e_) e_) (fun e_ => (fun e_ => (Kd.R_ne HO_244001.out BK251.out (by decide)) e_) e_))); replace HO_244000 := Aside0.mk (Kd.R_reok rfl hy0 (fun k_ e_ => HO_244000.out.1 k_ e_)); replace HO_244001 := Aside0.mk (Kd.R_reok rfl hy1 (fun k_ e_ => HO_244001.out.1 k_ e_)); replace HO255 := Aside0.mk (Kd.R_mono (ok' := fun k_ => some k_ ≠ (.slice Ao21 t229.length co21 : Value).ownBlock ∧ some k_ ≠ (.slice Ao24 t232.length co24 : Value).ownBlock ∧ some k_ ≠ (.slice Ao28 t237.length co28 : Value).ownBlock ∧ some k_ ≠ (.slice Ao32 t240.length co32 : Value).ownBlock ∧ some k_ ≠ (.slice Ao35 t244.length co35 : Value).ownBlock ∧ some k_ ≠ (.slice Ao40 t247.length co40 : Value).ownBlock ∧ some k_ ≠ (.slice Ao68 t256.length co68 : Value).ownBlock) (Kd.R_keptB (HO255.out) hkp (fun k_ hk_ hs_ => Or.elim hs_ (fun e_ => (hk_.1.1.1.2) e_) (fun e_ => (hk_.1.1.2) e_))) (fun k_ hk_ => ⟨hk_.1.1.1.1.1.1.2, hk_.1.1.1.1.1.2, hk_.1.1.1.1.2, hk_.1.1.1.2, hk_.1.1.2, hk_.1.2, hk_.1.1.1.1.1.1.1⟩)); replace HO258 := Aside0.mk (Kd.R_mono (ok' := fun k_ => some k_ ≠ (.slice Ao21 t229.length co21 : Value).ownBlock ∧ some k_ ≠ (.slice Ao24 t232.length co24 : Value).ownBlock ∧ some k_ ≠ (.slice Ao28 t237.length co28 : Value).ownBlock ∧ some k_ ≠ (.slice Ao32 t240.length co32 : Value).ownBlock ∧ some k_ ≠ (.slice Ao35 t244.length co35 : Value).ownBlock ∧ some k_ ≠ (.slice Ao40 t247.length co40 : Value).ownBlock ∧ some k_ ≠ (.slice Ao67 t253.length co67 : Value).ownBlock) (Kd.R_keptB (HO258.out) hkp (fun k_ hk_ hs_ => Or.elim hs_ (fun e_ => (hk_.1.1.1.2) e_) (fun e_ => (hk_.1.1.2) e_))) (fun k_ hk_ => ⟨hk_.1.1.1.1.1.1.2, hk_.1.1.1.1.1.2, hk_.1.1.1.1.2, hk_.1.1.1.2, hk_.1.1.2, hk_.1.2, hk_.1.1.1.1.1.1.1⟩)); replace HB := Aside0.mk (hb); (try clear hb); (try clear hkp); (try clear hy0); (try clear hy1)))
      (try simp only [Act.put, List.setIfInBounds_toArray, List.set_cons_zero, List.set_cons_succ])
      go_cut [61] (fun v61 wc => ∃ (kq : Nat) (x61_63 : Bool), v61 = .bool x61_63 ∧ Aside0 (laws_FnExactMirrorMobile.j1 kq t235 x61_63 l0_0 l0_1 t229 t232 t244 t247 = some r) ∧ Aside0 (kq ≤ kj10) ∧ Aside0 (Kd.R k58 58 wc w.heap.size (fun k_ => some k_ ≠ ((.slice Ao24 t232.length co24) : Value).ownBlock ∧ some k_ ≠ ((.slice Ao28 t237.length co28) : Value).ownBlock ∧ some k_ ≠ ((.slice Ao32 t240.length co32) : Value).ownBlock ∧ some k_ ≠ ((.slice Ao35 t244.length co35) : Value).ownBlock ∧ some k_ ≠ ((.slice Ao40 t247.length co40) : Value).ownBlock) (.slice Ao21 t229.length co21) t229) ∧ Aside0 (Kd.R k58 58 wc w.heap.size (fun k_ => some k_ ≠ ((.slice Ao21 t229.length co21) : Value).ownBlock ∧ some k_ ≠ ((.slice Ao28 t237.length co28) : Value).ownBlock ∧ some k_ ≠ ((.slice Ao32 t240.length co32) : Value).ownBlock ∧ some k_ ≠ ((.slice Ao35 t244.length co35) : Value).ownBlock ∧ some k_ ≠ ((.slice Ao40 t247.length co40) : Value).ownBlock) (.slice Ao24 t232.length co24) t232) ∧ Aside0 (Kd.R k58 58 wc w.heap.size (fun k_ => some k_ ≠ ((.slice Ao21 t229.length co21) : Value).ownBlock ∧ some k_ ≠ ((.slice Ao24 t232.length co24) : Value).ownBlock ∧ some k_ ≠ ((.slice Ao32 t240.length co32) : Value).ownBlock ∧ some k_ ≠ ((.slice Ao35 t244.length co35) : Value).ownBlock ∧ some k_ ≠ ((.slice Ao40 t247.length co40) : Value).ownBlock) (.slice Ao28 t237.length co28) t261) ∧ Aside0 (Kd.R k58 58 wc w.heap.size (fun k_ => some k_ ≠ ((.slice Ao21 t229.length co21) : Value).ownBlock ∧ some k_ ≠ ((.slice Ao24 t232.length co24) : Value).ownBlock ∧ some k_ ≠ ((.slice Ao28 t237.length co28) : Value).ownBlock ∧ some k_ ≠ ((.slice Ao35 t244.length co35) : Value).ownBlock ∧ some k_ ≠ ((.slice Ao40 t247.length co40) : Value).ownBlock) (.slice Ao32 t240.length co32) t262) ∧ Aside0 (Kd.R k58 58 wc w.heap.size (fun k_ => some k_ ≠ ((.slice Ao21 t229.length co21) : Value).ownBlock ∧ some k_ ≠ ((.slice Ao24 t232.length co24) : Value).ownBlock ∧ some k_ ≠ ((.slice Ao28 t237.length co28) : Value).ownBlock ∧ some k_ ≠ ((.slice Ao32 t240.length co32) : Value).ownBlock ∧ some k_ ≠ ((.slice Ao40 t247.length co40) : Value).ownBlock) (.slice Ao35 t244.length co35) t244) ∧ Aside0 (Kd.R k58 58 wc w.heap.size (fun k_ => some k_ ≠ ((.slice Ao21 t229.length co21) : Value).ownBlock ∧ some k_ ≠ ((.slice Ao24 t232.length co24) : Value).ownBlock ∧ some k_ ≠ ((.slice Ao28 t237.length co28) : Value).ownBlock ∧ some k_ ≠ ((.slice Ao32 t240.length co32) : Value).ownBlock ∧ some k_ ≠ ((.slice Ao35 t244.length co35) : Value).ownBlock) (.slice Ao40 t247.length co40) t247) ∧ Aside0 (wc.heap[gb221]? = some (.cells #[(.slice A0_0 l0_0.length c0_0), (.slice A0_1 l0_1.length c0_1)] 24 (0, 0))) ∧ Aside0 (wc.heap[gb236]? = some (.cells #[(.slice Ao21 t229.length co21), (.slice Ao24 t232.length co24)] 27 (0, 0))) ∧ Aside0 (wc.heap[gb243]? = some (.cells #[(.slice Ao28 t237.length co28), (.slice Ao32 t240.length co32)] 27 (0, 0))) ∧ Aside0 (wc.heap[gb251]? = some (.cells #[(.slice Ao35 t244.length co35), (.slice Ao40 t247.length co40)] 27 (0, 0))) ∧ Aside0 (Below w.heap.size w wc))
      case first =>
       have H := HC64.out
       clear HC64
       by_cases c75 : t260 < 0
       ·
        rw [if_pos c75] at H
        have c75b0 : decide (t260 < 0) = true := decide_eq_true c75
        clear c75
        (first | rw [c75b0] | (simp only [i64_w, i32_w]; rw [c75b0]) | skip)
        have H' := Aside0.mk H
        clear H
        go_wp2
        go_meet
        case rel => exact ⟨_, (true), (by first | rfl | (simp; done) | (simp [wrap64]; done) | (simp [*]; done)), H', ⟨by have := HJ10.out; first | omega | exact Nat.le_refl _⟩, ⟨by (with_reducible repeat (first | apply Kd.R_alloc | apply Kd.R_drewN | apply Kd.R_drew)); exact Kd.R_mono HO_237000.out (fun _ hk => ⟨hk.1, ⟨hk.2.1, ⟨hk.2.2.1, ⟨hk.2.2.2.1, hk.2.2.2.2.1⟩⟩⟩⟩)⟩, ⟨by (with_reducible repeat (first | apply Kd.R_alloc | apply Kd.R_drewN | apply Kd.R_drew)); exact Kd.R_mono HO_237001.out (fun _ hk => ⟨hk.1, ⟨hk.2.1, ⟨hk.2.2.1, ⟨hk.2.2.2.1, hk.2.2.2.2.1⟩⟩⟩⟩)⟩, ⟨by (with_reducible repeat (first | apply Kd.R_alloc | apply Kd.R_drewN | apply Kd.R_drew)); exact Kd.R_mono HO_244000.out (fun _ hk => ⟨hk.1.1.1, ⟨hk.1.1.2.1, ⟨hk.1.1.2.2.1, ⟨hk.1.1.2.2.2.1, hk.1.1.2.2.2.2⟩⟩⟩⟩)⟩, ⟨by (with_reducible repeat (first | apply Kd.R_alloc | apply Kd.R_drewN | apply Kd.R_drew)); exact Kd.R_mono HO_244001.out (fun _ hk => ⟨hk.1.1.1, ⟨hk.1.1.2.1, ⟨hk.1.1.2.2.1, ⟨hk.1.1.2.2.2.1, hk.1.1.2.2.2.2⟩⟩⟩⟩)⟩, ⟨by (with_reducible repeat (first | apply Kd.R_alloc | apply Kd.R_drewN | apply Kd.R_drew)); exact Kd.R_mono HO_252000.out (fun _ hk => ⟨hk.1, ⟨hk.2.1, ⟨hk.2.2.1, ⟨hk.2.2.2.1, hk.2.2.2.2.1⟩⟩⟩⟩)⟩, ⟨by (with_reducible repeat (first | apply Kd.R_alloc | apply Kd.R_drewN | apply Kd.R_drew)); exact Kd.R_mono HO_252001.out (fun _ hk => ⟨hk.1, ⟨hk.2.1, ⟨hk.2.2.1, ⟨hk.2.2.2.1, hk.2.2.2.2.1⟩⟩⟩⟩)⟩, ⟨tK BK221.out⟩, ⟨tK BK236.out⟩, ⟨tK BK243.out⟩, ⟨tK BK251.out⟩, ⟨tB HB.out⟩⟩
       ·
        rw [if_neg c75] at H
        have c75b0 : decide (t260 < 0) = false := decide_eq_false c75
        clear c75
        (first | rw [c75b0] | (simp only [i64_w, i32_w]; rw [c75b0]) | skip)
        replace H := Option.bind_eq_some_iff.mp H
        obtain ⟨t263, A760, H⟩ := H
        replace H : (if t263 = true then (laws_FnExactMirrorMobile.j1 kj10 t235 (t250 != t235) l0_0 l0_1 t229 t232 t244 t247) else (laws_FnExactMirrorMobile.j1 kj10 t235 true l0_0 l0_1 t229 t232 t244 t247)) = some r := H
        have A76 := Aside0.mk A760
        clear A760
        by_cases c77 : t263 = true
        ·
         subst c77
         have H1 : (laws_FnExactMirrorMobile.j1 kj10 t235 (t250 != t235) l0_0 l0_1 t229 t232 t244 t247) = some r := by rw [if_pos rfl] at H; exact H
         clear H
         have H := H1
         clear H1
         have H' := Aside0.mk H
         clear H
         have hnb78 := NB251_221.out
         have hnc78 := NB221_251.out
         have hnb79 := NB251_236.out
         have hnc79 := NB236_251.out
         have hnb80 := NB251_243.out
         have hnc80 := NB243_251.out
         obtain ⟨hcz81_0, hfz81_0, hcz81_1, hfz81_1⟩ := cz2 BK251
         have hnb82 := NB236_221.out
         have hnc82 := NB221_236.out
         have hnb83 := NB236_243.out
         have hnc83 := NB243_236.out
         obtain ⟨hcz84_0, hfz84_0, hcz84_1, hfz84_1⟩ := cz2 BK236
         go_wp2_with (first | (go_at_call 19; (with_reducible refine (laws_eqMobile.calls kj10 _ _ t244 _ _ t247 _ _ t229 _ _ t232 true _ ?side1 ?side2 ?side3 ?side4 ?side5 ?side6 ?side7 ?side8 A76.out).mono ?_); (case side1 => exact tC (Kd.R_reads' HO_252000.out).2.2); (case side2 => exact (Kd.R_reads' HO_252000.out).2.1); (case side3 => exact tC (Kd.R_reads' HO_252001.out).2.2); (case side4 => exact (Kd.R_reads' HO_252001.out).2.1); (case side5 => exact tC (Kd.R_reads' HO_237000.out).2.2); (case side6 => exact (Kd.R_reads' HO_237000.out).2.1); (case side7 => exact tC (Kd.R_reads' HO_237001.out).2.2); (case side8 => exact (Kd.R_reads' HO_237001.out).2.1); rintro e w85 ⟨rfl, hb⟩; replace HO_237000 := Aside0.mk (Kd.R_below (tR HO_237000.out) hb); replace HO_237001 := Aside0.mk (Kd.R_below (tR HO_237001.out) hb); replace HO_244000 := Aside0.mk (Kd.R_below (tR HO_244000.out) hb); replace HO_244001 := Aside0.mk (Kd.R_below (tR HO_244001.out) hb); replace HO_252000 := Aside0.mk (Kd.R_below (tR HO_252000.out) hb); replace HO_252001 := Aside0.mk (Kd.R_below (tR HO_252001.out) hb); replace HO255 := Aside0.mk (Kd.R_below (tR HO255.out) hb); replace HO258 := Aside0.mk (Kd.R_below (tR HO258.out) hb); replace BK221 := bkB BK221 hb; replace BK236 := bkB BK236 hb; replace BK243 := bkB BK243 hb; replace BK251 := bkB BK251 hb; replace HB := Aside0.mk (below_step (tB HB.out) hb); (try clear hb); (try clear hb2); (try clear hk); (try clear hi)))
         go_meet
         case rel => exact ⟨_, ((t250 != t235)), (by first | rfl | (simp; done) | (simp [wrap64]; done) | (simp [*]; done)), H', ⟨by have := HJ10.out; first | omega | exact Nat.le_refl _⟩, ⟨by (with_reducible repeat (first | apply Kd.R_alloc | apply Kd.R_drewN | apply Kd.R_drew)); exact Kd.R_mono HO_237000.out (fun _ hk => ⟨hk.1, ⟨hk.2.1, ⟨hk.2.2.1, ⟨hk.2.2.2.1, hk.2.2.2.2.1⟩⟩⟩⟩)⟩, ⟨by (with_reducible repeat (first | apply Kd.R_alloc | apply Kd.R_drewN | apply Kd.R_drew)); exact Kd.R_mono HO_237001.out (fun _ hk => ⟨hk.1, ⟨hk.2.1, ⟨hk.2.2.1, ⟨hk.2.2.2.1, hk.2.2.2.2.1⟩⟩⟩⟩)⟩, ⟨by (with_reducible repeat (first | apply Kd.R_alloc | apply Kd.R_drewN | apply Kd.R_drew)); exact Kd.R_mono HO_244000.out (fun _ hk => ⟨hk.1.1.1, ⟨hk.1.1.2.1, ⟨hk.1.1.2.2.1, ⟨hk.1.1.2.2.2.1, hk.1.1.2.2.2.2⟩⟩⟩⟩)⟩, ⟨by (with_reducible repeat (first | apply Kd.R_alloc | apply Kd.R_drewN | apply Kd.R_drew)); exact Kd.R_mono HO_244001.out (fun _ hk => ⟨hk.1.1.1, ⟨hk.1.1.2.1, ⟨hk.1.1.2.2.1, ⟨hk.1.1.2.2.2.1, hk.1.1.2.2.2.2⟩⟩⟩⟩)⟩, ⟨by (with_reducible repeat (first | apply Kd.R_alloc | apply Kd.R_drewN | apply Kd.R_drew)); exact Kd.R_mono HO_252000.out (fun _ hk => ⟨hk.1, ⟨hk.2.1, ⟨hk.2.2.1, ⟨hk.2.2.2.1, hk.2.2.2.2.1⟩⟩⟩⟩)⟩, ⟨by (with_reducible repeat (first | apply Kd.R_alloc | apply Kd.R_drewN | apply Kd.R_drew)); exact Kd.R_mono HO_252001.out (fun _ hk => ⟨hk.1, ⟨hk.2.1, ⟨hk.2.2.1, ⟨hk.2.2.2.1, hk.2.2.2.2.1⟩⟩⟩⟩)⟩, ⟨tK BK221.out⟩, ⟨tK BK236.out⟩, ⟨tK BK243.out⟩, ⟨tK BK251.out⟩, ⟨tB HB.out⟩⟩
        ·
         replace c77 := Bool.eq_false_iff.mpr c77
         subst c77
         have H1 : (laws_FnExactMirrorMobile.j1 kj10 t235 true l0_0 l0_1 t229 t232 t244 t247) = some r := by rw [if_neg (show ¬ (false = true) by decide)] at H; exact H
         clear H
         have H := H1
         clear H1
         have H' := Aside0.mk H
         clear H
         have hnb86 := NB251_221.out
         have hnc86 := NB221_251.out
         have hnb87 := NB251_236.out
         have hnc87 := NB236_251.out
         have hnb88 := NB251_243.out
         have hnc88 := NB243_251.out
         obtain ⟨hcz89_0, hfz89_0, hcz89_1, hfz89_1⟩ := cz2 BK251
         have hnb90 := NB236_221.out
         have hnc90 := NB221_236.out
         have hnb91 := NB236_243.out
         have hnc91 := NB243_236.out
         obtain ⟨hcz92_0, hfz92_0, hcz92_1, hfz92_1⟩ := cz2 BK236
         go_wp2_with (first | (go_at_call 19; (with_reducible refine (laws_eqMobile.calls kj10 _ _ t244 _ _ t247 _ _ t229 _ _ t232 false _ ?side1 ?side2 ?side3 ?side4 ?side5 ?side6 ?side7 ?side8 A76.out).mono ?_); (case side1 => exact tC (Kd.R_reads' HO_252000.out).2.2); (case side2 => exact (Kd.R_reads' HO_252000.out).2.1); (case side3 => exact tC (Kd.R_reads' HO_252001.out).2.2); (case side4 => exact (Kd.R_reads' HO_252001.out).2.1); (case side5 => exact tC (Kd.R_reads' HO_237000.out).2.2); (case side6 => exact (Kd.R_reads' HO_237000.out).2.1); (case side7 => exact tC (Kd.R_reads' HO_237001.out).2.2); (case side8 => exact (Kd.R_reads' HO_237001.out).2.1); rintro e w93 ⟨rfl, hb⟩; replace HO_237000 := Aside0.mk (Kd.R_below (tR HO_237000.out) hb); replace HO_237001 := Aside0.mk (Kd.R_below (tR HO_237001.out) hb); replace HO_244000 := Aside0.mk (Kd.R_below (tR HO_244000.out) hb); replace HO_244001 := Aside0.mk (Kd.R_below (tR HO_244001.out) hb); replace HO_252000 := Aside0.mk (Kd.R_below (tR HO_252000.out) hb); replace HO_252001 := Aside0.mk (Kd.R_below (tR HO_252001.out) hb); replace HO255 := Aside0.mk (Kd.R_below (tR HO255.out) hb); replace HO258 := Aside0.mk (Kd.R_below (tR HO258.out) hb); replace BK221 := bkB BK221 hb; replace BK236 := bkB BK236 hb; replace BK243 := bkB BK243 hb; replace BK251 := bkB BK251 hb; replace HB := Aside0.mk (below_step (tB HB.out) hb); (try clear hb); (try clear hb2); (try clear hk); (try clear hi)))
         go_meet
         case rel => exact ⟨_, (true), (by first | rfl | (simp; done) | (simp [wrap64]; done) | (simp [*]; done)), H', ⟨by have := HJ10.out; first | omega | exact Nat.le_refl _⟩, ⟨by (with_reducible repeat (first | apply Kd.R_alloc | apply Kd.R_drewN | apply Kd.R_drew)); exact Kd.R_mono HO_237000.out (fun _ hk => ⟨hk.1, ⟨hk.2.1, ⟨hk.2.2.1, ⟨hk.2.2.2.1, hk.2.2.2.2.1⟩⟩⟩⟩)⟩, ⟨by (with_reducible repeat (first | apply Kd.R_alloc | apply Kd.R_drewN | apply Kd.R_drew)); exact Kd.R_mono HO_237001.out (fun _ hk => ⟨hk.1, ⟨hk.2.1, ⟨hk.2.2.1, ⟨hk.2.2.2.1, hk.2.2.2.2.1⟩⟩⟩⟩)⟩, ⟨by (with_reducible repeat (first | apply Kd.R_alloc | apply Kd.R_drewN | apply Kd.R_drew)); exact Kd.R_mono HO_244000.out (fun _ hk => ⟨hk.1.1.1, ⟨hk.1.1.2.1, ⟨hk.1.1.2.2.1, ⟨hk.1.1.2.2.2.1, hk.1.1.2.2.2.2⟩⟩⟩⟩)⟩, ⟨by (with_reducible repeat (first | apply Kd.R_alloc | apply Kd.R_drewN | apply Kd.R_drew)); exact Kd.R_mono HO_244001.out (fun _ hk => ⟨hk.1.1.1, ⟨hk.1.1.2.1, ⟨hk.1.1.2.2.1, ⟨hk.1.1.2.2.2.1, hk.1.1.2.2.2.2⟩⟩⟩⟩)⟩, ⟨by (with_reducible repeat (first | apply Kd.R_alloc | apply Kd.R_drewN | apply Kd.R_drew)); exact Kd.R_mono HO_252000.out (fun _ hk => ⟨hk.1, ⟨hk.2.1, ⟨hk.2.2.1, ⟨hk.2.2.2.1, hk.2.2.2.2.1⟩⟩⟩⟩)⟩, ⟨by (with_reducible repeat (first | apply Kd.R_alloc | apply Kd.R_drewN | apply Kd.R_drew)); exact Kd.R_mono HO_252001.out (fun _ hk => ⟨hk.1, ⟨hk.2.1, ⟨hk.2.2.1, ⟨hk.2.2.2.1, hk.2.2.2.2.1⟩⟩⟩⟩)⟩, ⟨tK BK221.out⟩, ⟨tK BK236.out⟩, ⟨tK BK243.out⟩, ⟨tK BK251.out⟩, ⟨tB HB.out⟩⟩
      case rest =>
       clear HC64
       try clear c1
       try clear c2
       try clear p2
       try clear c3
       try clear c3b0
       try clear c4
       try clear c5
       try clear c6
       try clear p6
       try clear c7
       try clear c8
       try clear c9
       try clear c15
       try clear c17
       try clear c19
       try clear c22
       try clear c23
       try clear c24
       try clear c29
       try clear c30
       try clear c36
       try clear c37
       try clear c38
       try clear c42
       try clear c43
       try clear c44
       try clear c45
       try clear c47
       try clear c48
       try clear c51
       try clear c52
       try clear c53
       try clear c55
       try clear c56
       try clear c59
       try clear c62
       try clear p64
       try clear c70
       try clear c71
       try clear c72
       try clear c75
       try clear c75b0
       try clear c77
       try clear c78
       try clear c79
       try clear c80
       try clear c82
       try clear c83
       try clear c86
       try clear c87
       try clear c88
       try clear c90
       try clear c91
       try clear hcz13_0
       try clear hcz13_1
       try clear hcz15_0
       try clear hcz15_1
       try clear hcz23_0
       try clear hcz23_1
       try clear hcz25_0
       try clear hcz25_1
       try clear hcz31_0
       try clear hcz31_1
       try clear hcz39_0
       try clear hcz39_1
       try clear hcz46_0
       try clear hcz46_1
       try clear hcz49_0
       try clear hcz49_1
       try clear hcz54_0
       try clear hcz54_1
       try clear hcz57_0
       try clear hcz57_1
       try clear hcz5_0
       try clear hcz5_1
       try clear hcz73_0
       try clear hcz73_1
       try clear hcz81_0
       try clear hcz81_1
       try clear hcz84_0
       try clear hcz84_1
       try clear hcz89_0
       try clear hcz89_1
       try clear hcz92_0
       try clear hcz92_1
       try clear hfz13_0
       try clear hfz13_1
       try clear hfz15_0
       try clear hfz15_1
       try clear hfz23_0
       try clear hfz23_1
       try clear hfz25_0
       try clear hfz25_1
       try clear hfz31_0
       try clear hfz31_1
       try clear hfz39_0
       try clear hfz39_1
       try clear hfz46_0
       try clear hfz46_1
       try clear hfz49_0
       try clear hfz49_1
       try clear hfz54_0
       try clear hfz54_1
       try clear hfz57_0
       try clear hfz57_1
       try clear hfz5_0
       try clear hfz5_1
       try clear hfz73_0
       try clear hfz73_1
       try clear hfz81_0
       try clear hfz81_1
       try clear hfz84_0
       try clear hfz84_1
       try clear hfz89_0
       try clear hfz89_1
       try clear hfz92_0
       try clear hfz92_1
       try clear p2
       try clear p6
       obtain ⟨kq, x61_63, rfl, HA, HJ63, HO_237000, HO_237001, HO_244000, HO_244001, HO_252000, HO_252001, BK221, BK236, BK243, BK251, HB⟩ := hcut
       have hl244000_63 := (Kd.R_reads' HO_244000.out).1
       rw [hl244000_63] at HO_244000
       (try simp only [hl244000_63])
       (try simp only [hl244000_63] at BK221)
       (try simp only [hl244000_63] at BK236)
       (try simp only [hl244000_63] at BK243)
       (try simp only [hl244000_63] at BK251)
       (try simp only [hl244000_63] at HO_237000)
       (try simp only [hl244000_63] at HO_237001)
       (try simp only [hl244000_63] at HO_244001)
       (try simp only [hl244000_63] at HO_252000)
       (try simp only [hl244000_63] at HO_252001)
       have hl244001_63 := (Kd.R_reads' HO_244001.out).1
       rw [hl244001_63] at HO_244001
       (try simp only [hl244001_63])
       (try simp only [hl244001_63] at BK221)
       (try simp only [hl244001_63] at BK236)
       (try simp only [hl244001_63] at BK243)
       (try simp only [hl244001_63] at BK251)
       (try simp only [hl244001_63] at HO_237000)
       (try simp only [hl244001_63] at HO_237001)
       (try simp only [hl244001_63] at HO_244000)
       (try simp only [hl244001_63] at HO_252000)
       (try simp only [hl244001_63] at HO_252001)
       cases kq with
       | zero => exact absurd HA.out (by simp [laws_FnExactMirrorMobile.j1])
       | succ kj63 =>
        have H := HA.out
        clear HA
        simp only [laws_FnExactMirrorMobile.j1] at H
        by_cases c94 : x61_63 = true
        ·
         subst c94
         have H1 : (some false) = some r := by rw [if_pos rfl] at H; exact H
         clear H
         have H := H1
         clear H1
         obtain rfl := Option.some.inj H
         go_wp2
         go_ret
         exact ⟨by first | rfl | (simp [errW_none, errW_some] <;> rfl) | (simp [*, errW_none, errW_some] <;> rfl), tB HB.out⟩
        ·
         replace c94 := Bool.eq_false_iff.mpr c94
         subst c94
         have H1 : ((laws_markMobile.f kj63 t244 t247 1).bind fun bt264 => ((laws_heldMobile.f kj63 bt264.2.1 bt264.2.2 1).bind fun t267 => (if t267 < 0 then (some false) else (if t267 = bt264.1 then ((laws_toMobile.f kj63 l0_0 l0_1).bind fun bt268 => ((impl_MirrorMobile.f kj63 bt268.1 bt268.2).bind fun bt274 => ((laws_eqMobile.f kj63 bt274.1 bt274.2.1 t229 t232).bind fun t282 => (if t282 = true then (laws_FnExactMirrorMobile.j2 kj63 bt264.1 (bt274.2.2 != t235) bt264.2.1 bt264.2.2) else (laws_FnExactMirrorMobile.j2 kj63 bt264.1 true bt264.2.1 bt264.2.2))))) else (some false))))) = some r := by rw [if_neg (show ¬ (false = true) by decide)] at H; exact H
         clear H
         have H := H1
         clear H1
         replace H := Option.bind_eq_some_iff.mp H
         obtain ⟨⟨t264, t265, t266⟩, A950, H⟩ := H
         replace H : ((laws_heldMobile.f kj63 t265 t266 1).bind fun t267 => (if t267 < 0 then (some false) else (if t267 = t264 then ((laws_toMobile.f kj63 l0_0 l0_1).bind fun bt268 => ((impl_MirrorMobile.f kj63 bt268.1 bt268.2).bind fun bt274 => ((laws_eqMobile.f kj63 bt274.1 bt274.2.1 t229 t232).bind fun t282 => (if t282 = true then (laws_FnExactMirrorMobile.j2 kj63 t264 (bt274.2.2 != t235) t265 t266) else (laws_FnExactMirrorMobile.j2 kj63 t264 true t265 t266))))) else (some false)))) = some r := H
         have A95 := Aside0.mk A950
         clear A950
         replace H := Option.bind_eq_some_iff.mp H
         obtain ⟨t267, A960, H⟩ := H
         replace H : (if t267 < 0 then (some false) else (if t267 = t264 then ((laws_toMobile.f kj63 l0_0 l0_1).bind fun bt268 => ((impl_MirrorMobile.f kj63 bt268.1 bt268.2).bind fun bt274 => ((laws_eqMobile.f kj63 bt274.1 bt274.2.1 t229 t232).bind fun t282 => (if t282 = true then (laws_FnExactMirrorMobile.j2 kj63 t264 (bt274.2.2 != t235) t265 t266) else (laws_FnExactMirrorMobile.j2 kj63 t264 true t265 t266))))) else (some false))) = some r := H
         have A96 := Aside0.mk A960
         clear A960
         by_cases c97 : t267 < 0
         ·
          rw [if_pos c97] at H
          have c97b0 : decide (t267 < 0) = true := decide_eq_true c97
          clear c97
          obtain rfl := Option.some.inj H
          have hnb98 := NB251_221.out
          have hnc98 := NB221_251.out
          have hnb99 := NB251_236.out
          have hnc99 := NB236_251.out
          have hnb100 := NB251_243.out
          have hnc100 := NB243_251.out
          obtain ⟨hcz101_0, hfz101_0, hcz101_1, hfz101_1⟩ := cz2 BK251
          go_wp2_with (first | ((with_reducible refine gate_callee (f := 24) rfl ?_); refine goesL_ (some 64) rfl rfl Try.func24 (by kernel_rfl) rfl #[.agg #[.slice Ao35 t244.length co35, .slice Ao40 t247.length co40], .int .i64 1] rfl tM ?_; (with_reducible refine (laws_markMobile.calls kj63 (fun k_ => some k_ = (.slice Ao35 t244.length co35 : Value).ownBlock) (.slice Ao35 t244.length co35) t244 (fun k_ => some k_ = (.slice Ao40 t247.length co40 : Value).ownBlock) (.slice Ao40 t247.length co40) t247 1 t264 t265 t266 w _ ?side1 ?side2 ?side3 ?side4 ?side5 A95.out).mono ?_); (case side1 => repeat (first | (with_reducible first | exact HB.out | apply below_alloc | apply pw_below_drewN | apply below_drew1 | refine below_set ?_ GE221.out | refine below_set ?_ GE236.out | refine below_set ?_ GE243.out | refine below_set ?_ GE251.out) | exact HB.out)); (case side2 => exact Kd.R_tight rfl HO_252000.out); (case side3 => exact fun k_ e_ => (HO_252000.out.1 k_ e_.symm).2.2.2.2); (case side4 => exact Kd.R_tight rfl HO_252001.out); (case side5 => exact fun k_ e_ => (HO_252001.out.1 k_ e_.symm).2.2.2.2); rintro e w102 ⟨rfl, hy0, hy1, hb, hkp⟩; refine ⟨_, rfl, ?_⟩; replace HO_237000 := Aside0.mk (Kd.R_mono (ok' := fun k_ => some k_ ≠ (.slice Ao24 t232.length co24 : Value).ownBlock ∧ some k_ ≠ (.slice Ao28 t261.length co28 : Value).ownBlock ∧ some k_ ≠ (.slice Ao32 t262.length co32 : Value).ownBlock ∧ some k_ ≠ (.slice Ao35 t244.length co35 : Value).ownBlock ∧ some k_ ≠ (.slice Ao40 t247.length co40 : Value).ownBlock) (Kd.R_keptB (HO_237000.out) hkp (fun k_ hk_ hs_ => Or.elim hs_ (fun e_ => (hk_.2.2.2.1) e_) (fun e_ => (hk_.2.2.2.2) e_))) (fun k_ hk_ => ⟨hk_.1.1, hk_.1.2.1, hk_.1.2.2.1, hk_.1.2.2.2.1, hk_.1.2.2.2.2⟩)); replace HO_237001 := Aside0.mk (Kd.R_mono (ok' := fun k_ => some k_ ≠ (.slice Ao21 t229.length co21 : Value).ownBlock ∧ some k_ ≠ (.slice Ao28 t261.length co28 : Value).ownBlock ∧ some k_ ≠ (.slice Ao32 t262.length co32 : Value).ownBlock ∧ some k_ ≠ (.slice Ao35 t244.length co35 : Value).ownBlock ∧ some k_ ≠ (.slice Ao40 t247.length co40 : Value).ownBlock) (Kd.R_keptB (HO_237001.out) hkp (fun k_ hk_ hs_ => Or.elim hs_ (fun e_ => (hk_.2.2.2.1) e_) (fun e_ => (hk_.2.2.2.2) e_))) (fun k_ hk_ => ⟨hk_.1.1, hk_.1.2.1, hk_.1.2.2.1, hk_.1.2.2.2.1, hk_.1.2.2.2.2⟩)); replace HO_244000 := Aside0.mk (Kd.R_mono (ok' := fun k_ => some k_ ≠ (.slice Ao21 t229.length co21 : Value).ownBlock ∧ some k_ ≠ (.slice Ao24 t232.length co24 : Value).ownBlock ∧ some k_ ≠ (.slice Ao32 t262.length co32 : Value).ownBlock ∧ some k_ ≠ (.slice Ao35 t244.length co35 : Value).ownBlock ∧ some k_ ≠ (.slice Ao40 t247.length co40 : Value).ownBlock) (Kd.R_keptB (HO_244000.out) hkp (fun k_ hk_ hs_ => Or.elim hs_ (fun e_ => (hk_.2.2.2.1) e_) (fun e_ => (hk_.2.2.2.2) e_))) (fun k_ hk_ => ⟨hk_.1.1, hk_.1.2.1, hk_.1.2.2.1, hk_.1.2.2.2.1, hk_.1.2.2.2.2⟩)); replace HO_244001 := Aside0.mk (Kd.R_mono (ok' := fun k_ => some k_ ≠ (.slice Ao21 t229.length co21 : Value).ownBlock ∧ some k_ ≠ (.slice Ao24 t232.length co24 : Value).ownBlock ∧ some k_ ≠ (.slice Ao28 t261.length co28 : Value).ownBlock ∧ some k_ ≠ (.slice Ao35 t244.length co35 : Value).ownBlock ∧ some k_ ≠ (.slice Ao40 t247.length co40 : Value).ownBlock) (Kd.R_keptB (HO_244001.out) hkp (fun k_ hk_ hs_ => Or.elim hs_ (fun e_ => (hk_.2.2.2.1) e_) (fun e_ => (hk_.2.2.2.2) e_))) (fun k_ hk_ => ⟨hk_.1.1, hk_.1.2.1, hk_.1.2.2.1, hk_.1.2.2.2.1, hk_.1.2.2.2.2⟩)); replace BK221 := Aside0.mk (blk_kept (tK BK221.out) hkp (fun hs_ => Or.elim hs_ (fun e_ => (fun e_ => (Kd.R_ne HO_252000.out BK221.out (by decide)) e_) e_) (fun e_ => (fun e_ => (Kd.R_ne HO_252001.out BK221.out (by decide)) e_) e_))); replace BK236 := Aside0.mk (blk_kept (tK BK236.out) hkp (fun hs_ => Or.elim hs_ (fun e_ => (fun e_ => (Kd.R_ne HO_252000.out BK236.out (by decide)) e_) e_) (fun e_ => (fun e_ => (Kd.R_ne HO_252001.out BK236.out (by decide)) e_) e_))); replace BK243 := Aside0.mk (blk_kept (tK BK243.out) hkp (fun hs_ => Or.elim hs_ (fun e_ => (fun e_ => (Kd.R_ne HO_252000.out BK243.out (by decide)) e_) e_) (fun e_ => (fun e_ => (Kd.R_ne HO_252001.out BK243.out (by decide)) e_) e_))); replace BK251 := Aside0.mk (blk_kept (tK BK251.out) hkp (fun hs_ => Or.elim hs_ (fun e_ => (fun e_ => (Kd.R_ne HO_252000.out BK251.out (by decide)) e_) e_) (fun e_ => (fun e_ => (Kd.R_ne HO_252001.out BK251.out (by decide)) e_) e_))); replace HO_252000 := Aside0.mk (Kd.R_reok rfl hy0 (fun k_ e_ => HO_252000.out.1 k_ e_)); replace HO_252001 := Aside0.mk (Kd.R_reok rfl hy1 (fun k_ e_ => HO_252001.out.1 k_ e_)); replace HB := Aside0.mk (hb); (try clear hb); (try clear hkp); (try clear hy0); (try clear hy1); obtain ⟨hcz103_0, hfz103_0, hcz103_1, hfz103_1⟩ := cz2 BK251) | ((with_reducible refine gate_callee (f := 25) rfl ?_); refine goesL_ (some 67) rfl rfl Try.func25 (by kernel_rfl) rfl #[.agg #[.slice Ao35 t265.length co35, .slice Ao40 t266.length co40], .int .i64 1] rfl (by (try simp only [List.map_toArray, List.map_cons, List.map_nil]); first | done | (rw [show t265.length = t244.length from (Kd.R_reads' HO_252000.out).1.symm, show t266.length = t247.length from (Kd.R_reads' HO_252001.out).1.symm] <;> rfl) | rfl | (simp only [List.length_drop, List.length_take]; rfl)) ?_; (with_reducible refine (laws_heldMobile.calls kj63 _ _ t265 _ _ t266 1 t267 _ ?side1 ?side2 ?side3 ?side4 A96.out).mono ?_); (case side1 => exact tC (Kd.R_reads' HO_252000.out).2.2); (case side2 => rw [show t265.length = t244.length from (Kd.R_reads' HO_252000.out).1.symm]; exact (Kd.R_reads' HO_252000.out).2.1); (case side3 => exact tC (Kd.R_reads' HO_252001.out).2.2); (case side4 => rw [show t266.length = t247.length from (Kd.R_reads' HO_252001.out).1.symm]; exact (Kd.R_reads' HO_252001.out).2.1); rintro e w104 ⟨rfl, hb⟩; refine ⟨_, rfl, ?_⟩; replace HO_237000 := Aside0.mk (Kd.R_below (tR HO_237000.out) hb); replace HO_237001 := Aside0.mk (Kd.R_below (tR HO_237001.out) hb); replace HO_244000 := Aside0.mk (Kd.R_below (tR HO_244000.out) hb); replace HO_244001 := Aside0.mk (Kd.R_below (tR HO_244001.out) hb); replace HO_252000 := Aside0.mk (Kd.R_below (tR HO_252000.out) hb); replace HO_252001 := Aside0.mk (Kd.R_below (tR HO_252001.out) hb); replace BK221 := bkB BK221 hb; replace BK236 := bkB BK236 hb; replace BK243 := bkB BK243 hb; replace BK251 := bkB BK251 hb; replace HB := Aside0.mk (below_step (tB HB.out) hb); (try clear hb); (try clear hb2); (try clear hk); (try clear hi)))
          go_ret
          exact ⟨by first | rfl | (simp [errW_none, errW_some] <;> rfl) | (simp [*, errW_none, errW_some] <;> rfl), tB HB.out⟩
         ·
          rw [if_neg c97] at H
          have c97b0 : decide (t267 < 0) = false := decide_eq_false c97
          clear c97
          by_cases c105 : t267 = t264
          ·
           rw [if_pos c105] at H
           have c105b0 : (t267 == t264) = true := beq_iff_eq.mpr c105
           have c105b1 : (t267 != t264) = false := bne_eq_false_iff_eq.mpr c105
           clear c105
           replace H := Option.bind_eq_some_iff.mp H
           obtain ⟨⟨t268, t271⟩, A1060, H⟩ := H
           replace H : ((impl_MirrorMobile.f kj63 t268 t271).bind fun bt274 => ((laws_eqMobile.f kj63 bt274.1 bt274.2.1 t229 t232).bind fun t282 => (if t282 = true then (laws_FnExactMirrorMobile.j2 kj63 t264 (bt274.2.2 != t235) t265 t266) else (laws_FnExactMirrorMobile.j2 kj63 t264 true t265 t266)))) = some r := H
           have A106 := Aside0.mk A1060
           clear A1060
           replace H := Option.bind_eq_some_iff.mp H
           obtain ⟨⟨t274, t277, t280⟩, A1070, H⟩ := H
           replace H : ((laws_eqMobile.f kj63 t274 t277 t229 t232).bind fun t282 => (if t282 = true then (laws_FnExactMirrorMobile.j2 kj63 t264 (t280 != t235) t265 t266) else (laws_FnExactMirrorMobile.j2 kj63 t264 true t265 t266))) = some r := H
           have A107 := Aside0.mk A1070
           clear A1070
           have HC108 := Aside0.mk H
           clear H
           have hnb109 := NB251_221.out
           have hnc109 := NB221_251.out
           have hnb110 := NB251_236.out
           have hnc110 := NB236_251.out
           have hnb111 := NB251_243.out
           have hnc111 := NB243_251.out
           obtain ⟨hcz112_0, hfz112_0, hcz112_1, hfz112_1⟩ := cz2 BK251
           go_upto_region 25 with (first | ((with_reducible refine gate_callee (f := 24) rfl ?_); refine goesL_ (some 64) rfl rfl Try.func24 (by kernel_rfl) rfl #[.agg #[.slice Ao35 t244.length co35, .slice Ao40 t247.length co40], .int .i64 1] rfl tM ?_; (with_reducible refine (laws_markMobile.calls kj63 (fun k_ => some k_ = (.slice Ao35 t244.length co35 : Value).ownBlock) (.slice Ao35 t244.length co35) t244 (fun k_ => some k_ = (.slice Ao40 t247.length co40 : Value).ownBlock) (.slice Ao40 t247.length co40) t247 1 t264 t265 t266 w _ ?side1 ?side2 ?side3 ?side4 ?side5 A95.out).mono ?_); (case side1 => repeat (first | (with_reducible first | exact HB.out | apply below_alloc | apply pw_below_drewN | apply below_drew1 | refine below_set ?_ GE221.out | refine below_set ?_ GE236.out | refine below_set ?_ GE243.out | refine below_set ?_ GE251.out) | exact HB.out)); (case side2 => exact Kd.R_tight rfl HO_252000.out); (case side3 => exact fun k_ e_ => (HO_252000.out.1 k_ e_.symm).2.2.2.2); (case side4 => exact Kd.R_tight rfl HO_252001.out); (case side5 => exact fun k_ e_ => (HO_252001.out.1 k_ e_.symm).2.2.2.2); rintro e w113 ⟨rfl, hy0, hy1, hb, hkp⟩; refine ⟨_, rfl, ?_⟩; replace HO_237000 := Aside0.mk (Kd.R_mono (ok' := fun k_ => some k_ ≠ (.slice Ao24 t232.length co24 : Value).ownBlock ∧ some k_ ≠ (.slice Ao28 t261.length co28 : Value).ownBlock ∧ some k_ ≠ (.slice Ao32 t262.length co32 : Value).ownBlock ∧ some k_ ≠ (.slice Ao35 t244.length co35 : Value).ownBlock ∧ some k_ ≠ (.slice Ao40 t247.length co40 : Value).ownBlock) (Kd.R_keptB (HO_237000.out) hkp (fun k_ hk_ hs_ => Or.elim hs_ (fun e_ => (hk_.2.2.2.1) e_) (fun e_ => (hk_.2.2.2.2) e_))) (fun k_ hk_ => ⟨hk_.1.1, hk_.1.2.1, hk_.1.2.2.1, hk_.1.2.2.2.1, hk_.1.2.2.2.2⟩)); replace HO_237001 := Aside0.mk (Kd.R_mono (ok' := fun k_ => some k_ ≠ (.slice Ao21 t229.length co21 : Value).ownBlock ∧ some k_ ≠ (.slice Ao28 t261.length co28 : Value).ownBlock ∧ some k_ ≠ (.slice Ao32 t262.length co32 : Value).ownBlock ∧ some k_ ≠ (.slice Ao35 t244.length co35 : Value).ownBlock ∧ some k_ ≠ (.slice Ao40 t247.length co40 : Value).ownBlock) (Kd.R_keptB (HO_237001.out) hkp (fun k_ hk_ hs_ => Or.elim hs_ (fun e_ => (hk_.2.2.2.1) e_) (fun e_ => (hk_.2.2.2.2) e_))) (fun k_ hk_ => ⟨hk_.1.1, hk_.1.2.1, hk_.1.2.2.1, hk_.1.2.2.2.1, hk_.1.2.2.2.2⟩)); replace HO_244000 := Aside0.mk (Kd.R_mono (ok' := fun k_ => some k_ ≠ (.slice Ao21 t229.length co21 : Value).ownBlock ∧ some k_ ≠ (.slice Ao24 t232.length co24 : Value).ownBlock ∧ some k_ ≠ (.slice Ao32 t262.length co32 : Value).ownBlock ∧ some k_ ≠ (.slice Ao35 t244.length co35 : Value).ownBlock ∧ some k_ ≠ (.slice Ao40 t247.length co40 : Value).ownBlock) (Kd.R_keptB (HO_244000.out) hkp (fun k_ hk_ hs_ => Or.elim hs_ (fun e_ => (hk_.2.2.2.1) e_) (fun e_ => (hk_.2.2.2.2) e_))) (fun k_ hk_ => ⟨hk_.1.1, hk_.1.2.1, hk_.1.2.2.1, hk_.1.2.2.2.1, hk_.1.2.2.2.2⟩)); replace HO_244001 := Aside0.mk (Kd.R_mono (ok' := fun k_ => some k_ ≠ (.slice Ao21 t229.length co21 : Value).ownBlock ∧ some k_ ≠ (.slice Ao24 t232.length co24 : Value).ownBlock ∧ some k_ ≠ (.slice Ao28 t261.length co28 : Value).ownBlock ∧ some k_ ≠ (.slice Ao35 t244.length co35 : Value).ownBlock ∧ some k_ ≠ (.slice Ao40 t247.length co40 : Value).ownBlock) (Kd.R_keptB (HO_244001.out) hkp (fun k_ hk_ hs_ => Or.elim hs_ (fun e_ => (hk_.2.2.2.1) e_) (fun e_ => (hk_.2.2.2.2) e_))) (fun k_ hk_ => ⟨hk_.1.1, hk_.1.2.1, hk_.1.2.2.1, hk_.1.2.2.2.1, hk_.1.2.2.2.2⟩)); replace BK221 := Aside0.mk (blk_kept (tK BK221.out) hkp (fun hs_ => Or.elim hs_ (fun e_ => (fun e_ => (Kd.R_ne HO_252000.out BK221.out (by decide)) e_) e_) (fun e_ => (fun e_ => (Kd.R_ne HO_252001.out BK221.out (by decide)) e_) e_))); replace BK236 := Aside0.mk (blk_kept (tK BK236.out) hkp (fun hs_ => Or.elim hs_ (fun e_ => (fun e_ => (Kd.R_ne HO_252000.out BK236.out (by decide)) e_) e_) (fun e_ => (fun e_ => (Kd.R_ne HO_252001.out BK236.out (by decide)) e_) e_))); replace BK243 := Aside0.mk (blk_kept (tK BK243.out) hkp (fun hs_ => Or.elim hs_ (fun e_ => (fun e_ => (Kd.R_ne HO_252000.out BK243.out (by decide)) e_) e_) (fun e_ => (fun e_ => (Kd.R_ne HO_252001.out BK243.out (by decide)) e_) e_))); replace BK251 := Aside0.mk (blk_kept (tK BK251.out) hkp (fun hs_ => Or.elim hs_ (fun e_ => (fun e_ => (Kd.R_ne HO_252000.out BK251.out (by decide)) e_) e_) (fun e_ => (fun e_ => (Kd.R_ne HO_252001.out BK251.out (by decide)) e_) e_))); replace HO_252000 := Aside0.mk (Kd.R_reok rfl hy0 (fun k_ e_ => HO_252000.out.1 k_ e_)); replace HO_252001 := Aside0.mk (Kd.R_reok rfl hy1 (fun k_ e_ => HO_252001.out.1 k_ e_)); replace HB := Aside0.mk (hb); (try clear hb); (try clear hkp); (try clear hy0); (try clear hy1); obtain ⟨hcz114_0, hfz114_0, hcz114_1, hfz114_1⟩ := cz2 BK251) | ((with_reducible refine gate_callee (f := 25) rfl ?_); refine goesL_ (some 67) rfl rfl Try.func25 (by kernel_rfl) rfl #[.agg #[.slice Ao35 t265.length co35, .slice Ao40 t266.length co40], .int .i64 1] rfl (by (try simp only [List.map_toArray, List.map_cons, List.map_nil]); first | done | (rw [show t265.length = t244.length from (Kd.R_reads' HO_252000.out).1.symm, show t266.length = t247.length from (Kd.R_reads' HO_252001.out).1.symm] <;> rfl) | rfl | (simp only [List.length_drop, List.length_take]; rfl)) ?_; (with_reducible refine (laws_heldMobile.calls kj63 _ _ t265 _ _ t266 1 t267 _ ?side1 ?side2 ?side3 ?side4 A96.out).mono ?_); (case side1 => exact tC (Kd.R_reads' HO_252000.out).2.2); (case side2 => rw [show t265.length = t244.length from (Kd.R_reads' HO_252000.out).1.symm]; exact (Kd.R_reads' HO_252000.out).2.1); (case side3 => exact tC (Kd.R_reads' HO_252001.out).2.2); (case side4 => rw [show t266.length = t247.length from (Kd.R_reads' HO_252001.out).1.symm]; exact (Kd.R_reads' HO_252001.out).2.1); rintro e w115 ⟨rfl, hb⟩; refine ⟨_, rfl, ?_⟩; replace HO_237000 := Aside0.mk (Kd.R_below (tR HO_237000.out) hb); replace HO_237001 := Aside0.mk (Kd.R_below (tR HO_237001.out) hb); replace HO_244000 := Aside0.mk (Kd.R_below (tR HO_244000.out) hb); replace HO_244001 := Aside0.mk (Kd.R_below (tR HO_244001.out) hb); replace HO_252000 := Aside0.mk (Kd.R_below (tR HO_252000.out) hb); replace HO_252001 := Aside0.mk (Kd.R_below (tR HO_252001.out) hb); replace BK221 := bkB BK221 hb; replace BK236 := bkB BK236 hb; replace BK243 := bkB BK243 hb; replace BK251 := bkB BK251 hb; replace HB := Aside0.mk (below_step (tB HB.out) hb); (try clear hb); (try clear hb2); (try clear hk); (try clear hi); have hnb116 := NB221_236.out; have hnc116 := NB236_221.out; have hnb117 := NB221_243.out; have hnc117 := NB243_221.out; obtain ⟨hcz118_0, hfz118_0, hcz118_1, hfz118_1⟩ := cz2 BK221) | ((with_reducible refine gate_callee (f := 17) rfl ?_); refine goesL_ (some 75) rfl rfl Try.func17 (by kernel_rfl) rfl #[.agg #[.slice A0_0 l0_0.length c0_0, .slice A0_1 l0_1.length c0_1]] rfl tM ?_; (with_reducible refine (laws_toMobile.calls kj63 _ _ l0_0 _ _ l0_1 t268 t271 _ ?side1 ?side2 ?side3 ?side4 A106.out).mono ?_); (case side1 => exact tC (Kd.C_below HR0_0.out HB.out)); (case side2 => exact HC0_0.out); (case side3 => exact tC (Kd.C_below HR0_1.out HB.out)); (case side4 => exact HC0_1.out); rintro e w119 ⟨v269, v272, rfl, ho0, ho1, hb⟩; refine ⟨_, rfl, ?_⟩; have HO270 := Aside0.mk (Kd.R_lower (Kd.R_new' (Kd.R_new' (Kd.R_new' (Kd.R_new' (Kd.R_new' (Kd.R_new' ho0 (Kd.R_lt (tR HO_237000.out))) (Kd.R_lt (tR HO_237001.out))) (Kd.R_lt (tR HO_244000.out))) (Kd.R_lt (tR HO_244001.out))) (Kd.R_lt (tR HO_252000.out))) (Kd.R_lt (tR HO_252001.out))) (below_size (tB HB.out))); have HO273 := Aside0.mk (Kd.R_lower (Kd.R_new' (Kd.R_new' (Kd.R_new' (Kd.R_new' (Kd.R_new' (Kd.R_new' ho1 (Kd.R_lt (tR HO_237000.out))) (Kd.R_lt (tR HO_237001.out))) (Kd.R_lt (tR HO_244000.out))) (Kd.R_lt (tR HO_244001.out))) (Kd.R_lt (tR HO_252000.out))) (Kd.R_lt (tR HO_252001.out))) (below_size (tB HB.out))); replace HO_237000 := Aside0.mk (Kd.R_mono (Kd.R_told (Kd.R_told (Kd.R_old (tR HO_237000.out) hb) (Kd.R_base ho0)) (Kd.R_base ho1)) (fun _ h_ => h_.1)); replace HO_237001 := Aside0.mk (Kd.R_mono (Kd.R_told (Kd.R_told (Kd.R_old (tR HO_237001.out) hb) (Kd.R_base ho0)) (Kd.R_base ho1)) (fun _ h_ => h_.1)); replace HO_244000 := Aside0.mk (Kd.R_mono (Kd.R_told (Kd.R_told (Kd.R_old (tR HO_244000.out) hb) (Kd.R_base ho0)) (Kd.R_base ho1)) (fun _ h_ => h_.1)); replace HO_244001 := Aside0.mk (Kd.R_mono (Kd.R_told (Kd.R_told (Kd.R_old (tR HO_244001.out) hb) (Kd.R_base ho0)) (Kd.R_base ho1)) (fun _ h_ => h_.1)); replace HO_252000 := Aside0.mk (Kd.R_mono (Kd.R_told (Kd.R_told (Kd.R_old (tR HO_252000.out) hb) (Kd.R_base ho0)) (Kd.R_base ho1)) (fun _ h_ => h_.1)); replace HO_252001 := Aside0.mk (Kd.R_mono (Kd.R_told (Kd.R_told (Kd.R_old (tR HO_252001.out) hb) (Kd.R_base ho0)) (Kd.R_base ho1)) (fun _ h_ => h_.1)); replace BK221 := bkB BK221 hb; replace BK236 := bkB BK236 hb; replace BK243 := bkB BK243 hb; replace BK251 := bkB BK251 hb; replace HB := Aside0.mk (below_step (tB HB.out) hb); (try clear hb); (try clear hb2); (try clear hk); (try clear hi); (try clear ho0); (try clear ho1); obtain ⟨Ao120, co120, eo120⟩ := Kd.R_slice HO270.out; subst eo120; obtain ⟨Ao121, co121, eo121⟩ := Kd.R_slice HO273.out; subst eo121) | ((with_reducible refine gate_callee (f := 23) rfl ?_); refine goesL_ (some 76) rfl rfl Try.func23 (by kernel_rfl) rfl #[.agg #[.slice Ao120 t268.length co120, .slice Ao121 t271.length co121]] rfl tM ?_; (with_reducible refine (impl_MirrorMobile.calls kj63 _ _ t268 _ _ t271 t274 t277 t280 _ ?side1 ?side2 ?side3 ?side4 A107.out).mono ?_); (case side1 => exact tC (Kd.R_reads' HO270.out).2.2); (case side2 => exact (Kd.R_reads' HO270.out).2.1); (case side3 => exact tC (Kd.R_reads' HO273.out).2.2); (case side4 => exact (Kd.R_reads' HO273.out).2.1); rintro e w122 ⟨v275, v278, rfl, ho0, ho1, hb⟩; refine ⟨_, rfl, ?_⟩; have HO276 := Aside0.mk (Kd.R_lower (Kd.R_new' (Kd.R_new' (Kd.R_new' (Kd.R_new' (Kd.R_new' (Kd.R_new' (Kd.R_new' (Kd.R_new' ho0 (Kd.R_lt (tR HO_237000.out))) (Kd.R_lt (tR HO_237001.out))) (Kd.R_lt (tR HO_244000.out))) (Kd.R_lt (tR HO_244001.out))) (Kd.R_lt (tR HO_252000.out))) (Kd.R_lt (tR HO_252001.out))) (Kd.R_lt (tR HO270.out))) (Kd.R_lt (tR HO273.out))) (below_size (tB HB.out))); have HO279 := Aside0.mk (Kd.R_lower (Kd.R_new' (Kd.R_new' (Kd.R_new' (Kd.R_new' (Kd.R_new' (Kd.R_new' (Kd.R_new' (Kd.R_new' ho1 (Kd.R_lt (tR HO_237000.out))) (Kd.R_lt (tR HO_237001.out))) (Kd.R_lt (tR HO_244000.out))) (Kd.R_lt (tR HO_244001.out))) (Kd.R_lt (tR HO_252000.out))) (Kd.R_lt (tR HO_252001.out))) (Kd.R_lt (tR HO270.out))) (Kd.R_lt (tR HO273.out))) (below_size (tB HB.out))); replace HO_237000 := Aside0.mk (Kd.R_mono (Kd.R_told (Kd.R_told (Kd.R_old (tR HO_237000.out) hb) (Kd.R_base ho0)) (Kd.R_base ho1)) (fun _ h_ => h_.1)); replace HO_237001 := Aside0.mk (Kd.R_mono (Kd.R_told (Kd.R_told (Kd.R_old (tR HO_237001.out) hb) (Kd.R_base ho0)) (Kd.R_base ho1)) (fun _ h_ => h_.1)); replace HO_244000 := Aside0.mk (Kd.R_mono (Kd.R_told (Kd.R_told (Kd.R_old (tR HO_244000.out) hb) (Kd.R_base ho0)) (Kd.R_base ho1)) (fun _ h_ => h_.1)); replace HO_244001 := Aside0.mk (Kd.R_mono (Kd.R_told (Kd.R_told (Kd.R_old (tR HO_244001.out) hb) (Kd.R_base ho0)) (Kd.R_base ho1)) (fun _ h_ => h_.1)); replace HO_252000 := Aside0.mk (Kd.R_mono (Kd.R_told (Kd.R_told (Kd.R_old (tR HO_252000.out) hb) (Kd.R_base ho0)) (Kd.R_base ho1)) (fun _ h_ => h_.1)); replace HO_252001 := Aside0.mk (Kd.R_mono (Kd.R_told (Kd.R_told (Kd.R_old (tR HO_252001.out) hb) (Kd.R_base ho0)) (Kd.R_base ho1)) (fun _ h_ => h_.1)); replace HO270 := Aside0.mk (Kd.R_mono (Kd.R_told (Kd.R_told (Kd.R_old (tR HO270.out) hb) (Kd.R_base ho0)) (Kd.R_base ho1)) (fun _ h_ => h_.1)); replace HO273 := Aside0.mk (Kd.R_mono (Kd.R_told (Kd.R_told (Kd.R_old (tR HO273.out) hb) (Kd.R_base ho0)) (Kd.R_base ho1)) (fun _ h_ => h_.1)); replace BK221 := bkB BK221 hb; replace BK236 := bkB BK236 hb; replace BK243 := bkB BK243 hb; replace BK251 := bkB BK251 hb; replace HB := Aside0.mk (below_step (tB HB.out) hb); (try clear hb); (try clear hb2); (try clear hk); (try clear hi); (try clear ho0); (try clear ho1)) | ((with_reducible refine gate_dst (N := 12) rfl ?_); refine box_event ?hg (N := 12) ?hd (cs := #[.slice none 0 0, .slice none 0 0]) (t := 27) ?hr ?_; (case hd => rfl); (case hg => rfl); (case hr => first | (go_simp; done) | (go_simp; rfl)); intro gb281 hg w123 hbox hb; replace HO_237000 := Aside0.mk (Kd.R_below (tR HO_237000.out) hb); replace HO_237001 := Aside0.mk (Kd.R_below (tR HO_237001.out) hb); replace HO_244000 := Aside0.mk (Kd.R_below (tR HO_244000.out) hb); replace HO_244001 := Aside0.mk (Kd.R_below (tR HO_244001.out) hb); replace HO_252000 := Aside0.mk (Kd.R_below (tR HO_252000.out) hb); replace HO_252001 := Aside0.mk (Kd.R_below (tR HO_252001.out) hb); replace HO270 := Aside0.mk (Kd.R_below (tR HO270.out) hb); replace HO273 := Aside0.mk (Kd.R_below (tR HO273.out) hb); replace HO276 := Aside0.mk (Kd.R_below (tR HO276.out) hb); replace HO279 := Aside0.mk (Kd.R_below (tR HO279.out) hb); have BK281 := Aside0.mk (hbox); have GW281 := Aside0.mk (bS HB.out hg); have GE281 := Aside0.mk (bS HB.out hg); replace HB := Aside0.mk (below_step (tB HB.out) hb); have NB221_281 := Aside0.mk (nL BK221.out hg); have NB281_221 := Aside0.mk (nG BK221.out hg); replace BK221 := bkB BK221 hb; have NB236_281 := Aside0.mk (nL BK236.out hg); have NB281_236 := Aside0.mk (nG BK236.out hg); replace BK236 := bkB BK236 hb; have NB243_281 := Aside0.mk (nL BK243.out hg); have NB281_243 := Aside0.mk (nG BK243.out hg); replace BK243 := bkB BK243 hb; have NB251_281 := Aside0.mk (nL BK251.out hg); have NB281_251 := Aside0.mk (nG BK251.out hg); replace BK251 := bkB BK251 hb; clear hb hbox hg; obtain ⟨Ao124, co124, eo124⟩ := Kd.R_slice HO276.out; subst eo124; have hnb125 := NB281_221.out; have hnc125 := NB221_281.out; have hnb126 := NB281_236.out; have hnc126 := NB236_281.out; have hnb127 := NB281_243.out; have hnc127 := NB243_281.out; have hnb128 := NB281_251.out; have hnc128 := NB251_281.out; obtain ⟨hcz129_0, hfz129_0, hcz129_1, hfz129_1⟩ := cz2 BK281; obtain ⟨Ao130, co130, eo130⟩ := Kd.R_slice HO279.out; subst eo130))
           (try simp only [Act.put, List.setIfInBounds_toArray, List.set_cons_zero, List.set_cons_succ])
           go_cut [87] (fun v87 wc => ∃ (kq : Nat) (x87_107 : Bool), v87 = .bool x87_107 ∧ Aside0 (laws_FnExactMirrorMobile.j2 kq t264 x87_107 t265 t266 = some r) ∧ Aside0 (kq ≤ kj63) ∧ Aside0 (Kd.R k58 58 wc w.heap.size (fun k_ => some k_ ≠ ((.slice Ao24 t232.length co24) : Value).ownBlock ∧ some k_ ≠ ((.slice Ao28 t261.length co28) : Value).ownBlock ∧ some k_ ≠ ((.slice Ao32 t262.length co32) : Value).ownBlock ∧ some k_ ≠ ((.slice Ao35 t244.length co35) : Value).ownBlock ∧ some k_ ≠ ((.slice Ao40 t247.length co40) : Value).ownBlock ∧ some k_ ≠ ((.slice Ao124 t274.length co124) : Value).ownBlock ∧ some k_ ≠ ((.slice Ao130 t277.length co130) : Value).ownBlock) (.slice Ao21 t229.length co21) t229) ∧ Aside0 (Kd.R k58 58 wc w.heap.size (fun k_ => some k_ ≠ ((.slice Ao21 t229.length co21) : Value).ownBlock ∧ some k_ ≠ ((.slice Ao28 t261.length co28) : Value).ownBlock ∧ some k_ ≠ ((.slice Ao32 t262.length co32) : Value).ownBlock ∧ some k_ ≠ ((.slice Ao35 t244.length co35) : Value).ownBlock ∧ some k_ ≠ ((.slice Ao40 t247.length co40) : Value).ownBlock ∧ some k_ ≠ ((.slice Ao124 t274.length co124) : Value).ownBlock ∧ some k_ ≠ ((.slice Ao130 t277.length co130) : Value).ownBlock) (.slice Ao24 t232.length co24) t232) ∧ Aside0 (Kd.R k58 58 wc w.heap.size (fun k_ => some k_ ≠ ((.slice Ao21 t229.length co21) : Value).ownBlock ∧ some k_ ≠ ((.slice Ao24 t232.length co24) : Value).ownBlock ∧ some k_ ≠ ((.slice Ao32 t262.length co32) : Value).ownBlock ∧ some k_ ≠ ((.slice Ao35 t244.length co35) : Value).ownBlock ∧ some k_ ≠ ((.slice Ao40 t247.length co40) : Value).ownBlock ∧ some k_ ≠ ((.slice Ao124 t274.length co124) : Value).ownBlock ∧ some k_ ≠ ((.slice Ao130 t277.length co130) : Value).ownBlock) (.slice Ao28 t261.length co28) t261) ∧ Aside0 (Kd.R k58 58 wc w.heap.size (fun k_ => some k_ ≠ ((.slice Ao21 t229.length co21) : Value).ownBlock ∧ some k_ ≠ ((.slice Ao24 t232.length co24) : Value).ownBlock ∧ some k_ ≠ ((.slice Ao28 t261.length co28) : Value).ownBlock ∧ some k_ ≠ ((.slice Ao35 t244.length co35) : Value).ownBlock ∧ some k_ ≠ ((.slice Ao40 t247.length co40) : Value).ownBlock ∧ some k_ ≠ ((.slice Ao124 t274.length co124) : Value).ownBlock ∧ some k_ ≠ ((.slice Ao130 t277.length co130) : Value).ownBlock) (.slice Ao32 t262.length co32) t262) ∧ Aside0 (Kd.R k58 58 wc w.heap.size (fun k_ => some k_ ≠ ((.slice Ao21 t229.length co21) : Value).ownBlock ∧ some k_ ≠ ((.slice Ao24 t232.length co24) : Value).ownBlock ∧ some k_ ≠ ((.slice Ao28 t261.length co28) : Value).ownBlock ∧ some k_ ≠ ((.slice Ao32 t262.length co32) : Value).ownBlock ∧ some k_ ≠ ((.slice Ao40 t247.length co40) : Value).ownBlock ∧ some k_ ≠ ((.slice Ao124 t274.length co124) : Value).ownBlock ∧ some k_ ≠ ((.slice Ao130 t277.length co130) : Value).ownBlock) (.slice Ao35 t244.length co35) t265) ∧ Aside0 (Kd.R k58 58 wc w.heap.size (fun k_ => some k_ ≠ ((.slice Ao21 t229.length co21) : Value).ownBlock ∧ some k_ ≠ ((.slice Ao24 t232.length co24) : Value).ownBlock ∧ some k_ ≠ ((.slice Ao28 t261.length co28) : Value).ownBlock ∧ some k_ ≠ ((.slice Ao32 t262.length co32) : Value).ownBlock ∧ some k_ ≠ ((.slice Ao35 t244.length co35) : Value).ownBlock ∧ some k_ ≠ ((.slice Ao124 t274.length co124) : Value).ownBlock ∧ some k_ ≠ ((.slice Ao130 t277.length co130) : Value).ownBlock) (.slice Ao40 t247.length co40) t266) ∧ Aside0 (Kd.R k58 58 wc w.heap.size (fun k_ => some k_ ≠ ((.slice Ao21 t229.length co21) : Value).ownBlock ∧ some k_ ≠ ((.slice Ao24 t232.length co24) : Value).ownBlock ∧ some k_ ≠ ((.slice Ao28 t261.length co28) : Value).ownBlock ∧ some k_ ≠ ((.slice Ao32 t262.length co32) : Value).ownBlock ∧ some k_ ≠ ((.slice Ao35 t244.length co35) : Value).ownBlock ∧ some k_ ≠ ((.slice Ao40 t247.length co40) : Value).ownBlock ∧ some k_ ≠ ((.slice Ao130 t277.length co130) : Value).ownBlock) (.slice Ao124 t274.length co124) t274) ∧ Aside0 (Kd.R k58 58 wc w.heap.size (fun k_ => some k_ ≠ ((.slice Ao21 t229.length co21) : Value).ownBlock ∧ some k_ ≠ ((.slice Ao24 t232.length co24) : Value).ownBlock ∧ some k_ ≠ ((.slice Ao28 t261.length co28) : Value).ownBlock ∧ some k_ ≠ ((.slice Ao32 t262.length co32) : Value).ownBlock ∧ some k_ ≠ ((.slice Ao35 t244.length co35) : Value).ownBlock ∧ some k_ ≠ ((.slice Ao40 t247.length co40) : Value).ownBlock ∧ some k_ ≠ ((.slice Ao124 t274.length co124) : Value).ownBlock) (.slice Ao130 t277.length co130) t277) ∧ Aside0 (wc.heap[gb221]? = some (.cells #[(.slice A0_0 l0_0.length c0_0), (.slice A0_1 l0_1.length c0_1)] 24 (0, 0))) ∧ Aside0 (wc.heap[gb236]? = some (.cells #[(.slice Ao21 t229.length co21), (.slice Ao24 t232.length co24)] 27 (0, 0))) ∧ Aside0 (wc.heap[gb243]? = some (.cells #[(.slice Ao28 t261.length co28), (.slice Ao32 t262.length co32)] 27 (0, 0))) ∧ Aside0 (wc.heap[gb251]? = some (.cells #[(.slice Ao35 t244.length co35), (.slice Ao40 t247.length co40)] 27 (0, 0))) ∧ Aside0 (wc.heap[gb281]? = some (.cells #[(.slice Ao124 t274.length co124), (.slice Ao130 t277.length co130)] 27 (0, 0))) ∧ Aside0 (Below w.heap.size w wc))
           case first =>
            have H := HC108.out
            clear HC108
            replace H := Option.bind_eq_some_iff.mp H
            obtain ⟨t282, A1310, H⟩ := H
            replace H : (if t282 = true then (laws_FnExactMirrorMobile.j2 kj63 t264 (t280 != t235) t265 t266) else (laws_FnExactMirrorMobile.j2 kj63 t264 true t265 t266)) = some r := H
            have A131 := Aside0.mk A1310
            clear A1310
            by_cases c132 : t282 = true
            ·
             subst c132
             have H1 : (laws_FnExactMirrorMobile.j2 kj63 t264 (t280 != t235) t265 t266) = some r := by rw [if_pos rfl] at H; exact H
             clear H
             have H := H1
             clear H1
             have H' := Aside0.mk H
             clear H
             have hnb133 := NB281_221.out
             have hnc133 := NB221_281.out
             have hnb134 := NB281_236.out
             have hnc134 := NB236_281.out
             have hnb135 := NB281_243.out
             have hnc135 := NB243_281.out
             have hnb136 := NB281_251.out
             have hnc136 := NB251_281.out
             obtain ⟨hcz137_0, hfz137_0, hcz137_1, hfz137_1⟩ := cz2 BK281
             have hnb138 := NB236_221.out
             have hnc138 := NB221_236.out
             have hnb139 := NB236_243.out
             have hnc139 := NB243_236.out
             have hnb140 := NB236_251.out
             have hnc140 := NB251_236.out
             obtain ⟨hcz141_0, hfz141_0, hcz141_1, hfz141_1⟩ := cz2 BK236
             go_wp2_with (first | ((with_reducible refine gate_callee (f := 19) rfl ?_); refine goesL_ (some 81) rfl rfl Try.func19 (by kernel_rfl) rfl #[.agg #[.slice Ao124 t274.length co124, .slice Ao130 t277.length co130], .agg #[.slice Ao21 t229.length co21, .slice Ao24 t232.length co24]] rfl tM ?_; (with_reducible refine (laws_eqMobile.calls kj63 _ _ t274 _ _ t277 _ _ t229 _ _ t232 true _ ?side1 ?side2 ?side3 ?side4 ?side5 ?side6 ?side7 ?side8 A131.out).mono ?_); (case side1 => refine (Kd.R_reads' (e := 58) (base := w.heap.size) (ok := fun k_ => ((((((((some k_ ≠ (.slice Ao130 t277.length co130 : Value).ownBlock ∧ some k_ ≠ (.slice Ao21 t229.length co21 : Value).ownBlock) ∧ some k_ ≠ (.slice Ao24 t232.length co24 : Value).ownBlock) ∧ some k_ ≠ (.slice Ao28 t261.length co28 : Value).ownBlock) ∧ some k_ ≠ (.slice Ao32 t262.length co32 : Value).ownBlock) ∧ some k_ ≠ (.slice Ao35 t244.length co35 : Value).ownBlock) ∧ some k_ ≠ (.slice Ao40 t247.length co40 : Value).ownBlock) ∧ some k_ ≠ (.slice Ao120 t268.length co120 : Value).ownBlock) ∧ some k_ ≠ (.slice Ao121 t271.length co121 : Value).ownBlock)) (n := t274.length) (c := co124) ?_).2.2; exact (by (with_reducible repeat (first | apply Kd.R_alloc | apply Kd.R_drewN | apply Kd.R_drew)); exact (Kd.R_mono (Kd.R_far (p := ⟨gb281, 1, none⟩) (Kd.R_far (p := ⟨gb281, 0, none⟩) (Kd.R_types HO276.out BK281.out (by decide)) (fun _ hk => hk.2) (.slice Ao124 t274.length co124)) (fun _ hk => hk.2) (.slice Ao130 t277.length co130)) (fun _ h_ => h_.1)))); (case side2 => exact (Kd.R_reads' HO276.out).2.1); (case side3 => refine (Kd.R_reads' (e := 58) (base := w.heap.size) (ok := fun k_ => ((((((((some k_ ≠ (.slice Ao124 t274.length co124 : Value).ownBlock ∧ some k_ ≠ (.slice Ao21 t229.length co21 : Value).ownBlock) ∧ some k_ ≠ (.slice Ao24 t232.length co24 : Value).ownBlock) ∧ some k_ ≠ (.slice Ao28 t261.length co28 : Value).ownBlock) ∧ some k_ ≠ (.slice Ao32 t262.length co32 : Value).ownBlock) ∧ some k_ ≠ (.slice Ao35 t244.length co35 : Value).ownBlock) ∧ some k_ ≠ (.slice Ao40 t247.length co40 : Value).ownBlock) ∧ some k_ ≠ (.slice Ao120 t268.length co120 : Value).ownBlock) ∧ some k_ ≠ (.slice Ao121 t271.length co121 : Value).ownBlock)) (n := t277.length) (c := co130) ?_).2.2; exact (by (with_reducible repeat (first | apply Kd.R_alloc | apply Kd.R_drewN | apply Kd.R_drew)); exact (Kd.R_mono (Kd.R_far (p := ⟨gb281, 1, none⟩) (Kd.R_far (p := ⟨gb281, 0, none⟩) (Kd.R_types HO279.out BK281.out (by decide)) (fun _ hk => hk.2) (.slice Ao124 t274.length co124)) (fun _ hk => hk.2) (.slice Ao130 t277.length co130)) (fun _ h_ => h_.1)))); (case side4 => exact (Kd.R_reads' HO279.out).2.1); (case side5 => refine (Kd.R_reads' (e := 58) (base := w.heap.size) (ok := fun k_ => (((((some k_ ≠ (.slice Ao24 t232.length co24 : Value).ownBlock ∧ (some k_ ≠ (.slice Ao28 t261.length co28 : Value).ownBlock ∧ (some k_ ≠ (.slice Ao32 t262.length co32 : Value).ownBlock ∧ (some k_ ≠ (.slice Ao35 t244.length co35 : Value).ownBlock ∧ some k_ ≠ (.slice Ao40 t247.length co40 : Value).ownBlock)))) ∧ some k_ ≠ (.slice Ao120 t268.length co120 : Value).ownBlock) ∧ some k_ ≠ (.slice Ao121 t271.length co121 : Value).ownBlock) ∧ some k_ ≠ (.slice Ao124 t274.length co124 : Value).ownBlock) ∧ some k_ ≠ (.slice Ao130 t277.length co130 : Value).ownBlock)) (n := t229.length) (c := co21) ?_).2.2; exact (by (with_reducible repeat (first | apply Kd.R_alloc | apply Kd.R_drewN | apply Kd.R_drew)); exact (Kd.R_mono (Kd.R_far (p := ⟨gb281, 1, none⟩) (Kd.R_far (p := ⟨gb281, 0, none⟩) (Kd.R_types HO_237000.out BK281.out (by decide)) (fun _ hk => hk.2) (.slice Ao124 t274.length co124)) (fun _ hk => hk.2) (.slice Ao130 t277.length co130)) (fun _ h_ => h_.1)))); (case side6 => exact (Kd.R_reads' HO_237000.out).2.1); (case side7 => refine (Kd.R_reads' (e := 58) (base := w.heap.size) (ok := fun k_ => (((((some k_ ≠ (.slice Ao21 t229.length co21 : Value).ownBlock ∧ (some k_ ≠ (.slice Ao28 t261.length co28 : Value).ownBlock ∧ (some k_ ≠ (.slice Ao32 t262.length co32 : Value).ownBlock ∧ (some k_ ≠ (.slice Ao35 t244.length co35 : Value).ownBlock ∧ some k_ ≠ (.slice Ao40 t247.length co40 : Value).ownBlock)))) ∧ some k_ ≠ (.slice Ao120 t268.length co120 : Value).ownBlock) ∧ some k_ ≠ (.slice Ao121 t271.length co121 : Value).ownBlock) ∧ some k_ ≠ (.slice Ao124 t274.length co124 : Value).ownBlock) ∧ some k_ ≠ (.slice Ao130 t277.length co130 : Value).ownBlock)) (n := t232.length) (c := co24) ?_).2.2; exact (by (with_reducible repeat (first | apply Kd.R_alloc | apply Kd.R_drewN | apply Kd.R_drew)); exact (Kd.R_mono (Kd.R_far (p := ⟨gb281, 1, none⟩) (Kd.R_far (p := ⟨gb281, 0, none⟩) (Kd.R_types HO_237001.out BK281.out (by decide)) (fun _ hk => hk.2) (.slice Ao124 t274.length co124)) (fun _ hk => hk.2) (.slice Ao130 t277.length co130)) (fun _ h_ => h_.1)))); (case side8 => exact (Kd.R_reads' HO_237001.out).2.1); rintro e w142 ⟨rfl, hb⟩; refine ⟨_, rfl, ?_⟩; replace HO_237000 := Aside0.mk (Kd.R_below (by (with_reducible repeat (first | apply Kd.R_alloc | apply Kd.R_drewN | apply Kd.R_drew)); exact (Kd.R_mono (Kd.R_far (p := ⟨gb281, 1, none⟩) (Kd.R_far (p := ⟨gb281, 0, none⟩) (Kd.R_types HO_237000.out BK281.out (by decide)) (fun _ hk => hk.2) (.slice Ao124 t274.length co124)) (fun _ hk => hk.2) (.slice Ao130 t277.length co130)) (fun _ h_ => h_.1))) hb); replace HO_237001 := Aside0.mk (Kd.R_below (by (with_reducible repeat (first | apply Kd.R_alloc | apply Kd.R_drewN | apply Kd.R_drew)); exact (Kd.R_mono (Kd.R_far (p := ⟨gb281, 1, none⟩) (Kd.R_far (p := ⟨gb281, 0, none⟩) (Kd.R_types HO_237001.out BK281.out (by decide)) (fun _ hk => hk.2) (.slice Ao124 t274.length co124)) (fun _ hk => hk.2) (.slice Ao130 t277.length co130)) (fun _ h_ => h_.1))) hb); replace HO_244000 := Aside0.mk (Kd.R_below (by (with_reducible repeat (first | apply Kd.R_alloc | apply Kd.R_drewN | apply Kd.R_drew)); exact (Kd.R_mono (Kd.R_far (p := ⟨gb281, 1, none⟩) (Kd.R_far (p := ⟨gb281, 0, none⟩) (Kd.R_types HO_244000.out BK281.out (by decide)) (fun _ hk => hk.2) (.slice Ao124 t274.length co124)) (fun _ hk => hk.2) (.slice Ao130 t277.length co130)) (fun _ h_ => h_.1))) hb); replace HO_244001 := Aside0.mk (Kd.R_below (by (with_reducible repeat (first | apply Kd.R_alloc | apply Kd.R_drewN | apply Kd.R_drew)); exact (Kd.R_mono (Kd.R_far (p := ⟨gb281, 1, none⟩) (Kd.R_far (p := ⟨gb281, 0, none⟩) (Kd.R_types HO_244001.out BK281.out (by decide)) (fun _ hk => hk.2) (.slice Ao124 t274.length co124)) (fun _ hk => hk.2) (.slice Ao130 t277.length co130)) (fun _ h_ => h_.1))) hb); replace HO_252000 := Aside0.mk (Kd.R_below (by (with_reducible repeat (first | apply Kd.R_alloc | apply Kd.R_drewN | apply Kd.R_drew)); exact (Kd.R_mono (Kd.R_far (p := ⟨gb281, 1, none⟩) (Kd.R_far (p := ⟨gb281, 0, none⟩) (Kd.R_types HO_252000.out BK281.out (by decide)) (fun _ hk => hk.2) (.slice Ao124 t274.length co124)) (fun _ hk => hk.2) (.slice Ao130 t277.length co130)) (fun _ h_ => h_.1))) hb); replace HO_252001 := Aside0.mk (Kd.R_below (by (with_reducible repeat (first | apply Kd.R_alloc | apply Kd.R_drewN | apply Kd.R_drew)); exact (Kd.R_mono (Kd.R_far (p := ⟨gb281, 1, none⟩) (Kd.R_far (p := ⟨gb281, 0, none⟩) (Kd.R_types HO_252001.out BK281.out (by decide)) (fun _ hk => hk.2) (.slice Ao124 t274.length co124)) (fun _ hk => hk.2) (.slice Ao130 t277.length co130)) (fun _ h_ => h_.1))) hb); replace HO270 := Aside0.mk (Kd.R_below (by (with_reducible repeat (first | apply Kd.R_alloc | apply Kd.R_drewN | apply Kd.R_drew)); exact (Kd.R_mono (Kd.R_far (p := ⟨gb281, 1, none⟩) (Kd.R_far (p := ⟨gb281, 0, none⟩) (Kd.R_types HO270.out BK281.out (by decide)) (fun _ hk => hk.2) (.slice Ao124 t274.length co124)) (fun _ hk => hk.2) (.slice Ao130 t277.length co130)) (fun _ h_ => h_.1))) hb); replace HO273 := Aside0.mk (Kd.R_below (by (with_reducible repeat (first | apply Kd.R_alloc | apply Kd.R_drewN | apply Kd.R_drew)); exact (Kd.R_mono (Kd.R_far (p := ⟨gb281, 1, none⟩) (Kd.R_far (p := ⟨gb281, 0, none⟩) (Kd.R_types HO273.out BK281.out (by decide)) (fun _ hk => hk.2) (.slice Ao124 t274.length co124)) (fun _ hk => hk.2) (.slice Ao130 t277.length co130)) (fun _ h_ => h_.1))) hb); replace HO276 := Aside0.mk (Kd.R_below (by (with_reducible repeat (first | apply Kd.R_alloc | apply Kd.R_drewN | apply Kd.R_drew)); exact (Kd.R_mono (Kd.R_far (p := ⟨gb281, 1, none⟩) (Kd.R_far (p := ⟨gb281, 0, none⟩) (Kd.R_types HO276.out BK281.out (by decide)) (fun _ hk => hk.2) (.slice Ao124 t274.length co124)) (fun _ hk => hk.2) (.slice Ao130 t277.length co130)) (fun _ h_ => h_.1))) hb); replace HO279 := Aside0.mk (Kd.R_below (by (with_reducible repeat (first | apply Kd.R_alloc | apply Kd.R_drewN | apply Kd.R_drew)); exact (Kd.R_mono (Kd.R_far (p := ⟨gb281, 1, none⟩) (Kd.R_far (p := ⟨gb281, 0, none⟩) (Kd.R_types HO279.out BK281.out (by decide)) (fun _ hk => hk.2) (.slice Ao124 t274.length co124)) (fun _ hk => hk.2) (.slice Ao130 t277.length co130)) (fun _ h_ => h_.1))) hb); replace BK221 := Aside0.mk (blk_below (g := gb221) (o := .cells #[.slice A0_0 l0_0.length c0_0, .slice A0_1 l0_1.length c0_1] 24 (0, 0)) (by (with_reducible repeat (first | refine blk_drewN ?_ _ | refine blk_drew ?_ | refine blk_alloc ?_ _)); refine blk_far ?_ NB221_281.out _; (with_reducible repeat (first | refine blk_drewN ?_ _ | refine blk_drew ?_ | refine blk_alloc ?_ _)); refine blk_far ?_ NB221_281.out _; (with_reducible repeat (first | refine blk_drewN ?_ _ | refine blk_drew ?_ | refine blk_alloc ?_ _)); exact BK221.out) hb); replace BK236 := Aside0.mk (blk_below (g := gb236) (o := .cells #[.slice Ao21 t229.length co21, .slice Ao24 t232.length co24] 27 (0, 0)) (by (with_reducible repeat (first | refine blk_drewN ?_ _ | refine blk_drew ?_ | refine blk_alloc ?_ _)); refine blk_far ?_ NB236_281.out _; (with_reducible repeat (first | refine blk_drewN ?_ _ | refine blk_drew ?_ | refine blk_alloc ?_ _)); refine blk_far ?_ NB236_281.out _; (with_reducible repeat (first | refine blk_drewN ?_ _ | refine blk_drew ?_ | refine blk_alloc ?_ _)); exact BK236.out) hb); replace BK243 := Aside0.mk (blk_below (g := gb243) (o := .cells #[.slice Ao28 t261.length co28, .slice Ao32 t262.length co32] 27 (0, 0)) (by (with_reducible repeat (first | refine blk_drewN ?_ _ | refine blk_drew ?_ | refine blk_alloc ?_ _)); refine blk_far ?_ NB243_281.out _; (with_reducible repeat (first | refine blk_drewN ?_ _ | refine blk_drew ?_ | refine blk_alloc ?_ _)); refine blk_far ?_ NB243_281.out _; (with_reducible repeat (first | refine blk_drewN ?_ _ | refine blk_drew ?_ | refine blk_alloc ?_ _)); exact BK243.out) hb); replace BK251 := Aside0.mk (blk_below (g := gb251) (o := .cells #[.slice Ao35 t244.length co35, .slice Ao40 t247.length co40] 27 (0, 0)) (by (with_reducible repeat (first | refine blk_drewN ?_ _ | refine blk_drew ?_ | refine blk_alloc ?_ _)); refine blk_far ?_ NB251_281.out _; (with_reducible repeat (first | refine blk_drewN ?_ _ | refine blk_drew ?_ | refine blk_alloc ?_ _)); refine blk_far ?_ NB251_281.out _; (with_reducible repeat (first | refine blk_drewN ?_ _ | refine blk_drew ?_ | refine blk_alloc ?_ _)); exact BK251.out) hb); replace BK281 := Aside0.mk (blk_below (g := gb281) (o := .cells #[.slice Ao124 t274.length co124, .slice Ao130 t277.length co130] 27 (0, 0)) (by (with_reducible repeat (first | refine blk_drewN ?_ _ | refine blk_drew ?_ | refine blk_alloc ?_ _)); refine blk_put (cs := #[.slice Ao124 t274.length co124, .slice none 0 0]) ?_ 1 _ rfl; (with_reducible repeat (first | refine blk_drewN ?_ _ | refine blk_drew ?_ | refine blk_alloc ?_ _)); refine blk_put (cs := #[.slice none 0 0, .slice none 0 0]) ?_ 0 _ rfl; (with_reducible repeat (first | refine blk_drewN ?_ _ | refine blk_drew ?_ | refine blk_alloc ?_ _)); exact BK281.out) hb); replace HB := Aside0.mk (below_step (tB HB.out) hb); (try clear hb); (try clear hb2); (try clear hk); (try clear hi)))
             go_meet
             case rel => exact ⟨_, ((t280 != t235)), (by first | rfl | (simp; done) | (simp [wrap64]; done) | (simp [*]; done)), H', ⟨by have := HJ10.out; have := HJ63.out; first | omega | exact Nat.le_refl _⟩, ⟨by (try simp only [hl244000_63]); (try simp only [hl244001_63]); (with_reducible repeat (first | apply Kd.R_alloc | apply Kd.R_drewN | apply Kd.R_drew)); exact Kd.R_mono HO_237000.out (fun _ hk => ⟨hk.1.1.1.1.1, ⟨hk.1.1.1.1.2.1, ⟨hk.1.1.1.1.2.2.1, ⟨hk.1.1.1.1.2.2.2.1, ⟨hk.1.1.1.1.2.2.2.2, ⟨hk.1.2, hk.2⟩⟩⟩⟩⟩⟩)⟩, ⟨by (try simp only [hl244000_63]); (try simp only [hl244001_63]); (with_reducible repeat (first | apply Kd.R_alloc | apply Kd.R_drewN | apply Kd.R_drew)); exact Kd.R_mono HO_237001.out (fun _ hk => ⟨hk.1.1.1.1.1, ⟨hk.1.1.1.1.2.1, ⟨hk.1.1.1.1.2.2.1, ⟨hk.1.1.1.1.2.2.2.1, ⟨hk.1.1.1.1.2.2.2.2, ⟨hk.1.2, hk.2⟩⟩⟩⟩⟩⟩)⟩, ⟨by (try simp only [hl244000_63]); (try simp only [hl244001_63]); (with_reducible repeat (first | apply Kd.R_alloc | apply Kd.R_drewN | apply Kd.R_drew)); exact Kd.R_mono HO_244000.out (fun _ hk => ⟨hk.1.1.1.1.1, ⟨hk.1.1.1.1.2.1, ⟨hk.1.1.1.1.2.2.1, ⟨hk.1.1.1.1.2.2.2.1, ⟨hk.1.1.1.1.2.2.2.2, ⟨hk.1.2, hk.2⟩⟩⟩⟩⟩⟩)⟩, ⟨by (try simp only [hl244000_63]); (try simp only [hl244001_63]); (with_reducible repeat (first | apply Kd.R_alloc | apply Kd.R_drewN | apply Kd.R_drew)); exact Kd.R_mono HO_244001.out (fun _ hk => ⟨hk.1.1.1.1.1, ⟨hk.1.1.1.1.2.1, ⟨hk.1.1.1.1.2.2.1, ⟨hk.1.1.1.1.2.2.2.1, ⟨hk.1.1.1.1.2.2.2.2, ⟨hk.1.2, hk.2⟩⟩⟩⟩⟩⟩)⟩, ⟨by (try simp only [hl244000_63]); (try simp only [hl244001_63]); (with_reducible repeat (first | apply Kd.R_alloc | apply Kd.R_drewN | apply Kd.R_drew)); exact Kd.R_mono HO_252000.out (fun _ hk => ⟨hk.1.1.1.1.1, ⟨hk.1.1.1.1.2.1, ⟨hk.1.1.1.1.2.2.1, ⟨hk.1.1.1.1.2.2.2.1, ⟨hk.1.1.1.1.2.2.2.2, ⟨hk.1.2, hk.2⟩⟩⟩⟩⟩⟩)⟩, ⟨by (try simp only [hl244000_63]); (try simp only [hl244001_63]); (with_reducible repeat (first | apply Kd.R_alloc | apply Kd.R_drewN | apply Kd.R_drew)); exact Kd.R_mono HO_252001.out (fun _ hk => ⟨hk.1.1.1.1.1, ⟨hk.1.1.1.1.2.1, ⟨hk.1.1.1.1.2.2.1, ⟨hk.1.1.1.1.2.2.2.1, ⟨hk.1.1.1.1.2.2.2.2, ⟨hk.1.2, hk.2⟩⟩⟩⟩⟩⟩)⟩, ⟨by (try simp only [hl244000_63]); (try simp only [hl244001_63]); (with_reducible repeat (first | apply Kd.R_alloc | apply Kd.R_drewN | apply Kd.R_drew)); exact Kd.R_mono HO276.out (fun _ hk => ⟨hk.1.1.1.1.1.1.1.2, ⟨hk.1.1.1.1.1.1.2, ⟨hk.1.1.1.1.1.2, ⟨hk.1.1.1.1.2, ⟨hk.1.1.1.2, ⟨hk.1.1.2, hk.1.1.1.1.1.1.1.1⟩⟩⟩⟩⟩⟩)⟩, ⟨by (try simp only [hl244000_63]); (try simp only [hl244001_63]); (with_reducible repeat (first | apply Kd.R_alloc | apply Kd.R_drewN | apply Kd.R_drew)); exact Kd.R_mono HO279.out (fun _ hk => ⟨hk.1.1.1.1.1.1.1.2, ⟨hk.1.1.1.1.1.1.2, ⟨hk.1.1.1.1.1.2, ⟨hk.1.1.1.1.2, ⟨hk.1.1.1.2, ⟨hk.1.1.2, hk.1.1.1.1.1.1.1.1⟩⟩⟩⟩⟩⟩)⟩, ⟨by (try simp only [hl244000_63]); (try simp only [hl244001_63]); (with_reducible repeat (first | refine blk_drewN ?_ _ | refine blk_drew ?_ | refine blk_alloc ?_ _)); exact BK221.out⟩, ⟨by (try simp only [hl244000_63]); (try simp only [hl244001_63]); (with_reducible repeat (first | refine blk_drewN ?_ _ | refine blk_drew ?_ | refine blk_alloc ?_ _)); exact BK236.out⟩, ⟨by (try simp only [hl244000_63]); (try simp only [hl244001_63]); (with_reducible repeat (first | refine blk_drewN ?_ _ | refine blk_drew ?_ | refine blk_alloc ?_ _)); exact BK243.out⟩, ⟨by (try simp only [hl244000_63]); (try simp only [hl244001_63]); (with_reducible repeat (first | refine blk_drewN ?_ _ | refine blk_drew ?_ | refine blk_alloc ?_ _)); exact BK251.out⟩, ⟨by (try simp only [hl244000_63]); (try simp only [hl244001_63]); (with_reducible repeat (first | refine blk_drewN ?_ _ | refine blk_drew ?_ | refine blk_alloc ?_ _)); exact BK281.out⟩, ⟨tB HB.out⟩⟩
            ·
             replace c132 := Bool.eq_false_iff.mpr c132
             subst c132
             have H1 : (laws_FnExactMirrorMobile.j2 kj63 t264 true t265 t266) = some r := by rw [if_neg (show ¬ (false = true) by decide)] at H; exact H
             clear H
             have H := H1
             clear H1
             have H' := Aside0.mk H
             clear H
             have hnb143 := NB281_221.out
             have hnc143 := NB221_281.out
             have hnb144 := NB281_236.out
             have hnc144 := NB236_281.out
             have hnb145 := NB281_243.out
             have hnc145 := NB243_281.out
             have hnb146 := NB281_251.out
             have hnc146 := NB251_281.out
             obtain ⟨hcz147_0, hfz147_0, hcz147_1, hfz147_1⟩ := cz2 BK281
             have hnb148 := NB236_221.out
             have hnc148 := NB221_236.out
             have hnb149 := NB236_243.out
             have hnc149 := NB243_236.out
             have hnb150 := NB236_251.out
             have hnc150 := NB251_236.out
             obtain ⟨hcz151_0, hfz151_0, hcz151_1, hfz151_1⟩ := cz2 BK236
             go_wp2_with (first | ((with_reducible refine gate_callee (f := 19) rfl ?_); refine goesL_ (some 81) rfl rfl Try.func19 (by kernel_rfl) rfl #[.agg #[.slice Ao124 t274.length co124, .slice Ao130 t277.length co130], .agg #[.slice Ao21 t229.length co21, .slice Ao24 t232.length co24]] rfl tM ?_; (with_reducible refine (laws_eqMobile.calls kj63 _ _ t274 _ _ t277 _ _ t229 _ _ t232 false _ ?side1 ?side2 ?side3 ?side4 ?side5 ?side6 ?side7 ?side8 A131.out).mono ?_); (case side1 => refine (Kd.R_reads' (e := 58) (base := w.heap.size) (ok := fun k_ => ((((((((some k_ ≠ (.slice Ao130 t277.length co130 : Value).ownBlock ∧ some k_ ≠ (.slice Ao21 t229.length co21 : Value).ownBlock) ∧ some k_ ≠ (.slice Ao24 t232.length co24 : Value).ownBlock) ∧ some k_ ≠ (.slice Ao28 t261.length co28 : Value).ownBlock) ∧ some k_ ≠ (.slice Ao32 t262.length co32 : Value).ownBlock) ∧ some k_ ≠ (.slice Ao35 t244.length co35 : Value).ownBlock) ∧ some k_ ≠ (.slice Ao40 t247.length co40 : Value).ownBlock) ∧ some k_ ≠ (.slice Ao120 t268.length co120 : Value).ownBlock) ∧ some k_ ≠ (.slice Ao121 t271.length co121 : Value).ownBlock)) (n := t274.length) (c := co124) ?_).2.2; exact (by (with_reducible repeat (first | apply Kd.R_alloc | apply Kd.R_drewN | apply Kd.R_drew)); exact (Kd.R_mono (Kd.R_far (p := ⟨gb281, 1, none⟩) (Kd.R_far (p := ⟨gb281, 0, none⟩) (Kd.R_types HO276.out BK281.out (by decide)) (fun _ hk => hk.2) (.slice Ao124 t274.length co124)) (fun _ hk => hk.2) (.slice Ao130 t277.length co130)) (fun _ h_ => h_.1)))); (case side2 => exact (Kd.R_reads' HO276.out).2.1); (case side3 => refine (Kd.R_reads' (e := 58) (base := w.heap.size) (ok := fun k_ => ((((((((some k_ ≠ (.slice Ao124 t274.length co124 : Value).ownBlock ∧ some k_ ≠ (.slice Ao21 t229.length co21 : Value).ownBlock) ∧ some k_ ≠ (.slice Ao24 t232.length co24 : Value).ownBlock) ∧ some k_ ≠ (.slice Ao28 t261.length co28 : Value).ownBlock) ∧ some k_ ≠ (.slice Ao32 t262.length co32 : Value).ownBlock) ∧ some k_ ≠ (.slice Ao35 t244.length co35 : Value).ownBlock) ∧ some k_ ≠ (.slice Ao40 t247.length co40 : Value).ownBlock) ∧ some k_ ≠ (.slice Ao120 t268.length co120 : Value).ownBlock) ∧ some k_ ≠ (.slice Ao121 t271.length co121 : Value).ownBlock)) (n := t277.length) (c := co130) ?_).2.2; exact (by (with_reducible repeat (first | apply Kd.R_alloc | apply Kd.R_drewN | apply Kd.R_drew)); exact (Kd.R_mono (Kd.R_far (p := ⟨gb281, 1, none⟩) (Kd.R_far (p := ⟨gb281, 0, none⟩) (Kd.R_types HO279.out BK281.out (by decide)) (fun _ hk => hk.2) (.slice Ao124 t274.length co124)) (fun _ hk => hk.2) (.slice Ao130 t277.length co130)) (fun _ h_ => h_.1)))); (case side4 => exact (Kd.R_reads' HO279.out).2.1); (case side5 => refine (Kd.R_reads' (e := 58) (base := w.heap.size) (ok := fun k_ => (((((some k_ ≠ (.slice Ao24 t232.length co24 : Value).ownBlock ∧ (some k_ ≠ (.slice Ao28 t261.length co28 : Value).ownBlock ∧ (some k_ ≠ (.slice Ao32 t262.length co32 : Value).ownBlock ∧ (some k_ ≠ (.slice Ao35 t244.length co35 : Value).ownBlock ∧ some k_ ≠ (.slice Ao40 t247.length co40 : Value).ownBlock)))) ∧ some k_ ≠ (.slice Ao120 t268.length co120 : Value).ownBlock) ∧ some k_ ≠ (.slice Ao121 t271.length co121 : Value).ownBlock) ∧ some k_ ≠ (.slice Ao124 t274.length co124 : Value).ownBlock) ∧ some k_ ≠ (.slice Ao130 t277.length co130 : Value).ownBlock)) (n := t229.length) (c := co21) ?_).2.2; exact (by (with_reducible repeat (first | apply Kd.R_alloc | apply Kd.R_drewN | apply Kd.R_drew)); exact (Kd.R_mono (Kd.R_far (p := ⟨gb281, 1, none⟩) (Kd.R_far (p := ⟨gb281, 0, none⟩) (Kd.R_types HO_237000.out BK281.out (by decide)) (fun _ hk => hk.2) (.slice Ao124 t274.length co124)) (fun _ hk => hk.2) (.slice Ao130 t277.length co130)) (fun _ h_ => h_.1)))); (case side6 => exact (Kd.R_reads' HO_237000.out).2.1); (case side7 => refine (Kd.R_reads' (e := 58) (base := w.heap.size) (ok := fun k_ => (((((some k_ ≠ (.slice Ao21 t229.length co21 : Value).ownBlock ∧ (some k_ ≠ (.slice Ao28 t261.length co28 : Value).ownBlock ∧ (some k_ ≠ (.slice Ao32 t262.length co32 : Value).ownBlock ∧ (some k_ ≠ (.slice Ao35 t244.length co35 : Value).ownBlock ∧ some k_ ≠ (.slice Ao40 t247.length co40 : Value).ownBlock)))) ∧ some k_ ≠ (.slice Ao120 t268.length co120 : Value).ownBlock) ∧ some k_ ≠ (.slice Ao121 t271.length co121 : Value).ownBlock) ∧ some k_ ≠ (.slice Ao124 t274.length co124 : Value).ownBlock) ∧ some k_ ≠ (.slice Ao130 t277.length co130 : Value).ownBlock)) (n := t232.length) (c := co24) ?_).2.2; exact (by (with_reducible repeat (first | apply Kd.R_alloc | apply Kd.R_drewN | apply Kd.R_drew)); exact (Kd.R_mono (Kd.R_far (p := ⟨gb281, 1, none⟩) (Kd.R_far (p := ⟨gb281, 0, none⟩) (Kd.R_types HO_237001.out BK281.out (by decide)) (fun _ hk => hk.2) (.slice Ao124 t274.length co124)) (fun _ hk => hk.2) (.slice Ao130 t277.length co130)) (fun _ h_ => h_.1)))); (case side8 => exact (Kd.R_reads' HO_237001.out).2.1); rintro e w152 ⟨rfl, hb⟩; refine ⟨_, rfl, ?_⟩; replace HO_237000 := Aside0.mk (Kd.R_below (by (with_reducible repeat (first | apply Kd.R_alloc | apply Kd.R_drewN | apply Kd.R_drew)); exact (Kd.R_mono (Kd.R_far (p := ⟨gb281, 1, none⟩) (Kd.R_far (p := ⟨gb281, 0, none⟩) (Kd.R_types HO_237000.out BK281.out (by decide)) (fun _ hk => hk.2) (.slice Ao124 t274.length co124)) (fun _ hk => hk.2) (.slice Ao130 t277.length co130)) (fun _ h_ => h_.1))) hb); replace HO_237001 := Aside0.mk (Kd.R_below (by (with_reducible repeat (first | apply Kd.R_alloc | apply Kd.R_drewN | apply Kd.R_drew)); exact (Kd.R_mono (Kd.R_far (p := ⟨gb281, 1, none⟩) (Kd.R_far (p := ⟨gb281, 0, none⟩) (Kd.R_types HO_237001.out BK281.out (by decide)) (fun _ hk => hk.2) (.slice Ao124 t274.length co124)) (fun _ hk => hk.2) (.slice Ao130 t277.length co130)) (fun _ h_ => h_.1))) hb); replace HO_244000 := Aside0.mk (Kd.R_below (by (with_reducible repeat (first | apply Kd.R_alloc | apply Kd.R_drewN | apply Kd.R_drew)); exact (Kd.R_mono (Kd.R_far (p := ⟨gb281, 1, none⟩) (Kd.R_far (p := ⟨gb281, 0, none⟩) (Kd.R_types HO_244000.out BK281.out (by decide)) (fun _ hk => hk.2) (.slice Ao124 t274.length co124)) (fun _ hk => hk.2) (.slice Ao130 t277.length co130)) (fun _ h_ => h_.1))) hb); replace HO_244001 := Aside0.mk (Kd.R_below (by (with_reducible repeat (first | apply Kd.R_alloc | apply Kd.R_drewN | apply Kd.R_drew)); exact (Kd.R_mono (Kd.R_far (p := ⟨gb281, 1, none⟩) (Kd.R_far (p := ⟨gb281, 0, none⟩) (Kd.R_types HO_244001.out BK281.out (by decide)) (fun _ hk => hk.2) (.slice Ao124 t274.length co124)) (fun _ hk => hk.2) (.slice Ao130 t277.length co130)) (fun _ h_ => h_.1))) hb); replace HO_252000 := Aside0.mk (Kd.R_below (by (with_reducible repeat (first | apply Kd.R_alloc | apply Kd.R_drewN | apply Kd.R_drew)); exact (Kd.R_mono (Kd.R_far (p := ⟨gb281, 1, none⟩) (Kd.R_far (p := ⟨gb281, 0, none⟩) (Kd.R_types HO_252000.out BK281.out (by decide)) (fun _ hk => hk.2) (.slice Ao124 t274.length co124)) (fun _ hk => hk.2) (.slice Ao130 t277.length co130)) (fun _ h_ => h_.1))) hb); replace HO_252001 := Aside0.mk (Kd.R_below (by (with_reducible repeat (first | apply Kd.R_alloc | apply Kd.R_drewN | apply Kd.R_drew)); exact (Kd.R_mono (Kd.R_far (p := ⟨gb281, 1, none⟩) (Kd.R_far (p := ⟨gb281, 0, none⟩) (Kd.R_types HO_252001.out BK281.out (by decide)) (fun _ hk => hk.2) (.slice Ao124 t274.length co124)) (fun _ hk => hk.2) (.slice Ao130 t277.length co130)) (fun _ h_ => h_.1))) hb); replace HO270 := Aside0.mk (Kd.R_below (by (with_reducible repeat (first | apply Kd.R_alloc | apply Kd.R_drewN | apply Kd.R_drew)); exact (Kd.R_mono (Kd.R_far (p := ⟨gb281, 1, none⟩) (Kd.R_far (p := ⟨gb281, 0, none⟩) (Kd.R_types HO270.out BK281.out (by decide)) (fun _ hk => hk.2) (.slice Ao124 t274.length co124)) (fun _ hk => hk.2) (.slice Ao130 t277.length co130)) (fun _ h_ => h_.1))) hb); replace HO273 := Aside0.mk (Kd.R_below (by (with_reducible repeat (first | apply Kd.R_alloc | apply Kd.R_drewN | apply Kd.R_drew)); exact (Kd.R_mono (Kd.R_far (p := ⟨gb281, 1, none⟩) (Kd.R_far (p := ⟨gb281, 0, none⟩) (Kd.R_types HO273.out BK281.out (by decide)) (fun _ hk => hk.2) (.slice Ao124 t274.length co124)) (fun _ hk => hk.2) (.slice Ao130 t277.length co130)) (fun _ h_ => h_.1))) hb); replace HO276 := Aside0.mk (Kd.R_below (by (with_reducible repeat (first | apply Kd.R_alloc | apply Kd.R_drewN | apply Kd.R_drew)); exact (Kd.R_mono (Kd.R_far (p := ⟨gb281, 1, none⟩) (Kd.R_far (p := ⟨gb281, 0, none⟩) (Kd.R_types HO276.out BK281.out (by decide)) (fun _ hk => hk.2) (.slice Ao124 t274.length co124)) (fun _ hk => hk.2) (.slice Ao130 t277.length co130)) (fun _ h_ => h_.1))) hb); replace HO279 := Aside0.mk (Kd.R_below (by (with_reducible repeat (first | apply Kd.R_alloc | apply Kd.R_drewN | apply Kd.R_drew)); exact (Kd.R_mono (Kd.R_far (p := ⟨gb281, 1, none⟩) (Kd.R_far (p := ⟨gb281, 0, none⟩) (Kd.R_types HO279.out BK281.out (by decide)) (fun _ hk => hk.2) (.slice Ao124 t274.length co124)) (fun _ hk => hk.2) (.slice Ao130 t277.length co130)) (fun _ h_ => h_.1))) hb); replace BK221 := Aside0.mk (blk_below (g := gb221) (o := .cells #[.slice A0_0 l0_0.length c0_0, .slice A0_1 l0_1.length c0_1] 24 (0, 0)) (by (with_reducible repeat (first | refine blk_drewN ?_ _ | refine blk_drew ?_ | refine blk_alloc ?_ _)); refine blk_far ?_ NB221_281.out _; (with_reducible repeat (first | refine blk_drewN ?_ _ | refine blk_drew ?_ | refine blk_alloc ?_ _)); refine blk_far ?_ NB221_281.out _; (with_reducible repeat (first | refine blk_drewN ?_ _ | refine blk_drew ?_ | refine blk_alloc ?_ _)); exact BK221.out) hb); replace BK236 := Aside0.mk (blk_below (g := gb236) (o := .cells #[.slice Ao21 t229.length co21, .slice Ao24 t232.length co24] 27 (0, 0)) (by (with_reducible repeat (first | refine blk_drewN ?_ _ | refine blk_drew ?_ | refine blk_alloc ?_ _)); refine blk_far ?_ NB236_281.out _; (with_reducible repeat (first | refine blk_drewN ?_ _ | refine blk_drew ?_ | refine blk_alloc ?_ _)); refine blk_far ?_ NB236_281.out _; (with_reducible repeat (first | refine blk_drewN ?_ _ | refine blk_drew ?_ | refine blk_alloc ?_ _)); exact BK236.out) hb); replace BK243 := Aside0.mk (blk_below (g := gb243) (o := .cells #[.slice Ao28 t261.length co28, .slice Ao32 t262.length co32] 27 (0, 0)) (by (with_reducible repeat (first | refine blk_drewN ?_ _ | refine blk_drew ?_ | refine blk_alloc ?_ _)); refine blk_far ?_ NB243_281.out _; (with_reducible repeat (first | refine blk_drewN ?_ _ | refine blk_drew ?_ | refine blk_alloc ?_ _)); refine blk_far ?_ NB243_281.out _; (with_reducible repeat (first | refine blk_drewN ?_ _ | refine blk_drew ?_ | refine blk_alloc ?_ _)); exact BK243.out) hb); replace BK251 := Aside0.mk (blk_below (g := gb251) (o := .cells #[.slice Ao35 t244.length co35, .slice Ao40 t247.length co40] 27 (0, 0)) (by (with_reducible repeat (first | refine blk_drewN ?_ _ | refine blk_drew ?_ | refine blk_alloc ?_ _)); refine blk_far ?_ NB251_281.out _; (with_reducible repeat (first | refine blk_drewN ?_ _ | refine blk_drew ?_ | refine blk_alloc ?_ _)); refine blk_far ?_ NB251_281.out _; (with_reducible repeat (first | refine blk_drewN ?_ _ | refine blk_drew ?_ | refine blk_alloc ?_ _)); exact BK251.out) hb); replace BK281 := Aside0.mk (blk_below (g := gb281) (o := .cells #[.slice Ao124 t274.length co124, .slice Ao130 t277.length co130] 27 (0, 0)) (by (with_reducible repeat (first | refine blk_drewN ?_ _ | refine blk_drew ?_ | refine blk_alloc ?_ _)); refine blk_put (cs := #[.slice Ao124 t274.length co124, .slice none 0 0]) ?_ 1 _ rfl; (with_reducible repeat (first | refine blk_drewN ?_ _ | refine blk_drew ?_ | refine blk_alloc ?_ _)); refine blk_put (cs := #[.slice none 0 0, .slice none 0 0]) ?_ 0 _ rfl; (with_reducible repeat (first | refine blk_drewN ?_ _ | refine blk_drew ?_ | refine blk_alloc ?_ _)); exact BK281.out) hb); replace HB := Aside0.mk (below_step (tB HB.out) hb); (try clear hb); (try clear hb2); (try clear hk); (try clear hi)))
             go_meet
             case rel => exact ⟨_, (true), (by first | rfl | (simp; done) | (simp [wrap64]; done) | (simp [*]; done)), H', ⟨by have := HJ10.out; have := HJ63.out; first | omega | exact Nat.le_refl _⟩, ⟨by (try simp only [hl244000_63]); (try simp only [hl244001_63]); (with_reducible repeat (first | apply Kd.R_alloc | apply Kd.R_drewN | apply Kd.R_drew)); exact Kd.R_mono HO_237000.out (fun _ hk => ⟨hk.1.1.1.1.1, ⟨hk.1.1.1.1.2.1, ⟨hk.1.1.1.1.2.2.1, ⟨hk.1.1.1.1.2.2.2.1, ⟨hk.1.1.1.1.2.2.2.2, ⟨hk.1.2, hk.2⟩⟩⟩⟩⟩⟩)⟩, ⟨by (try simp only [hl244000_63]); (try simp only [hl244001_63]); (with_reducible repeat (first | apply Kd.R_alloc | apply Kd.R_drewN | apply Kd.R_drew)); exact Kd.R_mono HO_237001.out (fun _ hk => ⟨hk.1.1.1.1.1, ⟨hk.1.1.1.1.2.1, ⟨hk.1.1.1.1.2.2.1, ⟨hk.1.1.1.1.2.2.2.1, ⟨hk.1.1.1.1.2.2.2.2, ⟨hk.1.2, hk.2⟩⟩⟩⟩⟩⟩)⟩, ⟨by (try simp only [hl244000_63]); (try simp only [hl244001_63]); (with_reducible repeat (first | apply Kd.R_alloc | apply Kd.R_drewN | apply Kd.R_drew)); exact Kd.R_mono HO_244000.out (fun _ hk => ⟨hk.1.1.1.1.1, ⟨hk.1.1.1.1.2.1, ⟨hk.1.1.1.1.2.2.1, ⟨hk.1.1.1.1.2.2.2.1, ⟨hk.1.1.1.1.2.2.2.2, ⟨hk.1.2, hk.2⟩⟩⟩⟩⟩⟩)⟩, ⟨by (try simp only [hl244000_63]); (try simp only [hl244001_63]); (with_reducible repeat (first | apply Kd.R_alloc | apply Kd.R_drewN | apply Kd.R_drew)); exact Kd.R_mono HO_244001.out (fun _ hk => ⟨hk.1.1.1.1.1, ⟨hk.1.1.1.1.2.1, ⟨hk.1.1.1.1.2.2.1, ⟨hk.1.1.1.1.2.2.2.1, ⟨hk.1.1.1.1.2.2.2.2, ⟨hk.1.2, hk.2⟩⟩⟩⟩⟩⟩)⟩, ⟨by (try simp only [hl244000_63]); (try simp only [hl244001_63]); (with_reducible repeat (first | apply Kd.R_alloc | apply Kd.R_drewN | apply Kd.R_drew)); exact Kd.R_mono HO_252000.out (fun _ hk => ⟨hk.1.1.1.1.1, ⟨hk.1.1.1.1.2.1, ⟨hk.1.1.1.1.2.2.1, ⟨hk.1.1.1.1.2.2.2.1, ⟨hk.1.1.1.1.2.2.2.2, ⟨hk.1.2, hk.2⟩⟩⟩⟩⟩⟩)⟩, ⟨by (try simp only [hl244000_63]); (try simp only [hl244001_63]); (with_reducible repeat (first | apply Kd.R_alloc | apply Kd.R_drewN | apply Kd.R_drew)); exact Kd.R_mono HO_252001.out (fun _ hk => ⟨hk.1.1.1.1.1, ⟨hk.1.1.1.1.2.1, ⟨hk.1.1.1.1.2.2.1, ⟨hk.1.1.1.1.2.2.2.1, ⟨hk.1.1.1.1.2.2.2.2, ⟨hk.1.2, hk.2⟩⟩⟩⟩⟩⟩)⟩, ⟨by (try simp only [hl244000_63]); (try simp only [hl244001_63]); (with_reducible repeat (first | apply Kd.R_alloc | apply Kd.R_drewN | apply Kd.R_drew)); exact Kd.R_mono HO276.out (fun _ hk => ⟨hk.1.1.1.1.1.1.1.2, ⟨hk.1.1.1.1.1.1.2, ⟨hk.1.1.1.1.1.2, ⟨hk.1.1.1.1.2, ⟨hk.1.1.1.2, ⟨hk.1.1.2, hk.1.1.1.1.1.1.1.1⟩⟩⟩⟩⟩⟩)⟩, ⟨by (try simp only [hl244000_63]); (try simp only [hl244001_63]); (with_reducible repeat (first | apply Kd.R_alloc | apply Kd.R_drewN | apply Kd.R_drew)); exact Kd.R_mono HO279.out (fun _ hk => ⟨hk.1.1.1.1.1.1.1.2, ⟨hk.1.1.1.1.1.1.2, ⟨hk.1.1.1.1.1.2, ⟨hk.1.1.1.1.2, ⟨hk.1.1.1.2, ⟨hk.1.1.2, hk.1.1.1.1.1.1.1.1⟩⟩⟩⟩⟩⟩)⟩, ⟨by (try simp only [hl244000_63]); (try simp only [hl244001_63]); (with_reducible repeat (first | refine blk_drewN ?_ _ | refine blk_drew ?_ | refine blk_alloc ?_ _)); exact BK221.out⟩, ⟨by (try simp only [hl244000_63]); (try simp only [hl244001_63]); (with_reducible repeat (first | refine blk_drewN ?_ _ | refine blk_drew ?_ | refine blk_alloc ?_ _)); exact BK236.out⟩, ⟨by (try simp only [hl244000_63]); (try simp only [hl244001_63]); (with_reducible repeat (first | refine blk_drewN ?_ _ | refine blk_drew ?_ | refine blk_alloc ?_ _)); exact BK243.out⟩, ⟨by (try simp only [hl244000_63]); (try simp only [hl244001_63]); (with_reducible repeat (first | refine blk_drewN ?_ _ | refine blk_drew ?_ | refine blk_alloc ?_ _)); exact BK251.out⟩, ⟨by (try simp only [hl244000_63]); (try simp only [hl244001_63]); (with_reducible repeat (first | refine blk_drewN ?_ _ | refine blk_drew ?_ | refine blk_alloc ?_ _)); exact BK281.out⟩, ⟨tB HB.out⟩⟩
           case rest =>
            clear HC108
            try clear c1
            try clear c2
            try clear p2
            try clear c3
            try clear c3b0
            try clear c4
            try clear c5
            try clear c6
            try clear p6
            try clear c7
            try clear c8
            try clear c9
            try clear c10
            try clear c11
            try clear c12
            try clear c13
            try clear c14
            try clear c15
            try clear c17
            try clear c19
            try clear c22
            try clear c23
            try clear c24
            try clear c25
            try clear c29
            try clear c30
            try clear c36
            try clear c37
            try clear c38
            try clear c42
            try clear c43
            try clear c44
            try clear c45
            try clear c47
            try clear c48
            try clear c51
            try clear c52
            try clear c53
            try clear c55
            try clear c56
            try clear c59
            try clear c62
            try clear p64
            try clear c70
            try clear c71
            try clear c72
            try clear c75
            try clear c75b0
            try clear c77
            try clear c78
            try clear c79
            try clear c80
            try clear c82
            try clear c83
            try clear c86
            try clear c87
            try clear c88
            try clear c90
            try clear c91
            try clear c94
            try clear c97
            try clear c97b0
            try clear c98
            try clear c99
            try clear c100
            try clear c105
            try clear c105b0
            try clear c105b1
            try clear c109
            try clear c110
            try clear c111
            try clear c116
            try clear c117
            try clear c125
            try clear c126
            try clear c127
            try clear c128
            try clear c132
            try clear c133
            try clear c134
            try clear c135
            try clear c136
            try clear c138
            try clear c139
            try clear c140
            try clear c143
            try clear c144
            try clear c145
            try clear c146
            try clear c148
            try clear c149
            try clear c150
            try clear hcz101_0
            try clear hcz101_1
            try clear hcz103_0
            try clear hcz103_1
            try clear hcz112_0
            try clear hcz112_1
            try clear hcz114_0
            try clear hcz114_1
            try clear hcz118_0
            try clear hcz118_1
            try clear hcz129_0
            try clear hcz129_1
            try clear hcz137_0
            try clear hcz137_1
            try clear hcz13_0
            try clear hcz13_1
            try clear hcz141_0
            try clear hcz141_1
            try clear hcz147_0
            try clear hcz147_1
            try clear hcz151_0
            try clear hcz151_1
            try clear hcz15_0
            try clear hcz15_1
            try clear hcz23_0
            try clear hcz23_1
            try clear hcz25_0
            try clear hcz25_1
            try clear hcz31_0
            try clear hcz31_1
            try clear hcz39_0
            try clear hcz39_1
            try clear hcz46_0
            try clear hcz46_1
            try clear hcz49_0
            try clear hcz49_1
            try clear hcz54_0
            try clear hcz54_1
            try clear hcz57_0
            try clear hcz57_1
            try clear hcz5_0
            try clear hcz5_1
            try clear hcz73_0
            try clear hcz73_1
            try clear hcz81_0
            try clear hcz81_1
            try clear hcz84_0
            try clear hcz84_1
            try clear hcz89_0
            try clear hcz89_1
            try clear hcz92_0
            try clear hcz92_1
            try clear hfz101_0
            try clear hfz101_1
            try clear hfz103_0
            try clear hfz103_1
            try clear hfz112_0
            try clear hfz112_1
            try clear hfz114_0
            try clear hfz114_1
            try clear hfz118_0
            try clear hfz118_1
            try clear hfz129_0
            try clear hfz129_1
            try clear hfz137_0
            try clear hfz137_1
            try clear hfz13_0
            try clear hfz13_1
            try clear hfz141_0
            try clear hfz141_1
            try clear hfz147_0
            try clear hfz147_1
            try clear hfz151_0
            try clear hfz151_1
            try clear hfz15_0
            try clear hfz15_1
            try clear hfz23_0
            try clear hfz23_1
            try clear hfz25_0
            try clear hfz25_1
            try clear hfz31_0
            try clear hfz31_1
            try clear hfz39_0
            try clear hfz39_1
            try clear hfz46_0
            try clear hfz46_1
            try clear hfz49_0
            try clear hfz49_1
            try clear hfz54_0
            try clear hfz54_1
            try clear hfz57_0
            try clear hfz57_1
            try clear hfz5_0
            try clear hfz5_1
            try clear hfz73_0
            try clear hfz73_1
            try clear hfz81_0
            try clear hfz81_1
            try clear hfz84_0
            try clear hfz84_1
            try clear hfz89_0
            try clear hfz89_1
            try clear hfz92_0
            try clear hfz92_1
            try clear p2
            try clear p6
            try clear p64
            obtain ⟨kq, x87_107, rfl, HA, HJ107, HO_237000, HO_237001, HO_244000, HO_244001, HO_252000, HO_252001, HO_282000, HO_282001, BK221, BK236, BK243, BK251, BK281, HB⟩ := hcut
            have hl252000_107 := (Kd.R_reads' HO_252000.out).1
            rw [hl252000_107] at HO_252000
            (try simp only [hl252000_107])
            (try simp only [hl252000_107] at BK221)
            (try simp only [hl252000_107] at BK236)
            (try simp only [hl252000_107] at BK243)
            (try simp only [hl252000_107] at BK251)
            (try simp only [hl252000_107] at BK281)
            (try simp only [hl252000_107] at HO_237000)
            (try simp only [hl252000_107] at HO_237001)
            (try simp only [hl252000_107] at HO_244000)
            (try simp only [hl252000_107] at HO_244001)
            (try simp only [hl252000_107] at HO_252001)
            (try simp only [hl252000_107] at HO_282000)
            (try simp only [hl252000_107] at HO_282001)
            have hl252001_107 := (Kd.R_reads' HO_252001.out).1
            rw [hl252001_107] at HO_252001
            (try simp only [hl252001_107])
            (try simp only [hl252001_107] at BK221)
            (try simp only [hl252001_107] at BK236)
            (try simp only [hl252001_107] at BK243)
            (try simp only [hl252001_107] at BK251)
            (try simp only [hl252001_107] at BK281)
            (try simp only [hl252001_107] at HO_237000)
            (try simp only [hl252001_107] at HO_237001)
            (try simp only [hl252001_107] at HO_244000)
            (try simp only [hl252001_107] at HO_244001)
            (try simp only [hl252001_107] at HO_252000)
            (try simp only [hl252001_107] at HO_282000)
            (try simp only [hl252001_107] at HO_282001)
            cases kq with
            | zero => exact absurd HA.out (by simp [laws_FnExactMirrorMobile.j2])
            | succ kj107 =>
             have H := HA.out
             clear HA
             simp only [laws_FnExactMirrorMobile.j2] at H
             by_cases c153 : x87_107 = true
             ·
              subst c153
              have H1 : (some false) = some r := by rw [if_pos rfl] at H; exact H
              clear H
              have H := H1
              clear H1
              obtain rfl := Option.some.inj H
              go_wp2
              go_ret
              exact ⟨by first | rfl | (simp [errW_none, errW_some] <;> rfl) | (simp [*, errW_none, errW_some] <;> rfl), tB HB.out⟩
             ·
              replace c153 := Bool.eq_false_iff.mpr c153
              subst c153
              have H1 : ((laws_heldMobile.f kj107 t265 t266 1).bind fun t283 => (if t283 < 0 then (some false) else (if t283 = t264 then (some true) else (some false)))) = some r := by rw [if_neg (show ¬ (false = true) by decide)] at H; exact H
              clear H
              have H := H1
              clear H1
              replace H := Option.bind_eq_some_iff.mp H
              obtain ⟨t283, A1540, H⟩ := H
              replace H : (if t283 < 0 then (some false) else (if t283 = t264 then (some true) else (some false))) = some r := H
              have A154 := Aside0.mk A1540
              clear A1540
              by_cases c155 : t283 < 0
              ·
               rw [if_pos c155] at H
               have c155b0 : decide (t283 < 0) = true := decide_eq_true c155
               clear c155
               obtain rfl := Option.some.inj H
               have hnb156 := NB251_221.out
               have hnc156 := NB221_251.out
               have hnb157 := NB251_236.out
               have hnc157 := NB236_251.out
               have hnb158 := NB251_243.out
               have hnc158 := NB243_251.out
               have hnb159 := NB251_281.out
               have hnc159 := NB281_251.out
               obtain ⟨hcz160_0, hfz160_0, hcz160_1, hfz160_1⟩ := cz2 BK251
               go_wp2_with (first | ((with_reducible refine gate_callee (f := 25) rfl ?_); refine goesL_ (some 90) rfl rfl Try.func25 (by kernel_rfl) rfl #[.agg #[.slice Ao35 t265.length co35, .slice Ao40 t266.length co40], .int .i64 1] rfl tM ?_; (with_reducible refine (laws_heldMobile.calls kj107 _ _ t265 _ _ t266 1 t283 _ ?side1 ?side2 ?side3 ?side4 A154.out).mono ?_); (case side1 => exact tC (Kd.R_reads' HO_252000.out).2.2); (case side2 => exact (Kd.R_reads' HO_252000.out).2.1); (case side3 => exact tC (Kd.R_reads' HO_252001.out).2.2); (case side4 => exact (Kd.R_reads' HO_252001.out).2.1); rintro e w161 ⟨rfl, hb⟩; refine ⟨_, rfl, ?_⟩; replace HO_237000 := Aside0.mk (Kd.R_below (tR HO_237000.out) hb); replace HO_237001 := Aside0.mk (Kd.R_below (tR HO_237001.out) hb); replace HO_244000 := Aside0.mk (Kd.R_below (tR HO_244000.out) hb); replace HO_244001 := Aside0.mk (Kd.R_below (tR HO_244001.out) hb); replace HO_252000 := Aside0.mk (Kd.R_below (tR HO_252000.out) hb); replace HO_252001 := Aside0.mk (Kd.R_below (tR HO_252001.out) hb); replace HO_282000 := Aside0.mk (Kd.R_below (tR HO_282000.out) hb); replace HO_282001 := Aside0.mk (Kd.R_below (tR HO_282001.out) hb); replace BK221 := bkB BK221 hb; replace BK236 := bkB BK236 hb; replace BK243 := bkB BK243 hb; replace BK251 := bkB BK251 hb; replace BK281 := bkB BK281 hb; replace HB := Aside0.mk (below_step (tB HB.out) hb); (try clear hb); (try clear hb2); (try clear hk); (try clear hi)))
               go_ret
               exact ⟨by first | rfl | (simp [errW_none, errW_some] <;> rfl) | (simp [*, errW_none, errW_some] <;> rfl), tB HB.out⟩
              ·
               rw [if_neg c155] at H
               have c155b0 : decide (t283 < 0) = false := decide_eq_false c155
               clear c155
               by_cases c162 : t283 = t264
               ·
                rw [if_pos c162] at H
                have c162b0 : (t283 == t264) = true := beq_iff_eq.mpr c162
                have c162b1 : (t283 != t264) = false := bne_eq_false_iff_eq.mpr c162
                clear c162
                obtain rfl := Option.some.inj H
                have hnb163 := NB251_221.out
                have hnc163 := NB221_251.out
                have hnb164 := NB251_236.out
                have hnc164 := NB236_251.out
                have hnb165 := NB251_243.out
                have hnc165 := NB243_251.out
                have hnb166 := NB251_281.out
                have hnc166 := NB281_251.out
                obtain ⟨hcz167_0, hfz167_0, hcz167_1, hfz167_1⟩ := cz2 BK251
                go_wp2_with (first | ((with_reducible refine gate_callee (f := 25) rfl ?_); refine goesL_ (some 90) rfl rfl Try.func25 (by kernel_rfl) rfl #[.agg #[.slice Ao35 t265.length co35, .slice Ao40 t266.length co40], .int .i64 1] rfl tM ?_; (with_reducible refine (laws_heldMobile.calls kj107 _ _ t265 _ _ t266 1 t283 _ ?side1 ?side2 ?side3 ?side4 A154.out).mono ?_); (case side1 => exact tC (Kd.R_reads' HO_252000.out).2.2); (case side2 => exact (Kd.R_reads' HO_252000.out).2.1); (case side3 => exact tC (Kd.R_reads' HO_252001.out).2.2); (case side4 => exact (Kd.R_reads' HO_252001.out).2.1); rintro e w168 ⟨rfl, hb⟩; refine ⟨_, rfl, ?_⟩; replace HO_237000 := Aside0.mk (Kd.R_below (tR HO_237000.out) hb); replace HO_237001 := Aside0.mk (Kd.R_below (tR HO_237001.out) hb); replace HO_244000 := Aside0.mk (Kd.R_below (tR HO_244000.out) hb); replace HO_244001 := Aside0.mk (Kd.R_below (tR HO_244001.out) hb); replace HO_252000 := Aside0.mk (Kd.R_below (tR HO_252000.out) hb); replace HO_252001 := Aside0.mk (Kd.R_below (tR HO_252001.out) hb); replace HO_282000 := Aside0.mk (Kd.R_below (tR HO_282000.out) hb); replace HO_282001 := Aside0.mk (Kd.R_below (tR HO_282001.out) hb); replace BK221 := bkB BK221 hb; replace BK236 := bkB BK236 hb; replace BK243 := bkB BK243 hb; replace BK251 := bkB BK251 hb; replace BK281 := bkB BK281 hb; replace HB := Aside0.mk (below_step (tB HB.out) hb); (try clear hb); (try clear hb2); (try clear hk); (try clear hi)))
                go_ret
                exact ⟨by first | rfl | (simp [errW_none, errW_some] <;> rfl) | (simp [*, errW_none, errW_some] <;> rfl), tB HB.out⟩
               ·
                rw [if_neg c162] at H
                have c162b0 : (t283 == t264) = false := beq_eq_false_iff_ne.mpr c162
                have c162b1 : (t283 != t264) = true := bne_iff_ne.mpr c162
                obtain rfl := Option.some.inj H
                have hnb169 := NB251_221.out
                have hnc169 := NB221_251.out
                have hnb170 := NB251_236.out
                have hnc170 := NB236_251.out
                have hnb171 := NB251_243.out
                have hnc171 := NB243_251.out
                have hnb172 := NB251_281.out
                have hnc172 := NB281_251.out
                obtain ⟨hcz173_0, hfz173_0, hcz173_1, hfz173_1⟩ := cz2 BK251
                go_wp2_with (first | ((with_reducible refine gate_callee (f := 25) rfl ?_); refine goesL_ (some 90) rfl rfl Try.func25 (by kernel_rfl) rfl #[.agg #[.slice Ao35 t265.length co35, .slice Ao40 t266.length co40], .int .i64 1] rfl tM ?_; (with_reducible refine (laws_heldMobile.calls kj107 _ _ t265 _ _ t266 1 t283 _ ?side1 ?side2 ?side3 ?side4 A154.out).mono ?_); (case side1 => exact tC (Kd.R_reads' HO_252000.out).2.2); (case side2 => exact (Kd.R_reads' HO_252000.out).2.1); (case side3 => exact tC (Kd.R_reads' HO_252001.out).2.2); (case side4 => exact (Kd.R_reads' HO_252001.out).2.1); rintro e w174 ⟨rfl, hb⟩; refine ⟨_, rfl, ?_⟩; replace HO_237000 := Aside0.mk (Kd.R_below (tR HO_237000.out) hb); replace HO_237001 := Aside0.mk (Kd.R_below (tR HO_237001.out) hb); replace HO_244000 := Aside0.mk (Kd.R_below (tR HO_244000.out) hb); replace HO_244001 := Aside0.mk (Kd.R_below (tR HO_244001.out) hb); replace HO_252000 := Aside0.mk (Kd.R_below (tR HO_252000.out) hb); replace HO_252001 := Aside0.mk (Kd.R_below (tR HO_252001.out) hb); replace HO_282000 := Aside0.mk (Kd.R_below (tR HO_282000.out) hb); replace HO_282001 := Aside0.mk (Kd.R_below (tR HO_282001.out) hb); replace BK221 := bkB BK221 hb; replace BK236 := bkB BK236 hb; replace BK243 := bkB BK243 hb; replace BK251 := bkB BK251 hb; replace BK281 := bkB BK281 hb; replace HB := Aside0.mk (below_step (tB HB.out) hb); (try clear hb); (try clear hb2); (try clear hk); (try clear hi)))
                go_ret
                exact ⟨by first | rfl | (simp [errW_none, errW_some] <;> rfl) | (simp [*, errW_none, errW_some] <;> rfl), tB HB.out⟩
          ·
           rw [if_neg c105] at H
           have c105b0 : (t267 == t264) = false := beq_eq_false_iff_ne.mpr c105
           have c105b1 : (t267 != t264) = true := bne_iff_ne.mpr c105
           obtain rfl := Option.some.inj H
           have hnb175 := NB251_221.out
           have hnc175 := NB221_251.out
           have hnb176 := NB251_236.out
           have hnc176 := NB236_251.out
           have hnb177 := NB251_243.out
           have hnc177 := NB243_251.out
           obtain ⟨hcz178_0, hfz178_0, hcz178_1, hfz178_1⟩ := cz2 BK251
           go_wp2_with (first | ((with_reducible refine gate_callee (f := 24) rfl ?_); refine goesL_ (some 64) rfl rfl Try.func24 (by kernel_rfl) rfl #[.agg #[.slice Ao35 t244.length co35, .slice Ao40 t247.length co40], .int .i64 1] rfl tM ?_; (with_reducible refine (laws_markMobile.calls kj63 (fun k_ => some k_ = (.slice Ao35 t244.length co35 : Value).ownBlock) (.slice Ao35 t244.length co35) t244 (fun k_ => some k_ = (.slice Ao40 t247.length co40 : Value).ownBlock) (.slice Ao40 t247.length co40) t247 1 t264 t265 t266 w _ ?side1 ?side2 ?side3 ?side4 ?side5 A95.out).mono ?_); (case side1 => repeat (first | (with_reducible first | exact HB.out | apply below_alloc | apply pw_below_drewN | apply below_drew1 | refine below_set ?_ GE221.out | refine below_set ?_ GE236.out | refine below_set ?_ GE243.out | refine below_set ?_ GE251.out) | exact HB.out)); (case side2 => exact Kd.R_tight rfl HO_252000.out); (case side3 => exact fun k_ e_ => (HO_252000.out.1 k_ e_.symm).2.2.2.2); (case side4 => exact Kd.R_tight rfl HO_252001.out); (case side5 => exact fun k_ e_ => (HO_252001.out.1 k_ e_.symm).2.2.2.2); rintro e w179 ⟨rfl, hy0, hy1, hb, hkp⟩; refine ⟨_, rfl, ?_⟩; replace HO_237000 := Aside0.mk (Kd.R_mono (ok' := fun k_ => some k_ ≠ (.slice Ao24 t232.length co24 : Value).ownBlock ∧ some k_ ≠ (.slice Ao28 t261.length co28 : Value).ownBlock ∧ some k_ ≠ (.slice Ao32 t262.length co32 : Value).ownBlock ∧ some k_ ≠ (.slice Ao35 t244.length co35 : Value).ownBlock ∧ some k_ ≠ (.slice Ao40 t247.length co40 : Value).ownBlock) (Kd.R_keptB (HO_237000.out) hkp (fun k_ hk_ hs_ => Or.elim hs_ (fun e_ => (hk_.2.2.2.1) e_) (fun e_ => (hk_.2.2.2.2) e_))) (fun k_ hk_ => ⟨hk_.1.1, hk_.1.2.1, hk_.1.2.2.1, hk_.1.2.2.2.1, hk_.1.2.2.2.2⟩)); replace HO_237001 := Aside0.mk (Kd.R_mono (ok' := fun k_ => some k_ ≠ (.slice Ao21 t229.length co21 : Value).ownBlock ∧ some k_ ≠ (.slice Ao28 t261.length co28 : Value).ownBlock ∧ some k_ ≠ (.slice Ao32 t262.length co32 : Value).ownBlock ∧ some k_ ≠ (.slice Ao35 t244.length co35 : Value).ownBlock ∧ some k_ ≠ (.slice Ao40 t247.length co40 : Value).ownBlock) (Kd.R_keptB (HO_237001.out) hkp (fun k_ hk_ hs_ => Or.elim hs_ (fun e_ => (hk_.2.2.2.1) e_) (fun e_ => (hk_.2.2.2.2) e_))) (fun k_ hk_ => ⟨hk_.1.1, hk_.1.2.1, hk_.1.2.2.1, hk_.1.2.2.2.1, hk_.1.2.2.2.2⟩)); replace HO_244000 := Aside0.mk (Kd.R_mono (ok' := fun k_ => some k_ ≠ (.slice Ao21 t229.length co21 : Value).ownBlock ∧ some k_ ≠ (.slice Ao24 t232.length co24 : Value).ownBlock ∧ some k_ ≠ (.slice Ao32 t262.length co32 : Value).ownBlock ∧ some k_ ≠ (.slice Ao35 t244.length co35 : Value).ownBlock ∧ some k_ ≠ (.slice Ao40 t247.length co40 : Value).ownBlock) (Kd.R_keptB (HO_244000.out) hkp (fun k_ hk_ hs_ => Or.elim hs_ (fun e_ => (hk_.2.2.2.1) e_) (fun e_ => (hk_.2.2.2.2) e_))) (fun k_ hk_ => ⟨hk_.1.1, hk_.1.2.1, hk_.1.2.2.1, hk_.1.2.2.2.1, hk_.1.2.2.2.2⟩)); replace HO_244001 := Aside0.mk (Kd.R_mono (ok' := fun k_ => some k_ ≠ (.slice Ao21 t229.length co21 : Value).ownBlock ∧ some k_ ≠ (.slice Ao24 t232.length co24 : Value).ownBlock ∧ some k_ ≠ (.slice Ao28 t261.length co28 : Value).ownBlock ∧ some k_ ≠ (.slice Ao35 t244.length co35 : Value).ownBlock ∧ some k_ ≠ (.slice Ao40 t247.length co40 : Value).ownBlock) (Kd.R_keptB (HO_244001.out) hkp (fun k_ hk_ hs_ => Or.elim hs_ (fun e_ => (hk_.2.2.2.1) e_) (fun e_ => (hk_.2.2.2.2) e_))) (fun k_ hk_ => ⟨hk_.1.1, hk_.1.2.1, hk_.1.2.2.1, hk_.1.2.2.2.1, hk_.1.2.2.2.2⟩)); replace BK221 := Aside0.mk (blk_kept (tK BK221.out) hkp (fun hs_ => Or.elim hs_ (fun e_ => (fun e_ => (Kd.R_ne HO_252000.out BK221.out (by decide)) e_) e_) (fun e_ => (fun e_ => (Kd.R_ne HO_252001.out BK221.out (by decide)) e_) e_))); replace BK236 := Aside0.mk (blk_kept (tK BK236.out) hkp (fun hs_ => Or.elim hs_ (fun e_ => (fun e_ => (Kd.R_ne HO_252000.out BK236.out (by decide)) e_) e_) (fun e_ => (fun e_ => (Kd.R_ne HO_252001.out BK236.out (by decide)) e_) e_))); replace BK243 := Aside0.mk (blk_kept (tK BK243.out) hkp (fun hs_ => Or.elim hs_ (fun e_ => (fun e_ => (Kd.R_ne HO_252000.out BK243.out (by decide)) e_) e_) (fun e_ => (fun e_ => (Kd.R_ne HO_252001.out BK243.out (by decide)) e_) e_))); replace BK251 := Aside0.mk (blk_kept (tK BK251.out) hkp (fun hs_ => Or.elim hs_ (fun e_ => (fun e_ => (Kd.R_ne HO_252000.out BK251.out (by decide)) e_) e_) (fun e_ => (fun e_ => (Kd.R_ne HO_252001.out BK251.out (by decide)) e_) e_))); replace HO_252000 := Aside0.mk (Kd.R_reok rfl hy0 (fun k_ e_ => HO_252000.out.1 k_ e_)); replace HO_252001 := Aside0.mk (Kd.R_reok rfl hy1 (fun k_ e_ => HO_252001.out.1 k_ e_)); replace HB := Aside0.mk (hb); (try clear hb); (try clear hkp); (try clear hy0); (try clear hy1); obtain ⟨hcz180_0, hfz180_0, hcz180_1, hfz180_1⟩ := cz2 BK251) | ((with_reducible refine gate_callee (f := 25) rfl ?_); refine goesL_ (some 67) rfl rfl Try.func25 (by kernel_rfl) rfl #[.agg #[.slice Ao35 t265.length co35, .slice Ao40 t266.length co40], .int .i64 1] rfl (by (try simp only [List.map_toArray, List.map_cons, List.map_nil]); first | done | (rw [show t265.length = t244.length from (Kd.R_reads' HO_252000.out).1.symm, show t266.length = t247.length from (Kd.R_reads' HO_252001.out).1.symm] <;> rfl) | rfl | (simp only [List.length_drop, List.length_take]; rfl)) ?_; (with_reducible refine (laws_heldMobile.calls kj63 _ _ t265 _ _ t266 1 t267 _ ?side1 ?side2 ?side3 ?side4 A96.out).mono ?_); (case side1 => exact tC (Kd.R_reads' HO_252000.out).2.2); (case side2 => rw [show t265.length = t244.length from (Kd.R_reads' HO_252000.out).1.symm]; exact (Kd.R_reads' HO_252000.out).2.1); (case side3 => exact tC (Kd.R_reads' HO_252001.out).2.2); (case side4 => rw [show t266.length = t247.length from (Kd.R_reads' HO_252001.out).1.symm]; exact (Kd.R_reads' HO_252001.out).2.1); rintro e w181 ⟨rfl, hb⟩; refine ⟨_, rfl, ?_⟩; replace HO_237000 := Aside0.mk (Kd.R_below (tR HO_237000.out) hb); replace HO_237001 := Aside0.mk (Kd.R_below (tR HO_237001.out) hb); replace HO_244000 := Aside0.mk (Kd.R_below (tR HO_244000.out) hb); replace HO_244001 := Aside0.mk (Kd.R_below (tR HO_244001.out) hb); replace HO_252000 := Aside0.mk (Kd.R_below (tR HO_252000.out) hb); replace HO_252001 := Aside0.mk (Kd.R_below (tR HO_252001.out) hb); replace BK221 := bkB BK221 hb; replace BK236 := bkB BK236 hb; replace BK243 := bkB BK243 hb; replace BK251 := bkB BK251 hb; replace HB := Aside0.mk (below_step (tB HB.out) hb); (try clear hb); (try clear hb2); (try clear hk); (try clear hi)))
           go_ret
           exact ⟨by first | rfl | (simp [errW_none, errW_some] <;> rfl) | (simp [*, errW_none, errW_some] <;> rfl), tB HB.out⟩
     ·
      replace c62 := Bool.eq_false_iff.mpr c62
      subst c62
      have H1 : (some false) = some r := by rw [if_neg (show ¬ (false = true) by decide)] at H; exact H
      clear H
      have H := H1
      clear H1
      obtain rfl := Option.some.inj H
      try go_wp2
      replace HO_237000 := Aside0.mk (Kd.R_drew HO_237000.out)
      replace HO_237001 := Aside0.mk (Kd.R_drew HO_237001.out)
      replace HO_244000 := Aside0.mk (Kd.R_drew HO_244000.out)
      replace HO_244001 := Aside0.mk (Kd.R_drew HO_244001.out)
      replace HO_252000 := Aside0.mk (Kd.R_drew HO_252000.out)
      replace HO_252001 := Aside0.mk (Kd.R_drew HO_252001.out)
      replace BK221 := Aside0.mk (blk_drew BK221.out)
      replace BK236 := Aside0.mk (blk_drew BK236.out)
      replace BK243 := Aside0.mk (blk_drew BK243.out)
      replace BK251 := Aside0.mk (blk_drew BK251.out)
      replace HB := Aside0.mk (below_drew1 HB.out)
      refine start_ (n := 5) (S := fun w' => w'.cell? ⟨gb243, 0, none⟩ = some (.slice Ao28 t237.length co28) ∧ w'.cell? ⟨gb243, 1, none⟩ = some (.slice Ao32 t240.length co32) ∧ w'.cell? ⟨gb221, 0, none⟩ = some (.slice A0_0 l0_0.length c0_0) ∧ w'.cell? ⟨gb221, 1, none⟩ = some (.slice A0_1 l0_1.length c0_1)) (ds := []) #[false, false, false, false, false] (by kernel_rfl) rfl rfl ⟨(blk_cell BK243.out 0).trans rfl, (blk_cell BK243.out 1).trans rfl, (blk_cell BK221.out 0).trans rfl, (blk_cell BK221.out 1).trans rfl⟩ (fun hHeld => ?_)
      generalize wc.drew = w182 at HO_237000 HO_237001 HO_244000 HO_244001 HO_252000 HO_252001 BK221 BK236 BK243 BK251 HB hHeld ⊢
      refine take_ (i := 0) (N := some 41) (v := ?_) (a' := ?_) #[true, false, false, false, false] rfl rfl (by kernel_rfl) (fun _ _ _ h => h) (Or.inl ⟨by rfl, ?_⟩) hHeld ?_ ?_
      rotate_left
      ·
       rintro w' ⟨s0, s1, s2, s3⟩
       go_simp
       with_reducible rfl
      rotate_left
      ·
       simp only [Act.put, List.setIfInBounds_toArray, List.set_cons_zero, List.set_cons_succ, i64_w, i32_w]
       rfl
      refine take_ (i := 1) (N := some 42) (v := ?_) (a' := ?_) #[true, true, false, false, false] rfl rfl (by kernel_rfl) (fun _ _ _ h => h) (Or.inl ⟨by rfl, ?_⟩) hHeld ?_ ?_
      rotate_left
      ·
       rintro w' ⟨s0, s1, s2, s3⟩
       go_simp
       with_reducible rfl
      rotate_left
      ·
       simp only [Act.put, List.setIfInBounds_toArray, List.set_cons_zero, List.set_cons_succ, i64_w, i32_w]
       rfl
      refine one_ (i := 2) (N := some 43) #[true, true, true, false, false] rfl rfl (by kernel_rfl) (by decide) (fun K hK => ?_)
      refine goes_ Try.func17 (by kernel_rfl) rfl #[.agg #[.slice A0_0 l0_0.length c0_0, .slice A0_1 l0_1.length c0_1]] (by rfl) rfl rfl tM ?_
      with_reducible refine (laws_toMobile.calls kj10 _ _ l0_0 _ _ l0_1 t253 t256 _ ?side1 ?side2 ?side3 ?side4 A60.out).mono ?_
      (case side1 => exact tC (Kd.C_below HR0_0.out HB.out))
      (case side2 => exact HC0_0.out)
      (case side3 => exact tC (Kd.C_below HR0_1.out HB.out))
      (case side4 => exact HC0_1.out)
      rintro e w183 ⟨v254, v257, rfl, ho0, ho1, hb⟩
      refine ⟨_, rfl, ?_⟩
      have HO255 := Aside0.mk (Kd.R_lower (Kd.R_new' (Kd.R_new' (Kd.R_new' (Kd.R_new' (Kd.R_new' (Kd.R_new' ho0 (Kd.R_lt (tR HO_237000.out))) (Kd.R_lt (tR HO_237001.out))) (Kd.R_lt (tR HO_244000.out))) (Kd.R_lt (tR HO_244001.out))) (Kd.R_lt (tR HO_252000.out))) (Kd.R_lt (tR HO_252001.out))) (below_size (tB HB.out)))
      have HO258 := Aside0.mk (Kd.R_lower (Kd.R_new' (Kd.R_new' (Kd.R_new' (Kd.R_new' (Kd.R_new' (Kd.R_new' ho1 (Kd.R_lt (tR HO_237000.out))) (Kd.R_lt (tR HO_237001.out))) (Kd.R_lt (tR HO_244000.out))) (Kd.R_lt (tR HO_244001.out))) (Kd.R_lt (tR HO_252000.out))) (Kd.R_lt (tR HO_252001.out))) (below_size (tB HB.out)))
      replace HO_237000 := Aside0.mk (Kd.R_mono (Kd.R_told (Kd.R_told (Kd.R_old (tR HO_237000.out) hb) (Kd.R_base ho0)) (Kd.R_base ho1)) (fun _ h_ => h_.1))
      replace HO_237001 := Aside0.mk (Kd.R_mono (Kd.R_told (Kd.R_told (Kd.R_old (tR HO_237001.out) hb) (Kd.R_base ho0)) (Kd.R_base ho1)) (fun _ h_ => h_.1))
      replace HO_244000 := Aside0.mk (Kd.R_mono (Kd.R_told (Kd.R_told (Kd.R_old (tR HO_244000.out) hb) (Kd.R_base ho0)) (Kd.R_base ho1)) (fun _ h_ => h_.1))
      replace HO_244001 := Aside0.mk (Kd.R_mono (Kd.R_told (Kd.R_told (Kd.R_old (tR HO_244001.out) hb) (Kd.R_base ho0)) (Kd.R_base ho1)) (fun _ h_ => h_.1))
      replace HO_252000 := Aside0.mk (Kd.R_mono (Kd.R_told (Kd.R_told (Kd.R_old (tR HO_252000.out) hb) (Kd.R_base ho0)) (Kd.R_base ho1)) (fun _ h_ => h_.1))
      replace HO_252001 := Aside0.mk (Kd.R_mono (Kd.R_told (Kd.R_told (Kd.R_old (tR HO_252001.out) hb) (Kd.R_base ho0)) (Kd.R_base ho1)) (fun _ h_ => h_.1))
      replace BK221 := bkB BK221 hb
      replace BK236 := bkB BK236 hb
      replace BK243 := bkB BK243 hb
      replace BK251 := bkB BK251 hb
      replace HB := Aside0.mk (below_step (tB HB.out) hb)
      (try clear hb)
      (try clear hb2)
      (try clear hk)
      (try clear hi)
      (try clear ho0)
      (try clear ho1)
      obtain ⟨Ao184, co184, eo184⟩ := Kd.R_slice HO255.out
      (first | subst eo184 | (injection eo184 with f1_ f2_ f3_; have f4_ := f1_.symm; have f5_ := f3_.symm; clear f1_ f2_ f3_; subst f4_; subst f5_))
      obtain ⟨Ao185, co185, eo185⟩ := Kd.R_slice HO258.out
      (first | subst eo185 | (injection eo185 with f1_ f2_ f3_; have f4_ := f1_.symm; have f5_ := f3_.symm; clear f1_ f2_ f3_; subst f4_; subst f5_))
      refine hK.out _ _ ⟨(blk_cell BK243.out 0).trans rfl, (blk_cell BK243.out 1).trans rfl, (blk_cell BK221.out 0).trans rfl, (blk_cell BK221.out 1).trans rfl⟩ (fun hHeld => ?_)
      clear hK K
      refine norm_ (a' := ?_) ?_ ?_
      rotate_left
      ·
       show Act.put _ (some 43) _ = _
       simp only [Act.put, List.setIfInBounds_toArray, List.set_cons_zero, List.set_cons_succ, i64_w, i32_w]
       rfl
      refine one_ (i := 3) (N := some 44) #[true, true, true, true, false] rfl rfl (by kernel_rfl) (by decide) (fun K hK => ?_)
      refine goes_ Try.func19 (by kernel_rfl) rfl #[.agg #[.slice Ao28 t237.length co28, .slice Ao32 t240.length co32], .agg #[.slice Ao184 t253.length co184, .slice Ao185 t256.length co185]] (by rfl) rfl rfl tM ?_
      with_reducible refine (laws_eqMobile.calls kj10 _ _ t237 _ _ t240 _ _ t253 _ _ t256 false _ ?side1 ?side2 ?side3 ?side4 ?side5 ?side6 ?side7 ?side8 A61.out).mono ?_
      (case side1 => exact tC (Kd.R_reads' HO_244000.out).2.2)
      (case side2 => exact (Kd.R_reads' HO_244000.out).2.1)
      (case side3 => exact tC (Kd.R_reads' HO_244001.out).2.2)
      (case side4 => exact (Kd.R_reads' HO_244001.out).2.1)
      (case side5 => exact tC (Kd.R_reads' HO255.out).2.2)
      (case side6 => exact (Kd.R_reads' HO255.out).2.1)
      (case side7 => exact tC (Kd.R_reads' HO258.out).2.2)
      (case side8 => exact (Kd.R_reads' HO258.out).2.1)
      rintro e w186 ⟨rfl, hb⟩
      refine ⟨_, rfl, ?_⟩
      replace HO_237000 := Aside0.mk (Kd.R_below (tR HO_237000.out) hb)
      replace HO_237001 := Aside0.mk (Kd.R_below (tR HO_237001.out) hb)
      replace HO_244000 := Aside0.mk (Kd.R_below (tR HO_244000.out) hb)
      replace HO_244001 := Aside0.mk (Kd.R_below (tR HO_244001.out) hb)
      replace HO_252000 := Aside0.mk (Kd.R_below (tR HO_252000.out) hb)
      replace HO_252001 := Aside0.mk (Kd.R_below (tR HO_252001.out) hb)
      replace HO255 := Aside0.mk (Kd.R_below (tR HO255.out) hb)
      replace HO258 := Aside0.mk (Kd.R_below (tR HO258.out) hb)
      replace BK221 := bkB BK221 hb
      replace BK236 := bkB BK236 hb
      replace BK243 := bkB BK243 hb
      replace BK251 := bkB BK251 hb
      replace HB := Aside0.mk (below_step (tB HB.out) hb)
      (try clear hb)
      (try clear hb2)
      (try clear hk)
      (try clear hi)
      refine hK.out _ _ ⟨(blk_cell BK243.out 0).trans rfl, (blk_cell BK243.out 1).trans rfl, (blk_cell BK221.out 0).trans rfl, (blk_cell BK221.out 1).trans rfl⟩ (fun hHeld => ?_)
      clear hK K
      refine norm_ (a' := ?_) ?_ ?_
      rotate_left
      ·
       show Act.put _ (some 44) _ = _
       simp only [Act.put, List.setIfInBounds_toArray, List.set_cons_zero, List.set_cons_succ, i64_w, i32_w]
       rfl
      refine pure_ (i := 4) (N := some 45) (v := ?_) (a' := ?_) #[true, true, true, true, true] rfl rfl (by kernel_rfl) (fun _ _ _ h => h) (Or.inl ⟨by rfl, ?_⟩) ?_ ?_
      rotate_left
      ·
       intro w'
       go_simp
       with_reducible rfl
      rotate_left
      ·
       simp only [Act.put, List.setIfInBounds_toArray, List.set_cons_zero, List.set_cons_succ, i64_w, i32_w]
       rfl
      refine done_ (by kernel_rfl) ?_
      try go_wp2
      go_ret
      exact ⟨by first | rfl | (simp [errW_none, errW_some] <;> rfl) | (simp [*, errW_none, errW_some] <;> rfl), tB HB.out⟩

end Go.Proofs.Ytbdajkfihbaapaa.PFnExactMirrorMobile

/- Printed by the program print2.py over the translation: each function as a Lean function, and the proof that the call comes to its answer. -/
import Derived.Test.YtigijeedekjeiaaPFnExactFirmTopsx0
import Derived.Test.YtigijeedekjeiaaPFnExactFirmTopsx1
import Derived.Test.YtigijeedekjeiaaPFnExactFirmTopsx5
import Derived.Test.YtigijeedekjeiaaPFnExactFirmTopsx8
namespace Go.Proofs.Ytigijeedekjeiaa.PFnExactFirmTops
open Go.RowKit Go.Proofs.YtigijeedekjeiaaW.PrintWords Go.Proofs.YtigijeedekjeiaaW.PrintLast Go.Proofs.YtigijeedekjeiaaW.PrintMore
attribute [local go_sem] max2_int min2_int max_two min_two max_three min_three max_four min_four   -- for this text's walks alone
set_option linter.unusedVariables false
set_option linter.unusedSimpArgs false

/-! ### laws_FnExactFirmTops: function 14 -/
def laws_FnExactFirmTops.j0 : Nat → Bool → Int → List Int → List Int → Int → List Int → List Int → Option (Bool)
 | 0, _, _, _, _, _, _, _ => none
 | k + 1, x47, x256000, x256001, x256002, x275000, x275001, x275002 => if x47 = true then (some false) else ((laws_toPile.f k x256000 x256001 x256002).bind fun bt278 => ((laws_eqPile.f k x275000 x275001 x275002 bt278.1 bt278.2.1 bt278.2.2).bind fun t285 => (if t285 = true then (some true) else (some false))))
def laws_FnExactFirmTops.f (k : Nat) (a0_0 : Int) (l0_1 : List Int) (l0_2 : List Int) (a1 : Int) : Option (Bool) := (laws_szPile.f a0_0 l0_1 l0_2 1048576).bind fun t256 => (if t256 < 0 then (some true) else ((laws_toPile.f k a0_0 l0_1 l0_2).bind fun bt257 => ((spec_FirmTops.f k bt257.1 bt257.2.1 bt257.2.2 a1).bind fun bt264 => ((laws_toPile.f k a0_0 l0_1 l0_2).bind fun bt267 => ((impl_FirmTops.f k bt267.1 bt267.2.1 bt267.2.2 a1).bind fun bt275 => (if bt275.1 = bt264.1 then (if bt275.2.1 = bt264.2.1 then (laws_FnExactFirmTops.j0 k (bt275.2.2 != bt264.2.2) a0_0 l0_1 l0_2 bt267.1 bt267.2.1 bt267.2.2) else (laws_FnExactFirmTops.j0 k true a0_0 l0_1 l0_2 bt267.1 bt267.2.1 bt267.2.2)) else (laws_FnExactFirmTops.j0 k true a0_0 l0_1 l0_2 bt267.1 bt267.2.1 bt267.2.2)))))))
theorem laws_FnExactFirmTops.mono_l : ∀ k, (∀ y0 y1 y2 y3 y4 y5 y6, LeO (laws_FnExactFirmTops.j0 k y0 y1 y2 y3 y4 y5 y6) (laws_FnExactFirmTops.j0 (k + 1) y0 y1 y2 y3 y4 y5 y6))
 | 0 => fun _ _ _ _ _ _ _ r h => by simp [laws_FnExactFirmTops.j0] at h
 | k + 1 => by
  have ih0 := laws_FnExactFirmTops.mono_l k
  ·
   intro y0 y1 y2 y3 y4 y5 y6
   unfold laws_FnExactFirmTops.j0
   repeat' first
   | (with_reducible exact ih0 _ _ _ _ _ _ _)
   | (with_reducible exact impl_FirmTops.mono _ _ _ _ _)
   | (with_reducible exact laws_eqPile.mono _ _ _ _ _ _ _)
   | (with_reducible exact laws_toPile.mono _ _ _ _)
   | (with_reducible exact spec_FirmTops.mono _ _ _ _ _)
   | (with_reducible exact LeO.refl _)
   | (with_reducible exact LeO.none _)
   | (with_reducible refine LeO.ite ?_ ?_)
   | (with_reducible refine LeO.bind ?_ (fun _ => ?_))
   | exact ih0 _ _ _ _ _ _ _
   | exact impl_FirmTops.mono _ _ _ _ _
   | exact laws_eqPile.mono _ _ _ _ _ _ _
   | exact laws_toPile.mono _ _ _ _
   | exact spec_FirmTops.mono _ _ _ _ _
   | exact LeO.none _
   | refine LeO.ite ?_ ?_
   | refine LeO.bind ?_ (fun _ => ?_)
theorem laws_FnExactFirmTops.mono : ∀ a0 a1 a2 a3 k, LeO (laws_FnExactFirmTops.f k a0 a1 a2 a3) (laws_FnExactFirmTops.f (k + 1) a0 a1 a2 a3) := by
 intro a0 a1 a2 a3 k
 have ih0 := laws_FnExactFirmTops.mono_l k
 unfold laws_FnExactFirmTops.f
 repeat' first
   | (with_reducible exact ih0 _ _ _ _ _ _ _)
   | (with_reducible exact impl_FirmTops.mono _ _ _ _ _)
   | (with_reducible exact laws_eqPile.mono _ _ _ _ _ _ _)
   | (with_reducible exact laws_toPile.mono _ _ _ _)
   | (with_reducible exact spec_FirmTops.mono _ _ _ _ _)
   | (with_reducible exact LeO.refl _)
   | (with_reducible exact LeO.none _)
   | (with_reducible refine LeO.ite ?_ ?_)
   | (with_reducible refine LeO.bind ?_ (fun _ => ?_))
   | exact ih0 _ _ _ _ _ _ _
   | exact impl_FirmTops.mono _ _ _ _ _
   | exact laws_eqPile.mono _ _ _ _ _ _ _
   | exact laws_toPile.mono _ _ _ _
   | exact spec_FirmTops.mono _ _ _ _ _
   | exact LeO.none _
   | refine LeO.ite ?_ ?_
   | refine LeO.bind ?_ (fun _ => ?_)
set_option maxHeartbeats 8000000 in
set_option maxRecDepth 100000 in
theorem laws_FnExactFirmTops.calls (k : Nat) (a0_0 : Int) (A0_1 : Option Addr) (c0_1 : Nat) (l0_1 : List Int) (A0_2 : Option Addr) (c0_2 : Nat) (l0_2 : List Int) (a1 : Int) (r : Bool) (w : World) (hr0_1 : Kd.C (Kd.int .i64) w A0_1 l0_1.length l0_1) (hc0_1 : l0_1.length ≤ c0_1) (hr0_2 : Kd.C (Kd.int .i64) w A0_2 l0_2.length l0_2) (hc0_2 : l0_2.length ≤ c0_2) (h : laws_FnExactFirmTops.f k a0_0 l0_1 l0_2 a1 = some r) :
  Calls Try.prog 14 #[.agg #[.int .i64 a0_0, .slice A0_1 l0_1.length c0_1, .slice A0_2 l0_2.length c0_2], .int .i64 a1] w fun e w' => e = .returned (.bool r) ∧ Below w.heap.size w w' := by
 have hu24 := Try.underlying24
 have hu28 := Try.underlying28
 have HR0_1 := Aside0.mk hr0_1
 have HC0_1 := Aside0.mk hc0_1
 clear hr0_1 hc0_1
 have HR0_2 := Aside0.mk hr0_2
 have HC0_2 := Aside0.mk hc0_2
 clear hr0_2 hc0_2
 have HB := Aside0.mk (Below.refl w.heap.size w)
 have H : ((laws_szPile.f a0_0 l0_1 l0_2 1048576).bind fun t256 => (if t256 < 0 then (some true) else ((laws_toPile.f k a0_0 l0_1 l0_2).bind fun bt257 => ((spec_FirmTops.f k bt257.1 bt257.2.1 bt257.2.2 a1).bind fun bt264 => ((laws_toPile.f k a0_0 l0_1 l0_2).bind fun bt267 => ((impl_FirmTops.f k bt267.1 bt267.2.1 bt267.2.2 a1).bind fun bt275 => (if bt275.1 = bt264.1 then (if bt275.2.1 = bt264.2.1 then (laws_FnExactFirmTops.j0 k (bt275.2.2 != bt264.2.2) a0_0 l0_1 l0_2 bt267.1 bt267.2.1 bt267.2.2) else (laws_FnExactFirmTops.j0 k true a0_0 l0_1 l0_2 bt267.1 bt267.2.1 bt267.2.2)) else (laws_FnExactFirmTops.j0 k true a0_0 l0_1 l0_2 bt267.1 bt267.2.1 bt267.2.2)))))))) = some r := h
 clear h
 replace H := Option.bind_eq_some_iff.mp H
 obtain ⟨t256, A30, H⟩ := H
 replace H : (if t256 < 0 then (some true) else ((laws_toPile.f k a0_0 l0_1 l0_2).bind fun bt257 => ((spec_FirmTops.f k bt257.1 bt257.2.1 bt257.2.2 a1).bind fun bt264 => ((laws_toPile.f k a0_0 l0_1 l0_2).bind fun bt267 => ((impl_FirmTops.f k bt267.1 bt267.2.1 bt267.2.2 a1).bind fun bt275 => (if bt275.1 = bt264.1 then (if bt275.2.1 = bt264.2.1 then (laws_FnExactFirmTops.j0 k (bt275.2.2 != bt264.2.2) a0_0 l0_1 l0_2 bt267.1 bt267.2.1 bt267.2.2) else (laws_FnExactFirmTops.j0 k true a0_0 l0_1 l0_2 bt267.1 bt267.2.1 bt267.2.2)) else (laws_FnExactFirmTops.j0 k true a0_0 l0_1 l0_2 bt267.1 bt267.2.1 bt267.2.2))))))) = some r := H
 have A3 := Aside0.mk A30
 clear A30
 by_cases c4 : t256 < 0
 ·
  rw [if_pos c4] at H
  have c4b0 : decide (t256 < 0) = true := decide_eq_true c4
  clear c4
  obtain rfl := Option.some.inj H
  go_enter Try.func14, Try.ntmps14
  go_wp2_with (first | ((with_reducible refine gate_dst (N := 2) rfl ?_); refine box_event ?hg (N := 2) ?hd (cs := #[.int .i64 a0_0, .slice A0_1 l0_1.length c0_1, .slice A0_2 l0_2.length c0_2]) (t := 24) ?hr ?_; (case hd => rfl); (case hg => rfl); (case hr => first | (go_simp; done) | (go_simp; rfl)); intro gb255 hg w5 hbox hb; have BK255 := Aside0.mk (hbox); have GW255 := Aside0.mk (bS HB.out hg); have GE255 := Aside0.mk (bS HB.out hg); replace HB := Aside0.mk (below_step (tB HB.out) hb); clear hb hbox hg; obtain ⟨hcz6_0, hfz6_0, hcz6_1, hfz6_1, hcz6_2, hfz6_2⟩ := cz3 BK255) | ((with_reducible refine gate_callee (f := 15) rfl ?_); refine goesL_ (some 15) rfl rfl Try.func15 (by kernel_rfl) rfl #[.agg #[.int .i64 a0_0, .slice A0_1 l0_1.length c0_1, .slice A0_2 l0_2.length c0_2], .int .i64 1048576] rfl tM ?_; (with_reducible refine (laws_szPile.calls a0_0 _ _ l0_1 _ _ l0_2 1048576 t256 _ ?side1 ?side2 ?side3 ?side4 A3.out).mono ?_); (case side1 => exact tC (Kd.C_below HR0_1.out HB.out)); (case side2 => exact HC0_1.out); (case side3 => exact tC (Kd.C_below HR0_2.out HB.out)); (case side4 => exact HC0_2.out); rintro e w7 ⟨rfl, hb⟩; refine ⟨_, rfl, ?_⟩; replace BK255 := bkB BK255 hb; replace HB := Aside0.mk (below_step (tB HB.out) hb); (try clear hb); (try clear hb2); (try clear hk); (try clear hi)))
  go_ret
  exact ⟨by first | rfl | (simp [errW_none, errW_some] <;> rfl) | (simp [*, errW_none, errW_some] <;> rfl), tB HB.out⟩
 ·
  rw [if_neg c4] at H
  have c4b0 : decide (t256 < 0) = false := decide_eq_false c4
  clear c4
  replace H := Option.bind_eq_some_iff.mp H
  obtain ⟨⟨t257, t258, t261⟩, A80, H⟩ := H
  replace H : ((spec_FirmTops.f k t257 t258 t261 a1).bind fun bt264 => ((laws_toPile.f k a0_0 l0_1 l0_2).bind fun bt267 => ((impl_FirmTops.f k bt267.1 bt267.2.1 bt267.2.2 a1).bind fun bt275 => (if bt275.1 = bt264.1 then (if bt275.2.1 = bt264.2.1 then (laws_FnExactFirmTops.j0 k (bt275.2.2 != bt264.2.2) a0_0 l0_1 l0_2 bt267.1 bt267.2.1 bt267.2.2) else (laws_FnExactFirmTops.j0 k true a0_0 l0_1 l0_2 bt267.1 bt267.2.1 bt267.2.2)) else (laws_FnExactFirmTops.j0 k true a0_0 l0_1 l0_2 bt267.1 bt267.2.1 bt267.2.2))))) = some r := H
  have A8 := Aside0.mk A80
  clear A80
  replace H := Option.bind_eq_some_iff.mp H
  obtain ⟨⟨t264, t265, t266⟩, A90, H⟩ := H
  replace H : ((laws_toPile.f k a0_0 l0_1 l0_2).bind fun bt267 => ((impl_FirmTops.f k bt267.1 bt267.2.1 bt267.2.2 a1).bind fun bt275 => (if bt275.1 = t264 then (if bt275.2.1 = t265 then (laws_FnExactFirmTops.j0 k (bt275.2.2 != t266) a0_0 l0_1 l0_2 bt267.1 bt267.2.1 bt267.2.2) else (laws_FnExactFirmTops.j0 k true a0_0 l0_1 l0_2 bt267.1 bt267.2.1 bt267.2.2)) else (laws_FnExactFirmTops.j0 k true a0_0 l0_1 l0_2 bt267.1 bt267.2.1 bt267.2.2)))) = some r := H
  have A9 := Aside0.mk A90
  clear A90
  replace H := Option.bind_eq_some_iff.mp H
  obtain ⟨⟨t267, t268, t271⟩, A100, H⟩ := H
  replace H : ((impl_FirmTops.f k t267 t268 t271 a1).bind fun bt275 => (if bt275.1 = t264 then (if bt275.2.1 = t265 then (laws_FnExactFirmTops.j0 k (bt275.2.2 != t266) a0_0 l0_1 l0_2 t267 t268 t271) else (laws_FnExactFirmTops.j0 k true a0_0 l0_1 l0_2 t267 t268 t271)) else (laws_FnExactFirmTops.j0 k true a0_0 l0_1 l0_2 t267 t268 t271))) = some r := H
  have A10 := Aside0.mk A100
  clear A100
  replace H := Option.bind_eq_some_iff.mp H
  obtain ⟨⟨t275, t276, t277⟩, A110, H⟩ := H
  replace H : (if t275 = t264 then (if t276 = t265 then (laws_FnExactFirmTops.j0 k (t277 != t266) a0_0 l0_1 l0_2 t267 t268 t271) else (laws_FnExactFirmTops.j0 k true a0_0 l0_1 l0_2 t267 t268 t271)) else (laws_FnExactFirmTops.j0 k true a0_0 l0_1 l0_2 t267 t268 t271)) = some r := H
  have A11 := Aside0.mk A110
  clear A110
  have HC12 := Aside0.mk H
  clear H
  go_enter Try.func14, Try.ntmps14
  go_upto_region 8 with (first | ((with_reducible refine gate_dst (N := 2) rfl ?_); refine box_event ?hg (N := 2) ?hd (cs := #[.int .i64 a0_0, .slice A0_1 l0_1.length c0_1, .slice A0_2 l0_2.length c0_2]) (t := 24) ?hr ?_; (case hd => rfl); (case hg => rfl); (case hr => first | (go_simp; done) | (go_simp; rfl)); intro gb255 hg w13 hbox hb; have BK255 := Aside0.mk (hbox); have GW255 := Aside0.mk (bS HB.out hg); have GE255 := Aside0.mk (bS HB.out hg); replace HB := Aside0.mk (below_step (tB HB.out) hb); clear hb hbox hg; obtain ⟨hcz14_0, hfz14_0, hcz14_1, hfz14_1, hcz14_2, hfz14_2⟩ := cz3 BK255) | ((with_reducible refine gate_callee (f := 15) rfl ?_); refine goesL_ (some 15) rfl rfl Try.func15 (by kernel_rfl) rfl #[.agg #[.int .i64 a0_0, .slice A0_1 l0_1.length c0_1, .slice A0_2 l0_2.length c0_2], .int .i64 1048576] rfl tM ?_; (with_reducible refine (laws_szPile.calls a0_0 _ _ l0_1 _ _ l0_2 1048576 t256 _ ?side1 ?side2 ?side3 ?side4 A3.out).mono ?_); (case side1 => exact tC (Kd.C_below HR0_1.out HB.out)); (case side2 => exact HC0_1.out); (case side3 => exact tC (Kd.C_below HR0_2.out HB.out)); (case side4 => exact HC0_2.out); rintro e w15 ⟨rfl, hb⟩; refine ⟨_, rfl, ?_⟩; replace BK255 := bkB BK255 hb; replace HB := Aside0.mk (below_step (tB HB.out) hb); (try clear hb); (try clear hb2); (try clear hk); (try clear hi); obtain ⟨hcz16_0, hfz16_0, hcz16_1, hfz16_1, hcz16_2, hfz16_2⟩ := cz3 BK255) | ((with_reducible refine gate_callee (f := 17) rfl ?_); refine goesL_ (some 20) rfl rfl Try.func17 (by kernel_rfl) rfl #[.agg #[.int .i64 a0_0, .slice A0_1 l0_1.length c0_1, .slice A0_2 l0_2.length c0_2]] rfl tM ?_; (with_reducible refine (laws_toPile.calls k a0_0 _ _ l0_1 _ _ l0_2 t257 t258 t261 _ ?side1 ?side2 ?side3 ?side4 A8.out).mono ?_); (case side1 => exact tC (Kd.C_below HR0_1.out HB.out)); (case side2 => exact HC0_1.out); (case side3 => exact tC (Kd.C_below HR0_2.out HB.out)); (case side4 => exact HC0_2.out); rintro e w17 ⟨v259, v262, rfl, ho0, ho1, hb⟩; refine ⟨_, rfl, ?_⟩; have HO260 := Aside0.mk (Kd.R_lower ho0 (below_size (tB HB.out))); have HO263 := Aside0.mk (Kd.R_lower ho1 (below_size (tB HB.out))); replace BK255 := bkB BK255 hb; replace HB := Aside0.mk (below_step (tB HB.out) hb); (try clear hb); (try clear hb2); (try clear hk); (try clear hi); (try clear ho0); (try clear ho1); obtain ⟨Ao18, co18, eo18⟩ := Kd.R_slice HO260.out; subst eo18; obtain ⟨Ao19, co19, eo19⟩ := Kd.R_slice HO263.out; subst eo19) | ((with_reducible refine gate_callee (f := 43) rfl ?_); refine goesL_ (some 22) rfl rfl Try.func43 (by kernel_rfl) rfl #[.agg #[.int .i64 t257, .slice Ao18 t258.length co18, .slice Ao19 t261.length co19], .int .i64 a1] rfl tM ?_; (with_reducible refine (spec_FirmTops.calls k t257 _ _ t258 _ _ t261 a1 t264 t265 t266 _ ?side1 ?side2 ?side3 ?side4 A9.out).mono ?_); (case side1 => exact tC (Kd.R_reads' HO260.out).2.2); (case side2 => exact (Kd.R_reads' HO260.out).2.1); (case side3 => exact tC (Kd.R_reads' HO263.out).2.2); (case side4 => exact (Kd.R_reads' HO263.out).2.1); rintro e w20 ⟨rfl, hb⟩; refine ⟨_, rfl, ?_⟩; replace HO260 := Aside0.mk (Kd.R_below (tR HO260.out) hb); replace HO263 := Aside0.mk (Kd.R_below (tR HO263.out) hb); replace BK255 := bkB BK255 hb; replace HB := Aside0.mk (below_step (tB HB.out) hb); (try clear hb); (try clear hb2); (try clear hk); (try clear hi); obtain ⟨hcz21_0, hfz21_0, hcz21_1, hfz21_1, hcz21_2, hfz21_2⟩ := cz3 BK255) | ((with_reducible refine gate_callee (f := 17) rfl ?_); refine goesL_ (some 27) rfl rfl Try.func17 (by kernel_rfl) rfl #[.agg #[.int .i64 a0_0, .slice A0_1 l0_1.length c0_1, .slice A0_2 l0_2.length c0_2]] rfl tM ?_; (with_reducible refine (laws_toPile.calls k a0_0 _ _ l0_1 _ _ l0_2 t267 t268 t271 _ ?side1 ?side2 ?side3 ?side4 A10.out).mono ?_); (case side1 => exact tC (Kd.C_below HR0_1.out HB.out)); (case side2 => exact HC0_1.out); (case side3 => exact tC (Kd.C_below HR0_2.out HB.out)); (case side4 => exact HC0_2.out); rintro e w22 ⟨v269, v272, rfl, ho0, ho1, hb⟩; refine ⟨_, rfl, ?_⟩; have HO270 := Aside0.mk (Kd.R_lower (Kd.R_new' (Kd.R_new' ho0 (Kd.R_lt (tR HO260.out))) (Kd.R_lt (tR HO263.out))) (below_size (tB HB.out))); have HO273 := Aside0.mk (Kd.R_lower (Kd.R_new' (Kd.R_new' ho1 (Kd.R_lt (tR HO260.out))) (Kd.R_lt (tR HO263.out))) (below_size (tB HB.out))); replace HO260 := Aside0.mk (Kd.R_mono (Kd.R_told (Kd.R_told (Kd.R_old (tR HO260.out) hb) (Kd.R_base ho0)) (Kd.R_base ho1)) (fun _ h_ => h_.1)); replace HO263 := Aside0.mk (Kd.R_mono (Kd.R_told (Kd.R_told (Kd.R_old (tR HO263.out) hb) (Kd.R_base ho0)) (Kd.R_base ho1)) (fun _ h_ => h_.1)); replace BK255 := bkB BK255 hb; replace HB := Aside0.mk (below_step (tB HB.out) hb); (try clear hb); (try clear hb2); (try clear hk); (try clear hi); (try clear ho0); (try clear ho1)) | ((with_reducible refine gate_dst (N := 9) rfl ?_); refine box_event ?hg (N := 9) ?hd (cs := #[.int .i64 0, .slice none 0 0, .slice none 0 0]) (t := 28) ?hr ?_; (case hd => rfl); (case hg => rfl); (case hr => first | (go_simp; done) | (go_simp; rfl)); intro gb274 hg w23 hbox hb; replace HO260 := Aside0.mk (Kd.R_below (tR HO260.out) hb); replace HO263 := Aside0.mk (Kd.R_below (tR HO263.out) hb); replace HO270 := Aside0.mk (Kd.R_below (tR HO270.out) hb); replace HO273 := Aside0.mk (Kd.R_below (tR HO273.out) hb); have BK274 := Aside0.mk (hbox); have GW274 := Aside0.mk (bS HB.out hg); have GE274 := Aside0.mk (bS HB.out hg); replace HB := Aside0.mk (below_step (tB HB.out) hb); have NB255_274 := Aside0.mk (nL BK255.out hg); have NB274_255 := Aside0.mk (nG BK255.out hg); replace BK255 := bkB BK255 hb; clear hb hbox hg; have hnb24 := NB274_255.out; have hnc24 := NB255_274.out; obtain ⟨hcz25_0, hfz25_0, hcz25_1, hfz25_1, hcz25_2, hfz25_2⟩ := cz3 BK274; obtain ⟨Ao26, co26, eo26⟩ := Kd.R_slice HO270.out; subst eo26; obtain ⟨Ao27, co27, eo27⟩ := Kd.R_slice HO273.out; subst eo27) | ((with_reducible refine gate_callee (f := 44) rfl ?_); refine goesL_ (some 31) rfl rfl Try.func44 (by kernel_rfl) rfl #[.agg #[.int .i64 t267, .slice Ao26 t268.length co26, .slice Ao27 t271.length co27], .int .i64 a1] rfl tM ?_; (with_reducible refine (impl_FirmTops.calls k t267 _ _ t268 _ _ t271 a1 t275 t276 t277 _ ?side1 ?side2 ?side3 ?side4 A11.out).mono ?_); (case side1 => refine (Kd.R_reads' (e := 3) (base := w.heap.size) (ok := fun k_ => ((some k_ ≠ (.slice Ao27 t271.length co27 : Value).ownBlock ∧ some k_ ≠ (.slice Ao18 t258.length co18 : Value).ownBlock) ∧ some k_ ≠ (.slice Ao19 t261.length co19 : Value).ownBlock)) (n := t268.length) (c := co26) ?_).2.2; exact (by (with_reducible repeat (first | apply Kd.R_alloc | apply Kd.R_drewN | apply Kd.R_drew)); exact (Kd.R_mono (Kd.R_far (p := ⟨gb274, 2, none⟩) (Kd.R_far (p := ⟨gb274, 1, none⟩) (Kd.R_far (p := ⟨gb274, 0, none⟩) (Kd.R_types HO270.out BK274.out (by decide)) (fun _ hk => hk.2) (.int .i64 t267)) (fun _ hk => hk.2) (.slice Ao26 t268.length co26)) (fun _ hk => hk.2) (.slice Ao27 t271.length co27)) (fun _ h_ => h_.1)))); (case side2 => exact (Kd.R_reads' HO270.out).2.1); (case side3 => refine (Kd.R_reads' (e := 3) (base := w.heap.size) (ok := fun k_ => ((some k_ ≠ (.slice Ao26 t268.length co26 : Value).ownBlock ∧ some k_ ≠ (.slice Ao18 t258.length co18 : Value).ownBlock) ∧ some k_ ≠ (.slice Ao19 t261.length co19 : Value).ownBlock)) (n := t271.length) (c := co27) ?_).2.2; exact (by (with_reducible repeat (first | apply Kd.R_alloc | apply Kd.R_drewN | apply Kd.R_drew)); exact (Kd.R_mono (Kd.R_far (p := ⟨gb274, 2, none⟩) (Kd.R_far (p := ⟨gb274, 1, none⟩) (Kd.R_far (p := ⟨gb274, 0, none⟩) (Kd.R_types HO273.out BK274.out (by decide)) (fun _ hk => hk.2) (.int .i64 t267)) (fun _ hk => hk.2) (.slice Ao26 t268.length co26)) (fun _ hk => hk.2) (.slice Ao27 t271.length co27)) (fun _ h_ => h_.1)))); (case side4 => exact (Kd.R_reads' HO273.out).2.1); rintro e w28 ⟨rfl, hb⟩; refine ⟨_, rfl, ?_⟩; replace HO260 := Aside0.mk (Kd.R_below (by (with_reducible repeat (first | apply Kd.R_alloc | apply Kd.R_drewN | apply Kd.R_drew)); exact (Kd.R_mono (Kd.R_far (p := ⟨gb274, 2, none⟩) (Kd.R_far (p := ⟨gb274, 1, none⟩) (Kd.R_far (p := ⟨gb274, 0, none⟩) (Kd.R_types HO260.out BK274.out (by decide)) (fun _ hk => hk.2) (.int .i64 t267)) (fun _ hk => hk.2) (.slice Ao26 t268.length co26)) (fun _ hk => hk.2) (.slice Ao27 t271.length co27)) (fun _ h_ => h_.1))) hb); replace HO263 := Aside0.mk (Kd.R_below (by (with_reducible repeat (first | apply Kd.R_alloc | apply Kd.R_drewN | apply Kd.R_drew)); exact (Kd.R_mono (Kd.R_far (p := ⟨gb274, 2, none⟩) (Kd.R_far (p := ⟨gb274, 1, none⟩) (Kd.R_far (p := ⟨gb274, 0, none⟩) (Kd.R_types HO263.out BK274.out (by decide)) (fun _ hk => hk.2) (.int .i64 t267)) (fun _ hk => hk.2) (.slice Ao26 t268.length co26)) (fun _ hk => hk.2) (.slice Ao27 t271.length co27)) (fun _ h_ => h_.1))) hb); replace HO270 := Aside0.mk (Kd.R_below (by (with_reducible repeat (first | apply Kd.R_alloc | apply Kd.R_drewN | apply Kd.R_drew)); exact (Kd.R_mono (Kd.R_far (p := ⟨gb274, 2, none⟩) (Kd.R_far (p := ⟨gb274, 1, none⟩) (Kd.R_far (p := ⟨gb274, 0, none⟩) (Kd.R_types HO270.out BK274.out (by decide)) (fun _ hk => hk.2) (.int .i64 t267)) (fun _ hk => hk.2) (.slice Ao26 t268.length co26)) (fun _ hk => hk.2) (.slice Ao27 t271.length co27)) (fun _ h_ => h_.1))) hb); replace HO273 := Aside0.mk (Kd.R_below (by (with_reducible repeat (first | apply Kd.R_alloc | apply Kd.R_drewN | apply Kd.R_drew)); exact (Kd.R_mono (Kd.R_far (p := ⟨gb274, 2, none⟩) (Kd.R_far (p := ⟨gb274, 1, none⟩) (Kd.R_far (p := ⟨gb274, 0, none⟩) (Kd.R_types HO273.out BK274.out (by decide)) (fun _ hk => hk.2) (.int .i64 t267)) (fun _ hk => hk.2) (.slice Ao26 t268.length co26)) (fun _ hk => hk.2) (.slice Ao27 t271.length co27)) (fun _ h_ => h_.1))) hb); replace BK255 := Aside0.mk (blk_below (g := gb255) (o := .cells #[.int .i64 a0_0, .slice A0_1 l0_1.length c0_1, .slice A0_2 l0_2.length c0_2] 24 (0, 0)) (by (with_reducible repeat (first | refine blk_drewN ?_ _ | refine blk_drew ?_ | refine blk_alloc ?_ _)); refine blk_far ?_ NB255_274.out _; (with_reducible repeat (first | refine blk_drewN ?_ _ | refine blk_drew ?_ | refine blk_alloc ?_ _)); refine blk_far ?_ NB255_274.out _; (with_reducible repeat (first | refine blk_drewN ?_ _ | refine blk_drew ?_ | refine blk_alloc ?_ _)); refine blk_far ?_ NB255_274.out _; (with_reducible repeat (first | refine blk_drewN ?_ _ | refine blk_drew ?_ | refine blk_alloc ?_ _)); exact BK255.out) hb); replace BK274 := Aside0.mk (blk_below (g := gb274) (o := .cells #[.int .i64 t267, .slice Ao26 t268.length co26, .slice Ao27 t271.length co27] 28 (0, 0)) (by (with_reducible repeat (first | refine blk_drewN ?_ _ | refine blk_drew ?_ | refine blk_alloc ?_ _)); refine blk_put (cs := #[.int .i64 t267, .slice Ao26 t268.length co26, .slice none 0 0]) ?_ 2 _ rfl; (with_reducible repeat (first | refine blk_drewN ?_ _ | refine blk_drew ?_ | refine blk_alloc ?_ _)); refine blk_put (cs := #[.int .i64 t267, .slice none 0 0, .slice none 0 0]) ?_ 1 _ rfl; (with_reducible repeat (first | refine blk_drewN ?_ _ | refine blk_drew ?_ | refine blk_alloc ?_ _)); refine blk_put (cs := #[.int .i64 0, .slice none 0 0, .slice none 0 0]) ?_ 0 _ rfl; (with_reducible repeat (first | refine blk_drewN ?_ _ | refine blk_drew ?_ | refine blk_alloc ?_ _)); exact BK274.out) hb); replace HB := Aside0.mk (below_step (tB HB.out) hb); (try clear hb); (try clear hb2); (try clear hk); (try clear hi)))
  (try simp only [Act.put, List.setIfInBounds_toArray, List.set_cons_zero, List.set_cons_succ])
  go_cut [47] (fun v47 wc => ∃ (kq : Nat) (x47_11 : Bool), v47 = .bool x47_11 ∧ Aside0 (laws_FnExactFirmTops.j0 kq x47_11 a0_0 l0_1 l0_2 t267 t268 t271 = some r) ∧ Aside0 (kq ≤ k) ∧ Aside0 (Kd.R (Kd.int .i64) 3 wc w.heap.size (fun k_ => some k_ ≠ ((.slice Ao27 t271.length co27) : Value).ownBlock) (.slice Ao26 t268.length co26) t268) ∧ Aside0 (Kd.R (Kd.int .i64) 3 wc w.heap.size (fun k_ => some k_ ≠ ((.slice Ao26 t268.length co26) : Value).ownBlock) (.slice Ao27 t271.length co27) t271) ∧ Aside0 (wc.heap[gb255]? = some (.cells #[.int .i64 a0_0, (.slice A0_1 l0_1.length c0_1), (.slice A0_2 l0_2.length c0_2)] 24 (0, 0))) ∧ Aside0 (wc.heap[gb274]? = some (.cells #[.int .i64 t267, (.slice Ao26 t268.length co26), (.slice Ao27 t271.length co27)] 28 (0, 0))) ∧ Aside0 (Below w.heap.size w wc))
  case first =>
   have H := HC12.out
   clear HC12
   by_cases c29 : t275 = t264
   ·
    rw [if_pos c29] at H
    have c29b0 : (t275 == t264) = true := beq_iff_eq.mpr c29
    have c29b1 : (t275 != t264) = false := bne_eq_false_iff_eq.mpr c29
    clear c29
    (first | rw [c29b0] | (simp only [i64_w, i32_w]; rw [c29b0]) | skip)
    by_cases c30 : t276 = t265
    ·
     rw [if_pos c30] at H
     have c30b0 : (t276 == t265) = true := beq_iff_eq.mpr c30
     have c30b1 : (t276 != t265) = false := bne_eq_false_iff_eq.mpr c30
     clear c30
     have H' := Aside0.mk H
     clear H
     go_wp2
     go_meet
     case rel => exact ⟨_, ((t277 != t266)), (by first | rfl | (simp; done) | (simp [wrap64]; done) | (simp [*]; done)), H', ⟨by first | omega | exact Nat.le_refl _⟩, ⟨by (with_reducible repeat (first | apply Kd.R_alloc | apply Kd.R_drewN | apply Kd.R_drew)); exact Kd.R_mono HO270.out (fun _ hk => hk.1.1)⟩, ⟨by (with_reducible repeat (first | apply Kd.R_alloc | apply Kd.R_drewN | apply Kd.R_drew)); exact Kd.R_mono HO273.out (fun _ hk => hk.1.1)⟩, ⟨tK BK255.out⟩, ⟨tK BK274.out⟩, ⟨tB HB.out⟩⟩
    ·
     rw [if_neg c30] at H
     have c30b0 : (t276 == t265) = false := beq_eq_false_iff_ne.mpr c30
     have c30b1 : (t276 != t265) = true := bne_iff_ne.mpr c30
     have H' := Aside0.mk H
     clear H
     go_wp2
     go_meet
     case rel => exact ⟨_, (true), (by first | rfl | (simp; done) | (simp [wrap64]; done) | (simp [*]; done)), H', ⟨by first | omega | exact Nat.le_refl _⟩, ⟨by (with_reducible repeat (first | apply Kd.R_alloc | apply Kd.R_drewN | apply Kd.R_drew)); exact Kd.R_mono HO270.out (fun _ hk => hk.1.1)⟩, ⟨by (with_reducible repeat (first | apply Kd.R_alloc | apply Kd.R_drewN | apply Kd.R_drew)); exact Kd.R_mono HO273.out (fun _ hk => hk.1.1)⟩, ⟨tK BK255.out⟩, ⟨tK BK274.out⟩, ⟨tB HB.out⟩⟩
   ·
    rw [if_neg c29] at H
    have c29b0 : (t275 == t264) = false := beq_eq_false_iff_ne.mpr c29
    have c29b1 : (t275 != t264) = true := bne_iff_ne.mpr c29
    (first | rw [c29b0] | (simp only [i64_w, i32_w]; rw [c29b0]) | skip)
    have H' := Aside0.mk H
    clear H
    go_wp2
    go_meet
    case rel => exact ⟨_, (true), (by first | rfl | (simp; done) | (simp [wrap64]; done) | (simp [*]; done)), H', ⟨by first | omega | exact Nat.le_refl _⟩, ⟨by (with_reducible repeat (first | apply Kd.R_alloc | apply Kd.R_drewN | apply Kd.R_drew)); exact Kd.R_mono HO270.out (fun _ hk => hk.1.1)⟩, ⟨by (with_reducible repeat (first | apply Kd.R_alloc | apply Kd.R_drewN | apply Kd.R_drew)); exact Kd.R_mono HO273.out (fun _ hk => hk.1.1)⟩, ⟨tK BK255.out⟩, ⟨tK BK274.out⟩, ⟨tB HB.out⟩⟩
  case rest =>
   clear HC12
   try clear c1
   try clear c2
   try clear p2
   try clear c3
   try clear c4
   try clear c4b0
   try clear p6
   try clear c14
   try clear c15
   try clear c17
   try clear c24
   try clear c29
   try clear c29b0
   try clear c29b1
   try clear c30
   try clear c30b0
   try clear c30b1
   try clear hcz14_0
   try clear hcz14_1
   try clear hcz14_2
   try clear hcz16_0
   try clear hcz16_1
   try clear hcz16_2
   try clear hcz21_0
   try clear hcz21_1
   try clear hcz21_2
   try clear hcz25_0
   try clear hcz25_1
   try clear hcz25_2
   try clear hcz6_0
   try clear hcz6_1
   try clear hcz6_2
   try clear hfz14_0
   try clear hfz14_1
   try clear hfz14_2
   try clear hfz16_0
   try clear hfz16_1
   try clear hfz16_2
   try clear hfz21_0
   try clear hfz21_1
   try clear hfz21_2
   try clear hfz25_0
   try clear hfz25_1
   try clear hfz25_2
   try clear hfz6_0
   try clear hfz6_1
   try clear hfz6_2
   obtain ⟨kq, x47_11, rfl, HA, HJ11, HO_275001, HO_275002, BK255, BK274, HB⟩ := hcut
   cases kq with
   | zero => exact absurd HA.out (by simp [laws_FnExactFirmTops.j0])
   | succ kj11 =>
    have H := HA.out
    clear HA
    simp only [laws_FnExactFirmTops.j0] at H
    by_cases c31 : x47_11 = true
    ·
     subst c31
     have H1 : (some false) = some r := by rw [if_pos rfl] at H; exact H
     clear H
     have H := H1
     clear H1
     obtain rfl := Option.some.inj H
     go_wp2
     go_ret
     exact ⟨by first | rfl | (simp [errW_none, errW_some] <;> rfl) | (simp [*, errW_none, errW_some] <;> rfl), tB HB.out⟩
    ·
     replace c31 := Bool.eq_false_iff.mpr c31
     subst c31
     have H1 : ((laws_toPile.f kj11 a0_0 l0_1 l0_2).bind fun bt278 => ((laws_eqPile.f kj11 t267 t268 t271 bt278.1 bt278.2.1 bt278.2.2).bind fun t285 => (if t285 = true then (some true) else (some false)))) = some r := by rw [if_neg (show ¬ (false = true) by decide)] at H; exact H
     clear H
     have H := H1
     clear H1
     replace H := Option.bind_eq_some_iff.mp H
     obtain ⟨⟨t278, t279, t282⟩, A320, H⟩ := H
     replace H : ((laws_eqPile.f kj11 t267 t268 t271 t278 t279 t282).bind fun t285 => (if t285 = true then (some true) else (some false))) = some r := H
     have A32 := Aside0.mk A320
     clear A320
     replace H := Option.bind_eq_some_iff.mp H
     obtain ⟨t285, A330, H⟩ := H
     replace H : (if t285 = true then (some true) else (some false)) = some r := H
     have A33 := Aside0.mk A330
     clear A330
     by_cases c34 : t285 = true
     ·
      subst c34
      have H1 : (some true) = some r := by rw [if_pos rfl] at H; exact H
      clear H
      have H := H1
      clear H1
      obtain rfl := Option.some.inj H
      try go_wp2
      replace HO_275001 := Aside0.mk (Kd.R_drew HO_275001.out)
      replace HO_275002 := Aside0.mk (Kd.R_drew HO_275002.out)
      replace BK255 := Aside0.mk (blk_drew BK255.out)
      replace BK274 := Aside0.mk (blk_drew BK274.out)
      replace HB := Aside0.mk (below_drew1 HB.out)
      refine start_ (n := 5) (S := fun w' => w'.cell? ⟨gb274, 0, none⟩ = some (.int .i64 t267) ∧ w'.cell? ⟨gb274, 1, none⟩ = some (.slice Ao26 t268.length co26) ∧ w'.cell? ⟨gb274, 2, none⟩ = some (.slice Ao27 t271.length co27) ∧ w'.cell? ⟨gb255, 0, none⟩ = some (.int .i64 a0_0) ∧ w'.cell? ⟨gb255, 1, none⟩ = some (.slice A0_1 l0_1.length c0_1) ∧ w'.cell? ⟨gb255, 2, none⟩ = some (.slice A0_2 l0_2.length c0_2)) (ds := []) #[false, false, false, false, false] (by kernel_rfl) rfl rfl ⟨(blk_cell BK274.out 0).trans rfl, (blk_cell BK274.out 1).trans rfl, (blk_cell BK274.out 2).trans rfl, (blk_cell BK255.out 0).trans rfl, (blk_cell BK255.out 1).trans rfl, (blk_cell BK255.out 2).trans rfl⟩ (fun hHeld => ?_)
      generalize wc.drew = w35 at HO_275001 HO_275002 BK255 BK274 HB hHeld ⊢
      refine take_ (i := 0) (N := some 48) (v := ?_) (a' := ?_) #[true, false, false, false, false] rfl rfl (by kernel_rfl) (fun _ _ _ h => h) (Or.inl ⟨by rfl, ?_⟩) hHeld ?_ ?_
      rotate_left
      ·
       rintro w' ⟨s0, s1, s2, s3, s4, s5⟩
       go_simp
       with_reducible rfl
      rotate_left
      ·
       simp only [Act.put, List.setIfInBounds_toArray, List.set_cons_zero, List.set_cons_succ, i64_w, i32_w]
       rfl
      refine take_ (i := 1) (N := some 49) (v := ?_) (a' := ?_) #[true, true, false, false, false] rfl rfl (by kernel_rfl) (fun _ _ _ h => h) (Or.inl ⟨by rfl, ?_⟩) hHeld ?_ ?_
      rotate_left
      ·
       rintro w' ⟨s0, s1, s2, s3, s4, s5⟩
       go_simp
       with_reducible rfl
      rotate_left
      ·
       simp only [Act.put, List.setIfInBounds_toArray, List.set_cons_zero, List.set_cons_succ, i64_w, i32_w]
       rfl
      refine one_ (i := 2) (N := some 50) #[true, true, true, false, false] rfl rfl (by kernel_rfl) (by decide) (fun K hK => ?_)
      refine goes_ Try.func17 (by kernel_rfl) rfl #[.agg #[.int .i64 a0_0, .slice A0_1 l0_1.length c0_1, .slice A0_2 l0_2.length c0_2]] (by rfl) rfl rfl tM ?_
      with_reducible refine (laws_toPile.calls kj11 a0_0 _ _ l0_1 _ _ l0_2 t278 t279 t282 _ ?side1 ?side2 ?side3 ?side4 A32.out).mono ?_
      (case side1 => exact tC (Kd.C_below HR0_1.out HB.out))
      (case side2 => exact HC0_1.out)
      (case side3 => exact tC (Kd.C_below HR0_2.out HB.out))
      (case side4 => exact HC0_2.out)
      rintro e w36 ⟨v280, v283, rfl, ho0, ho1, hb⟩
      refine ⟨_, rfl, ?_⟩
      have HO281 := Aside0.mk (Kd.R_lower (Kd.R_new' (Kd.R_new' ho0 (Kd.R_lt (tR HO_275001.out))) (Kd.R_lt (tR HO_275002.out))) (below_size (tB HB.out)))
      have HO284 := Aside0.mk (Kd.R_lower (Kd.R_new' (Kd.R_new' ho1 (Kd.R_lt (tR HO_275001.out))) (Kd.R_lt (tR HO_275002.out))) (below_size (tB HB.out)))
      replace HO_275001 := Aside0.mk (Kd.R_mono (Kd.R_told (Kd.R_told (Kd.R_old (tR HO_275001.out) hb) (Kd.R_base ho0)) (Kd.R_base ho1)) (fun _ h_ => h_.1))
      replace HO_275002 := Aside0.mk (Kd.R_mono (Kd.R_told (Kd.R_told (Kd.R_old (tR HO_275002.out) hb) (Kd.R_base ho0)) (Kd.R_base ho1)) (fun _ h_ => h_.1))
      replace BK255 := bkB BK255 hb
      replace BK274 := bkB BK274 hb
      replace HB := Aside0.mk (below_step (tB HB.out) hb)
      (try clear hb)
      (try clear hb2)
      (try clear hk)
      (try clear hi)
      (try clear ho0)
      (try clear ho1)
      obtain ⟨Ao37, co37, eo37⟩ := Kd.R_slice HO281.out
      (first | subst eo37 | (injection eo37 with f1_ f2_ f3_; have f4_ := f1_.symm; have f5_ := f3_.symm; clear f1_ f2_ f3_; subst f4_; subst f5_))
      obtain ⟨Ao38, co38, eo38⟩ := Kd.R_slice HO284.out
      (first | subst eo38 | (injection eo38 with f1_ f2_ f3_; have f4_ := f1_.symm; have f5_ := f3_.symm; clear f1_ f2_ f3_; subst f4_; subst f5_))
      refine hK.out _ _ ⟨(blk_cell BK274.out 0).trans rfl, (blk_cell BK274.out 1).trans rfl, (blk_cell BK274.out 2).trans rfl, (blk_cell BK255.out 0).trans rfl, (blk_cell BK255.out 1).trans rfl, (blk_cell BK255.out 2).trans rfl⟩ (fun hHeld => ?_)
      clear hK K
      refine norm_ (a' := ?_) ?_ ?_
      rotate_left
      ·
       show Act.put _ (some 50) _ = _
       simp only [Act.put, List.setIfInBounds_toArray, List.set_cons_zero, List.set_cons_succ, i64_w, i32_w]
       rfl
      refine one_ (i := 3) (N := some 51) #[true, true, true, true, false] rfl rfl (by kernel_rfl) (by decide) (fun K hK => ?_)
      refine goes_ Try.func19 (by kernel_rfl) rfl #[.agg #[.int .i64 t267, .slice Ao26 t268.length co26, .slice Ao27 t271.length co27], .agg #[.int .i64 t278, .slice Ao37 t279.length co37, .slice Ao38 t282.length co38]] (by rfl) rfl rfl tM ?_
      with_reducible refine (laws_eqPile.calls kj11 t267 _ _ t268 _ _ t271 t278 _ _ t279 _ _ t282 true _ ?side1 ?side2 ?side3 ?side4 ?side5 ?side6 ?side7 ?side8 A33.out).mono ?_
      (case side1 => exact tC (Kd.R_reads' HO_275001.out).2.2)
      (case side2 => exact (Kd.R_reads' HO_275001.out).2.1)
      (case side3 => exact tC (Kd.R_reads' HO_275002.out).2.2)
      (case side4 => exact (Kd.R_reads' HO_275002.out).2.1)
      (case side5 => exact tC (Kd.R_reads' HO281.out).2.2)
      (case side6 => exact (Kd.R_reads' HO281.out).2.1)
      (case side7 => exact tC (Kd.R_reads' HO284.out).2.2)
      (case side8 => exact (Kd.R_reads' HO284.out).2.1)
      rintro e w39 ⟨rfl, hb⟩
      refine ⟨_, rfl, ?_⟩
      replace HO_275001 := Aside0.mk (Kd.R_below (tR HO_275001.out) hb)
      replace HO_275002 := Aside0.mk (Kd.R_below (tR HO_275002.out) hb)
      replace HO281 := Aside0.mk (Kd.R_below (tR HO281.out) hb)
      replace HO284 := Aside0.mk (Kd.R_below (tR HO284.out) hb)
      replace BK255 := bkB BK255 hb
      replace BK274 := bkB BK274 hb
      replace HB := Aside0.mk (below_step (tB HB.out) hb)
      (try clear hb)
      (try clear hb2)
      (try clear hk)
      (try clear hi)
      refine hK.out _ _ ⟨(blk_cell BK274.out 0).trans rfl, (blk_cell BK274.out 1).trans rfl, (blk_cell BK274.out 2).trans rfl, (blk_cell BK255.out 0).trans rfl, (blk_cell BK255.out 1).trans rfl, (blk_cell BK255.out 2).trans rfl⟩ (fun hHeld => ?_)
      clear hK K
      refine norm_ (a' := ?_) ?_ ?_
      rotate_left
      ·
       show Act.put _ (some 51) _ = _
       simp only [Act.put, List.setIfInBounds_toArray, List.set_cons_zero, List.set_cons_succ, i64_w, i32_w]
       rfl
      refine pure_ (i := 4) (N := some 52) (v := ?_) (a' := ?_) #[true, true, true, true, true] rfl rfl (by kernel_rfl) (fun _ _ _ h => h) (Or.inl ⟨by rfl, ?_⟩) ?_ ?_
      rotate_left
      ·
       intro w'
       go_simp
       with_reducible rfl
      rotate_left
      ·
       simp only [Act.put, List.setIfInBounds_toArray, List.set_cons_zero, List.set_cons_succ, i64_w, i32_w]
       rfl
      refine done_ (by kernel_rfl) ?_
      try go_wp2
      go_ret
      exact ⟨by first | rfl | (simp [errW_none, errW_some] <;> rfl) | (simp [*, errW_none, errW_some] <;> rfl), tB HB.out⟩
     ·
      replace c34 := Bool.eq_false_iff.mpr c34
      subst c34
      have H1 : (some false) = some r := by rw [if_neg (show ¬ (false = true) by decide)] at H; exact H
      clear H
      have H := H1
      clear H1
      obtain rfl := Option.some.inj H
      try go_wp2
      replace HO_275001 := Aside0.mk (Kd.R_drew HO_275001.out)
      replace HO_275002 := Aside0.mk (Kd.R_drew HO_275002.out)
      replace BK255 := Aside0.mk (blk_drew BK255.out)
      replace BK274 := Aside0.mk (blk_drew BK274.out)
      replace HB := Aside0.mk (below_drew1 HB.out)
      refine start_ (n := 5) (S := fun w' => w'.cell? ⟨gb274, 0, none⟩ = some (.int .i64 t267) ∧ w'.cell? ⟨gb274, 1, none⟩ = some (.slice Ao26 t268.length co26) ∧ w'.cell? ⟨gb274, 2, none⟩ = some (.slice Ao27 t271.length co27) ∧ w'.cell? ⟨gb255, 0, none⟩ = some (.int .i64 a0_0) ∧ w'.cell? ⟨gb255, 1, none⟩ = some (.slice A0_1 l0_1.length c0_1) ∧ w'.cell? ⟨gb255, 2, none⟩ = some (.slice A0_2 l0_2.length c0_2)) (ds := []) #[false, false, false, false, false] (by kernel_rfl) rfl rfl ⟨(blk_cell BK274.out 0).trans rfl, (blk_cell BK274.out 1).trans rfl, (blk_cell BK274.out 2).trans rfl, (blk_cell BK255.out 0).trans rfl, (blk_cell BK255.out 1).trans rfl, (blk_cell BK255.out 2).trans rfl⟩ (fun hHeld => ?_)
      generalize wc.drew = w40 at HO_275001 HO_275002 BK255 BK274 HB hHeld ⊢
      refine take_ (i := 0) (N := some 48) (v := ?_) (a' := ?_) #[true, false, false, false, false] rfl rfl (by kernel_rfl) (fun _ _ _ h => h) (Or.inl ⟨by rfl, ?_⟩) hHeld ?_ ?_
      rotate_left
      ·
       rintro w' ⟨s0, s1, s2, s3, s4, s5⟩
       go_simp
       with_reducible rfl
      rotate_left
      ·
       simp only [Act.put, List.setIfInBounds_toArray, List.set_cons_zero, List.set_cons_succ, i64_w, i32_w]
       rfl
      refine take_ (i := 1) (N := some 49) (v := ?_) (a' := ?_) #[true, true, false, false, false] rfl rfl (by kernel_rfl) (fun _ _ _ h => h) (Or.inl ⟨by rfl, ?_⟩) hHeld ?_ ?_
      rotate_left
      ·
       rintro w' ⟨s0, s1, s2, s3, s4, s5⟩
       go_simp
       with_reducible rfl
      rotate_left
      ·
       simp only [Act.put, List.setIfInBounds_toArray, List.set_cons_zero, List.set_cons_succ, i64_w, i32_w]
       rfl
      refine one_ (i := 2) (N := some 50) #[true, true, true, false, false] rfl rfl (by kernel_rfl) (by decide) (fun K hK => ?_)
      refine goes_ Try.func17 (by kernel_rfl) rfl #[.agg #[.int .i64 a0_0, .slice A0_1 l0_1.length c0_1, .slice A0_2 l0_2.length c0_2]] (by rfl) rfl rfl tM ?_
      with_reducible refine (laws_toPile.calls kj11 a0_0 _ _ l0_1 _ _ l0_2 t278 t279 t282 _ ?side1 ?side2 ?side3 ?side4 A32.out).mono ?_
      (case side1 => exact tC (Kd.C_below HR0_1.out HB.out))
      (case side2 => exact HC0_1.out)
      (case side3 => exact tC (Kd.C_below HR0_2.out HB.out))
      (case side4 => exact HC0_2.out)
      rintro e w41 ⟨v280, v283, rfl, ho0, ho1, hb⟩
      refine ⟨_, rfl, ?_⟩
      have HO281 := Aside0.mk (Kd.R_lower (Kd.R_new' (Kd.R_new' ho0 (Kd.R_lt (tR HO_275001.out))) (Kd.R_lt (tR HO_275002.out))) (below_size (tB HB.out)))
      have HO284 := Aside0.mk (Kd.R_lower (Kd.R_new' (Kd.R_new' ho1 (Kd.R_lt (tR HO_275001.out))) (Kd.R_lt (tR HO_275002.out))) (below_size (tB HB.out)))
      replace HO_275001 := Aside0.mk (Kd.R_mono (Kd.R_told (Kd.R_told (Kd.R_old (tR HO_275001.out) hb) (Kd.R_base ho0)) (Kd.R_base ho1)) (fun _ h_ => h_.1))
      replace HO_275002 := Aside0.mk (Kd.R_mono (Kd.R_told (Kd.R_told (Kd.R_old (tR HO_275002.out) hb) (Kd.R_base ho0)) (Kd.R_base ho1)) (fun _ h_ => h_.1))
      replace BK255 := bkB BK255 hb
      replace BK274 := bkB BK274 hb
      replace HB := Aside0.mk (below_step (tB HB.out) hb)
      (try clear hb)
      (try clear hb2)
      (try clear hk)
      (try clear hi)
      (try clear ho0)
      (try clear ho1)
      obtain ⟨Ao42, co42, eo42⟩ := Kd.R_slice HO281.out
      (first | subst eo42 | (injection eo42 with f1_ f2_ f3_; have f4_ := f1_.symm; have f5_ := f3_.symm; clear f1_ f2_ f3_; subst f4_; subst f5_))
      obtain ⟨Ao43, co43, eo43⟩ := Kd.R_slice HO284.out
      (first | subst eo43 | (injection eo43 with f1_ f2_ f3_; have f4_ := f1_.symm; have f5_ := f3_.symm; clear f1_ f2_ f3_; subst f4_; subst f5_))
      refine hK.out _ _ ⟨(blk_cell BK274.out 0).trans rfl, (blk_cell BK274.out 1).trans rfl, (blk_cell BK274.out 2).trans rfl, (blk_cell BK255.out 0).trans rfl, (blk_cell BK255.out 1).trans rfl, (blk_cell BK255.out 2).trans rfl⟩ (fun hHeld => ?_)
      clear hK K
      refine norm_ (a' := ?_) ?_ ?_
      rotate_left
      ·
       show Act.put _ (some 50) _ = _
       simp only [Act.put, List.setIfInBounds_toArray, List.set_cons_zero, List.set_cons_succ, i64_w, i32_w]
       rfl
      refine one_ (i := 3) (N := some 51) #[true, true, true, true, false] rfl rfl (by kernel_rfl) (by decide) (fun K hK => ?_)
      refine goes_ Try.func19 (by kernel_rfl) rfl #[.agg #[.int .i64 t267, .slice Ao26 t268.length co26, .slice Ao27 t271.length co27], .agg #[.int .i64 t278, .slice Ao42 t279.length co42, .slice Ao43 t282.length co43]] (by rfl) rfl rfl tM ?_
      with_reducible refine (laws_eqPile.calls kj11 t267 _ _ t268 _ _ t271 t278 _ _ t279 _ _ t282 false _ ?side1 ?side2 ?side3 ?side4 ?side5 ?side6 ?side7 ?side8 A33.out).mono ?_
      (case side1 => exact tC (Kd.R_reads' HO_275001.out).2.2)
      (case side2 => exact (Kd.R_reads' HO_275001.out).2.1)
      (case side3 => exact tC (Kd.R_reads' HO_275002.out).2.2)
      (case side4 => exact (Kd.R_reads' HO_275002.out).2.1)
      (case side5 => exact tC (Kd.R_reads' HO281.out).2.2)
      (case side6 => exact (Kd.R_reads' HO281.out).2.1)
      (case side7 => exact tC (Kd.R_reads' HO284.out).2.2)
      (case side8 => exact (Kd.R_reads' HO284.out).2.1)
      rintro e w44 ⟨rfl, hb⟩
      refine ⟨_, rfl, ?_⟩
      replace HO_275001 := Aside0.mk (Kd.R_below (tR HO_275001.out) hb)
      replace HO_275002 := Aside0.mk (Kd.R_below (tR HO_275002.out) hb)
      replace HO281 := Aside0.mk (Kd.R_below (tR HO281.out) hb)
      replace HO284 := Aside0.mk (Kd.R_below (tR HO284.out) hb)
      replace BK255 := bkB BK255 hb
      replace BK274 := bkB BK274 hb
      replace HB := Aside0.mk (below_step (tB HB.out) hb)
      (try clear hb)
      (try clear hb2)
      (try clear hk)
      (try clear hi)
      refine hK.out _ _ ⟨(blk_cell BK274.out 0).trans rfl, (blk_cell BK274.out 1).trans rfl, (blk_cell BK274.out 2).trans rfl, (blk_cell BK255.out 0).trans rfl, (blk_cell BK255.out 1).trans rfl, (blk_cell BK255.out 2).trans rfl⟩ (fun hHeld => ?_)
      clear hK K
      refine norm_ (a' := ?_) ?_ ?_
      rotate_left
      ·
       show Act.put _ (some 51) _ = _
       simp only [Act.put, List.setIfInBounds_toArray, List.set_cons_zero, List.set_cons_succ, i64_w, i32_w]
       rfl
      refine pure_ (i := 4) (N := some 52) (v := ?_) (a' := ?_) #[true, true, true, true, true] rfl rfl (by kernel_rfl) (fun _ _ _ h => h) (Or.inl ⟨by rfl, ?_⟩) ?_ ?_
      rotate_left
      ·
       intro w'
       go_simp
       with_reducible rfl
      rotate_left
      ·
       simp only [Act.put, List.setIfInBounds_toArray, List.set_cons_zero, List.set_cons_succ, i64_w, i32_w]
       rfl
      refine done_ (by kernel_rfl) ?_
      try go_wp2
      go_ret
      exact ⟨by first | rfl | (simp [errW_none, errW_some] <;> rfl) | (simp [*, errW_none, errW_some] <;> rfl), tB HB.out⟩

end Go.Proofs.Ytigijeedekjeiaa.PFnExactFirmTops

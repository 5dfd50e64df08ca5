/- Printed by the program print2.py over the translation: each function as a Lean function, and the proof that the call comes to its answer. -/
import Derived.Test.YtbdajkfihbaapaaPFnExactHangLeavesx0
import Derived.Test.YtbdajkfihbaapaaPFnExactHangLeavesx1
import Derived.Test.YtbdajkfihbaapaaPFnExactHangLeavesx2
import Derived.Test.YtbdajkfihbaapaaPFnExactHangLeavesx3
import Derived.Test.YtbdajkfihbaapaaPFnExactHangLeavesx6
import Derived.Test.YtbdajkfihbaapaaPFnExactHangLeavesx7
import Derived.Test.YtbdajkfihbaapaaPFnExactHangLeavesx11
namespace Go.Proofs.Ytbdajkfihbaapaa.PFnExactHangLeaves
open Go.RowKit Go.Proofs.YtbdajkfihbaapaaW.PrintWords Go.Proofs.YtbdajkfihbaapaaW.PrintLast Go.Proofs.YtbdajkfihbaapaaW.PrintMore
attribute [local go_sem] max2_int min2_int max_two min_two max_three min_three max_four min_four   -- for this text's walks alone
set_option linter.unusedVariables false
set_option linter.unusedSimpArgs false

/-! ### laws_FnExactHangLeaves: function 12 -/
mutual
def laws_FnExactHangLeaves.j0 : Nat → List Int → Bool → List Int → Bool → Bool → List (S58) → List (S58) → List (S58) → List (S58) → List (S58) → List (S58) → List (S58) → List (S58) → Option (Bool)
 | 0, _, _, _, _, _, _, _, _, _, _, _, _, _ => none
 | k + 1, x1, x7, x9, x11, x51, x310000, x310001, x328000, x328001, x335000, x335001, x346000, x346001 => if x51 = true then (some false) else ((laws_toMobile.f k x310000 x310001).bind fun bt347 => ((laws_eqMobile.f k x335000 x335001 bt347.1 bt347.2).bind fun t353 => (if t353 = true then ((laws_toIntS.f k x1).bind fun t354 => ((laws_eqIntS.f k x9 t354).bind fun t357 => (if t357 = true then ((laws_markMobile.f k x335000 x335001 1).bind fun bt358 => ((laws_markIntS.f k x9 bt358.1).bind fun bt361 => (if bt361.1 < 0 then (laws_FnExactHangLeaves.j1 k x1 x7 true x310000 x310001 x328000 x328001 x346000 x346001) else ((laws_eqMobile.f k x346000 x346001 x328000 x328001).bind fun t363 => (if t363 = true then (laws_FnExactHangLeaves.j1 k x1 x7 (x11 != x7) x310000 x310001 x328000 x328001 x346000 x346001) else (laws_FnExactHangLeaves.j1 k x1 x7 true x310000 x310001 x328000 x328001 x346000 x346001)))))) else (some false)))) else (some false))))
def laws_FnExactHangLeaves.j1 : Nat → List Int → Bool → Bool → List (S58) → List (S58) → List (S58) → List (S58) → List (S58) → List (S58) → Option (Bool)
 | 0, _, _, _, _, _, _, _, _, _ => none
 | k + 1, x1, x7, x80, x310000, x310001, x328000, x328001, x346000, x346001 => if x80 = true then (some false) else ((laws_markMobile.f k x346000 x346001 1).bind fun bt364 => ((laws_heldMobile.f k bt364.2.1 bt364.2.2 1).bind fun t367 => (if t367 < 0 then (some false) else (if t367 = bt364.1 then ((laws_toMobile.f k x310000 x310001).bind fun bt368 => ((laws_toIntS.f k x1).bind fun t374 => ((impl_HangLeaves.f k bt368.1 bt368.2 t374).bind fun bt377 => ((laws_eqMobile.f k bt377.1 bt377.2.1 x328000 x328001).bind fun t385 => (if t385 = true then (laws_FnExactHangLeaves.j2 k bt364.1 (bt377.2.2 != x7) bt364.2.1 bt364.2.2) else (laws_FnExactHangLeaves.j2 k bt364.1 true bt364.2.1 bt364.2.2)))))) else (some false)))))
def laws_FnExactHangLeaves.j2 : Nat → Int → Bool → List (S58) → List (S58) → Option (Bool)
 | 0, _, _, _, _ => none
 | k + 1, x13, x108, x346000, x346001 => if x108 = true then (some false) else ((laws_heldMobile.f k x346000 x346001 1).bind fun t386 => (if t386 < 0 then (some false) else (if t386 = x13 then (some true) else (some false))))
end
def laws_FnExactHangLeaves.f (k : Nat) (l0_0 : List (S58)) (l0_1 : List (S58)) (l1 : List Int) : Option (Bool) := if (l1.length : Int) > 1048576 then (some true) else ((laws_szMobile.f l0_0 l0_1 1048576).bind fun t310 => (if t310 < 0 then (some true) else ((laws_toMobile.f k l0_0 l0_1).bind fun bt311 => ((laws_toIntS.f k l1).bind fun t317 => ((spec_HangLeaves.f k bt311.1 bt311.2 t317).bind fun bt320 => ((laws_toMobile.f k l0_0 l0_1).bind fun bt328 => ((laws_toIntS.f k l1).bind fun t335 => ((impl_HangLeaves.f k bt328.1 bt328.2 t335).bind fun bt338 => ((laws_eqMobile.f k bt338.1 bt338.2.1 bt320.1 bt320.2.1).bind fun t346 => (if t346 = true then (laws_FnExactHangLeaves.j0 k l1 bt320.2.2 t335 bt338.2.2 (bt338.2.2 != bt320.2.2) l0_0 l0_1 bt320.1 bt320.2.1 bt328.1 bt328.2 bt338.1 bt338.2.1) else (laws_FnExactHangLeaves.j0 k l1 bt320.2.2 t335 bt338.2.2 true l0_0 l0_1 bt320.1 bt320.2.1 bt328.1 bt328.2 bt338.1 bt338.2.1)))))))))))
theorem laws_FnExactHangLeaves.mono_l : ∀ k, (∀ y0 y1 y2 y3 y4 y5 y6 y7 y8 y9 y10 y11 y12, LeO (laws_FnExactHangLeaves.j0 k y0 y1 y2 y3 y4 y5 y6 y7 y8 y9 y10 y11 y12) (laws_FnExactHangLeaves.j0 (k + 1) y0 y1 y2 y3 y4 y5 y6 y7 y8 y9 y10 y11 y12)) ∧ (∀ y0 y1 y2 y3 y4 y5 y6 y7 y8, LeO (laws_FnExactHangLeaves.j1 k y0 y1 y2 y3 y4 y5 y6 y7 y8) (laws_FnExactHangLeaves.j1 (k + 1) y0 y1 y2 y3 y4 y5 y6 y7 y8)) ∧ (∀ y0 y1 y2 y3, LeO (laws_FnExactHangLeaves.j2 k y0 y1 y2 y3) (laws_FnExactHangLeaves.j2 (k + 1) y0 y1 y2 y3))
 | 0 => ⟨fun _ _ _ _ _ _ _ _ _ _ _ _ _ r h => by simp [laws_FnExactHangLeaves.j0] at h, fun _ _ _ _ _ _ _ _ _ r h => by simp [laws_FnExactHangLeaves.j1] at h, fun _ _ _ _ r h => by simp [laws_FnExactHangLeaves.j2] at h⟩
 | k + 1 => by
  obtain ⟨ih0, ih1, ih2⟩ := laws_FnExactHangLeaves.mono_l k
  refine ⟨?_, ?_, ?_⟩
  ·
   intro y0 y1 y2 y3 y4 y5 y6 y7 y8 y9 y10 y11 y12
   unfold laws_FnExactHangLeaves.j0
   repeat' first
   | (with_reducible exact ih0 _ _ _ _ _ _ _ _ _ _ _ _ _)
   | (with_reducible exact ih1 _ _ _ _ _ _ _ _ _)
   | (with_reducible exact ih2 _ _ _ _)
   | (with_reducible exact impl_HangLeaves.mono _ _ _ _)
   | (with_reducible exact laws_eqIntS.mono _ _ _)
   | (with_reducible exact laws_eqMobile.mono _ _ _ _ _)
   | (with_reducible exact laws_heldMobile.mono _ _ _ _)
   | (with_reducible exact laws_markIntS.mono _ _ _)
   | (with_reducible exact laws_markMobile.mono _ _ _ _)
   | (with_reducible exact laws_toIntS.mono _ _)
   | (with_reducible exact laws_toMobile.mono _ _ _)
   | (with_reducible exact spec_HangLeaves.mono _ _ _ _)
   | (with_reducible exact LeO.refl _)
   | (with_reducible exact LeO.none _)
   | (with_reducible refine LeO.ite ?_ ?_)
   | (with_reducible refine LeO.bind ?_ (fun _ => ?_))
   | exact ih0 _ _ _ _ _ _ _ _ _ _ _ _ _
   | exact ih1 _ _ _ _ _ _ _ _ _
   | exact ih2 _ _ _ _
   | exact impl_HangLeaves.mono _ _ _ _
   | exact laws_eqIntS.mono _ _ _
   | exact laws_eqMobile.mono _ _ _ _ _
   | exact laws_heldMobile.mono _ _ _ _
   | exact laws_markIntS.mono _ _ _
   | exact laws_markMobile.mono _ _ _ _
   | exact laws_toIntS.mono _ _
   | exact laws_toMobile.mono _ _ _
   | exact spec_HangLeaves.mono _ _ _ _
   | exact LeO.none _
   | refine LeO.ite ?_ ?_
   | refine LeO.bind ?_ (fun _ => ?_)
  ·
   intro y0 y1 y2 y3 y4 y5 y6 y7 y8
   unfold laws_FnExactHangLeaves.j1
   repeat' first
   | (with_reducible exact ih0 _ _ _ _ _ _ _ _ _ _ _ _ _)
   | (with_reducible exact ih1 _ _ _ _ _ _ _ _ _)
   | (with_reducible exact ih2 _ _ _ _)
   | (with_reducible exact impl_HangLeaves.mono _ _ _ _)
   | (with_reducible exact laws_eqIntS.mono _ _ _)
   | (with_reducible exact laws_eqMobile.mono _ _ _ _ _)
   | (with_reducible exact laws_heldMobile.mono _ _ _ _)
   | (with_reducible exact laws_markIntS.mono _ _ _)
   | (with_reducible exact laws_markMobile.mono _ _ _ _)
   | (with_reducible exact laws_toIntS.mono _ _)
   | (with_reducible exact laws_toMobile.mono _ _ _)
   | (with_reducible exact spec_HangLeaves.mono _ _ _ _)
   | (with_reducible exact LeO.refl _)
   | (with_reducible exact LeO.none _)
   | (with_reducible refine LeO.ite ?_ ?_)
   | (with_reducible refine LeO.bind ?_ (fun _ => ?_))
   | exact ih0 _ _ _ _ _ _ _ _ _ _ _ _ _
   | exact ih1 _ _ _ _ _ _ _ _ _
   | exact ih2 _ _ _ _
   | exact impl_HangLeaves.mono _ _ _ _
   | exact laws_eqIntS.mono _ _ _
   | exact laws_eqMobile.mono _ _ _ _ _
   | exact laws_heldMobile.mono _ _ _ _
   | exact laws_markIntS.mono _ _ _
   | exact laws_markMobile.mono _ _ _ _
   | exact laws_toIntS.mono _ _
   | exact laws_toMobile.mono _ _ _
   | exact spec_HangLeaves.mono _ _ _ _
   | exact LeO.none _
   | refine LeO.ite ?_ ?_
   | refine LeO.bind ?_ (fun _ => ?_)
  ·
   intro y0 y1 y2 y3
   unfold laws_FnExactHangLeaves.j2
   repeat' first
   | (with_reducible exact ih0 _ _ _ _ _ _ _ _ _ _ _ _ _)
   | (with_reducible exact ih1 _ _ _ _ _ _ _ _ _)
   | (with_reducible exact ih2 _ _ _ _)
   | (with_reducible exact impl_HangLeaves.mono _ _ _ _)
   | (with_reducible exact laws_eqIntS.mono _ _ _)
   | (with_reducible exact laws_eqMobile.mono _ _ _ _ _)
   | (with_reducible exact laws_heldMobile.mono _ _ _ _)
   | (with_reducible exact laws_markIntS.mono _ _ _)
   | (with_reducible exact laws_markMobile.mono _ _ _ _)
   | (with_reducible exact laws_toIntS.mono _ _)
   | (with_reducible exact laws_toMobile.mono _ _ _)
   | (with_reducible exact spec_HangLeaves.mono _ _ _ _)
   | (with_reducible exact LeO.refl _)
   | (with_reducible exact LeO.none _)
   | (with_reducible refine LeO.ite ?_ ?_)
   | (with_reducible refine LeO.bind ?_ (fun _ => ?_))
   | exact ih0 _ _ _ _ _ _ _ _ _ _ _ _ _
   | exact ih1 _ _ _ _ _ _ _ _ _
   | exact ih2 _ _ _ _
   | exact impl_HangLeaves.mono _ _ _ _
   | exact laws_eqIntS.mono _ _ _
   | exact laws_eqMobile.mono _ _ _ _ _
   | exact laws_heldMobile.mono _ _ _ _
   | exact laws_markIntS.mono _ _ _
   | exact laws_markMobile.mono _ _ _ _
   | exact laws_toIntS.mono _ _
   | exact laws_toMobile.mono _ _ _
   | exact spec_HangLeaves.mono _ _ _ _
   | exact LeO.none _
   | refine LeO.ite ?_ ?_
   | refine LeO.bind ?_ (fun _ => ?_)
theorem laws_FnExactHangLeaves.mono : ∀ a0 a1 a2 k, LeO (laws_FnExactHangLeaves.f k a0 a1 a2) (laws_FnExactHangLeaves.f (k + 1) a0 a1 a2) := by
 intro a0 a1 a2 k
 obtain ⟨ih0, ih1, ih2⟩ := laws_FnExactHangLeaves.mono_l k
 unfold laws_FnExactHangLeaves.f
 repeat' first
   | (with_reducible exact ih0 _ _ _ _ _ _ _ _ _ _ _ _ _)
   | (with_reducible exact ih1 _ _ _ _ _ _ _ _ _)
   | (with_reducible exact ih2 _ _ _ _)
   | (with_reducible exact impl_HangLeaves.mono _ _ _ _)
   | (with_reducible exact laws_eqIntS.mono _ _ _)
   | (with_reducible exact laws_eqMobile.mono _ _ _ _ _)
   | (with_reducible exact laws_heldMobile.mono _ _ _ _)
   | (with_reducible exact laws_markIntS.mono _ _ _)
   | (with_reducible exact laws_markMobile.mono _ _ _ _)
   | (with_reducible exact laws_toIntS.mono _ _)
   | (with_reducible exact laws_toMobile.mono _ _ _)
   | (with_reducible exact spec_HangLeaves.mono _ _ _ _)
   | (with_reducible exact LeO.refl _)
   | (with_reducible exact LeO.none _)
   | (with_reducible refine LeO.ite ?_ ?_)
   | (with_reducible refine LeO.bind ?_ (fun _ => ?_))
   | exact ih0 _ _ _ _ _ _ _ _ _ _ _ _ _
   | exact ih1 _ _ _ _ _ _ _ _ _
   | exact ih2 _ _ _ _
   | exact impl_HangLeaves.mono _ _ _ _
   | exact laws_eqIntS.mono _ _ _
   | exact laws_eqMobile.mono _ _ _ _ _
   | exact laws_heldMobile.mono _ _ _ _
   | exact laws_markIntS.mono _ _ _
   | exact laws_markMobile.mono _ _ _ _
   | exact laws_toIntS.mono _ _
   | exact laws_toMobile.mono _ _ _
   | exact spec_HangLeaves.mono _ _ _ _
   | exact LeO.none _
   | refine LeO.ite ?_ ?_
   | refine LeO.bind ?_ (fun _ => ?_)
set_option maxHeartbeats 8000000 in
set_option maxRecDepth 100000 in
theorem laws_FnExactHangLeaves.calls (k : Nat) (A0_0 : Option Addr) (c0_0 : Nat) (l0_0 : List (S58)) (A0_1 : Option Addr) (c0_1 : Nat) (l0_1 : List (S58)) (A1 : Option Addr) (c1 : Nat) (l1 : List Int) (r : Bool) (w : World) (hr0_0 : Kd.C k58 w A0_0 l0_0.length l0_0) (hc0_0 : l0_0.length ≤ c0_0) (hr0_1 : Kd.C k58 w A0_1 l0_1.length l0_1) (hc0_1 : l0_1.length ≤ c0_1) (hr1 : Kd.C (Kd.int .i64) w A1 l1.length l1) (hc1 : l1.length ≤ c1) (h : laws_FnExactHangLeaves.f k l0_0 l0_1 l1 = some r) :
  Calls Try.prog 12 #[.agg #[.slice A0_0 l0_0.length c0_0, .slice A0_1 l0_1.length c0_1], .slice A1 l1.length c1] w fun e w' => e = .returned (.bool r) ∧ Below w.heap.size w w' := by
 have hu24 := Try.underlying24
 have hu27 := Try.underlying27
 have HR0_0 := Aside0.mk hr0_0
 have HC0_0 := Aside0.mk hc0_0
 clear hr0_0 hc0_0
 have HR0_1 := Aside0.mk hr0_1
 have HC0_1 := Aside0.mk hc0_1
 clear hr0_1 hc0_1
 have HR1 := Aside0.mk hr1
 have HC1 := Aside0.mk hc1
 clear hr1 hc1
 have HB := Aside0.mk (Below.refl w.heap.size w)
 have H : (if (l1.length : Int) > 1048576 then (some true) else ((laws_szMobile.f l0_0 l0_1 1048576).bind fun t310 => (if t310 < 0 then (some true) else ((laws_toMobile.f k l0_0 l0_1).bind fun bt311 => ((laws_toIntS.f k l1).bind fun t317 => ((spec_HangLeaves.f k bt311.1 bt311.2 t317).bind fun bt320 => ((laws_toMobile.f k l0_0 l0_1).bind fun bt328 => ((laws_toIntS.f k l1).bind fun t335 => ((impl_HangLeaves.f k bt328.1 bt328.2 t335).bind fun bt338 => ((laws_eqMobile.f k bt338.1 bt338.2.1 bt320.1 bt320.2.1).bind fun t346 => (if t346 = true then (laws_FnExactHangLeaves.j0 k l1 bt320.2.2 t335 bt338.2.2 (bt338.2.2 != bt320.2.2) l0_0 l0_1 bt320.1 bt320.2.1 bt328.1 bt328.2 bt338.1 bt338.2.1) else (laws_FnExactHangLeaves.j0 k l1 bt320.2.2 t335 bt338.2.2 true l0_0 l0_1 bt320.1 bt320.2.1 bt328.1 bt328.2 bt338.1 bt338.2.1)))))))))))) = some r := h
 clear h
 by_cases c3 : (l1.length : Int) > 1048576
 ·
  rw [if_pos c3] at H
  have c3b0 : decide (1048576 < (l1.length : Int)) = true := decide_eq_true c3
  have c3b1 : decide (1048576 < l1.length) = true := decide_eq_true (by omega)
  clear c3
  obtain rfl := Option.some.inj H
  go_enter Try.func12, Try.ntmps12
  go_wp2_with (first | ((with_reducible refine gate_dst (N := 2) rfl ?_); refine box_event ?hg (N := 2) ?hd (cs := #[.slice A0_0 l0_0.length c0_0, .slice A0_1 l0_1.length c0_1]) (t := 24) ?hr ?_; (case hd => rfl); (case hg => rfl); (case hr => first | (go_simp; done) | (go_simp; rfl)); intro gb309 hg w4 hbox hb; have BK309 := Aside0.mk (hbox); have GW309 := Aside0.mk (bS HB.out hg); have GE309 := Aside0.mk (bS HB.out hg); replace HB := Aside0.mk (below_step (tB HB.out) hb); clear hb hbox hg))
  go_ret
  exact ⟨by first | rfl | (simp [errW_none, errW_some] <;> rfl) | (simp [*, errW_none, errW_some] <;> rfl), tB HB.out⟩
 ·
  rw [if_neg c3] at H
  have c3b0 : decide (1048576 < (l1.length : Int)) = false := decide_eq_false c3
  have c3b1 : decide (1048576 < l1.length) = false := decide_eq_false (by omega)
  clear c3
  replace H := Option.bind_eq_some_iff.mp H
  obtain ⟨t310, A50, H⟩ := H
  replace H : (if t310 < 0 then (some true) else ((laws_toMobile.f k l0_0 l0_1).bind fun bt311 => ((laws_toIntS.f k l1).bind fun t317 => ((spec_HangLeaves.f k bt311.1 bt311.2 t317).bind fun bt320 => ((laws_toMobile.f k l0_0 l0_1).bind fun bt328 => ((laws_toIntS.f k l1).bind fun t335 => ((impl_HangLeaves.f k bt328.1 bt328.2 t335).bind fun bt338 => ((laws_eqMobile.f k bt338.1 bt338.2.1 bt320.1 bt320.2.1).bind fun t346 => (if t346 = true then (laws_FnExactHangLeaves.j0 k l1 bt320.2.2 t335 bt338.2.2 (bt338.2.2 != bt320.2.2) l0_0 l0_1 bt320.1 bt320.2.1 bt328.1 bt328.2 bt338.1 bt338.2.1) else (laws_FnExactHangLeaves.j0 k l1 bt320.2.2 t335 bt338.2.2 true l0_0 l0_1 bt320.1 bt320.2.1 bt328.1 bt328.2 bt338.1 bt338.2.1)))))))))) = some r := H
  have A5 := Aside0.mk A50
  clear A50
  by_cases c6 : t310 < 0
  ·
   rw [if_pos c6] at H
   have c6b0 : decide (t310 < 0) = true := decide_eq_true c6
   clear c6
   obtain rfl := Option.some.inj H
   go_enter Try.func12, Try.ntmps12
   go_wp2_with (first | ((with_reducible refine gate_dst (N := 2) rfl ?_); refine box_event ?hg (N := 2) ?hd (cs := #[.slice A0_0 l0_0.length c0_0, .slice A0_1 l0_1.length c0_1]) (t := 24) ?hr ?_; (case hd => rfl); (case hg => rfl); (case hr => first | (go_simp; done) | (go_simp; rfl)); intro gb309 hg w7 hbox hb; have BK309 := Aside0.mk (hbox); have GW309 := Aside0.mk (bS HB.out hg); have GE309 := Aside0.mk (bS HB.out hg); replace HB := Aside0.mk (below_step (tB HB.out) hb); clear hb hbox hg; obtain ⟨hcz8_0, hfz8_0, hcz8_1, hfz8_1⟩ := cz2 BK309) | ((with_reducible refine gate_callee (f := 15) rfl ?_); refine goesL_ (some 22) rfl rfl Try.func15 (by kernel_rfl) rfl #[.agg #[.slice A0_0 l0_0.length c0_0, .slice A0_1 l0_1.length c0_1], .int .i64 1048576] rfl tM ?_; (with_reducible refine (laws_szMobile.calls _ _ l0_0 _ _ l0_1 1048576 t310 _ ?side1 ?side2 ?side3 ?side4 A5.out).mono ?_); (case side1 => exact tC (Kd.C_below HR0_0.out HB.out)); (case side2 => exact HC0_0.out); (case side3 => exact tC (Kd.C_below HR0_1.out HB.out)); (case side4 => exact HC0_1.out); rintro e w9 ⟨rfl, hb⟩; refine ⟨_, rfl, ?_⟩; replace BK309 := bkB BK309 hb; replace HB := Aside0.mk (below_step (tB HB.out) hb); (try clear hb); (try clear hb2); (try clear hk); (try clear hi)))
   go_ret
   exact ⟨by first | rfl | (simp [errW_none, errW_some] <;> rfl) | (simp [*, errW_none, errW_some] <;> rfl), tB HB.out⟩
  ·
   rw [if_neg c6] at H
   have c6b0 : decide (t310 < 0) = false := decide_eq_false c6
   clear c6
   replace H := Option.bind_eq_some_iff.mp H
   obtain ⟨⟨t311, t314⟩, A100, H⟩ := H
   replace H : ((laws_toIntS.f k l1).bind fun t317 => ((spec_HangLeaves.f k t311 t314 t317).bind fun bt320 => ((laws_toMobile.f k l0_0 l0_1).bind fun bt328 => ((laws_toIntS.f k l1).bind fun t335 => ((impl_HangLeaves.f k bt328.1 bt328.2 t335).bind fun bt338 => ((laws_eqMobile.f k bt338.1 bt338.2.1 bt320.1 bt320.2.1).bind fun t346 => (if t346 = true then (laws_FnExactHangLeaves.j0 k l1 bt320.2.2 t335 bt338.2.2 (bt338.2.2 != bt320.2.2) l0_0 l0_1 bt320.1 bt320.2.1 bt328.1 bt328.2 bt338.1 bt338.2.1) else (laws_FnExactHangLeaves.j0 k l1 bt320.2.2 t335 bt338.2.2 true l0_0 l0_1 bt320.1 bt320.2.1 bt328.1 bt328.2 bt338.1 bt338.2.1)))))))) = some r := H
   have A10 := Aside0.mk A100
   clear A100
   replace H := Option.bind_eq_some_iff.mp H
   obtain ⟨t317, A110, H⟩ := H
   replace H : ((spec_HangLeaves.f k t311 t314 t317).bind fun bt320 => ((laws_toMobile.f k l0_0 l0_1).bind fun bt328 => ((laws_toIntS.f k l1).bind fun t335 => ((impl_HangLeaves.f k bt328.1 bt328.2 t335).bind fun bt338 => ((laws_eqMobile.f k bt338.1 bt338.2.1 bt320.1 bt320.2.1).bind fun t346 => (if t346 = true then (laws_FnExactHangLeaves.j0 k l1 bt320.2.2 t335 bt338.2.2 (bt338.2.2 != bt320.2.2) l0_0 l0_1 bt320.1 bt320.2.1 bt328.1 bt328.2 bt338.1 bt338.2.1) else (laws_FnExactHangLeaves.j0 k l1 bt320.2.2 t335 bt338.2.2 true l0_0 l0_1 bt320.1 bt320.2.1 bt328.1 bt328.2 bt338.1 bt338.2.1))))))) = some r := H
   have A11 := Aside0.mk A110
   clear A110
   replace H := Option.bind_eq_some_iff.mp H
   obtain ⟨⟨t320, t323, t326⟩, A120, H⟩ := H
   replace H : ((laws_toMobile.f k l0_0 l0_1).bind fun bt328 => ((laws_toIntS.f k l1).bind fun t335 => ((impl_HangLeaves.f k bt328.1 bt328.2 t335).bind fun bt338 => ((laws_eqMobile.f k bt338.1 bt338.2.1 t320 t323).bind fun t346 => (if t346 = true then (laws_FnExactHangLeaves.j0 k l1 t326 t335 bt338.2.2 (bt338.2.2 != t326) l0_0 l0_1 t320 t323 bt328.1 bt328.2 bt338.1 bt338.2.1) else (laws_FnExactHangLeaves.j0 k l1 t326 t335 bt338.2.2 true l0_0 l0_1 t320 t323 bt328.1 bt328.2 bt338.1 bt338.2.1)))))) = some r := H
   have A12 := Aside0.mk A120
   clear A120
   replace H := Option.bind_eq_some_iff.mp H
   obtain ⟨⟨t328, t331⟩, A130, H⟩ := H
   replace H : ((laws_toIntS.f k l1).bind fun t335 => ((impl_HangLeaves.f k t328 t331 t335).bind fun bt338 => ((laws_eqMobile.f k bt338.1 bt338.2.1 t320 t323).bind fun t346 => (if t346 = true then (laws_FnExactHangLeaves.j0 k l1 t326 t335 bt338.2.2 (bt338.2.2 != t326) l0_0 l0_1 t320 t323 t328 t331 bt338.1 bt338.2.1) else (laws_FnExactHangLeaves.j0 k l1 t326 t335 bt338.2.2 true l0_0 l0_1 t320 t323 t328 t331 bt338.1 bt338.2.1))))) = some r := H
   have A13 := Aside0.mk A130
   clear A130
   replace H := Option.bind_eq_some_iff.mp H
   obtain ⟨t335, A140, H⟩ := H
   replace H : ((impl_HangLeaves.f k t328 t331 t335).bind fun bt338 => ((laws_eqMobile.f k bt338.1 bt338.2.1 t320 t323).bind fun t346 => (if t346 = true then (laws_FnExactHangLeaves.j0 k l1 t326 t335 bt338.2.2 (bt338.2.2 != t326) l0_0 l0_1 t320 t323 t328 t331 bt338.1 bt338.2.1) else (laws_FnExactHangLeaves.j0 k l1 t326 t335 bt338.2.2 true l0_0 l0_1 t320 t323 t328 t331 bt338.1 bt338.2.1)))) = some r := H
   have A14 := Aside0.mk A140
   clear A140
   replace H := Option.bind_eq_some_iff.mp H
   obtain ⟨⟨t338, t341, t344⟩, A150, H⟩ := H
   replace H : ((laws_eqMobile.f k t338 t341 t320 t323).bind fun t346 => (if t346 = true then (laws_FnExactHangLeaves.j0 k l1 t326 t335 t344 (t344 != t326) l0_0 l0_1 t320 t323 t328 t331 t338 t341) else (laws_FnExactHangLeaves.j0 k l1 t326 t335 t344 true l0_0 l0_1 t320 t323 t328 t331 t338 t341))) = some r := H
   have A15 := Aside0.mk A150
   clear A150
   have HC16 := Aside0.mk H
   clear H
   go_enter Try.func12, Try.ntmps12
   go_upto_region 11 with (first | ((with_reducible refine gate_dst (N := 2) rfl ?_); refine box_event ?hg (N := 2) ?hd (cs := #[.slice A0_0 l0_0.length c0_0, .slice A0_1 l0_1.length c0_1]) (t := 24) ?hr ?_; (case hd => rfl); (case hg => rfl); (case hr => first | (go_simp; done) | (go_simp; rfl)); intro gb309 hg w17 hbox hb; have BK309 := Aside0.mk (hbox); have GW309 := Aside0.mk (bS HB.out hg); have GE309 := Aside0.mk (bS HB.out hg); replace HB := Aside0.mk (below_step (tB HB.out) hb); clear hb hbox hg; obtain ⟨hcz18_0, hfz18_0, hcz18_1, hfz18_1⟩ := cz2 BK309) | ((with_reducible refine gate_callee (f := 15) rfl ?_); refine goesL_ (some 22) rfl rfl Try.func15 (by kernel_rfl) rfl #[.agg #[.slice A0_0 l0_0.length c0_0, .slice A0_1 l0_1.length c0_1], .int .i64 1048576] rfl tM ?_; (with_reducible refine (laws_szMobile.calls _ _ l0_0 _ _ l0_1 1048576 t310 _ ?side1 ?side2 ?side3 ?side4 A5.out).mono ?_); (case side1 => exact tC (Kd.C_below HR0_0.out HB.out)); (case side2 => exact HC0_0.out); (case side3 => exact tC (Kd.C_below HR0_1.out HB.out)); (case side4 => exact HC0_1.out); rintro e w19 ⟨rfl, hb⟩; refine ⟨_, rfl, ?_⟩; replace BK309 := bkB BK309 hb; replace HB := Aside0.mk (below_step (tB HB.out) hb); (try clear hb); (try clear hb2); (try clear hk); (try clear hi); obtain ⟨hcz20_0, hfz20_0, hcz20_1, hfz20_1⟩ := cz2 BK309) | ((with_reducible refine gate_callee (f := 17) rfl ?_); refine goesL_ (some 27) rfl rfl Try.func17 (by kernel_rfl) rfl #[.agg #[.slice A0_0 l0_0.length c0_0, .slice A0_1 l0_1.length c0_1]] rfl tM ?_; (with_reducible refine (laws_toMobile.calls k _ _ l0_0 _ _ l0_1 t311 t314 _ ?side1 ?side2 ?side3 ?side4 A10.out).mono ?_); (case side1 => exact tC (Kd.C_below HR0_0.out HB.out)); (case side2 => exact HC0_0.out); (case side3 => exact tC (Kd.C_below HR0_1.out HB.out)); (case side4 => exact HC0_1.out); rintro e w21 ⟨v312, v315, rfl, ho0, ho1, hb⟩; refine ⟨_, rfl, ?_⟩; have HO313 := Aside0.mk (Kd.R_lower ho0 (below_size (tB HB.out))); have HO316 := Aside0.mk (Kd.R_lower ho1 (below_size (tB HB.out))); replace BK309 := bkB BK309 hb; replace HB := Aside0.mk (below_step (tB HB.out) hb); (try clear hb); (try clear hb2); (try clear hk); (try clear hi); (try clear ho0); (try clear ho1)) | ((with_reducible refine gate_callee (f := 45) rfl ?_); refine goesL_ (some 29) rfl rfl Try.func45 (by kernel_rfl) rfl #[.slice A1 l1.length c1] rfl tM ?_; (with_reducible refine (laws_toIntS.calls k _ _ l1 t317 _ ?side1 ?side2 A11.out).mono ?_); (case side1 => exact tC (Kd.C_below HR1.out HB.out)); (case side2 => exact HC1.out); rintro e w22 ⟨v318, rfl, ho0, hb⟩; refine ⟨_, rfl, ?_⟩; replace HO313 := Aside0.mk (Kd.R_below (tR HO313.out) hb); replace HO316 := Aside0.mk (Kd.R_below (tR HO316.out) hb); have HO319 := Aside0.mk (Kd.R_lower ho0 (below_size (tB HB.out))); replace BK309 := bkB BK309 hb; replace HB := Aside0.mk (below_step (tB HB.out) hb); (try clear hb); (try clear hb2); (try clear hk); (try clear hi); (try clear ho0); obtain ⟨Ao23, co23, eo23⟩ := Kd.R_slice HO313.out; subst eo23; obtain ⟨Ao24, co24, eo24⟩ := Kd.R_slice HO316.out; subst eo24; obtain ⟨Ao25, co25, eo25⟩ := Kd.R_slice HO319.out; subst eo25) | ((with_reducible refine gate_callee (f := 44) rfl ?_); refine goesL_ (some 30) rfl rfl Try.func44 (by kernel_rfl) rfl #[.agg #[.slice Ao23 t311.length co23, .slice Ao24 t314.length co24], .slice Ao25 t317.length co25] rfl tM ?_; (with_reducible refine (spec_HangLeaves.calls k _ _ t311 _ _ t314 _ _ t317 t320 t323 t326 _ ?side1 ?side2 ?side3 ?side4 ?side5 ?side6 A12.out).mono ?_); (case side1 => exact tC (Kd.R_reads' HO313.out).2.2); (case side2 => exact (Kd.R_reads' HO313.out).2.1); (case side3 => exact tC (Kd.R_reads' HO316.out).2.2); (case side4 => exact (Kd.R_reads' HO316.out).2.1); (case side5 => exact tC (Kd.R_reads' HO319.out).2.2); (case side6 => exact (Kd.R_reads' HO319.out).2.1); rintro e w26 ⟨v321, v324, rfl, ho0, ho1, hb⟩; refine ⟨_, rfl, ?_⟩; replace HO319 := Aside0.mk (Kd.R_below (tR HO319.out) hb); have HO322 := Aside0.mk (Kd.R_lower (Kd.R_new' (Kd.R_new' ho0 (Kd.R_lt (tR HO313.out))) (Kd.R_lt (tR HO316.out))) (below_size (tB HB.out))); have HO325 := Aside0.mk (Kd.R_lower (Kd.R_new' (Kd.R_new' ho1 (Kd.R_lt (tR HO313.out))) (Kd.R_lt (tR HO316.out))) (below_size (tB HB.out))); replace HO313 := Aside0.mk (Kd.R_mono (Kd.R_told (Kd.R_told (Kd.R_old (tR HO313.out) hb) (Kd.R_base ho0)) (Kd.R_base ho1)) (fun _ h_ => h_.1)); replace HO316 := Aside0.mk (Kd.R_mono (Kd.R_told (Kd.R_told (Kd.R_old (tR HO316.out) hb) (Kd.R_base ho0)) (Kd.R_base ho1)) (fun _ h_ => h_.1)); replace BK309 := bkB BK309 hb; replace HB := Aside0.mk (below_step (tB HB.out) hb); (try clear hb); (try clear hb2); (try clear hk); (try clear hi); (try clear ho0); (try clear ho1)) | ((with_reducible refine gate_dst (N := 6) rfl ?_); refine box_event ?hg (N := 6) ?hd (cs := #[.slice none 0 0, .slice none 0 0]) (t := 27) ?hr ?_; (case hd => rfl); (case hg => rfl); (case hr => first | (go_simp; done) | (go_simp; rfl)); intro gb327 hg w27 hbox hb; replace HO313 := Aside0.mk (Kd.R_below (tR HO313.out) hb); replace HO316 := Aside0.mk (Kd.R_below (tR HO316.out) hb); replace HO319 := Aside0.mk (Kd.R_below (tR HO319.out) hb); replace HO322 := Aside0.mk (Kd.R_below (tR HO322.out) hb); replace HO325 := Aside0.mk (Kd.R_below (tR HO325.out) hb); have BK327 := Aside0.mk (hbox); have GW327 := Aside0.mk (bS HB.out hg); have GE327 := Aside0.mk (bS HB.out hg); replace HB := Aside0.mk (below_step (tB HB.out) hb); have NB309_327 := Aside0.mk (nL BK309.out hg); have NB327_309 := Aside0.mk (nG BK309.out hg); replace BK309 := bkB BK309 hb; clear hb hbox hg; obtain ⟨Ao28, co28, eo28⟩ := Kd.R_slice HO322.out; subst eo28; have hnb29 := NB327_309.out; have hnc29 := NB309_327.out; obtain ⟨hcz30_0, hfz30_0, hcz30_1, hfz30_1⟩ := cz2 BK327; obtain ⟨Ao31, co31, eo31⟩ := Kd.R_slice HO325.out; subst eo31; obtain ⟨hcz32_0, hfz32_0, hcz32_1, hfz32_1⟩ := cz2 BK309) | ((with_reducible refine gate_callee (f := 17) rfl ?_); refine goesL_ (some 34) rfl rfl Try.func17 (by kernel_rfl) rfl #[.agg #[.slice A0_0 l0_0.length c0_0, .slice A0_1 l0_1.length c0_1]] rfl tM ?_; (with_reducible refine (laws_toMobile.calls k _ _ l0_0 _ _ l0_1 t328 t331 _ ?side1 ?side2 ?side3 ?side4 A13.out).mono ?_); (case side1 => exact Kd.C_below HR0_0.out (tB HB.out)); (case side2 => exact HC0_0.out); (case side3 => exact Kd.C_below HR0_1.out (tB HB.out)); (case side4 => exact HC0_1.out); rintro e w33 ⟨v329, v332, rfl, ho0, ho1, hb⟩; refine ⟨_, rfl, ?_⟩; replace HO319 := Aside0.mk (Kd.R_below (by (with_reducible repeat (first | apply Kd.R_alloc | apply Kd.R_drewN | apply Kd.R_drew)); exact (Kd.R_mono (Kd.R_far (p := ⟨gb327, 1, none⟩) (Kd.R_far (p := ⟨gb327, 0, none⟩) (Kd.R_types HO319.out BK327.out (by decide)) (fun _ hk => hk.2) (.slice Ao28 t320.length co28)) (fun _ hk => hk.2) (.slice Ao31 t323.length co31)) (fun _ h_ => h_.1))) hb); have HO330 := Aside0.mk (Kd.R_lower (Kd.R_new' (Kd.R_new' (Kd.R_new' (Kd.R_new' ho0 (Kd.R_lt (by (with_reducible repeat (first | apply Kd.R_alloc | apply Kd.R_drewN | apply Kd.R_drew)); exact (Kd.R_mono (Kd.R_far (p := ⟨gb327, 1, none⟩) (Kd.R_far (p := ⟨gb327, 0, none⟩) (Kd.R_types HO313.out BK327.out (by decide)) (fun _ hk => hk.2) (.slice Ao28 t320.length co28)) (fun _ hk => hk.2) (.slice Ao31 t323.length co31)) (fun _ h_ => h_.1))))) (Kd.R_lt (by (with_reducible repeat (first | apply Kd.R_alloc | apply Kd.R_drewN | apply Kd.R_drew)); exact (Kd.R_mono (Kd.R_far (p := ⟨gb327, 1, none⟩) (Kd.R_far (p := ⟨gb327, 0, none⟩) (Kd.R_types HO316.out BK327.out (by decide)) (fun _ hk => hk.2) (.slice Ao28 t320.length co28)) (fun _ hk => hk.2) (.slice Ao31 t323.length co31)) (fun _ h_ => h_.1))))) (Kd.R_lt (by (with_reducible repeat (first | apply Kd.R_alloc | apply Kd.R_drewN | apply Kd.R_drew)); exact (Kd.R_mono (Kd.R_far (p := ⟨gb327, 1, none⟩) (Kd.R_far (p := ⟨gb327, 0, none⟩) (Kd.R_types HO322.out BK327.out (by decide)) (fun _ hk => hk.2) (.slice Ao28 t320.length co28)) (fun _ hk => hk.2) (.slice Ao31 t323.length co31)) (fun _ h_ => h_.1))))) (Kd.R_lt (by (with_reducible repeat (first | apply Kd.R_alloc | apply Kd.R_drewN | apply Kd.R_drew)); exact (Kd.R_mono (Kd.R_far (p := ⟨gb327, 1, none⟩) (Kd.R_far (p := ⟨gb327, 0, none⟩) (Kd.R_types HO325.out BK327.out (by decide)) (fun _ hk => hk.2) (.slice Ao28 t320.length co28)) (fun _ hk => hk.2) (.slice Ao31 t323.length co31)) (fun _ h_ => h_.1))))) (below_size (tB HB.out))); have HO333 := Aside0.mk (Kd.R_lower (Kd.R_new' (Kd.R_new' (Kd.R_new' (Kd.R_new' ho1 (Kd.R_lt (by (with_reducible repeat (first | apply Kd.R_alloc | apply Kd.R_drewN | apply Kd.R_drew)); exact (Kd.R_mono (Kd.R_far (p := ⟨gb327, 1, none⟩) (Kd.R_far (p := ⟨gb327, 0, none⟩) (Kd.R_types HO313.out BK327.out (by decide)) (fun _ hk => hk.2) (.slice Ao28 t320.length co28)) (fun _ hk => hk.2) (.slice Ao31 t323.length co31)) (fun _ h_ => h_.1))))) (Kd.R_lt (by (with_reducible repeat (first | apply Kd.R_alloc | apply Kd.R_drewN | apply Kd.R_drew)); exact (Kd.R_mono (Kd.R_far (p := ⟨gb327, 1, none⟩) (Kd.R_far (p := ⟨gb327, 0, none⟩) (Kd.R_types HO316.out BK327.out (by decide)) (fun _ hk => hk.2) (.slice Ao28 t320.length co28)) (fun _ hk => hk.2) (.slice Ao31 t323.length co31)) (fun _ h_ => h_.1))))) (Kd.R_lt (by (with_reducible repeat (first | apply Kd.R_alloc | apply Kd.R_drewN | apply Kd.R_drew)); exact (Kd.R_mono (Kd.R_far (p := ⟨gb327, 1, none⟩) (Kd.R_far (p := ⟨gb327, 0, none⟩) (Kd.R_types HO322.out BK327.out (by decide)) (fun _ hk => hk.2) (.slice Ao28 t320.length co28)) (fun _ hk => hk.2) (.slice Ao31 t323.length co31)) (fun _ h_ => h_.1))))) (Kd.R_lt (by (with_reducible repeat (first | apply Kd.R_alloc | apply Kd.R_drewN | apply Kd.R_drew)); exact (Kd.R_mono (Kd.R_far (p := ⟨gb327, 1, none⟩) (Kd.R_far (p := ⟨gb327, 0, none⟩) (Kd.R_types HO325.out BK327.out (by decide)) (fun _ hk => hk.2) (.slice Ao28 t320.length co28)) (fun _ hk => hk.2) (.slice Ao31 t323.length co31)) (fun _ h_ => h_.1))))) (below_size (tB HB.out))); replace HO313 := Aside0.mk (Kd.R_mono (Kd.R_told (Kd.R_told (Kd.R_old (by (with_reducible repeat (first | apply Kd.R_alloc | apply Kd.R_drewN | apply Kd.R_drew)); exact (Kd.R_mono (Kd.R_far (p := ⟨gb327, 1, none⟩) (Kd.R_far (p := ⟨gb327, 0, none⟩) (Kd.R_types HO313.out BK327.out (by decide)) (fun _ hk => hk.2) (.slice Ao28 t320.length co28)) (fun _ hk => hk.2) (.slice Ao31 t323.length co31)) (fun _ h_ => h_.1))) hb) (Kd.R_base ho0)) (Kd.R_base ho1)) (fun _ h_ => h_.1)); replace HO316 := Aside0.mk (Kd.R_mono (Kd.R_told (Kd.R_told (Kd.R_old (by (with_reducible repeat (first | apply Kd.R_alloc | apply Kd.R_drewN | apply Kd.R_drew)); exact (Kd.R_mono (Kd.R_far (p := ⟨gb327, 1, none⟩) (Kd.R_far (p := ⟨gb327, 0, none⟩) (Kd.R_types HO316.out BK327.out (by decide)) (fun _ hk => hk.2) (.slice Ao28 t320.length co28)) (fun _ hk => hk.2) (.slice Ao31 t323.length co31)) (fun _ h_ => h_.1))) hb) (Kd.R_base ho0)) (Kd.R_base ho1)) (fun _ h_ => h_.1)); replace HO322 := Aside0.mk (Kd.R_mono (Kd.R_told (Kd.R_told (Kd.R_old (by (with_reducible repeat (first | apply Kd.R_alloc | apply Kd.R_drewN | apply Kd.R_drew)); exact (Kd.R_mono (Kd.R_far (p := ⟨gb327, 1, none⟩) (Kd.R_far (p := ⟨gb327, 0, none⟩) (Kd.R_types HO322.out BK327.out (by decide)) (fun _ hk => hk.2) (.slice Ao28 t320.length co28)) (fun _ hk => hk.2) (.slice Ao31 t323.length co31)) (fun _ h_ => h_.1))) hb) (Kd.R_base ho0)) (Kd.R_base ho1)) (fun _ h_ => h_.1)); replace HO325 := Aside0.mk (Kd.R_mono (Kd.R_told (Kd.R_told (Kd.R_old (by (with_reducible repeat (first | apply Kd.R_alloc | apply Kd.R_drewN | apply Kd.R_drew)); exact (Kd.R_mono (Kd.R_far (p := ⟨gb327, 1, none⟩) (Kd.R_far (p := ⟨gb327, 0, none⟩) (Kd.R_types HO325.out BK327.out (by decide)) (fun _ hk => hk.2) (.slice Ao28 t320.length co28)) (fun _ hk => hk.2) (.slice Ao31 t323.length co31)) (fun _ h_ => h_.1))) hb) (Kd.R_base ho0)) (Kd.R_base ho1)) (fun _ h_ => h_.1)); replace BK309 := Aside0.mk (blk_below (g := gb309) (o := .cells #[.slice A0_0 l0_0.length c0_0, .slice A0_1 l0_1.length c0_1] 24 (0, 0)) (by (with_reducible repeat (first | refine blk_drewN ?_ _ | refine blk_drew ?_ | refine blk_alloc ?_ _)); refine blk_far ?_ NB309_327.out _; (with_reducible repeat (first | refine blk_drewN ?_ _ | refine blk_drew ?_ | refine blk_alloc ?_ _)); refine blk_far ?_ NB309_327.out _; (with_reducible repeat (first | refine blk_drewN ?_ _ | refine blk_drew ?_ | refine blk_alloc ?_ _)); exact BK309.out) hb); replace BK327 := Aside0.mk (blk_below (g := gb327) (o := .cells #[.slice Ao28 t320.length co28, .slice Ao31 t323.length co31] 27 (0, 0)) (by (with_reducible repeat (first | refine blk_drewN ?_ _ | refine blk_drew ?_ | refine blk_alloc ?_ _)); refine blk_put (cs := #[.slice Ao28 t320.length co28, .slice none 0 0]) ?_ 1 _ rfl; (with_reducible repeat (first | refine blk_drewN ?_ _ | refine blk_drew ?_ | refine blk_alloc ?_ _)); refine blk_put (cs := #[.slice none 0 0, .slice none 0 0]) ?_ 0 _ rfl; (with_reducible repeat (first | refine blk_drewN ?_ _ | refine blk_drew ?_ | refine blk_alloc ?_ _)); exact BK327.out) hb); replace HB := Aside0.mk (below_step (tB HB.out) hb); (try clear hb); (try clear hb2); (try clear hk); (try clear hi); (try clear ho0); (try clear ho1)) | ((with_reducible refine gate_dst (N := 8) rfl ?_); refine box_event ?hg (N := 8) ?hd (cs := #[.slice none 0 0, .slice none 0 0]) (t := 27) ?hr ?_; (case hd => rfl); (case hg => rfl); (case hr => first | (go_simp; done) | (go_simp; rfl)); intro gb334 hg w34 hbox hb; replace HO313 := Aside0.mk (Kd.R_below (tR HO313.out) hb); replace HO316 := Aside0.mk (Kd.R_below (tR HO316.out) hb); replace HO319 := Aside0.mk (Kd.R_below (tR HO319.out) hb); replace HO322 := Aside0.mk (Kd.R_below (tR HO322.out) hb); replace HO325 := Aside0.mk (Kd.R_below (tR HO325.out) hb); replace HO330 := Aside0.mk (Kd.R_below (tR HO330.out) hb); replace HO333 := Aside0.mk (Kd.R_below (tR HO333.out) hb); have BK334 := Aside0.mk (hbox); have GW334 := Aside0.mk (bS HB.out hg); have GE334 := Aside0.mk (bS HB.out hg); replace HB := Aside0.mk (below_step (tB HB.out) hb); have NB309_334 := Aside0.mk (nL BK309.out hg); have NB334_309 := Aside0.mk (nG BK309.out hg); replace BK309 := bkB BK309 hb; have NB327_334 := Aside0.mk (nL BK327.out hg); have NB334_327 := Aside0.mk (nG BK327.out hg); replace BK327 := bkB BK327 hb; clear hb hbox hg; obtain ⟨Ao35, co35, eo35⟩ := Kd.R_slice HO330.out; subst eo35; have hnb36 := NB334_309.out; have hnc36 := NB309_334.out; have hnb37 := NB334_327.out; have hnc37 := NB327_334.out; obtain ⟨hcz38_0, hfz38_0, hcz38_1, hfz38_1⟩ := cz2 BK334; obtain ⟨Ao39, co39, eo39⟩ := Kd.R_slice HO333.out; subst eo39) | ((with_reducible refine gate_callee (f := 45) rfl ?_); refine goesL_ (some 36) rfl rfl Try.func45 (by kernel_rfl) rfl #[.slice A1 l1.length c1] rfl tM ?_; (with_reducible refine (laws_toIntS.calls k _ _ l1 t335 _ ?side1 ?side2 A14.out).mono ?_); (case side1 => exact Kd.C_below HR1.out (tB HB.out)); (case side2 => exact HC1.out); rintro e w40 ⟨v336, rfl, ho0, hb⟩; refine ⟨_, rfl, ?_⟩; replace HO313 := Aside0.mk (Kd.R_below (by (with_reducible repeat (first | apply Kd.R_alloc | apply Kd.R_drewN | apply Kd.R_drew)); exact (Kd.R_mono (Kd.R_far (p := ⟨gb334, 1, none⟩) (Kd.R_far (p := ⟨gb334, 0, none⟩) (Kd.R_types HO313.out BK334.out (by decide)) (fun _ hk => hk.2) (.slice Ao35 t328.length co35)) (fun _ hk => hk.2) (.slice Ao39 t331.length co39)) (fun _ h_ => h_.1))) hb); replace HO316 := Aside0.mk (Kd.R_below (by (with_reducible repeat (first | apply Kd.R_alloc | apply Kd.R_drewN | apply Kd.R_drew)); exact (Kd.R_mono (Kd.R_far (p := ⟨gb334, 1, none⟩) (Kd.R_far (p := ⟨gb334, 0, none⟩) (Kd.R_types HO316.out BK334.out (by decide)) (fun _ hk => hk.2) (.slice Ao35 t328.length co35)) (fun _ hk => hk.2) (.slice Ao39 t331.length co39)) (fun _ h_ => h_.1))) hb); replace HO322 := Aside0.mk (Kd.R_below (by (with_reducible repeat (first | apply Kd.R_alloc | apply Kd.R_drewN | apply Kd.R_drew)); exact (Kd.R_mono (Kd.R_far (p := ⟨gb334, 1, none⟩) (Kd.R_far (p := ⟨gb334, 0, none⟩) (Kd.R_types HO322.out BK334.out (by decide)) (fun _ hk => hk.2) (.slice Ao35 t328.length co35)) (fun _ hk => hk.2) (.slice Ao39 t331.length co39)) (fun _ h_ => h_.1))) hb); replace HO325 := Aside0.mk (Kd.R_below (by (with_reducible repeat (first | apply Kd.R_alloc | apply Kd.R_drewN | apply Kd.R_drew)); exact (Kd.R_mono (Kd.R_far (p := ⟨gb334, 1, none⟩) (Kd.R_far (p := ⟨gb334, 0, none⟩) (Kd.R_types HO325.out BK334.out (by decide)) (fun _ hk => hk.2) (.slice Ao35 t328.length co35)) (fun _ hk => hk.2) (.slice Ao39 t331.length co39)) (fun _ h_ => h_.1))) hb); replace HO330 := Aside0.mk (Kd.R_below (by (with_reducible repeat (first | apply Kd.R_alloc | apply Kd.R_drewN | apply Kd.R_drew)); exact (Kd.R_mono (Kd.R_far (p := ⟨gb334, 1, none⟩) (Kd.R_far (p := ⟨gb334, 0, none⟩) (Kd.R_types HO330.out BK334.out (by decide)) (fun _ hk => hk.2) (.slice Ao35 t328.length co35)) (fun _ hk => hk.2) (.slice Ao39 t331.length co39)) (fun _ h_ => h_.1))) hb); replace HO333 := Aside0.mk (Kd.R_below (by (with_reducible repeat (first | apply Kd.R_alloc | apply Kd.R_drewN | apply Kd.R_drew)); exact (Kd.R_mono (Kd.R_far (p := ⟨gb334, 1, none⟩) (Kd.R_far (p := ⟨gb334, 0, none⟩) (Kd.R_types HO333.out BK334.out (by decide)) (fun _ hk => hk.2) (.slice Ao35 t328.length co35)) (fun _ hk => hk.2) (.slice Ao39 t331.length co39)) (fun _ h_ => h_.1))) hb); have HO337 := Aside0.mk (Kd.R_lower (Kd.R_new' ho0 (Kd.R_lt (by (with_reducible repeat (first | apply Kd.R_alloc | apply Kd.R_drewN | apply Kd.R_drew)); exact (Kd.R_mono (Kd.R_far (p := ⟨gb334, 1, none⟩) (Kd.R_far (p := ⟨gb334, 0, none⟩) (Kd.R_types HO319.out BK334.out (by decide)) (fun _ hk => hk.2) (.slice Ao35 t328.length co35)) (fun _ hk => hk.2) (.slice Ao39 t331.length co39)) (fun _ h_ => h_.1))))) (below_size (tB HB.out))); replace HO319 := Aside0.mk (Kd.R_elder' (by (with_reducible repeat (first | apply Kd.R_alloc | apply Kd.R_drewN | apply Kd.R_drew)); exact (Kd.R_mono (Kd.R_far (p := ⟨gb334, 1, none⟩) (Kd.R_far (p := ⟨gb334, 0, none⟩) (Kd.R_types HO319.out BK334.out (by decide)) (fun _ hk => hk.2) (.slice Ao35 t328.length co35)) (fun _ hk => hk.2) (.slice Ao39 t331.length co39)) (fun _ h_ => h_.1))) (Kd.R_base ho0) hb); replace BK309 := Aside0.mk (blk_below (g := gb309) (o := .cells #[.slice A0_0 l0_0.length c0_0, .slice A0_1 l0_1.length c0_1] 24 (0, 0)) (by (with_reducible repeat (first | refine blk_drewN ?_ _ | refine blk_drew ?_ | refine blk_alloc ?_ _)); refine blk_far ?_ NB309_334.out _; (with_reducible repeat (first | refine blk_drewN ?_ _ | refine blk_drew ?_ | refine blk_alloc ?_ _)); refine blk_far ?_ NB309_334.out _; (with_reducible repeat (first | refine blk_drewN ?_ _ | refine blk_drew ?_ | refine blk_alloc ?_ _)); exact BK309.out) hb); replace BK327 := Aside0.mk (blk_below (g := gb327) (o := .cells #[.slice Ao28 t320.length co28, .slice Ao31 t323.length co31] 27 (0, 0)) (by (with_reducible repeat (first | refine blk_drewN ?_ _ | refine blk_drew ?_ | refine blk_alloc ?_ _)); refine blk_far ?_ NB327_334.out _; (with_reducible repeat (first | refine blk_drewN ?_ _ | refine blk_drew ?_ | refine blk_alloc ?_ _)); refine blk_far ?_ NB327_334.out _; (with_reducible repeat (first | refine blk_drewN ?_ _ | refine blk_drew ?_ | refine blk_alloc ?_ _)); exact BK327.out) hb); replace BK334 := Aside0.mk (blk_below (g := gb334) (o := .cells #[.slice Ao35 t328.length co35, .slice Ao39 t331.length co39] 27 (0, 0)) (by (with_reducible repeat (first | refine blk_drewN ?_ _ | refine blk_drew ?_ | refine blk_alloc ?_ _)); refine blk_put (cs := #[.slice Ao35 t328.length co35, .slice none 0 0]) ?_ 1 _ rfl; (with_reducible repeat (first | refine blk_drewN ?_ _ | refine blk_drew ?_ | refine blk_alloc ?_ _)); refine blk_put (cs := #[.slice none 0 0, .slice none 0 0]) ?_ 0 _ rfl; (with_reducible repeat (first | refine blk_drewN ?_ _ | refine blk_drew ?_ | refine blk_alloc ?_ _)); exact BK334.out) hb); replace HB := Aside0.mk (below_step (tB HB.out) hb); (try clear hb); (try clear hb2); (try clear hk); (try clear hi); (try clear ho0); obtain ⟨hcz41_0, hfz41_0, hcz41_1, hfz41_1⟩ := cz2 BK334; obtain ⟨Ao42, co42, eo42⟩ := Kd.R_slice HO337.out; subst eo42) | ((with_reducible refine gate_callee (f := 46) rfl ?_); refine goesL_ (some 40) rfl rfl Try.func46 (by kernel_rfl) rfl #[.agg #[.slice Ao35 t328.length co35, .slice Ao39 t331.length co39], .slice Ao42 t335.length co42] rfl tM ?_; (with_reducible refine (impl_HangLeaves.calls k _ _ t328 _ _ t331 _ _ t335 t338 t341 t344 _ ?side1 ?side2 ?side3 ?side4 ?side5 ?side6 A15.out).mono ?_); (case side1 => exact tC (Kd.R_reads' HO330.out).2.2); (case side2 => exact (Kd.R_reads' HO330.out).2.1); (case side3 => exact tC (Kd.R_reads' HO333.out).2.2); (case side4 => exact (Kd.R_reads' HO333.out).2.1); (case side5 => exact tC (Kd.R_reads' HO337.out).2.2); (case side6 => exact (Kd.R_reads' HO337.out).2.1); rintro e w43 ⟨v339, v342, rfl, ho0, ho1, hb⟩; refine ⟨_, rfl, ?_⟩; replace HO319 := Aside0.mk (Kd.R_below (tR HO319.out) hb); replace HO337 := Aside0.mk (Kd.R_below (tR HO337.out) hb); have HO340 := Aside0.mk (Kd.R_lower (Kd.R_new' (Kd.R_new' (Kd.R_new' (Kd.R_new' (Kd.R_new' (Kd.R_new' ho0 (Kd.R_lt (tR HO313.out))) (Kd.R_lt (tR HO316.out))) (Kd.R_lt (tR HO322.out))) (Kd.R_lt (tR HO325.out))) (Kd.R_lt (tR HO330.out))) (Kd.R_lt (tR HO333.out))) (below_size (tB HB.out))); have HO343 := Aside0.mk (Kd.R_lower (Kd.R_new' (Kd.R_new' (Kd.R_new' (Kd.R_new' (Kd.R_new' (Kd.R_new' ho1 (Kd.R_lt (tR HO313.out))) (Kd.R_lt (tR HO316.out))) (Kd.R_lt (tR HO322.out))) (Kd.R_lt (tR HO325.out))) (Kd.R_lt (tR HO330.out))) (Kd.R_lt (tR HO333.out))) (below_size (tB HB.out))); replace HO313 := Aside0.mk (Kd.R_mono (Kd.R_told (Kd.R_told (Kd.R_old (tR HO313.out) hb) (Kd.R_base ho0)) (Kd.R_base ho1)) (fun _ h_ => h_.1)); replace HO316 := Aside0.mk (Kd.R_mono (Kd.R_told (Kd.R_told (Kd.R_old (tR HO316.out) hb) (Kd.R_base ho0)) (Kd.R_base ho1)) (fun _ h_ => h_.1)); replace HO322 := Aside0.mk (Kd.R_mono (Kd.R_told (Kd.R_told (Kd.R_old (tR HO322.out) hb) (Kd.R_base ho0)) (Kd.R_base ho1)) (fun _ h_ => h_.1)); replace HO325 := Aside0.mk (Kd.R_mono (Kd.R_told (Kd.R_told (Kd.R_old (tR HO325.out) hb) (Kd.R_base ho0)) (Kd.R_base ho1)) (fun _ h_ => h_.1)); replace HO330 := Aside0.mk (Kd.R_mono (Kd.R_told (Kd.R_told (Kd.R_old (tR HO330.out) hb) (Kd.R_base ho0)) (Kd.R_base ho1)) (fun _ h_ => h_.1)); replace HO333 := Aside0.mk (Kd.R_mono (Kd.R_told (Kd.R_told (Kd.R_old (tR HO333.out) hb) (Kd.R_base ho0)) (Kd.R_base ho1)) (fun _ h_ => h_.1)); replace BK309 := bkB BK309 hb; replace BK327 := bkB BK327 hb; replace BK334 := bkB BK334 hb; replace HB := Aside0.mk (below_step (tB HB.out) hb); (try clear hb); (try clear hb2); (try clear hk); (try clear hi); (try clear ho0); (try clear ho1)) | ((with_reducible refine gate_dst (N := 10) rfl ?_); refine box_event ?hg (N := 10) ?hd (cs := #[.slice none 0 0, .slice none 0 0]) (t := 27) ?hr ?_; (case hd => rfl); (case hg => rfl); (case hr => first | (go_simp; done) | (go_simp; rfl)); intro gb345 hg w44 hbox hb; replace HO313 := Aside0.mk (Kd.R_below (tR HO313.out) hb); replace HO316 := Aside0.mk (Kd.R_below (tR HO316.out) hb); replace HO319 := Aside0.mk (Kd.R_below (tR HO319.out) hb); replace HO322 := Aside0.mk (Kd.R_below (tR HO322.out) hb); replace HO325 := Aside0.mk (Kd.R_below (tR HO325.out) hb); replace HO330 := Aside0.mk (Kd.R_below (tR HO330.out) hb); replace HO333 := Aside0.mk (Kd.R_below (tR HO333.out) hb); replace HO337 := Aside0.mk (Kd.R_below (tR HO337.out) hb); replace HO340 := Aside0.mk (Kd.R_below (tR HO340.out) hb); replace HO343 := Aside0.mk (Kd.R_below (tR HO343.out) hb); have BK345 := Aside0.mk (hbox); have GW345 := Aside0.mk (bS HB.out hg); have GE345 := Aside0.mk (bS HB.out hg); replace HB := Aside0.mk (below_step (tB HB.out) hb); have NB309_345 := Aside0.mk (nL BK309.out hg); have NB345_309 := Aside0.mk (nG BK309.out hg); replace BK309 := bkB BK309 hb; have NB327_345 := Aside0.mk (nL BK327.out hg); have NB345_327 := Aside0.mk (nG BK327.out hg); replace BK327 := bkB BK327 hb; have NB334_345 := Aside0.mk (nL BK334.out hg); have NB345_334 := Aside0.mk (nG BK334.out hg); replace BK334 := bkB BK334 hb; clear hb hbox hg; obtain ⟨Ao45, co45, eo45⟩ := Kd.R_slice HO340.out; subst eo45; have hnb46 := NB345_309.out; have hnc46 := NB309_345.out; have hnb47 := NB345_327.out; have hnc47 := NB327_345.out; have hnb48 := NB345_334.out; have hnc48 := NB334_345.out; obtain ⟨hcz49_0, hfz49_0, hcz49_1, hfz49_1⟩ := cz2 BK345; obtain ⟨Ao50, co50, eo50⟩ := Kd.R_slice HO343.out; subst eo50))
   (try simp only [Act.put, List.setIfInBounds_toArray, List.set_cons_zero, List.set_cons_succ])
   go_cut [51] (fun v51 wc => ∃ (kq : Nat) (x51_15 : Bool), v51 = .bool x51_15 ∧ Aside0 (laws_FnExactHangLeaves.j0 kq l1 t326 t335 t344 x51_15 l0_0 l0_1 t320 t323 t328 t331 t338 t341 = some r) ∧ Aside0 (kq ≤ k) ∧ Aside0 (Kd.R (Kd.int .i64) 3 wc w.heap.size (fun _ => True) (.slice Ao42 t335.length co42) t335) ∧ Aside0 (Kd.R k58 58 wc w.heap.size (fun k_ => some k_ ≠ ((.slice Ao31 t323.length co31) : Value).ownBlock ∧ some k_ ≠ ((.slice Ao35 t328.length co35) : Value).ownBlock ∧ some k_ ≠ ((.slice Ao39 t331.length co39) : Value).ownBlock ∧ some k_ ≠ ((.slice Ao45 t338.length co45) : Value).ownBlock ∧ some k_ ≠ ((.slice Ao50 t341.length co50) : Value).ownBlock) (.slice Ao28 t320.length co28) t320) ∧ Aside0 (Kd.R k58 58 wc w.heap.size (fun k_ => some k_ ≠ ((.slice Ao28 t320.length co28) : Value).ownBlock ∧ some k_ ≠ ((.slice Ao35 t328.length co35) : Value).ownBlock ∧ some k_ ≠ ((.slice Ao39 t331.length co39) : Value).ownBlock ∧ some k_ ≠ ((.slice Ao45 t338.length co45) : Value).ownBlock ∧ some k_ ≠ ((.slice Ao50 t341.length co50) : Value).ownBlock) (.slice Ao31 t323.length co31) t323) ∧ Aside0 (Kd.R k58 58 wc w.heap.size (fun k_ => some k_ ≠ ((.slice Ao28 t320.length co28) : Value).ownBlock ∧ some k_ ≠ ((.slice Ao31 t323.length co31) : Value).ownBlock ∧ some k_ ≠ ((.slice Ao39 t331.length co39) : Value).ownBlock ∧ some k_ ≠ ((.slice Ao45 t338.length co45) : Value).ownBlock ∧ some k_ ≠ ((.slice Ao50 t341.length co50) : Value).ownBlock) (.slice Ao35 t328.length co35) t328) ∧ Aside0 (Kd.R k58 58 wc w.heap.size (fun k_ => some k_ ≠ ((.slice Ao28 t320.length co28) : Value).ownBlock ∧ some k_ ≠ ((.slice Ao31 t323.length co31) : Value).ownBlock ∧ some k_ ≠ ((.slice Ao35 t328.length co35) : Value).ownBlock ∧ some k_ ≠ ((.slice Ao45 t338.length co45) : Value).ownBlock ∧ some k_ ≠ ((.slice Ao50 t341.length co50) : Value).ownBlock) (.slice Ao39 t331.length co39) t331) ∧ Aside0 (Kd.R k58 58 wc w.heap.size (fun k_ => some k_ ≠ ((.slice Ao28 t320.length co28) : Value).ownBlock ∧ some k_ ≠ ((.slice Ao31 t323.length co31) : Value).ownBlock ∧ some k_ ≠ ((.slice Ao35 t328.length co35) : Value).ownBlock ∧ some k_ ≠ ((.slice Ao39 t331.length co39) : Value).ownBlock ∧ some k_ ≠ ((.slice Ao50 t341.length co50) : Value).ownBlock) (.slice Ao45 t338.length co45) t338) ∧ Aside0 (Kd.R k58 58 wc w.heap.size (fun k_ => some k_ ≠ ((.slice Ao28 t320.length co28) : Value).ownBlock ∧ some k_ ≠ ((.slice Ao31 t323.length co31) : Value).ownBlock ∧ some k_ ≠ ((.slice Ao35 t328.length co35) : Value).ownBlock ∧ some k_ ≠ ((.slice Ao39 t331.length co39) : Value).ownBlock ∧ some k_ ≠ ((.slice Ao45 t338.length co45) : Value).ownBlock) (.slice Ao50 t341.length co50) t341) ∧ Aside0 (wc.heap[gb309]? = some (.cells #[(.slice A0_0 l0_0.length c0_0), (.slice A0_1 l0_1.length c0_1)] 24 (0, 0))) ∧ Aside0 (wc.heap[gb327]? = some (.cells #[(.slice Ao28 t320.length co28), (.slice Ao31 t323.length co31)] 27 (0, 0))) ∧ Aside0 (wc.heap[gb334]? = some (.cells #[(.slice Ao35 t328.length co35), (.slice Ao39 t331.length co39)] 27 (0, 0))) ∧ Aside0 (wc.heap[gb345]? = some (.cells #[(.slice Ao45 t338.length co45), (.slice Ao50 t341.length co50)] 27 (0, 0))) ∧ Aside0 (Below w.heap.size w wc))
   case first =>
    have H := HC16.out
    clear HC16
    replace H := Option.bind_eq_some_iff.mp H
    obtain ⟨t346, A510, H⟩ := H
    replace H : (if t346 = true then (laws_FnExactHangLeaves.j0 k l1 t326 t335 t344 (t344 != t326) l0_0 l0_1 t320 t323 t328 t331 t338 t341) else (laws_FnExactHangLeaves.j0 k l1 t326 t335 t344 true l0_0 l0_1 t320 t323 t328 t331 t338 t341)) = some r := H
    have A51 := Aside0.mk A510
    clear A510
    by_cases c52 : t346 = true
    ·
     subst c52
     have H1 : (laws_FnExactHangLeaves.j0 k l1 t326 t335 t344 (t344 != t326) l0_0 l0_1 t320 t323 t328 t331 t338 t341) = some r := by rw [if_pos rfl] at H; exact H
     clear H
     have H := H1
     clear H1
     have H' := Aside0.mk H
     clear H
     have hnb53 := NB345_309.out
     have hnc53 := NB309_345.out
     have hnb54 := NB345_327.out
     have hnc54 := NB327_345.out
     have hnb55 := NB345_334.out
     have hnc55 := NB334_345.out
     obtain ⟨hcz56_0, hfz56_0, hcz56_1, hfz56_1⟩ := cz2 BK345
     have hnb57 := NB327_309.out
     have hnc57 := NB309_327.out
     have hnb58 := NB327_334.out
     have hnc58 := NB334_327.out
     obtain ⟨hcz59_0, hfz59_0, hcz59_1, hfz59_1⟩ := cz2 BK327
     go_wp2_with (first | ((with_reducible refine gate_callee (f := 19) rfl ?_); refine goesL_ (some 45) rfl rfl Try.func19 (by kernel_rfl) rfl #[.agg #[.slice Ao45 t338.length co45, .slice Ao50 t341.length co50], .agg #[.slice Ao28 t320.length co28, .slice Ao31 t323.length co31]] rfl tM ?_; (with_reducible refine (laws_eqMobile.calls k _ _ t338 _ _ t341 _ _ t320 _ _ t323 true _ ?side1 ?side2 ?side3 ?side4 ?side5 ?side6 ?side7 ?side8 A51.out).mono ?_); (case side1 => refine (Kd.R_reads' (e := 58) (base := w.heap.size) (ok := fun k_ => ((((((some k_ ≠ (.slice Ao50 t341.length co50 : Value).ownBlock ∧ some k_ ≠ (.slice Ao23 t311.length co23 : Value).ownBlock) ∧ some k_ ≠ (.slice Ao24 t314.length co24 : Value).ownBlock) ∧ some k_ ≠ (.slice Ao28 t320.length co28 : Value).ownBlock) ∧ some k_ ≠ (.slice Ao31 t323.length co31 : Value).ownBlock) ∧ some k_ ≠ (.slice Ao35 t328.length co35 : Value).ownBlock) ∧ some k_ ≠ (.slice Ao39 t331.length co39 : Value).ownBlock)) (n := t338.length) (c := co45) ?_).2.2; exact (by (with_reducible repeat (first | apply Kd.R_alloc | apply Kd.R_drewN | apply Kd.R_drew)); exact (Kd.R_mono (Kd.R_far (p := ⟨gb345, 1, none⟩) (Kd.R_far (p := ⟨gb345, 0, none⟩) (Kd.R_types HO340.out BK345.out (by decide)) (fun _ hk => hk.2) (.slice Ao45 t338.length co45)) (fun _ hk => hk.2) (.slice Ao50 t341.length co50)) (fun _ h_ => h_.1)))); (case side2 => exact (Kd.R_reads' HO340.out).2.1); (case side3 => refine (Kd.R_reads' (e := 58) (base := w.heap.size) (ok := fun k_ => ((((((some k_ ≠ (.slice Ao45 t338.length co45 : Value).ownBlock ∧ some k_ ≠ (.slice Ao23 t311.length co23 : Value).ownBlock) ∧ some k_ ≠ (.slice Ao24 t314.length co24 : Value).ownBlock) ∧ some k_ ≠ (.slice Ao28 t320.length co28 : Value).ownBlock) ∧ some k_ ≠ (.slice Ao31 t323.length co31 : Value).ownBlock) ∧ some k_ ≠ (.slice Ao35 t328.length co35 : Value).ownBlock) ∧ some k_ ≠ (.slice Ao39 t331.length co39 : Value).ownBlock)) (n := t341.length) (c := co50) ?_).2.2; exact (by (with_reducible repeat (first | apply Kd.R_alloc | apply Kd.R_drewN | apply Kd.R_drew)); exact (Kd.R_mono (Kd.R_far (p := ⟨gb345, 1, none⟩) (Kd.R_far (p := ⟨gb345, 0, none⟩) (Kd.R_types HO343.out BK345.out (by decide)) (fun _ hk => hk.2) (.slice Ao45 t338.length co45)) (fun _ hk => hk.2) (.slice Ao50 t341.length co50)) (fun _ h_ => h_.1)))); (case side4 => exact (Kd.R_reads' HO343.out).2.1); (case side5 => refine (Kd.R_reads' (e := 58) (base := w.heap.size) (ok := fun k_ => ((((((some k_ ≠ (.slice Ao31 t323.length co31 : Value).ownBlock ∧ some k_ ≠ (.slice Ao23 t311.length co23 : Value).ownBlock) ∧ some k_ ≠ (.slice Ao24 t314.length co24 : Value).ownBlock) ∧ some k_ ≠ (.slice Ao35 t328.length co35 : Value).ownBlock) ∧ some k_ ≠ (.slice Ao39 t331.length co39 : Value).ownBlock) ∧ some k_ ≠ (.slice Ao45 t338.length co45 : Value).ownBlock) ∧ some k_ ≠ (.slice Ao50 t341.length co50 : Value).ownBlock)) (n := t320.length) (c := co28) ?_).2.2; exact (by (with_reducible repeat (first | apply Kd.R_alloc | apply Kd.R_drewN | apply Kd.R_drew)); exact (Kd.R_mono (Kd.R_far (p := ⟨gb345, 1, none⟩) (Kd.R_far (p := ⟨gb345, 0, none⟩) (Kd.R_types HO322.out BK345.out (by decide)) (fun _ hk => hk.2) (.slice Ao45 t338.length co45)) (fun _ hk => hk.2) (.slice Ao50 t341.length co50)) (fun _ h_ => h_.1)))); (case side6 => exact (Kd.R_reads' HO322.out).2.1); (case side7 => refine (Kd.R_reads' (e := 58) (base := w.heap.size) (ok := fun k_ => ((((((some k_ ≠ (.slice Ao28 t320.length co28 : Value).ownBlock ∧ some k_ ≠ (.slice Ao23 t311.length co23 : Value).ownBlock) ∧ some k_ ≠ (.slice Ao24 t314.length co24 : Value).ownBlock) ∧ some k_ ≠ (.slice Ao35 t328.length co35 : Value).ownBlock) ∧ some k_ ≠ (.slice Ao39 t331.length co39 : Value).ownBlock) ∧ some k_ ≠ (.slice Ao45 t338.length co45 : Value).ownBlock) ∧ some k_ ≠ (.slice Ao50 t341.length co50 : Value).ownBlock)) (n := t323.length) (c := co31) ?_).2.2; exact (by (with_reducible repeat (first | apply Kd.R_alloc | apply Kd.R_drewN | apply Kd.R_drew)); exact (Kd.R_mono (Kd.R_far (p := ⟨gb345, 1, none⟩) (Kd.R_far (p := ⟨gb345, 0, none⟩) (Kd.R_types HO325.out BK345.out (by decide)) (fun _ hk => hk.2) (.slice Ao45 t338.length co45)) (fun _ hk => hk.2) (.slice Ao50 t341.length co50)) (fun _ h_ => h_.1)))); (case side8 => exact (Kd.R_reads' HO325.out).2.1); rintro e w60 ⟨rfl, hb⟩; refine ⟨_, rfl, ?_⟩; replace HO313 := Aside0.mk (Kd.R_below (by (with_reducible repeat (first | apply Kd.R_alloc | apply Kd.R_drewN | apply Kd.R_drew)); exact (Kd.R_mono (Kd.R_far (p := ⟨gb345, 1, none⟩) (Kd.R_far (p := ⟨gb345, 0, none⟩) (Kd.R_types HO313.out BK345.out (by decide)) (fun _ hk => hk.2) (.slice Ao45 t338.length co45)) (fun _ hk => hk.2) (.slice Ao50 t341.length co50)) (fun _ h_ => h_.1))) hb); replace HO316 := Aside0.mk (Kd.R_below (by (with_reducible repeat (first | apply Kd.R_alloc | apply Kd.R_drewN | apply Kd.R_drew)); exact (Kd.R_mono (Kd.R_far (p := ⟨gb345, 1, none⟩) (Kd.R_far (p := ⟨gb345, 0, none⟩) (Kd.R_types HO316.out BK345.out (by decide)) (fun _ hk => hk.2) (.slice Ao45 t338.length co45)) (fun _ hk => hk.2) (.slice Ao50 t341.length co50)) (fun _ h_ => h_.1))) hb); replace HO319 := Aside0.mk (Kd.R_below (by (with_reducible repeat (first | apply Kd.R_alloc | apply Kd.R_drewN | apply Kd.R_drew)); exact (Kd.R_mono (Kd.R_far (p := ⟨gb345, 1, none⟩) (Kd.R_far (p := ⟨gb345, 0, none⟩) (Kd.R_types HO319.out BK345.out (by decide)) (fun _ hk => hk.2) (.slice Ao45 t338.length co45)) (fun _ hk => hk.2) (.slice Ao50 t341.length co50)) (fun _ h_ => h_.1))) hb); replace HO322 := Aside0.mk (Kd.R_below (by (with_reducible repeat (first | apply Kd.R_alloc | apply Kd.R_drewN | apply Kd.R_drew)); exact (Kd.R_mono (Kd.R_far (p := ⟨gb345, 1, none⟩) (Kd.R_far (p := ⟨gb345, 0, none⟩) (Kd.R_types HO322.out BK345.out (by decide)) (fun _ hk => hk.2) (.slice Ao45 t338.length co45)) (fun _ hk => hk.2) (.slice Ao50 t341.length co50)) (fun _ h_ => h_.1))) hb); replace HO325 := Aside0.mk (Kd.R_below (by (with_reducible repeat (first | apply Kd.R_alloc | apply Kd.R_drewN | apply Kd.R_drew)); exact (Kd.R_mono (Kd.R_far (p := ⟨gb345, 1, none⟩) (Kd.R_far (p := ⟨gb345, 0, none⟩) (Kd.R_types HO325.out BK345.out (by decide)) (fun _ hk => hk.2) (.slice Ao45 t338.length co45)) (fun _ hk => hk.2) (.slice Ao50 t341.length co50)) (fun _ h_ => h_.1))) hb); replace HO330 := Aside0.mk (Kd.R_below (by (with_reducible repeat (first | apply Kd.R_alloc | apply Kd.R_drewN | apply Kd.R_drew)); exact (Kd.R_mono (Kd.R_far (p := ⟨gb345, 1, none⟩) (Kd.R_far (p := ⟨gb345, 0, none⟩) (Kd.R_types HO330.out BK345.out (by decide)) (fun _ hk => hk.2) (.slice Ao45 t338.length co45)) (fun _ hk => hk.2) (.slice Ao50 t341.length co50)) (fun _ h_ => h_.1))) hb); replace HO333 := Aside0.mk (Kd.R_below (by (with_reducible repeat (first | apply Kd.R_alloc | apply Kd.R_drewN | apply Kd.R_drew)); exact (Kd.R_mono (Kd.R_far (p := ⟨gb345, 1, none⟩) (Kd.R_far (p := ⟨gb345, 0, none⟩) (Kd.R_types HO333.out BK345.out (by decide)) (fun _ hk => hk.2) (.slice Ao45 t338.length co45)) (fun _ hk => hk.2) (.slice Ao50 t341.length co50)) (fun _ h_ => h_.1))) hb); replace HO337 := Aside0.mk (Kd.R_below (by (with_reducible repeat (first | apply Kd.R_alloc | apply Kd.R_drewN | apply Kd.R_drew)); exact (Kd.R_mono (Kd.R_far (p := ⟨gb345, 1, none⟩) (Kd.R_far (p := ⟨gb345, 0, none⟩) (Kd.R_types HO337.out BK345.out (by decide)) (fun _ hk => hk.2) (.slice Ao45 t338.length co45)) (fun _ hk => hk.2) (.slice Ao50 t341.length co50)) (fun _ h_ => h_.1))) hb); replace HO340 := Aside0.mk (Kd.R_below (by (with_reducible repeat (first | apply Kd.R_alloc | apply Kd.R_drewN | apply Kd.R_drew)); exact (Kd.R_mono (Kd.R_far (p := ⟨gb345, 1, none⟩) (Kd.R_far (p := ⟨gb345, 0, none⟩) (Kd.R_types HO340.out BK345.out (by decide)) (fun _ hk => hk.2) (.slice Ao45 t338.length co45)) (fun _ hk => hk.2) (.slice Ao50 t341.length co50)) (fun _ h_ => h_.1))) hb); replace HO343 := Aside0.mk (Kd.R_below (by (with_reducible repeat (first | apply Kd.R_alloc | apply Kd.R_drewN | apply Kd.R_drew)); exact (Kd.R_mono (Kd.R_far (p := ⟨gb345, 1, none⟩) (Kd.R_far (p := ⟨gb345, 0, none⟩) (Kd.R_types HO343.out BK345.out (by decide)) (fun _ hk => hk.2) (.slice Ao45 t338.length co45)) (fun _ hk => hk.2) (.slice Ao50 t341.length co50)) (fun _ h_ => h_.1))) hb); replace BK309 := Aside0.mk (blk_below (g := gb309) (o := .cells #[.slice A0_0 l0_0.length c0_0, .slice A0_1 l0_1.length c0_1] 24 (0, 0)) (by (with_reducible repeat (first | refine blk_drewN ?_ _ | refine blk_drew ?_ | refine blk_alloc ?_ _)); refine blk_far ?_ NB309_345.out _; (with_reducible repeat (first | refine blk_drewN ?_ _ | refine blk_drew ?_ | refine blk_alloc ?_ _)); refine blk_far ?_ NB309_345.out _; (with_reducible repeat (first | refine blk_drewN ?_ _ | refine blk_drew ?_ | refine blk_alloc ?_ _)); exact BK309.out) hb); replace BK327 := Aside0.mk (blk_below (g := gb327) (o := .cells #[.slice Ao28 t320.length co28, .slice Ao31 t323.length co31] 27 (0, 0)) (by (with_reducible repeat (first | refine blk_drewN ?_ _ | refine blk_drew ?_ | refine blk_alloc ?_ _)); refine blk_far ?_ NB327_345.out _; (with_reducible repeat (first | refine blk_drewN ?_ _ | refine blk_drew ?_ | refine blk_alloc ?_ _)); refine blk_far ?_ NB327_345.out _; (with_reducible repeat (first | refine blk_drewN ?_ _ | refine blk_drew ?_ | refine blk_alloc ?_ _)); exact BK327.out) hb); replace BK334 := Aside0.mk (blk_below (g := gb334) (o := .cells #[.slice Ao35 t328.length co35, .slice Ao39 t331.length co39] 27 (0, 0)) (by (with_reducible repeat (first | refine blk_drewN ?_ _ | refine blk_drew ?_ | refine blk_alloc ?_ _)); refine blk_far ?_ NB334_345.out _; (with_reducible repeat (first | refine blk_drewN ?_ _ | refine blk_drew ?_ | refine blk_alloc ?_ _)); refine blk_far ?_ NB334_345.out _; (with_reducible repeat (first | refine blk_drewN ?_ _ | refine blk_drew ?_ | refine blk_alloc ?_ _)); exact BK334.out) hb); replace BK345 := Aside0.mk (blk_below (g := gb345) (o := .cells #[.slice Ao45 t338.length co45, .slice Ao50 t341.length co50] 27 (0, 0)) (by (with_reducible repeat (first | refine blk_drewN ?_ _ | refine blk_drew ?_ | refine blk_alloc ?_ _)); refine blk_put (cs := #[.slice Ao45 t338.length co45, .slice none 0 0]) ?_ 1 _ rfl; (with_reducible repeat (first | refine blk_drewN ?_ _ | refine blk_drew ?_ | refine blk_alloc ?_ _)); refine blk_put (cs := #[.slice none 0 0, .slice none 0 0]) ?_ 0 _ rfl; (with_reducible repeat (first | refine blk_drewN ?_ _ | refine blk_drew ?_ | refine blk_alloc ?_ _)); exact BK345.out) hb); replace HB := Aside0.mk (below_step (tB HB.out) hb); (try clear hb); (try clear hb2); (try clear hk); (try clear hi)))
     go_meet
     case rel => exact ⟨_, ((t344 != t326)), (by first | rfl | (simp; done) | (simp [wrap64]; done) | (simp [*]; done)), H', ⟨by first | omega | exact Nat.le_refl _⟩, ⟨by (with_reducible repeat (first | apply Kd.R_alloc | apply Kd.R_drewN | apply Kd.R_drew)); exact Kd.R_mono HO337.out (fun _ hk => trivial)⟩, ⟨by (with_reducible repeat (first | apply Kd.R_alloc | apply Kd.R_drewN | apply Kd.R_drew)); exact Kd.R_mono HO322.out (fun _ hk => ⟨hk.1.1.1.1.1.1, ⟨hk.1.1.1.2, ⟨hk.1.1.2, ⟨hk.1.2, hk.2⟩⟩⟩⟩)⟩, ⟨by (with_reducible repeat (first | apply Kd.R_alloc | apply Kd.R_drewN | apply Kd.R_drew)); exact Kd.R_mono HO325.out (fun _ hk => ⟨hk.1.1.1.1.1.1, ⟨hk.1.1.1.2, ⟨hk.1.1.2, ⟨hk.1.2, hk.2⟩⟩⟩⟩)⟩, ⟨by (with_reducible repeat (first | apply Kd.R_alloc | apply Kd.R_drewN | apply Kd.R_drew)); exact Kd.R_mono HO330.out (fun _ hk => ⟨hk.1.1.1.2, ⟨hk.1.1.2, ⟨hk.1.1.1.1.1.1, ⟨hk.1.2, hk.2⟩⟩⟩⟩)⟩, ⟨by (with_reducible repeat (first | apply Kd.R_alloc | apply Kd.R_drewN | apply Kd.R_drew)); exact Kd.R_mono HO333.out (fun _ hk => ⟨hk.1.1.1.2, ⟨hk.1.1.2, ⟨hk.1.1.1.1.1.1, ⟨hk.1.2, hk.2⟩⟩⟩⟩)⟩, ⟨by (with_reducible repeat (first | apply Kd.R_alloc | apply Kd.R_drewN | apply Kd.R_drew)); exact Kd.R_mono HO340.out (fun _ hk => ⟨hk.1.1.1.2, ⟨hk.1.1.2, ⟨hk.1.2, ⟨hk.2, hk.1.1.1.1.1.1⟩⟩⟩⟩)⟩, ⟨by (with_reducible repeat (first | apply Kd.R_alloc | apply Kd.R_drewN | apply Kd.R_drew)); exact Kd.R_mono HO343.out (fun _ hk => ⟨hk.1.1.1.2, ⟨hk.1.1.2, ⟨hk.1.2, ⟨hk.2, hk.1.1.1.1.1.1⟩⟩⟩⟩)⟩, ⟨tK BK309.out⟩, ⟨tK BK327.out⟩, ⟨tK BK334.out⟩, ⟨tK BK345.out⟩, ⟨tB HB.out⟩⟩
    ·
     replace c52 := Bool.eq_false_iff.mpr c52
     subst c52
     have H1 : (laws_FnExactHangLeaves.j0 k l1 t326 t335 t344 true l0_0 l0_1 t320 t323 t328 t331 t338 t341) = some r := by rw [if_neg (show ¬ (false = true) by decide)] at H; exact H
     clear H
     have H := H1
     clear H1
     have H' := Aside0.mk H
     clear H
     have hnb61 := NB345_309.out
     have hnc61 := NB309_345.out
     have hnb62 := NB345_327.out
     have hnc62 := NB327_345.out
     have hnb63 := NB345_334.out
     have hnc63 := NB334_345.out
     obtain ⟨hcz64_0, hfz64_0, hcz64_1, hfz64_1⟩ := cz2 BK345
     have hnb65 := NB327_309.out
     have hnc65 := NB309_327.out
     have hnb66 := NB327_334.out
     have hnc66 := NB334_327.out
     obtain ⟨hcz67_0, hfz67_0, hcz67_1, hfz67_1⟩ := cz2 BK327
     go_wp2_with (first | ((with_reducible refine gate_callee (f := 19) rfl ?_); refine goesL_ (some 45) rfl rfl Try.func19 (by kernel_rfl) rfl #[.agg #[.slice Ao45 t338.length co45, .slice Ao50 t341.length co50], .agg #[.slice Ao28 t320.length co28, .slice Ao31 t323.length co31]] rfl tM ?_; (with_reducible refine (laws_eqMobile.calls k _ _ t338 _ _ t341 _ _ t320 _ _ t323 false _ ?side1 ?side2 ?side3 ?side4 ?side5 ?side6 ?side7 ?side8 A51.out).mono ?_); (case side1 => refine (Kd.R_reads' (e := 58) (base := w.heap.size) (ok := fun k_ => ((((((some k_ ≠ (.slice Ao50 t341.length co50 : Value).ownBlock ∧ some k_ ≠ (.slice Ao23 t311.length co23 : Value).ownBlock) ∧ some k_ ≠ (.slice Ao24 t314.length co24 : Value).ownBlock) ∧ some k_ ≠ (.slice Ao28 t320.length co28 : Value).ownBlock) ∧ some k_ ≠ (.slice Ao31 t323.length co31 : Value).ownBlock) ∧ some k_ ≠ (.slice Ao35 t328.length co35 : Value).ownBlock) ∧ some k_ ≠ (.slice Ao39 t331.length co39 : Value).ownBlock)) (n := t338.length) (c := co45) ?_).2.2; exact (by (with_reducible repeat (first | apply Kd.R_alloc | apply Kd.R_drewN | apply Kd.R_drew)); exact (Kd.R_mono (Kd.R_far (p := ⟨gb345, 1, none⟩) (Kd.R_far (p := ⟨gb345, 0, none⟩) (Kd.R_types HO340.out BK345.out (by decide)) (fun _ hk => hk.2) (.slice Ao45 t338.length co45)) (fun _ hk => hk.2) (.slice Ao50 t341.length co50)) (fun _ h_ => h_.1)))); (case side2 => exact (Kd.R_reads' HO340.out).2.1); (case side3 => refine (Kd.R_reads' (e := 58) (base := w.heap.size) (ok := fun k_ => ((((((some k_ ≠ (.slice Ao45 t338.length co45 : Value).ownBlock ∧ some k_ ≠ (.slice Ao23 t311.length co23 : Value).ownBlock) ∧ some k_ ≠ (.slice Ao24 t314.length co24 : Value).ownBlock) ∧ some k_ ≠ (.slice Ao28 t320.length co28 : Value).ownBlock) ∧ some k_ ≠ (.slice Ao31 t323.length co31 : Value).ownBlock) ∧ some k_ ≠ (.slice Ao35 t328.length co35 : Value).ownBlock) ∧ some k_ ≠ (.slice Ao39 t331.length co39 : Value).ownBlock)) (n := t341.length) (c := co50) ?_).2.2; exact (by (with_reducible repeat (first | apply Kd.R_alloc | apply Kd.R_drewN | apply Kd.R_drew)); exact (Kd.R_mono (Kd.R_far (p := ⟨gb345, 1, none⟩) (Kd.R_far (p := ⟨gb345, 0, none⟩) (Kd.R_types HO343.out BK345.out (by decide)) (fun _ hk => hk.2) (.slice Ao45 t338.length co45)) (fun _ hk => hk.2) (.slice Ao50 t341.length co50)) (fun _ h_ => h_.1)))); (case side4 => exact (Kd.R_reads' HO343.out).2.1); (case side5 => refine (Kd.R_reads' (e := 58) (base := w.heap.size) (ok := fun k_ => ((((((some k_ ≠ (.slice Ao31 t323.length co31 : Value).ownBlock ∧ some k_ ≠ (.slice Ao23 t311.length co23 : Value).ownBlock) ∧ some k_ ≠ (.slice Ao24 t314.length co24 : Value).ownBlock) ∧ some k_ ≠ (.slice Ao35 t328.length co35 : Value).ownBlock) ∧ some k_ ≠ (.slice Ao39 t331.length co39 : Value).ownBlock) ∧ some k_ ≠ (.slice Ao45 t338.length co45 : Value).ownBlock) ∧ some k_ ≠ (.slice Ao50 t341.length co50 : Value).ownBlock)) (n := t320.length) (c := co28) ?_).2.2; exact (by (with_reducible repeat (first | apply Kd.R_alloc | apply Kd.R_drewN | apply Kd.R_drew)); exact (Kd.R_mono (Kd.R_far (p := ⟨gb345, 1, none⟩) (Kd.R_far (p := ⟨gb345, 0, none⟩) (Kd.R_types HO322.out BK345.out (by decide)) (fun _ hk => hk.2) (.slice Ao45 t338.length co45)) (fun _ hk => hk.2) (.slice Ao50 t341.length co50)) (fun _ h_ => h_.1)))); (case side6 => exact (Kd.R_reads' HO322.out).2.1); (case side7 => refine (Kd.R_reads' (e := 58) (base := w.heap.size) (ok := fun k_ => ((((((some k_ ≠ (.slice Ao28 t320.length co28 : Value).ownBlock ∧ some k_ ≠ (.slice Ao23 t311.length co23 : Value).ownBlock) ∧ some k_ ≠ (.slice Ao24 t314.length co24 : Value).ownBlock) ∧ some k_ ≠ (.slice Ao35 t328.length co35 : Value).ownBlock) ∧ some k_ ≠ (.slice Ao39 t331.length co39 : Value).ownBlock) ∧ some k_ ≠ (.slice Ao45 t338.length co45 : Value).ownBlock) ∧ some k_ ≠ (.slice Ao50 t341.length co50 : Value).ownBlock)) (n := t323.length) (c := co31) ?_).2.2; exact (by (with_reducible repeat (first | apply Kd.R_alloc | apply Kd.R_drewN | apply Kd.R_drew)); exact (Kd.R_mono (Kd.R_far (p := ⟨gb345, 1, none⟩) (Kd.R_far (p := ⟨gb345, 0, none⟩) (Kd.R_types HO325.out BK345.out (by decide)) (fun _ hk => hk.2) (.slice Ao45 t338.length co45)) (fun _ hk => hk.2) (.slice Ao50 t341.length co50)) (fun _ h_ => h_.1)))); (case side8 => exact (Kd.R_reads' HO325.out).2.1); rintro e w68 ⟨rfl, hb⟩; refine ⟨_, rfl, ?_⟩; replace HO313 := Aside0.mk (Kd.R_below (by (with_reducible repeat (first | apply Kd.R_alloc | apply Kd.R_drewN | apply Kd.R_drew)); exact (Kd.R_mono (Kd.R_far (p := ⟨gb345, 1, none⟩) (Kd.R_far (p := ⟨gb345, 0, none⟩) (Kd.R_types HO313.out BK345.out (by decide)) (fun _ hk => hk.2) (.slice Ao45 t338.length co45)) (fun _ hk => hk.2) (.slice Ao50 t341.length co50)) (fun _ h_ => h_.1))) hb); replace HO316 := Aside0.mk (Kd.R_below (by (with_reducible repeat (first | apply Kd.R_alloc | apply Kd.R_drewN | apply Kd.R_drew)); exact (Kd.R_mono (Kd.R_far (p := ⟨gb345, 1, none⟩) (Kd.R_far (p := ⟨gb345, 0, none⟩) (Kd.R_types HO316.out BK345.out (by decide)) (fun _ hk => hk.2) (.slice Ao45 t338.length co45)) (fun _ hk => hk.2) (.slice Ao50 t341.length co50)) (fun _ h_ => h_.1))) hb); replace HO319 := Aside0.mk (Kd.R_below (by (with_reducible repeat (first | apply Kd.R_alloc | apply Kd.R_drewN | apply Kd.R_drew)); exact (Kd.R_mono (Kd.R_far (p := ⟨gb345, 1, none⟩) (Kd.R_far (p := ⟨gb345, 0, none⟩) (Kd.R_types HO319.out BK345.out (by decide)) (fun _ hk => hk.2) (.slice Ao45 t338.length co45)) (fun _ hk => hk.2) (.slice Ao50 t341.length co50)) (fun _ h_ => h_.1))) hb); replace HO322 := Aside0.mk (Kd.R_below (by (with_reducible repeat (first | apply Kd.R_alloc | apply Kd.R_drewN | apply Kd.R_drew)); exact (Kd.R_mono (Kd.R_far (p := ⟨gb345, 1, none⟩) (Kd.R_far (p := ⟨gb345, 0, none⟩) (Kd.R_types HO322.out BK345.out (by decide)) (fun _ hk => hk.2) (.slice Ao45 t338.length co45)) (fun _ hk => hk.2) (.slice Ao50 t341.length co50)) (fun _ h_ => h_.1))) hb); replace HO325 := Aside0.mk (Kd.R_below (by (with_reducible repeat (first | apply Kd.R_alloc | apply Kd.R_drewN | apply Kd.R_drew)); exact (Kd.R_mono (Kd.R_far (p := ⟨gb345, 1, none⟩) (Kd.R_far (p := ⟨gb345, 0, none⟩) (Kd.R_types HO325.out BK345.out (by decide)) (fun _ hk => hk.2) (.slice Ao45 t338.length co45)) (fun _ hk => hk.2) (.slice Ao50 t341.length co50)) (fun _ h_ => h_.1))) hb); replace HO330 := Aside0.mk (Kd.R_below (by (with_reducible repeat (first | apply Kd.R_alloc | apply Kd.R_drewN | apply Kd.R_drew)); exact (Kd.R_mono (Kd.R_far (p := ⟨gb345, 1, none⟩) (Kd.R_far (p := ⟨gb345, 0, none⟩) (Kd.R_types HO330.out BK345.out (by decide)) (fun _ hk => hk.2) (.slice Ao45 t338.length co45)) (fun _ hk => hk.2) (.slice Ao50 t341.length co50)) (fun _ h_ => h_.1))) hb); replace HO333 := Aside0.mk (Kd.R_below (by (with_reducible repeat (first | apply Kd.R_alloc | apply Kd.R_drewN | apply Kd.R_drew)); exact (Kd.R_mono (Kd.R_far (p := ⟨gb345, 1, none⟩) (Kd.R_far (p := ⟨gb345, 0, none⟩) (Kd.R_types HO333.out BK345.out (by decide)) (fun _ hk => hk.2) (.slice Ao45 t338.length co45)) (fun _ hk => hk.2) (.slice Ao50 t341.length co50)) (fun _ h_ => h_.1))) hb); replace HO337 := Aside0.mk (Kd.R_below (by (with_reducible repeat (first | apply Kd.R_alloc | apply Kd.R_drewN | apply Kd.R_drew)); exact (Kd.R_mono (Kd.R_far (p := ⟨gb345, 1, none⟩) (Kd.R_far (p := ⟨gb345, 0, none⟩) (Kd.R_types HO337.out BK345.out (by decide)) (fun _ hk => hk.2) (.slice Ao45 t338.length co45)) (fun _ hk => hk.2) (.slice Ao50 t341.length co50)) (fun _ h_ => h_.1))) hb); replace HO340 := Aside0.mk (Kd.R_below (by (with_reducible repeat (first | apply Kd.R_alloc | apply Kd.R_drewN | apply Kd.R_drew)); exact (Kd.R_mono (Kd.R_far (p := ⟨gb345, 1, none⟩) (Kd.R_far (p := ⟨gb345, 0, none⟩) (Kd.R_types HO340.out BK345.out (by decide)) (fun _ hk => hk.2) (.slice Ao45 t338.length co45)) (fun _ hk => hk.2) (.slice Ao50 t341.length co50)) (fun _ h_ => h_.1))) hb); replace HO343 := Aside0.mk (Kd.R_below (by (with_reducible repeat (first | apply Kd.R_alloc | apply Kd.R_drewN | apply Kd.R_drew)); exact (Kd.R_mono (Kd.R_far (p := ⟨gb345, 1, none⟩) (Kd.R_far (p := ⟨gb345, 0, none⟩) (Kd.R_types HO343.out BK345.out (by decide)) (fun _ hk => hk.2) (.slice Ao45 t338.length co45)) (fun _ hk => hk.2) (.slice Ao50 t341.length co50)) (fun _ h_ => h_.1))) hb); replace BK309 := Aside0.mk (blk_below (g := gb309) (o := .cells #[.slice A0_0 l0_0.length c0_0, .slice A0_1 l0_1.length c0_1] 24 (0, 0)) (by (with_reducible repeat (first | refine blk_drewN ?_ _ | refine blk_drew ?_ | refine blk_alloc ?_ _)); refine blk_far ?_ NB309_345.out _; (with_reducible repeat (first | refine blk_drewN ?_ _ | refine blk_drew ?_ | refine blk_alloc ?_ _)); refine blk_far ?_ NB309_345.out _; (with_reducible repeat (first | refine blk_drewN ?_ _ | refine blk_drew ?_ | refine blk_alloc ?_ _)); exact BK309.out) hb); replace BK327 := Aside0.mk (blk_below (g := gb327) (o := .cells #[.slice Ao28 t320.length co28, .slice Ao31 t323.length co31] 27 (0, 0)) (by (with_reducible repeat (first | refine blk_drewN ?_ _ | refine blk_drew ?_ | refine blk_alloc ?_ _)); refine blk_far ?_ NB327_345.out _; (with_reducible repeat (first | refine blk_drewN ?_ _ | refine blk_drew ?_ | refine blk_alloc ?_ _)); refine blk_far ?_ NB327_345.out _; (with_reducible repeat (first | refine blk_drewN ?_ _ | refine blk_drew ?_ | refine blk_alloc ?_ _)); exact BK327.out) hb); replace BK334 := Aside0.mk (blk_below (g := gb334) (o := .cells #[.slice Ao35 t328.length co35, .slice Ao39 t331.length co39] 27 (0, 0)) (by (with_reducible repeat (first | refine blk_drewN ?_ _ | refine blk_drew ?_ | refine blk_alloc ?_ _)); refine blk_far ?_ NB334_345.out _; (with_reducible repeat (first | refine blk_drewN ?_ _ | refine blk_drew ?_ | refine blk_alloc ?_ _)); refine blk_far ?_ NB334_345.out _; (with_reducible repeat (first | refine blk_drewN ?_ _ | refine blk_drew ?_ | refine blk_alloc ?_ _)); exact BK334.out) hb); replace BK345 := Aside0.mk (blk_below (g := gb345) (o := .cells #[.slice Ao45 t338.length co45, .slice Ao50 t341.length co50] 27 (0, 0)) (by (with_reducible repeat (first | refine blk_drewN ?_ _ | refine blk_drew ?_ | refine blk_alloc ?_ _)); refine blk_put (cs := #[.slice Ao45 t338.length co45, .slice none 0 0]) ?_ 1 _ rfl; (with_reducible repeat (first | refine blk_drewN ?_ _ | refine blk_drew ?_ | refine blk_alloc ?_ _)); refine blk_put (cs := #[.slice none 0 0, .slice none 0 0]) ?_ 0 _ rfl; (with_reducible repeat (first | refine blk_drewN ?_ _ | refine blk_drew ?_ | refine blk_alloc ?_ _)); exact BK345.out) hb); replace HB := Aside0.mk (below_step (tB HB.out) hb); (try clear hb); (try clear hb2); (try clear hk); (try clear hi)))
     go_meet
     case rel => exact ⟨_, (true), (by first | rfl | (simp; done) | (simp [wrap64]; done) | (simp [*]; done)), H', ⟨by first | omega | exact Nat.le_refl _⟩, ⟨by (with_reducible repeat (first | apply Kd.R_alloc | apply Kd.R_drewN | apply Kd.R_drew)); exact Kd.R_mono HO337.out (fun _ hk => trivial)⟩, ⟨by (with_reducible repeat (first | apply Kd.R_alloc | apply Kd.R_drewN | apply Kd.R_drew)); exact Kd.R_mono HO322.out (fun _ hk => ⟨hk.1.1.1.1.1.1, ⟨hk.1.1.1.2, ⟨hk.1.1.2, ⟨hk.1.2, hk.2⟩⟩⟩⟩)⟩, ⟨by (with_reducible repeat (first | apply Kd.R_alloc | apply Kd.R_drewN | apply Kd.R_drew)); exact Kd.R_mono HO325.out (fun _ hk => ⟨hk.1.1.1.1.1.1, ⟨hk.1.1.1.2, ⟨hk.1.1.2, ⟨hk.1.2, hk.2⟩⟩⟩⟩)⟩, ⟨by (with_reducible repeat (first | apply Kd.R_alloc | apply Kd.R_drewN | apply Kd.R_drew)); exact Kd.R_mono HO330.out (fun _ hk => ⟨hk.1.1.1.2, ⟨hk.1.1.2, ⟨hk.1.1.1.1.1.1, ⟨hk.1.2, hk.2⟩⟩⟩⟩)⟩, ⟨by (with_reducible repeat (first | apply Kd.R_alloc | apply Kd.R_drewN | apply Kd.R_drew)); exact Kd.R_mono HO333.out (fun _ hk => ⟨hk.1.1.1.2, ⟨hk.1.1.2, ⟨hk.1.1.1.1.1.1, ⟨hk.1.2, hk.2⟩⟩⟩⟩)⟩, ⟨by (with_reducible repeat (first | apply Kd.R_alloc | apply Kd.R_drewN | apply Kd.R_drew)); exact Kd.R_mono HO340.out (fun _ hk => ⟨hk.1.1.1.2, ⟨hk.1.1.2, ⟨hk.1.2, ⟨hk.2, hk.1.1.1.1.1.1⟩⟩⟩⟩)⟩, ⟨by (with_reducible repeat (first | apply Kd.R_alloc | apply Kd.R_drewN | apply Kd.R_drew)); exact Kd.R_mono HO343.out (fun _ hk => ⟨hk.1.1.1.2, ⟨hk.1.1.2, ⟨hk.1.2, ⟨hk.2, hk.1.1.1.1.1.1⟩⟩⟩⟩)⟩, ⟨tK BK309.out⟩, ⟨tK BK327.out⟩, ⟨tK BK334.out⟩, ⟨tK BK345.out⟩, ⟨tB HB.out⟩⟩
   case rest =>
    clear HC16
    try clear c1
    try clear c2
    try clear p2
    try clear c3
    try clear c3b0
    try clear c3b1
    try clear c4
    try clear c5
    try clear c6
    try clear c6b0
    try clear p6
    try clear c12
    try clear c15
    try clear c17
    try clear c19
    try clear c29
    try clear c36
    try clear c37
    try clear c44
    try clear c45
    try clear c46
    try clear c47
    try clear c48
    try clear c52
    try clear c53
    try clear c54
    try clear c55
    try clear c57
    try clear c58
    try clear c61
    try clear c62
    try clear c63
    try clear p64
    try clear c65
    try clear c66
    try clear hcz18_0
    try clear hcz18_1
    try clear hcz20_0
    try clear hcz20_1
    try clear hcz30_0
    try clear hcz30_1
    try clear hcz32_0
    try clear hcz32_1
    try clear hcz38_0
    try clear hcz38_1
    try clear hcz41_0
    try clear hcz41_1
    try clear hcz49_0
    try clear hcz49_1
    try clear hcz56_0
    try clear hcz56_1
    try clear hcz59_0
    try clear hcz59_1
    try clear hcz64_0
    try clear hcz64_1
    try clear hcz67_0
    try clear hcz67_1
    try clear hcz8_0
    try clear hcz8_1
    try clear hfz18_0
    try clear hfz18_1
    try clear hfz20_0
    try clear hfz20_1
    try clear hfz30_0
    try clear hfz30_1
    try clear hfz32_0
    try clear hfz32_1
    try clear hfz38_0
    try clear hfz38_1
    try clear hfz41_0
    try clear hfz41_1
    try clear hfz49_0
    try clear hfz49_1
    try clear hfz56_0
    try clear hfz56_1
    try clear hfz59_0
    try clear hfz59_1
    try clear hfz64_0
    try clear hfz64_1
    try clear hfz67_0
    try clear hfz67_1
    try clear hfz8_0
    try clear hfz8_1
    obtain ⟨kq, x51_15, rfl, HA, HJ15, HO_9, HO_328000, HO_328001, HO_335000, HO_335001, HO_346000, HO_346001, BK309, BK327, BK334, BK345, HB⟩ := hcut
    cases kq with
    | zero => exact absurd HA.out (by simp [laws_FnExactHangLeaves.j0])
    | succ kj15 =>
     have H := HA.out
     clear HA
     simp only [laws_FnExactHangLeaves.j0] at H
     by_cases c69 : x51_15 = true
     ·
      subst c69
      have H1 : (some false) = some r := by rw [if_pos rfl] at H; exact H
      clear H
      have H := H1
      clear H1
      obtain rfl := Option.some.inj H
      go_wp2
      go_ret
      exact ⟨by first | rfl | (simp [errW_none, errW_some] <;> rfl) | (simp [*, errW_none, errW_some] <;> rfl), tB HB.out⟩
     ·
      replace c69 := Bool.eq_false_iff.mpr c69
      subst c69
      have H1 : ((laws_toMobile.f kj15 l0_0 l0_1).bind fun bt347 => ((laws_eqMobile.f kj15 t328 t331 bt347.1 bt347.2).bind fun t353 => (if t353 = true then ((laws_toIntS.f kj15 l1).bind fun t354 => ((laws_eqIntS.f kj15 t335 t354).bind fun t357 => (if t357 = true then ((laws_markMobile.f kj15 t328 t331 1).bind fun bt358 => ((laws_markIntS.f kj15 t335 bt358.1).bind fun bt361 => (if bt361.1 < 0 then (laws_FnExactHangLeaves.j1 kj15 l1 t326 true l0_0 l0_1 t320 t323 t338 t341) else ((laws_eqMobile.f kj15 t338 t341 t320 t323).bind fun t363 => (if t363 = true then (laws_FnExactHangLeaves.j1 kj15 l1 t326 (t344 != t326) l0_0 l0_1 t320 t323 t338 t341) else (laws_FnExactHangLeaves.j1 kj15 l1 t326 true l0_0 l0_1 t320 t323 t338 t341)))))) else (some false)))) else (some false)))) = some r := by rw [if_neg (show ¬ (false = true) by decide)] at H; exact H
      clear H
      have H := H1
      clear H1
      replace H := Option.bind_eq_some_iff.mp H
      obtain ⟨⟨t347, t350⟩, A700, H⟩ := H
      replace H : ((laws_eqMobile.f kj15 t328 t331 t347 t350).bind fun t353 => (if t353 = true then ((laws_toIntS.f kj15 l1).bind fun t354 => ((laws_eqIntS.f kj15 t335 t354).bind fun t357 => (if t357 = true then ((laws_markMobile.f kj15 t328 t331 1).bind fun bt358 => ((laws_markIntS.f kj15 t335 bt358.1).bind fun bt361 => (if bt361.1 < 0 then (laws_FnExactHangLeaves.j1 kj15 l1 t326 true l0_0 l0_1 t320 t323 t338 t341) else ((laws_eqMobile.f kj15 t338 t341 t320 t323).bind fun t363 => (if t363 = true then (laws_FnExactHangLeaves.j1 kj15 l1 t326 (t344 != t326) l0_0 l0_1 t320 t323 t338 t341) else (laws_FnExactHangLeaves.j1 kj15 l1 t326 true l0_0 l0_1 t320 t323 t338 t341)))))) else (some false)))) else (some false))) = some r := H
      have A70 := Aside0.mk A700
      clear A700
      replace H := Option.bind_eq_some_iff.mp H
      obtain ⟨t353, A710, H⟩ := H
      replace H : (if t353 = true then ((laws_toIntS.f kj15 l1).bind fun t354 => ((laws_eqIntS.f kj15 t335 t354).bind fun t357 => (if t357 = true then ((laws_markMobile.f kj15 t328 t331 1).bind fun bt358 => ((laws_markIntS.f kj15 t335 bt358.1).bind fun bt361 => (if bt361.1 < 0 then (laws_FnExactHangLeaves.j1 kj15 l1 t326 true l0_0 l0_1 t320 t323 t338 t341) else ((laws_eqMobile.f kj15 t338 t341 t320 t323).bind fun t363 => (if t363 = true then (laws_FnExactHangLeaves.j1 kj15 l1 t326 (t344 != t326) l0_0 l0_1 t320 t323 t338 t341) else (laws_FnExactHangLeaves.j1 kj15 l1 t326 true l0_0 l0_1 t320 t323 t338 t341)))))) else (some false)))) else (some false)) = some r := H
      have A71 := Aside0.mk A710
      clear A710
      by_cases c72 : t353 = true
      ·
       subst c72
       have H1 : ((laws_toIntS.f kj15 l1).bind fun t354 => ((laws_eqIntS.f kj15 t335 t354).bind fun t357 => (if t357 = true then ((laws_markMobile.f kj15 t328 t331 1).bind fun bt358 => ((laws_markIntS.f kj15 t335 bt358.1).bind fun bt361 => (if bt361.1 < 0 then (laws_FnExactHangLeaves.j1 kj15 l1 t326 true l0_0 l0_1 t320 t323 t338 t341) else ((laws_eqMobile.f kj15 t338 t341 t320 t323).bind fun t363 => (if t363 = true then (laws_FnExactHangLeaves.j1 kj15 l1 t326 (t344 != t326) l0_0 l0_1 t320 t323 t338 t341) else (laws_FnExactHangLeaves.j1 kj15 l1 t326 true l0_0 l0_1 t320 t323 t338 t341)))))) else (some false)))) = some r := by rw [if_pos rfl] at H; exact H
       clear H
       have H := H1
       clear H1
       replace H := Option.bind_eq_some_iff.mp H
       obtain ⟨t354, A730, H⟩ := H
       replace H : ((laws_eqIntS.f kj15 t335 t354).bind fun t357 => (if t357 = true then ((laws_markMobile.f kj15 t328 t331 1).bind fun bt358 => ((laws_markIntS.f kj15 t335 bt358.1).bind fun bt361 => (if bt361.1 < 0 then (laws_FnExactHangLeaves.j1 kj15 l1 t326 true l0_0 l0_1 t320 t323 t338 t341) else ((laws_eqMobile.f kj15 t338 t341 t320 t323).bind fun t363 => (if t363 = true then (laws_FnExactHangLeaves.j1 kj15 l1 t326 (t344 != t326) l0_0 l0_1 t320 t323 t338 t341) else (laws_FnExactHangLeaves.j1 kj15 l1 t326 true l0_0 l0_1 t320 t323 t338 t341)))))) else (some false))) = some r := H
       have A73 := Aside0.mk A730
       clear A730
       replace H := Option.bind_eq_some_iff.mp H
       obtain ⟨t357, A740, H⟩ := H
       replace H : (if t357 = true then ((laws_markMobile.f kj15 t328 t331 1).bind fun bt358 => ((laws_markIntS.f kj15 t335 bt358.1).bind fun bt361 => (if bt361.1 < 0 then (laws_FnExactHangLeaves.j1 kj15 l1 t326 true l0_0 l0_1 t320 t323 t338 t341) else ((laws_eqMobile.f kj15 t338 t341 t320 t323).bind fun t363 => (if t363 = true then (laws_FnExactHangLeaves.j1 kj15 l1 t326 (t344 != t326) l0_0 l0_1 t320 t323 t338 t341) else (laws_FnExactHangLeaves.j1 kj15 l1 t326 true l0_0 l0_1 t320 t323 t338 t341)))))) else (some false)) = some r := H
       have A74 := Aside0.mk A740
       clear A740
       by_cases c75 : t357 = true
       ·
        subst c75
        have H1 : ((laws_markMobile.f kj15 t328 t331 1).bind fun bt358 => ((laws_markIntS.f kj15 t335 bt358.1).bind fun bt361 => (if bt361.1 < 0 then (laws_FnExactHangLeaves.j1 kj15 l1 t326 true l0_0 l0_1 t320 t323 t338 t341) else ((laws_eqMobile.f kj15 t338 t341 t320 t323).bind fun t363 => (if t363 = true then (laws_FnExactHangLeaves.j1 kj15 l1 t326 (t344 != t326) l0_0 l0_1 t320 t323 t338 t341) else (laws_FnExactHangLeaves.j1 kj15 l1 t326 true l0_0 l0_1 t320 t323 t338 t341)))))) = some r := by rw [if_pos rfl] at H; exact H
        clear H
        have H := H1
        clear H1
        replace H := Option.bind_eq_some_iff.mp H
        obtain ⟨⟨t358, t359, t360⟩, A760, H⟩ := H
        replace H : ((laws_markIntS.f kj15 t335 t358).bind fun bt361 => (if bt361.1 < 0 then (laws_FnExactHangLeaves.j1 kj15 l1 t326 true l0_0 l0_1 t320 t323 t338 t341) else ((laws_eqMobile.f kj15 t338 t341 t320 t323).bind fun t363 => (if t363 = true then (laws_FnExactHangLeaves.j1 kj15 l1 t326 (t344 != t326) l0_0 l0_1 t320 t323 t338 t341) else (laws_FnExactHangLeaves.j1 kj15 l1 t326 true l0_0 l0_1 t320 t323 t338 t341))))) = some r := H
        have A76 := Aside0.mk A760
        clear A760
        replace H := Option.bind_eq_some_iff.mp H
        obtain ⟨⟨t361, t362⟩, A770, H⟩ := H
        replace H : (if t361 < 0 then (laws_FnExactHangLeaves.j1 kj15 l1 t326 true l0_0 l0_1 t320 t323 t338 t341) else ((laws_eqMobile.f kj15 t338 t341 t320 t323).bind fun t363 => (if t363 = true then (laws_FnExactHangLeaves.j1 kj15 l1 t326 (t344 != t326) l0_0 l0_1 t320 t323 t338 t341) else (laws_FnExactHangLeaves.j1 kj15 l1 t326 true l0_0 l0_1 t320 t323 t338 t341)))) = some r := H
        have A77 := Aside0.mk A770
        clear A770
        have HC78 := Aside0.mk H
        clear H
        try go_wp2
        replace HO_9 := Aside0.mk (Kd.R_drew HO_9.out)
        replace HO_328000 := Aside0.mk (Kd.R_drew HO_328000.out)
        replace HO_328001 := Aside0.mk (Kd.R_drew HO_328001.out)
        replace HO_335000 := Aside0.mk (Kd.R_drew HO_335000.out)
        replace HO_335001 := Aside0.mk (Kd.R_drew HO_335001.out)
        replace HO_346000 := Aside0.mk (Kd.R_drew HO_346000.out)
        replace HO_346001 := Aside0.mk (Kd.R_drew HO_346001.out)
        replace BK309 := Aside0.mk (blk_drew BK309.out)
        replace BK327 := Aside0.mk (blk_drew BK327.out)
        replace BK334 := Aside0.mk (blk_drew BK334.out)
        replace BK345 := Aside0.mk (blk_drew BK345.out)
        replace HB := Aside0.mk (below_drew1 HB.out)
        refine start_ (n := 5) (S := fun w' => w'.cell? ⟨gb334, 0, none⟩ = some (.slice Ao35 t328.length co35) ∧ w'.cell? ⟨gb334, 1, none⟩ = some (.slice Ao39 t331.length co39) ∧ w'.cell? ⟨gb309, 0, none⟩ = some (.slice A0_0 l0_0.length c0_0) ∧ w'.cell? ⟨gb309, 1, none⟩ = some (.slice A0_1 l0_1.length c0_1)) (ds := []) #[false, false, false, false, false] (by kernel_rfl) rfl rfl ⟨(blk_cell BK334.out 0).trans rfl, (blk_cell BK334.out 1).trans rfl, (blk_cell BK309.out 0).trans rfl, (blk_cell BK309.out 1).trans rfl⟩ (fun hHeld => ?_)
        generalize wc.drew = w79 at HO_9 HO_328000 HO_328001 HO_335000 HO_335001 HO_346000 HO_346001 BK309 BK327 BK334 BK345 HB hHeld ⊢
        refine take_ (i := 0) (N := some 52) (v := ?_) (a' := ?_) #[true, false, false, false, false] rfl rfl (by kernel_rfl) (fun _ _ _ h => h) (Or.inl ⟨by rfl, ?_⟩) hHeld ?_ ?_
        rotate_left
        ·
         rintro w' ⟨s0, s1, s2, s3⟩
         go_simp
         with_reducible rfl
        rotate_left
        ·
         simp only [Act.put, List.setIfInBounds_toArray, List.set_cons_zero, List.set_cons_succ, i64_w, i32_w]
         rfl
        refine take_ (i := 1) (N := some 53) (v := ?_) (a' := ?_) #[true, true, false, false, false] rfl rfl (by kernel_rfl) (fun _ _ _ h => h) (Or.inl ⟨by rfl, ?_⟩) hHeld ?_ ?_
        rotate_left
        ·
         rintro w' ⟨s0, s1, s2, s3⟩
         go_simp
         with_reducible rfl
        rotate_left
        ·
         simp only [Act.put, List.setIfInBounds_toArray, List.set_cons_zero, List.set_cons_succ, i64_w, i32_w]
         rfl
        refine one_ (i := 2) (N := some 54) #[true, true, true, false, false] rfl rfl (by kernel_rfl) (by decide) (fun K hK => ?_)
        refine goes_ Try.func17 (by kernel_rfl) rfl #[.agg #[.slice A0_0 l0_0.length c0_0, .slice A0_1 l0_1.length c0_1]] (by rfl) rfl rfl tM ?_
        with_reducible refine (laws_toMobile.calls kj15 _ _ l0_0 _ _ l0_1 t347 t350 _ ?side1 ?side2 ?side3 ?side4 A70.out).mono ?_
        (case side1 => exact tC (Kd.C_below HR0_0.out HB.out))
        (case side2 => exact HC0_0.out)
        (case side3 => exact tC (Kd.C_below HR0_1.out HB.out))
        (case side4 => exact HC0_1.out)
        rintro e w80 ⟨v348, v351, rfl, ho0, ho1, hb⟩
        refine ⟨_, rfl, ?_⟩
        replace HO_9 := Aside0.mk (Kd.R_below (tR HO_9.out) hb)
        have HO349 := Aside0.mk (Kd.R_lower (Kd.R_new' (Kd.R_new' (Kd.R_new' (Kd.R_new' (Kd.R_new' (Kd.R_new' ho0 (Kd.R_lt (tR HO_328000.out))) (Kd.R_lt (tR HO_328001.out))) (Kd.R_lt (tR HO_335000.out))) (Kd.R_lt (tR HO_335001.out))) (Kd.R_lt (tR HO_346000.out))) (Kd.R_lt (tR HO_346001.out))) (below_size (tB HB.out)))
        have HO352 := Aside0.mk (Kd.R_lower (Kd.R_new' (Kd.R_new' (Kd.R_new' (Kd.R_new' (Kd.R_new' (Kd.R_new' ho1 (Kd.R_lt (tR HO_328000.out))) (Kd.R_lt (tR HO_328001.out))) (Kd.R_lt (tR HO_335000.out))) (Kd.R_lt (tR HO_335001.out))) (Kd.R_lt (tR HO_346000.out))) (Kd.R_lt (tR HO_346001.out))) (below_size (tB HB.out)))
        replace HO_328000 := Aside0.mk (Kd.R_mono (Kd.R_told (Kd.R_told (Kd.R_old (tR HO_328000.out) hb) (Kd.R_base ho0)) (Kd.R_base ho1)) (fun _ h_ => h_.1))
        replace HO_328001 := Aside0.mk (Kd.R_mono (Kd.R_told (Kd.R_told (Kd.R_old (tR HO_328001.out) hb) (Kd.R_base ho0)) (Kd.R_base ho1)) (fun _ h_ => h_.1))
        replace HO_335000 := Aside0.mk (Kd.R_mono (Kd.R_told (Kd.R_told (Kd.R_old (tR HO_335000.out) hb) (Kd.R_base ho0)) (Kd.R_base ho1)) (fun _ h_ => h_.1))
        replace HO_335001 := Aside0.mk (Kd.R_mono (Kd.R_told (Kd.R_told (Kd.R_old (tR HO_335001.out) hb) (Kd.R_base ho0)) (Kd.R_base ho1)) (fun _ h_ => h_.1))
        replace HO_346000 := Aside0.mk (Kd.R_mono (Kd.R_told (Kd.R_told (Kd.R_old (tR HO_346000.out) hb) (Kd.R_base ho0)) (Kd.R_base ho1)) (fun _ h_ => h_.1))
        replace HO_346001 := Aside0.mk (Kd.R_mono (Kd.R_told (Kd.R_told (Kd.R_old (tR HO_346001.out) hb) (Kd.R_base ho0)) (Kd.R_base ho1)) (fun _ h_ => h_.1))
        replace BK309 := bkB BK309 hb
        replace BK327 := bkB BK327 hb
        replace BK334 := bkB BK334 hb
        replace BK345 := bkB BK345 hb
        replace HB := Aside0.mk (below_step (tB HB.out) hb)
        (try clear hb)
        (try clear hb2)
        (try clear hk)
        (try clear hi)
        (try clear ho0)
        (try clear ho1)
        obtain ⟨Ao81, co81, eo81⟩ := Kd.R_slice HO349.out
        (first | subst eo81 | (injection eo81 with f1_ f2_ f3_; have f4_ := f1_.symm; have f5_ := f3_.symm; clear f1_ f2_ f3_; subst f4_; subst f5_))
        obtain ⟨Ao82, co82, eo82⟩ := Kd.R_slice HO352.out
        (first | subst eo82 | (injection eo82 with f1_ f2_ f3_; have f4_ := f1_.symm; have f5_ := f3_.symm; clear f1_ f2_ f3_; subst f4_; subst f5_))
        refine hK.out _ _ ⟨(blk_cell BK334.out 0).trans rfl, (blk_cell BK334.out 1).trans rfl, (blk_cell BK309.out 0).trans rfl, (blk_cell BK309.out 1).trans rfl⟩ (fun hHeld => ?_)
        clear hK K
        refine norm_ (a' := ?_) ?_ ?_
        rotate_left
        ·
         show Act.put _ (some 54) _ = _
         simp only [Act.put, List.setIfInBounds_toArray, List.set_cons_zero, List.set_cons_succ, i64_w, i32_w]
         rfl
        refine one_ (i := 3) (N := some 55) #[true, true, true, true, false] rfl rfl (by kernel_rfl) (by decide) (fun K hK => ?_)
        refine goes_ Try.func19 (by kernel_rfl) rfl #[.agg #[.slice Ao35 t328.length co35, .slice Ao39 t331.length co39], .agg #[.slice Ao81 t347.length co81, .slice Ao82 t350.length co82]] (by rfl) rfl rfl tM ?_
        with_reducible refine (laws_eqMobile.calls kj15 _ _ t328 _ _ t331 _ _ t347 _ _ t350 true _ ?side1 ?side2 ?side3 ?side4 ?side5 ?side6 ?side7 ?side8 A71.out).mono ?_
        (case side1 => exact tC (Kd.R_reads' HO_335000.out).2.2)
        (case side2 => exact (Kd.R_reads' HO_335000.out).2.1)
        (case side3 => exact tC (Kd.R_reads' HO_335001.out).2.2)
        (case side4 => exact (Kd.R_reads' HO_335001.out).2.1)
        (case side5 => exact tC (Kd.R_reads' HO349.out).2.2)
        (case side6 => exact (Kd.R_reads' HO349.out).2.1)
        (case side7 => exact tC (Kd.R_reads' HO352.out).2.2)
        (case side8 => exact (Kd.R_reads' HO352.out).2.1)
        rintro e w83 ⟨rfl, hb⟩
        refine ⟨_, rfl, ?_⟩
        replace HO_9 := Aside0.mk (Kd.R_below (tR HO_9.out) hb)
        replace HO_328000 := Aside0.mk (Kd.R_below (tR HO_328000.out) hb)
        replace HO_328001 := Aside0.mk (Kd.R_below (tR HO_328001.out) hb)
        replace HO_335000 := Aside0.mk (Kd.R_below (tR HO_335000.out) hb)
        replace HO_335001 := Aside0.mk (Kd.R_below (tR HO_335001.out) hb)
        replace HO_346000 := Aside0.mk (Kd.R_below (tR HO_346000.out) hb)
        replace HO_346001 := Aside0.mk (Kd.R_below (tR HO_346001.out) hb)
        replace HO349 := Aside0.mk (Kd.R_below (tR HO349.out) hb)
        replace HO352 := Aside0.mk (Kd.R_below (tR HO352.out) hb)
        replace BK309 := bkB BK309 hb
        replace BK327 := bkB BK327 hb
        replace BK334 := bkB BK334 hb
        replace BK345 := bkB BK345 hb
        replace HB := Aside0.mk (below_step (tB HB.out) hb)
        (try clear hb)
        (try clear hb2)
        (try clear hk)
        (try clear hi)
        refine hK.out _ _ ⟨(blk_cell BK334.out 0).trans rfl, (blk_cell BK334.out 1).trans rfl, (blk_cell BK309.out 0).trans rfl, (blk_cell BK309.out 1).trans rfl⟩ (fun hHeld => ?_)
        clear hK K
        refine norm_ (a' := ?_) ?_ ?_
        rotate_left
        ·
         show Act.put _ (some 55) _ = _
         simp only [Act.put, List.setIfInBounds_toArray, List.set_cons_zero, List.set_cons_succ, i64_w, i32_w]
         rfl
        refine pure_ (i := 4) (N := some 56) (v := ?_) (a' := ?_) #[true, true, true, true, true] rfl rfl (by kernel_rfl) (fun _ _ _ h => h) (Or.inl ⟨by rfl, ?_⟩) ?_ ?_
        rotate_left
        ·
         intro w'
         go_simp
         with_reducible rfl
        rotate_left
        ·
         simp only [Act.put, List.setIfInBounds_toArray, List.set_cons_zero, List.set_cons_succ, i64_w, i32_w]
         rfl
        refine done_ (by kernel_rfl) ?_
        go_upto_region 20 with (first | ((with_reducible refine gate_callee (f := 45) rfl ?_); refine goesL_ (some 59) rfl rfl Try.func45 (by kernel_rfl) rfl #[.slice A1 l1.length c1] rfl tM ?_; (with_reducible refine (laws_toIntS.calls kj15 _ _ l1 t354 _ ?side1 ?side2 A73.out).mono ?_); (case side1 => exact tC (Kd.C_below HR1.out HB.out)); (case side2 => exact HC1.out); rintro e w84 ⟨v355, rfl, ho0, hb⟩; refine ⟨_, rfl, ?_⟩; replace HO_328000 := Aside0.mk (Kd.R_below (tR HO_328000.out) hb); replace HO_328001 := Aside0.mk (Kd.R_below (tR HO_328001.out) hb); replace HO_335000 := Aside0.mk (Kd.R_below (tR HO_335000.out) hb); replace HO_335001 := Aside0.mk (Kd.R_below (tR HO_335001.out) hb); replace HO_346000 := Aside0.mk (Kd.R_below (tR HO_346000.out) hb); replace HO_346001 := Aside0.mk (Kd.R_below (tR HO_346001.out) hb); replace HO349 := Aside0.mk (Kd.R_below (tR HO349.out) hb); replace HO352 := Aside0.mk (Kd.R_below (tR HO352.out) hb); have HO356 := Aside0.mk (Kd.R_lower (Kd.R_new' ho0 (Kd.R_lt (tR HO_9.out))) (below_size (tB HB.out))); replace HO_9 := Aside0.mk (Kd.R_elder' (tR HO_9.out) (Kd.R_base ho0) hb); replace BK309 := bkB BK309 hb; replace BK327 := bkB BK327 hb; replace BK334 := bkB BK334 hb; replace BK345 := bkB BK345 hb; replace HB := Aside0.mk (below_step (tB HB.out) hb); (try clear hb); (try clear hb2); (try clear hk); (try clear hi); (try clear ho0); obtain ⟨Ao85, co85, eo85⟩ := Kd.R_slice HO356.out; subst eo85) | ((with_reducible refine gate_callee (f := 28) rfl ?_); refine goesL_ (some 60) rfl rfl Try.func28 (by kernel_rfl) rfl #[.slice Ao42 t335.length co42, .slice Ao85 t354.length co85] rfl tM ?_; (with_reducible refine (laws_eqIntS.calls kj15 _ _ t335 _ _ t354 true _ ?side1 ?side2 ?side3 ?side4 A74.out).mono ?_); (case side1 => exact tC (Kd.R_reads' HO_9.out).2.2); (case side2 => exact (Kd.R_reads' HO_9.out).2.1); (case side3 => exact tC (Kd.R_reads' HO356.out).2.2); (case side4 => exact (Kd.R_reads' HO356.out).2.1); rintro e w' ⟨rfl, ⟨nd, rfl⟩⟩; refine ⟨_, rfl, ?_⟩; (try (rw [drewN_self w84]; generalize hq_ : World.drewN w84 _ = w84; have n0_ := Aside0.mk (Kd.R_at hq_ HO_9.out); have n1_ := Aside0.mk (Kd.R_at hq_ HO_328000.out); have n2_ := Aside0.mk (Kd.R_at hq_ HO_328001.out); have n3_ := Aside0.mk (Kd.R_at hq_ HO_335000.out); have n4_ := Aside0.mk (Kd.R_at hq_ HO_335001.out); have n5_ := Aside0.mk (Kd.R_at hq_ HO_346000.out); have n6_ := Aside0.mk (Kd.R_at hq_ HO_346001.out); have n7_ := Aside0.mk (Kd.R_at hq_ HO349.out); have n8_ := Aside0.mk (Kd.R_at hq_ HO352.out); have n9_ := Aside0.mk (Kd.R_at hq_ HO356.out); have n10_ := Aside0.mk (blk_at hq_ BK309.out); have n11_ := Aside0.mk (blk_at hq_ BK327.out); have n12_ := Aside0.mk (blk_at hq_ BK334.out); have n13_ := Aside0.mk (blk_at hq_ BK345.out); have n14_ := Aside0.mk (below_at hq_ HB.out); clear hq_ HO_9 HO_328000 HO_328001 HO_335000 HO_335001 HO_346000 HO_346001 HO349 HO352 HO356 BK309 BK327 BK334 BK345 HB; have HO_9 := n0_; have HO_328000 := n1_; have HO_328001 := n2_; have HO_335000 := n3_; have HO_335001 := n4_; have HO_346000 := n5_; have HO_346001 := n6_; have HO349 := n7_; have HO352 := n8_; have HO356 := n9_; have BK309 := n10_; have BK327 := n11_; have BK334 := n12_; have BK345 := n13_; have HB := n14_; clear n0_ n1_ n2_ n3_ n4_ n5_ n6_ n7_ n8_ n9_ n10_ n11_ n12_ n13_ n14_)); have hnb86 := NB334_309.out; have hnc86 := NB309_334.out; have hnb87 := NB334_327.out; have hnc87 := NB327_334.out; have hnb88 := NB334_345.out; have hnc88 := NB345_334.out; obtain ⟨hcz89_0, hfz89_0, hcz89_1, hfz89_1⟩ := cz2 BK334) | ((with_reducible refine gate_callee (f := 24) rfl ?_); refine goesL_ (some 64) rfl rfl Try.func24 (by kernel_rfl) rfl #[.agg #[.slice Ao35 t328.length co35, .slice Ao39 t331.length co39], .int .i64 1] rfl tM ?_; (with_reducible refine (laws_markMobile.calls kj15 (fun k_ => some k_ = (.slice Ao35 t328.length co35 : Value).ownBlock) (.slice Ao35 t328.length co35) t328 (fun k_ => some k_ = (.slice Ao39 t331.length co39 : Value).ownBlock) (.slice Ao39 t331.length co39) t331 1 t358 t359 t360 w _ ?side1 ?side2 ?side3 ?side4 ?side5 A76.out).mono ?_); (case side1 => repeat (first | (with_reducible first | exact HB.out | apply below_alloc | apply pw_below_drewN | apply below_drew1 | refine below_set ?_ GE309.out | refine below_set ?_ GE327.out | refine below_set ?_ GE334.out | refine below_set ?_ GE345.out) | exact HB.out)); (case side2 => exact Kd.R_tight rfl HO_335000.out); (case side3 => exact fun k_ e_ => (HO_335000.out.1 k_ e_.symm).1.1.2.2.1); (case side4 => exact Kd.R_tight rfl HO_335001.out); (case side5 => exact fun k_ e_ => (HO_335001.out.1 k_ e_.symm).1.1.2.2.1); rintro e w90 ⟨rfl, hy0, hy1, hb, hkp⟩; refine ⟨_, rfl, ?_⟩; replace HO_9 := Aside0.mk (Kd.R_mono (ok' := fun k_ => some k_ ≠ (.slice Ao85 t354.length co85 : Value).ownBlock) (Kd.R_keptB ((Kd.R_apart' (Kd.R_apart' HO_9.out (Kd.R_typed HO_335000.out) (by decide)) (Kd.R_typed HO_335001.out) (by decide))) hkp (fun k_ hk_ hs_ => Or.elim hs_ (fun e_ => (hk_.1.2) e_) (fun e_ => (hk_.2) e_))) (fun k_ hk_ => hk_.1.1.1.2)); replace HO_328000 := Aside0.mk (Kd.R_mono (ok' := fun k_ => some k_ ≠ (.slice Ao31 t323.length co31 : Value).ownBlock ∧ some k_ ≠ (.slice Ao35 t328.length co35 : Value).ownBlock ∧ some k_ ≠ (.slice Ao39 t331.length co39 : Value).ownBlock ∧ some k_ ≠ (.slice Ao45 t338.length co45 : Value).ownBlock ∧ some k_ ≠ (.slice Ao50 t341.length co50 : Value).ownBlock ∧ some k_ ≠ (.slice Ao81 t347.length co81 : Value).ownBlock ∧ some k_ ≠ (.slice Ao82 t350.length co82 : Value).ownBlock) (Kd.R_keptB (HO_328000.out) hkp (fun k_ hk_ hs_ => Or.elim hs_ (fun e_ => (hk_.1.1.2.1) e_) (fun e_ => (hk_.1.1.2.2.1) e_))) (fun k_ hk_ => ⟨hk_.1.1.1.1, hk_.1.1.1.2.1, hk_.1.1.1.2.2.1, hk_.1.1.1.2.2.2.1, hk_.1.1.1.2.2.2.2, hk_.1.1.2, hk_.1.2⟩)); replace HO_328001 := Aside0.mk (Kd.R_mono (ok' := fun k_ => some k_ ≠ (.slice Ao28 t320.length co28 : Value).ownBlock ∧ some k_ ≠ (.slice Ao35 t328.length co35 : Value).ownBlock ∧ some k_ ≠ (.slice Ao39 t331.length co39 : Value).ownBlock ∧ some k_ ≠ (.slice Ao45 t338.length co45 : Value).ownBlock ∧ some k_ ≠ (.slice Ao50 t341.length co50 : Value).ownBlock ∧ some k_ ≠ (.slice Ao81 t347.length co81 : Value).ownBlock ∧ some k_ ≠ (.slice Ao82 t350.length co82 : Value).ownBlock) (Kd.R_keptB (HO_328001.out) hkp (fun k_ hk_ hs_ => Or.elim hs_ (fun e_ => (hk_.1.1.2.1) e_) (fun e_ => (hk_.1.1.2.2.1) e_))) (fun k_ hk_ => ⟨hk_.1.1.1.1, hk_.1.1.1.2.1, hk_.1.1.1.2.2.1, hk_.1.1.1.2.2.2.1, hk_.1.1.1.2.2.2.2, hk_.1.1.2, hk_.1.2⟩)); replace HO_346000 := Aside0.mk (Kd.R_mono (ok' := fun k_ => some k_ ≠ (.slice Ao28 t320.length co28 : Value).ownBlock ∧ some k_ ≠ (.slice Ao31 t323.length co31 : Value).ownBlock ∧ some k_ ≠ (.slice Ao35 t328.length co35 : Value).ownBlock ∧ some k_ ≠ (.slice Ao39 t331.length co39 : Value).ownBlock ∧ some k_ ≠ (.slice Ao50 t341.length co50 : Value).ownBlock ∧ some k_ ≠ (.slice Ao81 t347.length co81 : Value).ownBlock ∧ some k_ ≠ (.slice Ao82 t350.length co82 : Value).ownBlock) (Kd.R_keptB (HO_346000.out) hkp (fun k_ hk_ hs_ => Or.elim hs_ (fun e_ => (hk_.1.1.2.2.1) e_) (fun e_ => (hk_.1.1.2.2.2.1) e_))) (fun k_ hk_ => ⟨hk_.1.1.1.1, hk_.1.1.1.2.1, hk_.1.1.1.2.2.1, hk_.1.1.1.2.2.2.1, hk_.1.1.1.2.2.2.2, hk_.1.1.2, hk_.1.2⟩)); replace HO_346001 := Aside0.mk (Kd.R_mono (ok' := fun k_ => some k_ ≠ (.slice Ao28 t320.length co28 : Value).ownBlock ∧ some k_ ≠ (.slice Ao31 t323.length co31 : Value).ownBlock ∧ some k_ ≠ (.slice Ao35 t328.length co35 : Value).ownBlock ∧ some k_ ≠ (.slice Ao39 t331.length co39 : Value).ownBlock ∧ some k_ ≠ (.slice Ao45 t338.length co45 : Value).ownBlock ∧ some k_ ≠ (.slice Ao81 t347.length co81 : Value).ownBlock ∧ some k_ ≠ (.slice Ao82 t350.length co82 : Value).ownBlock) (Kd.R_keptB (HO_346001.out) hkp (fun k_ hk_ hs_ => Or.elim hs_ (fun e_ => (hk_.1.1.2.2.1) e_) (fun e_ => (hk_.1.1.2.2.2.1) e_))) (fun k_ hk_ => ⟨hk_.1.1.1.1, hk_.1.1.1.2.1, hk_.1.1.1.2.2.1, hk_.1.1.1.2.2.2.1, hk_.1.1.1.2.2.2.2, hk_.1.1.2, hk_.1.2⟩)); replace BK309 := Aside0.mk (blk_kept (tK BK309.out) hkp (fun hs_ => Or.elim hs_ (fun e_ => (fun e_ => (Kd.R_ne HO_335000.out BK309.out (by decide)) e_) e_) (fun e_ => (fun e_ => (Kd.R_ne HO_335001.out BK309.out (by decide)) e_) e_))); replace BK327 := Aside0.mk (blk_kept (tK BK327.out) hkp (fun hs_ => Or.elim hs_ (fun e_ => (fun e_ => (Kd.R_ne HO_335000.out BK327.out (by decide)) e_) e_) (fun e_ => (fun e_ => (Kd.R_ne HO_335001.out BK327.out (by decide)) e_) e_))); replace BK334 := Aside0.mk (blk_kept (tK BK334.out) hkp (fun hs_ => Or.elim hs_ (fun e_ => (fun e_ => (Kd.R_ne HO_335000.out BK334.out (by decide)) e_) e_) (fun e_ => (fun e_ => (Kd.R_ne HO_335001.out BK334.out (by decide)) e_) e_))); replace BK345 := Aside0.mk (blk_kept (tK BK345.out) hkp (fun hs_ => Or.elim hs_ (fun e_ => (fun e_ => (Kd.R_ne HO_335000.out BK345.out (by decide)) e_) e_) (fun e_ => (fun e_ => (Kd.R_ne HO_335001.out BK345.out (by decide)) e_) e_))); replace HO349 := Aside0.mk (Kd.R_mono (ok' := fun k_ => some k_ ≠ (.slice Ao28 t320.length co28 : Value).ownBlock ∧ some k_ ≠ (.slice Ao31 t323.length co31 : Value).ownBlock ∧ some k_ ≠ (.slice Ao35 t328.length co35 : Value).ownBlock ∧ some k_ ≠ (.slice Ao39 t331.length co39 : Value).ownBlock ∧ some k_ ≠ (.slice Ao45 t338.length co45 : Value).ownBlock ∧ some k_ ≠ (.slice Ao50 t341.length co50 : Value).ownBlock ∧ some k_ ≠ (.slice Ao82 t350.length co82 : Value).ownBlock) (Kd.R_keptB (HO349.out) hkp (fun k_ hk_ hs_ => Or.elim hs_ (fun e_ => (hk_.1.1.1.2) e_) (fun e_ => (hk_.1.1.2) e_))) (fun k_ hk_ => ⟨hk_.1.1.1.1.1.1.2, hk_.1.1.1.1.1.2, hk_.1.1.1.1.2, hk_.1.1.1.2, hk_.1.1.2, hk_.1.2, hk_.1.1.1.1.1.1.1⟩)); replace HO352 := Aside0.mk (Kd.R_mono (ok' := fun k_ => some k_ ≠ (.slice Ao28 t320.length co28 : Value).ownBlock ∧ some k_ ≠ (.slice Ao31 t323.length co31 : Value).ownBlock ∧ some k_ ≠ (.slice Ao35 t328.length co35 : Value).ownBlock ∧ some k_ ≠ (.slice Ao39 t331.length co39 : Value).ownBlock ∧ some k_ ≠ (.slice Ao45 t338.length co45 : Value).ownBlock ∧ some k_ ≠ (.slice Ao50 t341.length co50 : Value).ownBlock ∧ some k_ ≠ (.slice Ao81 t347.length co81 : Value).ownBlock) (Kd.R_keptB (HO352.out) hkp (fun k_ hk_ hs_ => Or.elim hs_ (fun e_ => (hk_.1.1.1.2) e_) (fun e_ => (hk_.1.1.2) e_))) (fun k_ hk_ => ⟨hk_.1.1.1.1.1.1.2, hk_.1.1.1.1.1.2, hk_.1.1.1.1.2, hk_.1.1.1.2, hk_.1.1.2, hk_.1.2, hk_.1.1.1.1.1.1.1⟩)); replace HO356 := Aside0.mk (Kd.R_mono (ok' := fun k_ => some k_ ≠ (.slice Ao42 t335.length co42 : Value).ownBlock) (Kd.R_keptB ((Kd.R_apart' (Kd.R_apart' HO356.out (Kd.R_typed HO_335000.out) (by decide)) (Kd.R_typed HO_335001.out) (by decide))) hkp (fun k_ hk_ hs_ => Or.elim hs_ (fun e_ => (hk_.1.2) e_) (fun e_ => (hk_.2) e_))) (fun k_ hk_ => hk_.1.1.1.2)); replace HO_335000 := Aside0.mk (Kd.R_reok rfl hy0 (fun k_ e_ => HO_335000.out.1 k_ e_)); replace HO_335001 := Aside0.mk (Kd.R_reok rfl hy1 (fun k_ e_ => HO_335001.out.1 k_ e_)); replace HB := Aside0.mk (hb); (try clear hb); (try clear hkp); (try clear hy0); (try clear hy1)) | ((with_reducible refine gate_callee (f := 29) rfl ?_); refine goesL_ (some 67) rfl rfl Try.func29 (by kernel_rfl) rfl #[.slice Ao42 t335.length co42, .int .i64 t358] rfl tM ?_; (with_reducible refine (laws_markIntS.calls kj15 (fun k_ => some k_ = (.slice Ao42 t335.length co42 : Value).ownBlock) (.slice Ao42 t335.length co42) t335 t358 t361 t362 w _ ?side1 ?side2 A77.out).mono ?_); (case side1 => repeat (first | (with_reducible first | exact HB.out | apply below_alloc | apply pw_below_drewN | apply below_drew1 | refine below_set ?_ GE309.out | refine below_set ?_ GE327.out | refine below_set ?_ GE334.out | refine below_set ?_ GE345.out) | exact HB.out)); (case side2 => exact Kd.R_tight rfl HO_9.out); rintro e w91 ⟨rfl, hy0, hb, hkp⟩; refine ⟨_, rfl, ?_⟩; replace HO_328000 := Aside0.mk (Kd.R_mono (ok' := fun k_ => some k_ ≠ (.slice Ao31 t323.length co31 : Value).ownBlock ∧ some k_ ≠ (.slice Ao35 t328.length co35 : Value).ownBlock ∧ some k_ ≠ (.slice Ao39 t331.length co39 : Value).ownBlock ∧ some k_ ≠ (.slice Ao45 t338.length co45 : Value).ownBlock ∧ some k_ ≠ (.slice Ao50 t341.length co50 : Value).ownBlock ∧ some k_ ≠ (.slice Ao81 t347.length co81 : Value).ownBlock ∧ some k_ ≠ (.slice Ao82 t350.length co82 : Value).ownBlock) (Kd.R_keptB ((Kd.R_apart' HO_328000.out (Kd.R_typed HO_9.out) (by decide))) hkp (fun k_ hk_ hs_ => (hk_.2) hs_)) (fun k_ hk_ => ⟨hk_.1.1.1, hk_.1.1.2.1, hk_.1.1.2.2.1, hk_.1.1.2.2.2.1, hk_.1.1.2.2.2.2.1, hk_.1.1.2.2.2.2.2.1, hk_.1.1.2.2.2.2.2.2⟩)); replace HO_328001 := Aside0.mk (Kd.R_mono (ok' := fun k_ => some k_ ≠ (.slice Ao28 t320.length co28 : Value).ownBlock ∧ some k_ ≠ (.slice Ao35 t328.length co35 : Value).ownBlock ∧ some k_ ≠ (.slice Ao39 t331.length co39 : Value).ownBlock ∧ some k_ ≠ (.slice Ao45 t338.length co45 : Value).ownBlock ∧ some k_ ≠ (.slice Ao50 t341.length co50 : Value).ownBlock ∧ some k_ ≠ (.slice Ao81 t347.length co81 : Value).ownBlock ∧ some k_ ≠ (.slice Ao82 t350.length co82 : Value).ownBlock) (Kd.R_keptB ((Kd.R_apart' HO_328001.out (Kd.R_typed HO_9.out) (by decide))) hkp (fun k_ hk_ hs_ => (hk_.2) hs_)) (fun k_ hk_ => ⟨hk_.1.1.1, hk_.1.1.2.1, hk_.1.1.2.2.1, hk_.1.1.2.2.2.1, hk_.1.1.2.2.2.2.1, hk_.1.1.2.2.2.2.2.1, hk_.1.1.2.2.2.2.2.2⟩)); replace HO_335000 := Aside0.mk (Kd.R_mono (ok' := fun k_ => some k_ ≠ (.slice Ao28 t320.length co28 : Value).ownBlock ∧ some k_ ≠ (.slice Ao31 t323.length co31 : Value).ownBlock ∧ some k_ ≠ (.slice Ao39 t331.length co39 : Value).ownBlock ∧ some k_ ≠ (.slice Ao45 t338.length co45 : Value).ownBlock ∧ some k_ ≠ (.slice Ao50 t341.length co50 : Value).ownBlock ∧ some k_ ≠ (.slice Ao81 t347.length co81 : Value).ownBlock ∧ some k_ ≠ (.slice Ao82 t350.length co82 : Value).ownBlock) (Kd.R_keptB ((Kd.R_apart' HO_335000.out (Kd.R_typed HO_9.out) (by decide))) hkp (fun k_ hk_ hs_ => (hk_.2) hs_)) (fun k_ hk_ => ⟨hk_.1.1.1.1.1, hk_.1.1.1.1.2.1, hk_.1.1.1.1.2.2.1, hk_.1.1.1.1.2.2.2.1, hk_.1.1.1.1.2.2.2.2, hk_.1.1.1.2, hk_.1.1.2⟩)); replace HO_335001 := Aside0.mk (Kd.R_mono (ok' := fun k_ => some k_ ≠ (.slice Ao28 t320.length co28 : Value).ownBlock ∧ some k_ ≠ (.slice Ao31 t323.length co31 : Value).ownBlock ∧ some k_ ≠ (.slice Ao35 t328.length co35 : Value).ownBlock ∧ some k_ ≠ (.slice Ao45 t338.length co45 : Value).ownBlock ∧ some k_ ≠ (.slice Ao50 t341.length co50 : Value).ownBlock ∧ some k_ ≠ (.slice Ao81 t347.length co81 : Value).ownBlock ∧ some k_ ≠ (.slice Ao82 t350.length co82 : Value).ownBlock) (Kd.R_keptB ((Kd.R_apart' HO_335001.out (Kd.R_typed HO_9.out) (by decide))) hkp (fun k_ hk_ hs_ => (hk_.2) hs_)) (fun k_ hk_ => ⟨hk_.1.1.1.1.1, hk_.1.1.1.1.2.1, hk_.1.1.1.1.2.2.1, hk_.1.1.1.1.2.2.2.1, hk_.1.1.1.1.2.2.2.2, hk_.1.1.1.2, hk_.1.1.2⟩)); replace HO_346000 := Aside0.mk (Kd.R_mono (ok' := fun k_ => some k_ ≠ (.slice Ao28 t320.length co28 : Value).ownBlock ∧ some k_ ≠ (.slice Ao31 t323.length co31 : Value).ownBlock ∧ some k_ ≠ (.slice Ao35 t328.length co35 : Value).ownBlock ∧ some k_ ≠ (.slice Ao39 t331.length co39 : Value).ownBlock ∧ some k_ ≠ (.slice Ao50 t341.length co50 : Value).ownBlock ∧ some k_ ≠ (.slice Ao81 t347.length co81 : Value).ownBlock ∧ some k_ ≠ (.slice Ao82 t350.length co82 : Value).ownBlock) (Kd.R_keptB ((Kd.R_apart' HO_346000.out (Kd.R_typed HO_9.out) (by decide))) hkp (fun k_ hk_ hs_ => (hk_.2) hs_)) (fun k_ hk_ => ⟨hk_.1.1.1, hk_.1.1.2.1, hk_.1.1.2.2.1, hk_.1.1.2.2.2.1, hk_.1.1.2.2.2.2.1, hk_.1.1.2.2.2.2.2.1, hk_.1.1.2.2.2.2.2.2⟩)); replace HO_346001 := Aside0.mk (Kd.R_mono (ok' := fun k_ => some k_ ≠ (.slice Ao28 t320.length co28 : Value).ownBlock ∧ some k_ ≠ (.slice Ao31 t323.length co31 : Value).ownBlock ∧ some k_ ≠ (.slice Ao35 t328.length co35 : Value).ownBlock ∧ some k_ ≠ (.slice Ao39 t331.length co39 : Value).ownBlock ∧ some k_ ≠ (.slice Ao45 t338.length co45 : Value).ownBlock ∧ some k_ ≠ (.slice Ao81 t347.length co81 : Value).ownBlock ∧ some k_ ≠ (.slice Ao82 t350.length co82 : Value).ownBlock) (Kd.R_keptB ((Kd.R_apart' HO_346001.out (Kd.R_typed HO_9.out) (by decide))) hkp (fun k_ hk_ hs_ => (hk_.2) hs_)) (fun k_ hk_ => ⟨hk_.1.1.1, hk_.1.1.2.1, hk_.1.1.2.2.1, hk_.1.1.2.2.2.1, hk_.1.1.2.2.2.2.1, hk_.1.1.2.2.2.2.2.1, hk_.1.1.2.2.2.2.2.2⟩)); replace BK309 := Aside0.mk (blk_kept (tK BK309.out) hkp (fun hs_ => (fun e_ => (Kd.R_ne HO_9.out BK309.out (by decide)) e_) hs_)); replace BK327 := Aside0.mk (blk_kept (tK BK327.out) hkp (fun hs_ => (fun e_ => (Kd.R_ne HO_9.out BK327.out (by decide)) e_) hs_)); replace BK334 := Aside0.mk (blk_kept (tK BK334.out) hkp (fun hs_ => (fun e_ => (Kd.R_ne HO_9.out BK334.out (by decide)) e_) hs_)); replace BK345 := Aside0.mk (blk_kept (tK BK345.out) hkp (fun hs_ => (fun e_ => (Kd.R_ne HO_9.out BK345.out (by decide)) e_) hs_)); replace HO349 := Aside0.mk (Kd.R_mono (ok' := fun k_ => some k_ ≠ (.slice Ao28 t320.length co28 : Value).ownBlock ∧ some k_ ≠ (.slice Ao31 t323.length co31 : Value).ownBlock ∧ some k_ ≠ (.slice Ao35 t328.length co35 : Value).ownBlock ∧ some k_ ≠ (.slice Ao39 t331.length co39 : Value).ownBlock ∧ some k_ ≠ (.slice Ao45 t338.length co45 : Value).ownBlock ∧ some k_ ≠ (.slice Ao50 t341.length co50 : Value).ownBlock ∧ some k_ ≠ (.slice Ao82 t350.length co82 : Value).ownBlock) (Kd.R_keptB ((Kd.R_apart' HO349.out (Kd.R_typed HO_9.out) (by decide))) hkp (fun k_ hk_ hs_ => (hk_.2) hs_)) (fun k_ hk_ => ⟨hk_.1.1.1, hk_.1.1.2.1, hk_.1.1.2.2.1, hk_.1.1.2.2.2.1, hk_.1.1.2.2.2.2.1, hk_.1.1.2.2.2.2.2.1, hk_.1.1.2.2.2.2.2.2⟩)); replace HO352 := Aside0.mk (Kd.R_mono (ok' := fun k_ => some k_ ≠ (.slice Ao28 t320.length co28 : Value).ownBlock ∧ some k_ ≠ (.slice Ao31 t323.length co31 : Value).ownBlock ∧ some k_ ≠ (.slice Ao35 t328.length co35 : Value).ownBlock ∧ some k_ ≠ (.slice Ao39 t331.length co39 : Value).ownBlock ∧ some k_ ≠ (.slice Ao45 t338.length co45 : Value).ownBlock ∧ some k_ ≠ (.slice Ao50 t341.length co50 : Value).ownBlock ∧ some k_ ≠ (.slice Ao81 t347.length co81 : Value).ownBlock) (Kd.R_keptB ((Kd.R_apart' HO352.out (Kd.R_typed HO_9.out) (by decide))) hkp (fun k_ hk_ hs_ => (hk_.2) hs_)) (fun k_ hk_ => ⟨hk_.1.1.1, hk_.1.1.2.1, hk_.1.1.2.2.1, hk_.1.1.2.2.2.1, hk_.1.1.2.2.2.2.1, hk_.1.1.2.2.2.2.2.1, hk_.1.1.2.2.2.2.2.2⟩)); replace HO_9 := Aside0.mk (Kd.R_reok rfl hy0 (fun k_ e_ => HO_9.out.1 k_ e_)); replace HO356 := Aside0.mk (Kd.R_mono (ok' := fun k_ => some k_ ≠ (.slice Ao42 t335.length co42 : Value).ownBlock) (Kd.R_keptB (HO356.out) hkp (fun k_ hk_ hs_ => (hk_) hs_)) (fun k_ hk_ => hk_.1)); replace HB := Aside0.mk (hb); (try clear hb); (try clear hkp); (try clear hy0)))
        (try simp only [Act.put, List.setIfInBounds_toArray, List.set_cons_zero, List.set_cons_succ])
        go_cut [80] (fun v80 wc => ∃ (kq : Nat) (x80_77 : Bool), v80 = .bool x80_77 ∧ Aside0 (laws_FnExactHangLeaves.j1 kq l1 t326 x80_77 l0_0 l0_1 t320 t323 t338 t341 = some r) ∧ Aside0 (kq ≤ kj15) ∧ Aside0 (Kd.R k58 58 wc w.heap.size (fun k_ => some k_ ≠ ((.slice Ao31 t323.length co31) : Value).ownBlock ∧ some k_ ≠ ((.slice Ao35 t328.length co35) : Value).ownBlock ∧ some k_ ≠ ((.slice Ao39 t331.length co39) : Value).ownBlock ∧ some k_ ≠ ((.slice Ao45 t338.length co45) : Value).ownBlock ∧ some k_ ≠ ((.slice Ao50 t341.length co50) : Value).ownBlock) (.slice Ao28 t320.length co28) t320) ∧ Aside0 (Kd.R k58 58 wc w.heap.size (fun k_ => some k_ ≠ ((.slice Ao28 t320.length co28) : Value).ownBlock ∧ some k_ ≠ ((.slice Ao35 t328.length co35) : Value).ownBlock ∧ some k_ ≠ ((.slice Ao39 t331.length co39) : Value).ownBlock ∧ some k_ ≠ ((.slice Ao45 t338.length co45) : Value).ownBlock ∧ some k_ ≠ ((.slice Ao50 t341.length co50) : Value).ownBlock) (.slice Ao31 t323.length co31) t323) ∧ Aside0 (Kd.R k58 58 wc w.heap.size (fun k_ => some k_ ≠ ((.slice Ao28 t320.length co28) : Value).ownBlock ∧ some k_ ≠ ((.slice Ao31 t323.length co31) : Value).ownBlock ∧ some k_ ≠ ((.slice Ao39 t331.length co39) : Value).ownBlock ∧ some k_ ≠ ((.slice Ao45 t338.length co45) : Value).ownBlock ∧ some k_ ≠ ((.slice Ao50 t341.length co50) : Value).ownBlock) (.slice Ao35 t328.length co35) t359) ∧ Aside0 (Kd.R k58 58 wc w.heap.size (fun k_ => some k_ ≠ ((.slice Ao28 t320.length co28) : Value).ownBlock ∧ some k_ ≠ ((.slice Ao31 t323.length co31) : Value).ownBlock ∧ some k_ ≠ ((.slice Ao35 t328.length co35) : Value).ownBlock ∧ some k_ ≠ ((.slice Ao45 t338.length co45) : Value).ownBlock ∧ some k_ ≠ ((.slice Ao50 t341.length co50) : Value).ownBlock) (.slice Ao39 t331.length co39) t360) ∧ Aside0 (Kd.R k58 58 wc w.heap.size (fun k_ => some k_ ≠ ((.slice Ao28 t320.length co28) : Value).ownBlock ∧ some k_ ≠ ((.slice Ao31 t323.length co31) : Value).ownBlock ∧ some k_ ≠ ((.slice Ao35 t328.length co35) : Value).ownBlock ∧ some k_ ≠ ((.slice Ao39 t331.length co39) : Value).ownBlock ∧ some k_ ≠ ((.slice Ao50 t341.length co50) : Value).ownBlock) (.slice Ao45 t338.length co45) t338) ∧ Aside0 (Kd.R k58 58 wc w.heap.size (fun k_ => some k_ ≠ ((.slice Ao28 t320.length co28) : Value).ownBlock ∧ some k_ ≠ ((.slice Ao31 t323.length co31) : Value).ownBlock ∧ some k_ ≠ ((.slice Ao35 t328.length co35) : Value).ownBlock ∧ some k_ ≠ ((.slice Ao39 t331.length co39) : Value).ownBlock ∧ some k_ ≠ ((.slice Ao45 t338.length co45) : Value).ownBlock) (.slice Ao50 t341.length co50) t341) ∧ Aside0 (wc.heap[gb309]? = some (.cells #[(.slice A0_0 l0_0.length c0_0), (.slice A0_1 l0_1.length c0_1)] 24 (0, 0))) ∧ Aside0 (wc.heap[gb327]? = some (.cells #[(.slice Ao28 t320.length co28), (.slice Ao31 t323.length co31)] 27 (0, 0))) ∧ Aside0 (wc.heap[gb334]? = some (.cells #[(.slice Ao35 t328.length co35), (.slice Ao39 t331.length co39)] 27 (0, 0))) ∧ Aside0 (wc.heap[gb345]? = some (.cells #[(.slice Ao45 t338.length co45), (.slice Ao50 t341.length co50)] 27 (0, 0))) ∧ Aside0 (Below w.heap.size w wc))
        case first =>
         have H := HC78.out
         clear HC78
         by_cases c92 : t361 < 0
         ·
          rw [if_pos c92] at H
          have c92b0 : decide (t361 < 0) = true := decide_eq_true c92
          clear c92
          (first | rw [c92b0] | (simp only [i64_w, i32_w]; rw [c92b0]) | skip)
          have H' := Aside0.mk H
          clear H
          go_wp2
          go_meet
          case rel => exact ⟨_, (true), (by first | rfl | (simp; done) | (simp [wrap64]; done) | (simp [*]; done)), H', ⟨by have := HJ15.out; first | omega | exact Nat.le_refl _⟩, ⟨by (with_reducible repeat (first | apply Kd.R_alloc | apply Kd.R_drewN | apply Kd.R_drew)); exact Kd.R_mono HO_328000.out (fun _ hk => ⟨hk.1, ⟨hk.2.1, ⟨hk.2.2.1, ⟨hk.2.2.2.1, hk.2.2.2.2.1⟩⟩⟩⟩)⟩, ⟨by (with_reducible repeat (first | apply Kd.R_alloc | apply Kd.R_drewN | apply Kd.R_drew)); exact Kd.R_mono HO_328001.out (fun _ hk => ⟨hk.1, ⟨hk.2.1, ⟨hk.2.2.1, ⟨hk.2.2.2.1, hk.2.2.2.2.1⟩⟩⟩⟩)⟩, ⟨by (with_reducible repeat (first | apply Kd.R_alloc | apply Kd.R_drewN | apply Kd.R_drew)); exact Kd.R_mono HO_335000.out (fun _ hk => ⟨hk.1, ⟨hk.2.1, ⟨hk.2.2.1, ⟨hk.2.2.2.1, hk.2.2.2.2.1⟩⟩⟩⟩)⟩, ⟨by (with_reducible repeat (first | apply Kd.R_alloc | apply Kd.R_drewN | apply Kd.R_drew)); exact Kd.R_mono HO_335001.out (fun _ hk => ⟨hk.1, ⟨hk.2.1, ⟨hk.2.2.1, ⟨hk.2.2.2.1, hk.2.2.2.2.1⟩⟩⟩⟩)⟩, ⟨by (with_reducible repeat (first | apply Kd.R_alloc | apply Kd.R_drewN | apply Kd.R_drew)); exact Kd.R_mono HO_346000.out (fun _ hk => ⟨hk.1, ⟨hk.2.1, ⟨hk.2.2.1, ⟨hk.2.2.2.1, hk.2.2.2.2.1⟩⟩⟩⟩)⟩, ⟨by (with_reducible repeat (first | apply Kd.R_alloc | apply Kd.R_drewN | apply Kd.R_drew)); exact Kd.R_mono HO_346001.out (fun _ hk => ⟨hk.1, ⟨hk.2.1, ⟨hk.2.2.1, ⟨hk.2.2.2.1, hk.2.2.2.2.1⟩⟩⟩⟩)⟩, ⟨tK BK309.out⟩, ⟨tK BK327.out⟩, ⟨tK BK334.out⟩, ⟨tK BK345.out⟩, ⟨tB HB.out⟩⟩
         ·
          rw [if_neg c92] at H
          have c92b0 : decide (t361 < 0) = false := decide_eq_false c92
          clear c92
          (first | rw [c92b0] | (simp only [i64_w, i32_w]; rw [c92b0]) | skip)
          replace H := Option.bind_eq_some_iff.mp H
          obtain ⟨t363, A930, H⟩ := H
          replace H : (if t363 = true then (laws_FnExactHangLeaves.j1 kj15 l1 t326 (t344 != t326) l0_0 l0_1 t320 t323 t338 t341) else (laws_FnExactHangLeaves.j1 kj15 l1 t326 true l0_0 l0_1 t320 t323 t338 t341)) = some r := H
          have A93 := Aside0.mk A930
          clear A930
          by_cases c94 : t363 = true
          ·
           subst c94
           have H1 : (laws_FnExactHangLeaves.j1 kj15 l1 t326 (t344 != t326) l0_0 l0_1 t320 t323 t338 t341) = some r := by rw [if_pos rfl] at H; exact H
           clear H
           have H := H1
           clear H1
           have H' := Aside0.mk H
           clear H
           have hnb95 := NB345_309.out
           have hnc95 := NB309_345.out
           have hnb96 := NB345_327.out
           have hnc96 := NB327_345.out
           have hnb97 := NB345_334.out
           have hnc97 := NB334_345.out
           obtain ⟨hcz98_0, hfz98_0, hcz98_1, hfz98_1⟩ := cz2 BK345
           have hnb99 := NB327_309.out
           have hnc99 := NB309_327.out
           have hnb100 := NB327_334.out
           have hnc100 := NB334_327.out
           obtain ⟨hcz101_0, hfz101_0, hcz101_1, hfz101_1⟩ := cz2 BK327
           go_wp2_with (first | (go_at_call 19; (with_reducible refine (laws_eqMobile.calls kj15 _ _ t338 _ _ t341 _ _ t320 _ _ t323 true _ ?side1 ?side2 ?side3 ?side4 ?side5 ?side6 ?side7 ?side8 A93.out).mono ?_); (case side1 => exact tC (Kd.R_reads' HO_346000.out).2.2); (case side2 => exact (Kd.R_reads' HO_346000.out).2.1); (case side3 => exact tC (Kd.R_reads' HO_346001.out).2.2); (case side4 => exact (Kd.R_reads' HO_346001.out).2.1); (case side5 => exact tC (Kd.R_reads' HO_328000.out).2.2); (case side6 => exact (Kd.R_reads' HO_328000.out).2.1); (case side7 => exact tC (Kd.R_reads' HO_328001.out).2.2); (case side8 => exact (Kd.R_reads' HO_328001.out).2.1); rintro e w102 ⟨rfl, hb⟩; replace HO_9 := Aside0.mk (Kd.R_below (tR HO_9.out) hb); replace HO_328000 := Aside0.mk (Kd.R_below (tR HO_328000.out) hb); replace HO_328001 := Aside0.mk (Kd.R_below (tR HO_328001.out) hb); replace HO_335000 := Aside0.mk (Kd.R_below (tR HO_335000.out) hb); replace HO_335001 := Aside0.mk (Kd.R_below (tR HO_335001.out) hb); replace HO_346000 := Aside0.mk (Kd.R_below (tR HO_346000.out) hb); replace HO_346001 := Aside0.mk (Kd.R_below (tR HO_346001.out) hb); replace HO349 := Aside0.mk (Kd.R_below (tR HO349.out) hb); replace HO352 := Aside0.mk (Kd.R_below (tR HO352.out) hb); replace HO356 := Aside0.mk (Kd.R_below (tR HO356.out) hb); replace BK309 := bkB BK309 hb; replace BK327 := bkB BK327 hb; replace BK334 := bkB BK334 hb; replace BK345 := bkB BK345 hb; replace HB := Aside0.mk (below_step (tB HB.out) hb); (try clear hb); (try clear hb2); (try clear hk); (try clear hi)))
           go_meet
           case rel => exact ⟨_, ((t344 != t326)), (by first | rfl | (simp; done) | (simp [wrap64]; done) | (simp [*]; done)), H', ⟨by have := HJ15.out; first | omega | exact Nat.le_refl _⟩, ⟨by (with_reducible repeat (first | apply Kd.R_alloc | apply Kd.R_drewN | apply Kd.R_drew)); exact Kd.R_mono HO_328000.out (fun _ hk => ⟨hk.1, ⟨hk.2.1, ⟨hk.2.2.1, ⟨hk.2.2.2.1, hk.2.2.2.2.1⟩⟩⟩⟩)⟩, ⟨by (with_reducible repeat (first | apply Kd.R_alloc | apply Kd.R_drewN | apply Kd.R_drew)); exact Kd.R_mono HO_328001.out (fun _ hk => ⟨hk.1, ⟨hk.2.1, ⟨hk.2.2.1, ⟨hk.2.2.2.1, hk.2.2.2.2.1⟩⟩⟩⟩)⟩, ⟨by (with_reducible repeat (first | apply Kd.R_alloc | apply Kd.R_drewN | apply Kd.R_drew)); exact Kd.R_mono HO_335000.out (fun _ hk => ⟨hk.1, ⟨hk.2.1, ⟨hk.2.2.1, ⟨hk.2.2.2.1, hk.2.2.2.2.1⟩⟩⟩⟩)⟩, ⟨by (with_reducible repeat (first | apply Kd.R_alloc | apply Kd.R_drewN | apply Kd.R_drew)); exact Kd.R_mono HO_335001.out (fun _ hk => ⟨hk.1, ⟨hk.2.1, ⟨hk.2.2.1, ⟨hk.2.2.2.1, hk.2.2.2.2.1⟩⟩⟩⟩)⟩, ⟨by (with_reducible repeat (first | apply Kd.R_alloc | apply Kd.R_drewN | apply Kd.R_drew)); exact Kd.R_mono HO_346000.out (fun _ hk => ⟨hk.1, ⟨hk.2.1, ⟨hk.2.2.1, ⟨hk.2.2.2.1, hk.2.2.2.2.1⟩⟩⟩⟩)⟩, ⟨by (with_reducible repeat (first | apply Kd.R_alloc | apply Kd.R_drewN | apply Kd.R_drew)); exact Kd.R_mono HO_346001.out (fun _ hk => ⟨hk.1, ⟨hk.2.1, ⟨hk.2.2.1, ⟨hk.2.2.2.1, hk.2.2.2.2.1⟩⟩⟩⟩)⟩, ⟨tK BK309.out⟩, ⟨tK BK327.out⟩, ⟨tK BK334.out⟩, ⟨tK BK345.out⟩, ⟨tB HB.out⟩⟩
          ·
           replace c94 := Bool.eq_false_iff.mpr c94
           subst c94
           have H1 : (laws_FnExactHangLeaves.j1 kj15 l1 t326 true l0_0 l0_1 t320 t323 t338 t341) = some r := by rw [if_neg (show ¬ (false = true) by decide)] at H; exact H
           clear H
           have H := H1
           clear H1
           have H' := Aside0.mk H
           clear H
           have hnb103 := NB345_309.out
           have hnc103 := NB309_345.out
           have hnb104 := NB345_327.out
           have hnc104 := NB327_345.out
           have hnb105 := NB345_334.out
           have hnc105 := NB334_345.out
           obtain ⟨hcz106_0, hfz106_0, hcz106_1, hfz106_1⟩ := cz2 BK345
           have hnb107 := NB327_309.out
           have hnc107 := NB309_327.out
           have hnb108 := NB327_334.out
           have hnc108 := NB334_327.out
           obtain ⟨hcz109_0, hfz109_0, hcz109_1, hfz109_1⟩ := cz2 BK327
           go_wp2_with (first | (go_at_call 19; (with_reducible refine (laws_eqMobile.calls kj15 _ _ t338 _ _ t341 _ _ t320 _ _ t323 false _ ?side1 ?side2 ?side3 ?side4 ?side5 ?side6 ?side7 ?side8 A93.out).mono ?_); (case side1 => exact tC (Kd.R_reads' HO_346000.out).2.2); (case side2 => exact (Kd.R_reads' HO_346000.out).2.1); (case side3 => exact tC (Kd.R_reads' HO_346001.out).2.2); (case side4 => exact (Kd.R_reads' HO_346001.out).2.1); (case side5 => exact tC (Kd.R_reads' HO_328000.out).2.2); (case side6 => exact (Kd.R_reads' HO_328000.out).2.1); (case side7 => exact tC (Kd.R_reads' HO_328001.out).2.2); (case side8 => exact (Kd.R_reads' HO_328001.out).2.1); rintro e w110 ⟨rfl, hb⟩; replace HO_9 := Aside0.mk (Kd.R_below (tR HO_9.out) hb); replace HO_328000 := Aside0.mk (Kd.R_below (tR HO_328000.out) hb); replace HO_328001 := Aside0.mk (Kd.R_below (tR HO_328001.out) hb); replace HO_335000 := Aside0.mk (Kd.R_below (tR HO_335000.out) hb); replace HO_335001 := Aside0.mk (Kd.R_below (tR HO_335001.out) hb); replace HO_346000 := Aside0.mk (Kd.R_below (tR HO_346000.out) hb); replace HO_346001 := Aside0.mk (Kd.R_below (tR HO_346001.out) hb); replace HO349 := Aside0.mk (Kd.R_below (tR HO349.out) hb); replace HO352 := Aside0.mk (Kd.R_below (tR HO352.out) hb); replace HO356 := Aside0.mk (Kd.R_below (tR HO356.out) hb); replace BK309 := bkB BK309 hb; replace BK327 := bkB BK327 hb; replace BK334 := bkB BK334 hb; replace BK345 := bkB BK345 hb; replace HB := Aside0.mk (below_step (tB HB.out) hb); (try clear hb); (try clear hb2); (try clear hk); (try clear hi)))
           go_meet
           case rel => exact ⟨_, (true), (by first | rfl | (simp; done) | (simp [wrap64]; done) | (simp [*]; done)), H', ⟨by have := HJ15.out; first | omega | exact Nat.le_refl _⟩, ⟨by (with_reducible repeat (first | apply Kd.R_alloc | apply Kd.R_drewN | apply Kd.R_drew)); exact Kd.R_mono HO_328000.out (fun _ hk => ⟨hk.1, ⟨hk.2.1, ⟨hk.2.2.1, ⟨hk.2.2.2.1, hk.2.2.2.2.1⟩⟩⟩⟩)⟩, ⟨by (with_reducible repeat (first | apply Kd.R_alloc | apply Kd.R_drewN | apply Kd.R_drew)); exact Kd.R_mono HO_328001.out (fun _ hk => ⟨hk.1, ⟨hk.2.1, ⟨hk.2.2.1, ⟨hk.2.2.2.1, hk.2.2.2.2.1⟩⟩⟩⟩)⟩, ⟨by (with_reducible repeat (first | apply Kd.R_alloc | apply Kd.R_drewN | apply Kd.R_drew)); exact Kd.R_mono HO_335000.out (fun _ hk => ⟨hk.1, ⟨hk.2.1, ⟨hk.2.2.1, ⟨hk.2.2.2.1, hk.2.2.2.2.1⟩⟩⟩⟩)⟩, ⟨by (with_reducible repeat (first | apply Kd.R_alloc | apply Kd.R_drewN | apply Kd.R_drew)); exact Kd.R_mono HO_335001.out (fun _ hk => ⟨hk.1, ⟨hk.2.1, ⟨hk.2.2.1, ⟨hk.2.2.2.1, hk.2.2.2.2.1⟩⟩⟩⟩)⟩, ⟨by (with_reducible repeat (first | apply Kd.R_alloc | apply Kd.R_drewN | apply Kd.R_drew)); exact Kd.R_mono HO_346000.out (fun _ hk => ⟨hk.1, ⟨hk.2.1, ⟨hk.2.2.1, ⟨hk.2.2.2.1, hk.2.2.2.2.1⟩⟩⟩⟩)⟩, ⟨by (with_reducible repeat (first | apply Kd.R_alloc | apply Kd.R_drewN | apply Kd.R_drew)); exact Kd.R_mono HO_346001.out (fun _ hk => ⟨hk.1, ⟨hk.2.1, ⟨hk.2.2.1, ⟨hk.2.2.2.1, hk.2.2.2.2.1⟩⟩⟩⟩)⟩, ⟨tK BK309.out⟩, ⟨tK BK327.out⟩, ⟨tK BK334.out⟩, ⟨tK BK345.out⟩, ⟨tB HB.out⟩⟩
        case rest =>
         clear HC78
         try clear c1
         try clear c2
         try clear p2
         try clear c3
         try clear c3b0
         try clear c3b1
         try clear c4
         try clear c5
         try clear c6
         try clear c6b0
         try clear p6
         try clear c7
         try clear c8
         try clear c9
         try clear c10
         try clear c12
         try clear c15
         try clear c17
         try clear c19
         try clear c24
         try clear c28
         try clear c29
         try clear c36
         try clear c37
         try clear c44
         try clear c45
         try clear c46
         try clear c47
         try clear c48
         try clear c52
         try clear c53
         try clear c54
         try clear c55
         try clear c57
         try clear c58
         try clear c61
         try clear c62
         try clear c63
         try clear p64
         try clear c65
         try clear c66
         try clear c69
         try clear c72
         try clear c75
         try clear c86
         try clear c87
         try clear c88
         try clear c92
         try clear c92b0
         try clear c94
         try clear c95
         try clear c96
         try clear c97
         try clear c99
         try clear c100
         try clear c103
         try clear c104
         try clear c105
         try clear c107
         try clear c108
         try clear hcz101_0
         try clear hcz101_1
         try clear hcz106_0
         try clear hcz106_1
         try clear hcz109_0
         try clear hcz109_1
         try clear hcz18_0
         try clear hcz18_1
         try clear hcz20_0
         try clear hcz20_1
         try clear hcz30_0
         try clear hcz30_1
         try clear hcz32_0
         try clear hcz32_1
         try clear hcz38_0
         try clear hcz38_1
         try clear hcz41_0
         try clear hcz41_1
         try clear hcz49_0
         try clear hcz49_1
         try clear hcz56_0
         try clear hcz56_1
         try clear hcz59_0
         try clear hcz59_1
         try clear hcz64_0
         try clear hcz64_1
         try clear hcz67_0
         try clear hcz67_1
         try clear hcz89_0
         try clear hcz89_1
         try clear hcz8_0
         try clear hcz8_1
         try clear hcz98_0
         try clear hcz98_1
         try clear hfz101_0
         try clear hfz101_1
         try clear hfz106_0
         try clear hfz106_1
         try clear hfz109_0
         try clear hfz109_1
         try clear hfz18_0
         try clear hfz18_1
         try clear hfz20_0
         try clear hfz20_1
         try clear hfz30_0
         try clear hfz30_1
         try clear hfz32_0
         try clear hfz32_1
         try clear hfz38_0
         try clear hfz38_1
         try clear hfz41_0
         try clear hfz41_1
         try clear hfz49_0
         try clear hfz49_1
         try clear hfz56_0
         try clear hfz56_1
         try clear hfz59_0
         try clear hfz59_1
         try clear hfz64_0
         try clear hfz64_1
         try clear hfz67_0
         try clear hfz67_1
         try clear hfz89_0
         try clear hfz89_1
         try clear hfz8_0
         try clear hfz8_1
         try clear hfz98_0
         try clear hfz98_1
         try clear p2
         try clear p6
         try clear p64
         obtain ⟨kq, x80_77, rfl, HA, HJ77, HO_328000, HO_328001, HO_335000, HO_335001, HO_346000, HO_346001, BK309, BK327, BK334, BK345, HB⟩ := hcut
         have hl335000_77 := (Kd.R_reads' HO_335000.out).1
         rw [hl335000_77] at HO_335000
         (try simp only [hl335000_77])
         (try simp only [hl335000_77] at BK309)
         (try simp only [hl335000_77] at BK327)
         (try simp only [hl335000_77] at BK334)
         (try simp only [hl335000_77] at BK345)
         (try simp only [hl335000_77] at HO_328000)
         (try simp only [hl335000_77] at HO_328001)
         (try simp only [hl335000_77] at HO_335001)
         (try simp only [hl335000_77] at HO_346000)
         (try simp only [hl335000_77] at HO_346001)
         have hl335001_77 := (Kd.R_reads' HO_335001.out).1
         rw [hl335001_77] at HO_335001
         (try simp only [hl335001_77])
         (try simp only [hl335001_77] at BK309)
         (try simp only [hl335001_77] at BK327)
         (try simp only [hl335001_77] at BK334)
         (try simp only [hl335001_77] at BK345)
         (try simp only [hl335001_77] at HO_328000)
         (try simp only [hl335001_77] at HO_328001)
         (try simp only [hl335001_77] at HO_335000)
         (try simp only [hl335001_77] at HO_346000)
         (try simp only [hl335001_77] at HO_346001)
         cases kq with
         | zero => exact absurd HA.out (by simp [laws_FnExactHangLeaves.j1])
         | succ kj77 =>
          have H := HA.out
          clear HA
          simp only [laws_FnExactHangLeaves.j1] at H
          by_cases c111 : x80_77 = true
          ·
           subst c111
           have H1 : (some false) = some r := by rw [if_pos rfl] at H; exact H
           clear H
           have H := H1
           clear H1
           obtain rfl := Option.some.inj H
           go_wp2
           go_ret
           exact ⟨by first | rfl | (simp [errW_none, errW_some] <;> rfl) | (simp [*, errW_none, errW_some] <;> rfl), tB HB.out⟩
          ·
           replace c111 := Bool.eq_false_iff.mpr c111
           subst c111
           have H1 : ((laws_markMobile.f kj77 t338 t341 1).bind fun bt364 => ((laws_heldMobile.f kj77 bt364.2.1 bt364.2.2 1).bind fun t367 => (if t367 < 0 then (some false) else (if t367 = bt364.1 then ((laws_toMobile.f kj77 l0_0 l0_1).bind fun bt368 => ((laws_toIntS.f kj77 l1).bind fun t374 => ((impl_HangLeaves.f kj77 bt368.1 bt368.2 t374).bind fun bt377 => ((laws_eqMobile.f kj77 bt377.1 bt377.2.1 t320 t323).bind fun t385 => (if t385 = true then (laws_FnExactHangLeaves.j2 kj77 bt364.1 (bt377.2.2 != t326) bt364.2.1 bt364.2.2) else (laws_FnExactHangLeaves.j2 kj77 bt364.1 true bt364.2.1 bt364.2.2)))))) else (some false))))) = some r := by rw [if_neg (show ¬ (false = true) by decide)] at H; exact H
           clear H
           have H := H1
           clear H1
           replace H := Option.bind_eq_some_iff.mp H
           obtain ⟨⟨t364, t365, t366⟩, A1120, H⟩ := H
           replace H : ((laws_heldMobile.f kj77 t365 t366 1).bind fun t367 => (if t367 < 0 then (some false) else (if t367 = t364 then ((laws_toMobile.f kj77 l0_0 l0_1).bind fun bt368 => ((laws_toIntS.f kj77 l1).bind fun t374 => ((impl_HangLeaves.f kj77 bt368.1 bt368.2 t374).bind fun bt377 => ((laws_eqMobile.f kj77 bt377.1 bt377.2.1 t320 t323).bind fun t385 => (if t385 = true then (laws_FnExactHangLeaves.j2 kj77 t364 (bt377.2.2 != t326) t365 t366) else (laws_FnExactHangLeaves.j2 kj77 t364 true t365 t366)))))) else (some false)))) = some r := H
           have A112 := Aside0.mk A1120
           clear A1120
           replace H := Option.bind_eq_some_iff.mp H
           obtain ⟨t367, A1130, H⟩ := H
           replace H : (if t367 < 0 then (some false) else (if t367 = t364 then ((laws_toMobile.f kj77 l0_0 l0_1).bind fun bt368 => ((laws_toIntS.f kj77 l1).bind fun t374 => ((impl_HangLeaves.f kj77 bt368.1 bt368.2 t374).bind fun bt377 => ((laws_eqMobile.f kj77 bt377.1 bt377.2.1 t320 t323).bind fun t385 => (if t385 = true then (laws_FnExactHangLeaves.j2 kj77 t364 (bt377.2.2 != t326) t365 t366) else (laws_FnExactHangLeaves.j2 kj77 t364 true t365 t366)))))) else (some false))) = some r := H
           have A113 := Aside0.mk A1130
           clear A1130
           by_cases c114 : t367 < 0
           ·
            rw [if_pos c114] at H
            have c114b0 : decide (t367 < 0) = true := decide_eq_true c114
            clear c114
            obtain rfl := Option.some.inj H
            have hnb115 := NB345_309.out
            have hnc115 := NB309_345.out
            have hnb116 := NB345_327.out
            have hnc116 := NB327_345.out
            have hnb117 := NB345_334.out
            have hnc117 := NB334_345.out
            obtain ⟨hcz118_0, hfz118_0, hcz118_1, hfz118_1⟩ := cz2 BK345
            go_wp2_with (first | ((with_reducible refine gate_callee (f := 24) rfl ?_); refine goesL_ (some 83) rfl rfl Try.func24 (by kernel_rfl) rfl #[.agg #[.slice Ao45 t338.length co45, .slice Ao50 t341.length co50], .int .i64 1] rfl tM ?_; (with_reducible refine (laws_markMobile.calls kj77 (fun k_ => some k_ = (.slice Ao45 t338.length co45 : Value).ownBlock) (.slice Ao45 t338.length co45) t338 (fun k_ => some k_ = (.slice Ao50 t341.length co50 : Value).ownBlock) (.slice Ao50 t341.length co50) t341 1 t364 t365 t366 w _ ?side1 ?side2 ?side3 ?side4 ?side5 A112.out).mono ?_); (case side1 => repeat (first | (with_reducible first | exact HB.out | apply below_alloc | apply pw_below_drewN | apply below_drew1 | refine below_set ?_ GE309.out | refine below_set ?_ GE327.out | refine below_set ?_ GE334.out | refine below_set ?_ GE345.out) | exact HB.out)); (case side2 => exact Kd.R_tight rfl HO_346000.out); (case side3 => exact fun k_ e_ => (HO_346000.out.1 k_ e_.symm).2.2.2.2); (case side4 => exact Kd.R_tight rfl HO_346001.out); (case side5 => exact fun k_ e_ => (HO_346001.out.1 k_ e_.symm).2.2.2.2); rintro e w119 ⟨rfl, hy0, hy1, hb, hkp⟩; refine ⟨_, rfl, ?_⟩; replace HO_328000 := Aside0.mk (Kd.R_mono (ok' := fun k_ => some k_ ≠ (.slice Ao31 t323.length co31 : Value).ownBlock ∧ some k_ ≠ (.slice Ao35 t359.length co35 : Value).ownBlock ∧ some k_ ≠ (.slice Ao39 t360.length co39 : Value).ownBlock ∧ some k_ ≠ (.slice Ao45 t338.length co45 : Value).ownBlock ∧ some k_ ≠ (.slice Ao50 t341.length co50 : Value).ownBlock) (Kd.R_keptB (HO_328000.out) hkp (fun k_ hk_ hs_ => Or.elim hs_ (fun e_ => (hk_.2.2.2.1) e_) (fun e_ => (hk_.2.2.2.2) e_))) (fun k_ hk_ => ⟨hk_.1.1, hk_.1.2.1, hk_.1.2.2.1, hk_.1.2.2.2.1, hk_.1.2.2.2.2⟩)); replace HO_328001 := Aside0.mk (Kd.R_mono (ok' := fun k_ => some k_ ≠ (.slice Ao28 t320.length co28 : Value).ownBlock ∧ some k_ ≠ (.slice Ao35 t359.length co35 : Value).ownBlock ∧ some k_ ≠ (.slice Ao39 t360.length co39 : Value).ownBlock ∧ some k_ ≠ (.slice Ao45 t338.length co45 : Value).ownBlock ∧ some k_ ≠ (.slice Ao50 t341.length co50 : Value).ownBlock) (Kd.R_keptB (HO_328001.out) hkp (fun k_ hk_ hs_ => Or.elim hs_ (fun e_ => (hk_.2.2.2.1) e_) (fun e_ => (hk_.2.2.2.2) e_))) (fun k_ hk_ => ⟨hk_.1.1, hk_.1.2.1, hk_.1.2.2.1, hk_.1.2.2.2.1, hk_.1.2.2.2.2⟩)); replace HO_335000 := Aside0.mk (Kd.R_mono (ok' := fun k_ => some k_ ≠ (.slice Ao28 t320.length co28 : Value).ownBlock ∧ some k_ ≠ (.slice Ao31 t323.length co31 : Value).ownBlock ∧ some k_ ≠ (.slice Ao39 t360.length co39 : Value).ownBlock ∧ some k_ ≠ (.slice Ao45 t338.length co45 : Value).ownBlock ∧ some k_ ≠ (.slice Ao50 t341.length co50 : Value).ownBlock) (Kd.R_keptB (HO_335000.out) hkp (fun k_ hk_ hs_ => Or.elim hs_ (fun e_ => (hk_.2.2.2.1) e_) (fun e_ => (hk_.2.2.2.2) e_))) (fun k_ hk_ => ⟨hk_.1.1, hk_.1.2.1, hk_.1.2.2.1, hk_.1.2.2.2.1, hk_.1.2.2.2.2⟩)); replace HO_335001 := Aside0.mk (Kd.R_mono (ok' := fun k_ => some k_ ≠ (.slice Ao28 t320.length co28 : Value).ownBlock ∧ some k_ ≠ (.slice Ao31 t323.length co31 : Value).ownBlock ∧ some k_ ≠ (.slice Ao35 t359.length co35 : Value).ownBlock ∧ some k_ ≠ (.slice Ao45 t338.length co45 : Value).ownBlock ∧ some k_ ≠ (.slice Ao50 t341.length co50 : Value).ownBlock) (Kd.R_keptB (HO_335001.out) hkp (fun k_ hk_ hs_ => Or.elim hs_ (fun e_ => (hk_.2.2.2.1) e_) (fun e_ => (hk_.2.2.2.2) e_))) (fun k_ hk_ => ⟨hk_.1.1, hk_.1.2.1, hk_.1.2.2.1, hk_.1.2.2.2.1, hk_.1.2.2.2.2⟩)); replace BK309 := Aside0.mk (blk_kept (tK BK309.out) hkp (fun hs_ => Or.elim hs_ (fun e_ => (fun e_ => (Kd.R_ne HO_346000.out BK309.out (by decide)) e_) e_) (fun e_ => (fun e_ => (Kd.R_ne HO_346001.out BK309.out (by decide)) e_) e_))); replace BK327 := Aside0.mk (blk_kept (tK BK327.out) hkp (fun hs_ => Or.elim hs_ (fun e_ => (fun e_ => (Kd.R_ne HO_346000.out BK327.out (by decide)) e_) e_) (fun e_ => (fun e_ => (Kd.R_ne HO_346001.out BK327.out (by decide)) e_) e_))); replace BK334 := Aside0.mk (blk_kept (tK BK334.out) hkp (fun hs_ => Or.elim hs_ (fun e_ => (fun e_ => (Kd.R_ne HO_346000.out BK334.out (by decide)) e_) e_) (fun e_ => (fun e_ => (Kd.R_ne HO_346001.out BK334.out (by decide)) e_) e_))); replace BK345 := Aside0.mk (blk_kept (tK BK345.out) hkp (fun hs_ => Or.elim hs_ (fun e_ => (fun e_ => (Kd.R_ne HO_346000.out BK345.out (by decide)) e_) e_) (fun e_ => (fun e_ => (Kd.R_ne HO_346001.out BK345.out (by decide)) e_) e_))); replace HO_346000 := Aside0.mk (Kd.R_reok rfl hy0 (fun k_ e_ => HO_346000.out.1 k_ e_)); replace HO_346001 := Aside0.mk (Kd.R_reok rfl hy1 (fun k_ e_ => HO_346001.out.1 k_ e_)); replace HB := Aside0.mk (hb); (try clear hb); (try clear hkp); (try clear hy0); (try clear hy1); obtain ⟨hcz120_0, hfz120_0, hcz120_1, hfz120_1⟩ := cz2 BK345) | ((with_reducible refine gate_callee (f := 25) rfl ?_); refine goesL_ (some 86) rfl rfl Try.func25 (by kernel_rfl) rfl #[.agg #[.slice Ao45 t365.length co45, .slice Ao50 t366.length co50], .int .i64 1] rfl (by (try simp only [List.map_toArray, List.map_cons, List.map_nil]); first | done | (rw [show t365.length = t338.length from (Kd.R_reads' HO_346000.out).1.symm, show t366.length = t341.length from (Kd.R_reads' HO_346001.out).1.symm] <;> rfl) | rfl | (simp only [List.length_drop, List.length_take]; rfl)) ?_; (with_reducible refine (laws_heldMobile.calls kj77 _ _ t365 _ _ t366 1 t367 _ ?side1 ?side2 ?side3 ?side4 A113.out).mono ?_); (case side1 => exact tC (Kd.R_reads' HO_346000.out).2.2); (case side2 => rw [show t365.length = t338.length from (Kd.R_reads' HO_346000.out).1.symm]; exact (Kd.R_reads' HO_346000.out).2.1); (case side3 => exact tC (Kd.R_reads' HO_346001.out).2.2); (case side4 => rw [show t366.length = t341.length from (Kd.R_reads' HO_346001.out).1.symm]; exact (Kd.R_reads' HO_346001.out).2.1); rintro e w121 ⟨rfl, hb⟩; refine ⟨_, rfl, ?_⟩; replace HO_328000 := Aside0.mk (Kd.R_below (tR HO_328000.out) hb); replace HO_328001 := Aside0.mk (Kd.R_below (tR HO_328001.out) hb); replace HO_335000 := Aside0.mk (Kd.R_below (tR HO_335000.out) hb); replace HO_335001 := Aside0.mk (Kd.R_below (tR HO_335001.out) hb); replace HO_346000 := Aside0.mk (Kd.R_below (tR HO_346000.out) hb); replace HO_346001 := Aside0.mk (Kd.R_below (tR HO_346001.out) hb); replace BK309 := bkB BK309 hb; replace BK327 := bkB BK327 hb; replace BK334 := bkB BK334 hb; replace BK345 := bkB BK345 hb; replace HB := Aside0.mk (below_step (tB HB.out) hb); (try clear hb); (try clear hb2); (try clear hk); (try clear hi)))
            go_ret
            exact ⟨by first | rfl | (simp [errW_none, errW_some] <;> rfl) | (simp [*, errW_none, errW_some] <;> rfl), tB HB.out⟩
           ·
            rw [if_neg c114] at H
            have c114b0 : decide (t367 < 0) = false := decide_eq_false c114
            clear c114
            by_cases c122 : t367 = t364
            ·
             rw [if_pos c122] at H
             have c122b0 : (t367 == t364) = true := beq_iff_eq.mpr c122
             have c122b1 : (t367 != t364) = false := bne_eq_false_iff_eq.mpr c122
             clear c122
             replace H := Option.bind_eq_some_iff.mp H
             obtain ⟨⟨t368, t371⟩, A1230, H⟩ := H
             replace H : ((laws_toIntS.f kj77 l1).bind fun t374 => ((impl_HangLeaves.f kj77 t368 t371 t374).bind fun bt377 => ((laws_eqMobile.f kj77 bt377.1 bt377.2.1 t320 t323).bind fun t385 => (if t385 = true then (laws_FnExactHangLeaves.j2 kj77 t364 (bt377.2.2 != t326) t365 t366) else (laws_FnExactHangLeaves.j2 kj77 t364 true t365 t366))))) = some r := H
             have A123 := Aside0.mk A1230
             clear A1230
             replace H := Option.bind_eq_some_iff.mp H
             obtain ⟨t374, A1240, H⟩ := H
             replace H : ((impl_HangLeaves.f kj77 t368 t371 t374).bind fun bt377 => ((laws_eqMobile.f kj77 bt377.1 bt377.2.1 t320 t323).bind fun t385 => (if t385 = true then (laws_FnExactHangLeaves.j2 kj77 t364 (bt377.2.2 != t326) t365 t366) else (laws_FnExactHangLeaves.j2 kj77 t364 true t365 t366)))) = some r := H
             have A124 := Aside0.mk A1240
             clear A1240
             replace H := Option.bind_eq_some_iff.mp H
             obtain ⟨⟨t377, t380, t383⟩, A1250, H⟩ := H
             replace H : ((laws_eqMobile.f kj77 t377 t380 t320 t323).bind fun t385 => (if t385 = true then (laws_FnExactHangLeaves.j2 kj77 t364 (t383 != t326) t365 t366) else (laws_FnExactHangLeaves.j2 kj77 t364 true t365 t366))) = some r := H
             have A125 := Aside0.mk A1250
             clear A1250
             have HC126 := Aside0.mk H
             clear H
             have hnb127 := NB345_309.out
             have hnc127 := NB309_345.out
             have hnb128 := NB345_327.out
             have hnc128 := NB327_345.out
             have hnb129 := NB345_334.out
             have hnc129 := NB334_345.out
             obtain ⟨hcz130_0, hfz130_0, hcz130_1, hfz130_1⟩ := cz2 BK345
             go_upto_region 31 with (first | ((with_reducible refine gate_callee (f := 24) rfl ?_); refine goesL_ (some 83) rfl rfl Try.func24 (by kernel_rfl) rfl #[.agg #[.slice Ao45 t338.length co45, .slice Ao50 t341.length co50], .int .i64 1] rfl tM ?_; (with_reducible refine (laws_markMobile.calls kj77 (fun k_ => some k_ = (.slice Ao45 t338.length co45 : Value).ownBlock) (.slice Ao45 t338.length co45) t338 (fun k_ => some k_ = (.slice Ao50 t341.length co50 : Value).ownBlock) (.slice Ao50 t341.length co50) t341 1 t364 t365 t366 w _ ?side1 ?side2 ?side3 ?side4 ?side5 A112.out).mono ?_); (case side1 => repeat (first | (with_reducible first | exact HB.out | apply below_alloc | apply pw_below_drewN | apply below_drew1 | refine below_set ?_ GE309.out | refine below_set ?_ GE327.out | refine below_set ?_ GE334.out | refine below_set ?_ GE345.out) | exact HB.out)); (case side2 => exact Kd.R_tight rfl HO_346000.out); (case side3 => exact fun k_ e_ => (HO_346000.out.1 k_ e_.symm).2.2.2.2); (case side4 => exact Kd.R_tight rfl HO_346001.out); (case side5 => exact fun k_ e_ => (HO_346001.out.1 k_ e_.symm).2.2.2.2); rintro e w131 ⟨rfl, hy0, hy1, hb, hkp⟩; refine ⟨_, rfl, ?_⟩; replace HO_328000 := Aside0.mk (Kd.R_mono (ok' := fun k_ => some k_ ≠ (.slice Ao31 t323.length co31 : Value).ownBlock ∧ some k_ ≠ (.slice Ao35 t359.length co35 : Value).ownBlock ∧ some k_ ≠ (.slice Ao39 t360.length co39 : Value).ownBlock ∧ some k_ ≠ (.slice Ao45 t338.length co45 : Value).ownBlock ∧ some k_ ≠ (.slice Ao50 t341.length co50 : Value).ownBlock) (Kd.R_keptB (HO_328000.out) hkp (fun k_ hk_ hs_ => Or.elim hs_ (fun e_ => (hk_.2.2.2.1) e_) (fun e_ => (hk_.2.2.2.2) e_))) (fun k_ hk_ => ⟨hk_.1.1, hk_.1.2.1, hk_.1.2.2.1, hk_.1.2.2.2.1, hk_.1.2.2.2.2⟩)); replace HO_328001 := Aside0.mk (Kd.R_mono (ok' := fun k_ => some k_ ≠ (.slice Ao28 t320.length co28 : Value).ownBlock ∧ some k_ ≠ (.slice Ao35 t359.length co35 : Value).ownBlock ∧ some k_ ≠ (.slice Ao39 t360.length co39 : Value).ownBlock ∧ some k_ ≠ (.slice Ao45 t338.length co45 : Value).ownBlock ∧ some k_ ≠ (.slice Ao50 t341.length co50 : Value).ownBlock) (Kd.R_keptB (HO_328001.out) hkp (fun k_ hk_ hs_ => Or.elim hs_ (fun e_ => (hk_.2.2.2.1) e_) (fun e_ => (hk_.2.2.2.2) e_))) (fun k_ hk_ => ⟨hk_.1.1, hk_.1.2.1, hk_.1.2.2.1, hk_.1.2.2.2.1, hk_.1.2.2.2.2⟩)); replace HO_335000 := Aside0.mk (Kd.R_mono (ok' := fun k_ => some k_ ≠ (.slice Ao28 t320.length co28 : Value).ownBlock ∧ some k_ ≠ (.slice Ao31 t323.length co31 : Value).ownBlock ∧ some k_ ≠ (.slice Ao39 t360.length co39 : Value).ownBlock ∧ some k_ ≠ (.slice Ao45 t338.length co45 : Value).ownBlock ∧ some k_ ≠ (.slice Ao50 t341.length co50 : Value).ownBlock) (Kd.R_keptB (HO_335000.out) hkp (fun k_ hk_ hs_ => Or.elim hs_ (fun e_ => (hk_.2.2.2.1) e_) (fun e_ => (hk_.2.2.2.2) e_))) (fun k_ hk_ => ⟨hk_.1.1, hk_.1.2.1, hk_.1.2.2.1, hk_.1.2.2.2.1, hk_.1.2.2.2.2⟩)); replace HO_335001 := Aside0.mk (Kd.R_mono (ok' := fun k_ => some k_ ≠ (.slice Ao28 t320.length co28 : Value).ownBlock ∧ some k_ ≠ (.slice Ao31 t323.length co31 : Value).ownBlock ∧ some k_ ≠ (.slice Ao35 t359.length co35 : Value).ownBlock ∧ some k_ ≠ (.slice Ao45 t338.length co45 : Value).ownBlock ∧ some k_ ≠ (.slice Ao50 t341.length co50 : Value).ownBlock) (Kd.R_keptB (HO_335001.out) hkp (fun k_ hk_ hs_ => Or.elim hs_ (fun e_ => (hk_.2.2.2.1) e_) (fun e_ => (hk_.2.2.2.2) e_))) (fun k_ hk_ => ⟨hk_.1.1, hk_.1.2.1, hk_.1.2.2.1, hk_.1.2.2.2.1, hk_.1.2.2.2.2⟩)); replace BK309 := Aside0.mk (blk_kept (tK BK309.out) hkp (fun hs_ => Or.elim hs_ (fun e_ => (fun e_ => (Kd.R_ne HO_346000.out BK309.out (by decide)) e_) e_) (fun e_ => (fun e_ => (Kd.R_ne HO_346001.out BK309.out (by decide)) e_) e_))); replace BK327 := Aside0.mk (blk_kept (tK BK327.out) hkp (fun hs_ => Or.elim hs_ (fun e_ => (fun e_ => (Kd.R_ne HO_346000.out BK327.out (by decide)) e_) e_) (fun e_ => (fun e_ => (Kd.R_ne HO_346001.out BK327.out (by decide)) e_) e_))); replace BK334 := Aside0.mk (blk_kept (tK BK334.out) hkp (fun hs_ => Or.elim hs_ (fun e_ => (fun e_ => (Kd.R_ne HO_346000.out BK334.out (by decide)) e_) e_) (fun e_ => (fun e_ => (Kd.R_ne HO_346001.out BK334.out (by decide)) e_) e_))); replace BK345 := Aside0.mk (blk_kept (tK BK345.out) hkp (fun hs_ => Or.elim hs_ (fun e_ => (fun e_ => (Kd.R_ne HO_346000.out BK345.out (by decide)) e_) e_) (fun e_ => (fun e_ => (Kd.R_ne HO_346001.out BK345.out (by decide)) e_) e_))); replace HO_346000 := Aside0.mk (Kd.R_reok rfl hy0 (fun k_ e_ => HO_346000.out.1 k_ e_)); replace HO_346001 := Aside0.mk (Kd.R_reok rfl hy1 (fun k_ e_ => HO_346001.out.1 k_ e_)); replace HB := Aside0.mk (hb); (try clear hb); (try clear hkp); (try clear hy0); (try clear hy1); obtain ⟨hcz132_0, hfz132_0, hcz132_1, hfz132_1⟩ := cz2 BK345) | ((with_reducible refine gate_callee (f := 25) rfl ?_); refine goesL_ (some 86) rfl rfl Try.func25 (by kernel_rfl) rfl #[.agg #[.slice Ao45 t365.length co45, .slice Ao50 t366.length co50], .int .i64 1] rfl (by (try simp only [List.map_toArray, List.map_cons, List.map_nil]); first | done | (rw [show t365.length = t338.length from (Kd.R_reads' HO_346000.out).1.symm, show t366.length = t341.length from (Kd.R_reads' HO_346001.out).1.symm] <;> rfl) | rfl | (simp only [List.length_drop, List.length_take]; rfl)) ?_; (with_reducible refine (laws_heldMobile.calls kj77 _ _ t365 _ _ t366 1 t367 _ ?side1 ?side2 ?side3 ?side4 A113.out).mono ?_); (case side1 => exact tC (Kd.R_reads' HO_346000.out).2.2); (case side2 => rw [show t365.length = t338.length from (Kd.R_reads' HO_346000.out).1.symm]; exact (Kd.R_reads' HO_346000.out).2.1); (case side3 => exact tC (Kd.R_reads' HO_346001.out).2.2); (case side4 => rw [show t366.length = t341.length from (Kd.R_reads' HO_346001.out).1.symm]; exact (Kd.R_reads' HO_346001.out).2.1); rintro e w133 ⟨rfl, hb⟩; refine ⟨_, rfl, ?_⟩; replace HO_328000 := Aside0.mk (Kd.R_below (tR HO_328000.out) hb); replace HO_328001 := Aside0.mk (Kd.R_below (tR HO_328001.out) hb); replace HO_335000 := Aside0.mk (Kd.R_below (tR HO_335000.out) hb); replace HO_335001 := Aside0.mk (Kd.R_below (tR HO_335001.out) hb); replace HO_346000 := Aside0.mk (Kd.R_below (tR HO_346000.out) hb); replace HO_346001 := Aside0.mk (Kd.R_below (tR HO_346001.out) hb); replace BK309 := bkB BK309 hb; replace BK327 := bkB BK327 hb; replace BK334 := bkB BK334 hb; replace BK345 := bkB BK345 hb; replace HB := Aside0.mk (below_step (tB HB.out) hb); (try clear hb); (try clear hb2); (try clear hk); (try clear hi); have hnb134 := NB309_327.out; have hnc134 := NB327_309.out; have hnb135 := NB309_334.out; have hnc135 := NB334_309.out; obtain ⟨hcz136_0, hfz136_0, hcz136_1, hfz136_1⟩ := cz2 BK309) | ((with_reducible refine gate_callee (f := 17) rfl ?_); refine goesL_ (some 94) rfl rfl Try.func17 (by kernel_rfl) rfl #[.agg #[.slice A0_0 l0_0.length c0_0, .slice A0_1 l0_1.length c0_1]] rfl tM ?_; (with_reducible refine (laws_toMobile.calls kj77 _ _ l0_0 _ _ l0_1 t368 t371 _ ?side1 ?side2 ?side3 ?side4 A123.out).mono ?_); (case side1 => exact tC (Kd.C_below HR0_0.out HB.out)); (case side2 => exact HC0_0.out); (case side3 => exact tC (Kd.C_below HR0_1.out HB.out)); (case side4 => exact HC0_1.out); rintro e w137 ⟨v369, v372, rfl, ho0, ho1, hb⟩; refine ⟨_, rfl, ?_⟩; have HO370 := Aside0.mk (Kd.R_lower (Kd.R_new' (Kd.R_new' (Kd.R_new' (Kd.R_new' (Kd.R_new' (Kd.R_new' ho0 (Kd.R_lt (tR HO_328000.out))) (Kd.R_lt (tR HO_328001.out))) (Kd.R_lt (tR HO_335000.out))) (Kd.R_lt (tR HO_335001.out))) (Kd.R_lt (tR HO_346000.out))) (Kd.R_lt (tR HO_346001.out))) (below_size (tB HB.out))); have HO373 := Aside0.mk (Kd.R_lower (Kd.R_new' (Kd.R_new' (Kd.R_new' (Kd.R_new' (Kd.R_new' (Kd.R_new' ho1 (Kd.R_lt (tR HO_328000.out))) (Kd.R_lt (tR HO_328001.out))) (Kd.R_lt (tR HO_335000.out))) (Kd.R_lt (tR HO_335001.out))) (Kd.R_lt (tR HO_346000.out))) (Kd.R_lt (tR HO_346001.out))) (below_size (tB HB.out))); replace HO_328000 := Aside0.mk (Kd.R_mono (Kd.R_told (Kd.R_told (Kd.R_old (tR HO_328000.out) hb) (Kd.R_base ho0)) (Kd.R_base ho1)) (fun _ h_ => h_.1)); replace HO_328001 := Aside0.mk (Kd.R_mono (Kd.R_told (Kd.R_told (Kd.R_old (tR HO_328001.out) hb) (Kd.R_base ho0)) (Kd.R_base ho1)) (fun _ h_ => h_.1)); replace HO_335000 := Aside0.mk (Kd.R_mono (Kd.R_told (Kd.R_told (Kd.R_old (tR HO_335000.out) hb) (Kd.R_base ho0)) (Kd.R_base ho1)) (fun _ h_ => h_.1)); replace HO_335001 := Aside0.mk (Kd.R_mono (Kd.R_told (Kd.R_told (Kd.R_old (tR HO_335001.out) hb) (Kd.R_base ho0)) (Kd.R_base ho1)) (fun _ h_ => h_.1)); replace HO_346000 := Aside0.mk (Kd.R_mono (Kd.R_told (Kd.R_told (Kd.R_old (tR HO_346000.out) hb) (Kd.R_base ho0)) (Kd.R_base ho1)) (fun _ h_ => h_.1)); replace HO_346001 := Aside0.mk (Kd.R_mono (Kd.R_told (Kd.R_told (Kd.R_old (tR HO_346001.out) hb) (Kd.R_base ho0)) (Kd.R_base ho1)) (fun _ h_ => h_.1)); replace BK309 := bkB BK309 hb; replace BK327 := bkB BK327 hb; replace BK334 := bkB BK334 hb; replace BK345 := bkB BK345 hb; replace HB := Aside0.mk (below_step (tB HB.out) hb); (try clear hb); (try clear hb2); (try clear hk); (try clear hi); (try clear ho0); (try clear ho1)) | ((with_reducible refine gate_callee (f := 45) rfl ?_); refine goesL_ (some 96) rfl rfl Try.func45 (by kernel_rfl) rfl #[.slice A1 l1.length c1] rfl tM ?_; (with_reducible refine (laws_toIntS.calls kj77 _ _ l1 t374 _ ?side1 ?side2 A124.out).mono ?_); (case side1 => exact tC (Kd.C_below HR1.out HB.out)); (case side2 => exact HC1.out); rintro e w138 ⟨v375, rfl, ho0, hb⟩; refine ⟨_, rfl, ?_⟩; replace HO_328000 := Aside0.mk (Kd.R_below (tR HO_328000.out) hb); replace HO_328001 := Aside0.mk (Kd.R_below (tR HO_328001.out) hb); replace HO_335000 := Aside0.mk (Kd.R_below (tR HO_335000.out) hb); replace HO_335001 := Aside0.mk (Kd.R_below (tR HO_335001.out) hb); replace HO_346000 := Aside0.mk (Kd.R_below (tR HO_346000.out) hb); replace HO_346001 := Aside0.mk (Kd.R_below (tR HO_346001.out) hb); replace HO370 := Aside0.mk (Kd.R_below (tR HO370.out) hb); replace HO373 := Aside0.mk (Kd.R_below (tR HO373.out) hb); have HO376 := Aside0.mk (Kd.R_lower ho0 (below_size (tB HB.out))); replace BK309 := bkB BK309 hb; replace BK327 := bkB BK327 hb; replace BK334 := bkB BK334 hb; replace BK345 := bkB BK345 hb; replace HB := Aside0.mk (below_step (tB HB.out) hb); (try clear hb); (try clear hb2); (try clear hk); (try clear hi); (try clear ho0); obtain ⟨Ao139, co139, eo139⟩ := Kd.R_slice HO370.out; subst eo139; obtain ⟨Ao140, co140, eo140⟩ := Kd.R_slice HO373.out; subst eo140; obtain ⟨Ao141, co141, eo141⟩ := Kd.R_slice HO376.out; subst eo141) | ((with_reducible refine gate_callee (f := 46) rfl ?_); refine goesL_ (some 97) rfl rfl Try.func46 (by kernel_rfl) rfl #[.agg #[.slice Ao139 t368.length co139, .slice Ao140 t371.length co140], .slice Ao141 t374.length co141] rfl tM ?_; (with_reducible refine (impl_HangLeaves.calls kj77 _ _ t368 _ _ t371 _ _ t374 t377 t380 t383 _ ?side1 ?side2 ?side3 ?side4 ?side5 ?side6 A125.out).mono ?_); (case side1 => exact tC (Kd.R_reads' HO370.out).2.2); (case side2 => exact (Kd.R_reads' HO370.out).2.1); (case side3 => exact tC (Kd.R_reads' HO373.out).2.2); (case side4 => exact (Kd.R_reads' HO373.out).2.1); (case side5 => exact tC (Kd.R_reads' HO376.out).2.2); (case side6 => exact (Kd.R_reads' HO376.out).2.1); rintro e w142 ⟨v378, v381, rfl, ho0, ho1, hb⟩; refine ⟨_, rfl, ?_⟩; replace HO376 := Aside0.mk (Kd.R_below (tR HO376.out) hb); have HO379 := Aside0.mk (Kd.R_lower (Kd.R_new' (Kd.R_new' (Kd.R_new' (Kd.R_new' (Kd.R_new' (Kd.R_new' (Kd.R_new' (Kd.R_new' ho0 (Kd.R_lt (tR HO_328000.out))) (Kd.R_lt (tR HO_328001.out))) (Kd.R_lt (tR HO_335000.out))) (Kd.R_lt (tR HO_335001.out))) (Kd.R_lt (tR HO_346000.out))) (Kd.R_lt (tR HO_346001.out))) (Kd.R_lt (tR HO370.out))) (Kd.R_lt (tR HO373.out))) (below_size (tB HB.out))); have HO382 := Aside0.mk (Kd.R_lower (Kd.R_new' (Kd.R_new' (Kd.R_new' (Kd.R_new' (Kd.R_new' (Kd.R_new' (Kd.R_new' (Kd.R_new' ho1 (Kd.R_lt (tR HO_328000.out))) (Kd.R_lt (tR HO_328001.out))) (Kd.R_lt (tR HO_335000.out))) (Kd.R_lt (tR HO_335001.out))) (Kd.R_lt (tR HO_346000.out))) (Kd.R_lt (tR HO_346001.out))) (Kd.R_lt (tR HO370.out))) (Kd.R_lt (tR HO373.out))) (below_size (tB HB.out))); replace HO_328000 := Aside0.mk (Kd.R_mono (Kd.R_told (Kd.R_told (Kd.R_old (tR HO_328000.out) hb) (Kd.R_base ho0)) (Kd.R_base ho1)) (fun _ h_ => h_.1)); replace HO_328001 := Aside0.mk (Kd.R_mono (Kd.R_told (Kd.R_told (Kd.R_old (tR HO_328001.out) hb) (Kd.R_base ho0)) (Kd.R_base ho1)) (fun _ h_ => h_.1)); replace HO_335000 := Aside0.mk (Kd.R_mono (Kd.R_told (Kd.R_told (Kd.R_old (tR HO_335000.out) hb) (Kd.R_base ho0)) (Kd.R_base ho1)) (fun _ h_ => h_.1)); replace HO_335001 := Aside0.mk (Kd.R_mono (Kd.R_told (Kd.R_told (Kd.R_old (tR HO_335001.out) hb) (Kd.R_base ho0)) (Kd.R_base ho1)) (fun _ h_ => h_.1)); replace HO_346000 := Aside0.mk (Kd.R_mono (Kd.R_told (Kd.R_told (Kd.R_old (tR HO_346000.out) hb) (Kd.R_base ho0)) (Kd.R_base ho1)) (fun _ h_ => h_.1)); replace HO_346001 := Aside0.mk (Kd.R_mono (Kd.R_told (Kd.R_told (Kd.R_old (tR HO_346001.out) hb) (Kd.R_base ho0)) (Kd.R_base ho1)) (fun _ h_ => h_.1)); replace HO370 := Aside0.mk (Kd.R_mono (Kd.R_told (Kd.R_told (Kd.R_old (tR HO370.out) hb) (Kd.R_base ho0)) (Kd.R_base ho1)) (fun _ h_ => h_.1)); replace HO373 := Aside0.mk (Kd.R_mono (Kd.R_told (Kd.R_told (Kd.R_old (tR HO373.out) hb) (Kd.R_base ho0)) (Kd.R_base ho1)) (fun _ h_ => h_.1)); replace BK309 := bkB BK309 hb; replace BK327 := bkB BK327 hb; replace BK334 := bkB BK334 hb; replace BK345 := bkB BK345 hb; replace HB := Aside0.mk (below_step (tB HB.out) hb); (try clear hb); (try clear hb2); (try clear hk); (try clear hi); (try clear ho0); (try clear ho1)) | ((with_reducible refine gate_dst (N := 15) rfl ?_); refine box_event ?hg (N := 15) ?hd (cs := #[.slice none 0 0, .slice none 0 0]) (t := 27) ?hr ?_; (case hd => rfl); (case hg => rfl); (case hr => first | (go_simp; done) | (go_simp; rfl)); intro gb384 hg w143 hbox hb; replace HO_328000 := Aside0.mk (Kd.R_below (tR HO_328000.out) hb); replace HO_328001 := Aside0.mk (Kd.R_below (tR HO_328001.out) hb); replace HO_335000 := Aside0.mk (Kd.R_below (tR HO_335000.out) hb); replace HO_335001 := Aside0.mk (Kd.R_below (tR HO_335001.out) hb); replace HO_346000 := Aside0.mk (Kd.R_below (tR HO_346000.out) hb); replace HO_346001 := Aside0.mk (Kd.R_below (tR HO_346001.out) hb); replace HO370 := Aside0.mk (Kd.R_below (tR HO370.out) hb); replace HO373 := Aside0.mk (Kd.R_below (tR HO373.out) hb); replace HO376 := Aside0.mk (Kd.R_below (tR HO376.out) hb); replace HO379 := Aside0.mk (Kd.R_below (tR HO379.out) hb); replace HO382 := Aside0.mk (Kd.R_below (tR HO382.out) hb); have BK384 := Aside0.mk (hbox); have GW384 := Aside0.mk (bS HB.out hg); have GE384 := Aside0.mk (bS HB.out hg); replace HB := Aside0.mk (below_step (tB HB.out) hb); have NB309_384 := Aside0.mk (nL BK309.out hg); have NB384_309 := Aside0.mk (nG BK309.out hg); replace BK309 := bkB BK309 hb; have NB327_384 := Aside0.mk (nL BK327.out hg); have NB384_327 := Aside0.mk (nG BK327.out hg); replace BK327 := bkB BK327 hb; have NB334_384 := Aside0.mk (nL BK334.out hg); have NB384_334 := Aside0.mk (nG BK334.out hg); replace BK334 := bkB BK334 hb; have NB345_384 := Aside0.mk (nL BK345.out hg); have NB384_345 := Aside0.mk (nG BK345.out hg); replace BK345 := bkB BK345 hb; clear hb hbox hg; obtain ⟨Ao144, co144, eo144⟩ := Kd.R_slice HO379.out; subst eo144; have hnb145 := NB384_309.out; have hnc145 := NB309_384.out; have hnb146 := NB384_327.out; have hnc146 := NB327_384.out; have hnb147 := NB384_334.out; have hnc147 := NB334_384.out; have hnb148 := NB384_345.out; have hnc148 := NB345_384.out; obtain ⟨hcz149_0, hfz149_0, hcz149_1, hfz149_1⟩ := cz2 BK384; obtain ⟨Ao150, co150, eo150⟩ := Kd.R_slice HO382.out; subst eo150))
             (try simp only [Act.put, List.setIfInBounds_toArray, List.set_cons_zero, List.set_cons_succ])
             go_cut [108] (fun v108 wc => ∃ (kq : Nat) (x108_125 : Bool), v108 = .bool x108_125 ∧ Aside0 (laws_FnExactHangLeaves.j2 kq t364 x108_125 t365 t366 = some r) ∧ Aside0 (kq ≤ kj77) ∧ Aside0 (Kd.R k58 58 wc w.heap.size (fun k_ => some k_ ≠ ((.slice Ao31 t323.length co31) : Value).ownBlock ∧ some k_ ≠ ((.slice Ao35 t359.length co35) : Value).ownBlock ∧ some k_ ≠ ((.slice Ao39 t360.length co39) : Value).ownBlock ∧ some k_ ≠ ((.slice Ao45 t338.length co45) : Value).ownBlock ∧ some k_ ≠ ((.slice Ao50 t341.length co50) : Value).ownBlock ∧ some k_ ≠ ((.slice Ao144 t377.length co144) : Value).ownBlock ∧ some k_ ≠ ((.slice Ao150 t380.length co150) : Value).ownBlock) (.slice Ao28 t320.length co28) t320) ∧ Aside0 (Kd.R k58 58 wc w.heap.size (fun k_ => some k_ ≠ ((.slice Ao28 t320.length co28) : Value).ownBlock ∧ some k_ ≠ ((.slice Ao35 t359.length co35) : Value).ownBlock ∧ some k_ ≠ ((.slice Ao39 t360.length co39) : Value).ownBlock ∧ some k_ ≠ ((.slice Ao45 t338.length co45) : Value).ownBlock ∧ some k_ ≠ ((.slice Ao50 t341.length co50) : Value).ownBlock ∧ some k_ ≠ ((.slice Ao144 t377.length co144) : Value).ownBlock ∧ some k_ ≠ ((.slice Ao150 t380.length co150) : Value).ownBlock) (.slice Ao31 t323.length co31) t323) ∧ Aside0 (Kd.R k58 58 wc w.heap.size (fun k_ => some k_ ≠ ((.slice Ao28 t320.length co28) : Value).ownBlock ∧ some k_ ≠ ((.slice Ao31 t323.length co31) : Value).ownBlock ∧ some k_ ≠ ((.slice Ao39 t360.length co39) : Value).ownBlock ∧ some k_ ≠ ((.slice Ao45 t338.length co45) : Value).ownBlock ∧ some k_ ≠ ((.slice Ao50 t341.length co50) : Value).ownBlock ∧ some k_ ≠ ((.slice Ao144 t377.length co144) : Value).ownBlock ∧ some k_ ≠ ((.slice Ao150 t380.length co150) : Value).ownBlock) (.slice Ao35 t359.length co35) t359) ∧ Aside0 (Kd.R k58 58 wc w.heap.size (fun k_ => some k_ ≠ ((.slice Ao28 t320.length co28) : Value).ownBlock ∧ some k_ ≠ ((.slice Ao31 t323.length co31) : Value).ownBlock ∧ some k_ ≠ ((.slice Ao35 t359.length co35) : Value).ownBlock ∧ some k_ ≠ ((.slice Ao45 t338.length co45) : Value).ownBlock ∧ some k_ ≠ ((.slice Ao50 t341.length co50) : Value).ownBlock ∧ some k_ ≠ ((.slice Ao144 t377.length co144) : Value).ownBlock ∧ some k_ ≠ ((.slice Ao150 t380.length co150) : Value).ownBlock) (.slice Ao39 t360.length co39) t360) ∧ Aside0 (Kd.R k58 58 wc w.heap.size (fun k_ => some k_ ≠ ((.slice Ao28 t320.length co28) : Value).ownBlock ∧ some k_ ≠ ((.slice Ao31 t323.length co31) : Value).ownBlock ∧ some k_ ≠ ((.slice Ao35 t359.length co35) : Value).ownBlock ∧ some k_ ≠ ((.slice Ao39 t360.length co39) : Value).ownBlock ∧ some k_ ≠ ((.slice Ao50 t341.length co50) : Value).ownBlock ∧ some k_ ≠ ((.slice Ao144 t377.length co144) : Value).ownBlock ∧ some k_ ≠ ((.slice Ao150 t380.length co150) : Value).ownBlock) (.slice Ao45 t338.length co45) t365) ∧ Aside0 (Kd.R k58 58 wc w.heap.size (fun k_ => some k_ ≠ ((.slice Ao28 t320.length co28) : Value).ownBlock ∧ some k_ ≠ ((.slice Ao31 t323.length co31) : Value).ownBlock ∧ some k_ ≠ ((.slice Ao35 t359.length co35) : Value).ownBlock ∧ some k_ ≠ ((.slice Ao39 t360.length co39) : Value).ownBlock ∧ some k_ ≠ ((.slice Ao45 t338.length co45) : Value).ownBlock ∧ some k_ ≠ ((.slice Ao144 t377.length co144) : Value).ownBlock ∧ some k_ ≠ ((.slice Ao150 t380.length co150) : Value).ownBlock) (.slice Ao50 t341.length co50) t366) ∧ Aside0 (Kd.R k58 58 wc w.heap.size (fun k_ => some k_ ≠ ((.slice Ao28 t320.length co28) : Value).ownBlock ∧ some k_ ≠ ((.slice Ao31 t323.length co31) : Value).ownBlock ∧ some k_ ≠ ((.slice Ao35 t359.length co35) : Value).ownBlock ∧ some k_ ≠ ((.slice Ao39 t360.length co39) : Value).ownBlock ∧ some k_ ≠ ((.slice Ao45 t338.length co45) : Value).ownBlock ∧ some k_ ≠ ((.slice Ao50 t341.length co50) : Value).ownBlock ∧ some k_ ≠ ((.slice Ao150 t380.length co150) : Value).ownBlock) (.slice Ao144 t377.length co144) t377) ∧ Aside0 (Kd.R k58 58 wc w.heap.size (fun k_ => some k_ ≠ ((.slice Ao28 t320.length co28) : Value).ownBlock ∧ some k_ ≠ ((.slice Ao31 t323.length co31) : Value).ownBlock ∧ some k_ ≠ ((.slice Ao35 t359.length co35) : Value).ownBlock ∧ some k_ ≠ ((.slice Ao39 t360.length co39) : Value).ownBlock ∧ some k_ ≠ ((.slice Ao45 t338.length co45) : Value).ownBlock ∧ some k_ ≠ ((.slice Ao50 t341.length co50) : Value).ownBlock ∧ some k_ ≠ ((.slice Ao144 t377.length co144) : Value).ownBlock) (.slice Ao150 t380.length co150) t380) ∧ Aside0 (wc.heap[gb309]? = some (.cells #[(.slice A0_0 l0_0.length c0_0), (.slice A0_1 l0_1.length c0_1)] 24 (0, 0))) ∧ Aside0 (wc.heap[gb327]? = some (.cells #[(.slice Ao28 t320.length co28), (.slice Ao31 t323.length co31)] 27 (0, 0))) ∧ Aside0 (wc.heap[gb334]? = some (.cells #[(.slice Ao35 t359.length co35), (.slice Ao39 t360.length co39)] 27 (0, 0))) ∧ Aside0 (wc.heap[gb345]? = some (.cells #[(.slice Ao45 t338.length co45), (.slice Ao50 t341.length co50)] 27 (0, 0))) ∧ Aside0 (wc.heap[gb384]? = some (.cells #[(.slice Ao144 t377.length co144), (.slice Ao150 t380.length co150)] 27 (0, 0))) ∧ Aside0 (Below w.heap.size w wc))
             case first =>
              have H := HC126.out
              clear HC126
              replace H := Option.bind_eq_some_iff.mp H
              obtain ⟨t385, A1510, H⟩ := H
              replace H : (if t385 = true then (laws_FnExactHangLeaves.j2 kj77 t364 (t383 != t326) t365 t366) else (laws_FnExactHangLeaves.j2 kj77 t364 true t365 t366)) = some r := H
              have A151 := Aside0.mk A1510
              clear A1510
              by_cases c152 : t385 = true
              ·
               subst c152
               have H1 : (laws_FnExactHangLeaves.j2 kj77 t364 (t383 != t326) t365 t366) = some r := by rw [if_pos rfl] at H; exact H
               clear H
               have H := H1
               clear H1
               have H' := Aside0.mk H
               clear H
               have hnb153 := NB384_309.out
               have hnc153 := NB309_384.out
               have hnb154 := NB384_327.out
               have hnc154 := NB327_384.out
               have hnb155 := NB384_334.out
               have hnc155 := NB334_384.out
               have hnb156 := NB384_345.out
               have hnc156 := NB345_384.out
               obtain ⟨hcz157_0, hfz157_0, hcz157_1, hfz157_1⟩ := cz2 BK384
               have hnb158 := NB327_309.out
               have hnc158 := NB309_327.out
               have hnb159 := NB327_334.out
               have hnc159 := NB334_327.out
               have hnb160 := NB327_345.out
               have hnc160 := NB345_327.out
               obtain ⟨hcz161_0, hfz161_0, hcz161_1, hfz161_1⟩ := cz2 BK327
               go_wp2_with (first | ((with_reducible refine gate_callee (f := 19) rfl ?_); refine goesL_ (some 102) rfl rfl Try.func19 (by kernel_rfl) rfl #[.agg #[.slice Ao144 t377.length co144, .slice Ao150 t380.length co150], .agg #[.slice Ao28 t320.length co28, .slice Ao31 t323.length co31]] rfl tM ?_; (with_reducible refine (laws_eqMobile.calls kj77 _ _ t377 _ _ t380 _ _ t320 _ _ t323 true _ ?side1 ?side2 ?side3 ?side4 ?side5 ?side6 ?side7 ?side8 A151.out).mono ?_); (case side1 => refine (Kd.R_reads' (e := 58) (base := w.heap.size) (ok := fun k_ => ((((((((some k_ ≠ (.slice Ao150 t380.length co150 : Value).ownBlock ∧ some k_ ≠ (.slice Ao28 t320.length co28 : Value).ownBlock) ∧ some k_ ≠ (.slice Ao31 t323.length co31 : Value).ownBlock) ∧ some k_ ≠ (.slice Ao35 t359.length co35 : Value).ownBlock) ∧ some k_ ≠ (.slice Ao39 t360.length co39 : Value).ownBlock) ∧ some k_ ≠ (.slice Ao45 t338.length co45 : Value).ownBlock) ∧ some k_ ≠ (.slice Ao50 t341.length co50 : Value).ownBlock) ∧ some k_ ≠ (.slice Ao139 t368.length co139 : Value).ownBlock) ∧ some k_ ≠ (.slice Ao140 t371.length co140 : Value).ownBlock)) (n := t377.length) (c := co144) ?_).2.2; exact (by (with_reducible repeat (first | apply Kd.R_alloc | apply Kd.R_drewN | apply Kd.R_drew)); exact (Kd.R_mono (Kd.R_far (p := ⟨gb384, 1, none⟩) (Kd.R_far (p := ⟨gb384, 0, none⟩) (Kd.R_types HO379.out BK384.out (by decide)) (fun _ hk => hk.2) (.slice Ao144 t377.length co144)) (fun _ hk => hk.2) (.slice Ao150 t380.length co150)) (fun _ h_ => h_.1)))); (case side2 => exact (Kd.R_reads' HO379.out).2.1); (case side3 => refine (Kd.R_reads' (e := 58) (base := w.heap.size) (ok := fun k_ => ((((((((some k_ ≠ (.slice Ao144 t377.length co144 : Value).ownBlock ∧ some k_ ≠ (.slice Ao28 t320.length co28 : Value).ownBlock) ∧ some k_ ≠ (.slice Ao31 t323.length co31 : Value).ownBlock) ∧ some k_ ≠ (.slice Ao35 t359.length co35 : Value).ownBlock) ∧ some k_ ≠ (.slice Ao39 t360.length co39 : Value).ownBlock) ∧ some k_ ≠ (.slice Ao45 t338.length co45 : Value).ownBlock) ∧ some k_ ≠ (.slice Ao50 t341.length co50 : Value).ownBlock) ∧ some k_ ≠ (.slice Ao139 t368.length co139 : Value).ownBlock) ∧ some k_ ≠ (.slice Ao140 t371.length co140 : Value).ownBlock)) (n := t380.length) (c := co150) ?_).2.2; exact (by (with_reducible repeat (first | apply Kd.R_alloc | apply Kd.R_drewN | apply Kd.R_drew)); exact (Kd.R_mono (Kd.R_far (p := ⟨gb384, 1, none⟩) (Kd.R_far (p := ⟨gb384, 0, none⟩) (Kd.R_types HO382.out BK384.out (by decide)) (fun _ hk => hk.2) (.slice Ao144 t377.length co144)) (fun _ hk => hk.2) (.slice Ao150 t380.length co150)) (fun _ h_ => h_.1)))); (case side4 => exact (Kd.R_reads' HO382.out).2.1); (case side5 => refine (Kd.R_reads' (e := 58) (base := w.heap.size) (ok := fun k_ => (((((some k_ ≠ (.slice Ao31 t323.length co31 : Value).ownBlock ∧ (some k_ ≠ (.slice Ao35 t359.length co35 : Value).ownBlock ∧ (some k_ ≠ (.slice Ao39 t360.length co39 : Value).ownBlock ∧ (some k_ ≠ (.slice Ao45 t338.length co45 : Value).ownBlock ∧ some k_ ≠ (.slice Ao50 t341.length co50 : Value).ownBlock)))) ∧ some k_ ≠ (.slice Ao139 t368.length co139 : Value).ownBlock) ∧ some k_ ≠ (.slice Ao140 t371.length co140 : Value).ownBlock) ∧ some k_ ≠ (.slice Ao144 t377.length co144 : Value).ownBlock) ∧ some k_ ≠ (.slice Ao150 t380.length co150 : Value).ownBlock)) (n := t320.length) (c := co28) ?_).2.2; exact (by (with_reducible repeat (first | apply Kd.R_alloc | apply Kd.R_drewN | apply Kd.R_drew)); exact (Kd.R_mono (Kd.R_far (p := ⟨gb384, 1, none⟩) (Kd.R_far (p := ⟨gb384, 0, none⟩) (Kd.R_types HO_328000.out BK384.out (by decide)) (fun _ hk => hk.2) (.slice Ao144 t377.length co144)) (fun _ hk => hk.2) (.slice Ao150 t380.length co150)) (fun _ h_ => h_.1)))); (case side6 => exact (Kd.R_reads' HO_328000.out).2.1); (case side7 => refine (Kd.R_reads' (e := 58) (base := w.heap.size) (ok := fun k_ => (((((some k_ ≠ (.slice Ao28 t320.length co28 : Value).ownBlock ∧ (some k_ ≠ (.slice Ao35 t359.length co35 : Value).ownBlock ∧ (some k_ ≠ (.slice Ao39 t360.length co39 : Value).ownBlock ∧ (some k_ ≠ (.slice Ao45 t338.length co45 : Value).ownBlock ∧ some k_ ≠ (.slice Ao50 t341.length co50 : Value).ownBlock)))) ∧ some k_ ≠ (.slice Ao139 t368.length co139 : Value).ownBlock) ∧ some k_ ≠ (.slice Ao140 t371.length co140 : Value).ownBlock) ∧ some k_ ≠ (.slice Ao144 t377.length co144 : Value).ownBlock) ∧ some k_ ≠ (.slice Ao150 t380.length co150 : Value).ownBlock)) (n := t323.length) (c := co31) ?_).2.2; exact (by (with_reducible repeat (first | apply Kd.R_alloc | apply Kd.R_drewN | apply Kd.R_drew)); exact (Kd.R_mono (Kd.R_far (p := ⟨gb384, 1, none⟩) (Kd.R_far (p := ⟨gb384, 0, none⟩) (Kd.R_types HO_328001.out BK384.out (by decide)) (fun _ hk => hk.2) (.slice Ao144 t377.length co144)) (fun _ hk => hk.2) (.slice Ao150 t380.length co150)) (fun _ h_ => h_.1)))); (case side8 => exact (Kd.R_reads' HO_328001.out).2.1); rintro e w162 ⟨rfl, hb⟩; refine ⟨_, rfl, ?_⟩; replace HO_328000 := Aside0.mk (Kd.R_below (by (with_reducible repeat (first | apply Kd.R_alloc | apply Kd.R_drewN | apply Kd.R_drew)); exact (Kd.R_mono (Kd.R_far (p := ⟨gb384, 1, none⟩) (Kd.R_far (p := ⟨gb384, 0, none⟩) (Kd.R_types HO_328000.out BK384.out (by decide)) (fun _ hk => hk.2) (.slice Ao144 t377.length co144)) (fun _ hk => hk.2) (.slice Ao150 t380.length co150)) (fun _ h_ => h_.1))) hb); replace HO_328001 := Aside0.mk (Kd.R_below (by (with_reducible repeat (first | apply Kd.R_alloc | apply Kd.R_drewN | apply Kd.R_drew)); exact (Kd.R_mono (Kd.R_far (p := ⟨gb384, 1, none⟩) (Kd.R_far (p := ⟨gb384, 0, none⟩) (Kd.R_types HO_328001.out BK384.out (by decide)) (fun _ hk => hk.2) (.slice Ao144 t377.length co144)) (fun _ hk => hk.2) (.slice Ao150 t380.length co150)) (fun _ h_ => h_.1))) hb); replace HO_335000 := Aside0.mk (Kd.R_below (by (with_reducible repeat (first | apply Kd.R_alloc | apply Kd.R_drewN | apply Kd.R_drew)); exact (Kd.R_mono (Kd.R_far (p := ⟨gb384, 1, none⟩) (Kd.R_far (p := ⟨gb384, 0, none⟩) (Kd.R_types HO_335000.out BK384.out (by decide)) (fun _ hk => hk.2) (.slice Ao144 t377.length co144)) (fun _ hk => hk.2) (.slice Ao150 t380.length co150)) (fun _ h_ => h_.1))) hb); replace HO_335001 := Aside0.mk (Kd.R_below (by (with_reducible repeat (first | apply Kd.R_alloc | apply Kd.R_drewN | apply Kd.R_drew)); exact (Kd.R_mono (Kd.R_far (p := ⟨gb384, 1, none⟩) (Kd.R_far (p := ⟨gb384, 0, none⟩) (Kd.R_types HO_335001.out BK384.out (by decide)) (fun _ hk => hk.2) (.slice Ao144 t377.length co144)) (fun _ hk => hk.2) (.slice Ao150 t380.length co150)) (fun _ h_ => h_.1))) hb); replace HO_346000 := Aside0.mk (Kd.R_below (by (with_reducible repeat (first | apply Kd.R_alloc | apply Kd.R_drewN | apply Kd.R_drew)); exact (Kd.R_mono (Kd.R_far (p := ⟨gb384, 1, none⟩) (Kd.R_far (p := ⟨gb384, 0, none⟩) (Kd.R_types HO_346000.out BK384.out (by decide)) (fun _ hk => hk.2) (.slice Ao144 t377.length co144)) (fun _ hk => hk.2) (.slice Ao150 t380.length co150)) (fun _ h_ => h_.1))) hb); replace HO_346001 := Aside0.mk (Kd.R_below (by (with_reducible repeat (first | apply Kd.R_alloc | apply Kd.R_drewN | apply Kd.R_drew)); exact (Kd.R_mono (Kd.R_far (p := ⟨gb384, 1, none⟩) (Kd.R_far (p := ⟨gb384, 0, none⟩) (Kd.R_types HO_346001.out BK384.out (by decide)) (fun _ hk => hk.2) (.slice Ao144 t377.length co144)) (fun _ hk => hk.2) (.slice Ao150 t380.length co150)) (fun _ h_ => h_.1))) hb); replace HO370 := Aside0.mk (Kd.R_below (by (with_reducible repeat (first | apply Kd.R_alloc | apply Kd.R_drewN | apply Kd.R_drew)); exact (Kd.R_mono (Kd.R_far (p := ⟨gb384, 1, none⟩) (Kd.R_far (p := ⟨gb384, 0, none⟩) (Kd.R_types HO370.out BK384.out (by decide)) (fun _ hk => hk.2) (.slice Ao144 t377.length co144)) (fun _ hk => hk.2) (.slice Ao150 t380.length co150)) (fun _ h_ => h_.1))) hb); replace HO373 := Aside0.mk (Kd.R_below (by (with_reducible repeat (first | apply Kd.R_alloc | apply Kd.R_drewN | apply Kd.R_drew)); exact (Kd.R_mono (Kd.R_far (p := ⟨gb384, 1, none⟩) (Kd.R_far (p := ⟨gb384, 0, none⟩) (Kd.R_types HO373.out BK384.out (by decide)) (fun _ hk => hk.2) (.slice Ao144 t377.length co144)) (fun _ hk => hk.2) (.slice Ao150 t380.length co150)) (fun _ h_ => h_.1))) hb); replace HO376 := Aside0.mk (Kd.R_below (by (with_reducible repeat (first | apply Kd.R_alloc | apply Kd.R_drewN | apply Kd.R_drew)); exact (Kd.R_mono (Kd.R_far (p := ⟨gb384, 1, none⟩) (Kd.R_far (p := ⟨gb384, 0, none⟩) (Kd.R_types HO376.out BK384.out (by decide)) (fun _ hk => hk.2) (.slice Ao144 t377.length co144)) (fun _ hk => hk.2) (.slice Ao150 t380.length co150)) (fun _ h_ => h_.1))) hb); replace HO379 := Aside0.mk (Kd.R_below (by (with_reducible repeat (first | apply Kd.R_alloc | apply Kd.R_drewN | apply Kd.R_drew)); exact (Kd.R_mono (Kd.R_far (p := ⟨gb384, 1, none⟩) (Kd.R_far (p := ⟨gb384, 0, none⟩) (Kd.R_types HO379.out BK384.out (by decide)) (fun _ hk => hk.2) (.slice Ao144 t377.length co144)) (fun _ hk => hk.2) (.slice Ao150 t380.length co150)) (fun _ h_ => h_.1))) hb); replace HO382 := Aside0.mk (Kd.R_below (by (with_reducible repeat (first | apply Kd.R_alloc | apply Kd.R_drewN | apply Kd.R_drew)); exact (Kd.R_mono (Kd.R_far (p := ⟨gb384, 1, none⟩) (Kd.R_far (p := ⟨gb384, 0, none⟩) (Kd.R_types HO382.out BK384.out (by decide)) (fun _ hk => hk.2) (.slice Ao144 t377.length co144)) (fun _ hk => hk.2) (.slice Ao150 t380.length co150)) (fun _ h_ => h_.1))) hb); replace BK309 := Aside0.mk (blk_below (g := gb309) (o := .cells #[.slice A0_0 l0_0.length c0_0, .slice A0_1 l0_1.length c0_1] 24 (0, 0)) (by (with_reducible repeat (first | refine blk_drewN ?_ _ | refine blk_drew ?_ | refine blk_alloc ?_ _)); refine blk_far ?_ NB309_384.out _; (with_reducible repeat (first | refine blk_drewN ?_ _ | refine blk_drew ?_ | refine blk_alloc ?_ _)); refine blk_far ?_ NB309_384.out _; (with_reducible repeat (first | refine blk_drewN ?_ _ | refine blk_drew ?_ | refine blk_alloc ?_ _)); exact BK309.out) hb); replace BK327 := Aside0.mk (blk_below (g := gb327) (o := .cells #[.slice Ao28 t320.length co28, .slice Ao31 t323.length co31] 27 (0, 0)) (by (with_reducible repeat (first | refine blk_drewN ?_ _ | refine blk_drew ?_ | refine blk_alloc ?_ _)); refine blk_far ?_ NB327_384.out _; (with_reducible repeat (first | refine blk_drewN ?_ _ | refine blk_drew ?_ | refine blk_alloc ?_ _)); refine blk_far ?_ NB327_384.out _; (with_reducible repeat (first | refine blk_drewN ?_ _ | refine blk_drew ?_ | refine blk_alloc ?_ _)); exact BK327.out) hb); replace BK334 := Aside0.mk (blk_below (g := gb334) (o := .cells #[.slice Ao35 t359.length co35, .slice Ao39 t360.length co39] 27 (0, 0)) (by (with_reducible repeat (first | refine blk_drewN ?_ _ | refine blk_drew ?_ | refine blk_alloc ?_ _)); refine blk_far ?_ NB334_384.out _; (with_reducible repeat (first | refine blk_drewN ?_ _ | refine blk_drew ?_ | refine blk_alloc ?_ _)); refine blk_far ?_ NB334_384.out _; (with_reducible repeat (first | refine blk_drewN ?_ _ | refine blk_drew ?_ | refine blk_alloc ?_ _)); exact BK334.out) hb); replace BK345 := Aside0.mk (blk_below (g := gb345) (o := .cells #[.slice Ao45 t338.length co45, .slice Ao50 t341.length co50] 27 (0, 0)) (by (with_reducible repeat (first | refine blk_drewN ?_ _ | refine blk_drew ?_ | refine blk_alloc ?_ _)); refine blk_far ?_ NB345_384.out _; (with_reducible repeat (first | refine blk_drewN ?_ _ | refine blk_drew ?_ | refine blk_alloc ?_ _)); refine blk_far ?_ NB345_384.out _; (with_reducible repeat (first | refine blk_drewN ?_ _ | refine blk_drew ?_ | refine blk_alloc ?_ _)); exact BK345.out) hb); replace BK384 := Aside0.mk (blk_below (g := gb384) (o := .cells #[.slice Ao144 t377.length co144, .slice Ao150 t380.length co150] 27 (0, 0)) (by (with_reducible repeat (first | refine blk_drewN ?_ _ | refine blk_drew ?_ | refine blk_alloc ?_ _)); refine blk_put (cs := #[.slice Ao144 t377.length co144, .slice none 0 0]) ?_ 1 _ rfl; (with_reducible repeat (first | refine blk_drewN ?_ _ | refine blk_drew ?_ | refine blk_alloc ?_ _)); refine blk_put (cs := #[.slice none 0 0, .slice none 0 0]) ?_ 0 _ rfl; (with_reducible repeat (first | refine blk_drewN ?_ _ | refine blk_drew ?_ | refine blk_alloc ?_ _)); exact BK384.out) hb); replace HB := Aside0.mk (below_step (tB HB.out) hb); (try clear hb); (try clear hb2); (try clear hk); (try clear hi)))
               go_meet
               case rel => exact ⟨_, ((t383 != t326)), (by first | rfl | (simp; done) | (simp [wrap64]; done) | (simp [*]; done)), H', ⟨by have := HJ15.out; have := HJ77.out; first | omega | exact Nat.le_refl _⟩, ⟨by (try simp only [hl335000_77]); (try simp only [hl335001_77]); (with_reducible repeat (first | apply Kd.R_alloc | apply Kd.R_drewN | apply Kd.R_drew)); exact Kd.R_mono HO_328000.out (fun _ hk => ⟨hk.1.1.1.1.1, ⟨hk.1.1.1.1.2.1, ⟨hk.1.1.1.1.2.2.1, ⟨hk.1.1.1.1.2.2.2.1, ⟨hk.1.1.1.1.2.2.2.2, ⟨hk.1.2, hk.2⟩⟩⟩⟩⟩⟩)⟩, ⟨by (try simp only [hl335000_77]); (try simp only [hl335001_77]); (with_reducible repeat (first | apply Kd.R_alloc | apply Kd.R_drewN | apply Kd.R_drew)); exact Kd.R_mono HO_328001.out (fun _ hk => ⟨hk.1.1.1.1.1, ⟨hk.1.1.1.1.2.1, ⟨hk.1.1.1.1.2.2.1, ⟨hk.1.1.1.1.2.2.2.1, ⟨hk.1.1.1.1.2.2.2.2, ⟨hk.1.2, hk.2⟩⟩⟩⟩⟩⟩)⟩, ⟨by (try simp only [hl335000_77]); (try simp only [hl335001_77]); (with_reducible repeat (first | apply Kd.R_alloc | apply Kd.R_drewN | apply Kd.R_drew)); exact Kd.R_mono HO_335000.out (fun _ hk => ⟨hk.1.1.1.1.1, ⟨hk.1.1.1.1.2.1, ⟨hk.1.1.1.1.2.2.1, ⟨hk.1.1.1.1.2.2.2.1, ⟨hk.1.1.1.1.2.2.2.2, ⟨hk.1.2, hk.2⟩⟩⟩⟩⟩⟩)⟩, ⟨by (try simp only [hl335000_77]); (try simp only [hl335001_77]); (with_reducible repeat (first | apply Kd.R_alloc | apply Kd.R_drewN | apply Kd.R_drew)); exact Kd.R_mono HO_335001.out (fun _ hk => ⟨hk.1.1.1.1.1, ⟨hk.1.1.1.1.2.1, ⟨hk.1.1.1.1.2.2.1, ⟨hk.1.1.1.1.2.2.2.1, ⟨hk.1.1.1.1.2.2.2.2, ⟨hk.1.2, hk.2⟩⟩⟩⟩⟩⟩)⟩, ⟨by (try simp only [hl335000_77]); (try simp only [hl335001_77]); (with_reducible repeat (first | apply Kd.R_alloc | apply Kd.R_drewN | apply Kd.R_drew)); exact Kd.R_mono HO_346000.out (fun _ hk => ⟨hk.1.1.1.1.1, ⟨hk.1.1.1.1.2.1, ⟨hk.1.1.1.1.2.2.1, ⟨hk.1.1.1.1.2.2.2.1, ⟨hk.1.1.1.1.2.2.2.2, ⟨hk.1.2, hk.2⟩⟩⟩⟩⟩⟩)⟩, ⟨by (try simp only [hl335000_77]); (try simp only [hl335001_77]); (with_reducible repeat (first | apply Kd.R_alloc | apply Kd.R_drewN | apply Kd.R_drew)); exact Kd.R_mono HO_346001.out (fun _ hk => ⟨hk.1.1.1.1.1, ⟨hk.1.1.1.1.2.1, ⟨hk.1.1.1.1.2.2.1, ⟨hk.1.1.1.1.2.2.2.1, ⟨hk.1.1.1.1.2.2.2.2, ⟨hk.1.2, hk.2⟩⟩⟩⟩⟩⟩)⟩, ⟨by (try simp only [hl335000_77]); (try simp only [hl335001_77]); (with_reducible repeat (first | apply Kd.R_alloc | apply Kd.R_drewN | apply Kd.R_drew)); exact Kd.R_mono HO379.out (fun _ hk => ⟨hk.1.1.1.1.1.1.1.2, ⟨hk.1.1.1.1.1.1.2, ⟨hk.1.1.1.1.1.2, ⟨hk.1.1.1.1.2, ⟨hk.1.1.1.2, ⟨hk.1.1.2, hk.1.1.1.1.1.1.1.1⟩⟩⟩⟩⟩⟩)⟩, ⟨by (try simp only [hl335000_77]); (try simp only [hl335001_77]); (with_reducible repeat (first | apply Kd.R_alloc | apply Kd.R_drewN | apply Kd.R_drew)); exact Kd.R_mono HO382.out (fun _ hk => ⟨hk.1.1.1.1.1.1.1.2, ⟨hk.1.1.1.1.1.1.2, ⟨hk.1.1.1.1.1.2, ⟨hk.1.1.1.1.2, ⟨hk.1.1.1.2, ⟨hk.1.1.2, hk.1.1.1.1.1.1.1.1⟩⟩⟩⟩⟩⟩)⟩, ⟨by (try simp only [hl335000_77]); (try simp only [hl335001_77]); (with_reducible repeat (first | refine blk_drewN ?_ _ | refine blk_drew ?_ | refine blk_alloc ?_ _)); exact BK309.out⟩, ⟨by (try simp only [hl335000_77]); (try simp only [hl335001_77]); (with_reducible repeat (first | refine blk_drewN ?_ _ | refine blk_drew ?_ | refine blk_alloc ?_ _)); exact BK327.out⟩, ⟨by (try simp only [hl335000_77]); (try simp only [hl335001_77]); (with_reducible repeat (first | refine blk_drewN ?_ _ | refine blk_drew ?_ | refine blk_alloc ?_ _)); exact BK334.out⟩, ⟨by (try simp only [hl335000_77]); (try simp only [hl335001_77]); (with_reducible repeat (first | refine blk_drewN ?_ _ | refine blk_drew ?_ | refine blk_alloc ?_ _)); exact BK345.out⟩, ⟨by (try simp only [hl335000_77]); (try simp only [hl335001_77]); (with_reducible repeat (first | refine blk_drewN ?_ _ | refine blk_drew ?_ | refine blk_alloc ?_ _)); exact BK384.out⟩, ⟨tB HB.out⟩⟩
              ·
               replace c152 := Bool.eq_false_iff.mpr c152
               subst c152
               have H1 : (laws_FnExactHangLeaves.j2 kj77 t364 true t365 t366) = some r := by rw [if_neg (show ¬ (false = true) by decide)] at H; exact H
               clear H
               have H := H1
               clear H1
               have H' := Aside0.mk H
               clear H
               have hnb163 := NB384_309.out
               have hnc163 := NB309_384.out
               have hnb164 := NB384_327.out
               have hnc164 := NB327_384.out
               have hnb165 := NB384_334.out
               have hnc165 := NB334_384.out
               have hnb166 := NB384_345.out
               have hnc166 := NB345_384.out
               obtain ⟨hcz167_0, hfz167_0, hcz167_1, hfz167_1⟩ := cz2 BK384
               have hnb168 := NB327_309.out
               have hnc168 := NB309_327.out
               have hnb169 := NB327_334.out
               have hnc169 := NB334_327.out
               have hnb170 := NB327_345.out
               have hnc170 := NB345_327.out
               obtain ⟨hcz171_0, hfz171_0, hcz171_1, hfz171_1⟩ := cz2 BK327
               go_wp2_with (first | ((with_reducible refine gate_callee (f := 19) rfl ?_); refine goesL_ (some 102) rfl rfl Try.func19 (by kernel_rfl) rfl #[.agg #[.slice Ao144 t377.length co144, .slice Ao150 t380.length co150], .agg #[.slice Ao28 t320.length co28, .slice Ao31 t323.length co31]] rfl tM ?_; (with_reducible refine (laws_eqMobile.calls kj77 _ _ t377 _ _ t380 _ _ t320 _ _ t323 false _ ?side1 ?side2 ?side3 ?side4 ?side5 ?side6 ?side7 ?side8 A151.out).mono ?_); (case side1 => refine (Kd.R_reads' (e := 58) (base := w.heap.size) (ok := fun k_ => ((((((((some k_ ≠ (.slice Ao150 t380.length co150 : Value).ownBlock ∧ some k_ ≠ (.slice Ao28 t320.length co28 : Value).ownBlock) ∧ some k_ ≠ (.slice Ao31 t323.length co31 : Value).ownBlock) ∧ some k_ ≠ (.slice Ao35 t359.length co35 : Value).ownBlock) ∧ some k_ ≠ (.slice Ao39 t360.length co39 : Value).ownBlock) ∧ some k_ ≠ (.slice Ao45 t338.length co45 : Value).ownBlock) ∧ some k_ ≠ (.slice Ao50 t341.length co50 : Value).ownBlock) ∧ some k_ ≠ (.slice Ao139 t368.length co139 : Value).ownBlock) ∧ some k_ ≠ (.slice Ao140 t371.length co140 : Value).ownBlock)) (n := t377.length) (c := co144) ?_).2.2; exact (by (with_reducible repeat (first | apply Kd.R_alloc | apply Kd.R_drewN | apply Kd.R_drew)); exact (Kd.R_mono (Kd.R_far (p := ⟨gb384, 1, none⟩) (Kd.R_far (p := ⟨gb384, 0, none⟩) (Kd.R_types HO379.out BK384.out (by decide)) (fun _ hk => hk.2) (.slice Ao144 t377.length co144)) (fun _ hk => hk.2) (.slice Ao150 t380.length co150)) (fun _ h_ => h_.1)))); (case side2 => exact (Kd.R_reads' HO379.out).2.1); (case side3 => refine (Kd.R_reads' (e := 58) (base := w.heap.size) (ok := fun k_ => ((((((((some k_ ≠ (.slice Ao144 t377.length co144 : Value).ownBlock ∧ some k_ ≠ (.slice Ao28 t320.length co28 : Value).ownBlock) ∧ some k_ ≠ (.slice Ao31 t323.length co31 : Value).ownBlock) ∧ some k_ ≠ (.slice Ao35 t359.length co35 : Value).ownBlock) ∧ some k_ ≠ (.slice Ao39 t360.length co39 : Value).ownBlock) ∧ some k_ ≠ (.slice Ao45 t338.length co45 : Value).ownBlock) ∧ some k_ ≠ (.slice Ao50 t341.length co50 : Value).ownBlock) ∧ some k_ ≠ (.slice Ao139 t368.length co139 : Value).ownBlock) ∧ some k_ ≠ (.slice Ao140 t371.length co140 : Value).ownBlock)) (n := t380.length) (c := co150) ?_).2.2; exact (by (with_reducible repeat (first | apply Kd.R_alloc | apply Kd.R_drewN | apply Kd.R_drew)); exact (Kd.R_mono (Kd.R_far (p := ⟨gb384, 1, none⟩) (Kd.R_far (p := ⟨gb384, 0, none⟩) (Kd.R_types HO382.out BK384.out (by decide)) (fun _ hk => hk.2) (.slice Ao144 t377.length co144)) (fun _ hk => hk.2) (.slice Ao150 t380.length co150)) (fun _ h_ => h_.1)))); (case side4 => exact (Kd.R_reads' HO382.out).2.1); (case side5 => refine (Kd.R_reads' (e := 58) (base := w.heap.size) (ok := fun k_ => (((((some k_ ≠ (.slice Ao31 t323.length co31 : Value).ownBlock ∧ (some k_ ≠ (.slice Ao35 t359.length co35 : Value).ownBlock ∧ (some k_ ≠ (.slice Ao39 t360.length co39 : Value).ownBlock ∧ (some k_ ≠ (.slice Ao45 t338.length co45 : Value).ownBlock ∧ some k_ ≠ (.slice Ao50 t341.length co50 : Value).ownBlock)))) ∧ some k_ ≠ (.slice Ao139 t368.length co139 : Value).ownBlock) ∧ some k_ ≠ (.slice Ao140 t371.length co140 : Value).ownBlock) ∧ some k_ ≠ (.slice Ao144 t377.length co144 : Value).ownBlock) ∧ some k_ ≠ (.slice Ao150 t380.length co150 : Value).ownBlock)) (n := t320.length) (c := co28) ?_).2.2; exact (by (with_reducible repeat (first | apply Kd.R_alloc | apply Kd.R_drewN | apply Kd.R_drew)); exact (Kd.R_mono (Kd.R_far (p := ⟨gb384, 1, none⟩) (Kd.R_far (p := ⟨gb384, 0, none⟩) (Kd.R_types HO_328000.out BK384.out (by decide)) (fun _ hk => hk.2) (.slice Ao144 t377.length co144)) (fun _ hk => hk.2) (.slice Ao150 t380.length co150)) (fun _ h_ => h_.1)))); (case side6 => exact (Kd.R_reads' HO_328000.out).2.1); (case side7 => refine (Kd.R_reads' (e := 58) (base := w.heap.size) (ok := fun k_ => (((((some k_ ≠ (.slice Ao28 t320.length co28 : Value).ownBlock ∧ (some k_ ≠ (.slice Ao35 t359.length co35 : Value).ownBlock ∧ (some k_ ≠ (.slice Ao39 t360.length co39 : Value).ownBlock ∧ (some k_ ≠ (.slice Ao45 t338.length co45 : Value).ownBlock ∧ some k_ ≠ (.slice Ao50 t341.length co50 : Value).ownBlock)))) ∧ some k_ ≠ (.slice Ao139 t368.length co139 : Value).ownBlock) ∧ some k_ ≠ (.slice Ao140 t371.length co140 : Value).ownBlock) ∧ some k_ ≠ (.slice Ao144 t377.length co144 : Value).ownBlock) ∧ some k_ ≠ (.slice Ao150 t380.length co150 : Value).ownBlock)) (n := t323.length) (c := co31) ?_).2.2; exact (by (with_reducible repeat (first | apply Kd.R_alloc | apply Kd.R_drewN | apply Kd.R_drew)); exact (Kd.R_mono (Kd.R_far (p := ⟨gb384, 1, none⟩) (Kd.R_far (p := ⟨gb384, 0, none⟩) (Kd.R_types HO_328001.out BK384.out (by decide)) (fun _ hk => hk.2) (.slice Ao144 t377.length co144)) (fun _ hk => hk.2) (.slice Ao150 t380.length co150)) (fun _ h_ => h_.1)))); (case side8 => exact (Kd.R_reads' HO_328001.out).2.1); rintro e w172 ⟨rfl, hb⟩; refine ⟨_, rfl, ?_⟩; replace HO_328000 := Aside0.mk (Kd.R_below (by (with_reducible repeat (first | apply Kd.R_alloc | apply Kd.R_drewN | apply Kd.R_drew)); exact (Kd.R_mono (Kd.R_far (p := ⟨gb384, 1, none⟩) (Kd.R_far (p := ⟨gb384, 0, none⟩) (Kd.R_types HO_328000.out BK384.out (by decide)) (fun _ hk => hk.2) (.slice Ao144 t377.length co144)) (fun _ hk => hk.2) (.slice Ao150 t380.length co150)) (fun _ h_ => h_.1))) hb); replace HO_328001 := Aside0.mk (Kd.R_below (by (with_reducible repeat (first | apply Kd.R_alloc | apply Kd.R_drewN | apply Kd.R_drew)); exact (Kd.R_mono (Kd.R_far (p := ⟨gb384, 1, none⟩) (Kd.R_far (p := ⟨gb384, 0, none⟩) (Kd.R_types HO_328001.out BK384.out (by decide)) (fun _ hk => hk.2) (.slice Ao144 t377.length co144)) (fun _ hk => hk.2) (.slice Ao150 t380.length co150)) (fun _ h_ => h_.1))) hb); replace HO_335000 := Aside0.mk (Kd.R_below (by (with_reducible repeat (first | apply Kd.R_alloc | apply Kd.R_drewN | apply Kd.R_drew)); exact (Kd.R_mono (Kd.R_far (p := ⟨gb384, 1, none⟩) (Kd.R_far (p := ⟨gb384, 0, none⟩) (Kd.R_types HO_335000.out BK384.out (by decide)) (fun _ hk => hk.2) (.slice Ao144 t377.length co144)) (fun _ hk => hk.2) (.slice Ao150 t380.length co150)) (fun _ h_ => h_.1))) hb); replace HO_335001 := Aside0.mk (Kd.R_below (by (with_reducible repeat (first | apply Kd.R_alloc | apply Kd.R_drewN | apply Kd.R_drew)); exact (Kd.R_mono (Kd.R_far (p := ⟨gb384, 1, none⟩) (Kd.R_far (p := ⟨gb384, 0, none⟩) (Kd.R_types HO_335001.out BK384.out (by decide)) (fun _ hk => hk.2) (.slice Ao144 t377.length co144)) (fun _ hk => hk.2) (.slice Ao150 t380.length co150)) (fun _ h_ => h_.1))) hb); replace HO_346000 := Aside0.mk (Kd.R_below (by (with_reducible repeat (first | apply Kd.R_alloc | apply Kd.R_drewN | apply Kd.R_drew)); exact (Kd.R_mono (Kd.R_far (p := ⟨gb384, 1, none⟩) (Kd.R_far (p := ⟨gb384, 0, none⟩) (Kd.R_types HO_346000.out BK384.out (by decide)) (fun _ hk => hk.2) (.slice Ao144 t377.length co144)) (fun _ hk => hk.2) (.slice Ao150 t380.length co150)) (fun _ h_ => h_.1))) hb); replace HO_346001 := Aside0.mk (Kd.R_below (by (with_reducible repeat (first | apply Kd.R_alloc | apply Kd.R_drewN | apply Kd.R_drew)); exact (Kd.R_mono (Kd.R_far (p := ⟨gb384, 1, none⟩) (Kd.R_far (p := ⟨gb384, 0, none⟩) (Kd.R_types HO_346001.out BK384.out (by decide)) (fun _ hk => hk.2) (.slice Ao144 t377.length co144)) (fun _ hk => hk.2) (.slice Ao150 t380.length co150)) (fun _ h_ => h_.1))) hb); replace HO370 := Aside0.mk (Kd.R_below (by (with_reducible repeat (first | apply Kd.R_alloc | apply Kd.R_drewN | apply Kd.R_drew)); exact (Kd.R_mono (Kd.R_far (p := ⟨gb384, 1, none⟩) (Kd.R_far (p := ⟨gb384, 0, none⟩) (Kd.R_types HO370.out BK384.out (by decide)) (fun _ hk => hk.2) (.slice Ao144 t377.length co144)) (fun _ hk => hk.2) (.slice Ao150 t380.length co150)) (fun _ h_ => h_.1))) hb); replace HO373 := Aside0.mk (Kd.R_below (by (with_reducible repeat (first | apply Kd.R_alloc | apply Kd.R_drewN | apply Kd.R_drew)); exact (Kd.R_mono (Kd.R_far (p := ⟨gb384, 1, none⟩) (Kd.R_far (p := ⟨gb384, 0, none⟩) (Kd.R_types HO373.out BK384.out (by decide)) (fun _ hk => hk.2) (.slice Ao144 t377.length co144)) (fun _ hk => hk.2) (.slice Ao150 t380.length co150)) (fun _ h_ => h_.1))) hb); replace HO376 := Aside0.mk (Kd.R_below (by (with_reducible repeat (first | apply Kd.R_alloc | apply Kd.R_drewN | apply Kd.R_drew)); exact (Kd.R_mono (Kd.R_far (p := ⟨gb384, 1, none⟩) (Kd.R_far (p := ⟨gb384, 0, none⟩) (Kd.R_types HO376.out BK384.out (by decide)) (fun _ hk => hk.2) (.slice Ao144 t377.length co144)) (fun _ hk => hk.2) (.slice Ao150 t380.length co150)) (fun _ h_ => h_.1))) hb); replace HO379 := Aside0.mk (Kd.R_below (by (with_reducible repeat (first | apply Kd.R_alloc | apply Kd.R_drewN | apply Kd.R_drew)); exact (Kd.R_mono (Kd.R_far (p := ⟨gb384, 1, none⟩) (Kd.R_far (p := ⟨gb384, 0, none⟩) (Kd.R_types HO379.out BK384.out (by decide)) (fun _ hk => hk.2) (.slice Ao144 t377.length co144)) (fun _ hk => hk.2) (.slice Ao150 t380.length co150)) (fun _ h_ => h_.1))) hb); replace HO382 := Aside0.mk (Kd.R_below (by (with_reducible repeat (first | apply Kd.R_alloc | apply Kd.R_drewN | apply Kd.R_drew)); exact (Kd.R_mono (Kd.R_far (p := ⟨gb384, 1, none⟩) (Kd.R_far (p := ⟨gb384, 0, none⟩) (Kd.R_types HO382.out BK384.out (by decide)) (fun _ hk => hk.2) (.slice Ao144 t377.length co144)) (fun _ hk => hk.2) (.slice Ao150 t380.length co150)) (fun _ h_ => h_.1))) hb); replace BK309 := Aside0.mk (blk_below (g := gb309) (o := .cells #[.slice A0_0 l0_0.length c0_0, .slice A0_1 l0_1.length c0_1] 24 (0, 0)) (by (with_reducible repeat (first | refine blk_drewN ?_ _ | refine blk_drew ?_ | refine blk_alloc ?_ _)); refine blk_far ?_ NB309_384.out _; (with_reducible repeat (first | refine blk_drewN ?_ _ | refine blk_drew ?_ | refine blk_alloc ?_ _)); refine blk_far ?_ NB309_384.out _; (with_reducible repeat (first | refine blk_drewN ?_ _ | refine blk_drew ?_ | refine blk_alloc ?_ _)); exact BK309.out) hb); replace BK327 := Aside0.mk (blk_below (g := gb327) (o := .cells #[.slice Ao28 t320.length co28, .slice Ao31 t323.length co31] 27 (0, 0)) (by (with_reducible repeat (first | refine blk_drewN ?_ _ | refine blk_drew ?_ | refine blk_alloc ?_ _)); refine blk_far ?_ NB327_384.out _; (with_reducible repeat (first | refine blk_drewN ?_ _ | refine blk_drew ?_ | refine blk_alloc ?_ _)); refine blk_far ?_ NB327_384.out _; (with_reducible repeat (first | refine blk_drewN ?_ _ | refine blk_drew ?_ | refine blk_alloc ?_ _)); exact BK327.out) hb); replace BK334 := Aside0.mk (blk_below (g := gb334) (o := .cells #[.slice Ao35 t359.length co35, .slice Ao39 t360.length co39] 27 (0, 0)) (by (with_reducible repeat (first | refine blk_drewN ?_ _ | refine blk_drew ?_ | refine blk_alloc ?_ _)); refine blk_far ?_ NB334_384.out _; (with_reducible repeat (first | refine blk_drewN ?_ _ | refine blk_drew ?_ | refine blk_alloc ?_ _)); refine blk_far ?_ NB334_384.out _; (with_reducible repeat (first | refine blk_drewN ?_ _ | refine blk_drew ?_ | refine blk_alloc ?_ _)); exact BK334.out) hb); replace BK345 := Aside0.mk (blk_below (g := gb345) (o := .cells #[.slice Ao45 t338.length co45, .slice Ao50 t341.length co50] 27 (0, 0)) (by (with_reducible repeat (first | refine blk_drewN ?_ _ | refine blk_drew ?_ | refine blk_alloc ?_ _)); refine blk_far ?_ NB345_384.out _; (with_reducible repeat (first | refine blk_drewN ?_ _ | refine blk_drew ?_ | refine blk_alloc ?_ _)); refine blk_far ?_ NB345_384.out _; (with_reducible repeat (first | refine blk_drewN ?_ _ | refine blk_drew ?_ | refine blk_alloc ?_ _)); exact BK345.out) hb); replace BK384 := Aside0.mk (blk_below (g := gb384) (o := .cells #[.slice Ao144 t377.length co144, .slice Ao150 t380.length co150] 27 (0, 0)) (by (with_reducible repeat (first | refine blk_drewN ?_ _ | refine blk_drew ?_ | refine blk_alloc ?_ _)); refine blk_put (cs := #[.slice Ao144 t377.length co144, .slice none 0 0]) ?_ 1 _ rfl; (with_reducible repeat (first | refine blk_drewN ?_ _ | refine blk_drew ?_ | refine blk_alloc ?_ _)); refine blk_put (cs := #[.slice none 0 0, .slice none 0 0]) ?_ 0 _ rfl; (with_reducible repeat (first | refine blk_drewN ?_ _ | refine blk_drew ?_ | refine blk_alloc ?_ _)); exact BK384.out) hb); replace HB := Aside0.mk (below_step (tB HB.out) hb); (try clear hb); (try clear hb2); (try clear hk); (try clear hi)))
               go_meet
               case rel => exact ⟨_, (true), (by first | rfl | (simp; done) | (simp [wrap64]; done) | (simp [*]; done)), H', ⟨by have := HJ15.out; have := HJ77.out; first | omega | exact Nat.le_refl _⟩, ⟨by (try simp only [hl335000_77]); (try simp only [hl335001_77]); (with_reducible repeat (first | apply Kd.R_alloc | apply Kd.R_drewN | apply Kd.R_drew)); exact Kd.R_mono HO_328000.out (fun _ hk => ⟨hk.1.1.1.1.1, ⟨hk.1.1.1.1.2.1, ⟨hk.1.1.1.1.2.2.1, ⟨hk.1.1.1.1.2.2.2.1, ⟨hk.1.1.1.1.2.2.2.2, ⟨hk.1.2, hk.2⟩⟩⟩⟩⟩⟩)⟩, ⟨by (try simp only [hl335000_77]); (try simp only [hl335001_77]); (with_reducible repeat (first | apply Kd.R_alloc | apply Kd.R_drewN | apply Kd.R_drew)); exact Kd.R_mono HO_328001.out (fun _ hk => ⟨hk.1.1.1.1.1, ⟨hk.1.1.1.1.2.1, ⟨hk.1.1.1.1.2.2.1, ⟨hk.1.1.1.1.2.2.2.1, ⟨hk.1.1.1.1.2.2.2.2, ⟨hk.1.2, hk.2⟩⟩⟩⟩⟩⟩)⟩, ⟨by (try simp only [hl335000_77]); (try simp only [hl335001_77]); (with_reducible repeat (first | apply Kd.R_alloc | apply Kd.R_drewN | apply Kd.R_drew)); exact Kd.R_mono HO_335000.out (fun _ hk => ⟨hk.1.1.1.1.1, ⟨hk.1.1.1.1.2.1, ⟨hk.1.1.1.1.2.2.1, ⟨hk.1.1.1.1.2.2.2.1, ⟨hk.1.1.1.1.2.2.2.2, ⟨hk.1.2, hk.2⟩⟩⟩⟩⟩⟩)⟩, ⟨by (try simp only [hl335000_77]); (try simp only [hl335001_77]); (with_reducible repeat (first | apply Kd.R_alloc | apply Kd.R_drewN | apply Kd.R_drew)); exact Kd.R_mono HO_335001.out (fun _ hk => ⟨hk.1.1.1.1.1, ⟨hk.1.1.1.1.2.1, ⟨hk.1.1.1.1.2.2.1, ⟨hk.1.1.1.1.2.2.2.1, ⟨hk.1.1.1.1.2.2.2.2, ⟨hk.1.2, hk.2⟩⟩⟩⟩⟩⟩)⟩, ⟨by (try simp only [hl335000_77]); (try simp only [hl335001_77]); (with_reducible repeat (first | apply Kd.R_alloc | apply Kd.R_drewN | apply Kd.R_drew)); exact Kd.R_mono HO_346000.out (fun _ hk => ⟨hk.1.1.1.1.1, ⟨hk.1.1.1.1.2.1, ⟨hk.1.1.1.1.2.2.1, ⟨hk.1.1.1.1.2.2.2.1, ⟨hk.1.1.1.1.2.2.2.2, ⟨hk.1.2, hk.2⟩⟩⟩⟩⟩⟩)⟩, ⟨by (try simp only [hl335000_77]); (try simp only [hl335001_77]); (with_reducible repeat (first | apply Kd.R_alloc | apply Kd.R_drewN | apply Kd.R_drew)); exact Kd.R_mono HO_346001.out (fun _ hk => ⟨hk.1.1.1.1.1, ⟨hk.1.1.1.1.2.1, ⟨hk.1.1.1.1.2.2.1, ⟨hk.1.1.1.1.2.2.2.1, ⟨hk.1.1.1.1.2.2.2.2, ⟨hk.1.2, hk.2⟩⟩⟩⟩⟩⟩)⟩, ⟨by (try simp only [hl335000_77]); (try simp only [hl335001_77]); (with_reducible repeat (first | apply Kd.R_alloc | apply Kd.R_drewN | apply Kd.R_drew)); exact Kd.R_mono HO379.out (fun _ hk => ⟨hk.1.1.1.1.1.1.1.2, ⟨hk.1.1.1.1.1.1.2, ⟨hk.1.1.1.1.1.2, ⟨hk.1.1.1.1.2, ⟨hk.1.1.1.2, ⟨hk.1.1.2, hk.1.1.1.1.1.1.1.1⟩⟩⟩⟩⟩⟩)⟩, ⟨by (try simp only [hl335000_77]); (try simp only [hl335001_77]); (with_reducible repeat (first | apply Kd.R_alloc | apply Kd.R_drewN | apply Kd.R_drew)); exact Kd.R_mono HO382.out (fun _ hk => ⟨hk.1.1.1.1.1.1.1.2, ⟨hk.1.1.1.1.1.1.2, ⟨hk.1.1.1.1.1.2, ⟨hk.1.1.1.1.2, ⟨hk.1.1.1.2, ⟨hk.1.1.2, hk.1.1.1.1.1.1.1.1⟩⟩⟩⟩⟩⟩)⟩, ⟨by (try simp only [hl335000_77]); (try simp only [hl335001_77]); (with_reducible repeat (first | refine blk_drewN ?_ _ | refine blk_drew ?_ | refine blk_alloc ?_ _)); exact BK309.out⟩, ⟨by (try simp only [hl335000_77]); (try simp only [hl335001_77]); (with_reducible repeat (first | refine blk_drewN ?_ _ | refine blk_drew ?_ | refine blk_alloc ?_ _)); exact BK327.out⟩, ⟨by (try simp only [hl335000_77]); (try simp only [hl335001_77]); (with_reducible repeat (first | refine blk_drewN ?_ _ | refine blk_drew ?_ | refine blk_alloc ?_ _)); exact BK334.out⟩, ⟨by (try simp only [hl335000_77]); (try simp only [hl335001_77]); (with_reducible repeat (first | refine blk_drewN ?_ _ | refine blk_drew ?_ | refine blk_alloc ?_ _)); exact BK345.out⟩, ⟨by (try simp only [hl335000_77]); (try simp only [hl335001_77]); (with_reducible repeat (first | refine blk_drewN ?_ _ | refine blk_drew ?_ | refine blk_alloc ?_ _)); exact BK384.out⟩, ⟨tB HB.out⟩⟩
             case rest =>
              clear HC126
              try clear c1
              try clear c2
              try clear p2
              try clear c3
              try clear c3b0
              try clear c3b1
              try clear c4
              try clear c5
              try clear c6
              try clear c6b0
              try clear p6
              try clear c7
              try clear c8
              try clear c9
              try clear c10
              try clear c11
              try clear c12
              try clear c13
              try clear c14
              try clear c15
              try clear c16
              try clear c17
              try clear c19
              try clear c24
              try clear c25
              try clear c28
              try clear c29
              try clear c36
              try clear c37
              try clear c44
              try clear c45
              try clear c46
              try clear c47
              try clear c48
              try clear c52
              try clear c53
              try clear c54
              try clear c55
              try clear c57
              try clear c58
              try clear c61
              try clear c62
              try clear c63
              try clear p64
              try clear c65
              try clear c66
              try clear c69
              try clear c72
              try clear c75
              try clear c86
              try clear c87
              try clear c88
              try clear c92
              try clear c92b0
              try clear c94
              try clear c95
              try clear c96
              try clear c97
              try clear c99
              try clear c100
              try clear c103
              try clear c104
              try clear c105
              try clear c107
              try clear c108
              try clear c111
              try clear c114
              try clear c114b0
              try clear c115
              try clear c116
              try clear c117
              try clear c122
              try clear c122b0
              try clear c122b1
              try clear c127
              try clear c128
              try clear c129
              try clear c134
              try clear c135
              try clear c145
              try clear c146
              try clear c147
              try clear c148
              try clear c152
              try clear c153
              try clear c154
              try clear c155
              try clear c156
              try clear c158
              try clear c159
              try clear c160
              try clear c163
              try clear c164
              try clear c165
              try clear c166
              try clear c168
              try clear c169
              try clear c170
              try clear hcz101_0
              try clear hcz101_1
              try clear hcz106_0
              try clear hcz106_1
              try clear hcz109_0
              try clear hcz109_1
              try clear hcz118_0
              try clear hcz118_1
              try clear hcz120_0
              try clear hcz120_1
              try clear hcz130_0
              try clear hcz130_1
              try clear hcz132_0
              try clear hcz132_1
              try clear hcz136_0
              try clear hcz136_1
              try clear hcz149_0
              try clear hcz149_1
              try clear hcz157_0
              try clear hcz157_1
              try clear hcz161_0
              try clear hcz161_1
              try clear hcz167_0
              try clear hcz167_1
              try clear hcz171_0
              try clear hcz171_1
              try clear hcz18_0
              try clear hcz18_1
              try clear hcz20_0
              try clear hcz20_1
              try clear hcz30_0
              try clear hcz30_1
              try clear hcz32_0
              try clear hcz32_1
              try clear hcz38_0
              try clear hcz38_1
              try clear hcz41_0
              try clear hcz41_1
              try clear hcz49_0
              try clear hcz49_1
              try clear hcz56_0
              try clear hcz56_1
              try clear hcz59_0
              try clear hcz59_1
              try clear hcz64_0
              try clear hcz64_1
              try clear hcz67_0
              try clear hcz67_1
              try clear hcz89_0
              try clear hcz89_1
              try clear hcz8_0
              try clear hcz8_1
              try clear hcz98_0
              try clear hcz98_1
              try clear hfz101_0
              try clear hfz101_1
              try clear hfz106_0
              try clear hfz106_1
              try clear hfz109_0
              try clear hfz109_1
              try clear hfz118_0
              try clear hfz118_1
              try clear hfz120_0
              try clear hfz120_1
              try clear hfz130_0
              try clear hfz130_1
              try clear hfz132_0
              try clear hfz132_1
              try clear hfz136_0
              try clear hfz136_1
              try clear hfz149_0
              try clear hfz149_1
              try clear hfz157_0
              try clear hfz157_1
              try clear hfz161_0
              try clear hfz161_1
              try clear hfz167_0
              try clear hfz167_1
              try clear hfz171_0
              try clear hfz171_1
              try clear hfz18_0
              try clear hfz18_1
              try clear hfz20_0
              try clear hfz20_1
              try clear hfz30_0
              try clear hfz30_1
              try clear hfz32_0
              try clear hfz32_1
              try clear hfz38_0
              try clear hfz38_1
              try clear hfz41_0
              try clear hfz41_1
              try clear hfz49_0
              try clear hfz49_1
              try clear hfz56_0
              try clear hfz56_1
              try clear hfz59_0
              try clear hfz59_1
              try clear hfz64_0
              try clear hfz64_1
              try clear hfz67_0
              try clear hfz67_1
              try clear hfz89_0
              try clear hfz89_1
              try clear hfz8_0
              try clear hfz8_1
              try clear hfz98_0
              try clear hfz98_1
              try clear p2
              try clear p6
              try clear p64
              obtain ⟨kq, x108_125, rfl, HA, HJ125, HO_328000, HO_328001, HO_335000, HO_335001, HO_346000, HO_346001, HO_385000, HO_385001, BK309, BK327, BK334, BK345, BK384, HB⟩ := hcut
              have hl346000_125 := (Kd.R_reads' HO_346000.out).1
              rw [hl346000_125] at HO_346000
              (try simp only [hl346000_125])
              (try simp only [hl346000_125] at BK309)
              (try simp only [hl346000_125] at BK327)
              (try simp only [hl346000_125] at BK334)
              (try simp only [hl346000_125] at BK345)
              (try simp only [hl346000_125] at BK384)
              (try simp only [hl346000_125] at HO_328000)
              (try simp only [hl346000_125] at HO_328001)
              (try simp only [hl346000_125] at HO_335000)
              (try simp only [hl346000_125] at HO_335001)
              (try simp only [hl346000_125] at HO_346001)
              (try simp only [hl346000_125] at HO_385000)
              (try simp only [hl346000_125] at HO_385001)
              have hl346001_125 := (Kd.R_reads' HO_346001.out).1
              rw [hl346001_125] at HO_346001
              (try simp only [hl346001_125])
              (try simp only [hl346001_125] at BK309)
              (try simp only [hl346001_125] at BK327)
              (try simp only [hl346001_125] at BK334)
              (try simp only [hl346001_125] at BK345)
              (try simp only [hl346001_125] at BK384)
              (try simp only [hl346001_125] at HO_328000)
              (try simp only [hl346001_125] at HO_328001)
              (try simp only [hl346001_125] at HO_335000)
              (try simp only [hl346001_125] at HO_335001)
              (try simp only [hl346001_125] at HO_346000)
              (try simp only [hl346001_125] at HO_385000)
              (try simp only [hl346001_125] at HO_385001)
              cases kq with
              | zero => exact absurd HA.out (by simp [laws_FnExactHangLeaves.j2])
              | succ kj125 =>
               have H := HA.out
               clear HA
               simp only [laws_FnExactHangLeaves.j2] at H
               by_cases c173 : x108_125 = true
               ·
                subst c173
                have H1 : (some false) = some r := by rw [if_pos rfl] at H; exact H
                clear H
                have H := H1
                clear H1
                obtain rfl := Option.some.inj H
                go_wp2
                go_ret
                exact ⟨by first | rfl | (simp [errW_none, errW_some] <;> rfl) | (simp [*, errW_none, errW_some] <;> rfl), tB HB.out⟩
               ·
                replace c173 := Bool.eq_false_iff.mpr c173
                subst c173
                have H1 : ((laws_heldMobile.f kj125 t365 t366 1).bind fun t386 => (if t386 < 0 then (some false) else (if t386 = t364 then (some true) else (some false)))) = some r := by rw [if_neg (show ¬ (false = true) by decide)] at H; exact H
                clear H
                have H := H1
                clear H1
                replace H := Option.bind_eq_some_iff.mp H
                obtain ⟨t386, A1740, H⟩ := H
                replace H : (if t386 < 0 then (some false) else (if t386 = t364 then (some true) else (some false))) = some r := H
                have A174 := Aside0.mk A1740
                clear A1740
                by_cases c175 : t386 < 0
                ·
                 rw [if_pos c175] at H
                 have c175b0 : decide (t386 < 0) = true := decide_eq_true c175
                 clear c175
                 obtain rfl := Option.some.inj H
                 have hnb176 := NB345_309.out
                 have hnc176 := NB309_345.out
                 have hnb177 := NB345_327.out
                 have hnc177 := NB327_345.out
                 have hnb178 := NB345_334.out
                 have hnc178 := NB334_345.out
                 have hnb179 := NB345_384.out
                 have hnc179 := NB384_345.out
                 obtain ⟨hcz180_0, hfz180_0, hcz180_1, hfz180_1⟩ := cz2 BK345
                 go_wp2_with (first | ((with_reducible refine gate_callee (f := 25) rfl ?_); refine goesL_ (some 111) rfl rfl Try.func25 (by kernel_rfl) rfl #[.agg #[.slice Ao45 t365.length co45, .slice Ao50 t366.length co50], .int .i64 1] rfl tM ?_; (with_reducible refine (laws_heldMobile.calls kj125 _ _ t365 _ _ t366 1 t386 _ ?side1 ?side2 ?side3 ?side4 A174.out).mono ?_); (case side1 => exact tC (Kd.R_reads' HO_346000.out).2.2); (case side2 => exact (Kd.R_reads' HO_346000.out).2.1); (case side3 => exact tC (Kd.R_reads' HO_346001.out).2.2); (case side4 => exact (Kd.R_reads' HO_346001.out).2.1); rintro e w181 ⟨rfl, hb⟩; refine ⟨_, rfl, ?_⟩; replace HO_328000 := Aside0.mk (Kd.R_below (tR HO_328000.out) hb); replace HO_328001 := Aside0.mk (Kd.R_below (tR HO_328001.out) hb); replace HO_335000 := Aside0.mk (Kd.R_below (tR HO_335000.out) hb); replace HO_335001 := Aside0.mk (Kd.R_below (tR HO_335001.out) hb); replace HO_346000 := Aside0.mk (Kd.R_below (tR HO_346000.out) hb); replace HO_346001 := Aside0.mk (Kd.R_below (tR HO_346001.out) hb); replace HO_385000 := Aside0.mk (Kd.R_below (tR HO_385000.out) hb); replace HO_385001 := Aside0.mk (Kd.R_below (tR HO_385001.out) hb); replace BK309 := bkB BK309 hb; replace BK327 := bkB BK327 hb; replace BK334 := bkB BK334 hb; replace BK345 := bkB BK345 hb; replace BK384 := bkB BK384 hb; replace HB := Aside0.mk (below_step (tB HB.out) hb); (try clear hb); (try clear hb2); (try clear hk); (try clear hi)))
                 go_ret
                 exact ⟨by first | rfl | (simp [errW_none, errW_some] <;> rfl) | (simp [*, errW_none, errW_some] <;> rfl), tB HB.out⟩
                ·
                 rw [if_neg c175] at H
                 have c175b0 : decide (t386 < 0) = false := decide_eq_false c175
                 clear c175
                 by_cases c182 : t386 = t364
                 ·
                  rw [if_pos c182] at H
                  have c182b0 : (t386 == t364) = true := beq_iff_eq.mpr c182
                  have c182b1 : (t386 != t364) = false := bne_eq_false_iff_eq.mpr c182
                  clear c182
                  obtain rfl := Option.some.inj H
                  have hnb183 := NB345_309.out
                  have hnc183 := NB309_345.out
                  have hnb184 := NB345_327.out
                  have hnc184 := NB327_345.out
                  have hnb185 := NB345_334.out
                  have hnc185 := NB334_345.out
                  have hnb186 := NB345_384.out
                  have hnc186 := NB384_345.out
                  obtain ⟨hcz187_0, hfz187_0, hcz187_1, hfz187_1⟩ := cz2 BK345
                  go_wp2_with (first | ((with_reducible refine gate_callee (f := 25) rfl ?_); refine goesL_ (some 111) rfl rfl Try.func25 (by kernel_rfl) rfl #[.agg #[.slice Ao45 t365.length co45, .slice Ao50 t366.length co50], .int .i64 1] rfl tM ?_; (with_reducible refine (laws_heldMobile.calls kj125 _ _ t365 _ _ t366 1 t386 _ ?side1 ?side2 ?side3 ?side4 A174.out).mono ?_); (case side1 => exact tC (Kd.R_reads' HO_346000.out).2.2); (case side2 => exact (Kd.R_reads' HO_346000.out).2.1); (case side3 => exact tC (Kd.R_reads' HO_346001.out).2.2); (case side4 => exact (Kd.R_reads' HO_346001.out).2.1); rintro e w188 ⟨rfl, hb⟩; refine ⟨_, rfl, ?_⟩; replace HO_328000 := Aside0.mk (Kd.R_below (tR HO_328000.out) hb); replace HO_328001 := Aside0.mk (Kd.R_below (tR HO_328001.out) hb); replace HO_335000 := Aside0.mk (Kd.R_below (tR HO_335000.out) hb); replace HO_335001 := Aside0.mk (Kd.R_below (tR HO_335001.out) hb); replace HO_346000 := Aside0.mk (Kd.R_below (tR HO_346000.out) hb); replace HO_346001 := Aside0.mk (Kd.R_below (tR HO_346001.out) hb); replace HO_385000 := Aside0.mk (Kd.R_below (tR HO_385000.out) hb); replace HO_385001 := Aside0.mk (Kd.R_below (tR HO_385001.out) hb); replace BK309 := bkB BK309 hb; replace BK327 := bkB BK327 hb; replace BK334 := bkB BK334 hb; replace BK345 := bkB BK345 hb; replace BK384 := bkB BK384 hb; replace HB := Aside0.mk (below_step (tB HB.out) hb); (try clear hb); (try clear hb2); (try clear hk); (try clear hi)))
                  go_ret
                  exact ⟨by first | rfl | (simp [errW_none, errW_some] <;> rfl) | (simp [*, errW_none, errW_some] <;> rfl), tB HB.out⟩
                 ·
                  rw [if_neg c182] at H
                  have c182b0 : (t386 == t364) = false := beq_eq_false_iff_ne.mpr c182
                  have c182b1 : (t386 != t364) = true := bne_iff_ne.mpr c182
                  obtain rfl := Option.some.inj H
                  have hnb189 := NB345_309.out
                  have hnc189 := NB309_345.out
                  have hnb190 := NB345_327.out
                  have hnc190 := NB327_345.out
                  have hnb191 := NB345_334.out
                  have hnc191 := NB334_345.out
                  have hnb192 := NB345_384.out
                  have hnc192 := NB384_345.out
                  obtain ⟨hcz193_0, hfz193_0, hcz193_1, hfz193_1⟩ := cz2 BK345
                  go_wp2_with (first | ((with_reducible refine gate_callee (f := 25) rfl ?_); refine goesL_ (some 111) rfl rfl Try.func25 (by kernel_rfl) rfl #[.agg #[.slice Ao45 t365.length co45, .slice Ao50 t366.length co50], .int .i64 1] rfl tM ?_; (with_reducible refine (laws_heldMobile.calls kj125 _ _ t365 _ _ t366 1 t386 _ ?side1 ?side2 ?side3 ?side4 A174.out).mono ?_); (case side1 => exact tC (Kd.R_reads' HO_346000.out).2.2); (case side2 => exact (Kd.R_reads' HO_346000.out).2.1); (case side3 => exact tC (Kd.R_reads' HO_346001.out).2.2); (case side4 => exact (Kd.R_reads' HO_346001.out).2.1); rintro e w194 ⟨rfl, hb⟩; refine ⟨_, rfl, ?_⟩; replace HO_328000 := Aside0.mk (Kd.R_below (tR HO_328000.out) hb); replace HO_328001 := Aside0.mk (Kd.R_below (tR HO_328001.out) hb); replace HO_335000 := Aside0.mk (Kd.R_below (tR HO_335000.out) hb); replace HO_335001 := Aside0.mk (Kd.R_below (tR HO_335001.out) hb); replace HO_346000 := Aside0.mk (Kd.R_below (tR HO_346000.out) hb); replace HO_346001 := Aside0.mk (Kd.R_below (tR HO_346001.out) hb); replace HO_385000 := Aside0.mk (Kd.R_below (tR HO_385000.out) hb); replace HO_385001 := Aside0.mk (Kd.R_below (tR HO_385001.out) hb); replace BK309 := bkB BK309 hb; replace BK327 := bkB BK327 hb; replace BK334 := bkB BK334 hb; replace BK345 := bkB BK345 hb; replace BK384 := bkB BK384 hb; replace HB := Aside0.mk (below_step (tB HB.out) hb); (try clear hb); (try clear hb2); (try clear hk); (try clear hi)))
                  go_ret
                  exact ⟨by first | rfl | (simp [errW_none, errW_some] <;> rfl) | (simp [*, errW_none, errW_some] <;> rfl), tB HB.out⟩
            ·
             rw [if_neg c122] at H
             have c122b0 : (t367 == t364) = false := beq_eq_false_iff_ne.mpr c122
             have c122b1 : (t367 != t364) = true := bne_iff_ne.mpr c122
             obtain rfl := Option.some.inj H
             have hnb195 := NB345_309.out
             have hnc195 := NB309_345.out
             have hnb196 := NB345_327.out
             have hnc196 := NB327_345.out
             have hnb197 := NB345_334.out
             have hnc197 := NB334_345.out
             obtain ⟨hcz198_0, hfz198_0, hcz198_1, hfz198_1⟩ := cz2 BK345
             go_wp2_with (first | ((with_reducible refine gate_callee (f := 24) rfl ?_); refine goesL_ (some 83) rfl rfl Try.func24 (by kernel_rfl) rfl #[.agg #[.slice Ao45 t338.length co45, .slice Ao50 t341.length co50], .int .i64 1] rfl tM ?_; (with_reducible refine (laws_markMobile.calls kj77 (fun k_ => some k_ = (.slice Ao45 t338.length co45 : Value).ownBlock) (.slice Ao45 t338.length co45) t338 (fun k_ => some k_ = (.slice Ao50 t341.length co50 : Value).ownBlock) (.slice Ao50 t341.length co50) t341 1 t364 t365 t366 w _ ?side1 ?side2 ?side3 ?side4 ?side5 A112.out).mono ?_); (case side1 => repeat (first | (with_reducible first | exact HB.out | apply below_alloc | apply pw_below_drewN | apply below_drew1 | refine below_set ?_ GE309.out | refine below_set ?_ GE327.out | refine below_set ?_ GE334.out | refine below_set ?_ GE345.out) | exact HB.out)); (case side2 => exact Kd.R_tight rfl HO_346000.out); (case side3 => exact fun k_ e_ => (HO_346000.out.1 k_ e_.symm).2.2.2.2); (case side4 => exact Kd.R_tight rfl HO_346001.out); (case side5 => exact fun k_ e_ => (HO_346001.out.1 k_ e_.symm).2.2.2.2); rintro e w199 ⟨rfl, hy0, hy1, hb, hkp⟩; refine ⟨_, rfl, ?_⟩; replace HO_328000 := Aside0.mk (Kd.R_mono (ok' := fun k_ => some k_ ≠ (.slice Ao31 t323.length co31 : Value).ownBlock ∧ some k_ ≠ (.slice Ao35 t359.length co35 : Value).ownBlock ∧ some k_ ≠ (.slice Ao39 t360.length co39 : Value).ownBlock ∧ some k_ ≠ (.slice Ao45 t338.length co45 : Value).ownBlock ∧ some k_ ≠ (.slice Ao50 t341.length co50 : Value).ownBlock) (Kd.R_keptB (HO_328000.out) hkp (fun k_ hk_ hs_ => Or.elim hs_ (fun e_ => (hk_.2.2.2.1) e_) (fun e_ => (hk_.2.2.2.2) e_))) (fun k_ hk_ => ⟨hk_.1.1, hk_.1.2.1, hk_.1.2.2.1, hk_.1.2.2.2.1, hk_.1.2.2.2.2⟩)); replace HO_328001 := Aside0.mk (Kd.R_mono (ok' := fun k_ => some k_ ≠ (.slice Ao28 t320.length co28 : Value).ownBlock ∧ some k_ ≠ (.slice Ao35 t359.length co35 : Value).ownBlock ∧ some k_ ≠ (.slice Ao39 t360.length co39 : Value).ownBlock ∧ some k_ ≠ (.slice Ao45 t338.length co45 : Value).ownBlock ∧ some k_ ≠ (.slice Ao50 t341.length co50 : Value).ownBlock) (Kd.R_keptB (HO_328001.out) hkp (fun k_ hk_ hs_ => Or.elim hs_ (fun e_ => (hk_.2.2.2.1) e_) (fun e_ => (hk_.2.2.2.2) e_))) (fun k_ hk_ => ⟨hk_.1.1, hk_.1.2.1, hk_.1.2.2.1, hk_.1.2.2.2.1, hk_.1.2.2.2.2⟩)); replace HO_335000 := Aside0.mk (Kd.R_mono (ok' := fun k_ => some k_ ≠ (.slice Ao28 t320.length co28 : Value).ownBlock ∧ some k_ ≠ (.slice Ao31 t323.length co31 : Value).ownBlock ∧ some k_ ≠ (.slice Ao39 t360.length co39 : Value).ownBlock ∧ some k_ ≠ (.slice Ao45 t338.length co45 : Value).ownBlock ∧ some k_ ≠ (.slice Ao50 t341.length co50 : Value).ownBlock) (Kd.R_keptB (HO_335000.out) hkp (fun k_ hk_ hs_ => Or.elim hs_ (fun e_ => (hk_.2.2.2.1) e_) (fun e_ => (hk_.2.2.2.2) e_))) (fun k_ hk_ => ⟨hk_.1.1, hk_.1.2.1, hk_.1.2.2.1, hk_.1.2.2.2.1, hk_.1.2.2.2.2⟩)); replace HO_335001 := Aside0.mk (Kd.R_mono (ok' := fun k_ => some k_ ≠ (.slice Ao28 t320.length co28 : Value).ownBlock ∧ some k_ ≠ (.slice Ao31 t323.length co31 : Value).ownBlock ∧ some k_ ≠ (.slice Ao35 t359.length co35 : Value).ownBlock ∧ some k_ ≠ (.slice Ao45 t338.length co45 : Value).ownBlock ∧ some k_ ≠ (.slice Ao50 t341.length co50 : Value).ownBlock) (Kd.R_keptB (HO_335001.out) hkp (fun k_ hk_ hs_ => Or.elim hs_ (fun e_ => (hk_.2.2.2.1) e_) (fun e_ => (hk_.2.2.2.2) e_))) (fun k_ hk_ => ⟨hk_.1.1, hk_.1.2.1, hk_.1.2.2.1, hk_.1.2.2.2.1, hk_.1.2.2.2.2⟩)); replace BK309 := Aside0.mk (blk_kept (tK BK309.out) hkp (fun hs_ => Or.elim hs_ (fun e_ => (fun e_ => (Kd.R_ne HO_346000.out BK309.out (by decide)) e_) e_) (fun e_ => (fun e_ => (Kd.R_ne HO_346001.out BK309.out (by decide)) e_) e_))); replace BK327 := Aside0.mk (blk_kept (tK BK327.out) hkp (fun hs_ => Or.elim hs_ (fun e_ => (fun e_ => (Kd.R_ne HO_346000.out BK327.out (by decide)) e_) e_) (fun e_ => (fun e_ => (Kd.R_ne HO_346001.out BK327.out (by decide)) e_) e_))); replace BK334 := Aside0.mk (blk_kept (tK BK334.out) hkp (fun hs_ => Or.elim hs_ (fun e_ => (fun e_ => (Kd.R_ne HO_346000.out BK334.out (by decide)) e_) e_) (fun e_ => (fun e_ => (Kd.R_ne HO_346001.out BK334.out (by decide)) e_) e_))); replace BK345 := Aside0.mk (blk_kept (tK BK345.out) hkp (fun hs_ => Or.elim hs_ (fun e_ => (fun e_ => (Kd.R_ne HO_346000.out BK345.out (by decide)) e_) e_) (fun e_ => (fun e_ => (Kd.R_ne HO_346001.out BK345.out (by decide)) e_) e_))); replace HO_346000 := Aside0.mk (Kd.R_reok rfl hy0 (fun k_ e_ => HO_346000.out.1 k_ e_)); replace HO_346001 := Aside0.mk (Kd.R_reok rfl hy1 (fun k_ e_ => HO_346001.out.1 k_ e_)); replace HB := Aside0.mk (hb); (try clear hb); (try clear hkp); (try clear hy0); (try clear hy1); obtain ⟨hcz200_0, hfz200_0, hcz200_1, hfz200_1⟩ := cz2 BK345) | ((with_reducible refine gate_callee (f := 25) rfl ?_); refine goesL_ (some 86) rfl rfl Try.func25 (by kernel_rfl) rfl #[.agg #[.slice Ao45 t365.length co45, .slice Ao50 t366.length co50], .int .i64 1] rfl (by (try simp only [List.map_toArray, List.map_cons, List.map_nil]); first | done | (rw [show t365.length = t338.length from (Kd.R_reads' HO_346000.out).1.symm, show t366.length = t341.length from (Kd.R_reads' HO_346001.out).1.symm] <;> rfl) | rfl | (simp only [List.length_drop, List.length_take]; rfl)) ?_; (with_reducible refine (laws_heldMobile.calls kj77 _ _ t365 _ _ t366 1 t367 _ ?side1 ?side2 ?side3 ?side4 A113.out).mono ?_); (case side1 => exact tC (Kd.R_reads' HO_346000.out).2.2); (case side2 => rw [show t365.length = t338.length from (Kd.R_reads' HO_346000.out).1.symm]; exact (Kd.R_reads' HO_346000.out).2.1); (case side3 => exact tC (Kd.R_reads' HO_346001.out).2.2); (case side4 => rw [show t366.length = t341.length from (Kd.R_reads' HO_346001.out).1.symm]; exact (Kd.R_reads' HO_346001.out).2.1); rintro e w201 ⟨rfl, hb⟩; refine ⟨_, rfl, ?_⟩; replace HO_328000 := Aside0.mk (Kd.R_below (tR HO_328000.out) hb); replace HO_328001 := Aside0.mk (Kd.R_below (tR HO_328001.out) hb); replace HO_335000 := Aside0.mk (Kd.R_below (tR HO_335000.out) hb); replace HO_335001 := Aside0.mk (Kd.R_below (tR HO_335001.out) hb); replace HO_346000 := Aside0.mk (Kd.R_below (tR HO_346000.out) hb); replace HO_346001 := Aside0.mk (Kd.R_below (tR HO_346001.out) hb); replace BK309 := bkB BK309 hb; replace BK327 := bkB BK327 hb; replace BK334 := bkB BK334 hb; replace BK345 := bkB BK345 hb; replace HB := Aside0.mk (below_step (tB HB.out) hb); (try clear hb); (try clear hb2); (try clear hk); (try clear hi)))
             go_ret
             exact ⟨by first | rfl | (simp [errW_none, errW_some] <;> rfl) | (simp [*, errW_none, errW_some] <;> rfl), tB HB.out⟩
       ·
        replace c75 := Bool.eq_false_iff.mpr c75
        subst c75
        have H1 : (some false) = some r := by rw [if_neg (show ¬ (false = true) by decide)] at H; exact H
        clear H
        have H := H1
        clear H1
        obtain rfl := Option.some.inj H
        try go_wp2
        replace HO_9 := Aside0.mk (Kd.R_drew HO_9.out)
        replace HO_328000 := Aside0.mk (Kd.R_drew HO_328000.out)
        replace HO_328001 := Aside0.mk (Kd.R_drew HO_328001.out)
        replace HO_335000 := Aside0.mk (Kd.R_drew HO_335000.out)
        replace HO_335001 := Aside0.mk (Kd.R_drew HO_335001.out)
        replace HO_346000 := Aside0.mk (Kd.R_drew HO_346000.out)
        replace HO_346001 := Aside0.mk (Kd.R_drew HO_346001.out)
        replace BK309 := Aside0.mk (blk_drew BK309.out)
        replace BK327 := Aside0.mk (blk_drew BK327.out)
        replace BK334 := Aside0.mk (blk_drew BK334.out)
        replace BK345 := Aside0.mk (blk_drew BK345.out)
        replace HB := Aside0.mk (below_drew1 HB.out)
        refine start_ (n := 5) (S := fun w' => w'.cell? ⟨gb334, 0, none⟩ = some (.slice Ao35 t328.length co35) ∧ w'.cell? ⟨gb334, 1, none⟩ = some (.slice Ao39 t331.length co39) ∧ w'.cell? ⟨gb309, 0, none⟩ = some (.slice A0_0 l0_0.length c0_0) ∧ w'.cell? ⟨gb309, 1, none⟩ = some (.slice A0_1 l0_1.length c0_1)) (ds := []) #[false, false, false, false, false] (by kernel_rfl) rfl rfl ⟨(blk_cell BK334.out 0).trans rfl, (blk_cell BK334.out 1).trans rfl, (blk_cell BK309.out 0).trans rfl, (blk_cell BK309.out 1).trans rfl⟩ (fun hHeld => ?_)
        generalize wc.drew = w202 at HO_9 HO_328000 HO_328001 HO_335000 HO_335001 HO_346000 HO_346001 BK309 BK327 BK334 BK345 HB hHeld ⊢
        refine take_ (i := 0) (N := some 52) (v := ?_) (a' := ?_) #[true, false, false, false, false] rfl rfl (by kernel_rfl) (fun _ _ _ h => h) (Or.inl ⟨by rfl, ?_⟩) hHeld ?_ ?_
        rotate_left
        ·
         rintro w' ⟨s0, s1, s2, s3⟩
         go_simp
         with_reducible rfl
        rotate_left
        ·
         simp only [Act.put, List.setIfInBounds_toArray, List.set_cons_zero, List.set_cons_succ, i64_w, i32_w]
         rfl
        refine take_ (i := 1) (N := some 53) (v := ?_) (a' := ?_) #[true, true, false, false, false] rfl rfl (by kernel_rfl) (fun _ _ _ h => h) (Or.inl ⟨by rfl, ?_⟩) hHeld ?_ ?_
        rotate_left
        ·
         rintro w' ⟨s0, s1, s2, s3⟩
         go_simp
         with_reducible rfl
        rotate_left
        ·
         simp only [Act.put, List.setIfInBounds_toArray, List.set_cons_zero, List.set_cons_succ, i64_w, i32_w]
         rfl
        refine one_ (i := 2) (N := some 54) #[true, true, true, false, false] rfl rfl (by kernel_rfl) (by decide) (fun K hK => ?_)
        refine goes_ Try.func17 (by kernel_rfl) rfl #[.agg #[.slice A0_0 l0_0.length c0_0, .slice A0_1 l0_1.length c0_1]] (by rfl) rfl rfl tM ?_
        with_reducible refine (laws_toMobile.calls kj15 _ _ l0_0 _ _ l0_1 t347 t350 _ ?side1 ?side2 ?side3 ?side4 A70.out).mono ?_
        (case side1 => exact tC (Kd.C_below HR0_0.out HB.out))
        (case side2 => exact HC0_0.out)
        (case side3 => exact tC (Kd.C_below HR0_1.out HB.out))
        (case side4 => exact HC0_1.out)
        rintro e w203 ⟨v348, v351, rfl, ho0, ho1, hb⟩
        refine ⟨_, rfl, ?_⟩
        replace HO_9 := Aside0.mk (Kd.R_below (tR HO_9.out) hb)
        have HO349 := Aside0.mk (Kd.R_lower (Kd.R_new' (Kd.R_new' (Kd.R_new' (Kd.R_new' (Kd.R_new' (Kd.R_new' ho0 (Kd.R_lt (tR HO_328000.out))) (Kd.R_lt (tR HO_328001.out))) (Kd.R_lt (tR HO_335000.out))) (Kd.R_lt (tR HO_335001.out))) (Kd.R_lt (tR HO_346000.out))) (Kd.R_lt (tR HO_346001.out))) (below_size (tB HB.out)))
        have HO352 := Aside0.mk (Kd.R_lower (Kd.R_new' (Kd.R_new' (Kd.R_new' (Kd.R_new' (Kd.R_new' (Kd.R_new' ho1 (Kd.R_lt (tR HO_328000.out))) (Kd.R_lt (tR HO_328001.out))) (Kd.R_lt (tR HO_335000.out))) (Kd.R_lt (tR HO_335001.out))) (Kd.R_lt (tR HO_346000.out))) (Kd.R_lt (tR HO_346001.out))) (below_size (tB HB.out)))
        replace HO_328000 := Aside0.mk (Kd.R_mono (Kd.R_told (Kd.R_told (Kd.R_old (tR HO_328000.out) hb) (Kd.R_base ho0)) (Kd.R_base ho1)) (fun _ h_ => h_.1))
        replace HO_328001 := Aside0.mk (Kd.R_mono (Kd.R_told (Kd.R_told (Kd.R_old (tR HO_328001.out) hb) (Kd.R_base ho0)) (Kd.R_base ho1)) (fun _ h_ => h_.1))
        replace HO_335000 := Aside0.mk (Kd.R_mono (Kd.R_told (Kd.R_told (Kd.R_old (tR HO_335000.out) hb) (Kd.R_base ho0)) (Kd.R_base ho1)) (fun _ h_ => h_.1))
        replace HO_335001 := Aside0.mk (Kd.R_mono (Kd.R_told (Kd.R_told (Kd.R_old (tR HO_335001.out) hb) (Kd.R_base ho0)) (Kd.R_base ho1)) (fun _ h_ => h_.1))
        replace HO_346000 := Aside0.mk (Kd.R_mono (Kd.R_told (Kd.R_told (Kd.R_old (tR HO_346000.out) hb) (Kd.R_base ho0)) (Kd.R_base ho1)) (fun _ h_ => h_.1))
        replace HO_346001 := Aside0.mk (Kd.R_mono (Kd.R_told (Kd.R_told (Kd.R_old (tR HO_346001.out) hb) (Kd.R_base ho0)) (Kd.R_base ho1)) (fun _ h_ => h_.1))
        replace BK309 := bkB BK309 hb
        replace BK327 := bkB BK327 hb
        replace BK334 := bkB BK334 hb
        replace BK345 := bkB BK345 hb
        replace HB := Aside0.mk (below_step (tB HB.out) hb)
        (try clear hb)
        (try clear hb2)
        (try clear hk)
        (try clear hi)
        (try clear ho0)
        (try clear ho1)
        obtain ⟨Ao204, co204, eo204⟩ := Kd.R_slice HO349.out
        (first | subst eo204 | (injection eo204 with f1_ f2_ f3_; have f4_ := f1_.symm; have f5_ := f3_.symm; clear f1_ f2_ f3_; subst f4_; subst f5_))
        obtain ⟨Ao205, co205, eo205⟩ := Kd.R_slice HO352.out
        (first | subst eo205 | (injection eo205 with f1_ f2_ f3_; have f4_ := f1_.symm; have f5_ := f3_.symm; clear f1_ f2_ f3_; subst f4_; subst f5_))
        refine hK.out _ _ ⟨(blk_cell BK334.out 0).trans rfl, (blk_cell BK334.out 1).trans rfl, (blk_cell BK309.out 0).trans rfl, (blk_cell BK309.out 1).trans rfl⟩ (fun hHeld => ?_)
        clear hK K
        refine norm_ (a' := ?_) ?_ ?_
        rotate_left
        ·
         show Act.put _ (some 54) _ = _
         simp only [Act.put, List.setIfInBounds_toArray, List.set_cons_zero, List.set_cons_succ, i64_w, i32_w]
         rfl
        refine one_ (i := 3) (N := some 55) #[true, true, true, true, false] rfl rfl (by kernel_rfl) (by decide) (fun K hK => ?_)
        refine goes_ Try.func19 (by kernel_rfl) rfl #[.agg #[.slice Ao35 t328.length co35, .slice Ao39 t331.length co39], .agg #[.slice Ao204 t347.length co204, .slice Ao205 t350.length co205]] (by rfl) rfl rfl tM ?_
        with_reducible refine (laws_eqMobile.calls kj15 _ _ t328 _ _ t331 _ _ t347 _ _ t350 true _ ?side1 ?side2 ?side3 ?side4 ?side5 ?side6 ?side7 ?side8 A71.out).mono ?_
        (case side1 => exact tC (Kd.R_reads' HO_335000.out).2.2)
        (case side2 => exact (Kd.R_reads' HO_335000.out).2.1)
        (case side3 => exact tC (Kd.R_reads' HO_335001.out).2.2)
        (case side4 => exact (Kd.R_reads' HO_335001.out).2.1)
        (case side5 => exact tC (Kd.R_reads' HO349.out).2.2)
        (case side6 => exact (Kd.R_reads' HO349.out).2.1)
        (case side7 => exact tC (Kd.R_reads' HO352.out).2.2)
        (case side8 => exact (Kd.R_reads' HO352.out).2.1)
        rintro e w206 ⟨rfl, hb⟩
        refine ⟨_, rfl, ?_⟩
        replace HO_9 := Aside0.mk (Kd.R_below (tR HO_9.out) hb)
        replace HO_328000 := Aside0.mk (Kd.R_below (tR HO_328000.out) hb)
        replace HO_328001 := Aside0.mk (Kd.R_below (tR HO_328001.out) hb)
        replace HO_335000 := Aside0.mk (Kd.R_below (tR HO_335000.out) hb)
        replace HO_335001 := Aside0.mk (Kd.R_below (tR HO_335001.out) hb)
        replace HO_346000 := Aside0.mk (Kd.R_below (tR HO_346000.out) hb)
        replace HO_346001 := Aside0.mk (Kd.R_below (tR HO_346001.out) hb)
        replace HO349 := Aside0.mk (Kd.R_below (tR HO349.out) hb)
        replace HO352 := Aside0.mk (Kd.R_below (tR HO352.out) hb)
        replace BK309 := bkB BK309 hb
        replace BK327 := bkB BK327 hb
        replace BK334 := bkB BK334 hb
        replace BK345 := bkB BK345 hb
        replace HB := Aside0.mk (below_step (tB HB.out) hb)
        (try clear hb)
        (try clear hb2)
        (try clear hk)
        (try clear hi)
        refine hK.out _ _ ⟨(blk_cell BK334.out 0).trans rfl, (blk_cell BK334.out 1).trans rfl, (blk_cell BK309.out 0).trans rfl, (blk_cell BK309.out 1).trans rfl⟩ (fun hHeld => ?_)
        clear hK K
        refine norm_ (a' := ?_) ?_ ?_
        rotate_left
        ·
         show Act.put _ (some 55) _ = _
         simp only [Act.put, List.setIfInBounds_toArray, List.set_cons_zero, List.set_cons_succ, i64_w, i32_w]
         rfl
        refine pure_ (i := 4) (N := some 56) (v := ?_) (a' := ?_) #[true, true, true, true, true] rfl rfl (by kernel_rfl) (fun _ _ _ h => h) (Or.inl ⟨by rfl, ?_⟩) ?_ ?_
        rotate_left
        ·
         intro w'
         go_simp
         with_reducible rfl
        rotate_left
        ·
         simp only [Act.put, List.setIfInBounds_toArray, List.set_cons_zero, List.set_cons_succ, i64_w, i32_w]
         rfl
        refine done_ (by kernel_rfl) ?_
        try go_wp2_with (first | ((with_reducible refine gate_callee (f := 45) rfl ?_); refine goesL_ (some 59) rfl rfl Try.func45 (by kernel_rfl) rfl #[.slice A1 l1.length c1] rfl tM ?_; (with_reducible refine (laws_toIntS.calls kj15 _ _ l1 t354 _ ?side1 ?side2 A73.out).mono ?_); (case side1 => exact tC (Kd.C_below HR1.out HB.out)); (case side2 => exact HC1.out); rintro e w207 ⟨v355, rfl, ho0, hb⟩; refine ⟨_, rfl, ?_⟩; replace HO_328000 := Aside0.mk (Kd.R_below (tR HO_328000.out) hb); replace HO_328001 := Aside0.mk (Kd.R_below (tR HO_328001.out) hb); replace HO_335000 := Aside0.mk (Kd.R_below (tR HO_335000.out) hb); replace HO_335001 := Aside0.mk (Kd.R_below (tR HO_335001.out) hb); replace HO_346000 := Aside0.mk (Kd.R_below (tR HO_346000.out) hb); replace HO_346001 := Aside0.mk (Kd.R_below (tR HO_346001.out) hb); replace HO349 := Aside0.mk (Kd.R_below (tR HO349.out) hb); replace HO352 := Aside0.mk (Kd.R_below (tR HO352.out) hb); have HO356 := Aside0.mk (Kd.R_lower (Kd.R_new' ho0 (Kd.R_lt (tR HO_9.out))) (below_size (tB HB.out))); replace HO_9 := Aside0.mk (Kd.R_elder' (tR HO_9.out) (Kd.R_base ho0) hb); replace BK309 := bkB BK309 hb; replace BK327 := bkB BK327 hb; replace BK334 := bkB BK334 hb; replace BK345 := bkB BK345 hb; replace HB := Aside0.mk (below_step (tB HB.out) hb); (try clear hb); (try clear hb2); (try clear hk); (try clear hi); (try clear ho0); obtain ⟨Ao208, co208, eo208⟩ := Kd.R_slice HO356.out; subst eo208) | ((with_reducible refine gate_callee (f := 28) rfl ?_); refine goesL_ (some 60) rfl rfl Try.func28 (by kernel_rfl) rfl #[.slice Ao42 t335.length co42, .slice Ao208 t354.length co208] rfl tM ?_; (with_reducible refine (laws_eqIntS.calls kj15 _ _ t335 _ _ t354 false _ ?side1 ?side2 ?side3 ?side4 A74.out).mono ?_); (case side1 => exact tC (Kd.R_reads' HO_9.out).2.2); (case side2 => exact (Kd.R_reads' HO_9.out).2.1); (case side3 => exact tC (Kd.R_reads' HO356.out).2.2); (case side4 => exact (Kd.R_reads' HO356.out).2.1); rintro e w' ⟨rfl, ⟨nd, rfl⟩⟩; refine ⟨_, rfl, ?_⟩))
        go_ret
        exact ⟨by first | rfl | (simp [errW_none, errW_some] <;> rfl) | (simp [*, errW_none, errW_some] <;> rfl), tB HB.out⟩
      ·
       replace c72 := Bool.eq_false_iff.mpr c72
       subst c72
       have H1 : (some false) = some r := by rw [if_neg (show ¬ (false = true) by decide)] at H; exact H
       clear H
       have H := H1
       clear H1
       obtain rfl := Option.some.inj H
       try go_wp2
       replace HO_9 := Aside0.mk (Kd.R_drew HO_9.out)
       replace HO_328000 := Aside0.mk (Kd.R_drew HO_328000.out)
       replace HO_328001 := Aside0.mk (Kd.R_drew HO_328001.out)
       replace HO_335000 := Aside0.mk (Kd.R_drew HO_335000.out)
       replace HO_335001 := Aside0.mk (Kd.R_drew HO_335001.out)
       replace HO_346000 := Aside0.mk (Kd.R_drew HO_346000.out)
       replace HO_346001 := Aside0.mk (Kd.R_drew HO_346001.out)
       replace BK309 := Aside0.mk (blk_drew BK309.out)
       replace BK327 := Aside0.mk (blk_drew BK327.out)
       replace BK334 := Aside0.mk (blk_drew BK334.out)
       replace BK345 := Aside0.mk (blk_drew BK345.out)
       replace HB := Aside0.mk (below_drew1 HB.out)
       refine start_ (n := 5) (S := fun w' => w'.cell? ⟨gb334, 0, none⟩ = some (.slice Ao35 t328.length co35) ∧ w'.cell? ⟨gb334, 1, none⟩ = some (.slice Ao39 t331.length co39) ∧ w'.cell? ⟨gb309, 0, none⟩ = some (.slice A0_0 l0_0.length c0_0) ∧ w'.cell? ⟨gb309, 1, none⟩ = some (.slice A0_1 l0_1.length c0_1)) (ds := []) #[false, false, false, false, false] (by kernel_rfl) rfl rfl ⟨(blk_cell BK334.out 0).trans rfl, (blk_cell BK334.out 1).trans rfl, (blk_cell BK309.out 0).trans rfl, (blk_cell BK309.out 1).trans rfl⟩ (fun hHeld => ?_)
       generalize wc.drew = w209 at HO_9 HO_328000 HO_328001 HO_335000 HO_335001 HO_346000 HO_346001 BK309 BK327 BK334 BK345 HB hHeld ⊢
       refine take_ (i := 0) (N := some 52) (v := ?_) (a' := ?_) #[true, false, false, false, false] rfl rfl (by kernel_rfl) (fun _ _ _ h => h) (Or.inl ⟨by rfl, ?_⟩) hHeld ?_ ?_
       rotate_left
       ·
        rintro w' ⟨s0, s1, s2, s3⟩
        go_simp
        with_reducible rfl
       rotate_left
       ·
        simp only [Act.put, List.setIfInBounds_toArray, List.set_cons_zero, List.set_cons_succ, i64_w, i32_w]
        rfl
       refine take_ (i := 1) (N := some 53) (v := ?_) (a' := ?_) #[true, true, false, false, false] rfl rfl (by kernel_rfl) (fun _ _ _ h => h) (Or.inl ⟨by rfl, ?_⟩) hHeld ?_ ?_
       rotate_left
       ·
        rintro w' ⟨s0, s1, s2, s3⟩
        go_simp
        with_reducible rfl
       rotate_left
       ·
        simp only [Act.put, List.setIfInBounds_toArray, List.set_cons_zero, List.set_cons_succ, i64_w, i32_w]
        rfl
       refine one_ (i := 2) (N := some 54) #[true, true, true, false, false] rfl rfl (by kernel_rfl) (by decide) (fun K hK => ?_)
       refine goes_ Try.func17 (by kernel_rfl) rfl #[.agg #[.slice A0_0 l0_0.length c0_0, .slice A0_1 l0_1.length c0_1]] (by rfl) rfl rfl tM ?_
       with_reducible refine (laws_toMobile.calls kj15 _ _ l0_0 _ _ l0_1 t347 t350 _ ?side1 ?side2 ?side3 ?side4 A70.out).mono ?_
       (case side1 => exact tC (Kd.C_below HR0_0.out HB.out))
       (case side2 => exact HC0_0.out)
       (case side3 => exact tC (Kd.C_below HR0_1.out HB.out))
       (case side4 => exact HC0_1.out)
       rintro e w210 ⟨v348, v351, rfl, ho0, ho1, hb⟩
       refine ⟨_, rfl, ?_⟩
       replace HO_9 := Aside0.mk (Kd.R_below (tR HO_9.out) hb)
       have HO349 := Aside0.mk (Kd.R_lower (Kd.R_new' (Kd.R_new' (Kd.R_new' (Kd.R_new' (Kd.R_new' (Kd.R_new' ho0 (Kd.R_lt (tR HO_328000.out))) (Kd.R_lt (tR HO_328001.out))) (Kd.R_lt (tR HO_335000.out))) (Kd.R_lt (tR HO_335001.out))) (Kd.R_lt (tR HO_346000.out))) (Kd.R_lt (tR HO_346001.out))) (below_size (tB HB.out)))
       have HO352 := Aside0.mk (Kd.R_lower (Kd.R_new' (Kd.R_new' (Kd.R_new' (Kd.R_new' (Kd.R_new' (Kd.R_new' ho1 (Kd.R_lt (tR HO_328000.out))) (Kd.R_lt (tR HO_328001.out))) (Kd.R_lt (tR HO_335000.out))) (Kd.R_lt (tR HO_335001.out))) (Kd.R_lt (tR HO_346000.out))) (Kd.R_lt (tR HO_346001.out))) (below_size (tB HB.out)))
       replace HO_328000 := Aside0.mk (Kd.R_mono (Kd.R_told (Kd.R_told (Kd.R_old (tR HO_328000.out) hb) (Kd.R_base ho0)) (Kd.R_base ho1)) (fun _ h_ => h_.1))
       replace HO_328001 := Aside0.mk (Kd.R_mono (Kd.R_told (Kd.R_told (Kd.R_old (tR HO_328001.out) hb) (Kd.R_base ho0)) (Kd.R_base ho1)) (fun _ h_ => h_.1))
       replace HO_335000 := Aside0.mk (Kd.R_mono (Kd.R_told (Kd.R_told (Kd.R_old (tR HO_335000.out) hb) (Kd.R_base ho0)) (Kd.R_base ho1)) (fun _ h_ => h_.1))
       replace HO_335001 := Aside0.mk (Kd.R_mono (Kd.R_told (Kd.R_told (Kd.R_old (tR HO_335001.out) hb) (Kd.R_base ho0)) (Kd.R_base ho1)) (fun _ h_ => h_.1))
       replace HO_346000 := Aside0.mk (Kd.R_mono (Kd.R_told (Kd.R_told (Kd.R_old (tR HO_346000.out) hb) (Kd.R_base ho0)) (Kd.R_base ho1)) (fun _ h_ => h_.1))
       replace HO_346001 := Aside0.mk (Kd.R_mono (Kd.R_told (Kd.R_told (Kd.R_old (tR HO_346001.out) hb) (Kd.R_base ho0)) (Kd.R_base ho1)) (fun _ h_ => h_.1))
       replace BK309 := bkB BK309 hb
       replace BK327 := bkB BK327 hb
       replace BK334 := bkB BK334 hb
       replace BK345 := bkB BK345 hb
       replace HB := Aside0.mk (below_step (tB HB.out) hb)
       (try clear hb)
       (try clear hb2)
       (try clear hk)
       (try clear hi)
       (try clear ho0)
       (try clear ho1)
       obtain ⟨Ao211, co211, eo211⟩ := Kd.R_slice HO349.out
       (first | subst eo211 | (injection eo211 with f1_ f2_ f3_; have f4_ := f1_.symm; have f5_ := f3_.symm; clear f1_ f2_ f3_; subst f4_; subst f5_))
       obtain ⟨Ao212, co212, eo212⟩ := Kd.R_slice HO352.out
       (first | subst eo212 | (injection eo212 with f1_ f2_ f3_; have f4_ := f1_.symm; have f5_ := f3_.symm; clear f1_ f2_ f3_; subst f4_; subst f5_))
       refine hK.out _ _ ⟨(blk_cell BK334.out 0).trans rfl, (blk_cell BK334.out 1).trans rfl, (blk_cell BK309.out 0).trans rfl, (blk_cell BK309.out 1).trans rfl⟩ (fun hHeld => ?_)
       clear hK K
       refine norm_ (a' := ?_) ?_ ?_
       rotate_left
       ·
        show Act.put _ (some 54) _ = _
        simp only [Act.put, List.setIfInBounds_toArray, List.set_cons_zero, List.set_cons_succ, i64_w, i32_w]
        rfl
       refine one_ (i := 3) (N := some 55) #[true, true, true, true, false] rfl rfl (by kernel_rfl) (by decide) (fun K hK => ?_)
       refine goes_ Try.func19 (by kernel_rfl) rfl #[.agg #[.slice Ao35 t328.length co35, .slice Ao39 t331.length co39], .agg #[.slice Ao211 t347.length co211, .slice Ao212 t350.length co212]] (by rfl) rfl rfl tM ?_
       with_reducible refine (laws_eqMobile.calls kj15 _ _ t328 _ _ t331 _ _ t347 _ _ t350 false _ ?side1 ?side2 ?side3 ?side4 ?side5 ?side6 ?side7 ?side8 A71.out).mono ?_
       (case side1 => exact tC (Kd.R_reads' HO_335000.out).2.2)
       (case side2 => exact (Kd.R_reads' HO_335000.out).2.1)
       (case side3 => exact tC (Kd.R_reads' HO_335001.out).2.2)
       (case side4 => exact (Kd.R_reads' HO_335001.out).2.1)
       (case side5 => exact tC (Kd.R_reads' HO349.out).2.2)
       (case side6 => exact (Kd.R_reads' HO349.out).2.1)
       (case side7 => exact tC (Kd.R_reads' HO352.out).2.2)
       (case side8 => exact (Kd.R_reads' HO352.out).2.1)
       rintro e w213 ⟨rfl, hb⟩
       refine ⟨_, rfl, ?_⟩
       replace HO_9 := Aside0.mk (Kd.R_below (tR HO_9.out) hb)
       replace HO_328000 := Aside0.mk (Kd.R_below (tR HO_328000.out) hb)
       replace HO_328001 := Aside0.mk (Kd.R_below (tR HO_328001.out) hb)
       replace HO_335000 := Aside0.mk (Kd.R_below (tR HO_335000.out) hb)
       replace HO_335001 := Aside0.mk (Kd.R_below (tR HO_335001.out) hb)
       replace HO_346000 := Aside0.mk (Kd.R_below (tR HO_346000.out) hb)
       replace HO_346001 := Aside0.mk (Kd.R_below (tR HO_346001.out) hb)
       replace HO349 := Aside0.mk (Kd.R_below (tR HO349.out) hb)
       replace HO352 := Aside0.mk (Kd.R_below (tR HO352.out) hb)
       replace BK309 := bkB BK309 hb
       replace BK327 := bkB BK327 hb
       replace BK334 := bkB BK334 hb
       replace BK345 := bkB BK345 hb
       replace HB := Aside0.mk (below_step (tB HB.out) hb)
       (try clear hb)
       (try clear hb2)
       (try clear hk)
       (try clear hi)
       refine hK.out _ _ ⟨(blk_cell BK334.out 0).trans rfl, (blk_cell BK334.out 1).trans rfl, (blk_cell BK309.out 0).trans rfl, (blk_cell BK309.out 1).trans rfl⟩ (fun hHeld => ?_)
       clear hK K
       refine norm_ (a' := ?_) ?_ ?_
       rotate_left
       ·
        show Act.put _ (some 55) _ = _
        simp only [Act.put, List.setIfInBounds_toArray, List.set_cons_zero, List.set_cons_succ, i64_w, i32_w]
        rfl
       refine pure_ (i := 4) (N := some 56) (v := ?_) (a' := ?_) #[true, true, true, true, true] rfl rfl (by kernel_rfl) (fun _ _ _ h => h) (Or.inl ⟨by rfl, ?_⟩) ?_ ?_
       rotate_left
       ·
        intro w'
        go_simp
        with_reducible rfl
       rotate_left
       ·
        simp only [Act.put, List.setIfInBounds_toArray, List.set_cons_zero, List.set_cons_succ, i64_w, i32_w]
        rfl
       refine done_ (by kernel_rfl) ?_
       try go_wp2
       go_ret
       exact ⟨by first | rfl | (simp [errW_none, errW_some] <;> rfl) | (simp [*, errW_none, errW_some] <;> rfl), tB HB.out⟩

end Go.Proofs.Ytbdajkfihbaapaa.PFnExactHangLeaves

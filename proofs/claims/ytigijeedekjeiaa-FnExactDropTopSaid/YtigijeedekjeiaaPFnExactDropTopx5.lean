/- Printed by the program print2.py over the translation: each function as a Lean function, and the proof that the call comes to its answer. -/
import Derived.Test.YtigijeedekjeiaaPFnExactDropTopx0
import Derived.Test.YtigijeedekjeiaaPFnExactDropTopx1
import Derived.Test.YtigijeedekjeiaaPFnExactDropTopx2
import Derived.Test.YtigijeedekjeiaaPFnExactDropTopx3
import Derived.Test.YtigijeedekjeiaaPFnExactDropTopx4
namespace Go.Proofs.Ytigijeedekjeiaa.PFnExactDropTop
open Go.RowKit Go.Proofs.YtigijeedekjeiaaW.PrintWords Go.Proofs.YtigijeedekjeiaaW.PrintLast Go.Proofs.YtigijeedekjeiaaW.PrintMore
attribute [local go_sem] max2_int min2_int max_two min_two max_three min_three max_four min_four   -- for this text's walks alone
set_option linter.unusedVariables false
set_option linter.unusedSimpArgs false

/-! ### laws_FnExactDropTop: function 5 -/
mutual
def laws_FnExactDropTop.j0 : Nat → Bool → Bool → Bool → Int → List Int → List Int → Int → List Int → List Int → Int → List Int → List Int → Int → List Int → List Int → Option (Bool)
 | 0, _, _, _, _, _, _, _, _, _, _, _, _, _, _, _ => none
 | k + 1, x5, x8, x40, x186000, x186001, x186002, x203000, x203001, x203002, x211000, x211001, x211002, x220000, x220001, x220002 => if x40 = true then (some false) else ((laws_toPile.f k x186000 x186001 x186002).bind fun bt221 => ((laws_eqPile.f k x211000 x211001 x211002 bt221.1 bt221.2.1 bt221.2.2).bind fun t228 => (if t228 = true then ((laws_markPile.f k x211000 x211001 x211002 1).bind fun bt229 => (if bt229.1 < 0 then (laws_FnExactDropTop.j1 k x5 true x186000 x186001 x186002 x203000 x203001 x203002 x220000 x220001 x220002) else ((laws_eqPile.f k x220000 x220001 x220002 x203000 x203001 x203002).bind fun t232 => (if t232 = true then (laws_FnExactDropTop.j1 k x5 (x8 != x5) x186000 x186001 x186002 x203000 x203001 x203002 x220000 x220001 x220002) else (laws_FnExactDropTop.j1 k x5 true x186000 x186001 x186002 x203000 x203001 x203002 x220000 x220001 x220002))))) else (some false))))
def laws_FnExactDropTop.j1 : Nat → Bool → Bool → Int → List Int → List Int → Int → List Int → List Int → Int → List Int → List Int → Option (Bool)
 | 0, _, _, _, _, _, _, _, _, _, _, _ => none
 | k + 1, x5, x61, x186000, x186001, x186002, x203000, x203001, x203002, x220000, x220001, x220002 => if x61 = true then (some false) else ((laws_markPile.f k x220000 x220001 x220002 1).bind fun bt233 => ((laws_heldPile.f k x220000 bt233.2.1 bt233.2.2 1).bind fun t236 => (if t236 < 0 then (some false) else (if t236 = bt233.1 then ((laws_toPile.f k x186000 x186001 x186002).bind fun bt237 => ((impl_DropTop.f k bt237.1 bt237.2.1 bt237.2.2).bind fun bt244 => ((laws_eqPile.f k bt244.1 bt244.2.1 bt244.2.2.1 x203000 x203001 x203002).bind fun t253 => (if t253 = true then (laws_FnExactDropTop.j2 k bt233.1 (bt244.2.2.2 != x5) x220000 bt233.2.1 bt233.2.2) else (laws_FnExactDropTop.j2 k bt233.1 true x220000 bt233.2.1 bt233.2.2))))) else (some false)))))
def laws_FnExactDropTop.j2 : Nat → Int → Bool → Int → List Int → List Int → Option (Bool)
 | 0, _, _, _, _, _ => none
 | k + 1, x10, x87, x220000, x220001, x220002 => if x87 = true then (some false) else ((laws_heldPile.f k x220000 x220001 x220002 1).bind fun t254 => (if t254 < 0 then (some false) else (if t254 = x10 then (some true) else (some false))))
end
def laws_FnExactDropTop.f (k : Nat) (a0_0 : Int) (l0_1 : List Int) (l0_2 : List Int) : Option (Bool) := (laws_szPile.f a0_0 l0_1 l0_2 1048576).bind fun t186 => (if t186 < 0 then (some true) else ((laws_toPile.f k a0_0 l0_1 l0_2).bind fun bt187 => ((spec_DropTop.f k bt187.1 bt187.2.1 bt187.2.2).bind fun bt194 => ((laws_toPile.f k a0_0 l0_1 l0_2).bind fun bt203 => ((impl_DropTop.f k bt203.1 bt203.2.1 bt203.2.2).bind fun bt211 => ((laws_eqPile.f k bt211.1 bt211.2.1 bt211.2.2.1 bt194.1 bt194.2.1 bt194.2.2.1).bind fun t220 => (if t220 = true then (laws_FnExactDropTop.j0 k bt194.2.2.2 bt211.2.2.2 (bt211.2.2.2 != bt194.2.2.2) a0_0 l0_1 l0_2 bt194.1 bt194.2.1 bt194.2.2.1 bt203.1 bt203.2.1 bt203.2.2 bt211.1 bt211.2.1 bt211.2.2.1) else (laws_FnExactDropTop.j0 k bt194.2.2.2 bt211.2.2.2 true a0_0 l0_1 l0_2 bt194.1 bt194.2.1 bt194.2.2.1 bt203.1 bt203.2.1 bt203.2.2 bt211.1 bt211.2.1 bt211.2.2.1))))))))
theorem laws_FnExactDropTop.mono_l : ∀ k, (∀ y0 y1 y2 y3 y4 y5 y6 y7 y8 y9 y10 y11 y12 y13 y14, LeO (laws_FnExactDropTop.j0 k y0 y1 y2 y3 y4 y5 y6 y7 y8 y9 y10 y11 y12 y13 y14) (laws_FnExactDropTop.j0 (k + 1) y0 y1 y2 y3 y4 y5 y6 y7 y8 y9 y10 y11 y12 y13 y14)) ∧ (∀ y0 y1 y2 y3 y4 y5 y6 y7 y8 y9 y10, LeO (laws_FnExactDropTop.j1 k y0 y1 y2 y3 y4 y5 y6 y7 y8 y9 y10) (laws_FnExactDropTop.j1 (k + 1) y0 y1 y2 y3 y4 y5 y6 y7 y8 y9 y10)) ∧ (∀ y0 y1 y2 y3 y4, LeO (laws_FnExactDropTop.j2 k y0 y1 y2 y3 y4) (laws_FnExactDropTop.j2 (k + 1) y0 y1 y2 y3 y4))
 | 0 => ⟨fun _ _ _ _ _ _ _ _ _ _ _ _ _ _ _ r h => by simp [laws_FnExactDropTop.j0] at h, fun _ _ _ _ _ _ _ _ _ _ _ r h => by simp [laws_FnExactDropTop.j1] at h, fun _ _ _ _ _ r h => by simp [laws_FnExactDropTop.j2] at h⟩
 | k + 1 => by
  obtain ⟨ih0, ih1, ih2⟩ := laws_FnExactDropTop.mono_l k
  refine ⟨?_, ?_, ?_⟩
  ·
   intro y0 y1 y2 y3 y4 y5 y6 y7 y8 y9 y10 y11 y12 y13 y14
   unfold laws_FnExactDropTop.j0
   repeat' first
   | (with_reducible exact ih0 _ _ _ _ _ _ _ _ _ _ _ _ _ _ _)
   | (with_reducible exact ih1 _ _ _ _ _ _ _ _ _ _ _)
   | (with_reducible exact ih2 _ _ _ _ _)
   | (with_reducible exact impl_DropTop.mono _ _ _ _)
   | (with_reducible exact laws_eqPile.mono _ _ _ _ _ _ _)
   | (with_reducible exact laws_heldPile.mono _ _ _ _ _)
   | (with_reducible exact laws_markPile.mono _ _ _ _ _)
   | (with_reducible exact laws_toPile.mono _ _ _ _)
   | (with_reducible exact spec_DropTop.mono _ _ _ _)
   | (with_reducible exact LeO.refl _)
   | (with_reducible exact LeO.none _)
   | (with_reducible refine LeO.ite ?_ ?_)
   | (with_reducible refine LeO.bind ?_ (fun _ => ?_))
   | exact ih0 _ _ _ _ _ _ _ _ _ _ _ _ _ _ _
   | exact ih1 _ _ _ _ _ _ _ _ _ _ _
   | exact ih2 _ _ _ _ _
   | exact impl_DropTop.mono _ _ _ _
   | exact laws_eqPile.mono _ _ _ _ _ _ _
   | exact laws_heldPile.mono _ _ _ _ _
   | exact laws_markPile.mono _ _ _ _ _
   | exact laws_toPile.mono _ _ _ _
   | exact spec_DropTop.mono _ _ _ _
   | exact LeO.none _
   | refine LeO.ite ?_ ?_
   | refine LeO.bind ?_ (fun _ => ?_)
  ·
   intro y0 y1 y2 y3 y4 y5 y6 y7 y8 y9 y10
   unfold laws_FnExactDropTop.j1
   repeat' first
   | (with_reducible exact ih0 _ _ _ _ _ _ _ _ _ _ _ _ _ _ _)
   | (with_reducible exact ih1 _ _ _ _ _ _ _ _ _ _ _)
   | (with_reducible exact ih2 _ _ _ _ _)
   | (with_reducible exact impl_DropTop.mono _ _ _ _)
   | (with_reducible exact laws_eqPile.mono _ _ _ _ _ _ _)
   | (with_reducible exact laws_heldPile.mono _ _ _ _ _)
   | (with_reducible exact laws_markPile.mono _ _ _ _ _)
   | (with_reducible exact laws_toPile.mono _ _ _ _)
   | (with_reducible exact spec_DropTop.mono _ _ _ _)
   | (with_reducible exact LeO.refl _)
   | (with_reducible exact LeO.none _)
   | (with_reducible refine LeO.ite ?_ ?_)
   | (with_reducible refine LeO.bind ?_ (fun _ => ?_))
   | exact ih0 _ _ _ _ _ _ _ _ _ _ _ _ _ _ _
   | exact ih1 _ _ _ _ _ _ _ _ _ _ _
   | exact ih2 _ _ _ _ _
   | exact impl_DropTop.mono _ _ _ _
   | exact laws_eqPile.mono _ _ _ _ _ _ _
   | exact laws_heldPile.mono _ _ _ _ _
   | exact laws_markPile.mono _ _ _ _ _
   | exact laws_toPile.mono _ _ _ _
   | exact spec_DropTop.mono _ _ _ _
   | exact LeO.none _
   | refine LeO.ite ?_ ?_
   | refine LeO.bind ?_ (fun _ => ?_)
  ·
   intro y0 y1 y2 y3 y4
   unfold laws_FnExactDropTop.j2
   repeat' first
   | (with_reducible exact ih0 _ _ _ _ _ _ _ _ _ _ _ _ _ _ _)
   | (with_reducible exact ih1 _ _ _ _ _ _ _ _ _ _ _)
   | (with_reducible exact ih2 _ _ _ _ _)
   | (with_reducible exact impl_DropTop.mono _ _ _ _)
   | (with_reducible exact laws_eqPile.mono _ _ _ _ _ _ _)
   | (with_reducible exact laws_heldPile.mono _ _ _ _ _)
   | (with_reducible exact laws_markPile.mono _ _ _ _ _)
   | (with_reducible exact laws_toPile.mono _ _ _ _)
   | (with_reducible exact spec_DropTop.mono _ _ _ _)
   | (with_reducible exact LeO.refl _)
   | (with_reducible exact LeO.none _)
   | (with_reducible refine LeO.ite ?_ ?_)
   | (with_reducible refine LeO.bind ?_ (fun _ => ?_))
   | exact ih0 _ _ _ _ _ _ _ _ _ _ _ _ _ _ _
   | exact ih1 _ _ _ _ _ _ _ _ _ _ _
   | exact ih2 _ _ _ _ _
   | exact impl_DropTop.mono _ _ _ _
   | exact laws_eqPile.mono _ _ _ _ _ _ _
   | exact laws_heldPile.mono _ _ _ _ _
   | exact laws_markPile.mono _ _ _ _ _
   | exact laws_toPile.mono _ _ _ _
   | exact spec_DropTop.mono _ _ _ _
   | exact LeO.none _
   | refine LeO.ite ?_ ?_
   | refine LeO.bind ?_ (fun _ => ?_)
theorem laws_FnExactDropTop.mono : ∀ a0 a1 a2 k, LeO (laws_FnExactDropTop.f k a0 a1 a2) (laws_FnExactDropTop.f (k + 1) a0 a1 a2) := by
 intro a0 a1 a2 k
 obtain ⟨ih0, ih1, ih2⟩ := laws_FnExactDropTop.mono_l k
 unfold laws_FnExactDropTop.f
 repeat' first
   | (with_reducible exact ih0 _ _ _ _ _ _ _ _ _ _ _ _ _ _ _)
   | (with_reducible exact ih1 _ _ _ _ _ _ _ _ _ _ _)
   | (with_reducible exact ih2 _ _ _ _ _)
   | (with_reducible exact impl_DropTop.mono _ _ _ _)
   | (with_reducible exact laws_eqPile.mono _ _ _ _ _ _ _)
   | (with_reducible exact laws_heldPile.mono _ _ _ _ _)
   | (with_reducible exact laws_markPile.mono _ _ _ _ _)
   | (with_reducible exact laws_toPile.mono _ _ _ _)
   | (with_reducible exact spec_DropTop.mono _ _ _ _)
   | (with_reducible exact LeO.refl _)
   | (with_reducible exact LeO.none _)
   | (with_reducible refine LeO.ite ?_ ?_)
   | (with_reducible refine LeO.bind ?_ (fun _ => ?_))
   | exact ih0 _ _ _ _ _ _ _ _ _ _ _ _ _ _ _
   | exact ih1 _ _ _ _ _ _ _ _ _ _ _
   | exact ih2 _ _ _ _ _
   | exact impl_DropTop.mono _ _ _ _
   | exact laws_eqPile.mono _ _ _ _ _ _ _
   | exact laws_heldPile.mono _ _ _ _ _
   | exact laws_markPile.mono _ _ _ _ _
   | exact laws_toPile.mono _ _ _ _
   | exact spec_DropTop.mono _ _ _ _
   | exact LeO.none _
   | refine LeO.ite ?_ ?_
   | refine LeO.bind ?_ (fun _ => ?_)
set_option maxHeartbeats 8000000 in
set_option maxRecDepth 100000 in
theorem laws_FnExactDropTop.calls (k : Nat) (a0_0 : Int) (A0_1 : Option Addr) (c0_1 : Nat) (l0_1 : List Int) (A0_2 : Option Addr) (c0_2 : Nat) (l0_2 : List Int) (r : Bool) (w : World) (hr0_1 : Kd.C (Kd.int .i64) w A0_1 l0_1.length l0_1) (hc0_1 : l0_1.length ≤ c0_1) (hr0_2 : Kd.C (Kd.int .i64) w A0_2 l0_2.length l0_2) (hc0_2 : l0_2.length ≤ c0_2) (h : laws_FnExactDropTop.f k a0_0 l0_1 l0_2 = some r) :
  Calls Try.prog 5 #[.agg #[.int .i64 a0_0, .slice A0_1 l0_1.length c0_1, .slice A0_2 l0_2.length c0_2]] w fun e w' => e = .returned (.bool r) ∧ Below w.heap.size w w' := by
 have hu24 := Try.underlying24
 have hu28 := Try.underlying28
 have HR0_1 := Aside0.mk hr0_1
 have HC0_1 := Aside0.mk hc0_1
 clear hr0_1 hc0_1
 have HR0_2 := Aside0.mk hr0_2
 have HC0_2 := Aside0.mk hc0_2
 clear hr0_2 hc0_2
 have HB := Aside0.mk (Below.refl w.heap.size w)
 have H : ((laws_szPile.f a0_0 l0_1 l0_2 1048576).bind fun t186 => (if t186 < 0 then (some true) else ((laws_toPile.f k a0_0 l0_1 l0_2).bind fun bt187 => ((spec_DropTop.f k bt187.1 bt187.2.1 bt187.2.2).bind fun bt194 => ((laws_toPile.f k a0_0 l0_1 l0_2).bind fun bt203 => ((impl_DropTop.f k bt203.1 bt203.2.1 bt203.2.2).bind fun bt211 => ((laws_eqPile.f k bt211.1 bt211.2.1 bt211.2.2.1 bt194.1 bt194.2.1 bt194.2.2.1).bind fun t220 => (if t220 = true then (laws_FnExactDropTop.j0 k bt194.2.2.2 bt211.2.2.2 (bt211.2.2.2 != bt194.2.2.2) a0_0 l0_1 l0_2 bt194.1 bt194.2.1 bt194.2.2.1 bt203.1 bt203.2.1 bt203.2.2 bt211.1 bt211.2.1 bt211.2.2.1) else (laws_FnExactDropTop.j0 k bt194.2.2.2 bt211.2.2.2 true a0_0 l0_1 l0_2 bt194.1 bt194.2.1 bt194.2.2.1 bt203.1 bt203.2.1 bt203.2.2 bt211.1 bt211.2.1 bt211.2.2.1))))))))) = some r := h
 clear h
 replace H := Option.bind_eq_some_iff.mp H
 obtain ⟨t186, A20, H⟩ := H
 replace H : (if t186 < 0 then (some true) else ((laws_toPile.f k a0_0 l0_1 l0_2).bind fun bt187 => ((spec_DropTop.f k bt187.1 bt187.2.1 bt187.2.2).bind fun bt194 => ((laws_toPile.f k a0_0 l0_1 l0_2).bind fun bt203 => ((impl_DropTop.f k bt203.1 bt203.2.1 bt203.2.2).bind fun bt211 => ((laws_eqPile.f k bt211.1 bt211.2.1 bt211.2.2.1 bt194.1 bt194.2.1 bt194.2.2.1).bind fun t220 => (if t220 = true then (laws_FnExactDropTop.j0 k bt194.2.2.2 bt211.2.2.2 (bt211.2.2.2 != bt194.2.2.2) a0_0 l0_1 l0_2 bt194.1 bt194.2.1 bt194.2.2.1 bt203.1 bt203.2.1 bt203.2.2 bt211.1 bt211.2.1 bt211.2.2.1) else (laws_FnExactDropTop.j0 k bt194.2.2.2 bt211.2.2.2 true a0_0 l0_1 l0_2 bt194.1 bt194.2.1 bt194.2.2.1 bt203.1 bt203.2.1 bt203.2.2 bt211.1 bt211.2.1 bt211.2.2.1)))))))) = some r := H
 have A2 := Aside0.mk A20
 clear A20
 by_cases c3 : t186 < 0
 ·
  rw [if_pos c3] at H
  have c3b0 : decide (t186 < 0) = true := decide_eq_true c3
  clear c3
  obtain rfl := Option.some.inj H
  go_enter Try.func5, Try.ntmps5
  go_wp2_with (first | ((with_reducible refine gate_dst (N := 1) rfl ?_); refine box_event ?hg (N := 1) ?hd (cs := #[.int .i64 a0_0, .slice A0_1 l0_1.length c0_1, .slice A0_2 l0_2.length c0_2]) (t := 24) ?hr ?_; (case hd => rfl); (case hg => rfl); (case hr => first | (go_simp; done) | (go_simp; rfl)); intro gb185 hg w4 hbox hb; have BK185 := Aside0.mk (hbox); have GW185 := Aside0.mk (bS HB.out hg); have GE185 := Aside0.mk (bS HB.out hg); replace HB := Aside0.mk (below_step (tB HB.out) hb); clear hb hbox hg; obtain ⟨hcz5_0, hfz5_0, hcz5_1, hfz5_1, hcz5_2, hfz5_2⟩ := cz3 BK185) | ((with_reducible refine gate_callee (f := 15) rfl ?_); refine goesL_ (some 16) rfl rfl Try.func15 (by kernel_rfl) rfl #[.agg #[.int .i64 a0_0, .slice A0_1 l0_1.length c0_1, .slice A0_2 l0_2.length c0_2], .int .i64 1048576] rfl tM ?_; (with_reducible refine (laws_szPile.calls a0_0 _ _ l0_1 _ _ l0_2 1048576 t186 _ ?side1 ?side2 ?side3 ?side4 A2.out).mono ?_); (case side1 => exact tC (Kd.C_below HR0_1.out HB.out)); (case side2 => exact HC0_1.out); (case side3 => exact tC (Kd.C_below HR0_2.out HB.out)); (case side4 => exact HC0_2.out); rintro e w6 ⟨rfl, hb⟩; refine ⟨_, rfl, ?_⟩; replace BK185 := bkB BK185 hb; replace HB := Aside0.mk (below_step (tB HB.out) hb); (try clear hb); (try clear hb2); (try clear hk); (try clear hi)))
  go_ret
  exact ⟨by first | rfl | (simp [errW_none, errW_some] <;> rfl) | (simp [*, errW_none, errW_some] <;> rfl), tB HB.out⟩
 ·
  rw [if_neg c3] at H
  have c3b0 : decide (t186 < 0) = false := decide_eq_false c3
  clear c3
  replace H := Option.bind_eq_some_iff.mp H
  obtain ⟨⟨t187, t188, t191⟩, A70, H⟩ := H
  replace H : ((spec_DropTop.f k t187 t188 t191).bind fun bt194 => ((laws_toPile.f k a0_0 l0_1 l0_2).bind fun bt203 => ((impl_DropTop.f k bt203.1 bt203.2.1 bt203.2.2).bind fun bt211 => ((laws_eqPile.f k bt211.1 bt211.2.1 bt211.2.2.1 bt194.1 bt194.2.1 bt194.2.2.1).bind fun t220 => (if t220 = true then (laws_FnExactDropTop.j0 k bt194.2.2.2 bt211.2.2.2 (bt211.2.2.2 != bt194.2.2.2) a0_0 l0_1 l0_2 bt194.1 bt194.2.1 bt194.2.2.1 bt203.1 bt203.2.1 bt203.2.2 bt211.1 bt211.2.1 bt211.2.2.1) else (laws_FnExactDropTop.j0 k bt194.2.2.2 bt211.2.2.2 true a0_0 l0_1 l0_2 bt194.1 bt194.2.1 bt194.2.2.1 bt203.1 bt203.2.1 bt203.2.2 bt211.1 bt211.2.1 bt211.2.2.1)))))) = some r := H
  have A7 := Aside0.mk A70
  clear A70
  replace H := Option.bind_eq_some_iff.mp H
  obtain ⟨⟨t194, t195, t198, t201⟩, A80, H⟩ := H
  replace H : ((laws_toPile.f k a0_0 l0_1 l0_2).bind fun bt203 => ((impl_DropTop.f k bt203.1 bt203.2.1 bt203.2.2).bind fun bt211 => ((laws_eqPile.f k bt211.1 bt211.2.1 bt211.2.2.1 t194 t195 t198).bind fun t220 => (if t220 = true then (laws_FnExactDropTop.j0 k t201 bt211.2.2.2 (bt211.2.2.2 != t201) a0_0 l0_1 l0_2 t194 t195 t198 bt203.1 bt203.2.1 bt203.2.2 bt211.1 bt211.2.1 bt211.2.2.1) else (laws_FnExactDropTop.j0 k t201 bt211.2.2.2 true a0_0 l0_1 l0_2 t194 t195 t198 bt203.1 bt203.2.1 bt203.2.2 bt211.1 bt211.2.1 bt211.2.2.1))))) = some r := H
  have A8 := Aside0.mk A80
  clear A80
  replace H := Option.bind_eq_some_iff.mp H
  obtain ⟨⟨t203, t204, t207⟩, A90, H⟩ := H
  replace H : ((impl_DropTop.f k t203 t204 t207).bind fun bt211 => ((laws_eqPile.f k bt211.1 bt211.2.1 bt211.2.2.1 t194 t195 t198).bind fun t220 => (if t220 = true then (laws_FnExactDropTop.j0 k t201 bt211.2.2.2 (bt211.2.2.2 != t201) a0_0 l0_1 l0_2 t194 t195 t198 t203 t204 t207 bt211.1 bt211.2.1 bt211.2.2.1) else (laws_FnExactDropTop.j0 k t201 bt211.2.2.2 true a0_0 l0_1 l0_2 t194 t195 t198 t203 t204 t207 bt211.1 bt211.2.1 bt211.2.2.1)))) = some r := H
  have A9 := Aside0.mk A90
  clear A90
  replace H := Option.bind_eq_some_iff.mp H
  obtain ⟨⟨t211, t212, t215, t218⟩, A100, H⟩ := H
  replace H : ((laws_eqPile.f k t211 t212 t215 t194 t195 t198).bind fun t220 => (if t220 = true then (laws_FnExactDropTop.j0 k t201 t218 (t218 != t201) a0_0 l0_1 l0_2 t194 t195 t198 t203 t204 t207 t211 t212 t215) else (laws_FnExactDropTop.j0 k t201 t218 true a0_0 l0_1 l0_2 t194 t195 t198 t203 t204 t207 t211 t212 t215))) = some r := H
  have A10 := Aside0.mk A100
  clear A100
  have HC11 := Aside0.mk H
  clear H
  go_enter Try.func5, Try.ntmps5
  go_upto_region 8 with (first | ((with_reducible refine gate_dst (N := 1) rfl ?_); refine box_event ?hg (N := 1) ?hd (cs := #[.int .i64 a0_0, .slice A0_1 l0_1.length c0_1, .slice A0_2 l0_2.length c0_2]) (t := 24) ?hr ?_; (case hd => rfl); (case hg => rfl); (case hr => first | (go_simp; done) | (go_simp; rfl)); intro gb185 hg w12 hbox hb; have BK185 := Aside0.mk (hbox); have GW185 := Aside0.mk (bS HB.out hg); have GE185 := Aside0.mk (bS HB.out hg); replace HB := Aside0.mk (below_step (tB HB.out) hb); clear hb hbox hg; obtain ⟨hcz13_0, hfz13_0, hcz13_1, hfz13_1, hcz13_2, hfz13_2⟩ := cz3 BK185) | ((with_reducible refine gate_callee (f := 15) rfl ?_); refine goesL_ (some 16) rfl rfl Try.func15 (by kernel_rfl) rfl #[.agg #[.int .i64 a0_0, .slice A0_1 l0_1.length c0_1, .slice A0_2 l0_2.length c0_2], .int .i64 1048576] rfl tM ?_; (with_reducible refine (laws_szPile.calls a0_0 _ _ l0_1 _ _ l0_2 1048576 t186 _ ?side1 ?side2 ?side3 ?side4 A2.out).mono ?_); (case side1 => exact tC (Kd.C_below HR0_1.out HB.out)); (case side2 => exact HC0_1.out); (case side3 => exact tC (Kd.C_below HR0_2.out HB.out)); (case side4 => exact HC0_2.out); rintro e w14 ⟨rfl, hb⟩; refine ⟨_, rfl, ?_⟩; replace BK185 := bkB BK185 hb; replace HB := Aside0.mk (below_step (tB HB.out) hb); (try clear hb); (try clear hb2); (try clear hk); (try clear hi); obtain ⟨hcz15_0, hfz15_0, hcz15_1, hfz15_1, hcz15_2, hfz15_2⟩ := cz3 BK185) | ((with_reducible refine gate_callee (f := 17) rfl ?_); refine goesL_ (some 21) rfl rfl Try.func17 (by kernel_rfl) rfl #[.agg #[.int .i64 a0_0, .slice A0_1 l0_1.length c0_1, .slice A0_2 l0_2.length c0_2]] rfl tM ?_; (with_reducible refine (laws_toPile.calls k a0_0 _ _ l0_1 _ _ l0_2 t187 t188 t191 _ ?side1 ?side2 ?side3 ?side4 A7.out).mono ?_); (case side1 => exact tC (Kd.C_below HR0_1.out HB.out)); (case side2 => exact HC0_1.out); (case side3 => exact tC (Kd.C_below HR0_2.out HB.out)); (case side4 => exact HC0_2.out); rintro e w16 ⟨v189, v192, rfl, ho0, ho1, hb⟩; refine ⟨_, rfl, ?_⟩; have HO190 := Aside0.mk (Kd.R_lower ho0 (below_size (tB HB.out))); have HO193 := Aside0.mk (Kd.R_lower ho1 (below_size (tB HB.out))); replace BK185 := bkB BK185 hb; replace HB := Aside0.mk (below_step (tB HB.out) hb); (try clear hb); (try clear hb2); (try clear hk); (try clear hi); (try clear ho0); (try clear ho1); obtain ⟨Ao17, co17, eo17⟩ := Kd.R_slice HO190.out; subst eo17; obtain ⟨Ao18, co18, eo18⟩ := Kd.R_slice HO193.out; subst eo18) | ((with_reducible refine gate_callee (f := 22) rfl ?_); refine goesL_ (some 22) rfl rfl Try.func22 (by kernel_rfl) rfl #[.agg #[.int .i64 t187, .slice Ao17 t188.length co17, .slice Ao18 t191.length co18]] rfl tM ?_; (with_reducible refine (spec_DropTop.calls k t187 _ _ t188 _ _ t191 t194 t195 t198 t201 _ ?side1 ?side2 ?side3 ?side4 A8.out).mono ?_); (case side1 => exact tC (Kd.R_reads' HO190.out).2.2); (case side2 => exact (Kd.R_reads' HO190.out).2.1); (case side3 => exact tC (Kd.R_reads' HO193.out).2.2); (case side4 => exact (Kd.R_reads' HO193.out).2.1); rintro e w19 ⟨v196, v199, rfl, ho0, ho1, hb⟩; refine ⟨_, rfl, ?_⟩; have HO197 := Aside0.mk (Kd.R_lower (Kd.R_new' (Kd.R_new' ho0 (Kd.R_lt (tR HO190.out))) (Kd.R_lt (tR HO193.out))) (below_size (tB HB.out))); have HO200 := Aside0.mk (Kd.R_lower (Kd.R_new' (Kd.R_new' ho1 (Kd.R_lt (tR HO190.out))) (Kd.R_lt (tR HO193.out))) (below_size (tB HB.out))); replace HO190 := Aside0.mk (Kd.R_mono (Kd.R_told (Kd.R_told (Kd.R_old (tR HO190.out) hb) (Kd.R_base ho0)) (Kd.R_base ho1)) (fun _ h_ => h_.1)); replace HO193 := Aside0.mk (Kd.R_mono (Kd.R_told (Kd.R_told (Kd.R_old (tR HO193.out) hb) (Kd.R_base ho0)) (Kd.R_base ho1)) (fun _ h_ => h_.1)); replace BK185 := bkB BK185 hb; replace HB := Aside0.mk (below_step (tB HB.out) hb); (try clear hb); (try clear hb2); (try clear hk); (try clear hi); (try clear ho0); (try clear ho1)) | ((with_reducible refine gate_dst (N := 4) rfl ?_); refine box_event ?hg (N := 4) ?hd (cs := #[.int .i64 0, .slice none 0 0, .slice none 0 0]) (t := 28) ?hr ?_; (case hd => rfl); (case hg => rfl); (case hr => first | (go_simp; done) | (go_simp; rfl)); intro gb202 hg w20 hbox hb; replace HO190 := Aside0.mk (Kd.R_below (tR HO190.out) hb); replace HO193 := Aside0.mk (Kd.R_below (tR HO193.out) hb); replace HO197 := Aside0.mk (Kd.R_below (tR HO197.out) hb); replace HO200 := Aside0.mk (Kd.R_below (tR HO200.out) hb); have BK202 := Aside0.mk (hbox); have GW202 := Aside0.mk (bS HB.out hg); have GE202 := Aside0.mk (bS HB.out hg); replace HB := Aside0.mk (below_step (tB HB.out) hb); have NB185_202 := Aside0.mk (nL BK185.out hg); have NB202_185 := Aside0.mk (nG BK185.out hg); replace BK185 := bkB BK185 hb; clear hb hbox hg; have hnb21 := NB202_185.out; have hnc21 := NB185_202.out; obtain ⟨hcz22_0, hfz22_0, hcz22_1, hfz22_1, hcz22_2, hfz22_2⟩ := cz3 BK202; obtain ⟨Ao23, co23, eo23⟩ := Kd.R_slice HO197.out; subst eo23; obtain ⟨Ao24, co24, eo24⟩ := Kd.R_slice HO200.out; subst eo24; obtain ⟨hcz25_0, hfz25_0, hcz25_1, hfz25_1, hcz25_2, hfz25_2⟩ := cz3 BK185) | ((with_reducible refine gate_callee (f := 17) rfl ?_); refine goesL_ (some 26) rfl rfl Try.func17 (by kernel_rfl) rfl #[.agg #[.int .i64 a0_0, .slice A0_1 l0_1.length c0_1, .slice A0_2 l0_2.length c0_2]] rfl tM ?_; (with_reducible refine (laws_toPile.calls k a0_0 _ _ l0_1 _ _ l0_2 t203 t204 t207 _ ?side1 ?side2 ?side3 ?side4 A9.out).mono ?_); (case side1 => exact Kd.C_below HR0_1.out (tB HB.out)); (case side2 => exact HC0_1.out); (case side3 => exact Kd.C_below HR0_2.out (tB HB.out)); (case side4 => exact HC0_2.out); rintro e w26 ⟨v205, v208, rfl, ho0, ho1, hb⟩; refine ⟨_, rfl, ?_⟩; have HO206 := Aside0.mk (Kd.R_lower (Kd.R_new' (Kd.R_new' (Kd.R_new' (Kd.R_new' ho0 (Kd.R_lt (by (with_reducible repeat (first | apply Kd.R_alloc | apply Kd.R_drewN | apply Kd.R_drew)); exact (Kd.R_mono (Kd.R_far (p := ⟨gb202, 2, none⟩) (Kd.R_far (p := ⟨gb202, 1, none⟩) (Kd.R_far (p := ⟨gb202, 0, none⟩) (Kd.R_types HO190.out BK202.out (by decide)) (fun _ hk => hk.2) (.int .i64 t194)) (fun _ hk => hk.2) (.slice Ao23 t195.length co23)) (fun _ hk => hk.2) (.slice Ao24 t198.length co24)) (fun _ h_ => h_.1))))) (Kd.R_lt (by (with_reducible repeat (first | apply Kd.R_alloc | apply Kd.R_drewN | apply Kd.R_drew)); exact (Kd.R_mono (Kd.R_far (p := ⟨gb202, 2, none⟩) (Kd.R_far (p := ⟨gb202, 1, none⟩) (Kd.R_far (p := ⟨gb202, 0, none⟩) (Kd.R_types HO193.out BK202.out (by decide)) (fun _ hk => hk.2) (.int .i64 t194)) (fun _ hk => hk.2) (.slice Ao23 t195.length co23)) (fun _ hk => hk.2) (.slice Ao24 t198.length co24)) (fun _ h_ => h_.1))))) (Kd.R_lt (by (with_reducible repeat (first | apply Kd.R_alloc | apply Kd.R_drewN | apply Kd.R_drew)); exact (Kd.R_mono (Kd.R_far (p := ⟨gb202, 2, none⟩) (Kd.R_far (p := ⟨gb202, 1, none⟩) (Kd.R_far (p := ⟨gb202, 0, none⟩) (Kd.R_types HO197.out BK202.out (by decide)) (fun _ hk => hk.2) (.int .i64 t194)) (fun _ hk => hk.2) (.slice Ao23 t195.length co23)) (fun _ hk => hk.2) (.slice Ao24 t198.length co24)) (fun _ h_ => h_.1))))) (Kd.R_lt (by (with_reducible repeat (first | apply Kd.R_alloc | apply Kd.R_drewN | apply Kd.R_drew)); exact (Kd.R_mono (Kd.R_far (p := ⟨gb202, 2, none⟩) (Kd.R_far (p := ⟨gb202, 1, none⟩) (Kd.R_far (p := ⟨gb202, 0, none⟩) (Kd.R_types HO200.out BK202.out (by decide)) (fun _ hk => hk.2) (.int .i64 t194)) (fun _ hk => hk.2) (.slice Ao23 t195.length co23)) (fun _ hk => hk.2) (.slice Ao24 t198.length co24)) (fun _ h_ => h_.1))))) (below_size (tB HB.out))); have HO209 := Aside0.mk (Kd.R_lower (Kd.R_new' (Kd.R_new' (Kd.R_new' (Kd.R_new' ho1 (Kd.R_lt (by (with_reducible repeat (first | apply Kd.R_alloc | apply Kd.R_drewN | apply Kd.R_drew)); exact (Kd.R_mono (Kd.R_far (p := ⟨gb202, 2, none⟩) (Kd.R_far (p := ⟨gb202, 1, none⟩) (Kd.R_far (p := ⟨gb202, 0, none⟩) (Kd.R_types HO190.out BK202.out (by decide)) (fun _ hk => hk.2) (.int .i64 t194)) (fun _ hk => hk.2) (.slice Ao23 t195.length co23)) (fun _ hk => hk.2) (.slice Ao24 t198.length co24)) (fun _ h_ => h_.1))))) (Kd.R_lt (by (with_reducible repeat (first | apply Kd.R_alloc | apply Kd.R_drewN | apply Kd.R_drew)); exact (Kd.R_mono (Kd.R_far (p := ⟨gb202, 2, none⟩) (Kd.R_far (p := ⟨gb202, 1, none⟩) (Kd.R_far (p := ⟨gb202, 0, none⟩) (Kd.R_types HO193.out BK202.out (by decide)) (fun _ hk => hk.2) (.int .i64 t194)) (fun _ hk => hk.2) (.slice Ao23 t195.length co23)) (fun _ hk => hk.2) (.slice Ao24 t198.length co24)) (fun _ h_ => h_.1))))) (Kd.R_lt (by (with_reducible repeat (first | apply Kd.R_alloc | apply Kd.R_drewN | apply Kd.R_drew)); exact (Kd.R_mono (Kd.R_far (p := ⟨gb202, 2, none⟩) (Kd.R_far (p := ⟨gb202, 1, none⟩) (Kd.R_far (p := ⟨gb202, 0, none⟩) (Kd.R_types HO197.out BK202.out (by decide)) (fun _ hk => hk.2) (.int .i64 t194)) (fun _ hk => hk.2) (.slice Ao23 t195.length co23)) (fun _ hk => hk.2) (.slice Ao24 t198.length co24)) (fun _ h_ => h_.1))))) (Kd.R_lt (by (with_reducible repeat (first | apply Kd.R_alloc | apply Kd.R_drewN | apply Kd.R_drew)); exact (Kd.R_mono (Kd.R_far (p := ⟨gb202, 2, none⟩) (Kd.R_far (p := ⟨gb202, 1, none⟩) (Kd.R_far (p := ⟨gb202, 0, none⟩) (Kd.R_types HO200.out BK202.out (by decide)) (fun _ hk => hk.2) (.int .i64 t194)) (fun _ hk => hk.2) (.slice Ao23 t195.length co23)) (fun _ hk => hk.2) (.slice Ao24 t198.length co24)) (fun _ h_ => h_.1))))) (below_size (tB HB.out))); replace HO190 := Aside0.mk (Kd.R_mono (Kd.R_told (Kd.R_told (Kd.R_old (by (with_reducible repeat (first | apply Kd.R_alloc | apply Kd.R_drewN | apply Kd.R_drew)); exact (Kd.R_mono (Kd.R_far (p := ⟨gb202, 2, none⟩) (Kd.R_far (p := ⟨gb202, 1, none⟩) (Kd.R_far (p := ⟨gb202, 0, none⟩) (Kd.R_types HO190.out BK202.out (by decide)) (fun _ hk => hk.2) (.int .i64 t194)) (fun _ hk => hk.2) (.slice Ao23 t195.length co23)) (fun _ hk => hk.2) (.slice Ao24 t198.length co24)) (fun _ h_ => h_.1))) hb) (Kd.R_base ho0)) (Kd.R_base ho1)) (fun _ h_ => h_.1)); replace HO193 := Aside0.mk (Kd.R_mono (Kd.R_told (Kd.R_told (Kd.R_old (by (with_reducible repeat (first | apply Kd.R_alloc | apply Kd.R_drewN | apply Kd.R_drew)); exact (Kd.R_mono (Kd.R_far (p := ⟨gb202, 2, none⟩) (Kd.R_far (p := ⟨gb202, 1, none⟩) (Kd.R_far (p := ⟨gb202, 0, none⟩) (Kd.R_types HO193.out BK202.out (by decide)) (fun _ hk => hk.2) (.int .i64 t194)) (fun _ hk => hk.2) (.slice Ao23 t195.length co23)) (fun _ hk => hk.2) (.slice Ao24 t198.length co24)) (fun _ h_ => h_.1))) hb) (Kd.R_base ho0)) (Kd.R_base ho1)) (fun _ h_ => h_.1)); replace HO197 := Aside0.mk (Kd.R_mono (Kd.R_told (Kd.R_told (Kd.R_old (by (with_reducible repeat (first | apply Kd.R_alloc | apply Kd.R_drewN | apply Kd.R_drew)); exact (Kd.R_mono (Kd.R_far (p := ⟨gb202, 2, none⟩) (Kd.R_far (p := ⟨gb202, 1, none⟩) (Kd.R_far (p := ⟨gb202, 0, none⟩) (Kd.R_types HO197.out BK202.out (by decide)) (fun _ hk => hk.2) (.int .i64 t194)) (fun _ hk => hk.2) (.slice Ao23 t195.length co23)) (fun _ hk => hk.2) (.slice Ao24 t198.length co24)) (fun _ h_ => h_.1))) hb) (Kd.R_base ho0)) (Kd.R_base ho1)) (fun _ h_ => h_.1)); replace HO200 := Aside0.mk (Kd.R_mono (Kd.R_told (Kd.R_told (Kd.R_old (by (with_reducible repeat (first | apply Kd.R_alloc | apply Kd.R_drewN | apply Kd.R_drew)); exact (Kd.R_mono (Kd.R_far (p := ⟨gb202, 2, none⟩) (Kd.R_far (p := ⟨gb202, 1, none⟩) (Kd.R_far (p := ⟨gb202, 0, none⟩) (Kd.R_types HO200.out BK202.out (by decide)) (fun _ hk => hk.2) (.int .i64 t194)) (fun _ hk => hk.2) (.slice Ao23 t195.length co23)) (fun _ hk => hk.2) (.slice Ao24 t198.length co24)) (fun _ h_ => h_.1))) hb) (Kd.R_base ho0)) (Kd.R_base ho1)) (fun _ h_ => h_.1)); replace BK185 := Aside0.mk (blk_below (g := gb185) (o := .cells #[.int .i64 a0_0, .slice A0_1 l0_1.length c0_1, .slice A0_2 l0_2.length c0_2] 24 (0, 0)) (by (with_reducible repeat (first | refine blk_drewN ?_ _ | refine blk_drew ?_ | refine blk_alloc ?_ _)); refine blk_far ?_ NB185_202.out _; (with_reducible repeat (first | refine blk_drewN ?_ _ | refine blk_drew ?_ | refine blk_alloc ?_ _)); refine blk_far ?_ NB185_202.out _; (with_reducible repeat (first | refine blk_drewN ?_ _ | refine blk_drew ?_ | refine blk_alloc ?_ _)); refine blk_far ?_ NB185_202.out _; (with_reducible repeat (first | refine blk_drewN ?_ _ | refine blk_drew ?_ | refine blk_alloc ?_ _)); exact BK185.out) hb); replace BK202 := Aside0.mk (blk_below (g := gb202) (o := .cells #[.int .i64 t194, .slice Ao23 t195.length co23, .slice Ao24 t198.length co24] 28 (0, 0)) (by (with_reducible repeat (first | refine blk_drewN ?_ _ | refine blk_drew ?_ | refine blk_alloc ?_ _)); refine blk_put (cs := #[.int .i64 t194, .slice Ao23 t195.length co23, .slice none 0 0]) ?_ 2 _ rfl; (with_reducible repeat (first | refine blk_drewN ?_ _ | refine blk_drew ?_ | refine blk_alloc ?_ _)); refine blk_put (cs := #[.int .i64 t194, .slice none 0 0, .slice none 0 0]) ?_ 1 _ rfl; (with_reducible repeat (first | refine blk_drewN ?_ _ | refine blk_drew ?_ | refine blk_alloc ?_ _)); refine blk_put (cs := #[.int .i64 0, .slice none 0 0, .slice none 0 0]) ?_ 0 _ rfl; (with_reducible repeat (first | refine blk_drewN ?_ _ | refine blk_drew ?_ | refine blk_alloc ?_ _)); exact BK202.out) hb); replace HB := Aside0.mk (below_step (tB HB.out) hb); (try clear hb); (try clear hb2); (try clear hk); (try clear hi); (try clear ho0); (try clear ho1)) | ((with_reducible refine gate_dst (N := 6) rfl ?_); refine box_event ?hg (N := 6) ?hd (cs := #[.int .i64 0, .slice none 0 0, .slice none 0 0]) (t := 28) ?hr ?_; (case hd => rfl); (case hg => rfl); (case hr => first | (go_simp; done) | (go_simp; rfl)); intro gb210 hg w27 hbox hb; replace HO190 := Aside0.mk (Kd.R_below (tR HO190.out) hb); replace HO193 := Aside0.mk (Kd.R_below (tR HO193.out) hb); replace HO197 := Aside0.mk (Kd.R_below (tR HO197.out) hb); replace HO200 := Aside0.mk (Kd.R_below (tR HO200.out) hb); replace HO206 := Aside0.mk (Kd.R_below (tR HO206.out) hb); replace HO209 := Aside0.mk (Kd.R_below (tR HO209.out) hb); have BK210 := Aside0.mk (hbox); have GW210 := Aside0.mk (bS HB.out hg); have GE210 := Aside0.mk (bS HB.out hg); replace HB := Aside0.mk (below_step (tB HB.out) hb); have NB185_210 := Aside0.mk (nL BK185.out hg); have NB210_185 := Aside0.mk (nG BK185.out hg); replace BK185 := bkB BK185 hb; have NB202_210 := Aside0.mk (nL BK202.out hg); have NB210_202 := Aside0.mk (nG BK202.out hg); replace BK202 := bkB BK202 hb; clear hb hbox hg; have hnb28 := NB210_185.out; have hnc28 := NB185_210.out; have hnb29 := NB210_202.out; have hnc29 := NB202_210.out; obtain ⟨hcz30_0, hfz30_0, hcz30_1, hfz30_1, hcz30_2, hfz30_2⟩ := cz3 BK210; obtain ⟨Ao31, co31, eo31⟩ := Kd.R_slice HO206.out; subst eo31; obtain ⟨Ao32, co32, eo32⟩ := Kd.R_slice HO209.out; subst eo32) | ((with_reducible refine gate_callee (f := 23) rfl ?_); refine goesL_ (some 29) rfl rfl Try.func23 (by kernel_rfl) rfl #[.agg #[.int .i64 t203, .slice Ao31 t204.length co31, .slice Ao32 t207.length co32]] rfl tM ?_; (with_reducible refine (impl_DropTop.calls k t203 _ _ t204 _ _ t207 t211 t212 t215 t218 _ ?side1 ?side2 ?side3 ?side4 A10.out).mono ?_); (case side1 => refine (Kd.R_reads' (e := 3) (base := w.heap.size) (ok := fun k_ => ((((some k_ ≠ (.slice Ao32 t207.length co32 : Value).ownBlock ∧ some k_ ≠ (.slice Ao17 t188.length co17 : Value).ownBlock) ∧ some k_ ≠ (.slice Ao18 t191.length co18 : Value).ownBlock) ∧ some k_ ≠ (.slice Ao23 t195.length co23 : Value).ownBlock) ∧ some k_ ≠ (.slice Ao24 t198.length co24 : Value).ownBlock)) (n := t204.length) (c := co31) ?_).2.2; exact (by (with_reducible repeat (first | apply Kd.R_alloc | apply Kd.R_drewN | apply Kd.R_drew)); exact (Kd.R_mono (Kd.R_far (p := ⟨gb210, 2, none⟩) (Kd.R_far (p := ⟨gb210, 1, none⟩) (Kd.R_far (p := ⟨gb210, 0, none⟩) (Kd.R_types HO206.out BK210.out (by decide)) (fun _ hk => hk.2) (.int .i64 t203)) (fun _ hk => hk.2) (.slice Ao31 t204.length co31)) (fun _ hk => hk.2) (.slice Ao32 t207.length co32)) (fun _ h_ => h_.1)))); (case side2 => exact (Kd.R_reads' HO206.out).2.1); (case side3 => refine (Kd.R_reads' (e := 3) (base := w.heap.size) (ok := fun k_ => ((((some k_ ≠ (.slice Ao31 t204.length co31 : Value).ownBlock ∧ some k_ ≠ (.slice Ao17 t188.length co17 : Value).ownBlock) ∧ some k_ ≠ (.slice Ao18 t191.length co18 : Value).ownBlock) ∧ some k_ ≠ (.slice Ao23 t195.length co23 : Value).ownBlock) ∧ some k_ ≠ (.slice Ao24 t198.length co24 : Value).ownBlock)) (n := t207.length) (c := co32) ?_).2.2; exact (by (with_reducible repeat (first | apply Kd.R_alloc | apply Kd.R_drewN | apply Kd.R_drew)); exact (Kd.R_mono (Kd.R_far (p := ⟨gb210, 2, none⟩) (Kd.R_far (p := ⟨gb210, 1, none⟩) (Kd.R_far (p := ⟨gb210, 0, none⟩) (Kd.R_types HO209.out BK210.out (by decide)) (fun _ hk => hk.2) (.int .i64 t203)) (fun _ hk => hk.2) (.slice Ao31 t204.length co31)) (fun _ hk => hk.2) (.slice Ao32 t207.length co32)) (fun _ h_ => h_.1)))); (case side4 => exact (Kd.R_reads' HO209.out).2.1); rintro e w33 ⟨v213, v216, rfl, ho0, ho1, hb⟩; refine ⟨_, rfl, ?_⟩; have HO214 := Aside0.mk (Kd.R_lower (Kd.R_new' (Kd.R_new' (Kd.R_new' (Kd.R_new' (Kd.R_new' (Kd.R_new' ho0 (Kd.R_lt (by (with_reducible repeat (first | apply Kd.R_alloc | apply Kd.R_drewN | apply Kd.R_drew)); exact (Kd.R_mono (Kd.R_far (p := ⟨gb210, 2, none⟩) (Kd.R_far (p := ⟨gb210, 1, none⟩) (Kd.R_far (p := ⟨gb210, 0, none⟩) (Kd.R_types HO190.out BK210.out (by decide)) (fun _ hk => hk.2) (.int .i64 t203)) (fun _ hk => hk.2) (.slice Ao31 t204.length co31)) (fun _ hk => hk.2) (.slice Ao32 t207.length co32)) (fun _ h_ => h_.1))))) (Kd.R_lt (by (with_reducible repeat (first | apply Kd.R_alloc | apply Kd.R_drewN | apply Kd.R_drew)); exact (Kd.R_mono (Kd.R_far (p := ⟨gb210, 2, none⟩) (Kd.R_far (p := ⟨gb210, 1, none⟩) (Kd.R_far (p := ⟨gb210, 0, none⟩) (Kd.R_types HO193.out BK210.out (by decide)) (fun _ hk => hk.2) (.int .i64 t203)) (fun _ hk => hk.2) (.slice Ao31 t204.length co31)) (fun _ hk => hk.2) (.slice Ao32 t207.length co32)) (fun _ h_ => h_.1))))) (Kd.R_lt (by (with_reducible repeat (first | apply Kd.R_alloc | apply Kd.R_drewN | apply Kd.R_drew)); exact (Kd.R_mono (Kd.R_far (p := ⟨gb210, 2, none⟩) (Kd.R_far (p := ⟨gb210, 1, none⟩) (Kd.R_far (p := ⟨gb210, 0, none⟩) (Kd.R_types HO197.out BK210.out (by decide)) (fun _ hk => hk.2) (.int .i64 t203)) (fun _ hk => hk.2) (.slice Ao31 t204.length co31)) (fun _ hk => hk.2) (.slice Ao32 t207.length co32)) (fun _ h_ => h_.1))))) (Kd.R_lt (by (with_reducible repeat (first | apply Kd.R_alloc | apply Kd.R_drewN | apply Kd.R_drew)); exact (Kd.R_mono (Kd.R_far (p := ⟨gb210, 2, none⟩) (Kd.R_far (p := ⟨gb210, 1, none⟩) (Kd.R_far (p := ⟨gb210, 0, none⟩) (Kd.R_types HO200.out BK210.out (by decide)) (fun _ hk => hk.2) (.int .i64 t203)) (fun _ hk => hk.2) (.slice Ao31 t204.length co31)) (fun _ hk => hk.2) (.slice Ao32 t207.length co32)) (fun _ h_ => h_.1))))) (Kd.R_lt (by (with_reducible repeat (first | apply Kd.R_alloc | apply Kd.R_drewN | apply Kd.R_drew)); exact (Kd.R_mono (Kd.R_far (p := ⟨gb210, 2, none⟩) (Kd.R_far (p := ⟨gb210, 1, none⟩) (Kd.R_far (p := ⟨gb210, 0, none⟩) (Kd.R_types HO206.out BK210.out (by decide)) (fun _ hk => hk.2) (.int .i64 t203)) (fun _ hk => hk.2) (.slice Ao31 t204.length co31)) (fun _ hk => hk.2) (.slice Ao32 t207.length co32)) (fun _ h_ => h_.1))))) (Kd.R_lt (by (with_reducible repeat (first | apply Kd.R_alloc | apply Kd.R_drewN | apply Kd.R_drew)); exact (Kd.R_mono (Kd.R_far (p := ⟨gb210, 2, none⟩) (Kd.R_far (p := ⟨gb210, 1, none⟩) (Kd.R_far (p := ⟨gb210, 0, none⟩) (Kd.R_types HO209.out BK210.out (by decide)) (fun _ hk => hk.2) (.int .i64 t203)) (fun _ hk => hk.2) (.slice Ao31 t204.length co31)) (fun _ hk => hk.2) (.slice Ao32 t207.length co32)) (fun _ h_ => h_.1))))) (below_size (tB HB.out))); have HO217 := Aside0.mk (Kd.R_lower (Kd.R_new' (Kd.R_new' (Kd.R_new' (Kd.R_new' (Kd.R_new' (Kd.R_new' ho1 (Kd.R_lt (by (with_reducible repeat (first | apply Kd.R_alloc | apply Kd.R_drewN | apply Kd.R_drew)); exact (Kd.R_mono (Kd.R_far (p := ⟨gb210, 2, none⟩) (Kd.R_far (p := ⟨gb210, 1, none⟩) (Kd.R_far (p := ⟨gb210, 0, none⟩) (Kd.R_types HO190.out BK210.out (by decide)) (fun _ hk => hk.2) (.int .i64 t203)) (fun _ hk => hk.2) (.slice Ao31 t204.length co31)) (fun _ hk => hk.2) (.slice Ao32 t207.length co32)) (fun _ h_ => h_.1))))) (Kd.R_lt (by (with_reducible repeat (first | apply Kd.R_alloc | apply Kd.R_drewN | apply Kd.R_drew)); exact (Kd.R_mono (Kd.R_far (p := ⟨gb210, 2, none⟩) (Kd.R_far (p := ⟨gb210, 1, none⟩) (Kd.R_far (p := ⟨gb210, 0, none⟩) (Kd.R_types HO193.out BK210.out (by decide)) (fun _ hk => hk.2) (.int .i64 t203)) (fun _ hk => hk.2) (.slice Ao31 t204.length co31)) (fun _ hk => hk.2) (.slice Ao32 t207.length co32)) (fun _ h_ => h_.1))))) (Kd.R_lt (by (with_reducible repeat (first | apply Kd.R_alloc | apply Kd.R_drewN | apply Kd.R_drew)); exact (Kd.R_mono (Kd.R_far (p := ⟨gb210, 2, none⟩) (Kd.R_far (p := ⟨gb210, 1, none⟩) (Kd.R_far (p := ⟨gb210, 0, none⟩) (Kd.R_types HO197.out BK210.out (by decide)) (fun _ hk => hk.2) (.int .i64 t203)) (fun _ hk => hk.2) (.slice Ao31 t204.length co31)) (fun _ hk => hk.2) (.slice Ao32 t207.length co32)) (fun _ h_ => h_.1))))) (Kd.R_lt (by (with_reducible repeat (first | apply Kd.R_alloc | apply Kd.R_drewN | apply Kd.R_drew)); exact (Kd.R_mono (Kd.R_far (p := ⟨gb210, 2, none⟩) (Kd.R_far (p := ⟨gb210, 1, none⟩) (Kd.R_far (p := ⟨gb210, 0, none⟩) (Kd.R_types HO200.out BK210.out (by decide)) (fun _ hk => hk.2) (.int .i64 t203)) (fun _ hk => hk.2) (.slice Ao31 t204.length co31)) (fun _ hk => hk.2) (.slice Ao32 t207.length co32)) (fun _ h_ => h_.1))))) (Kd.R_lt (by (with_reducible repeat (first | apply Kd.R_alloc | apply Kd.R_drewN | apply Kd.R_drew)); exact (Kd.R_mono (Kd.R_far (p := ⟨gb210, 2, none⟩) (Kd.R_far (p := ⟨gb210, 1, none⟩) (Kd.R_far (p := ⟨gb210, 0, none⟩) (Kd.R_types HO206.out BK210.out (by decide)) (fun _ hk => hk.2) (.int .i64 t203)) (fun _ hk => hk.2) (.slice Ao31 t204.length co31)) (fun _ hk => hk.2) (.slice Ao32 t207.length co32)) (fun _ h_ => h_.1))))) (Kd.R_lt (by (with_reducible repeat (first | apply Kd.R_alloc | apply Kd.R_drewN | apply Kd.R_drew)); exact (Kd.R_mono (Kd.R_far (p := ⟨gb210, 2, none⟩) (Kd.R_far (p := ⟨gb210, 1, none⟩) (Kd.R_far (p := ⟨gb210, 0, none⟩) (Kd.R_types HO209.out BK210.out (by decide)) (fun _ hk => hk.2) (.int .i64 t203)) (fun _ hk => hk.2) (.slice Ao31 t204.length co31)) (fun _ hk => hk.2) (.slice Ao32 t207.length co32)) (fun _ h_ => h_.1))))) (below_size (tB HB.out))); replace HO190 := Aside0.mk (Kd.R_mono (Kd.R_told (Kd.R_told (Kd.R_old (by (with_reducible repeat (first | apply Kd.R_alloc | apply Kd.R_drewN | apply Kd.R_drew)); exact (Kd.R_mono (Kd.R_far (p := ⟨gb210, 2, none⟩) (Kd.R_far (p := ⟨gb210, 1, none⟩) (Kd.R_far (p := ⟨gb210, 0, none⟩) (Kd.R_types HO190.out BK210.out (by decide)) (fun _ hk => hk.2) (.int .i64 t203)) (fun _ hk => hk.2) (.slice Ao31 t204.length co31)) (fun _ hk => hk.2) (.slice Ao32 t207.length co32)) (fun _ h_ => h_.1))) hb) (Kd.R_base ho0)) (Kd.R_base ho1)) (fun _ h_ => h_.1)); replace HO193 := Aside0.mk (Kd.R_mono (Kd.R_told (Kd.R_told (Kd.R_old (by (with_reducible repeat (first | apply Kd.R_alloc | apply Kd.R_drewN | apply Kd.R_drew)); exact (Kd.R_mono (Kd.R_far (p := ⟨gb210, 2, none⟩) (Kd.R_far (p := ⟨gb210, 1, none⟩) (Kd.R_far (p := ⟨gb210, 0, none⟩) (Kd.R_types HO193.out BK210.out (by decide)) (fun _ hk => hk.2) (.int .i64 t203)) (fun _ hk => hk.2) (.slice Ao31 t204.length co31)) (fun _ hk => hk.2) (.slice Ao32 t207.length co32)) (fun _ h_ => h_.1))) hb) (Kd.R_base ho0)) (Kd.R_base ho1)) (fun _ h_ => h_.1)); replace HO197 := Aside0.mk (Kd.R_mono (Kd.R_told (Kd.R_told (Kd.R_old (by (with_reducible repeat (first | apply Kd.R_alloc | apply Kd.R_drewN | apply Kd.R_drew)); exact (Kd.R_mono (Kd.R_far (p := ⟨gb210, 2, none⟩) (Kd.R_far (p := ⟨gb210, 1, none⟩) (Kd.R_far (p := ⟨gb210, 0, none⟩) (Kd.R_types HO197.out BK210.out (by decide)) (fun _ hk => hk.2) (.int .i64 t203)) (fun _ hk => hk.2) (.slice Ao31 t204.length co31)) (fun _ hk => hk.2) (.slice Ao32 t207.length co32)) (fun _ h_ => h_.1))) hb) (Kd.R_base ho0)) (Kd.R_base ho1)) (fun _ h_ => h_.1)); replace HO200 := Aside0.mk (Kd.R_mono (Kd.R_told (Kd.R_told (Kd.R_old (by (with_reducible repeat (first | apply Kd.R_alloc | apply Kd.R_drewN | apply Kd.R_drew)); exact (Kd.R_mono (Kd.R_far (p := ⟨gb210, 2, none⟩) (Kd.R_far (p := ⟨gb210, 1, none⟩) (Kd.R_far (p := ⟨gb210, 0, none⟩) (Kd.R_types HO200.out BK210.out (by decide)) (fun _ hk => hk.2) (.int .i64 t203)) (fun _ hk => hk.2) (.slice Ao31 t204.length co31)) (fun _ hk => hk.2) (.slice Ao32 t207.length co32)) (fun _ h_ => h_.1))) hb) (Kd.R_base ho0)) (Kd.R_base ho1)) (fun _ h_ => h_.1)); replace HO206 := Aside0.mk (Kd.R_mono (Kd.R_told (Kd.R_told (Kd.R_old (by (with_reducible repeat (first | apply Kd.R_alloc | apply Kd.R_drewN | apply Kd.R_drew)); exact (Kd.R_mono (Kd.R_far (p := ⟨gb210, 2, none⟩) (Kd.R_far (p := ⟨gb210, 1, none⟩) (Kd.R_far (p := ⟨gb210, 0, none⟩) (Kd.R_types HO206.out BK210.out (by decide)) (fun _ hk => hk.2) (.int .i64 t203)) (fun _ hk => hk.2) (.slice Ao31 t204.length co31)) (fun _ hk => hk.2) (.slice Ao32 t207.length co32)) (fun _ h_ => h_.1))) hb) (Kd.R_base ho0)) (Kd.R_base ho1)) (fun _ h_ => h_.1)); replace HO209 := Aside0.mk (Kd.R_mono (Kd.R_told (Kd.R_told (Kd.R_old (by (with_reducible repeat (first | apply Kd.R_alloc | apply Kd.R_drewN | apply Kd.R_drew)); exact (Kd.R_mono (Kd.R_far (p := ⟨gb210, 2, none⟩) (Kd.R_far (p := ⟨gb210, 1, none⟩) (Kd.R_far (p := ⟨gb210, 0, none⟩) (Kd.R_types HO209.out BK210.out (by decide)) (fun _ hk => hk.2) (.int .i64 t203)) (fun _ hk => hk.2) (.slice Ao31 t204.length co31)) (fun _ hk => hk.2) (.slice Ao32 t207.length co32)) (fun _ h_ => h_.1))) hb) (Kd.R_base ho0)) (Kd.R_base ho1)) (fun _ h_ => h_.1)); replace BK185 := Aside0.mk (blk_below (g := gb185) (o := .cells #[.int .i64 a0_0, .slice A0_1 l0_1.length c0_1, .slice A0_2 l0_2.length c0_2] 24 (0, 0)) (by (with_reducible repeat (first | refine blk_drewN ?_ _ | refine blk_drew ?_ | refine blk_alloc ?_ _)); refine blk_far ?_ NB185_210.out _; (with_reducible repeat (first | refine blk_drewN ?_ _ | refine blk_drew ?_ | refine blk_alloc ?_ _)); refine blk_far ?_ NB185_210.out _; (with_reducible repeat (first | refine blk_drewN ?_ _ | refine blk_drew ?_ | refine blk_alloc ?_ _)); refine blk_far ?_ NB185_210.out _; (with_reducible repeat (first | refine blk_drewN ?_ _ | refine blk_drew ?_ | refine blk_alloc ?_ _)); exact BK185.out) hb); replace BK202 := Aside0.mk (blk_below (g := gb202) (o := .cells #[.int .i64 t194, .slice Ao23 t195.length co23, .slice Ao24 t198.length co24] 28 (0, 0)) (by (with_reducible repeat (first | refine blk_drewN ?_ _ | refine blk_drew ?_ | refine blk_alloc ?_ _)); refine blk_far ?_ NB202_210.out _; (with_reducible repeat (first | refine blk_drewN ?_ _ | refine blk_drew ?_ | refine blk_alloc ?_ _)); refine blk_far ?_ NB202_210.out _; (with_reducible repeat (first | refine blk_drewN ?_ _ | refine blk_drew ?_ | refine blk_alloc ?_ _)); refine blk_far ?_ NB202_210.out _; (with_reducible repeat (first | refine blk_drewN ?_ _ | refine blk_drew ?_ | refine blk_alloc ?_ _)); exact BK202.out) hb); replace BK210 := Aside0.mk (blk_below (g := gb210) (o := .cells #[.int .i64 t203, .slice Ao31 t204.length co31, .slice Ao32 t207.length co32] 28 (0, 0)) (by (with_reducible repeat (first | refine blk_drewN ?_ _ | refine blk_drew ?_ | refine blk_alloc ?_ _)); refine blk_put (cs := #[.int .i64 t203, .slice Ao31 t204.length co31, .slice none 0 0]) ?_ 2 _ rfl; (with_reducible repeat (first | refine blk_drewN ?_ _ | refine blk_drew ?_ | refine blk_alloc ?_ _)); refine blk_put (cs := #[.int .i64 t203, .slice none 0 0, .slice none 0 0]) ?_ 1 _ rfl; (with_reducible repeat (first | refine blk_drewN ?_ _ | refine blk_drew ?_ | refine blk_alloc ?_ _)); refine blk_put (cs := #[.int .i64 0, .slice none 0 0, .slice none 0 0]) ?_ 0 _ rfl; (with_reducible repeat (first | refine blk_drewN ?_ _ | refine blk_drew ?_ | refine blk_alloc ?_ _)); exact BK210.out) hb); replace HB := Aside0.mk (below_step (tB HB.out) hb); (try clear hb); (try clear hb2); (try clear hk); (try clear hi); (try clear ho0); (try clear ho1)) | ((with_reducible refine gate_dst (N := 7) rfl ?_); refine box_event ?hg (N := 7) ?hd (cs := #[.int .i64 0, .slice none 0 0, .slice none 0 0]) (t := 28) ?hr ?_; (case hd => rfl); (case hg => rfl); (case hr => first | (go_simp; done) | (go_simp; rfl)); intro gb219 hg w34 hbox hb; replace HO190 := Aside0.mk (Kd.R_below (tR HO190.out) hb); replace HO193 := Aside0.mk (Kd.R_below (tR HO193.out) hb); replace HO197 := Aside0.mk (Kd.R_below (tR HO197.out) hb); replace HO200 := Aside0.mk (Kd.R_below (tR HO200.out) hb); replace HO206 := Aside0.mk (Kd.R_below (tR HO206.out) hb); replace HO209 := Aside0.mk (Kd.R_below (tR HO209.out) hb); replace HO214 := Aside0.mk (Kd.R_below (tR HO214.out) hb); replace HO217 := Aside0.mk (Kd.R_below (tR HO217.out) hb); have BK219 := Aside0.mk (hbox); have GW219 := Aside0.mk (bS HB.out hg); have GE219 := Aside0.mk (bS HB.out hg); replace HB := Aside0.mk (below_step (tB HB.out) hb); have NB185_219 := Aside0.mk (nL BK185.out hg); have NB219_185 := Aside0.mk (nG BK185.out hg); replace BK185 := bkB BK185 hb; have NB202_219 := Aside0.mk (nL BK202.out hg); have NB219_202 := Aside0.mk (nG BK202.out hg); replace BK202 := bkB BK202 hb; have NB210_219 := Aside0.mk (nL BK210.out hg); have NB219_210 := Aside0.mk (nG BK210.out hg); replace BK210 := bkB BK210 hb; clear hb hbox hg; have hnb35 := NB219_185.out; have hnc35 := NB185_219.out; have hnb36 := NB219_202.out; have hnc36 := NB202_219.out; have hnb37 := NB219_210.out; have hnc37 := NB210_219.out; obtain ⟨hcz38_0, hfz38_0, hcz38_1, hfz38_1, hcz38_2, hfz38_2⟩ := cz3 BK219; obtain ⟨Ao39, co39, eo39⟩ := Kd.R_slice HO214.out; subst eo39; obtain ⟨Ao40, co40, eo40⟩ := Kd.R_slice HO217.out; subst eo40))
  (try simp only [Act.put, List.setIfInBounds_toArray, List.set_cons_zero, List.set_cons_succ])
  go_cut [40] (fun v40 wc => ∃ (kq : Nat) (x40_10 : Bool), v40 = .bool x40_10 ∧ Aside0 (laws_FnExactDropTop.j0 kq t201 t218 x40_10 a0_0 l0_1 l0_2 t194 t195 t198 t203 t204 t207 t211 t212 t215 = some r) ∧ Aside0 (kq ≤ k) ∧ Aside0 (Kd.R (Kd.int .i64) 3 wc w.heap.size (fun k_ => some k_ ≠ ((.slice Ao24 t198.length co24) : Value).ownBlock ∧ some k_ ≠ ((.slice Ao31 t204.length co31) : Value).ownBlock ∧ some k_ ≠ ((.slice Ao32 t207.length co32) : Value).ownBlock ∧ some k_ ≠ ((.slice Ao39 t212.length co39) : Value).ownBlock ∧ some k_ ≠ ((.slice Ao40 t215.length co40) : Value).ownBlock) (.slice Ao23 t195.length co23) t195) ∧ Aside0 (Kd.R (Kd.int .i64) 3 wc w.heap.size (fun k_ => some k_ ≠ ((.slice Ao23 t195.length co23) : Value).ownBlock ∧ some k_ ≠ ((.slice Ao31 t204.length co31) : Value).ownBlock ∧ some k_ ≠ ((.slice Ao32 t207.length co32) : Value).ownBlock ∧ some k_ ≠ ((.slice Ao39 t212.length co39) : Value).ownBlock ∧ some k_ ≠ ((.slice Ao40 t215.length co40) : Value).ownBlock) (.slice Ao24 t198.length co24) t198) ∧ Aside0 (Kd.R (Kd.int .i64) 3 wc w.heap.size (fun k_ => some k_ ≠ ((.slice Ao23 t195.length co23) : Value).ownBlock ∧ some k_ ≠ ((.slice Ao24 t198.length co24) : Value).ownBlock ∧ some k_ ≠ ((.slice Ao32 t207.length co32) : Value).ownBlock ∧ some k_ ≠ ((.slice Ao39 t212.length co39) : Value).ownBlock ∧ some k_ ≠ ((.slice Ao40 t215.length co40) : Value).ownBlock) (.slice Ao31 t204.length co31) t204) ∧ Aside0 (Kd.R (Kd.int .i64) 3 wc w.heap.size (fun k_ => some k_ ≠ ((.slice Ao23 t195.length co23) : Value).ownBlock ∧ some k_ ≠ ((.slice Ao24 t198.length co24) : Value).ownBlock ∧ some k_ ≠ ((.slice Ao31 t204.length co31) : Value).ownBlock ∧ some k_ ≠ ((.slice Ao39 t212.length co39) : Value).ownBlock ∧ some k_ ≠ ((.slice Ao40 t215.length co40) : Value).ownBlock) (.slice Ao32 t207.length co32) t207) ∧ Aside0 (Kd.R (Kd.int .i64) 3 wc w.heap.size (fun k_ => some k_ ≠ ((.slice Ao23 t195.length co23) : Value).ownBlock ∧ some k_ ≠ ((.slice Ao24 t198.length co24) : Value).ownBlock ∧ some k_ ≠ ((.slice Ao31 t204.length co31) : Value).ownBlock ∧ some k_ ≠ ((.slice Ao32 t207.length co32) : Value).ownBlock ∧ some k_ ≠ ((.slice Ao40 t215.length co40) : Value).ownBlock) (.slice Ao39 t212.length co39) t212) ∧ Aside0 (Kd.R (Kd.int .i64) 3 wc w.heap.size (fun k_ => some k_ ≠ ((.slice Ao23 t195.length co23) : Value).ownBlock ∧ some k_ ≠ ((.slice Ao24 t198.length co24) : Value).ownBlock ∧ some k_ ≠ ((.slice Ao31 t204.length co31) : Value).ownBlock ∧ some k_ ≠ ((.slice Ao32 t207.length co32) : Value).ownBlock ∧ some k_ ≠ ((.slice Ao39 t212.length co39) : Value).ownBlock) (.slice Ao40 t215.length co40) t215) ∧ Aside0 (wc.heap[gb185]? = some (.cells #[.int .i64 a0_0, (.slice A0_1 l0_1.length c0_1), (.slice A0_2 l0_2.length c0_2)] 24 (0, 0))) ∧ Aside0 (wc.heap[gb202]? = some (.cells #[.int .i64 t194, (.slice Ao23 t195.length co23), (.slice Ao24 t198.length co24)] 28 (0, 0))) ∧ Aside0 (wc.heap[gb210]? = some (.cells #[.int .i64 t203, (.slice Ao31 t204.length co31), (.slice Ao32 t207.length co32)] 28 (0, 0))) ∧ Aside0 (wc.heap[gb219]? = some (.cells #[.int .i64 t211, (.slice Ao39 t212.length co39), (.slice Ao40 t215.length co40)] 28 (0, 0))) ∧ Aside0 (Below w.heap.size w wc))
  case first =>
   have H := HC11.out
   clear HC11
   replace H := Option.bind_eq_some_iff.mp H
   obtain ⟨t220, A410, H⟩ := H
   replace H : (if t220 = true then (laws_FnExactDropTop.j0 k t201 t218 (t218 != t201) a0_0 l0_1 l0_2 t194 t195 t198 t203 t204 t207 t211 t212 t215) else (laws_FnExactDropTop.j0 k t201 t218 true a0_0 l0_1 l0_2 t194 t195 t198 t203 t204 t207 t211 t212 t215)) = some r := H
   have A41 := Aside0.mk A410
   clear A410
   by_cases c42 : t220 = true
   ·
    subst c42
    have H1 : (laws_FnExactDropTop.j0 k t201 t218 (t218 != t201) a0_0 l0_1 l0_2 t194 t195 t198 t203 t204 t207 t211 t212 t215) = some r := by rw [if_pos rfl] at H; exact H
    clear H
    have H := H1
    clear H1
    have H' := Aside0.mk H
    clear H
    have hnb43 := NB219_185.out
    have hnc43 := NB185_219.out
    have hnb44 := NB219_202.out
    have hnc44 := NB202_219.out
    have hnb45 := NB219_210.out
    have hnc45 := NB210_219.out
    obtain ⟨hcz46_0, hfz46_0, hcz46_1, hfz46_1, hcz46_2, hfz46_2⟩ := cz3 BK219
    have hnb47 := NB202_185.out
    have hnc47 := NB185_202.out
    have hnb48 := NB202_210.out
    have hnc48 := NB210_202.out
    obtain ⟨hcz49_0, hfz49_0, hcz49_1, hfz49_1, hcz49_2, hfz49_2⟩ := cz3 BK202
    go_wp2_with (first | ((with_reducible refine gate_callee (f := 19) rfl ?_); refine goesL_ (some 34) rfl rfl Try.func19 (by kernel_rfl) rfl #[.agg #[.int .i64 t211, .slice Ao39 t212.length co39, .slice Ao40 t215.length co40], .agg #[.int .i64 t194, .slice Ao23 t195.length co23, .slice Ao24 t198.length co24]] rfl tM ?_; (with_reducible refine (laws_eqPile.calls k t211 _ _ t212 _ _ t215 t194 _ _ t195 _ _ t198 true _ ?side1 ?side2 ?side3 ?side4 ?side5 ?side6 ?side7 ?side8 A41.out).mono ?_); (case side1 => refine (Kd.R_reads' (e := 3) (base := w.heap.size) (ok := fun k_ => ((((((some k_ ≠ (.slice Ao40 t215.length co40 : Value).ownBlock ∧ some k_ ≠ (.slice Ao17 t188.length co17 : Value).ownBlock) ∧ some k_ ≠ (.slice Ao18 t191.length co18 : Value).ownBlock) ∧ some k_ ≠ (.slice Ao23 t195.length co23 : Value).ownBlock) ∧ some k_ ≠ (.slice Ao24 t198.length co24 : Value).ownBlock) ∧ some k_ ≠ (.slice Ao31 t204.length co31 : Value).ownBlock) ∧ some k_ ≠ (.slice Ao32 t207.length co32 : Value).ownBlock)) (n := t212.length) (c := co39) ?_).2.2; exact (by (with_reducible repeat (first | apply Kd.R_alloc | apply Kd.R_drewN | apply Kd.R_drew)); exact (Kd.R_mono (Kd.R_far (p := ⟨gb219, 2, none⟩) (Kd.R_far (p := ⟨gb219, 1, none⟩) (Kd.R_far (p := ⟨gb219, 0, none⟩) (Kd.R_types HO214.out BK219.out (by decide)) (fun _ hk => hk.2) (.int .i64 t211)) (fun _ hk => hk.2) (.slice Ao39 t212.length co39)) (fun _ hk => hk.2) (.slice Ao40 t215.length co40)) (fun _ h_ => h_.1)))); (case side2 => exact (Kd.R_reads' HO214.out).2.1); (case side3 => refine (Kd.R_reads' (e := 3) (base := w.heap.size) (ok := fun k_ => ((((((some k_ ≠ (.slice Ao39 t212.length co39 : Value).ownBlock ∧ some k_ ≠ (.slice Ao17 t188.length co17 : Value).ownBlock) ∧ some k_ ≠ (.slice Ao18 t191.length co18 : Value).ownBlock) ∧ some k_ ≠ (.slice Ao23 t195.length co23 : Value).ownBlock) ∧ some k_ ≠ (.slice Ao24 t198.length co24 : Value).ownBlock) ∧ some k_ ≠ (.slice Ao31 t204.length co31 : Value).ownBlock) ∧ some k_ ≠ (.slice Ao32 t207.length co32 : Value).ownBlock)) (n := t215.length) (c := co40) ?_).2.2; exact (by (with_reducible repeat (first | apply Kd.R_alloc | apply Kd.R_drewN | apply Kd.R_drew)); exact (Kd.R_mono (Kd.R_far (p := ⟨gb219, 2, none⟩) (Kd.R_far (p := ⟨gb219, 1, none⟩) (Kd.R_far (p := ⟨gb219, 0, none⟩) (Kd.R_types HO217.out BK219.out (by decide)) (fun _ hk => hk.2) (.int .i64 t211)) (fun _ hk => hk.2) (.slice Ao39 t212.length co39)) (fun _ hk => hk.2) (.slice Ao40 t215.length co40)) (fun _ h_ => h_.1)))); (case side4 => exact (Kd.R_reads' HO217.out).2.1); (case side5 => refine (Kd.R_reads' (e := 3) (base := w.heap.size) (ok := fun k_ => ((((((some k_ ≠ (.slice Ao24 t198.length co24 : Value).ownBlock ∧ some k_ ≠ (.slice Ao17 t188.length co17 : Value).ownBlock) ∧ some k_ ≠ (.slice Ao18 t191.length co18 : Value).ownBlock) ∧ some k_ ≠ (.slice Ao31 t204.length co31 : Value).ownBlock) ∧ some k_ ≠ (.slice Ao32 t207.length co32 : Value).ownBlock) ∧ some k_ ≠ (.slice Ao39 t212.length co39 : Value).ownBlock) ∧ some k_ ≠ (.slice Ao40 t215.length co40 : Value).ownBlock)) (n := t195.length) (c := co23) ?_).2.2; exact (by (with_reducible repeat (first | apply Kd.R_alloc | apply Kd.R_drewN | apply Kd.R_drew)); exact (Kd.R_mono (Kd.R_far (p := ⟨gb219, 2, none⟩) (Kd.R_far (p := ⟨gb219, 1, none⟩) (Kd.R_far (p := ⟨gb219, 0, none⟩) (Kd.R_types HO197.out BK219.out (by decide)) (fun _ hk => hk.2) (.int .i64 t211)) (fun _ hk => hk.2) (.slice Ao39 t212.length co39)) (fun _ hk => hk.2) (.slice Ao40 t215.length co40)) (fun _ h_ => h_.1)))); (case side6 => exact (Kd.R_reads' HO197.out).2.1); (case side7 => refine (Kd.R_reads' (e := 3) (base := w.heap.size) (ok := fun k_ => ((((((some k_ ≠ (.slice Ao23 t195.length co23 : Value).ownBlock ∧ some k_ ≠ (.slice Ao17 t188.length co17 : Value).ownBlock) ∧ some k_ ≠ (.slice Ao18 t191.length co18 : Value).ownBlock) ∧ some k_ ≠ (.slice Ao31 t204.length co31 : Value).ownBlock) ∧ some k_ ≠ (.slice Ao32 t207.length co32 : Value).ownBlock) ∧ some k_ ≠ (.slice Ao39 t212.length co39 : Value).ownBlock) ∧ some k_ ≠ (.slice Ao40 t215.length co40 : Value).ownBlock)) (n := t198.length) (c := co24) ?_).2.2; exact (by (with_reducible repeat (first | apply Kd.R_alloc | apply Kd.R_drewN | apply Kd.R_drew)); exact (Kd.R_mono (Kd.R_far (p := ⟨gb219, 2, none⟩) (Kd.R_far (p := ⟨gb219, 1, none⟩) (Kd.R_far (p := ⟨gb219, 0, none⟩) (Kd.R_types HO200.out BK219.out (by decide)) (fun _ hk => hk.2) (.int .i64 t211)) (fun _ hk => hk.2) (.slice Ao39 t212.length co39)) (fun _ hk => hk.2) (.slice Ao40 t215.length co40)) (fun _ h_ => h_.1)))); (case side8 => exact (Kd.R_reads' HO200.out).2.1); rintro e w50 ⟨rfl, hb⟩; refine ⟨_, rfl, ?_⟩; replace HO190 := Aside0.mk (Kd.R_below (by (with_reducible repeat (first | apply Kd.R_alloc | apply Kd.R_drewN | apply Kd.R_drew)); exact (Kd.R_mono (Kd.R_far (p := ⟨gb219, 2, none⟩) (Kd.R_far (p := ⟨gb219, 1, none⟩) (Kd.R_far (p := ⟨gb219, 0, none⟩) (Kd.R_types HO190.out BK219.out (by decide)) (fun _ hk => hk.2) (.int .i64 t211)) (fun _ hk => hk.2) (.slice Ao39 t212.length co39)) (fun _ hk => hk.2) (.slice Ao40 t215.length co40)) (fun _ h_ => h_.1))) hb); replace HO193 := Aside0.mk (Kd.R_below (by (with_reducible repeat (first | apply Kd.R_alloc | apply Kd.R_drewN | apply Kd.R_drew)); exact (Kd.R_mono (Kd.R_far (p := ⟨gb219, 2, none⟩) (Kd.R_far (p := ⟨gb219, 1, none⟩) (Kd.R_far (p := ⟨gb219, 0, none⟩) (Kd.R_types HO193.out BK219.out (by decide)) (fun _ hk => hk.2) (.int .i64 t211)) (fun _ hk => hk.2) (.slice Ao39 t212.length co39)) (fun _ hk => hk.2) (.slice Ao40 t215.length co40)) (fun _ h_ => h_.1))) hb); replace HO197 := Aside0.mk (Kd.R_below (by (with_reducible repeat (first | apply Kd.R_alloc | apply Kd.R_drewN | apply Kd.R_drew)); exact (Kd.R_mono (Kd.R_far (p := ⟨gb219, 2, none⟩) (Kd.R_far (p := ⟨gb219, 1, none⟩) (Kd.R_far (p := ⟨gb219, 0, none⟩) (Kd.R_types HO197.out BK219.out (by decide)) (fun _ hk => hk.2) (.int .i64 t211)) (fun _ hk => hk.2) (.slice Ao39 t212.length co39)) (fun _ hk => hk.2) (.slice Ao40 t215.length co40)) (fun _ h_ => h_.1))) hb); replace HO200 := Aside0.mk (Kd.R_below (by (with_reducible repeat (first | apply Kd.R_alloc | apply Kd.R_drewN | apply Kd.R_drew)); exact (Kd.R_mono (Kd.R_far (p := ⟨gb219, 2, none⟩) (Kd.R_far (p := ⟨gb219, 1, none⟩) (Kd.R_far (p := ⟨gb219, 0, none⟩) (Kd.R_types HO200.out BK219.out (by decide)) (fun _ hk => hk.2) (.int .i64 t211)) (fun _ hk => hk.2) (.slice Ao39 t212.length co39)) (fun _ hk => hk.2) (.slice Ao40 t215.length co40)) (fun _ h_ => h_.1))) hb); replace HO206 := Aside0.mk (Kd.R_below (by (with_reducible repeat (first | apply Kd.R_alloc | apply Kd.R_drewN | apply Kd.R_drew)); exact (Kd.R_mono (Kd.R_far (p := ⟨gb219, 2, none⟩) (Kd.R_far (p := ⟨gb219, 1, none⟩) (Kd.R_far (p := ⟨gb219, 0, none⟩) (Kd.R_types HO206.out BK219.out (by decide)) (fun _ hk => hk.2) (.int .i64 t211)) (fun _ hk => hk.2) (.slice Ao39 t212.length co39)) (fun _ hk => hk.2) (.slice Ao40 t215.length co40)) (fun _ h_ => h_.1))) hb); replace HO209 := Aside0.mk (Kd.R_below (by (with_reducible repeat (first | apply Kd.R_alloc | apply Kd.R_drewN | apply Kd.R_drew)); exact (Kd.R_mono (Kd.R_far (p := ⟨gb219, 2, none⟩) (Kd.R_far (p := ⟨gb219, 1, none⟩) (Kd.R_far (p := ⟨gb219, 0, none⟩) (Kd.R_types HO209.out BK219.out (by decide)) (fun _ hk => hk.2) (.int .i64 t211)) (fun _ hk => hk.2) (.slice Ao39 t212.length co39)) (fun _ hk => hk.2) (.slice Ao40 t215.length co40)) (fun _ h_ => h_.1))) hb); replace HO214 := Aside0.mk (Kd.R_below (by (with_reducible repeat (first | apply Kd.R_alloc | apply Kd.R_drewN | apply Kd.R_drew)); exact (Kd.R_mono (Kd.R_far (p := ⟨gb219, 2, none⟩) (Kd.R_far (p := ⟨gb219, 1, none⟩) (Kd.R_far (p := ⟨gb219, 0, none⟩) (Kd.R_types HO214.out BK219.out (by decide)) (fun _ hk => hk.2) (.int .i64 t211)) (fun _ hk => hk.2) (.slice Ao39 t212.length co39)) (fun _ hk => hk.2) (.slice Ao40 t215.length co40)) (fun _ h_ => h_.1))) hb); replace HO217 := Aside0.mk (Kd.R_below (by (with_reducible repeat (first | apply Kd.R_alloc | apply Kd.R_drewN | apply Kd.R_drew)); exact (Kd.R_mono (Kd.R_far (p := ⟨gb219, 2, none⟩) (Kd.R_far (p := ⟨gb219, 1, none⟩) (Kd.R_far (p := ⟨gb219, 0, none⟩) (Kd.R_types HO217.out BK219.out (by decide)) (fun _ hk => hk.2) (.int .i64 t211)) (fun _ hk => hk.2) (.slice Ao39 t212.length co39)) (fun _ hk => hk.2) (.slice Ao40 t215.length co40)) (fun _ h_ => h_.1))) hb); replace BK185 := Aside0.mk (blk_below (g := gb185) (o := .cells #[.int .i64 a0_0, .slice A0_1 l0_1.length c0_1, .slice A0_2 l0_2.length c0_2] 24 (0, 0)) (by (with_reducible repeat (first | refine blk_drewN ?_ _ | refine blk_drew ?_ | refine blk_alloc ?_ _)); refine blk_far ?_ NB185_219.out _; (with_reducible repeat (first | refine blk_drewN ?_ _ | refine blk_drew ?_ | refine blk_alloc ?_ _)); refine blk_far ?_ NB185_219.out _; (with_reducible repeat (first | refine blk_drewN ?_ _ | refine blk_drew ?_ | refine blk_alloc ?_ _)); refine blk_far ?_ NB185_219.out _; (with_reducible repeat (first | refine blk_drewN ?_ _ | refine blk_drew ?_ | refine blk_alloc ?_ _)); exact BK185.out) hb); replace BK202 := Aside0.mk (blk_below (g := gb202) (o := .cells #[.int .i64 t194, .slice Ao23 t195.length co23, .slice Ao24 t198.length co24] 28 (0, 0)) (by (with_reducible repeat (first | refine blk_drewN ?_ _ | refine blk_drew ?_ | refine blk_alloc ?_ _)); refine blk_far ?_ NB202_219.out _; (with_reducible repeat (first | refine blk_drewN ?_ _ | refine blk_drew ?_ | refine blk_alloc ?_ _)); refine blk_far ?_ NB202_219.out _; (with_reducible repeat (first | refine blk_drewN ?_ _ | refine blk_drew ?_ | refine blk_alloc ?_ _)); refine blk_far ?_ NB202_219.out _; (with_reducible repeat (first | refine blk_drewN ?_ _ | refine blk_drew ?_ | refine blk_alloc ?_ _)); exact BK202.out) hb); replace BK210 := Aside0.mk (blk_below (g := gb210) (o := .cells #[.int .i64 t203, .slice Ao31 t204.length co31, .slice Ao32 t207.length co32] 28 (0, 0)) (by (with_reducible repeat (first | refine blk_drewN ?_ _ | refine blk_drew ?_ | refine blk_alloc ?_ _)); refine blk_far ?_ NB210_219.out _; (with_reducible repeat (first | refine blk_drewN ?_ _ | refine blk_drew ?_ | refine blk_alloc ?_ _)); refine blk_far ?_ NB210_219.out _; (with_reducible repeat (first | refine blk_drewN ?_ _ | refine blk_drew ?_ | refine blk_alloc ?_ _)); refine blk_far ?_ NB210_219.out _; (with_reducible repeat (first | refine blk_drewN ?_ _ | refine blk_drew ?_ | refine blk_alloc ?_ _)); exact BK210.out) hb); replace BK219 := Aside0.mk (blk_below (g := gb219) (o := .cells #[.int .i64 t211, .slice Ao39 t212.length co39, .slice Ao40 t215.length co40] 28 (0, 0)) (by (with_reducible repeat (first | refine blk_drewN ?_ _ | refine blk_drew ?_ | refine blk_alloc ?_ _)); refine blk_put (cs := #[.int .i64 t211, .slice Ao39 t212.length co39, .slice none 0 0]) ?_ 2 _ rfl; (with_reducible repeat (first | refine blk_drewN ?_ _ | refine blk_drew ?_ | refine blk_alloc ?_ _)); refine blk_put (cs := #[.int .i64 t211, .slice none 0 0, .slice none 0 0]) ?_ 1 _ rfl; (with_reducible repeat (first | refine blk_drewN ?_ _ | refine blk_drew ?_ | refine blk_alloc ?_ _)); refine blk_put (cs := #[.int .i64 0, .slice none 0 0, .slice none 0 0]) ?_ 0 _ rfl; (with_reducible repeat (first | refine blk_drewN ?_ _ | refine blk_drew ?_ | refine blk_alloc ?_ _)); exact BK219.out) hb); replace HB := Aside0.mk (below_step (tB HB.out) hb); (try clear hb); (try clear hb2); (try clear hk); (try clear hi)))
    go_meet
    case rel => exact ⟨_, ((t218 != t201)), (by first | rfl | (simp; done) | (simp [wrap64]; done) | (simp [*]; done)), H', ⟨by first | omega | exact Nat.le_refl _⟩, ⟨by (with_reducible repeat (first | apply Kd.R_alloc | apply Kd.R_drewN | apply Kd.R_drew)); exact Kd.R_mono HO197.out (fun _ hk => ⟨hk.1.1.1.1.1.1, ⟨hk.1.1.1.2, ⟨hk.1.1.2, ⟨hk.1.2, hk.2⟩⟩⟩⟩)⟩, ⟨by (with_reducible repeat (first | apply Kd.R_alloc | apply Kd.R_drewN | apply Kd.R_drew)); exact Kd.R_mono HO200.out (fun _ hk => ⟨hk.1.1.1.1.1.1, ⟨hk.1.1.1.2, ⟨hk.1.1.2, ⟨hk.1.2, hk.2⟩⟩⟩⟩)⟩, ⟨by (with_reducible repeat (first | apply Kd.R_alloc | apply Kd.R_drewN | apply Kd.R_drew)); exact Kd.R_mono HO206.out (fun _ hk => ⟨hk.1.1.1.2, ⟨hk.1.1.2, ⟨hk.1.1.1.1.1.1, ⟨hk.1.2, hk.2⟩⟩⟩⟩)⟩, ⟨by (with_reducible repeat (first | apply Kd.R_alloc | apply Kd.R_drewN | apply Kd.R_drew)); exact Kd.R_mono HO209.out (fun _ hk => ⟨hk.1.1.1.2, ⟨hk.1.1.2, ⟨hk.1.1.1.1.1.1, ⟨hk.1.2, hk.2⟩⟩⟩⟩)⟩, ⟨by (with_reducible repeat (first | apply Kd.R_alloc | apply Kd.R_drewN | apply Kd.R_drew)); exact Kd.R_mono HO214.out (fun _ hk => ⟨hk.1.1.1.2, ⟨hk.1.1.2, ⟨hk.1.2, ⟨hk.2, hk.1.1.1.1.1.1⟩⟩⟩⟩)⟩, ⟨by (with_reducible repeat (first | apply Kd.R_alloc | apply Kd.R_drewN | apply Kd.R_drew)); exact Kd.R_mono HO217.out (fun _ hk => ⟨hk.1.1.1.2, ⟨hk.1.1.2, ⟨hk.1.2, ⟨hk.2, hk.1.1.1.1.1.1⟩⟩⟩⟩)⟩, ⟨tK BK185.out⟩, ⟨tK BK202.out⟩, ⟨tK BK210.out⟩, ⟨tK BK219.out⟩, ⟨tB HB.out⟩⟩
   ·
    replace c42 := Bool.eq_false_iff.mpr c42
    subst c42
    have H1 : (laws_FnExactDropTop.j0 k t201 t218 true a0_0 l0_1 l0_2 t194 t195 t198 t203 t204 t207 t211 t212 t215) = some r := by rw [if_neg (show ¬ (false = true) by decide)] at H; exact H
    clear H
    have H := H1
    clear H1
    have H' := Aside0.mk H
    clear H
    have hnb51 := NB219_185.out
    have hnc51 := NB185_219.out
    have hnb52 := NB219_202.out
    have hnc52 := NB202_219.out
    have hnb53 := NB219_210.out
    have hnc53 := NB210_219.out
    obtain ⟨hcz54_0, hfz54_0, hcz54_1, hfz54_1, hcz54_2, hfz54_2⟩ := cz3 BK219
    have hnb55 := NB202_185.out
    have hnc55 := NB185_202.out
    have hnb56 := NB202_210.out
    have hnc56 := NB210_202.out
    obtain ⟨hcz57_0, hfz57_0, hcz57_1, hfz57_1, hcz57_2, hfz57_2⟩ := cz3 BK202
    go_wp2_with (first | ((with_reducible refine gate_callee (f := 19) rfl ?_); refine goesL_ (some 34) rfl rfl Try.func19 (by kernel_rfl) rfl #[.agg #[.int .i64 t211, .slice Ao39 t212.length co39, .slice Ao40 t215.length co40], .agg #[.int .i64 t194, .slice Ao23 t195.length co23, .slice Ao24 t198.length co24]] rfl tM ?_; (with_reducible refine (laws_eqPile.calls k t211 _ _ t212 _ _ t215 t194 _ _ t195 _ _ t198 false _ ?side1 ?side2 ?side3 ?side4 ?side5 ?side6 ?side7 ?side8 A41.out).mono ?_); (case side1 => refine (Kd.R_reads' (e := 3) (base := w.heap.size) (ok := fun k_ => ((((((some k_ ≠ (.slice Ao40 t215.length co40 : Value).ownBlock ∧ some k_ ≠ (.slice Ao17 t188.length co17 : Value).ownBlock) ∧ some k_ ≠ (.slice Ao18 t191.length co18 : Value).ownBlock) ∧ some k_ ≠ (.slice Ao23 t195.length co23 : Value).ownBlock) ∧ some k_ ≠ (.slice Ao24 t198.length co24 : Value).ownBlock) ∧ some k_ ≠ (.slice Ao31 t204.length co31 : Value).ownBlock) ∧ some k_ ≠ (.slice Ao32 t207.length co32 : Value).ownBlock)) (n := t212.length) (c := co39) ?_).2.2; exact (by (with_reducible repeat (first | apply Kd.R_alloc | apply Kd.R_drewN | apply Kd.R_drew)); exact (Kd.R_mono (Kd.R_far (p := ⟨gb219, 2, none⟩) (Kd.R_far (p := ⟨gb219, 1, none⟩) (Kd.R_far (p := ⟨gb219, 0, none⟩) (Kd.R_types HO214.out BK219.out (by decide)) (fun _ hk => hk.2) (.int .i64 t211)) (fun _ hk => hk.2) (.slice Ao39 t212.length co39)) (fun _ hk => hk.2) (.slice Ao40 t215.length co40)) (fun _ h_ => h_.1)))); (case side2 => exact (Kd.R_reads' HO214.out).2.1); (case side3 => refine (Kd.R_reads' (e := 3) (base := w.heap.size) (ok := fun k_ => ((((((some k_ ≠ (.slice Ao39 t212.length co39 : Value).ownBlock ∧ some k_ ≠ (.slice Ao17 t188.length co17 : Value).ownBlock) ∧ some k_ ≠ (.slice Ao18 t191.length co18 : Value).ownBlock) ∧ some k_ ≠ (.slice Ao23 t195.length co23 : Value).ownBlock) ∧ some k_ ≠ (.slice Ao24 t198.length co24 : Value).ownBlock) ∧ some k_ ≠ (.slice Ao31 t204.length co31 : Value).ownBlock) ∧ some k_ ≠ (.slice Ao32 t207.length co32 : Value).ownBlock)) (n := t215.length) (c := co40) ?_).2.2; exact (by (with_reducible repeat (first | apply Kd.R_alloc | apply Kd.R_drewN | apply Kd.R_drew)); exact (Kd.R_mono (Kd.R_far (p := ⟨gb219, 2, none⟩) (Kd.R_far (p := ⟨gb219, 1, none⟩) (Kd.R_far (p := ⟨gb219, 0, none⟩) (Kd.R_types HO217.out BK219.out (by decide)) (fun _ hk => hk.2) (.int .i64 t211)) (fun _ hk => hk.2) (.slice Ao39 t212.length co39)) (fun _ hk => hk.2) (.slice Ao40 t215.length co40)) (fun _ h_ => h_.1)))); (case side4 => exact (Kd.R_reads' HO217.out).2.1); (case side5 => refine (Kd.R_reads' (e := 3) (base := w.heap.size) (ok := fun k_ => ((((((some k_ ≠ (.slice Ao24 t198.length co24 : Value).ownBlock ∧ some k_ ≠ (.slice Ao17 t188.length co17 : Value).ownBlock) ∧ some k_ ≠ (.slice Ao18 t191.length co18 : Value).ownBlock) ∧ some k_ ≠ (.slice Ao31 t204.length co31 : Value).ownBlock) ∧ some k_ ≠ (.slice Ao32 t207.length co32 : Value).ownBlock) ∧ some k_ ≠ (.slice Ao39 t212.length co39 : Value).ownBlock) ∧ some k_ ≠ (.slice Ao40 t215.length co40 : Value).ownBlock)) (n := t195.length) (c := co23) ?_).2.2; exact (by (with_reducible repeat (first | apply Kd.R_alloc | apply Kd.R_drewN | apply Kd.R_drew)); exact (Kd.R_mono (Kd.R_far (p := ⟨gb219, 2, none⟩) (Kd.R_far (p := ⟨gb219, 1, none⟩) (Kd.R_far (p := ⟨gb219, 0, none⟩) (Kd.R_types HO197.out BK219.out (by decide)) (fun _ hk => hk.2) (.int .i64 t211)) (fun _ hk => hk.2) (.slice Ao39 t212.length co39)) (fun _ hk => hk.2) (.slice Ao40 t215.length co40)) (fun _ h_ => h_.1)))); (case side6 => exact (Kd.R_reads' HO197.out).2.1); (case side7 => refine (Kd.R_reads' (e := 3) (base := w.heap.size) (ok := fun k_ => ((((((some k_ ≠ (.slice Ao23 t195.length co23 : Value).ownBlock ∧ some k_ ≠ (.slice Ao17 t188.length co17 : Value).ownBlock) ∧ some k_ ≠ (.slice Ao18 t191.length co18 : Value).ownBlock) ∧ some k_ ≠ (.slice Ao31 t204.length co31 : Value).ownBlock) ∧ some k_ ≠ (.slice Ao32 t207.length co32 : Value).ownBlock) ∧ some k_ ≠ (.slice Ao39 t212.length co39 : Value).ownBlock) ∧ some k_ ≠ (.slice Ao40 t215.length co40 : Value).ownBlock)) (n := t198.length) (c := co24) ?_).2.2; exact (by (with_reducible repeat (first | apply Kd.R_alloc | apply Kd.R_drewN | apply Kd.R_drew)); exact (Kd.R_mono (Kd.R_far (p := ⟨gb219, 2, none⟩) (Kd.R_far (p := ⟨gb219, 1, none⟩) (Kd.R_far (p := ⟨gb219, 0, none⟩) (Kd.R_types HO200.out BK219.out (by decide)) (fun _ hk => hk.2) (.int .i64 t211)) (fun _ hk => hk.2) (.slice Ao39 t212.length co39)) (fun _ hk => hk.2) (.slice Ao40 t215.length co40)) (fun _ h_ => h_.1)))); (case side8 => exact (Kd.R_reads' HO200.out).2.1); rintro e w58 ⟨rfl, hb⟩; refine ⟨_, rfl, ?_⟩; replace HO190 := Aside0.mk (Kd.R_below (by (with_reducible repeat (first | apply Kd.R_alloc | apply Kd.R_drewN | apply Kd.R_drew)); exact (Kd.R_mono (Kd.R_far (p := ⟨gb219, 2, none⟩) (Kd.R_far (p := ⟨gb219, 1, none⟩) (Kd.R_far (p := ⟨gb219, 0, none⟩) (Kd.R_types HO190.out BK219.out (by decide)) (fun _ hk => hk.2) (.int .i64 t211)) (fun _ hk => hk.2) (.slice Ao39 t212.length co39)) (fun _ hk => hk.2) (.slice Ao40 t215.length co40)) (fun _ h_ => h_.1))) hb); replace HO193 := Aside0.mk (Kd.R_below (by (with_reducible repeat (first | apply Kd.R_alloc | apply Kd.R_drewN | apply Kd.R_drew)); exact (Kd.R_mono (Kd.R_far (p := ⟨gb219, 2, none⟩) (Kd.R_far (p := ⟨gb219, 1, none⟩) (Kd.R_far (p := ⟨gb219, 0, none⟩) (Kd.R_types HO193.out BK219.out (by decide)) (fun _ hk => hk.2) (.int .i64 t211)) (fun _ hk => hk.2) (.slice Ao39 t212.length co39)) (fun _ hk => hk.2) (.slice Ao40 t215.length co40)) (fun _ h_ => h_.1))) hb); replace HO197 := Aside0.mk (Kd.R_below (by (with_reducible repeat (first | apply Kd.R_alloc | apply Kd.R_drewN | apply Kd.R_drew)); exact (Kd.R_mono (Kd.R_far (p := ⟨gb219, 2, none⟩) (Kd.R_far (p := ⟨gb219, 1, none⟩) (Kd.R_far (p := ⟨gb219, 0, none⟩) (Kd.R_types HO197.out BK219.out (by decide)) (fun _ hk => hk.2) (.int .i64 t211)) (fun _ hk => hk.2) (.slice Ao39 t212.length co39)) (fun _ hk => hk.2) (.slice Ao40 t215.length co40)) (fun _ h_ => h_.1))) hb); replace HO200 := Aside0.mk (Kd.R_below (by (with_reducible repeat (first | apply Kd.R_alloc | apply Kd.R_drewN | apply Kd.R_drew)); exact (Kd.R_mono (Kd.R_far (p := ⟨gb219, 2, none⟩) (Kd.R_far (p := ⟨gb219, 1, none⟩) (Kd.R_far (p := ⟨gb219, 0, none⟩) (Kd.R_types HO200.out BK219.out (by decide)) (fun _ hk => hk.2) (.int .i64 t211)) (fun _ hk => hk.2) (.slice Ao39 t212.length co39)) (fun _ hk => hk.2) (.slice Ao40 t215.length co40)) (fun _ h_ => h_.1))) hb); replace HO206 := Aside0.mk (Kd.R_below (by (with_reducible repeat (first | apply Kd.R_alloc | apply Kd.R_drewN | apply Kd.R_drew)); exact (Kd.R_mono (Kd.R_far (p := ⟨gb219, 2, none⟩) (Kd.R_far (p := ⟨gb219, 1, none⟩) (Kd.R_far (p := ⟨gb219, 0, none⟩) (Kd.R_types HO206.out BK219.out (by decide)) (fun _ hk => hk.2) (.int .i64 t211)) (fun _ hk => hk.2) (.slice Ao39 t212.length co39)) (fun _ hk => hk.2) (.slice Ao40 t215.length co40)) (fun _ h_ => h_.1))) hb); replace HO209 := Aside0.mk (Kd.R_below (by (with_reducible repeat (first | apply Kd.R_alloc | apply Kd.R_drewN | apply Kd.R_drew)); exact (Kd.R_mono (Kd.R_far (p := ⟨gb219, 2, none⟩) (Kd.R_far (p := ⟨gb219, 1, none⟩) (Kd.R_far (p := ⟨gb219, 0, none⟩) (Kd.R_types HO209.out BK219.out (by decide)) (fun _ hk => hk.2) (.int .i64 t211)) (fun _ hk => hk.2) (.slice Ao39 t212.length co39)) (fun _ hk => hk.2) (.slice Ao40 t215.length co40)) (fun _ h_ => h_.1))) hb); replace HO214 := Aside0.mk (Kd.R_below (by (with_reducible repeat (first | apply Kd.R_alloc | apply Kd.R_drewN | apply Kd.R_drew)); exact (Kd.R_mono (Kd.R_far (p := ⟨gb219, 2, none⟩) (Kd.R_far (p := ⟨gb219, 1, none⟩) (Kd.R_far (p := ⟨gb219, 0, none⟩) (Kd.R_types HO214.out BK219.out (by decide)) (fun _ hk => hk.2) (.int .i64 t211)) (fun _ hk => hk.2) (.slice Ao39 t212.length co39)) (fun _ hk => hk.2) (.slice Ao40 t215.length co40)) (fun _ h_ => h_.1))) hb); replace HO217 := Aside0.mk (Kd.R_below (by (with_reducible repeat (first | apply Kd.R_alloc | apply Kd.R_drewN | apply Kd.R_drew)); exact (Kd.R_mono (Kd.R_far (p := ⟨gb219, 2, none⟩) (Kd.R_far (p := ⟨gb219, 1, none⟩) (Kd.R_far (p := ⟨gb219, 0, none⟩) (Kd.R_types HO217.out BK219.out (by decide)) (fun _ hk => hk.2) (.int .i64 t211)) (fun _ hk => hk.2) (.slice Ao39 t212.length co39)) (fun _ hk => hk.2) (.slice Ao40 t215.length co40)) (fun _ h_ => h_.1))) hb); replace BK185 := Aside0.mk (blk_below (g := gb185) (o := .cells #[.int .i64 a0_0, .slice A0_1 l0_1.length c0_1, .slice A0_2 l0_2.length c0_2] 24 (0, 0)) (by (with_reducible repeat (first | refine blk_drewN ?_ _ | refine blk_drew ?_ | refine blk_alloc ?_ _)); refine blk_far ?_ NB185_219.out _; (with_reducible repeat (first | refine blk_drewN ?_ _ | refine blk_drew ?_ | refine blk_alloc ?_ _)); refine blk_far ?_ NB185_219.out _; (with_reducible repeat (first | refine blk_drewN ?_ _ | refine blk_drew ?_ | refine blk_alloc ?_ _)); refine blk_far ?_ NB185_219.out _; (with_reducible repeat (first | refine blk_drewN ?_ _ | refine blk_drew ?_ | refine blk_alloc ?_ _)); exact BK185.out) hb); replace BK202 := Aside0.mk (blk_below (g := gb202) (o := .cells #[.int .i64 t194, .slice Ao23 t195.length co23, .slice Ao24 t198.length co24] 28 (0, 0)) (by (with_reducible repeat (first | refine blk_drewN ?_ _ | refine blk_drew ?_ | refine blk_alloc ?_ _)); refine blk_far ?_ NB202_219.out _; (with_reducible repeat (first | refine blk_drewN ?_ _ | refine blk_drew ?_ | refine blk_alloc ?_ _)); refine blk_far ?_ NB202_219.out _; (with_reducible repeat (first | refine blk_drewN ?_ _ | refine blk_drew ?_ | refine blk_alloc ?_ _)); refine blk_far ?_ NB202_219.out _; (with_reducible repeat (first | refine blk_drewN ?_ _ | refine blk_drew ?_ | refine blk_alloc ?_ _)); exact BK202.out) hb); replace BK210 := Aside0.mk (blk_below (g := gb210) (o := .cells #[.int .i64 t203, .slice Ao31 t204.length co31, .slice Ao32 t207.length co32] 28 (0, 0)) (by (with_reducible repeat (first | refine blk_drewN ?_ _ | refine blk_drew ?_ | refine blk_alloc ?_ _)); refine blk_far ?_ NB210_219.out _; (with_reducible repeat (first | refine blk_drewN ?_ _ | refine blk_drew ?_ | refine blk_alloc ?_ _)); refine blk_far ?_ NB210_219.out _; (with_reducible repeat (first | refine blk_drewN ?_ _ | refine blk_drew ?_ | refine blk_alloc ?_ _)); refine blk_far ?_ NB210_219.out _; (with_reducible repeat (first | refine blk_drewN ?_ _ | refine blk_drew ?_ | refine blk_alloc ?_ _)); exact BK210.out) hb); replace BK219 := Aside0.mk (blk_below (g := gb219) (o := .cells #[.int .i64 t211, .slice Ao39 t212.length co39, .slice Ao40 t215.length co40] 28 (0, 0)) (by (with_reducible repeat (first | refine blk_drewN ?_ _ | refine blk_drew ?_ | refine blk_alloc ?_ _)); refine blk_put (cs := #[.int .i64 t211, .slice Ao39 t212.length co39, .slice none 0 0]) ?_ 2 _ rfl; (with_reducible repeat (first | refine blk_drewN ?_ _ | refine blk_drew ?_ | refine blk_alloc ?_ _)); refine blk_put (cs := #[.int .i64 t211, .slice none 0 0, .slice none 0 0]) ?_ 1 _ rfl; (with_reducible repeat (first | refine blk_drewN ?_ _ | refine blk_drew ?_ | refine blk_alloc ?_ _)); refine blk_put (cs := #[.int .i64 0, .slice none 0 0, .slice none 0 0]) ?_ 0 _ rfl; (with_reducible repeat (first | refine blk_drewN ?_ _ | refine blk_drew ?_ | refine blk_alloc ?_ _)); exact BK219.out) hb); replace HB := Aside0.mk (below_step (tB HB.out) hb); (try clear hb); (try clear hb2); (try clear hk); (try clear hi)))
    go_meet
    case rel => exact ⟨_, (true), (by first | rfl | (simp; done) | (simp [wrap64]; done) | (simp [*]; done)), H', ⟨by first | omega | exact Nat.le_refl _⟩, ⟨by (with_reducible repeat (first | apply Kd.R_alloc | apply Kd.R_drewN | apply Kd.R_drew)); exact Kd.R_mono HO197.out (fun _ hk => ⟨hk.1.1.1.1.1.1, ⟨hk.1.1.1.2, ⟨hk.1.1.2, ⟨hk.1.2, hk.2⟩⟩⟩⟩)⟩, ⟨by (with_reducible repeat (first | apply Kd.R_alloc | apply Kd.R_drewN | apply Kd.R_drew)); exact Kd.R_mono HO200.out (fun _ hk => ⟨hk.1.1.1.1.1.1, ⟨hk.1.1.1.2, ⟨hk.1.1.2, ⟨hk.1.2, hk.2⟩⟩⟩⟩)⟩, ⟨by (with_reducible repeat (first | apply Kd.R_alloc | apply Kd.R_drewN | apply Kd.R_drew)); exact Kd.R_mono HO206.out (fun _ hk => ⟨hk.1.1.1.2, ⟨hk.1.1.2, ⟨hk.1.1.1.1.1.1, ⟨hk.1.2, hk.2⟩⟩⟩⟩)⟩, ⟨by (with_reducible repeat (first | apply Kd.R_alloc | apply Kd.R_drewN | apply Kd.R_drew)); exact Kd.R_mono HO209.out (fun _ hk => ⟨hk.1.1.1.2, ⟨hk.1.1.2, ⟨hk.1.1.1.1.1.1, ⟨hk.1.2, hk.2⟩⟩⟩⟩)⟩, ⟨by (with_reducible repeat (first | apply Kd.R_alloc | apply Kd.R_drewN | apply Kd.R_drew)); exact Kd.R_mono HO214.out (fun _ hk => ⟨hk.1.1.1.2, ⟨hk.1.1.2, ⟨hk.1.2, ⟨hk.2, hk.1.1.1.1.1.1⟩⟩⟩⟩)⟩, ⟨by (with_reducible repeat (first | apply Kd.R_alloc | apply Kd.R_drewN | apply Kd.R_drew)); exact Kd.R_mono HO217.out (fun _ hk => ⟨hk.1.1.1.2, ⟨hk.1.1.2, ⟨hk.1.2, ⟨hk.2, hk.1.1.1.1.1.1⟩⟩⟩⟩)⟩, ⟨tK BK185.out⟩, ⟨tK BK202.out⟩, ⟨tK BK210.out⟩, ⟨tK BK219.out⟩, ⟨tB HB.out⟩⟩
  case rest =>
   clear HC11
   try clear c1
   try clear c2
   try clear p2
   try clear c3
   try clear c3b0
   try clear c4
   try clear c5
   try clear p6
   try clear c15
   try clear c17
   try clear c19
   try clear c21
   try clear c22
   try clear c23
   try clear c28
   try clear c29
   try clear c35
   try clear c36
   try clear c37
   try clear c42
   try clear c43
   try clear c44
   try clear c45
   try clear c47
   try clear c48
   try clear c51
   try clear c52
   try clear c53
   try clear c55
   try clear c56
   try clear hcz13_0
   try clear hcz13_1
   try clear hcz13_2
   try clear hcz15_0
   try clear hcz15_1
   try clear hcz15_2
   try clear hcz22_0
   try clear hcz22_1
   try clear hcz22_2
   try clear hcz25_0
   try clear hcz25_1
   try clear hcz25_2
   try clear hcz30_0
   try clear hcz30_1
   try clear hcz30_2
   try clear hcz38_0
   try clear hcz38_1
   try clear hcz38_2
   try clear hcz46_0
   try clear hcz46_1
   try clear hcz46_2
   try clear hcz49_0
   try clear hcz49_1
   try clear hcz49_2
   try clear hcz54_0
   try clear hcz54_1
   try clear hcz54_2
   try clear hcz57_0
   try clear hcz57_1
   try clear hcz57_2
   try clear hcz5_0
   try clear hcz5_1
   try clear hcz5_2
   try clear hfz13_0
   try clear hfz13_1
   try clear hfz13_2
   try clear hfz15_0
   try clear hfz15_1
   try clear hfz15_2
   try clear hfz22_0
   try clear hfz22_1
   try clear hfz22_2
   try clear hfz25_0
   try clear hfz25_1
   try clear hfz25_2
   try clear hfz30_0
   try clear hfz30_1
   try clear hfz30_2
   try clear hfz38_0
   try clear hfz38_1
   try clear hfz38_2
   try clear hfz46_0
   try clear hfz46_1
   try clear hfz46_2
   try clear hfz49_0
   try clear hfz49_1
   try clear hfz49_2
   try clear hfz54_0
   try clear hfz54_1
   try clear hfz54_2
   try clear hfz57_0
   try clear hfz57_1
   try clear hfz57_2
   try clear hfz5_0
   try clear hfz5_1
   try clear hfz5_2
   obtain ⟨kq, x40_10, rfl, HA, HJ10, HO_203001, HO_203002, HO_211001, HO_211002, HO_220001, HO_220002, BK185, BK202, BK210, BK219, HB⟩ := hcut
   cases kq with
   | zero => exact absurd HA.out (by simp [laws_FnExactDropTop.j0])
   | succ kj10 =>
    have H := HA.out
    clear HA
    simp only [laws_FnExactDropTop.j0] at H
    by_cases c59 : x40_10 = true
    ·
     subst c59
     have H1 : (some false) = some r := by rw [if_pos rfl] at H; exact H
     clear H
     have H := H1
     clear H1
     obtain rfl := Option.some.inj H
     go_wp2
     go_ret
     exact ⟨by first | rfl | (simp [errW_none, errW_some] <;> rfl) | (simp [*, errW_none, errW_some] <;> rfl), tB HB.out⟩
    ·
     replace c59 := Bool.eq_false_iff.mpr c59
     subst c59
     have H1 : ((laws_toPile.f kj10 a0_0 l0_1 l0_2).bind fun bt221 => ((laws_eqPile.f kj10 t203 t204 t207 bt221.1 bt221.2.1 bt221.2.2).bind fun t228 => (if t228 = true then ((laws_markPile.f kj10 t203 t204 t207 1).bind fun bt229 => (if bt229.1 < 0 then (laws_FnExactDropTop.j1 kj10 t201 true a0_0 l0_1 l0_2 t194 t195 t198 t211 t212 t215) else ((laws_eqPile.f kj10 t211 t212 t215 t194 t195 t198).bind fun t232 => (if t232 = true then (laws_FnExactDropTop.j1 kj10 t201 (t218 != t201) a0_0 l0_1 l0_2 t194 t195 t198 t211 t212 t215) else (laws_FnExactDropTop.j1 kj10 t201 true a0_0 l0_1 l0_2 t194 t195 t198 t211 t212 t215))))) else (some false)))) = some r := by rw [if_neg (show ¬ (false = true) by decide)] at H; exact H
     clear H
     have H := H1
     clear H1
     replace H := Option.bind_eq_some_iff.mp H
     obtain ⟨⟨t221, t222, t225⟩, A600, H⟩ := H
     replace H : ((laws_eqPile.f kj10 t203 t204 t207 t221 t222 t225).bind fun t228 => (if t228 = true then ((laws_markPile.f kj10 t203 t204 t207 1).bind fun bt229 => (if bt229.1 < 0 then (laws_FnExactDropTop.j1 kj10 t201 true a0_0 l0_1 l0_2 t194 t195 t198 t211 t212 t215) else ((laws_eqPile.f kj10 t211 t212 t215 t194 t195 t198).bind fun t232 => (if t232 = true then (laws_FnExactDropTop.j1 kj10 t201 (t218 != t201) a0_0 l0_1 l0_2 t194 t195 t198 t211 t212 t215) else (laws_FnExactDropTop.j1 kj10 t201 true a0_0 l0_1 l0_2 t194 t195 t198 t211 t212 t215))))) else (some false))) = some r := H
     have A60 := Aside0.mk A600
     clear A600
     replace H := Option.bind_eq_some_iff.mp H
     obtain ⟨t228, A610, H⟩ := H
     replace H : (if t228 = true then ((laws_markPile.f kj10 t203 t204 t207 1).bind fun bt229 => (if bt229.1 < 0 then (laws_FnExactDropTop.j1 kj10 t201 true a0_0 l0_1 l0_2 t194 t195 t198 t211 t212 t215) else ((laws_eqPile.f kj10 t211 t212 t215 t194 t195 t198).bind fun t232 => (if t232 = true then (laws_FnExactDropTop.j1 kj10 t201 (t218 != t201) a0_0 l0_1 l0_2 t194 t195 t198 t211 t212 t215) else (laws_FnExactDropTop.j1 kj10 t201 true a0_0 l0_1 l0_2 t194 t195 t198 t211 t212 t215))))) else (some false)) = some r := H
     have A61 := Aside0.mk A610
     clear A610
     by_cases c62 : t228 = true
     ·
      subst c62
      have H1 : ((laws_markPile.f kj10 t203 t204 t207 1).bind fun bt229 => (if bt229.1 < 0 then (laws_FnExactDropTop.j1 kj10 t201 true a0_0 l0_1 l0_2 t194 t195 t198 t211 t212 t215) else ((laws_eqPile.f kj10 t211 t212 t215 t194 t195 t198).bind fun t232 => (if t232 = true then (laws_FnExactDropTop.j1 kj10 t201 (t218 != t201) a0_0 l0_1 l0_2 t194 t195 t198 t211 t212 t215) else (laws_FnExactDropTop.j1 kj10 t201 true a0_0 l0_1 l0_2 t194 t195 t198 t211 t212 t215))))) = some r := by rw [if_pos rfl] at H; exact H
      clear H
      have H := H1
      clear H1
      replace H := Option.bind_eq_some_iff.mp H
      obtain ⟨⟨t229, t230, t231⟩, A630, H⟩ := H
      replace H : (if t229 < 0 then (laws_FnExactDropTop.j1 kj10 t201 true a0_0 l0_1 l0_2 t194 t195 t198 t211 t212 t215) else ((laws_eqPile.f kj10 t211 t212 t215 t194 t195 t198).bind fun t232 => (if t232 = true then (laws_FnExactDropTop.j1 kj10 t201 (t218 != t201) a0_0 l0_1 l0_2 t194 t195 t198 t211 t212 t215) else (laws_FnExactDropTop.j1 kj10 t201 true a0_0 l0_1 l0_2 t194 t195 t198 t211 t212 t215)))) = some r := H
      have A63 := Aside0.mk A630
      clear A630
      have HC64 := Aside0.mk H
      clear H
      try go_wp2
      replace HO_203001 := Aside0.mk (Kd.R_drew HO_203001.out)
      replace HO_203002 := Aside0.mk (Kd.R_drew HO_203002.out)
      replace HO_211001 := Aside0.mk (Kd.R_drew HO_211001.out)
      replace HO_211002 := Aside0.mk (Kd.R_drew HO_211002.out)
      replace HO_220001 := Aside0.mk (Kd.R_drew HO_220001.out)
      replace HO_220002 := Aside0.mk (Kd.R_drew HO_220002.out)
      replace BK185 := Aside0.mk (blk_drew BK185.out)
      replace BK202 := Aside0.mk (blk_drew BK202.out)
      replace BK210 := Aside0.mk (blk_drew BK210.out)
      replace BK219 := Aside0.mk (blk_drew BK219.out)
      replace HB := Aside0.mk (below_drew1 HB.out)
      refine start_ (n := 5) (S := fun w' => w'.cell? ⟨gb210, 0, none⟩ = some (.int .i64 t203) ∧ w'.cell? ⟨gb210, 1, none⟩ = some (.slice Ao31 t204.length co31) ∧ w'.cell? ⟨gb210, 2, none⟩ = some (.slice Ao32 t207.length co32) ∧ w'.cell? ⟨gb185, 0, none⟩ = some (.int .i64 a0_0) ∧ w'.cell? ⟨gb185, 1, none⟩ = some (.slice A0_1 l0_1.length c0_1) ∧ w'.cell? ⟨gb185, 2, none⟩ = some (.slice A0_2 l0_2.length c0_2)) (ds := []) #[false, false, false, false, false] (by kernel_rfl) rfl rfl ⟨(blk_cell BK210.out 0).trans rfl, (blk_cell BK210.out 1).trans rfl, (blk_cell BK210.out 2).trans rfl, (blk_cell BK185.out 0).trans rfl, (blk_cell BK185.out 1).trans rfl, (blk_cell BK185.out 2).trans rfl⟩ (fun hHeld => ?_)
      generalize wc.drew = w65 at HO_203001 HO_203002 HO_211001 HO_211002 HO_220001 HO_220002 BK185 BK202 BK210 BK219 HB hHeld ⊢
      refine take_ (i := 0) (N := some 41) (v := ?_) (a' := ?_) #[true, false, false, false, false] rfl rfl (by kernel_rfl) (fun _ _ _ h => h) (Or.inl ⟨by rfl, ?_⟩) hHeld ?_ ?_
      rotate_left
      ·
       rintro w' ⟨s0, s1, s2, s3, s4, s5⟩
       go_simp
       with_reducible rfl
      rotate_left
      ·
       simp only [Act.put, List.setIfInBounds_toArray, List.set_cons_zero, List.set_cons_succ, i64_w, i32_w]
       rfl
      refine take_ (i := 1) (N := some 42) (v := ?_) (a' := ?_) #[true, true, false, false, false] rfl rfl (by kernel_rfl) (fun _ _ _ h => h) (Or.inl ⟨by rfl, ?_⟩) hHeld ?_ ?_
      rotate_left
      ·
       rintro w' ⟨s0, s1, s2, s3, s4, s5⟩
       go_simp
       with_reducible rfl
      rotate_left
      ·
       simp only [Act.put, List.setIfInBounds_toArray, List.set_cons_zero, List.set_cons_succ, i64_w, i32_w]
       rfl
      refine one_ (i := 2) (N := some 43) #[true, true, true, false, false] rfl rfl (by kernel_rfl) (by decide) (fun K hK => ?_)
      refine goes_ Try.func17 (by kernel_rfl) rfl #[.agg #[.int .i64 a0_0, .slice A0_1 l0_1.length c0_1, .slice A0_2 l0_2.length c0_2]] (by rfl) rfl rfl tM ?_
      with_reducible refine (laws_toPile.calls kj10 a0_0 _ _ l0_1 _ _ l0_2 t221 t222 t225 _ ?side1 ?side2 ?side3 ?side4 A60.out).mono ?_
      (case side1 => exact tC (Kd.C_below HR0_1.out HB.out))
      (case side2 => exact HC0_1.out)
      (case side3 => exact tC (Kd.C_below HR0_2.out HB.out))
      (case side4 => exact HC0_2.out)
      rintro e w66 ⟨v223, v226, rfl, ho0, ho1, hb⟩
      refine ⟨_, rfl, ?_⟩
      have HO224 := Aside0.mk (Kd.R_lower (Kd.R_new' (Kd.R_new' (Kd.R_new' (Kd.R_new' (Kd.R_new' (Kd.R_new' ho0 (Kd.R_lt (tR HO_203001.out))) (Kd.R_lt (tR HO_203002.out))) (Kd.R_lt (tR HO_211001.out))) (Kd.R_lt (tR HO_211002.out))) (Kd.R_lt (tR HO_220001.out))) (Kd.R_lt (tR HO_220002.out))) (below_size (tB HB.out)))
      have HO227 := Aside0.mk (Kd.R_lower (Kd.R_new' (Kd.R_new' (Kd.R_new' (Kd.R_new' (Kd.R_new' (Kd.R_new' ho1 (Kd.R_lt (tR HO_203001.out))) (Kd.R_lt (tR HO_203002.out))) (Kd.R_lt (tR HO_211001.out))) (Kd.R_lt (tR HO_211002.out))) (Kd.R_lt (tR HO_220001.out))) (Kd.R_lt (tR HO_220002.out))) (below_size (tB HB.out)))
      replace HO_203001 := Aside0.mk (Kd.R_mono (Kd.R_told (Kd.R_told (Kd.R_old (tR HO_203001.out) hb) (Kd.R_base ho0)) (Kd.R_base ho1)) (fun _ h_ => h_.1))
      replace HO_203002 := Aside0.mk (Kd.R_mono (Kd.R_told (Kd.R_told (Kd.R_old (tR HO_203002.out) hb) (Kd.R_base ho0)) (Kd.R_base ho1)) (fun _ h_ => h_.1))
      replace HO_211001 := Aside0.mk (Kd.R_mono (Kd.R_told (Kd.R_told (Kd.R_old (tR HO_211001.out) hb) (Kd.R_base ho0)) (Kd.R_base ho1)) (fun _ h_ => h_.1))
      replace HO_211002 := Aside0.mk (Kd.R_mono (Kd.R_told (Kd.R_told (Kd.R_old (tR HO_211002.out) hb) (Kd.R_base ho0)) (Kd.R_base ho1)) (fun _ h_ => h_.1))
      replace HO_220001 := Aside0.mk (Kd.R_mono (Kd.R_told (Kd.R_told (Kd.R_old (tR HO_220001.out) hb) (Kd.R_base ho0)) (Kd.R_base ho1)) (fun _ h_ => h_.1))
      replace HO_220002 := Aside0.mk (Kd.R_mono (Kd.R_told (Kd.R_told (Kd.R_old (tR HO_220002.out) hb) (Kd.R_base ho0)) (Kd.R_base ho1)) (fun _ h_ => h_.1))
      replace BK185 := bkB BK185 hb
      replace BK202 := bkB BK202 hb
      replace BK210 := bkB BK210 hb
      replace BK219 := bkB BK219 hb
      replace HB := Aside0.mk (below_step (tB HB.out) hb)
      (try clear hb)
      (try clear hb2)
      (try clear hk)
      (try clear hi)
      (try clear ho0)
      (try clear ho1)
      obtain ⟨Ao67, co67, eo67⟩ := Kd.R_slice HO224.out
      (first | subst eo67 | (injection eo67 with f1_ f2_ f3_; have f4_ := f1_.symm; have f5_ := f3_.symm; clear f1_ f2_ f3_; subst f4_; subst f5_))
      obtain ⟨Ao68, co68, eo68⟩ := Kd.R_slice HO227.out
      (first | subst eo68 | (injection eo68 with f1_ f2_ f3_; have f4_ := f1_.symm; have f5_ := f3_.symm; clear f1_ f2_ f3_; subst f4_; subst f5_))
      refine hK.out _ _ ⟨(blk_cell BK210.out 0).trans rfl, (blk_cell BK210.out 1).trans rfl, (blk_cell BK210.out 2).trans rfl, (blk_cell BK185.out 0).trans rfl, (blk_cell BK185.out 1).trans rfl, (blk_cell BK185.out 2).trans rfl⟩ (fun hHeld => ?_)
      clear hK K
      refine norm_ (a' := ?_) ?_ ?_
      rotate_left
      ·
       show Act.put _ (some 43) _ = _
       simp only [Act.put, List.setIfInBounds_toArray, List.set_cons_zero, List.set_cons_succ, i64_w, i32_w]
       rfl
      refine one_ (i := 3) (N := some 44) #[true, true, true, true, false] rfl rfl (by kernel_rfl) (by decide) (fun K hK => ?_)
      refine goes_ Try.func19 (by kernel_rfl) rfl #[.agg #[.int .i64 t203, .slice Ao31 t204.length co31, .slice Ao32 t207.length co32], .agg #[.int .i64 t221, .slice Ao67 t222.length co67, .slice Ao68 t225.length co68]] (by rfl) rfl rfl tM ?_
      with_reducible refine (laws_eqPile.calls kj10 t203 _ _ t204 _ _ t207 t221 _ _ t222 _ _ t225 true _ ?side1 ?side2 ?side3 ?side4 ?side5 ?side6 ?side7 ?side8 A61.out).mono ?_
      (case side1 => exact tC (Kd.R_reads' HO_211001.out).2.2)
      (case side2 => exact (Kd.R_reads' HO_211001.out).2.1)
      (case side3 => exact tC (Kd.R_reads' HO_211002.out).2.2)
      (case side4 => exact (Kd.R_reads' HO_211002.out).2.1)
      (case side5 => exact tC (Kd.R_reads' HO224.out).2.2)
      (case side6 => exact (Kd.R_reads' HO224.out).2.1)
      (case side7 => exact tC (Kd.R_reads' HO227.out).2.2)
      (case side8 => exact (Kd.R_reads' HO227.out).2.1)
      rintro e w69 ⟨rfl, hb⟩
      refine ⟨_, rfl, ?_⟩
      replace HO_203001 := Aside0.mk (Kd.R_below (tR HO_203001.out) hb)
      replace HO_203002 := Aside0.mk (Kd.R_below (tR HO_203002.out) hb)
      replace HO_211001 := Aside0.mk (Kd.R_below (tR HO_211001.out) hb)
      replace HO_211002 := Aside0.mk (Kd.R_below (tR HO_211002.out) hb)
      replace HO_220001 := Aside0.mk (Kd.R_below (tR HO_220001.out) hb)
      replace HO_220002 := Aside0.mk (Kd.R_below (tR HO_220002.out) hb)
      replace HO224 := Aside0.mk (Kd.R_below (tR HO224.out) hb)
      replace HO227 := Aside0.mk (Kd.R_below (tR HO227.out) hb)
      replace BK185 := bkB BK185 hb
      replace BK202 := bkB BK202 hb
      replace BK210 := bkB BK210 hb
      replace BK219 := bkB BK219 hb
      replace HB := Aside0.mk (below_step (tB HB.out) hb)
      (try clear hb)
      (try clear hb2)
      (try clear hk)
      (try clear hi)
      refine hK.out _ _ ⟨(blk_cell BK210.out 0).trans rfl, (blk_cell BK210.out 1).trans rfl, (blk_cell BK210.out 2).trans rfl, (blk_cell BK185.out 0).trans rfl, (blk_cell BK185.out 1).trans rfl, (blk_cell BK185.out 2).trans rfl⟩ (fun hHeld => ?_)
      clear hK K
      refine norm_ (a' := ?_) ?_ ?_
      rotate_left
      ·
       show Act.put _ (some 44) _ = _
       simp only [Act.put, List.setIfInBounds_toArray, List.set_cons_zero, List.set_cons_succ, i64_w, i32_w]
       rfl
      refine pure_ (i := 4) (N := some 45) (v := ?_) (a' := ?_) #[true, true, true, true, true] rfl rfl (by kernel_rfl) (fun _ _ _ h => h) (Or.inl ⟨by rfl, ?_⟩) ?_ ?_
      rotate_left
      ·
       intro w'
       go_simp
       with_reducible rfl
      rotate_left
      ·
       simp only [Act.put, List.setIfInBounds_toArray, List.set_cons_zero, List.set_cons_succ, i64_w, i32_w]
       rfl
      refine done_ (by kernel_rfl) ?_
      have hnb70 := NB210_185.out
      have hnc70 := NB185_210.out
      have hnb71 := NB210_202.out
      have hnc71 := NB202_210.out
      have hnb72 := NB210_219.out
      have hnc72 := NB219_210.out
      obtain ⟨hcz73_0, hfz73_0, hcz73_1, hfz73_1, hcz73_2, hfz73_2⟩ := cz3 BK210
      go_upto_region 14 with (first | ((with_reducible refine gate_callee (f := 24) rfl ?_); refine goesL_ (some 48) rfl rfl Try.func24 (by kernel_rfl) rfl #[.agg #[.int .i64 t203, .slice Ao31 t204.length co31, .slice Ao32 t207.length co32], .int .i64 1] rfl tM ?_; (with_reducible refine (laws_markPile.calls kj10 t203 (fun k_ => some k_ = (.slice Ao31 t204.length co31 : Value).ownBlock) (.slice Ao31 t204.length co31) t204 (fun k_ => some k_ = (.slice Ao32 t207.length co32 : Value).ownBlock) (.slice Ao32 t207.length co32) t207 1 t229 t230 t231 w _ ?side1 ?side2 ?side3 ?side4 ?side5 A63.out).mono ?_); (case side1 => repeat (first | (with_reducible first | exact HB.out | apply below_alloc | apply pw_below_drewN | apply below_drew1 | refine below_set ?_ GE185.out | refine below_set ?_ GE202.out | refine below_set ?_ GE210.out | refine below_set ?_ GE219.out) | exact HB.out)); (case side2 => exact Kd.R_tight rfl HO_211001.out); (case side3 => exact fun k_ e_ => (HO_211001.out.1 k_ e_.symm).1.1.2.2.1); (case side4 => exact Kd.R_tight rfl HO_211002.out); (case side5 => exact fun k_ e_ => (HO_211002.out.1 k_ e_.symm).1.1.2.2.1); rintro e w74 ⟨rfl, hy0, hy1, hb, hkp⟩; refine ⟨_, rfl, ?_⟩; replace HO_203001 := Aside0.mk (Kd.R_mono (ok' := fun k_ => some k_ ≠ (.slice Ao24 t198.length co24 : Value).ownBlock ∧ some k_ ≠ (.slice Ao31 t204.length co31 : Value).ownBlock ∧ some k_ ≠ (.slice Ao32 t207.length co32 : Value).ownBlock ∧ some k_ ≠ (.slice Ao39 t212.length co39 : Value).ownBlock ∧ some k_ ≠ (.slice Ao40 t215.length co40 : Value).ownBlock ∧ some k_ ≠ (.slice Ao67 t222.length co67 : Value).ownBlock ∧ some k_ ≠ (.slice Ao68 t225.length co68 : Value).ownBlock) (Kd.R_keptB (HO_203001.out) hkp (fun k_ hk_ hs_ => Or.elim hs_ (fun e_ => (hk_.1.1.2.1) e_) (fun e_ => (hk_.1.1.2.2.1) e_))) (fun k_ hk_ => ⟨hk_.1.1.1.1, hk_.1.1.1.2.1, hk_.1.1.1.2.2.1, hk_.1.1.1.2.2.2.1, hk_.1.1.1.2.2.2.2, hk_.1.1.2, hk_.1.2⟩)); replace HO_203002 := Aside0.mk (Kd.R_mono (ok' := fun k_ => some k_ ≠ (.slice Ao23 t195.length co23 : Value).ownBlock ∧ some k_ ≠ (.slice Ao31 t204.length co31 : Value).ownBlock ∧ some k_ ≠ (.slice Ao32 t207.length co32 : Value).ownBlock ∧ some k_ ≠ (.slice Ao39 t212.length co39 : Value).ownBlock ∧ some k_ ≠ (.slice Ao40 t215.length co40 : Value).ownBlock ∧ some k_ ≠ (.slice Ao67 t222.length co67 : Value).ownBlock ∧ some k_ ≠ (.slice Ao68 t225.length co68 : Value).ownBlock) (Kd.R_keptB (HO_203002.out) hkp (fun k_ hk_ hs_ => Or.elim hs_ (fun e_ => (hk_.1.1.2.1) e_) (fun e_ => (hk_.1.1.2.2.1) e_))) (fun k_ hk_ => ⟨hk_.1.1.1.1, hk_.1.1.1.2.1, hk_.1.1.1.2.2.1, hk_.1.1.1.2.2.2.1, hk_.1.1.1.2.2.2.2, hk_.1.1.2, hk_.1.2⟩)); replace HO_220001 := Aside0.mk (Kd.R_mono (ok' := fun k_ => some k_ ≠ (.slice Ao23 t195.length co23 : Value).ownBlock ∧ some k_ ≠ (.slice Ao24 t198.length co24 : Value).ownBlock ∧ some k_ ≠ (.slice Ao31 t204.length co31 : Value).ownBlock ∧ some k_ ≠ (.slice Ao32 t207.length co32 : Value).ownBlock ∧ some k_ ≠ (.slice Ao40 t215.length co40 : Value).ownBlock ∧ some k_ ≠ (.slice Ao67 t222.length co67 : Value).ownBlock ∧ some k_ ≠ (.slice Ao68 t225.length co68 : Value).ownBlock) (Kd.R_keptB (HO_220001.out) hkp (fun k_ hk_ hs_ => Or.elim hs_ (fun e_ => (hk_.1.1.2.2.1) e_) (fun e_ => (hk_.1.1.2.2.2.1) e_))) (fun k_ hk_ => ⟨hk_.1.1.1.1, hk_.1.1.1.2.1, hk_.1.1.1.2.2.1, hk_.1.1.1.2.2.2.1, hk_.1.1.1.2.2.2.2, hk_.1.1.2, hk_.1.2⟩)); replace HO_220002 := Aside0.mk (Kd.R_mono (ok' := fun k_ => some k_ ≠ (.slice Ao23 t195.length co23 : Value).ownBlock ∧ some k_ ≠ (.slice Ao24 t198.length co24 : Value).ownBlock ∧ some k_ ≠ (.slice Ao31 t204.length co31 : Value).ownBlock ∧ some k_ ≠ (.slice Ao32 t207.length co32 : Value).ownBlock ∧ some k_ ≠ (.slice Ao39 t212.length co39 : Value).ownBlock ∧ some k_ ≠ (.slice Ao67 t222.length co67 : Value).ownBlock ∧ some k_ ≠ (.slice Ao68 t225.length co68 : Value).ownBlock) (Kd.R_keptB (HO_220002.out) hkp (fun k_ hk_ hs_ => Or.elim hs_ (fun e_ => (hk_.1.1.2.2.1) e_) (fun e_ => (hk_.1.1.2.2.2.1) e_))) (fun k_ hk_ => ⟨hk_.1.1.1.1, hk_.1.1.1.2.1, hk_.1.1.1.2.2.1, hk_.1.1.1.2.2.2.1, hk_.1.1.1.2.2.2.2, hk_.1.1.2, hk_.1.2⟩)); replace BK185 := Aside0.mk (blk_kept (tK BK185.out) hkp (fun hs_ => Or.elim hs_ (fun e_ => (fun e_ => (Kd.R_ne HO_211001.out BK185.out (by decide)) e_) e_) (fun e_ => (fun e_ => (Kd.R_ne HO_211002.out BK185.out (by decide)) e_) e_))); replace BK202 := Aside0.mk (blk_kept (tK BK202.out) hkp (fun hs_ => Or.elim hs_ (fun e_ => (fun e_ => (Kd.R_ne HO_211001.out BK202.out (by decide)) e_) e_) (fun e_ => (fun e_ => (Kd.R_ne HO_211002.out BK202.out (by decide)) e_) e_))); replace BK210 := Aside0.mk (blk_kept (tK BK210.out) hkp (fun hs_ => Or.elim hs_ (fun e_ => (fun e_ => (Kd.R_ne HO_211001.out BK210.out (by decide)) e_) e_) (fun e_ => (fun e_ => (Kd.R_ne HO_211002.out BK210.out (by decide)) e_) e_))); replace BK219 := Aside0.mk (blk_kept (tK BK219.out) hkp (fun hs_ => Or.elim hs_ (fun e_ => (fun e_ => (Kd.R_ne HO_211001.out BK219.out (by decide)) e_) e_) (fun e_ => (fun e_ => (Kd.R_ne HO_211002.out BK219.out (by decide)) e_) e_))); replace HO_211001 := Aside0.mk (Kd.R_reok rfl hy0 (fun k_ e_ => HO_211001.out.1 k_ e_)); replace HO_211002 := Aside0.mk (Kd.R_reok rfl hy1 (fun k_ e_ => HO_211002.out.1 k_ e_)); replace HO224 := Aside0.mk (Kd.R_mono (ok' := fun k_ => some k_ ≠ (.slice Ao23 t195.length co23 : Value).ownBlock ∧ some k_ ≠ (.slice Ao24 t198.length co24 : Value).ownBlock ∧ some k_ ≠ (.slice Ao31 t204.length co31 : Value).ownBlock ∧ some k_ ≠ (.slice Ao32 t207.length co32 : Value).ownBlock ∧ some k_ ≠ (.slice Ao39 t212.length co39 : Value).ownBlock ∧ some k_ ≠ (.slice Ao40 t215.length co40 : Value).ownBlock ∧ some k_ ≠ (.slice Ao68 t225.length co68 : Value).ownBlock) (Kd.R_keptB (HO224.out) hkp (fun k_ hk_ hs_ => Or.elim hs_ (fun e_ => (hk_.1.1.1.2) e_) (fun e_ => (hk_.1.1.2) e_))) (fun k_ hk_ => ⟨hk_.1.1.1.1.1.1.2, hk_.1.1.1.1.1.2, hk_.1.1.1.1.2, hk_.1.1.1.2, hk_.1.1.2, hk_.1.2, hk_.1.1.1.1.1.1.1⟩)); replace HO227 := Aside0.mk (Kd.R_mono (ok' := fun k_ => some k_ ≠ (.slice Ao23 t195.length co23 : Value).ownBlock ∧ some k_ ≠ (.slice Ao24 t198.length co24 : Value).ownBlock ∧ some k_ ≠ (.slice Ao31 t204.length co31 : Value).ownBlock ∧ some k_ ≠ (.slice Ao32 t207.length co32 : Value).ownBlock ∧ some k_ ≠ (.slice Ao39 t212.length co39 : Value).ownBlock ∧ some k_ ≠ (.slice Ao40 t215.length co40 : Value).ownBlock ∧ some k_ ≠ (.slice Ao67 t222.length co67 : Value).ownBlock) (Kd.R_keptB (HO227.out) hkp (fun k_ hk_ hs_ => Or.elim hs_ (fun e_ => (hk_.1.1.1.2) e_) (fun e_ => (hk_.1.1.2) e_))) (fun k_ hk_ => ⟨hk_.1.1.1.1.1.1.2, hk_.1.1.1.1.1.2, hk_.1.1.1.1.2, hk_.1.1.1.2, hk_.1.1.2, hk_.1.2, hk_.1.1.1.1.1.1.1⟩)); replace HB := Aside0.mk (hb); (try clear hb); (try clear hkp); (try clear hy0); (try clear hy1)))
      (try simp only [Act.put, List.setIfInBounds_toArray, List.set_cons_zero, List.set_cons_succ])
      go_cut [61] (fun v61 wc => ∃ (kq : Nat) (x61_63 : Bool), v61 = .bool x61_63 ∧ Aside0 (laws_FnExactDropTop.j1 kq t201 x61_63 a0_0 l0_1 l0_2 t194 t195 t198 t211 t212 t215 = some r) ∧ Aside0 (kq ≤ kj10) ∧ Aside0 (Kd.R (Kd.int .i64) 3 wc w.heap.size (fun k_ => some k_ ≠ ((.slice Ao24 t198.length co24) : Value).ownBlock ∧ some k_ ≠ ((.slice Ao31 t204.length co31) : Value).ownBlock ∧ some k_ ≠ ((.slice Ao32 t207.length co32) : Value).ownBlock ∧ some k_ ≠ ((.slice Ao39 t212.length co39) : Value).ownBlock ∧ some k_ ≠ ((.slice Ao40 t215.length co40) : Value).ownBlock) (.slice Ao23 t195.length co23) t195) ∧ Aside0 (Kd.R (Kd.int .i64) 3 wc w.heap.size (fun k_ => some k_ ≠ ((.slice Ao23 t195.length co23) : Value).ownBlock ∧ some k_ ≠ ((.slice Ao31 t204.length co31) : Value).ownBlock ∧ some k_ ≠ ((.slice Ao32 t207.length co32) : Value).ownBlock ∧ some k_ ≠ ((.slice Ao39 t212.length co39) : Value).ownBlock ∧ some k_ ≠ ((.slice Ao40 t215.length co40) : Value).ownBlock) (.slice Ao24 t198.length co24) t198) ∧ Aside0 (Kd.R (Kd.int .i64) 3 wc w.heap.size (fun k_ => some k_ ≠ ((.slice Ao23 t195.length co23) : Value).ownBlock ∧ some k_ ≠ ((.slice Ao24 t198.length co24) : Value).ownBlock ∧ some k_ ≠ ((.slice Ao32 t207.length co32) : Value).ownBlock ∧ some k_ ≠ ((.slice Ao39 t212.length co39) : Value).ownBlock ∧ some k_ ≠ ((.slice Ao40 t215.length co40) : Value).ownBlock) (.slice Ao31 t204.length co31) t230) ∧ Aside0 (Kd.R (Kd.int .i64) 3 wc w.heap.size (fun k_ => some k_ ≠ ((.slice Ao23 t195.length co23) : Value).ownBlock ∧ some k_ ≠ ((.slice Ao24 t198.length co24) : Value).ownBlock ∧ some k_ ≠ ((.slice Ao31 t204.length co31) : Value).ownBlock ∧ some k_ ≠ ((.slice Ao39 t212.length co39) : Value).ownBlock ∧ some k_ ≠ ((.slice Ao40 t215.length co40) : Value).ownBlock) (.slice Ao32 t207.length co32) t231) ∧ Aside0 (Kd.R (Kd.int .i64) 3 wc w.heap.size (fun k_ => some k_ ≠ ((.slice Ao23 t195.length co23) : Value).ownBlock ∧ some k_ ≠ ((.slice Ao24 t198.length co24) : Value).ownBlock ∧ some k_ ≠ ((.slice Ao31 t204.length co31) : Value).ownBlock ∧ some k_ ≠ ((.slice Ao32 t207.length co32) : Value).ownBlock ∧ some k_ ≠ ((.slice Ao40 t215.length co40) : Value).ownBlock) (.slice Ao39 t212.length co39) t212) ∧ Aside0 (Kd.R (Kd.int .i64) 3 wc w.heap.size (fun k_ => some k_ ≠ ((.slice Ao23 t195.length co23) : Value).ownBlock ∧ some k_ ≠ ((.slice Ao24 t198.length co24) : Value).ownBlock ∧ some k_ ≠ ((.slice Ao31 t204.length co31) : Value).ownBlock ∧ some k_ ≠ ((.slice Ao32 t207.length co32) : Value).ownBlock ∧ some k_ ≠ ((.slice Ao39 t212.length co39) : Value).ownBlock) (.slice Ao40 t215.length co40) t215) ∧ Aside0 (wc.heap[gb185]? = some (.cells #[.int .i64 a0_0, (.slice A0_1 l0_1.length c0_1), (.slice A0_2 l0_2.length c0_2)] 24 (0, 0))) ∧ Aside0 (wc.heap[gb202]? = some (.cells #[.int .i64 t194, (.slice Ao23 t195.length co23), (.slice Ao24 t198.length co24)] 28 (0, 0))) ∧ Aside0 (wc.heap[gb210]? = some (.cells #[.int .i64 t203, (.slice Ao31 t204.length co31), (.slice Ao32 t207.length co32)] 28 (0, 0))) ∧ Aside0 (wc.heap[gb219]? = some (.cells #[.int .i64 t211, (.slice Ao39 t212.length co39), (.slice Ao40 t215.length co40)] 28 (0, 0))) ∧ Aside0 (Below w.heap.size w wc))
      case first =>
       have H := HC64.out
       clear HC64
       by_cases c75 : t229 < 0
       ·
        rw [if_pos c75] at H
        have c75b0 : decide (t229 < 0) = true := decide_eq_true c75
        clear c75
        (first | rw [c75b0] | (simp only [i64_w, i32_w]; rw [c75b0]) | skip)
        have H' := Aside0.mk H
        clear H
        go_wp2
        go_meet
        case rel => exact ⟨_, (true), (by first | rfl | (simp; done) | (simp [wrap64]; done) | (simp [*]; done)), H', ⟨by have := HJ10.out; first | omega | exact Nat.le_refl _⟩, ⟨by (with_reducible repeat (first | apply Kd.R_alloc | apply Kd.R_drewN | apply Kd.R_drew)); exact Kd.R_mono HO_203001.out (fun _ hk => ⟨hk.1, ⟨hk.2.1, ⟨hk.2.2.1, ⟨hk.2.2.2.1, hk.2.2.2.2.1⟩⟩⟩⟩)⟩, ⟨by (with_reducible repeat (first | apply Kd.R_alloc | apply Kd.R_drewN | apply Kd.R_drew)); exact Kd.R_mono HO_203002.out (fun _ hk => ⟨hk.1, ⟨hk.2.1, ⟨hk.2.2.1, ⟨hk.2.2.2.1, hk.2.2.2.2.1⟩⟩⟩⟩)⟩, ⟨by (with_reducible repeat (first | apply Kd.R_alloc | apply Kd.R_drewN | apply Kd.R_drew)); exact Kd.R_mono HO_211001.out (fun _ hk => ⟨hk.1.1.1, ⟨hk.1.1.2.1, ⟨hk.1.1.2.2.1, ⟨hk.1.1.2.2.2.1, hk.1.1.2.2.2.2⟩⟩⟩⟩)⟩, ⟨by (with_reducible repeat (first | apply Kd.R_alloc | apply Kd.R_drewN | apply Kd.R_drew)); exact Kd.R_mono HO_211002.out (fun _ hk => ⟨hk.1.1.1, ⟨hk.1.1.2.1, ⟨hk.1.1.2.2.1, ⟨hk.1.1.2.2.2.1, hk.1.1.2.2.2.2⟩⟩⟩⟩)⟩, ⟨by (with_reducible repeat (first | apply Kd.R_alloc | apply Kd.R_drewN | apply Kd.R_drew)); exact Kd.R_mono HO_220001.out (fun _ hk => ⟨hk.1, ⟨hk.2.1, ⟨hk.2.2.1, ⟨hk.2.2.2.1, hk.2.2.2.2.1⟩⟩⟩⟩)⟩, ⟨by (with_reducible repeat (first | apply Kd.R_alloc | apply Kd.R_drewN | apply Kd.R_drew)); exact Kd.R_mono HO_220002.out (fun _ hk => ⟨hk.1, ⟨hk.2.1, ⟨hk.2.2.1, ⟨hk.2.2.2.1, hk.2.2.2.2.1⟩⟩⟩⟩)⟩, ⟨tK BK185.out⟩, ⟨tK BK202.out⟩, ⟨tK BK210.out⟩, ⟨tK BK219.out⟩, ⟨tB HB.out⟩⟩
       ·
        rw [if_neg c75] at H
        have c75b0 : decide (t229 < 0) = false := decide_eq_false c75
        clear c75
        (first | rw [c75b0] | (simp only [i64_w, i32_w]; rw [c75b0]) | skip)
        replace H := Option.bind_eq_some_iff.mp H
        obtain ⟨t232, A760, H⟩ := H
        replace H : (if t232 = true then (laws_FnExactDropTop.j1 kj10 t201 (t218 != t201) a0_0 l0_1 l0_2 t194 t195 t198 t211 t212 t215) else (laws_FnExactDropTop.j1 kj10 t201 true a0_0 l0_1 l0_2 t194 t195 t198 t211 t212 t215)) = some r := H
        have A76 := Aside0.mk A760
        clear A760
        by_cases c77 : t232 = true
        ·
         subst c77
         have H1 : (laws_FnExactDropTop.j1 kj10 t201 (t218 != t201) a0_0 l0_1 l0_2 t194 t195 t198 t211 t212 t215) = some r := by rw [if_pos rfl] at H; exact H
         clear H
         have H := H1
         clear H1
         have H' := Aside0.mk H
         clear H
         have hnb78 := NB219_185.out
         have hnc78 := NB185_219.out
         have hnb79 := NB219_202.out
         have hnc79 := NB202_219.out
         have hnb80 := NB219_210.out
         have hnc80 := NB210_219.out
         obtain ⟨hcz81_0, hfz81_0, hcz81_1, hfz81_1, hcz81_2, hfz81_2⟩ := cz3 BK219
         have hnb82 := NB202_185.out
         have hnc82 := NB185_202.out
         have hnb83 := NB202_210.out
         have hnc83 := NB210_202.out
         obtain ⟨hcz84_0, hfz84_0, hcz84_1, hfz84_1, hcz84_2, hfz84_2⟩ := cz3 BK202
         go_wp2_with (first | (go_at_call 19; (with_reducible refine (laws_eqPile.calls kj10 t211 _ _ t212 _ _ t215 t194 _ _ t195 _ _ t198 true _ ?side1 ?side2 ?side3 ?side4 ?side5 ?side6 ?side7 ?side8 A76.out).mono ?_); (case side1 => exact tC (Kd.R_reads' HO_220001.out).2.2); (case side2 => exact (Kd.R_reads' HO_220001.out).2.1); (case side3 => exact tC (Kd.R_reads' HO_220002.out).2.2); (case side4 => exact (Kd.R_reads' HO_220002.out).2.1); (case side5 => exact tC (Kd.R_reads' HO_203001.out).2.2); (case side6 => exact (Kd.R_reads' HO_203001.out).2.1); (case side7 => exact tC (Kd.R_reads' HO_203002.out).2.2); (case side8 => exact (Kd.R_reads' HO_203002.out).2.1); rintro e w85 ⟨rfl, hb⟩; replace HO_203001 := Aside0.mk (Kd.R_below (tR HO_203001.out) hb); replace HO_203002 := Aside0.mk (Kd.R_below (tR HO_203002.out) hb); replace HO_211001 := Aside0.mk (Kd.R_below (tR HO_211001.out) hb); replace HO_211002 := Aside0.mk (Kd.R_below (tR HO_211002.out) hb); replace HO_220001 := Aside0.mk (Kd.R_below (tR HO_220001.out) hb); replace HO_220002 := Aside0.mk (Kd.R_below (tR HO_220002.out) hb); replace HO224 := Aside0.mk (Kd.R_below (tR HO224.out) hb); replace HO227 := Aside0.mk (Kd.R_below (tR HO227.out) hb); replace BK185 := bkB BK185 hb; replace BK202 := bkB BK202 hb; replace BK210 := bkB BK210 hb; replace BK219 := bkB BK219 hb; replace HB := Aside0.mk (below_step (tB HB.out) hb); (try clear hb); (try clear hb2); (try clear hk); (try clear hi)))
         go_meet
         case rel => exact ⟨_, ((t218 != t201)), (by first | rfl | (simp; done) | (simp [wrap64]; done) | (simp [*]; done)), H', ⟨by have := HJ10.out; first | omega | exact Nat.le_refl _⟩, ⟨by (with_reducible repeat (first | apply Kd.R_alloc | apply Kd.R_drewN | apply Kd.R_drew)); exact Kd.R_mono HO_203001.out (fun _ hk => ⟨hk.1, ⟨hk.2.1, ⟨hk.2.2.1, ⟨hk.2.2.2.1, hk.2.2.2.2.1⟩⟩⟩⟩)⟩, ⟨by (with_reducible repeat (first | apply Kd.R_alloc | apply Kd.R_drewN | apply Kd.R_drew)); exact Kd.R_mono HO_203002.out (fun _ hk => ⟨hk.1, ⟨hk.2.1, ⟨hk.2.2.1, ⟨hk.2.2.2.1, hk.2.2.2.2.1⟩⟩⟩⟩)⟩, ⟨by (with_reducible repeat (first | apply Kd.R_alloc | apply Kd.R_drewN | apply Kd.R_drew)); exact Kd.R_mono HO_211001.out (fun _ hk => ⟨hk.1.1.1, ⟨hk.1.1.2.1, ⟨hk.1.1.2.2.1, ⟨hk.1.1.2.2.2.1, hk.1.1.2.2.2.2⟩⟩⟩⟩)⟩, ⟨by (with_reducible repeat (first | apply Kd.R_alloc | apply Kd.R_drewN | apply Kd.R_drew)); exact Kd.R_mono HO_211002.out (fun _ hk => ⟨hk.1.1.1, ⟨hk.1.1.2.1, ⟨hk.1.1.2.2.1, ⟨hk.1.1.2.2.2.1, hk.1.1.2.2.2.2⟩⟩⟩⟩)⟩, ⟨by (with_reducible repeat (first | apply Kd.R_alloc | apply Kd.R_drewN | apply Kd.R_drew)); exact Kd.R_mono HO_220001.out (fun _ hk => ⟨hk.1, ⟨hk.2.1, ⟨hk.2.2.1, ⟨hk.2.2.2.1, hk.2.2.2.2.1⟩⟩⟩⟩)⟩, ⟨by (with_reducible repeat (first | apply Kd.R_alloc | apply Kd.R_drewN | apply Kd.R_drew)); exact Kd.R_mono HO_220002.out (fun _ hk => ⟨hk.1, ⟨hk.2.1, ⟨hk.2.2.1, ⟨hk.2.2.2.1, hk.2.2.2.2.1⟩⟩⟩⟩)⟩, ⟨tK BK185.out⟩, ⟨tK BK202.out⟩, ⟨tK BK210.out⟩, ⟨tK BK219.out⟩, ⟨tB HB.out⟩⟩
        ·
         replace c77 := Bool.eq_false_iff.mpr c77
         subst c77
         have H1 : (laws_FnExactDropTop.j1 kj10 t201 true a0_0 l0_1 l0_2 t194 t195 t198 t211 t212 t215) = some r := by rw [if_neg (show ¬ (false = true) by decide)] at H; exact H
         clear H
         have H := H1
         clear H1
         have H' := Aside0.mk H
         clear H
         have hnb86 := NB219_185.out
         have hnc86 := NB185_219.out
         have hnb87 := NB219_202.out
         have hnc87 := NB202_219.out
         have hnb88 := NB219_210.out
         have hnc88 := NB210_219.out
         obtain ⟨hcz89_0, hfz89_0, hcz89_1, hfz89_1, hcz89_2, hfz89_2⟩ := cz3 BK219
         have hnb90 := NB202_185.out
         have hnc90 := NB185_202.out
         have hnb91 := NB202_210.out
         have hnc91 := NB210_202.out
         obtain ⟨hcz92_0, hfz92_0, hcz92_1, hfz92_1, hcz92_2, hfz92_2⟩ := cz3 BK202
         go_wp2_with (first | (go_at_call 19; (with_reducible refine (laws_eqPile.calls kj10 t211 _ _ t212 _ _ t215 t194 _ _ t195 _ _ t198 false _ ?side1 ?side2 ?side3 ?side4 ?side5 ?side6 ?side7 ?side8 A76.out).mono ?_); (case side1 => exact tC (Kd.R_reads' HO_220001.out).2.2); (case side2 => exact (Kd.R_reads' HO_220001.out).2.1); (case side3 => exact tC (Kd.R_reads' HO_220002.out).2.2); (case side4 => exact (Kd.R_reads' HO_220002.out).2.1); (case side5 => exact tC (Kd.R_reads' HO_203001.out).2.2); (case side6 => exact (Kd.R_reads' HO_203001.out).2.1); (case side7 => exact tC (Kd.R_reads' HO_203002.out).2.2); (case side8 => exact (Kd.R_reads' HO_203002.out).2.1); rintro e w93 ⟨rfl, hb⟩; replace HO_203001 := Aside0.mk (Kd.R_below (tR HO_203001.out) hb); replace HO_203002 := Aside0.mk (Kd.R_below (tR HO_203002.out) hb); replace HO_211001 := Aside0.mk (Kd.R_below (tR HO_211001.out) hb); replace HO_211002 := Aside0.mk (Kd.R_below (tR HO_211002.out) hb); replace HO_220001 := Aside0.mk (Kd.R_below (tR HO_220001.out) hb); replace HO_220002 := Aside0.mk (Kd.R_below (tR HO_220002.out) hb); replace HO224 := Aside0.mk (Kd.R_below (tR HO224.out) hb); replace HO227 := Aside0.mk (Kd.R_below (tR HO227.out) hb); replace BK185 := bkB BK185 hb; replace BK202 := bkB BK202 hb; replace BK210 := bkB BK210 hb; replace BK219 := bkB BK219 hb; replace HB := Aside0.mk (below_step (tB HB.out) hb); (try clear hb); (try clear hb2); (try clear hk); (try clear hi)))
         go_meet
         case rel => exact ⟨_, (true), (by first | rfl | (simp; done) | (simp [wrap64]; done) | (simp [*]; done)), H', ⟨by have := HJ10.out; first | omega | exact Nat.le_refl _⟩, ⟨by (with_reducible repeat (first | apply Kd.R_alloc | apply Kd.R_drewN | apply Kd.R_drew)); exact Kd.R_mono HO_203001.out (fun _ hk => ⟨hk.1, ⟨hk.2.1, ⟨hk.2.2.1, ⟨hk.2.2.2.1, hk.2.2.2.2.1⟩⟩⟩⟩)⟩, ⟨by (with_reducible repeat (first | apply Kd.R_alloc | apply Kd.R_drewN | apply Kd.R_drew)); exact Kd.R_mono HO_203002.out (fun _ hk => ⟨hk.1, ⟨hk.2.1, ⟨hk.2.2.1, ⟨hk.2.2.2.1, hk.2.2.2.2.1⟩⟩⟩⟩)⟩, ⟨by (with_reducible repeat (first | apply Kd.R_alloc | apply Kd.R_drewN | apply Kd.R_drew)); exact Kd.R_mono HO_211001.out (fun _ hk => ⟨hk.1.1.1, ⟨hk.1.1.2.1, ⟨hk.1.1.2.2.1, ⟨hk.1.1.2.2.2.1, hk.1.1.2.2.2.2⟩⟩⟩⟩)⟩, ⟨by (with_reducible repeat (first | apply Kd.R_alloc | apply Kd.R_drewN | apply Kd.R_drew)); exact Kd.R_mono HO_211002.out (fun _ hk => ⟨hk.1.1.1, ⟨hk.1.1.2.1, ⟨hk.1.1.2.2.1, ⟨hk.1.1.2.2.2.1, hk.1.1.2.2.2.2⟩⟩⟩⟩)⟩, ⟨by (with_reducible repeat (first | apply Kd.R_alloc | apply Kd.R_drewN | apply Kd.R_drew)); exact Kd.R_mono HO_220001.out (fun _ hk => ⟨hk.1, ⟨hk.2.1, ⟨hk.2.2.1, ⟨hk.2.2.2.1, hk.2.2.2.2.1⟩⟩⟩⟩)⟩, ⟨by (with_reducible repeat (first | apply Kd.R_alloc | apply Kd.R_drewN | apply Kd.R_drew)); exact Kd.R_mono HO_220002.out (fun _ hk => ⟨hk.1, ⟨hk.2.1, ⟨hk.2.2.1, ⟨hk.2.2.2.1, hk.2.2.2.2.1⟩⟩⟩⟩)⟩, ⟨tK BK185.out⟩, ⟨tK BK202.out⟩, ⟨tK BK210.out⟩, ⟨tK BK219.out⟩, ⟨tB HB.out⟩⟩
      case rest =>
       clear HC64
       try clear c1
       try clear c2
       try clear p2
       try clear c3
       try clear c3b0
       try clear c4
       try clear c5
       try clear c6
       try clear p6
       try clear c7
       try clear c8
       try clear c9
       try clear c15
       try clear c17
       try clear c19
       try clear c21
       try clear c22
       try clear c23
       try clear c24
       try clear c28
       try clear c29
       try clear c35
       try clear c36
       try clear c37
       try clear c42
       try clear c43
       try clear c44
       try clear c45
       try clear c47
       try clear c48
       try clear c51
       try clear c52
       try clear c53
       try clear c55
       try clear c56
       try clear c59
       try clear c62
       try clear p64
       try clear c70
       try clear c71
       try clear c72
       try clear c75
       try clear c75b0
       try clear c77
       try clear c78
       try clear c79
       try clear c80
       try clear c82
       try clear c83
       try clear c86
       try clear c87
       try clear c88
       try clear c90
       try clear c91
       try clear hcz13_0
       try clear hcz13_1
       try clear hcz13_2
       try clear hcz15_0
       try clear hcz15_1
       try clear hcz15_2
       try clear hcz22_0
       try clear hcz22_1
       try clear hcz22_2
       try clear hcz25_0
       try clear hcz25_1
       try clear hcz25_2
       try clear hcz30_0
       try clear hcz30_1
       try clear hcz30_2
       try clear hcz38_0
       try clear hcz38_1
       try clear hcz38_2
       try clear hcz46_0
       try clear hcz46_1
       try clear hcz46_2
       try clear hcz49_0
       try clear hcz49_1
       try clear hcz49_2
       try clear hcz54_0
       try clear hcz54_1
       try clear hcz54_2
       try clear hcz57_0
       try clear hcz57_1
       try clear hcz57_2
       try clear hcz5_0
       try clear hcz5_1
       try clear hcz5_2
       try clear hcz73_0
       try clear hcz73_1
       try clear hcz73_2
       try clear hcz81_0
       try clear hcz81_1
       try clear hcz81_2
       try clear hcz84_0
       try clear hcz84_1
       try clear hcz84_2
       try clear hcz89_0
       try clear hcz89_1
       try clear hcz89_2
       try clear hcz92_0
       try clear hcz92_1
       try clear hcz92_2
       try clear hfz13_0
       try clear hfz13_1
       try clear hfz13_2
       try clear hfz15_0
       try clear hfz15_1
       try clear hfz15_2
       try clear hfz22_0
       try clear hfz22_1
       try clear hfz22_2
       try clear hfz25_0
       try clear hfz25_1
       try clear hfz25_2
       try clear hfz30_0
       try clear hfz30_1
       try clear hfz30_2
       try clear hfz38_0
       try clear hfz38_1
       try clear hfz38_2
       try clear hfz46_0
       try clear hfz46_1
       try clear hfz46_2
       try clear hfz49_0
       try clear hfz49_1
       try clear hfz49_2
       try clear hfz54_0
       try clear hfz54_1
       try clear hfz54_2
       try clear hfz57_0
       try clear hfz57_1
       try clear hfz57_2
       try clear hfz5_0
       try clear hfz5_1
       try clear hfz5_2
       try clear hfz73_0
       try clear hfz73_1
       try clear hfz73_2
       try clear hfz81_0
       try clear hfz81_1
       try clear hfz81_2
       try clear hfz84_0
       try clear hfz84_1
       try clear hfz84_2
       try clear hfz89_0
       try clear hfz89_1
       try clear hfz89_2
       try clear hfz92_0
       try clear hfz92_1
       try clear hfz92_2
       try clear p2
       try clear p6
       obtain ⟨kq, x61_63, rfl, HA, HJ63, HO_203001, HO_203002, HO_211001, HO_211002, HO_220001, HO_220002, BK185, BK202, BK210, BK219, HB⟩ := hcut
       have hl211001_63 := (Kd.R_reads' HO_211001.out).1
       rw [hl211001_63] at HO_211001
       (try simp only [hl211001_63])
       (try simp only [hl211001_63] at BK185)
       (try simp only [hl211001_63] at BK202)
       (try simp only [hl211001_63] at BK210)
       (try simp only [hl211001_63] at BK219)
       (try simp only [hl211001_63] at HO_203001)
       (try simp only [hl211001_63] at HO_203002)
       (try simp only [hl211001_63] at HO_211002)
       (try simp only [hl211001_63] at HO_220001)
       (try simp only [hl211001_63] at HO_220002)
       have hl211002_63 := (Kd.R_reads' HO_211002.out).1
       rw [hl211002_63] at HO_211002
       (try simp only [hl211002_63])
       (try simp only [hl211002_63] at BK185)
       (try simp only [hl211002_63] at BK202)
       (try simp only [hl211002_63] at BK210)
       (try simp only [hl211002_63] at BK219)
       (try simp only [hl211002_63] at HO_203001)
       (try simp only [hl211002_63] at HO_203002)
       (try simp only [hl211002_63] at HO_211001)
       (try simp only [hl211002_63] at HO_220001)
       (try simp only [hl211002_63] at HO_220002)
       cases kq with
       | zero => exact absurd HA.out (by simp [laws_FnExactDropTop.j1])
       | succ kj63 =>
        have H := HA.out
        clear HA
        simp only [laws_FnExactDropTop.j1] at H
        by_cases c94 : x61_63 = true
        ·
         subst c94
         have H1 : (some false) = some r := by rw [if_pos rfl] at H; exact H
         clear H
         have H := H1
         clear H1
         obtain rfl := Option.some.inj H
         go_wp2
         go_ret
         exact ⟨by first | rfl | (simp [errW_none, errW_some] <;> rfl) | (simp [*, errW_none, errW_some] <;> rfl), tB HB.out⟩
        ·
         replace c94 := Bool.eq_false_iff.mpr c94
         subst c94
         have H1 : ((laws_markPile.f kj63 t211 t212 t215 1).bind fun bt233 => ((laws_heldPile.f kj63 t211 bt233.2.1 bt233.2.2 1).bind fun t236 => (if t236 < 0 then (some false) else (if t236 = bt233.1 then ((laws_toPile.f kj63 a0_0 l0_1 l0_2).bind fun bt237 => ((impl_DropTop.f kj63 bt237.1 bt237.2.1 bt237.2.2).bind fun bt244 => ((laws_eqPile.f kj63 bt244.1 bt244.2.1 bt244.2.2.1 t194 t195 t198).bind fun t253 => (if t253 = true then (laws_FnExactDropTop.j2 kj63 bt233.1 (bt244.2.2.2 != t201) t211 bt233.2.1 bt233.2.2) else (laws_FnExactDropTop.j2 kj63 bt233.1 true t211 bt233.2.1 bt233.2.2))))) else (some false))))) = some r := by rw [if_neg (show ¬ (false = true) by decide)] at H; exact H
         clear H
         have H := H1
         clear H1
         replace H := Option.bind_eq_some_iff.mp H
         obtain ⟨⟨t233, t234, t235⟩, A950, H⟩ := H
         replace H : ((laws_heldPile.f kj63 t211 t234 t235 1).bind fun t236 => (if t236 < 0 then (some false) else (if t236 = t233 then ((laws_toPile.f kj63 a0_0 l0_1 l0_2).bind fun bt237 => ((impl_DropTop.f kj63 bt237.1 bt237.2.1 bt237.2.2).bind fun bt244 => ((laws_eqPile.f kj63 bt244.1 bt244.2.1 bt244.2.2.1 t194 t195 t198).bind fun t253 => (if t253 = true then (laws_FnExactDropTop.j2 kj63 t233 (bt244.2.2.2 != t201) t211 t234 t235) else (laws_FnExactDropTop.j2 kj63 t233 true t211 t234 t235))))) else (some false)))) = some r := H
         have A95 := Aside0.mk A950
         clear A950
         replace H := Option.bind_eq_some_iff.mp H
         obtain ⟨t236, A960, H⟩ := H
         replace H : (if t236 < 0 then (some false) else (if t236 = t233 then ((laws_toPile.f kj63 a0_0 l0_1 l0_2).bind fun bt237 => ((impl_DropTop.f kj63 bt237.1 bt237.2.1 bt237.2.2).bind fun bt244 => ((laws_eqPile.f kj63 bt244.1 bt244.2.1 bt244.2.2.1 t194 t195 t198).bind fun t253 => (if t253 = true then (laws_FnExactDropTop.j2 kj63 t233 (bt244.2.2.2 != t201) t211 t234 t235) else (laws_FnExactDropTop.j2 kj63 t233 true t211 t234 t235))))) else (some false))) = some r := H
         have A96 := Aside0.mk A960
         clear A960
         by_cases c97 : t236 < 0
         ·
          rw [if_pos c97] at H
          have c97b0 : decide (t236 < 0) = true := decide_eq_true c97
          clear c97
          obtain rfl := Option.some.inj H
          have hnb98 := NB219_185.out
          have hnc98 := NB185_219.out
          have hnb99 := NB219_202.out
          have hnc99 := NB202_219.out
          have hnb100 := NB219_210.out
          have hnc100 := NB210_219.out
          obtain ⟨hcz101_0, hfz101_0, hcz101_1, hfz101_1, hcz101_2, hfz101_2⟩ := cz3 BK219
          go_wp2_with (first | ((with_reducible refine gate_callee (f := 24) rfl ?_); refine goesL_ (some 64) rfl rfl Try.func24 (by kernel_rfl) rfl #[.agg #[.int .i64 t211, .slice Ao39 t212.length co39, .slice Ao40 t215.length co40], .int .i64 1] rfl tM ?_; (with_reducible refine (laws_markPile.calls kj63 t211 (fun k_ => some k_ = (.slice Ao39 t212.length co39 : Value).ownBlock) (.slice Ao39 t212.length co39) t212 (fun k_ => some k_ = (.slice Ao40 t215.length co40 : Value).ownBlock) (.slice Ao40 t215.length co40) t215 1 t233 t234 t235 w _ ?side1 ?side2 ?side3 ?side4 ?side5 A95.out).mono ?_); (case side1 => repeat (first | (with_reducible first | exact HB.out | apply below_alloc | apply pw_below_drewN | apply below_drew1 | refine below_set ?_ GE185.out | refine below_set ?_ GE202.out | refine below_set ?_ GE210.out | refine below_set ?_ GE219.out) | exact HB.out)); (case side2 => exact Kd.R_tight rfl HO_220001.out); (case side3 => exact fun k_ e_ => (HO_220001.out.1 k_ e_.symm).2.2.2.2); (case side4 => exact Kd.R_tight rfl HO_220002.out); (case side5 => exact fun k_ e_ => (HO_220002.out.1 k_ e_.symm).2.2.2.2); rintro e w102 ⟨rfl, hy0, hy1, hb, hkp⟩; refine ⟨_, rfl, ?_⟩; replace HO_203001 := Aside0.mk (Kd.R_mono (ok' := fun k_ => some k_ ≠ (.slice Ao24 t198.length co24 : Value).ownBlock ∧ some k_ ≠ (.slice Ao31 t230.length co31 : Value).ownBlock ∧ some k_ ≠ (.slice Ao32 t231.length co32 : Value).ownBlock ∧ some k_ ≠ (.slice Ao39 t212.length co39 : Value).ownBlock ∧ some k_ ≠ (.slice Ao40 t215.length co40 : Value).ownBlock) (Kd.R_keptB (HO_203001.out) hkp (fun k_ hk_ hs_ => Or.elim hs_ (fun e_ => (hk_.2.2.2.1) e_) (fun e_ => (hk_.2.2.2.2) e_))) (fun k_ hk_ => ⟨hk_.1.1, hk_.1.2.1, hk_.1.2.2.1, hk_.1.2.2.2.1, hk_.1.2.2.2.2⟩)); replace HO_203002 := Aside0.mk (Kd.R_mono (ok' := fun k_ => some k_ ≠ (.slice Ao23 t195.length co23 : Value).ownBlock ∧ some k_ ≠ (.slice Ao31 t230.length co31 : Value).ownBlock ∧ some k_ ≠ (.slice Ao32 t231.length co32 : Value).ownBlock ∧ some k_ ≠ (.slice Ao39 t212.length co39 : Value).ownBlock ∧ some k_ ≠ (.slice Ao40 t215.length co40 : Value).ownBlock) (Kd.R_keptB (HO_203002.out) hkp (fun k_ hk_ hs_ => Or.elim hs_ (fun e_ => (hk_.2.2.2.1) e_) (fun e_ => (hk_.2.2.2.2) e_))) (fun k_ hk_ => ⟨hk_.1.1, hk_.1.2.1, hk_.1.2.2.1, hk_.1.2.2.2.1, hk_.1.2.2.2.2⟩)); replace HO_211001 := Aside0.mk (Kd.R_mono (ok' := fun k_ => some k_ ≠ (.slice Ao23 t195.length co23 : Value).ownBlock ∧ some k_ ≠ (.slice Ao24 t198.length co24 : Value).ownBlock ∧ some k_ ≠ (.slice Ao32 t231.length co32 : Value).ownBlock ∧ some k_ ≠ (.slice Ao39 t212.length co39 : Value).ownBlock ∧ some k_ ≠ (.slice Ao40 t215.length co40 : Value).ownBlock) (Kd.R_keptB (HO_211001.out) hkp (fun k_ hk_ hs_ => Or.elim hs_ (fun e_ => (hk_.2.2.2.1) e_) (fun e_ => (hk_.2.2.2.2) e_))) (fun k_ hk_ => ⟨hk_.1.1, hk_.1.2.1, hk_.1.2.2.1, hk_.1.2.2.2.1, hk_.1.2.2.2.2⟩)); replace HO_211002 := Aside0.mk (Kd.R_mono (ok' := fun k_ => some k_ ≠ (.slice Ao23 t195.length co23 : Value).ownBlock ∧ some k_ ≠ (.slice Ao24 t198.length co24 : Value).ownBlock ∧ some k_ ≠ (.slice Ao31 t230.length co31 : Value).ownBlock ∧ some k_ ≠ (.slice Ao39 t212.length co39 : Value).ownBlock ∧ some k_ ≠ (.slice Ao40 t215.length co40 : Value).ownBlock) (Kd.R_keptB (HO_211002.out) hkp (fun k_ hk_ hs_ => Or.elim hs_ (fun e_ => (hk_.2.2.2.1) e_) (fun e_ => (hk_.2.2.2.2) e_))) (fun k_ hk_ => ⟨hk_.1.1, hk_.1.2.1, hk_.1.2.2.1, hk_.1.2.2.2.1, hk_.1.2.2.2.2⟩)); replace BK185 := Aside0.mk (blk_kept (tK BK185.out) hkp (fun hs_ => Or.elim hs_ (fun e_ => (fun e_ => (Kd.R_ne HO_220001.out BK185.out (by decide)) e_) e_) (fun e_ => (fun e_ => (Kd.R_ne HO_220002.out BK185.out (by decide)) e_) e_))); replace BK202 := Aside0.mk (blk_kept (tK BK202.out) hkp (fun hs_ => Or.elim hs_ (fun e_ => (fun e_ => (Kd.R_ne HO_220001.out BK202.out (by decide)) e_) e_) (fun e_ => (fun e_ => (Kd.R_ne HO_220002.out BK202.out (by decide)) e_) e_))); replace BK210 := Aside0.mk (blk_kept (tK BK210.out) hkp (fun hs_ => Or.elim hs_ (fun e_ => (fun e_ => (Kd.R_ne HO_220001.out BK210.out (by decide)) e_) e_) (fun e_ => (fun e_ => (Kd.R_ne HO_220002.out BK210.out (by decide)) e_) e_))); replace BK219 := Aside0.mk (blk_kept (tK BK219.out) hkp (fun hs_ => Or.elim hs_ (fun e_ => (fun e_ => (Kd.R_ne HO_220001.out BK219.out (by decide)) e_) e_) (fun e_ => (fun e_ => (Kd.R_ne HO_220002.out BK219.out (by decide)) e_) e_))); replace HO_220001 := Aside0.mk (Kd.R_reok rfl hy0 (fun k_ e_ => HO_220001.out.1 k_ e_)); replace HO_220002 := Aside0.mk (Kd.R_reok rfl hy1 (fun k_ e_ => HO_220002.out.1 k_ e_)); replace HB := Aside0.mk (hb); (try clear hb); (try clear hkp); (try clear hy0); (try clear hy1); obtain ⟨hcz103_0, hfz103_0, hcz103_1, hfz103_1, hcz103_2, hfz103_2⟩ := cz3 BK219) | ((with_reducible refine gate_callee (f := 25) rfl ?_); refine goesL_ (some 67) rfl rfl Try.func25 (by kernel_rfl) rfl #[.agg #[.int .i64 t211, .slice Ao39 t234.length co39, .slice Ao40 t235.length co40], .int .i64 1] rfl (by (try simp only [List.map_toArray, List.map_cons, List.map_nil]); first | done | (rw [show t234.length = t212.length from (Kd.R_reads' HO_220001.out).1.symm, show t235.length = t215.length from (Kd.R_reads' HO_220002.out).1.symm] <;> rfl) | rfl | (simp only [List.length_drop, List.length_take]; rfl)) ?_; (with_reducible refine (laws_heldPile.calls kj63 t211 _ _ t234 _ _ t235 1 t236 _ ?side1 ?side2 ?side3 ?side4 A96.out).mono ?_); (case side1 => exact tC (Kd.R_reads' HO_220001.out).2.2); (case side2 => rw [show t234.length = t212.length from (Kd.R_reads' HO_220001.out).1.symm]; exact (Kd.R_reads' HO_220001.out).2.1); (case side3 => exact tC (Kd.R_reads' HO_220002.out).2.2); (case side4 => rw [show t235.length = t215.length from (Kd.R_reads' HO_220002.out).1.symm]; exact (Kd.R_reads' HO_220002.out).2.1); rintro e w104 ⟨rfl, hb⟩; refine ⟨_, rfl, ?_⟩; replace HO_203001 := Aside0.mk (Kd.R_below (tR HO_203001.out) hb); replace HO_203002 := Aside0.mk (Kd.R_below (tR HO_203002.out) hb); replace HO_211001 := Aside0.mk (Kd.R_below (tR HO_211001.out) hb); replace HO_211002 := Aside0.mk (Kd.R_below (tR HO_211002.out) hb); replace HO_220001 := Aside0.mk (Kd.R_below (tR HO_220001.out) hb); replace HO_220002 := Aside0.mk (Kd.R_below (tR HO_220002.out) hb); replace BK185 := bkB BK185 hb; replace BK202 := bkB BK202 hb; replace BK210 := bkB BK210 hb; replace BK219 := bkB BK219 hb; replace HB := Aside0.mk (below_step (tB HB.out) hb); (try clear hb); (try clear hb2); (try clear hk); (try clear hi)))
          go_ret
          exact ⟨by first | rfl | (simp [errW_none, errW_some] <;> rfl) | (simp [*, errW_none, errW_some] <;> rfl), tB HB.out⟩
         ·
          rw [if_neg c97] at H
          have c97b0 : decide (t236 < 0) = false := decide_eq_false c97
          clear c97
          by_cases c105 : t236 = t233
          ·
           rw [if_pos c105] at H
           have c105b0 : (t236 == t233) = true := beq_iff_eq.mpr c105
           have c105b1 : (t236 != t233) = false := bne_eq_false_iff_eq.mpr c105
           clear c105
           replace H := Option.bind_eq_some_iff.mp H
           obtain ⟨⟨t237, t238, t241⟩, A1060, H⟩ := H
           replace H : ((impl_DropTop.f kj63 t237 t238 t241).bind fun bt244 => ((laws_eqPile.f kj63 bt244.1 bt244.2.1 bt244.2.2.1 t194 t195 t198).bind fun t253 => (if t253 = true then (laws_FnExactDropTop.j2 kj63 t233 (bt244.2.2.2 != t201) t211 t234 t235) else (laws_FnExactDropTop.j2 kj63 t233 true t211 t234 t235)))) = some r := H
           have A106 := Aside0.mk A1060
           clear A1060
           replace H := Option.bind_eq_some_iff.mp H
           obtain ⟨⟨t244, t245, t248, t251⟩, A1070, H⟩ := H
           replace H : ((laws_eqPile.f kj63 t244 t245 t248 t194 t195 t198).bind fun t253 => (if t253 = true then (laws_FnExactDropTop.j2 kj63 t233 (t251 != t201) t211 t234 t235) else (laws_FnExactDropTop.j2 kj63 t233 true t211 t234 t235))) = some r := H
           have A107 := Aside0.mk A1070
           clear A1070
           have HC108 := Aside0.mk H
           clear H
           have hnb109 := NB219_185.out
           have hnc109 := NB185_219.out
           have hnb110 := NB219_202.out
           have hnc110 := NB202_219.out
           have hnb111 := NB219_210.out
           have hnc111 := NB210_219.out
           obtain ⟨hcz112_0, hfz112_0, hcz112_1, hfz112_1, hcz112_2, hfz112_2⟩ := cz3 BK219
           go_upto_region 25 with (first | ((with_reducible refine gate_callee (f := 24) rfl ?_); refine goesL_ (some 64) rfl rfl Try.func24 (by kernel_rfl) rfl #[.agg #[.int .i64 t211, .slice Ao39 t212.length co39, .slice Ao40 t215.length co40], .int .i64 1] rfl tM ?_; (with_reducible refine (laws_markPile.calls kj63 t211 (fun k_ => some k_ = (.slice Ao39 t212.length co39 : Value).ownBlock) (.slice Ao39 t212.length co39) t212 (fun k_ => some k_ = (.slice Ao40 t215.length co40 : Value).ownBlock) (.slice Ao40 t215.length co40) t215 1 t233 t234 t235 w _ ?side1 ?side2 ?side3 ?side4 ?side5 A95.out).mono ?_); (case side1 => repeat (first | (with_reducible first | exact HB.out | apply below_alloc | apply pw_below_drewN | apply below_drew1 | refine below_set ?_ GE185.out | refine below_set ?_ GE202.out | refine below_set ?_ GE210.out | refine below_set ?_ GE219.out) | exact HB.out)); (case side2 => exact Kd.R_tight rfl HO_220001.out); (case side3 => exact fun k_ e_ => (HO_220001.out.1 k_ e_.symm).2.2.2.2); (case side4 => exact Kd.R_tight rfl HO_220002.out); (case side5 => exact fun k_ e_ => (HO_220002.out.1 k_ e_.symm).2.2.2.2); rintro e w113 ⟨rfl, hy0, hy1, hb, hkp⟩; refine ⟨_, rfl, ?_⟩; replace HO_203001 := Aside0.mk (Kd.R_mono (ok' := fun k_ => some k_ ≠ (.slice Ao24 t198.length co24 : Value).ownBlock ∧ some k_ ≠ (.slice Ao31 t230.length co31 : Value).ownBlock ∧ some k_ ≠ (.slice Ao32 t231.length co32 : Value).ownBlock ∧ some k_ ≠ (.slice Ao39 t212.length co39 : Value).ownBlock ∧ some k_ ≠ (.slice Ao40 t215.length co40 : Value).ownBlock) (Kd.R_keptB (HO_203001.out) hkp (fun k_ hk_ hs_ => Or.elim hs_ (fun e_ => (hk_.2.2.2.1) e_) (fun e_ => (hk_.2.2.2.2) e_))) (fun k_ hk_ => ⟨hk_.1.1, hk_.1.2.1, hk_.1.2.2.1, hk_.1.2.2.2.1, hk_.1.2.2.2.2⟩)); replace HO_203002 := Aside0.mk (Kd.R_mono (ok' := fun k_ => some k_ ≠ (.slice Ao23 t195.length co23 : Value).ownBlock ∧ some k_ ≠ (.slice Ao31 t230.length co31 : Value).ownBlock ∧ some k_ ≠ (.slice Ao32 t231.length co32 : Value).ownBlock ∧ some k_ ≠ (.slice Ao39 t212.length co39 : Value).ownBlock ∧ some k_ ≠ (.slice Ao40 t215.length co40 : Value).ownBlock) (Kd.R_keptB (HO_203002.out) hkp (fun k_ hk_ hs_ => Or.elim hs_ (fun e_ => (hk_.2.2.2.1) e_) (fun e_ => (hk_.2.2.2.2) e_))) (fun k_ hk_ => ⟨hk_.1.1, hk_.1.2.1, hk_.1.2.2.1, hk_.1.2.2.2.1, hk_.1.2.2.2.2⟩)); replace HO_211001 := Aside0.mk (Kd.R_mono (ok' := fun k_ => some k_ ≠ (.slice Ao23 t195.length co23 : Value).ownBlock ∧ some k_ ≠ (.slice Ao24 t198.length co24 : Value).ownBlock ∧ some k_ ≠ (.slice Ao32 t231.length co32 : Value).ownBlock ∧ some k_ ≠ (.slice Ao39 t212.length co39 : Value).ownBlock ∧ some k_ ≠ (.slice Ao40 t215.length co40 : Value).ownBlock) (Kd.R_keptB (HO_211001.out) hkp (fun k_ hk_ hs_ => Or.elim hs_ (fun e_ => (hk_.2.2.2.1) e_) (fun e_ => (hk_.2.2.2.2) e_))) (fun k_ hk_ => ⟨hk_.1.1, hk_.1.2.1, hk_.1.2.2.1, hk_.1.2.2.2.1, hk_.1.2.2.2.2⟩)); replace HO_211002 := Aside0.mk (Kd.R_mono (ok' := fun k_ => some k_ ≠ (.slice Ao23 t195.length co23 : Value).ownBlock ∧ some k_ ≠ (.slice Ao24 t198.length co24 : Value).ownBlock ∧ some k_ ≠ (.slice Ao31 t230.length co31 : Value).ownBlock ∧ some k_ ≠ (.slice Ao39 t212.length co39 : Value).ownBlock ∧ some k_ ≠ (.slice Ao40 t215.length co40 : Value).ownBlock) (Kd.R_keptB (HO_211002.out) hkp (fun k_ hk_ hs_ => Or.elim hs_ (fun e_ => (hk_.2.2.2.1) e_) (fun e_ => (hk_.2.2.2.2) e_))) (fun k_ hk_ => ⟨hk_.1.1, hk_.1.2.1, hk_.1.2.2.1, hk_.1.2.2.2.1, hk_.1.2.2.2.2⟩)); replace BK185 := Aside0.mk (blk_kept (tK BK185.out) hkp (fun hs_ => Or.elim hs_ (fun e_ => (fun e_ => (Kd.R_ne HO_220001.out BK185.out (by decide)) e_) e_) (fun e_ => (fun e_ => (Kd.R_ne HO_220002.out BK185.out (by decide)) e_) e_))); replace BK202 := Aside0.mk (blk_kept (tK BK202.out) hkp (fun hs_ => Or.elim hs_ (fun e_ => (fun e_ => (Kd.R_ne HO_220001.out BK202.out (by decide)) e_) e_) (fun e_ => (fun e_ => (Kd.R_ne HO_220002.out BK202.out (by decide)) e_) e_))); replace BK210 := Aside0.mk (blk_kept (tK BK210.out) hkp (fun hs_ => Or.elim hs_ (fun e_ => (fun e_ => (Kd.R_ne HO_220001.out BK210.out (by decide)) e_) e_) (fun e_ => (fun e_ => (Kd.R_ne HO_220002.out BK210.out (by decide)) e_) e_))); replace BK219 := Aside0.mk (blk_kept (tK BK219.out) hkp (fun hs_ => Or.elim hs_ (fun e_ => (fun e_ => (Kd.R_ne HO_220001.out BK219.out (by decide)) e_) e_) (fun e_ => (fun e_ => (Kd.R_ne HO_220002.out BK219.out (by decide)) e_) e_))); replace HO_220001 := Aside0.mk (Kd.R_reok rfl hy0 (fun k_ e_ => HO_220001.out.1 k_ e_)); replace HO_220002 := Aside0.mk (Kd.R_reok rfl hy1 (fun k_ e_ => HO_220002.out.1 k_ e_)); replace HB := Aside0.mk (hb); (try clear hb); (try clear hkp); (try clear hy0); (try clear hy1); obtain ⟨hcz114_0, hfz114_0, hcz114_1, hfz114_1, hcz114_2, hfz114_2⟩ := cz3 BK219) | ((with_reducible refine gate_callee (f := 25) rfl ?_); refine goesL_ (some 67) rfl rfl Try.func25 (by kernel_rfl) rfl #[.agg #[.int .i64 t211, .slice Ao39 t234.length co39, .slice Ao40 t235.length co40], .int .i64 1] rfl (by (try simp only [List.map_toArray, List.map_cons, List.map_nil]); first | done | (rw [show t234.length = t212.length from (Kd.R_reads' HO_220001.out).1.symm, show t235.length = t215.length from (Kd.R_reads' HO_220002.out).1.symm] <;> rfl) | rfl | (simp only [List.length_drop, List.length_take]; rfl)) ?_; (with_reducible refine (laws_heldPile.calls kj63 t211 _ _ t234 _ _ t235 1 t236 _ ?side1 ?side2 ?side3 ?side4 A96.out).mono ?_); (case side1 => exact tC (Kd.R_reads' HO_220001.out).2.2); (case side2 => rw [show t234.length = t212.length from (Kd.R_reads' HO_220001.out).1.symm]; exact (Kd.R_reads' HO_220001.out).2.1); (case side3 => exact tC (Kd.R_reads' HO_220002.out).2.2); (case side4 => rw [show t235.length = t215.length from (Kd.R_reads' HO_220002.out).1.symm]; exact (Kd.R_reads' HO_220002.out).2.1); rintro e w115 ⟨rfl, hb⟩; refine ⟨_, rfl, ?_⟩; replace HO_203001 := Aside0.mk (Kd.R_below (tR HO_203001.out) hb); replace HO_203002 := Aside0.mk (Kd.R_below (tR HO_203002.out) hb); replace HO_211001 := Aside0.mk (Kd.R_below (tR HO_211001.out) hb); replace HO_211002 := Aside0.mk (Kd.R_below (tR HO_211002.out) hb); replace HO_220001 := Aside0.mk (Kd.R_below (tR HO_220001.out) hb); replace HO_220002 := Aside0.mk (Kd.R_below (tR HO_220002.out) hb); replace BK185 := bkB BK185 hb; replace BK202 := bkB BK202 hb; replace BK210 := bkB BK210 hb; replace BK219 := bkB BK219 hb; replace HB := Aside0.mk (below_step (tB HB.out) hb); (try clear hb); (try clear hb2); (try clear hk); (try clear hi); have hnb116 := NB185_202.out; have hnc116 := NB202_185.out; have hnb117 := NB185_210.out; have hnc117 := NB210_185.out; obtain ⟨hcz118_0, hfz118_0, hcz118_1, hfz118_1, hcz118_2, hfz118_2⟩ := cz3 BK185) | ((with_reducible refine gate_callee (f := 17) rfl ?_); refine goesL_ (some 75) rfl rfl Try.func17 (by kernel_rfl) rfl #[.agg #[.int .i64 a0_0, .slice A0_1 l0_1.length c0_1, .slice A0_2 l0_2.length c0_2]] rfl tM ?_; (with_reducible refine (laws_toPile.calls kj63 a0_0 _ _ l0_1 _ _ l0_2 t237 t238 t241 _ ?side1 ?side2 ?side3 ?side4 A106.out).mono ?_); (case side1 => exact tC (Kd.C_below HR0_1.out HB.out)); (case side2 => exact HC0_1.out); (case side3 => exact tC (Kd.C_below HR0_2.out HB.out)); (case side4 => exact HC0_2.out); rintro e w119 ⟨v239, v242, rfl, ho0, ho1, hb⟩; refine ⟨_, rfl, ?_⟩; have HO240 := Aside0.mk (Kd.R_lower (Kd.R_new' (Kd.R_new' (Kd.R_new' (Kd.R_new' (Kd.R_new' (Kd.R_new' ho0 (Kd.R_lt (tR HO_203001.out))) (Kd.R_lt (tR HO_203002.out))) (Kd.R_lt (tR HO_211001.out))) (Kd.R_lt (tR HO_211002.out))) (Kd.R_lt (tR HO_220001.out))) (Kd.R_lt (tR HO_220002.out))) (below_size (tB HB.out))); have HO243 := Aside0.mk (Kd.R_lower (Kd.R_new' (Kd.R_new' (Kd.R_new' (Kd.R_new' (Kd.R_new' (Kd.R_new' ho1 (Kd.R_lt (tR HO_203001.out))) (Kd.R_lt (tR HO_203002.out))) (Kd.R_lt (tR HO_211001.out))) (Kd.R_lt (tR HO_211002.out))) (Kd.R_lt (tR HO_220001.out))) (Kd.R_lt (tR HO_220002.out))) (below_size (tB HB.out))); replace HO_203001 := Aside0.mk (Kd.R_mono (Kd.R_told (Kd.R_told (Kd.R_old (tR HO_203001.out) hb) (Kd.R_base ho0)) (Kd.R_base ho1)) (fun _ h_ => h_.1)); replace HO_203002 := Aside0.mk (Kd.R_mono (Kd.R_told (Kd.R_told (Kd.R_old (tR HO_203002.out) hb) (Kd.R_base ho0)) (Kd.R_base ho1)) (fun _ h_ => h_.1)); replace HO_211001 := Aside0.mk (Kd.R_mono (Kd.R_told (Kd.R_told (Kd.R_old (tR HO_211001.out) hb) (Kd.R_base ho0)) (Kd.R_base ho1)) (fun _ h_ => h_.1)); replace HO_211002 := Aside0.mk (Kd.R_mono (Kd.R_told (Kd.R_told (Kd.R_old (tR HO_211002.out) hb) (Kd.R_base ho0)) (Kd.R_base ho1)) (fun _ h_ => h_.1)); replace HO_220001 := Aside0.mk (Kd.R_mono (Kd.R_told (Kd.R_told (Kd.R_old (tR HO_220001.out) hb) (Kd.R_base ho0)) (Kd.R_base ho1)) (fun _ h_ => h_.1)); replace HO_220002 := Aside0.mk (Kd.R_mono (Kd.R_told (Kd.R_told (Kd.R_old (tR HO_220002.out) hb) (Kd.R_base ho0)) (Kd.R_base ho1)) (fun _ h_ => h_.1)); replace BK185 := bkB BK185 hb; replace BK202 := bkB BK202 hb; replace BK210 := bkB BK210 hb; replace BK219 := bkB BK219 hb; replace HB := Aside0.mk (below_step (tB HB.out) hb); (try clear hb); (try clear hb2); (try clear hk); (try clear hi); (try clear ho0); (try clear ho1); obtain ⟨Ao120, co120, eo120⟩ := Kd.R_slice HO240.out; subst eo120; obtain ⟨Ao121, co121, eo121⟩ := Kd.R_slice HO243.out; subst eo121) | ((with_reducible refine gate_callee (f := 23) rfl ?_); refine goesL_ (some 76) rfl rfl Try.func23 (by kernel_rfl) rfl #[.agg #[.int .i64 t237, .slice Ao120 t238.length co120, .slice Ao121 t241.length co121]] rfl tM ?_; (with_reducible refine (impl_DropTop.calls kj63 t237 _ _ t238 _ _ t241 t244 t245 t248 t251 _ ?side1 ?side2 ?side3 ?side4 A107.out).mono ?_); (case side1 => exact tC (Kd.R_reads' HO240.out).2.2); (case side2 => exact (Kd.R_reads' HO240.out).2.1); (case side3 => exact tC (Kd.R_reads' HO243.out).2.2); (case side4 => exact (Kd.R_reads' HO243.out).2.1); rintro e w122 ⟨v246, v249, rfl, ho0, ho1, hb⟩; refine ⟨_, rfl, ?_⟩; have HO247 := Aside0.mk (Kd.R_lower (Kd.R_new' (Kd.R_new' (Kd.R_new' (Kd.R_new' (Kd.R_new' (Kd.R_new' (Kd.R_new' (Kd.R_new' ho0 (Kd.R_lt (tR HO_203001.out))) (Kd.R_lt (tR HO_203002.out))) (Kd.R_lt (tR HO_211001.out))) (Kd.R_lt (tR HO_211002.out))) (Kd.R_lt (tR HO_220001.out))) (Kd.R_lt (tR HO_220002.out))) (Kd.R_lt (tR HO240.out))) (Kd.R_lt (tR HO243.out))) (below_size (tB HB.out))); have HO250 := Aside0.mk (Kd.R_lower (Kd.R_new' (Kd.R_new' (Kd.R_new' (Kd.R_new' (Kd.R_new' (Kd.R_new' (Kd.R_new' (Kd.R_new' ho1 (Kd.R_lt (tR HO_203001.out))) (Kd.R_lt (tR HO_203002.out))) (Kd.R_lt (tR HO_211001.out))) (Kd.R_lt (tR HO_211002.out))) (Kd.R_lt (tR HO_220001.out))) (Kd.R_lt (tR HO_220002.out))) (Kd.R_lt (tR HO240.out))) (Kd.R_lt (tR HO243.out))) (below_size (tB HB.out))); replace HO_203001 := Aside0.mk (Kd.R_mono (Kd.R_told (Kd.R_told (Kd.R_old (tR HO_203001.out) hb) (Kd.R_base ho0)) (Kd.R_base ho1)) (fun _ h_ => h_.1)); replace HO_203002 := Aside0.mk (Kd.R_mono (Kd.R_told (Kd.R_told (Kd.R_old (tR HO_203002.out) hb) (Kd.R_base ho0)) (Kd.R_base ho1)) (fun _ h_ => h_.1)); replace HO_211001 := Aside0.mk (Kd.R_mono (Kd.R_told (Kd.R_told (Kd.R_old (tR HO_211001.out) hb) (Kd.R_base ho0)) (Kd.R_base ho1)) (fun _ h_ => h_.1)); replace HO_211002 := Aside0.mk (Kd.R_mono (Kd.R_told (Kd.R_told (Kd.R_old (tR HO_211002.out) hb) (Kd.R_base ho0)) (Kd.R_base ho1)) (fun _ h_ => h_.1)); replace HO_220001 := Aside0.mk (Kd.R_mono (Kd.R_told (Kd.R_told (Kd.R_old (tR HO_220001.out) hb) (Kd.R_base ho0)) (Kd.R_base ho1)) (fun _ h_ => h_.1)); replace HO_220002 := Aside0.mk (Kd.R_mono (Kd.R_told (Kd.R_told (Kd.R_old (tR HO_220002.out) hb) (Kd.R_base ho0)) (Kd.R_base ho1)) (fun _ h_ => h_.1)); replace HO240 := Aside0.mk (Kd.R_mono (Kd.R_told (Kd.R_told (Kd.R_old (tR HO240.out) hb) (Kd.R_base ho0)) (Kd.R_base ho1)) (fun _ h_ => h_.1)); replace HO243 := Aside0.mk (Kd.R_mono (Kd.R_told (Kd.R_told (Kd.R_old (tR HO243.out) hb) (Kd.R_base ho0)) (Kd.R_base ho1)) (fun _ h_ => h_.1)); replace BK185 := bkB BK185 hb; replace BK202 := bkB BK202 hb; replace BK210 := bkB BK210 hb; replace BK219 := bkB BK219 hb; replace HB := Aside0.mk (below_step (tB HB.out) hb); (try clear hb); (try clear hb2); (try clear hk); (try clear hi); (try clear ho0); (try clear ho1)) | ((with_reducible refine gate_dst (N := 12) rfl ?_); refine box_event ?hg (N := 12) ?hd (cs := #[.int .i64 0, .slice none 0 0, .slice none 0 0]) (t := 28) ?hr ?_; (case hd => rfl); (case hg => rfl); (case hr => first | (go_simp; done) | (go_simp; rfl)); intro gb252 hg w123 hbox hb; replace HO_203001 := Aside0.mk (Kd.R_below (tR HO_203001.out) hb); replace HO_203002 := Aside0.mk (Kd.R_below (tR HO_203002.out) hb); replace HO_211001 := Aside0.mk (Kd.R_below (tR HO_211001.out) hb); replace HO_211002 := Aside0.mk (Kd.R_below (tR HO_211002.out) hb); replace HO_220001 := Aside0.mk (Kd.R_below (tR HO_220001.out) hb); replace HO_220002 := Aside0.mk (Kd.R_below (tR HO_220002.out) hb); replace HO240 := Aside0.mk (Kd.R_below (tR HO240.out) hb); replace HO243 := Aside0.mk (Kd.R_below (tR HO243.out) hb); replace HO247 := Aside0.mk (Kd.R_below (tR HO247.out) hb); replace HO250 := Aside0.mk (Kd.R_below (tR HO250.out) hb); have BK252 := Aside0.mk (hbox); have GW252 := Aside0.mk (bS HB.out hg); have GE252 := Aside0.mk (bS HB.out hg); replace HB := Aside0.mk (below_step (tB HB.out) hb); have NB185_252 := Aside0.mk (nL BK185.out hg); have NB252_185 := Aside0.mk (nG BK185.out hg); replace BK185 := bkB BK185 hb; have NB202_252 := Aside0.mk (nL BK202.out hg); have NB252_202 := Aside0.mk (nG BK202.out hg); replace BK202 := bkB BK202 hb; have NB210_252 := Aside0.mk (nL BK210.out hg); have NB252_210 := Aside0.mk (nG BK210.out hg); replace BK210 := bkB BK210 hb; have NB219_252 := Aside0.mk (nL BK219.out hg); have NB252_219 := Aside0.mk (nG BK219.out hg); replace BK219 := bkB BK219 hb; clear hb hbox hg; have hnb124 := NB252_185.out; have hnc124 := NB185_252.out; have hnb125 := NB252_202.out; have hnc125 := NB202_252.out; have hnb126 := NB252_210.out; have hnc126 := NB210_252.out; have hnb127 := NB252_219.out; have hnc127 := NB219_252.out; obtain ⟨hcz128_0, hfz128_0, hcz128_1, hfz128_1, hcz128_2, hfz128_2⟩ := cz3 BK252; obtain ⟨Ao129, co129, eo129⟩ := Kd.R_slice HO247.out; subst eo129; obtain ⟨Ao130, co130, eo130⟩ := Kd.R_slice HO250.out; subst eo130))
           (try simp only [Act.put, List.setIfInBounds_toArray, List.set_cons_zero, List.set_cons_succ])
           go_cut [87] (fun v87 wc => ∃ (kq : Nat) (x87_107 : Bool), v87 = .bool x87_107 ∧ Aside0 (laws_FnExactDropTop.j2 kq t233 x87_107 t211 t234 t235 = some r) ∧ Aside0 (kq ≤ kj63) ∧ Aside0 (Kd.R (Kd.int .i64) 3 wc w.heap.size (fun k_ => some k_ ≠ ((.slice Ao24 t198.length co24) : Value).ownBlock ∧ some k_ ≠ ((.slice Ao31 t230.length co31) : Value).ownBlock ∧ some k_ ≠ ((.slice Ao32 t231.length co32) : Value).ownBlock ∧ some k_ ≠ ((.slice Ao39 t212.length co39) : Value).ownBlock ∧ some k_ ≠ ((.slice Ao40 t215.length co40) : Value).ownBlock ∧ some k_ ≠ ((.slice Ao129 t245.length co129) : Value).ownBlock ∧ some k_ ≠ ((.slice Ao130 t248.length co130) : Value).ownBlock) (.slice Ao23 t195.length co23) t195) ∧ Aside0 (Kd.R (Kd.int .i64) 3 wc w.heap.size (fun k_ => some k_ ≠ ((.slice Ao23 t195.length co23) : Value).ownBlock ∧ some k_ ≠ ((.slice Ao31 t230.length co31) : Value).ownBlock ∧ some k_ ≠ ((.slice Ao32 t231.length co32) : Value).ownBlock ∧ some k_ ≠ ((.slice Ao39 t212.length co39) : Value).ownBlock ∧ some k_ ≠ ((.slice Ao40 t215.length co40) : Value).ownBlock ∧ some k_ ≠ ((.slice Ao129 t245.length co129) : Value).ownBlock ∧ some k_ ≠ ((.slice Ao130 t248.length co130) : Value).ownBlock) (.slice Ao24 t198.length co24) t198) ∧ Aside0 (Kd.R (Kd.int .i64) 3 wc w.heap.size (fun k_ => some k_ ≠ ((.slice Ao23 t195.length co23) : Value).ownBlock ∧ some k_ ≠ ((.slice Ao24 t198.length co24) : Value).ownBlock ∧ some k_ ≠ ((.slice Ao32 t231.length co32) : Value).ownBlock ∧ some k_ ≠ ((.slice Ao39 t212.length co39) : Value).ownBlock ∧ some k_ ≠ ((.slice Ao40 t215.length co40) : Value).ownBlock ∧ some k_ ≠ ((.slice Ao129 t245.length co129) : Value).ownBlock ∧ some k_ ≠ ((.slice Ao130 t248.length co130) : Value).ownBlock) (.slice Ao31 t230.length co31) t230) ∧ Aside0 (Kd.R (Kd.int .i64) 3 wc w.heap.size (fun k_ => some k_ ≠ ((.slice Ao23 t195.length co23) : Value).ownBlock ∧ some k_ ≠ ((.slice Ao24 t198.length co24) : Value).ownBlock ∧ some k_ ≠ ((.slice Ao31 t230.length co31) : Value).ownBlock ∧ some k_ ≠ ((.slice Ao39 t212.length co39) : Value).ownBlock ∧ some k_ ≠ ((.slice Ao40 t215.length co40) : Value).ownBlock ∧ some k_ ≠ ((.slice Ao129 t245.length co129) : Value).ownBlock ∧ some k_ ≠ ((.slice Ao130 t248.length co130) : Value).ownBlock) (.slice Ao32 t231.length co32) t231) ∧ Aside0 (Kd.R (Kd.int .i64) 3 wc w.heap.size (fun k_ => some k_ ≠ ((.slice Ao23 t195.length co23) : Value).ownBlock ∧ some k_ ≠ ((.slice Ao24 t198.length co24) : Value).ownBlock ∧ some k_ ≠ ((.slice Ao31 t230.length co31) : Value).ownBlock ∧ some k_ ≠ ((.slice Ao32 t231.length co32) : Value).ownBlock ∧ some k_ ≠ ((.slice Ao40 t215.length co40) : Value).ownBlock ∧ some k_ ≠ ((.slice Ao129 t245.length co129) : Value).ownBlock ∧ some k_ ≠ ((.slice Ao130 t248.length co130) : Value).ownBlock) (.slice Ao39 t212.length co39) t234) ∧ Aside0 (Kd.R (Kd.int .i64) 3 wc w.heap.size (fun k_ => some k_ ≠ ((.slice Ao23 t195.length co23) : Value).ownBlock ∧ some k_ ≠ ((.slice Ao24 t198.length co24) : Value).ownBlock ∧ some k_ ≠ ((.slice Ao31 t230.length co31) : Value).ownBlock ∧ some k_ ≠ ((.slice Ao32 t231.length co32) : Value).ownBlock ∧ some k_ ≠ ((.slice Ao39 t212.length co39) : Value).ownBlock ∧ some k_ ≠ ((.slice Ao129 t245.length co129) : Value).ownBlock ∧ some k_ ≠ ((.slice Ao130 t248.length co130) : Value).ownBlock) (.slice Ao40 t215.length co40) t235) ∧ Aside0 (Kd.R (Kd.int .i64) 3 wc w.heap.size (fun k_ => some k_ ≠ ((.slice Ao23 t195.length co23) : Value).ownBlock ∧ some k_ ≠ ((.slice Ao24 t198.length co24) : Value).ownBlock ∧ some k_ ≠ ((.slice Ao31 t230.length co31) : Value).ownBlock ∧ some k_ ≠ ((.slice Ao32 t231.length co32) : Value).ownBlock ∧ some k_ ≠ ((.slice Ao39 t212.length co39) : Value).ownBlock ∧ some k_ ≠ ((.slice Ao40 t215.length co40) : Value).ownBlock ∧ some k_ ≠ ((.slice Ao130 t248.length co130) : Value).ownBlock) (.slice Ao129 t245.length co129) t245) ∧ Aside0 (Kd.R (Kd.int .i64) 3 wc w.heap.size (fun k_ => some k_ ≠ ((.slice Ao23 t195.length co23) : Value).ownBlock ∧ some k_ ≠ ((.slice Ao24 t198.length co24) : Value).ownBlock ∧ some k_ ≠ ((.slice Ao31 t230.length co31) : Value).ownBlock ∧ some k_ ≠ ((.slice Ao32 t231.length co32) : Value).ownBlock ∧ some k_ ≠ ((.slice Ao39 t212.length co39) : Value).ownBlock ∧ some k_ ≠ ((.slice Ao40 t215.length co40) : Value).ownBlock ∧ some k_ ≠ ((.slice Ao129 t245.length co129) : Value).ownBlock) (.slice Ao130 t248.length co130) t248) ∧ Aside0 (wc.heap[gb185]? = some (.cells #[.int .i64 a0_0, (.slice A0_1 l0_1.length c0_1), (.slice A0_2 l0_2.length c0_2)] 24 (0, 0))) ∧ Aside0 (wc.heap[gb202]? = some (.cells #[.int .i64 t194, (.slice Ao23 t195.length co23), (.slice Ao24 t198.length co24)] 28 (0, 0))) ∧ Aside0 (wc.heap[gb210]? = some (.cells #[.int .i64 t203, (.slice Ao31 t230.length co31), (.slice Ao32 t231.length co32)] 28 (0, 0))) ∧ Aside0 (wc.heap[gb219]? = some (.cells #[.int .i64 t211, (.slice Ao39 t212.length co39), (.slice Ao40 t215.length co40)] 28 (0, 0))) ∧ Aside0 (wc.heap[gb252]? = some (.cells #[.int .i64 t244, (.slice Ao129 t245.length co129), (.slice Ao130 t248.length co130)] 28 (0, 0))) ∧ Aside0 (Below w.heap.size w wc))
           case first =>
            have H := HC108.out
            clear HC108
            replace H := Option.bind_eq_some_iff.mp H
            obtain ⟨t253, A1310, H⟩ := H
            replace H : (if t253 = true then (laws_FnExactDropTop.j2 kj63 t233 (t251 != t201) t211 t234 t235) else (laws_FnExactDropTop.j2 kj63 t233 true t211 t234 t235)) = some r := H
            have A131 := Aside0.mk A1310
            clear A1310
            by_cases c132 : t253 = true
            ·
             subst c132
             have H1 : (laws_FnExactDropTop.j2 kj63 t233 (t251 != t201) t211 t234 t235) = some r := by rw [if_pos rfl] at H; exact H
             clear H
             have H := H1
             clear H1
             have H' := Aside0.mk H
             clear H
             have hnb133 := NB252_185.out
             have hnc133 := NB185_252.out
             have hnb134 := NB252_202.out
             have hnc134 := NB202_252.out
             have hnb135 := NB252_210.out
             have hnc135 := NB210_252.out
             have hnb136 := NB252_219.out
             have hnc136 := NB219_252.out
             obtain ⟨hcz137_0, hfz137_0, hcz137_1, hfz137_1, hcz137_2, hfz137_2⟩ := cz3 BK252
             have hnb138 := NB202_185.out
             have hnc138 := NB185_202.out
             have hnb139 := NB202_210.out
             have hnc139 := NB210_202.out
             have hnb140 := NB202_219.out
             have hnc140 := NB219_202.out
             obtain ⟨hcz141_0, hfz141_0, hcz141_1, hfz141_1, hcz141_2, hfz141_2⟩ := cz3 BK202
             go_wp2_with (first | ((with_reducible refine gate_callee (f := 19) rfl ?_); refine goesL_ (some 81) rfl rfl Try.func19 (by kernel_rfl) rfl #[.agg #[.int .i64 t244, .slice Ao129 t245.length co129, .slice Ao130 t248.length co130], .agg #[.int .i64 t194, .slice Ao23 t195.length co23, .slice Ao24 t198.length co24]] rfl tM ?_; (with_reducible refine (laws_eqPile.calls kj63 t244 _ _ t245 _ _ t248 t194 _ _ t195 _ _ t198 true _ ?side1 ?side2 ?side3 ?side4 ?side5 ?side6 ?side7 ?side8 A131.out).mono ?_); (case side1 => refine (Kd.R_reads' (e := 3) (base := w.heap.size) (ok := fun k_ => ((((((((some k_ ≠ (.slice Ao130 t248.length co130 : Value).ownBlock ∧ some k_ ≠ (.slice Ao23 t195.length co23 : Value).ownBlock) ∧ some k_ ≠ (.slice Ao24 t198.length co24 : Value).ownBlock) ∧ some k_ ≠ (.slice Ao31 t230.length co31 : Value).ownBlock) ∧ some k_ ≠ (.slice Ao32 t231.length co32 : Value).ownBlock) ∧ some k_ ≠ (.slice Ao39 t212.length co39 : Value).ownBlock) ∧ some k_ ≠ (.slice Ao40 t215.length co40 : Value).ownBlock) ∧ some k_ ≠ (.slice Ao120 t238.length co120 : Value).ownBlock) ∧ some k_ ≠ (.slice Ao121 t241.length co121 : Value).ownBlock)) (n := t245.length) (c := co129) ?_).2.2; exact (by (with_reducible repeat (first | apply Kd.R_alloc | apply Kd.R_drewN | apply Kd.R_drew)); exact (Kd.R_mono (Kd.R_far (p := ⟨gb252, 2, none⟩) (Kd.R_far (p := ⟨gb252, 1, none⟩) (Kd.R_far (p := ⟨gb252, 0, none⟩) (Kd.R_types HO247.out BK252.out (by decide)) (fun _ hk => hk.2) (.int .i64 t244)) (fun _ hk => hk.2) (.slice Ao129 t245.length co129)) (fun _ hk => hk.2) (.slice Ao130 t248.length co130)) (fun _ h_ => h_.1)))); (case side2 => exact (Kd.R_reads' HO247.out).2.1); (case side3 => refine (Kd.R_reads' (e := 3) (base := w.heap.size) (ok := fun k_ => ((((((((some k_ ≠ (.slice Ao129 t245.length co129 : Value).ownBlock ∧ some k_ ≠ (.slice Ao23 t195.length co23 : Value).ownBlock) ∧ some k_ ≠ (.slice Ao24 t198.length co24 : Value).ownBlock) ∧ some k_ ≠ (.slice Ao31 t230.length co31 : Value).ownBlock) ∧ some k_ ≠ (.slice Ao32 t231.length co32 : Value).ownBlock) ∧ some k_ ≠ (.slice Ao39 t212.length co39 : Value).ownBlock) ∧ some k_ ≠ (.slice Ao40 t215.length co40 : Value).ownBlock) ∧ some k_ ≠ (.slice Ao120 t238.length co120 : Value).ownBlock) ∧ some k_ ≠ (.slice Ao121 t241.length co121 : Value).ownBlock)) (n := t248.length) (c := co130) ?_).2.2; exact (by (with_reducible repeat (first | apply Kd.R_alloc | apply Kd.R_drewN | apply Kd.R_drew)); exact (Kd.R_mono (Kd.R_far (p := ⟨gb252, 2, none⟩) (Kd.R_far (p := ⟨gb252, 1, none⟩) (Kd.R_far (p := ⟨gb252, 0, none⟩) (Kd.R_types HO250.out BK252.out (by decide)) (fun _ hk => hk.2) (.int .i64 t244)) (fun _ hk => hk.2) (.slice Ao129 t245.length co129)) (fun _ hk => hk.2) (.slice Ao130 t248.length co130)) (fun _ h_ => h_.1)))); (case side4 => exact (Kd.R_reads' HO250.out).2.1); (case side5 => refine (Kd.R_reads' (e := 3) (base := w.heap.size) (ok := fun k_ => (((((some k_ ≠ (.slice Ao24 t198.length co24 : Value).ownBlock ∧ (some k_ ≠ (.slice Ao31 t230.length co31 : Value).ownBlock ∧ (some k_ ≠ (.slice Ao32 t231.length co32 : Value).ownBlock ∧ (some k_ ≠ (.slice Ao39 t212.length co39 : Value).ownBlock ∧ some k_ ≠ (.slice Ao40 t215.length co40 : Value).ownBlock)))) ∧ some k_ ≠ (.slice Ao120 t238.length co120 : Value).ownBlock) ∧ some k_ ≠ (.slice Ao121 t241.length co121 : Value).ownBlock) ∧ some k_ ≠ (.slice Ao129 t245.length co129 : Value).ownBlock) ∧ some k_ ≠ (.slice Ao130 t248.length co130 : Value).ownBlock)) (n := t195.length) (c := co23) ?_).2.2; exact (by (with_reducible repeat (first | apply Kd.R_alloc | apply Kd.R_drewN | apply Kd.R_drew)); exact (Kd.R_mono (Kd.R_far (p := ⟨gb252, 2, none⟩) (Kd.R_far (p := ⟨gb252, 1, none⟩) (Kd.R_far (p := ⟨gb252, 0, none⟩) (Kd.R_types HO_203001.out BK252.out (by decide)) (fun _ hk => hk.2) (.int .i64 t244)) (fun _ hk => hk.2) (.slice Ao129 t245.length co129)) (fun _ hk => hk.2) (.slice Ao130 t248.length co130)) (fun _ h_ => h_.1)))); (case side6 => exact (Kd.R_reads' HO_203001.out).2.1); (case side7 => refine (Kd.R_reads' (e := 3) (base := w.heap.size) (ok := fun k_ => (((((some k_ ≠ (.slice Ao23 t195.length co23 : Value).ownBlock ∧ (some k_ ≠ (.slice Ao31 t230.length co31 : Value).ownBlock ∧ (some k_ ≠ (.slice Ao32 t231.length co32 : Value).ownBlock ∧ (some k_ ≠ (.slice Ao39 t212.length co39 : Value).ownBlock ∧ some k_ ≠ (.slice Ao40 t215.length co40 : Value).ownBlock)))) ∧ some k_ ≠ (.slice Ao120 t238.length co120 : Value).ownBlock) ∧ some k_ ≠ (.slice Ao121 t241.length co121 : Value).ownBlock) ∧ some k_ ≠ (.slice Ao129 t245.length co129 : Value).ownBlock) ∧ some k_ ≠ (.slice Ao130 t248.length co130 : Value).ownBlock)) (n := t198.length) (c := co24) ?_).2.2; exact (by (with_reducible repeat (first | apply Kd.R_alloc | apply Kd.R_drewN | apply Kd.R_drew)); exact (Kd.R_mono (Kd.R_far (p := ⟨gb252, 2, none⟩) (Kd.R_far (p := ⟨gb252, 1, none⟩) (Kd.R_far (p := ⟨gb252, 0, none⟩) (Kd.R_types HO_203002.out BK252.out (by decide)) (fun _ hk => hk.2) (.int .i64 t244)) (fun _ hk => hk.2) (.slice Ao129 t245.length co129)) (fun _ hk => hk.2) (.slice Ao130 t248.length co130)) (fun _ h_ => h_.1)))); (case side8 => exact (Kd.R_reads' HO_203002.out).2.1); rintro e w142 ⟨rfl, hb⟩; refine ⟨_, rfl, ?_⟩; replace HO_203001 := Aside0.mk (Kd.R_below (by (with_reducible repeat (first | apply Kd.R_alloc | apply Kd.R_drewN | apply Kd.R_drew)); exact (Kd.R_mono (Kd.R_far (p := ⟨gb252, 2, none⟩) (Kd.R_far (p := ⟨gb252, 1, none⟩) (Kd.R_far (p := ⟨gb252, 0, none⟩) (Kd.R_types HO_203001.out BK252.out (by decide)) (fun _ hk => hk.2) (.int .i64 t244)) (fun _ hk => hk.2) (.slice Ao129 t245.length co129)) (fun _ hk => hk.2) (.slice Ao130 t248.length co130)) (fun _ h_ => h_.1))) hb); replace HO_203002 := Aside0.mk (Kd.R_below (by (with_reducible repeat (first | apply Kd.R_alloc | apply Kd.R_drewN | apply Kd.R_drew)); exact (Kd.R_mono (Kd.R_far (p := ⟨gb252, 2, none⟩) (Kd.R_far (p := ⟨gb252, 1, none⟩) (Kd.R_far (p := ⟨gb252, 0, none⟩) (Kd.R_types HO_203002.out BK252.out (by decide)) (fun _ hk => hk.2) (.int .i64 t244)) (fun _ hk => hk.2) (.slice Ao129 t245.length co129)) (fun _ hk => hk.2) (.slice Ao130 t248.length co130)) (fun _ h_ => h_.1))) hb); replace HO_211001 := Aside0.mk (Kd.R_below (by (with_reducible repeat (first | apply Kd.R_alloc | apply Kd.R_drewN | apply Kd.R_drew)); exact (Kd.R_mono (Kd.R_far (p := ⟨gb252, 2, none⟩) (Kd.R_far (p := ⟨gb252, 1, none⟩) (Kd.R_far (p := ⟨gb252, 0, none⟩) (Kd.R_types HO_211001.out BK252.out (by decide)) (fun _ hk => hk.2) (.int .i64 t244)) (fun _ hk => hk.2) (.slice Ao129 t245.length co129)) (fun _ hk => hk.2) (.slice Ao130 t248.length co130)) (fun _ h_ => h_.1))) hb); replace HO_211002 := Aside0.mk (Kd.R_below (by (with_reducible repeat (first | apply Kd.R_alloc | apply Kd.R_drewN | apply Kd.R_drew)); exact (Kd.R_mono (Kd.R_far (p := ⟨gb252, 2, none⟩) (Kd.R_far (p := ⟨gb252, 1, none⟩) (Kd.R_far (p := ⟨gb252, 0, none⟩) (Kd.R_types HO_211002.out BK252.out (by decide)) (fun _ hk => hk.2) (.int .i64 t244)) (fun _ hk => hk.2) (.slice Ao129 t245.length co129)) (fun _ hk => hk.2) (.slice Ao130 t248.length co130)) (fun _ h_ => h_.1))) hb); replace HO_220001 := Aside0.mk (Kd.R_below (by (with_reducible repeat (first | apply Kd.R_alloc | apply Kd.R_drewN | apply Kd.R_drew)); exact (Kd.R_mono (Kd.R_far (p := ⟨gb252, 2, none⟩) (Kd.R_far (p := ⟨gb252, 1, none⟩) (Kd.R_far (p := ⟨gb252, 0, none⟩) (Kd.R_types HO_220001.out BK252.out (by decide)) (fun _ hk => hk.2) (.int .i64 t244)) (fun _ hk => hk.2) (.slice Ao129 t245.length co129)) (fun _ hk => hk.2) (.slice Ao130 t248.length co130)) (fun _ h_ => h_.1))) hb); replace HO_220002 := Aside0.mk (Kd.R_below (by (with_reducible repeat (first | apply Kd.R_alloc | apply Kd.R_drewN | apply Kd.R_drew)); exact (Kd.R_mono (Kd.R_far (p := ⟨gb252, 2, none⟩) (Kd.R_far (p := ⟨gb252, 1, none⟩) (Kd.R_far (p := ⟨gb252, 0, none⟩) (Kd.R_types HO_220002.out BK252.out (by decide)) (fun _ hk => hk.2) (.int .i64 t244)) (fun _ hk => hk.2) (.slice Ao129 t245.length co129)) (fun _ hk => hk.2) (.slice Ao130 t248.length co130)) (fun _ h_ => h_.1))) hb); replace HO240 := Aside0.mk (Kd.R_below (by (with_reducible repeat (first | apply Kd.R_alloc | apply Kd.R_drewN | apply Kd.R_drew)); exact (Kd.R_mono (Kd.R_far (p := ⟨gb252, 2, none⟩) (Kd.R_far (p := ⟨gb252, 1, none⟩) (Kd.R_far (p := ⟨gb252, 0, none⟩) (Kd.R_types HO240.out BK252.out (by decide)) (fun _ hk => hk.2) (.int .i64 t244)) (fun _ hk => hk.2) (.slice Ao129 t245.length co129)) (fun _ hk => hk.2) (.slice Ao130 t248.length co130)) (fun _ h_ => h_.1))) hb); replace HO243 := Aside0.mk (Kd.R_below (by (with_reducible repeat (first | apply Kd.R_alloc | apply Kd.R_drewN | apply Kd.R_drew)); exact (Kd.R_mono (Kd.R_far (p := ⟨gb252, 2, none⟩) (Kd.R_far (p := ⟨gb252, 1, none⟩) (Kd.R_far (p := ⟨gb252, 0, none⟩) (Kd.R_types HO243.out BK252.out (by decide)) (fun _ hk => hk.2) (.int .i64 t244)) (fun _ hk => hk.2) (.slice Ao129 t245.length co129)) (fun _ hk => hk.2) (.slice Ao130 t248.length co130)) (fun _ h_ => h_.1))) hb); replace HO247 := Aside0.mk (Kd.R_below (by (with_reducible repeat (first | apply Kd.R_alloc | apply Kd.R_drewN | apply Kd.R_drew)); exact (Kd.R_mono (Kd.R_far (p := ⟨gb252, 2, none⟩) (Kd.R_far (p := ⟨gb252, 1, none⟩) (Kd.R_far (p := ⟨gb252, 0, none⟩) (Kd.R_types HO247.out BK252.out (by decide)) (fun _ hk => hk.2) (.int .i64 t244)) (fun _ hk => hk.2) (.slice Ao129 t245.length co129)) (fun _ hk => hk.2) (.slice Ao130 t248.length co130)) (fun _ h_ => h_.1))) hb); replace HO250 := Aside0.mk (Kd.R_below (by (with_reducible repeat (first | apply Kd.R_alloc | apply Kd.R_drewN | apply Kd.R_drew)); exact (Kd.R_mono (Kd.R_far (p := ⟨gb252, 2, none⟩) (Kd.R_far (p := ⟨gb252, 1, none⟩) (Kd.R_far (p := ⟨gb252, 0, none⟩) (Kd.R_types HO250.out BK252.out (by decide)) (fun _ hk => hk.2) (.int .i64 t244)) (fun _ hk => hk.2) (.slice Ao129 t245.length co129)) (fun _ hk => hk.2) (.slice Ao130 t248.length co130)) (fun _ h_ => h_.1))) hb); replace BK185 := Aside0.mk (blk_below (g := gb185) (o := .cells #[.int .i64 a0_0, .slice A0_1 l0_1.length c0_1, .slice A0_2 l0_2.length c0_2] 24 (0, 0)) (by (with_reducible repeat (first | refine blk_drewN ?_ _ | refine blk_drew ?_ | refine blk_alloc ?_ _)); refine blk_far ?_ NB185_252.out _; (with_reducible repeat (first | refine blk_drewN ?_ _ | refine blk_drew ?_ | refine blk_alloc ?_ _)); refine blk_far ?_ NB185_252.out _; (with_reducible repeat (first | refine blk_drewN ?_ _ | refine blk_drew ?_ | refine blk_alloc ?_ _)); refine blk_far ?_ NB185_252.out _; (with_reducible repeat (first | refine blk_drewN ?_ _ | refine blk_drew ?_ | refine blk_alloc ?_ _)); exact BK185.out) hb); replace BK202 := Aside0.mk (blk_below (g := gb202) (o := .cells #[.int .i64 t194, .slice Ao23 t195.length co23, .slice Ao24 t198.length co24] 28 (0, 0)) (by (with_reducible repeat (first | refine blk_drewN ?_ _ | refine blk_drew ?_ | refine blk_alloc ?_ _)); refine blk_far ?_ NB202_252.out _; (with_reducible repeat (first | refine blk_drewN ?_ _ | refine blk_drew ?_ | refine blk_alloc ?_ _)); refine blk_far ?_ NB202_252.out _; (with_reducible repeat (first | refine blk_drewN ?_ _ | refine blk_drew ?_ | refine blk_alloc ?_ _)); refine blk_far ?_ NB202_252.out _; (with_reducible repeat (first | refine blk_drewN ?_ _ | refine blk_drew ?_ | refine blk_alloc ?_ _)); exact BK202.out) hb); replace BK210 := Aside0.mk (blk_below (g := gb210) (o := .cells #[.int .i64 t203, .slice Ao31 t230.length co31, .slice Ao32 t231.length co32] 28 (0, 0)) (by (with_reducible repeat (first | refine blk_drewN ?_ _ | refine blk_drew ?_ | refine blk_alloc ?_ _)); refine blk_far ?_ NB210_252.out _; (with_reducible repeat (first | refine blk_drewN ?_ _ | refine blk_drew ?_ | refine blk_alloc ?_ _)); refine blk_far ?_ NB210_252.out _; (with_reducible repeat (first | refine blk_drewN ?_ _ | refine blk_drew ?_ | refine blk_alloc ?_ _)); refine blk_far ?_ NB210_252.out _; (with_reducible repeat (first | refine blk_drewN ?_ _ | refine blk_drew ?_ | refine blk_alloc ?_ _)); exact BK210.out) hb); replace BK219 := Aside0.mk (blk_below (g := gb219) (o := .cells #[.int .i64 t211, .slice Ao39 t212.length co39, .slice Ao40 t215.length co40] 28 (0, 0)) (by (with_reducible repeat (first | refine blk_drewN ?_ _ | refine blk_drew ?_ | refine blk_alloc ?_ _)); refine blk_far ?_ NB219_252.out _; (with_reducible repeat (first | refine blk_drewN ?_ _ | refine blk_drew ?_ | refine blk_alloc ?_ _)); refine blk_far ?_ NB219_252.out _; (with_reducible repeat (first | refine blk_drewN ?_ _ | refine blk_drew ?_ | refine blk_alloc ?_ _)); refine blk_far ?_ NB219_252.out _; (with_reducible repeat (first | refine blk_drewN ?_ _ | refine blk_drew ?_ | refine blk_alloc ?_ _)); exact BK219.out) hb); replace BK252 := Aside0.mk (blk_below (g := gb252) (o := .cells #[.int .i64 t244, .slice Ao129 t245.length co129, .slice Ao130 t248.length co130] 28 (0, 0)) (by (with_reducible repeat (first | refine blk_drewN ?_ _ | refine blk_drew ?_ | refine blk_alloc ?_ _)); refine blk_put (cs := #[.int .i64 t244, .slice Ao129 t245.length co129, .slice none 0 0]) ?_ 2 _ rfl; (with_reducible repeat (first | refine blk_drewN ?_ _ | refine blk_drew ?_ | refine blk_alloc ?_ _)); refine blk_put (cs := #[.int .i64 t244, .slice none 0 0, .slice none 0 0]) ?_ 1 _ rfl; (with_reducible repeat (first | refine blk_drewN ?_ _ | refine blk_drew ?_ | refine blk_alloc ?_ _)); refine blk_put (cs := #[.int .i64 0, .slice none 0 0, .slice none 0 0]) ?_ 0 _ rfl; (with_reducible repeat (first | refine blk_drewN ?_ _ | refine blk_drew ?_ | refine blk_alloc ?_ _)); exact BK252.out) hb); replace HB := Aside0.mk (below_step (tB HB.out) hb); (try clear hb); (try clear hb2); (try clear hk); (try clear hi)))
             go_meet
             case rel => exact ⟨_, ((t251 != t201)), (by first | rfl | (simp; done) | (simp [wrap64]; done) | (simp [*]; done)), H', ⟨by have := HJ10.out; have := HJ63.out; first | omega | exact Nat.le_refl _⟩, ⟨by (try simp only [hl211001_63]); (try simp only [hl211002_63]); (with_reducible repeat (first | apply Kd.R_alloc | apply Kd.R_drewN | apply Kd.R_drew)); exact Kd.R_mono HO_203001.out (fun _ hk => ⟨hk.1.1.1.1.1, ⟨hk.1.1.1.1.2.1, ⟨hk.1.1.1.1.2.2.1, ⟨hk.1.1.1.1.2.2.2.1, ⟨hk.1.1.1.1.2.2.2.2, ⟨hk.1.2, hk.2⟩⟩⟩⟩⟩⟩)⟩, ⟨by (try simp only [hl211001_63]); (try simp only [hl211002_63]); (with_reducible repeat (first | apply Kd.R_alloc | apply Kd.R_drewN | apply Kd.R_drew)); exact Kd.R_mono HO_203002.out (fun _ hk => ⟨hk.1.1.1.1.1, ⟨hk.1.1.1.1.2.1, ⟨hk.1.1.1.1.2.2.1, ⟨hk.1.1.1.1.2.2.2.1, ⟨hk.1.1.1.1.2.2.2.2, ⟨hk.1.2, hk.2⟩⟩⟩⟩⟩⟩)⟩, ⟨by (try simp only [hl211001_63]); (try simp only [hl211002_63]); (with_reducible repeat (first | apply Kd.R_alloc | apply Kd.R_drewN | apply Kd.R_drew)); exact Kd.R_mono HO_211001.out (fun _ hk => ⟨hk.1.1.1.1.1, ⟨hk.1.1.1.1.2.1, ⟨hk.1.1.1.1.2.2.1, ⟨hk.1.1.1.1.2.2.2.1, ⟨hk.1.1.1.1.2.2.2.2, ⟨hk.1.2, hk.2⟩⟩⟩⟩⟩⟩)⟩, ⟨by (try simp only [hl211001_63]); (try simp only [hl211002_63]); (with_reducible repeat (first | apply Kd.R_alloc | apply Kd.R_drewN | apply Kd.R_drew)); exact Kd.R_mono HO_211002.out (fun _ hk => ⟨hk.1.1.1.1.1, ⟨hk.1.1.1.1.2.1, ⟨hk.1.1.1.1.2.2.1, ⟨hk.1.1.1.1.2.2.2.1, ⟨hk.1.1.1.1.2.2.2.2, ⟨hk.1.2, hk.2⟩⟩⟩⟩⟩⟩)⟩, ⟨by (try simp only [hl211001_63]); (try simp only [hl211002_63]); (with_reducible repeat (first | apply Kd.R_alloc | apply Kd.R_drewN | apply Kd.R_drew)); exact Kd.R_mono HO_220001.out (fun _ hk => ⟨hk.1.1.1.1.1, ⟨hk.1.1.1.1.2.1, ⟨hk.1.1.1.1.2.2.1, ⟨hk.1.1.1.1.2.2.2.1, ⟨hk.1.1.1.1.2.2.2.2, ⟨hk.1.2, hk.2⟩⟩⟩⟩⟩⟩)⟩, ⟨by (try simp only [hl211001_63]); (try simp only [hl211002_63]); (with_reducible repeat (first | apply Kd.R_alloc | apply Kd.R_drewN | apply Kd.R_drew)); exact Kd.R_mono HO_220002.out (fun _ hk => ⟨hk.1.1.1.1.1, ⟨hk.1.1.1.1.2.1, ⟨hk.1.1.1.1.2.2.1, ⟨hk.1.1.1.1.2.2.2.1, ⟨hk.1.1.1.1.2.2.2.2, ⟨hk.1.2, hk.2⟩⟩⟩⟩⟩⟩)⟩, ⟨by (try simp only [hl211001_63]); (try simp only [hl211002_63]); (with_reducible repeat (first | apply Kd.R_alloc | apply Kd.R_drewN | apply Kd.R_drew)); exact Kd.R_mono HO247.out (fun _ hk => ⟨hk.1.1.1.1.1.1.1.2, ⟨hk.1.1.1.1.1.1.2, ⟨hk.1.1.1.1.1.2, ⟨hk.1.1.1.1.2, ⟨hk.1.1.1.2, ⟨hk.1.1.2, hk.1.1.1.1.1.1.1.1⟩⟩⟩⟩⟩⟩)⟩, ⟨by (try simp only [hl211001_63]); (try simp only [hl211002_63]); (with_reducible repeat (first | apply Kd.R_alloc | apply Kd.R_drewN | apply Kd.R_drew)); exact Kd.R_mono HO250.out (fun _ hk => ⟨hk.1.1.1.1.1.1.1.2, ⟨hk.1.1.1.1.1.1.2, ⟨hk.1.1.1.1.1.2, ⟨hk.1.1.1.1.2, ⟨hk.1.1.1.2, ⟨hk.1.1.2, hk.1.1.1.1.1.1.1.1⟩⟩⟩⟩⟩⟩)⟩, ⟨by (try simp only [hl211001_63]); (try simp only [hl211002_63]); (with_reducible repeat (first | refine blk_drewN ?_ _ | refine blk_drew ?_ | refine blk_alloc ?_ _)); exact BK185.out⟩, ⟨by (try simp only [hl211001_63]); (try simp only [hl211002_63]); (with_reducible repeat (first | refine blk_drewN ?_ _ | refine blk_drew ?_ | refine blk_alloc ?_ _)); exact BK202.out⟩, ⟨by (try simp only [hl211001_63]); (try simp only [hl211002_63]); (with_reducible repeat (first | refine blk_drewN ?_ _ | refine blk_drew ?_ | refine blk_alloc ?_ _)); exact BK210.out⟩, ⟨by (try simp only [hl211001_63]); (try simp only [hl211002_63]); (with_reducible repeat (first | refine blk_drewN ?_ _ | refine blk_drew ?_ | refine blk_alloc ?_ _)); exact BK219.out⟩, ⟨by (try simp only [hl211001_63]); (try simp only [hl211002_63]); (with_reducible repeat (first | refine blk_drewN ?_ _ | refine blk_drew ?_ | refine blk_alloc ?_ _)); exact BK252.out⟩, ⟨tB HB.out⟩⟩
            ·
             replace c132 := Bool.eq_false_iff.mpr c132
             subst c132
             have H1 : (laws_FnExactDropTop.j2 kj63 t233 true t211 t234 t235) = some r := by rw [if_neg (show ¬ (false = true) by decide)] at H; exact H
             clear H
             have H := H1
             clear H1
             have H' := Aside0.mk H
             clear H
             have hnb143 := NB252_185.out
             have hnc143 := NB185_252.out
             have hnb144 := NB252_202.out
             have hnc144 := NB202_252.out
             have hnb145 := NB252_210.out
             have hnc145 := NB210_252.out
             have hnb146 := NB252_219.out
             have hnc146 := NB219_252.out
             obtain ⟨hcz147_0, hfz147_0, hcz147_1, hfz147_1, hcz147_2, hfz147_2⟩ := cz3 BK252
             have hnb148 := NB202_185.out
             have hnc148 := NB185_202.out
             have hnb149 := NB202_210.out
             have hnc149 := NB210_202.out
             have hnb150 := NB202_219.out
             have hnc150 := NB219_202.out
             obtain ⟨hcz151_0, hfz151_0, hcz151_1, hfz151_1, hcz151_2, hfz151_2⟩ := cz3 BK202
             go_wp2_with (first | ((with_reducible refine gate_callee (f := 19) rfl ?_); refine goesL_ (some 81) rfl rfl Try.func19 (by kernel_rfl) rfl #[.agg #[.int .i64 t244, .slice Ao129 t245.length co129, .slice Ao130 t248.length co130], .agg #[.int .i64 t194, .slice Ao23 t195.length co23, .slice Ao24 t198.length co24]] rfl tM ?_; (with_reducible refine (laws_eqPile.calls kj63 t244 _ _ t245 _ _ t248 t194 _ _ t195 _ _ t198 false _ ?side1 ?side2 ?side3 ?side4 ?side5 ?side6 ?side7 ?side8 A131.out).mono ?_); (case side1 => refine (Kd.R_reads' (e := 3) (base := w.heap.size) (ok := fun k_ => ((((((((some k_ ≠ (.slice Ao130 t248.length co130 : Value).ownBlock ∧ some k_ ≠ (.slice Ao23 t195.length co23 : Value).ownBlock) ∧ some k_ ≠ (.slice Ao24 t198.length co24 : Value).ownBlock) ∧ some k_ ≠ (.slice Ao31 t230.length co31 : Value).ownBlock) ∧ some k_ ≠ (.slice Ao32 t231.length co32 : Value).ownBlock) ∧ some k_ ≠ (.slice Ao39 t212.length co39 : Value).ownBlock) ∧ some k_ ≠ (.slice Ao40 t215.length co40 : Value).ownBlock) ∧ some k_ ≠ (.slice Ao120 t238.length co120 : Value).ownBlock) ∧ some k_ ≠ (.slice Ao121 t241.length co121 : Value).ownBlock)) (n := t245.length) (c := co129) ?_).2.2; exact (by (with_reducible repeat (first | apply Kd.R_alloc | apply Kd.R_drewN | apply Kd.R_drew)); exact (Kd.R_mono (Kd.R_far (p := ⟨gb252, 2, none⟩) (Kd.R_far (p := ⟨gb252, 1, none⟩) (Kd.R_far (p := ⟨gb252, 0, none⟩) (Kd.R_types HO247.out BK252.out (by decide)) (fun _ hk => hk.2) (.int .i64 t244)) (fun _ hk => hk.2) (.slice Ao129 t245.length co129)) (fun _ hk => hk.2) (.slice Ao130 t248.length co130)) (fun _ h_ => h_.1)))); (case side2 => exact (Kd.R_reads' HO247.out).2.1); (case side3 => refine (Kd.R_reads' (e := 3) (base := w.heap.size) (ok := fun k_ => ((((((((some k_ ≠ (.slice Ao129 t245.length co129 : Value).ownBlock ∧ some k_ ≠ (.slice Ao23 t195.length co23 : Value).ownBlock) ∧ some k_ ≠ (.slice Ao24 t198.length co24 : Value).ownBlock) ∧ some k_ ≠ (.slice Ao31 t230.length co31 : Value).ownBlock) ∧ some k_ ≠ (.slice Ao32 t231.length co32 : Value).ownBlock) ∧ some k_ ≠ (.slice Ao39 t212.length co39 : Value).ownBlock) ∧ some k_ ≠ (.slice Ao40 t215.length co40 : Value).ownBlock) ∧ some k_ ≠ (.slice Ao120 t238.length co120 : Value).ownBlock) ∧ some k_ ≠ (.slice Ao121 t241.length co121 : Value).ownBlock)) (n := t248.length) (c := co130) ?_).2.2; exact (by (with_reducible repeat (first | apply Kd.R_alloc | apply Kd.R_drewN | apply Kd.R_drew)); exact (Kd.R_mono (Kd.R_far (p := ⟨gb252, 2, none⟩) (Kd.R_far (p := ⟨gb252, 1, none⟩) (Kd.R_far (p := ⟨gb252, 0, none⟩) (Kd.R_types HO250.out BK252.out (by decide)) (fun _ hk => hk.2) (.int .i64 t244)) (fun _ hk => hk.2) (.slice Ao129 t245.length co129)) (fun _ hk => hk.2) (.slice Ao130 t248.length co130)) (fun _ h_ => h_.1)))); (case side4 => exact (Kd.R_reads' HO250.out).2.1); (case side5 => refine (Kd.R_reads' (e := 3) (base := w.heap.size) (ok := fun k_ => (((((some k_ ≠ (.slice Ao24 t198.length co24 : Value).ownBlock ∧ (some k_ ≠ (.slice Ao31 t230.length co31 : Value).ownBlock ∧ (some k_ ≠ (.slice Ao32 t231.length co32 : Value).ownBlock ∧ (some k_ ≠ (.slice Ao39 t212.length co39 : Value).ownBlock ∧ some k_ ≠ (.slice Ao40 t215.length co40 : Value).ownBlock)))) ∧ some k_ ≠ (.slice Ao120 t238.length co120 : Value).ownBlock) ∧ some k_ ≠ (.slice Ao121 t241.length co121 : Value).ownBlock) ∧ some k_ ≠ (.slice Ao129 t245.length co129 : Value).ownBlock) ∧ some k_ ≠ (.slice Ao130 t248.length co130 : Value).ownBlock)) (n := t195.length) (c := co23) ?_).2.2; exact (by (with_reducible repeat (first | apply Kd.R_alloc | apply Kd.R_drewN | apply Kd.R_drew)); exact (Kd.R_mono (Kd.R_far (p := ⟨gb252, 2, none⟩) (Kd.R_far (p := ⟨gb252, 1, none⟩) (Kd.R_far (p := ⟨gb252, 0, none⟩) (Kd.R_types HO_203001.out BK252.out (by decide)) (fun _ hk => hk.2) (.int .i64 t244)) (fun _ hk => hk.2) (.slice Ao129 t245.length co129)) (fun _ hk => hk.2) (.slice Ao130 t248.length co130)) (fun _ h_ => h_.1)))); (case side6 => exact (Kd.R_reads' HO_203001.out).2.1); (case side7 => refine (Kd.R_reads' (e := 3) (base := w.heap.size) (ok := fun k_ => (((((some k_ ≠ (.slice Ao23 t195.length co23 : Value).ownBlock ∧ (some k_ ≠ (.slice Ao31 t230.length co31 : Value).ownBlock ∧ (some k_ ≠ (.slice Ao32 t231.length co32 : Value).ownBlock ∧ (some k_ ≠ (.slice Ao39 t212.length co39 : Value).ownBlock ∧ some k_ ≠ (.slice Ao40 t215.length co40 : Value).ownBlock)))) ∧ some k_ ≠ (.slice Ao120 t238.length co120 : Value).ownBlock) ∧ some k_ ≠ (.slice Ao121 t241.length co121 : Value).ownBlock) ∧ some k_ ≠ (.slice Ao129 t245.length co129 : Value).ownBlock) ∧ some k_ ≠ (.slice Ao130 t248.length co130 : Value).ownBlock)) (n := t198.length) (c := co24) ?_).2.2; exact (by (with_reducible repeat (first | apply Kd.R_alloc | apply Kd.R_drewN | apply Kd.R_drew)); exact (Kd.R_mono (Kd.R_far (p := ⟨gb252, 2, none⟩) (Kd.R_far (p := ⟨gb252, 1, none⟩) (Kd.R_far (p := ⟨gb252, 0, none⟩) (Kd.R_types HO_203002.out BK252.out (by decide)) (fun _ hk => hk.2) (.int .i64 t244)) (fun _ hk => hk.2) (.slice Ao129 t245.length co129)) (fun _ hk => hk.2) (.slice Ao130 t248.length co130)) (fun _ h_ => h_.1)))); (case side8 => exact (Kd.R_reads' HO_203002.out).2.1); rintro e w152 ⟨rfl, hb⟩; refine ⟨_, rfl, ?_⟩; replace HO_203001 := Aside0.mk (Kd.R_below (by (with_reducible repeat (first | apply Kd.R_alloc | apply Kd.R_drewN | apply Kd.R_drew)); exact (Kd.R_mono (Kd.R_far (p := ⟨gb252, 2, none⟩) (Kd.R_far (p := ⟨gb252, 1, none⟩) (Kd.R_far (p := ⟨gb252, 0, none⟩) (Kd.R_types HO_203001.out BK252.out (by decide)) (fun _ hk => hk.2) (.int .i64 t244)) (fun _ hk => hk.2) (.slice Ao129 t245.length co129)) (fun _ hk => hk.2) (.slice Ao130 t248.length co130)) (fun _ h_ => h_.1))) hb); replace HO_203002 := Aside0.mk (Kd.R_below (by (with_reducible repeat (first | apply Kd.R_alloc | apply Kd.R_drewN | apply Kd.R_drew)); exact (Kd.R_mono (Kd.R_far (p := ⟨gb252, 2, none⟩) (Kd.R_far (p := ⟨gb252, 1, none⟩) (Kd.R_far (p := ⟨gb252, 0, none⟩) (Kd.R_types HO_203002.out BK252.out (by decide)) (fun _ hk => hk.2) (.int .i64 t244)) (fun _ hk => hk.2) (.slice Ao129 t245.length co129)) (fun _ hk => hk.2) (.slice Ao130 t248.length co130)) (fun _ h_ => h_.1))) hb); replace HO_211001 := Aside0.mk (Kd.R_below (by (with_reducible repeat (first | apply Kd.R_alloc | apply Kd.R_drewN | apply Kd.R_drew)); exact (Kd.R_mono (Kd.R_far (p := ⟨gb252, 2, none⟩) (Kd.R_far (p := ⟨gb252, 1, none⟩) (Kd.R_far (p := ⟨gb252, 0, none⟩) (Kd.R_types HO_211001.out BK252.out (by decide)) (fun _ hk => hk.2) (.int .i64 t244)) (fun _ hk => hk.2) (.slice Ao129 t245.length co129)) (fun _ hk => hk.2) (.slice Ao130 t248.length co130)) (fun _ h_ => h_.1))) hb); replace HO_211002 := Aside0.mk (Kd.R_below (by (with_reducible repeat (first | apply Kd.R_alloc | apply Kd.R_drewN | apply Kd.R_drew)); exact (Kd.R_mono (Kd.R_far (p := ⟨gb252, 2, none⟩) (Kd.R_far (p := ⟨gb252, 1, none⟩) (Kd.R_far (p := ⟨gb252, 0, none⟩) (Kd.R_types HO_211002.out BK252.out (by decide)) (fun _ hk => hk.2) (.int .i64 t244)) (fun _ hk => hk.2) (.slice Ao129 t245.length co129)) (fun _ hk => hk.2) (.slice Ao130 t248.length co130)) (fun _ h_ => h_.1))) hb); replace HO_220001 := Aside0.mk (Kd.R_below (by (with_reducible repeat (first | apply Kd.R_alloc | apply Kd.R_drewN | apply Kd.R_drew)); exact (Kd.R_mono (Kd.R_far (p := ⟨gb252, 2, none⟩) (Kd.R_far (p := ⟨gb252, 1, none⟩) (Kd.R_far (p := ⟨gb252, 0, none⟩) (Kd.R_types HO_220001.out BK252.out (by decide)) (fun _ hk => hk.2) (.int .i64 t244)) (fun _ hk => hk.2) (.slice Ao129 t245.length co129)) (fun _ hk => hk.2) (.slice Ao130 t248.length co130)) (fun _ h_ => h_.1))) hb); replace HO_220002 := Aside0.mk (Kd.R_below (by (with_reducible repeat (first | apply Kd.R_alloc | apply Kd.R_drewN | apply Kd.R_drew)); exact (Kd.R_mono (Kd.R_far (p := ⟨gb252, 2, none⟩) (Kd.R_far (p := ⟨gb252, 1, none⟩) (Kd.R_far (p := ⟨gb252, 0, none⟩) (Kd.R_types HO_220002.out BK252.out (by decide)) (fun _ hk => hk.2) (.int .i64 t244)) (fun _ hk => hk.2) (.slice Ao129 t245.length co129)) (fun _ hk => hk.2) (.slice Ao130 t248.length co130)) (fun _ h_ => h_.1))) hb); replace HO240 := Aside0.mk (Kd.R_below (by (with_reducible repeat (first | apply Kd.R_alloc | apply Kd.R_drewN | apply Kd.R_drew)); exact (Kd.R_mono (Kd.R_far (p := ⟨gb252, 2, none⟩) (Kd.R_far (p := ⟨gb252, 1, none⟩) (Kd.R_far (p := ⟨gb252, 0, none⟩) (Kd.R_types HO240.out BK252.out (by decide)) (fun _ hk => hk.2) (.int .i64 t244)) (fun _ hk => hk.2) (.slice Ao129 t245.length co129)) (fun _ hk => hk.2) (.slice Ao130 t248.length co130)) (fun _ h_ => h_.1))) hb); replace HO243 := Aside0.mk (Kd.R_below (by (with_reducible repeat (first | apply Kd.R_alloc | apply Kd.R_drewN | apply Kd.R_drew)); exact (Kd.R_mono (Kd.R_far (p := ⟨gb252, 2, none⟩) (Kd.R_far (p := ⟨gb252, 1, none⟩) (Kd.R_far (p := ⟨gb252, 0, none⟩) (Kd.R_types HO243.out BK252.out (by decide)) (fun _ hk => hk.2) (.int .i64 t244)) (fun _ hk => hk.2) (.slice Ao129 t245.length co129)) (fun _ hk => hk.2) (.slice Ao130 t248.length co130)) (fun _ h_ => h_.1))) hb); replace HO247 := Aside0.mk (Kd.R_below (by (with_reducible repeat (first | apply Kd.R_alloc | apply Kd.R_drewN | apply Kd.R_drew)); exact (Kd.R_mono (Kd.R_far (p := ⟨gb252, 2, none⟩) (Kd.R_far (p := ⟨gb252, 1, none⟩) (Kd.R_far (p := ⟨gb252, 0, none⟩) (Kd.R_types HO247.out BK252.out (by decide)) (fun _ hk => hk.2) (.int .i64 t244)) (fun _ hk => hk.2) (.slice Ao129 t245.length co129)) (fun _ hk => hk.2) (.slice Ao130 t248.length co130)) (fun _ h_ => h_.1))) hb); replace HO250 := Aside0.mk (Kd.R_below (by (with_reducible repeat (first | apply Kd.R_alloc | apply Kd.R_drewN | apply Kd.R_drew)); exact (Kd.R_mono (Kd.R_far (p := ⟨gb252, 2, none⟩) (Kd.R_far (p := ⟨gb252, 1, none⟩) (Kd.R_far (p := ⟨gb252, 0, none⟩) (Kd.R_types HO250.out BK252.out (by decide)) (fun _ hk => hk.2) (.int .i64 t244)) (fun _ hk => hk.2) (.slice Ao129 t245.length co129)) (fun _ hk => hk.2) (.slice Ao130 t248.length co130)) (fun _ h_ => h_.1))) hb); replace BK185 := Aside0.mk (blk_below (g := gb185) (o := .cells #[.int .i64 a0_0, .slice A0_1 l0_1.length c0_1, .slice A0_2 l0_2.length c0_2] 24 (0, 0)) (by (with_reducible repeat (first | refine blk_drewN ?_ _ | refine blk_drew ?_ | refine blk_alloc ?_ _)); refine blk_far ?_ NB185_252.out _; (with_reducible repeat (first | refine blk_drewN ?_ _ | refine blk_drew ?_ | refine blk_alloc ?_ _)); refine blk_far ?_ NB185_252.out _; (with_reducible repeat (first | refine blk_drewN ?_ _ | refine blk_drew ?_ | refine blk_alloc ?_ _)); refine blk_far ?_ NB185_252.out _; (with_reducible repeat (first | refine blk_drewN ?_ _ | refine blk_drew ?_ | refine blk_alloc ?_ _)); exact BK185.out) hb); replace BK202 := Aside0.mk (blk_below (g := gb202) (o := .cells #[.int .i64 t194, .slice Ao23 t195.length co23, .slice Ao24 t198.length co24] 28 (0, 0)) (by (with_reducible repeat (first | refine blk_drewN ?_ _ | refine blk_drew ?_ | refine blk_alloc ?_ _)); refine blk_far ?_ NB202_252.out _; (with_reducible repeat (first | refine blk_drewN ?_ _ | refine blk_drew ?_ | refine blk_alloc ?_ _)); refine blk_far ?_ NB202_252.out _; (with_reducible repeat (first | refine blk_drewN ?_ _ | refine blk_drew ?_ | refine blk_alloc ?_ _)); refine blk_far ?_ NB202_252.out _; (with_reducible repeat (first | refine blk_drewN ?_ _ | refine blk_drew ?_ | refine blk_alloc ?_ _)); exact BK202.out) hb); replace BK210 := Aside0.mk (blk_below (g := gb210) (o := .cells #[.int .i64 t203, .slice Ao31 t230.length co31, .slice Ao32 t231.length co32] 28 (0, 0)) (by (with_reducible repeat (first | refine blk_drewN ?_ _ | refine blk_drew ?_ | refine blk_alloc ?_ _)); refine blk_far ?_ NB210_252.out _; (with_reducible repeat (first | refine blk_drewN ?_ _ | refine blk_drew ?_ | refine blk_alloc ?_ _)); refine blk_far ?_ NB210_252.out _; (with_reducible repeat (first | refine blk_drewN ?_ _ | refine blk_drew ?_ | refine blk_alloc ?_ _)); refine blk_far ?_ NB210_252.out _; (with_reducible repeat (first | refine blk_drewN ?_ _ | refine blk_drew ?_ | refine blk_alloc ?_ _)); exact BK210.out) hb); replace BK219 := Aside0.mk (blk_below (g := gb219) (o := .cells #[.int .i64 t211, .slice Ao39 t212.length co39, .slice Ao40 t215.length co40] 28 (0, 0)) (by (with_reducible repeat (first | refine blk_drewN ?_ _ | refine blk_drew ?_ | refine blk_alloc ?_ _)); refine blk_far ?_ NB219_252.out _; (with_reducible repeat (first | refine blk_drewN ?_ _ | refine blk_drew ?_ | refine blk_alloc ?_ _)); refine blk_far ?_ NB219_252.out _; (with_reducible repeat (first | refine blk_drewN ?_ _ | refine blk_drew ?_ | refine blk_alloc ?_ _)); refine blk_far ?_ NB219_252.out _; (with_reducible repeat (first | refine blk_drewN ?_ _ | refine blk_drew ?_ | refine blk_alloc ?_ _)); exact BK219.out) hb); replace BK252 := Aside0.mk (blk_below (g := gb252) (o := .cells #[.int .i64 t244, .slice Ao129 t245.length co129, .slice Ao130 t248.length co130] 28 (0, 0)) (by (with_reducible repeat (first | refine blk_drewN ?_ _ | refine blk_drew ?_ | refine blk_alloc ?_ _)); refine blk_put (cs := #[.int .i64 t244, .slice Ao129 t245.length co129, .slice none 0 0]) ?_ 2 _ rfl; (with_reducible repeat (first | refine blk_drewN ?_ _ | refine blk_drew ?_ | refine blk_alloc ?_ _)); refine blk_put (cs := #[.int .i64 t244, .slice none 0 0, .slice none 0 0]) ?_ 1 _ rfl; (with_reducible repeat (first | refine blk_drewN ?_ _ | refine blk_drew ?_ | refine blk_alloc ?_ _)); refine blk_put (cs := #[.int .i64 0, .slice none 0 0, .slice none 0 0]) ?_ 0 _ rfl; (with_reducible repeat (first | refine blk_drewN ?_ _ | refine blk_drew ?_ | refine blk_alloc ?_ _)); exact BK252.out) hb); replace HB := Aside0.mk (below_step (tB HB.out) hb); (try clear hb); (try clear hb2); (try clear hk); (try clear hi)))
             go_meet
             case rel => exact ⟨_, (true), (by first | rfl | (simp; done) | (simp [wrap64]; done) | (simp [*]; done)), H', ⟨by have := HJ10.out; have := HJ63.out; first | omega | exact Nat.le_refl _⟩, ⟨by (try simp only [hl211001_63]); (try simp only [hl211002_63]); (with_reducible repeat (first | apply Kd.R_alloc | apply Kd.R_drewN | apply Kd.R_drew)); exact Kd.R_mono HO_203001.out (fun _ hk => ⟨hk.1.1.1.1.1, ⟨hk.1.1.1.1.2.1, ⟨hk.1.1.1.1.2.2.1, ⟨hk.1.1.1.1.2.2.2.1, ⟨hk.1.1.1.1.2.2.2.2, ⟨hk.1.2, hk.2⟩⟩⟩⟩⟩⟩)⟩, ⟨by (try simp only [hl211001_63]); (try simp only [hl211002_63]); (with_reducible repeat (first | apply Kd.R_alloc | apply Kd.R_drewN | apply Kd.R_drew)); exact Kd.R_mono HO_203002.out (fun _ hk => ⟨hk.1.1.1.1.1, ⟨hk.1.1.1.1.2.1, ⟨hk.1.1.1.1.2.2.1, ⟨hk.1.1.1.1.2.2.2.1, ⟨hk.1.1.1.1.2.2.2.2, ⟨hk.1.2, hk.2⟩⟩⟩⟩⟩⟩)⟩, ⟨by (try simp only [hl211001_63]); (try simp only [hl211002_63]); (with_reducible repeat (first | apply Kd.R_alloc | apply Kd.R_drewN | apply Kd.R_drew)); exact Kd.R_mono HO_211001.out (fun _ hk => ⟨hk.1.1.1.1.1, ⟨hk.1.1.1.1.2.1, ⟨hk.1.1.1.1.2.2.1, ⟨hk.1.1.1.1.2.2.2.1, ⟨hk.1.1.1.1.2.2.2.2, ⟨hk.1.2, hk.2⟩⟩⟩⟩⟩⟩)⟩, ⟨by (try simp only [hl211001_63]); (try simp only [hl211002_63]); (with_reducible repeat (first | apply Kd.R_alloc | apply Kd.R_drewN | apply Kd.R_drew)); exact Kd.R_mono HO_211002.out (fun _ hk => ⟨hk.1.1.1.1.1, ⟨hk.1.1.1.1.2.1, ⟨hk.1.1.1.1.2.2.1, ⟨hk.1.1.1.1.2.2.2.1, ⟨hk.1.1.1.1.2.2.2.2, ⟨hk.1.2, hk.2⟩⟩⟩⟩⟩⟩)⟩, ⟨by (try simp only [hl211001_63]); (try simp only [hl211002_63]); (with_reducible repeat (first | apply Kd.R_alloc | apply Kd.R_drewN | apply Kd.R_drew)); exact Kd.R_mono HO_220001.out (fun _ hk => ⟨hk.1.1.1.1.1, ⟨hk.1.1.1.1.2.1, ⟨hk.1.1.1.1.2.2.1, ⟨hk.1.1.1.1.2.2.2.1, ⟨hk.1.1.1.1.2.2.2.2, ⟨hk.1.2, hk.2⟩⟩⟩⟩⟩⟩)⟩, ⟨by (try simp only [hl211001_63]); (try simp only [hl211002_63]); (with_reducible repeat (first | apply Kd.R_alloc | apply Kd.R_drewN | apply Kd.R_drew)); exact Kd.R_mono HO_220002.out (fun _ hk => ⟨hk.1.1.1.1.1, ⟨hk.1.1.1.1.2.1, ⟨hk.1.1.1.1.2.2.1, ⟨hk.1.1.1.1.2.2.2.1, ⟨hk.1.1.1.1.2.2.2.2, ⟨hk.1.2, hk.2⟩⟩⟩⟩⟩⟩)⟩, ⟨by (try simp only [hl211001_63]); (try simp only [hl211002_63]); (with_reducible repeat (first | apply Kd.R_alloc | apply Kd.R_drewN | apply Kd.R_drew)); exact Kd.R_mono HO247.out (fun _ hk => ⟨hk.1.1.1.1.1.1.1.2, ⟨hk.1.1.1.1.1.1.2, ⟨hk.1.1.1.1.1.2, ⟨hk.1.1.1.1.2, ⟨hk.1.1.1.2, ⟨hk.1.1.2, hk.1.1.1.1.1.1.1.1⟩⟩⟩⟩⟩⟩)⟩, ⟨by (try simp only [hl211001_63]); (try simp only [hl211002_63]); (with_reducible repeat (first | apply Kd.R_alloc | apply Kd.R_drewN | apply Kd.R_drew)); exact Kd.R_mono HO250.out (fun _ hk => ⟨hk.1.1.1.1.1.1.1.2, ⟨hk.1.1.1.1.1.1.2, ⟨hk.1.1.1.1.1.2, ⟨hk.1.1.1.1.2, ⟨hk.1.1.1.2, ⟨hk.1.1.2, hk.1.1.1.1.1.1.1.1⟩⟩⟩⟩⟩⟩)⟩, ⟨by (try simp only [hl211001_63]); (try simp only [hl211002_63]); (with_reducible repeat (first | refine blk_drewN ?_ _ | refine blk_drew ?_ | refine blk_alloc ?_ _)); exact BK185.out⟩, ⟨by (try simp only [hl211001_63]); (try simp only [hl211002_63]); (with_reducible repeat (first | refine blk_drewN ?_ _ | refine blk_drew ?_ | refine blk_alloc ?_ _)); exact BK202.out⟩, ⟨by (try simp only [hl211001_63]); (try simp only [hl211002_63]); (with_reducible repeat (first | refine blk_drewN ?_ _ | refine blk_drew ?_ | refine blk_alloc ?_ _)); exact BK210.out⟩, ⟨by (try simp only [hl211001_63]); (try simp only [hl211002_63]); (with_reducible repeat (first | refine blk_drewN ?_ _ | refine blk_drew ?_ | refine blk_alloc ?_ _)); exact BK219.out⟩, ⟨by (try simp only [hl211001_63]); (try simp only [hl211002_63]); (with_reducible repeat (first | refine blk_drewN ?_ _ | refine blk_drew ?_ | refine blk_alloc ?_ _)); exact BK252.out⟩, ⟨tB HB.out⟩⟩
           case rest =>
            clear HC108
            try clear c1
            try clear c2
            try clear p2
            try clear c3
            try clear c3b0
            try clear c4
            try clear c5
            try clear c6
            try clear p6
            try clear c7
            try clear c8
            try clear c9
            try clear c10
            try clear c11
            try clear c12
            try clear c13
            try clear c14
            try clear c15
            try clear c17
            try clear c19
            try clear c21
            try clear c22
            try clear c23
            try clear c24
            try clear c25
            try clear c28
            try clear c29
            try clear c35
            try clear c36
            try clear c37
            try clear c42
            try clear c43
            try clear c44
            try clear c45
            try clear c47
            try clear c48
            try clear c51
            try clear c52
            try clear c53
            try clear c55
            try clear c56
            try clear c59
            try clear c62
            try clear p64
            try clear c70
            try clear c71
            try clear c72
            try clear c75
            try clear c75b0
            try clear c77
            try clear c78
            try clear c79
            try clear c80
            try clear c82
            try clear c83
            try clear c86
            try clear c87
            try clear c88
            try clear c90
            try clear c91
            try clear c94
            try clear c97
            try clear c97b0
            try clear c98
            try clear c99
            try clear c100
            try clear c105
            try clear c105b0
            try clear c105b1
            try clear c109
            try clear c110
            try clear c111
            try clear c116
            try clear c117
            try clear c124
            try clear c125
            try clear c126
            try clear c127
            try clear c132
            try clear c133
            try clear c134
            try clear c135
            try clear c136
            try clear c138
            try clear c139
            try clear c140
            try clear c143
            try clear c144
            try clear c145
            try clear c146
            try clear c148
            try clear c149
            try clear c150
            try clear hcz101_0
            try clear hcz101_1
            try clear hcz101_2
            try clear hcz103_0
            try clear hcz103_1
            try clear hcz103_2
            try clear hcz112_0
            try clear hcz112_1
            try clear hcz112_2
            try clear hcz114_0
            try clear hcz114_1
            try clear hcz114_2
            try clear hcz118_0
            try clear hcz118_1
            try clear hcz118_2
            try clear hcz128_0
            try clear hcz128_1
            try clear hcz128_2
            try clear hcz137_0
            try clear hcz137_1
            try clear hcz137_2
            try clear hcz13_0
            try clear hcz13_1
            try clear hcz13_2
            try clear hcz141_0
            try clear hcz141_1
            try clear hcz141_2
            try clear hcz147_0
            try clear hcz147_1
            try clear hcz147_2
            try clear hcz151_0
            try clear hcz151_1
            try clear hcz151_2
            try clear hcz15_0
            try clear hcz15_1
            try clear hcz15_2
            try clear hcz22_0
            try clear hcz22_1
            try clear hcz22_2
            try clear hcz25_0
            try clear hcz25_1
            try clear hcz25_2
            try clear hcz30_0
            try clear hcz30_1
            try clear hcz30_2
            try clear hcz38_0
            try clear hcz38_1
            try clear hcz38_2
            try clear hcz46_0
            try clear hcz46_1
            try clear hcz46_2
            try clear hcz49_0
            try clear hcz49_1
            try clear hcz49_2
            try clear hcz54_0
            try clear hcz54_1
            try clear hcz54_2
            try clear hcz57_0
            try clear hcz57_1
            try clear hcz57_2
            try clear hcz5_0
            try clear hcz5_1
            try clear hcz5_2
            try clear hcz73_0
            try clear hcz73_1
            try clear hcz73_2
            try clear hcz81_0
            try clear hcz81_1
            try clear hcz81_2
            try clear hcz84_0
            try clear hcz84_1
            try clear hcz84_2
            try clear hcz89_0
            try clear hcz89_1
            try clear hcz89_2
            try clear hcz92_0
            try clear hcz92_1
            try clear hcz92_2
            try clear hfz101_0
            try clear hfz101_1
            try clear hfz101_2
            try clear hfz103_0
            try clear hfz103_1
            try clear hfz103_2
            try clear hfz112_0
            try clear hfz112_1
            try clear hfz112_2
            try clear hfz114_0
            try clear hfz114_1
            try clear hfz114_2
            try clear hfz118_0
            try clear hfz118_1
            try clear hfz118_2
            try clear hfz128_0
            try clear hfz128_1
            try clear hfz128_2
            try clear hfz137_0
            try clear hfz137_1
            try clear hfz137_2
            try clear hfz13_0
            try clear hfz13_1
            try clear hfz13_2
            try clear hfz141_0
            try clear hfz141_1
            try clear hfz141_2
            try clear hfz147_0
            try clear hfz147_1
            try clear hfz147_2
            try clear hfz151_0
            try clear hfz151_1
            try clear hfz151_2
            try clear hfz15_0
            try clear hfz15_1
            try clear hfz15_2
            try clear hfz22_0
            try clear hfz22_1
            try clear hfz22_2
            try clear hfz25_0
            try clear hfz25_1
            try clear hfz25_2
            try clear hfz30_0
            try clear hfz30_1
            try clear hfz30_2
            try clear hfz38_0
            try clear hfz38_1
            try clear hfz38_2
            try clear hfz46_0
            try clear hfz46_1
            try clear hfz46_2
            try clear hfz49_0
            try clear hfz49_1
            try clear hfz49_2
            try clear hfz54_0
            try clear hfz54_1
            try clear hfz54_2
            try clear hfz57_0
            try clear hfz57_1
            try clear hfz57_2
            try clear hfz5_0
            try clear hfz5_1
            try clear hfz5_2
            try clear hfz73_0
            try clear hfz73_1
            try clear hfz73_2
            try clear hfz81_0
            try clear hfz81_1
            try clear hfz81_2
            try clear hfz84_0
            try clear hfz84_1
            try clear hfz84_2
            try clear hfz89_0
            try clear hfz89_1
            try clear hfz89_2
            try clear hfz92_0
            try clear hfz92_1
            try clear hfz92_2
            try clear p2
            try clear p6
            try clear p64
            obtain ⟨kq, x87_107, rfl, HA, HJ107, HO_203001, HO_203002, HO_211001, HO_211002, HO_220001, HO_220002, HO_253001, HO_253002, BK185, BK202, BK210, BK219, BK252, HB⟩ := hcut
            have hl220001_107 := (Kd.R_reads' HO_220001.out).1
            rw [hl220001_107] at HO_220001
            (try simp only [hl220001_107])
            (try simp only [hl220001_107] at BK185)
            (try simp only [hl220001_107] at BK202)
            (try simp only [hl220001_107] at BK210)
            (try simp only [hl220001_107] at BK219)
            (try simp only [hl220001_107] at BK252)
            (try simp only [hl220001_107] at HO_203001)
            (try simp only [hl220001_107] at HO_203002)
            (try simp only [hl220001_107] at HO_211001)
            (try simp only [hl220001_107] at HO_211002)
            (try simp only [hl220001_107] at HO_220002)
            (try simp only [hl220001_107] at HO_253001)
            (try simp only [hl220001_107] at HO_253002)
            have hl220002_107 := (Kd.R_reads' HO_220002.out).1
            rw [hl220002_107] at HO_220002
            (try simp only [hl220002_107])
            (try simp only [hl220002_107] at BK185)
            (try simp only [hl220002_107] at BK202)
            (try simp only [hl220002_107] at BK210)
            (try simp only [hl220002_107] at BK219)
            (try simp only [hl220002_107] at BK252)
            (try simp only [hl220002_107] at HO_203001)
            (try simp only [hl220002_107] at HO_203002)
            (try simp only [hl220002_107] at HO_211001)
            (try simp only [hl220002_107] at HO_211002)
            (try simp only [hl220002_107] at HO_220001)
            (try simp only [hl220002_107] at HO_253001)
            (try simp only [hl220002_107] at HO_253002)
            cases kq with
            | zero => exact absurd HA.out (by simp [laws_FnExactDropTop.j2])
            | succ kj107 =>
             have H := HA.out
             clear HA
             simp only [laws_FnExactDropTop.j2] at H
             by_cases c153 : x87_107 = true
             ·
              subst c153
              have H1 : (some false) = some r := by rw [if_pos rfl] at H; exact H
              clear H
              have H := H1
              clear H1
              obtain rfl := Option.some.inj H
              go_wp2
              go_ret
              exact ⟨by first | rfl | (simp [errW_none, errW_some] <;> rfl) | (simp [*, errW_none, errW_some] <;> rfl), tB HB.out⟩
             ·
              replace c153 := Bool.eq_false_iff.mpr c153
              subst c153
              have H1 : ((laws_heldPile.f kj107 t211 t234 t235 1).bind fun t254 => (if t254 < 0 then (some false) else (if t254 = t233 then (some true) else (some false)))) = some r := by rw [if_neg (show ¬ (false = true) by decide)] at H; exact H
              clear H
              have H := H1
              clear H1
              replace H := Option.bind_eq_some_iff.mp H
              obtain ⟨t254, A1540, H⟩ := H
              replace H : (if t254 < 0 then (some false) else (if t254 = t233 then (some true) else (some false))) = some r := H
              have A154 := Aside0.mk A1540
              clear A1540
              by_cases c155 : t254 < 0
              ·
               rw [if_pos c155] at H
               have c155b0 : decide (t254 < 0) = true := decide_eq_true c155
               clear c155
               obtain rfl := Option.some.inj H
               have hnb156 := NB219_185.out
               have hnc156 := NB185_219.out
               have hnb157 := NB219_202.out
               have hnc157 := NB202_219.out
               have hnb158 := NB219_210.out
               have hnc158 := NB210_219.out
               have hnb159 := NB219_252.out
               have hnc159 := NB252_219.out
               obtain ⟨hcz160_0, hfz160_0, hcz160_1, hfz160_1, hcz160_2, hfz160_2⟩ := cz3 BK219
               go_wp2_with (first | ((with_reducible refine gate_callee (f := 25) rfl ?_); refine goesL_ (some 90) rfl rfl Try.func25 (by kernel_rfl) rfl #[.agg #[.int .i64 t211, .slice Ao39 t234.length co39, .slice Ao40 t235.length co40], .int .i64 1] rfl tM ?_; (with_reducible refine (laws_heldPile.calls kj107 t211 _ _ t234 _ _ t235 1 t254 _ ?side1 ?side2 ?side3 ?side4 A154.out).mono ?_); (case side1 => exact tC (Kd.R_reads' HO_220001.out).2.2); (case side2 => exact (Kd.R_reads' HO_220001.out).2.1); (case side3 => exact tC (Kd.R_reads' HO_220002.out).2.2); (case side4 => exact (Kd.R_reads' HO_220002.out).2.1); rintro e w161 ⟨rfl, hb⟩; refine ⟨_, rfl, ?_⟩; replace HO_203001 := Aside0.mk (Kd.R_below (tR HO_203001.out) hb); replace HO_203002 := Aside0.mk (Kd.R_below (tR HO_203002.out) hb); replace HO_211001 := Aside0.mk (Kd.R_below (tR HO_211001.out) hb); replace HO_211002 := Aside0.mk (Kd.R_below (tR HO_211002.out) hb); replace HO_220001 := Aside0.mk (Kd.R_below (tR HO_220001.out) hb); replace HO_220002 := Aside0.mk (Kd.R_below (tR HO_220002.out) hb); replace HO_253001 := Aside0.mk (Kd.R_below (tR HO_253001.out) hb); replace HO_253002 := Aside0.mk (Kd.R_below (tR HO_253002.out) hb); replace BK185 := bkB BK185 hb; replace BK202 := bkB BK202 hb; replace BK210 := bkB BK210 hb; replace BK219 := bkB BK219 hb; replace BK252 := bkB BK252 hb; replace HB := Aside0.mk (below_step (tB HB.out) hb); (try clear hb); (try clear hb2); (try clear hk); (try clear hi)))
               go_ret
               exact ⟨by first | rfl | (simp [errW_none, errW_some] <;> rfl) | (simp [*, errW_none, errW_some] <;> rfl), tB HB.out⟩
              ·
               rw [if_neg c155] at H
               have c155b0 : decide (t254 < 0) = false := decide_eq_false c155
               clear c155
               by_cases c162 : t254 = t233
               ·
                rw [if_pos c162] at H
                have c162b0 : (t254 == t233) = true := beq_iff_eq.mpr c162
                have c162b1 : (t254 != t233) = false := bne_eq_false_iff_eq.mpr c162
                clear c162
                obtain rfl := Option.some.inj H
                have hnb163 := NB219_185.out
                have hnc163 := NB185_219.out
                have hnb164 := NB219_202.out
                have hnc164 := NB202_219.out
                have hnb165 := NB219_210.out
                have hnc165 := NB210_219.out
                have hnb166 := NB219_252.out
                have hnc166 := NB252_219.out
                obtain ⟨hcz167_0, hfz167_0, hcz167_1, hfz167_1, hcz167_2, hfz167_2⟩ := cz3 BK219
                go_wp2_with (first | ((with_reducible refine gate_callee (f := 25) rfl ?_); refine goesL_ (some 90) rfl rfl Try.func25 (by kernel_rfl) rfl #[.agg #[.int .i64 t211, .slice Ao39 t234.length co39, .slice Ao40 t235.length co40], .int .i64 1] rfl tM ?_; (with_reducible refine (laws_heldPile.calls kj107 t211 _ _ t234 _ _ t235 1 t254 _ ?side1 ?side2 ?side3 ?side4 A154.out).mono ?_); (case side1 => exact tC (Kd.R_reads' HO_220001.out).2.2); (case side2 => exact (Kd.R_reads' HO_220001.out).2.1); (case side3 => exact tC (Kd.R_reads' HO_220002.out).2.2); (case side4 => exact (Kd.R_reads' HO_220002.out).2.1); rintro e w168 ⟨rfl, hb⟩; refine ⟨_, rfl, ?_⟩; replace HO_203001 := Aside0.mk (Kd.R_below (tR HO_203001.out) hb); replace HO_203002 := Aside0.mk (Kd.R_below (tR HO_203002.out) hb); replace HO_211001 := Aside0.mk (Kd.R_below (tR HO_211001.out) hb); replace HO_211002 := Aside0.mk (Kd.R_below (tR HO_211002.out) hb); replace HO_220001 := Aside0.mk (Kd.R_below (tR HO_220001.out) hb); replace HO_220002 := Aside0.mk (Kd.R_below (tR HO_220002.out) hb); replace HO_253001 := Aside0.mk (Kd.R_below (tR HO_253001.out) hb); replace HO_253002 := Aside0.mk (Kd.R_below (tR HO_253002.out) hb); replace BK185 := bkB BK185 hb; replace BK202 := bkB BK202 hb; replace BK210 := bkB BK210 hb; replace BK219 := bkB BK219 hb; replace BK252 := bkB BK252 hb; replace HB := Aside0.mk (below_step (tB HB.out) hb); (try clear hb); (try clear hb2); (try clear hk); (try clear hi)))
                go_ret
                exact ⟨by first | rfl | (simp [errW_none, errW_some] <;> rfl) | (simp [*, errW_none, errW_some] <;> rfl), tB HB.out⟩
               ·
                rw [if_neg c162] at H
                have c162b0 : (t254 == t233) = false := beq_eq_false_iff_ne.mpr c162
                have c162b1 : (t254 != t233) = true := bne_iff_ne.mpr c162
                obtain rfl := Option.some.inj H
                have hnb169 := NB219_185.out
                have hnc169 := NB185_219.out
                have hnb170 := NB219_202.out
                have hnc170 := NB202_219.out
                have hnb171 := NB219_210.out
                have hnc171 := NB210_219.out
                have hnb172 := NB219_252.out
                have hnc172 := NB252_219.out
                obtain ⟨hcz173_0, hfz173_0, hcz173_1, hfz173_1, hcz173_2, hfz173_2⟩ := cz3 BK219
                go_wp2_with (first | ((with_reducible refine gate_callee (f := 25) rfl ?_); refine goesL_ (some 90) rfl rfl Try.func25 (by kernel_rfl) rfl #[.agg #[.int .i64 t211, .slice Ao39 t234.length co39, .slice Ao40 t235.length co40], .int .i64 1] rfl tM ?_; (with_reducible refine (laws_heldPile.calls kj107 t211 _ _ t234 _ _ t235 1 t254 _ ?side1 ?side2 ?side3 ?side4 A154.out).mono ?_); (case side1 => exact tC (Kd.R_reads' HO_220001.out).2.2); (case side2 => exact (Kd.R_reads' HO_220001.out).2.1); (case side3 => exact tC (Kd.R_reads' HO_220002.out).2.2); (case side4 => exact (Kd.R_reads' HO_220002.out).2.1); rintro e w174 ⟨rfl, hb⟩; refine ⟨_, rfl, ?_⟩; replace HO_203001 := Aside0.mk (Kd.R_below (tR HO_203001.out) hb); replace HO_203002 := Aside0.mk (Kd.R_below (tR HO_203002.out) hb); replace HO_211001 := Aside0.mk (Kd.R_below (tR HO_211001.out) hb); replace HO_211002 := Aside0.mk (Kd.R_below (tR HO_211002.out) hb); replace HO_220001 := Aside0.mk (Kd.R_below (tR HO_220001.out) hb); replace HO_220002 := Aside0.mk (Kd.R_below (tR HO_220002.out) hb); replace HO_253001 := Aside0.mk (Kd.R_below (tR HO_253001.out) hb); replace HO_253002 := Aside0.mk (Kd.R_below (tR HO_253002.out) hb); replace BK185 := bkB BK185 hb; replace BK202 := bkB BK202 hb; replace BK210 := bkB BK210 hb; replace BK219 := bkB BK219 hb; replace BK252 := bkB BK252 hb; replace HB := Aside0.mk (below_step (tB HB.out) hb); (try clear hb); (try clear hb2); (try clear hk); (try clear hi)))
                go_ret
                exact ⟨by first | rfl | (simp [errW_none, errW_some] <;> rfl) | (simp [*, errW_none, errW_some] <;> rfl), tB HB.out⟩
          ·
           rw [if_neg c105] at H
           have c105b0 : (t236 == t233) = false := beq_eq_false_iff_ne.mpr c105
           have c105b1 : (t236 != t233) = true := bne_iff_ne.mpr c105
           obtain rfl := Option.some.inj H
           have hnb175 := NB219_185.out
           have hnc175 := NB185_219.out
           have hnb176 := NB219_202.out
           have hnc176 := NB202_219.out
           have hnb177 := NB219_210.out
           have hnc177 := NB210_219.out
           obtain ⟨hcz178_0, hfz178_0, hcz178_1, hfz178_1, hcz178_2, hfz178_2⟩ := cz3 BK219
           go_wp2_with (first | ((with_reducible refine gate_callee (f := 24) rfl ?_); refine goesL_ (some 64) rfl rfl Try.func24 (by kernel_rfl) rfl #[.agg #[.int .i64 t211, .slice Ao39 t212.length co39, .slice Ao40 t215.length co40], .int .i64 1] rfl tM ?_; (with_reducible refine (laws_markPile.calls kj63 t211 (fun k_ => some k_ = (.slice Ao39 t212.length co39 : Value).ownBlock) (.slice Ao39 t212.length co39) t212 (fun k_ => some k_ = (.slice Ao40 t215.length co40 : Value).ownBlock) (.slice Ao40 t215.length co40) t215 1 t233 t234 t235 w _ ?side1 ?side2 ?side3 ?side4 ?side5 A95.out).mono ?_); (case side1 => repeat (first | (with_reducible first | exact HB.out | apply below_alloc | apply pw_below_drewN | apply below_drew1 | refine below_set ?_ GE185.out | refine below_set ?_ GE202.out | refine below_set ?_ GE210.out | refine below_set ?_ GE219.out) | exact HB.out)); (case side2 => exact Kd.R_tight rfl HO_220001.out); (case side3 => exact fun k_ e_ => (HO_220001.out.1 k_ e_.symm).2.2.2.2); (case side4 => exact Kd.R_tight rfl HO_220002.out); (case side5 => exact fun k_ e_ => (HO_220002.out.1 k_ e_.symm).2.2.2.2); rintro e w179 ⟨rfl, hy0, hy1, hb, hkp⟩; refine ⟨_, rfl, ?_⟩; replace HO_203001 := Aside0.mk (Kd.R_mono (ok' := fun k_ => some k_ ≠ (.slice Ao24 t198.length co24 : Value).ownBlock ∧ some k_ ≠ (.slice Ao31 t230.length co31 : Value).ownBlock ∧ some k_ ≠ (.slice Ao32 t231.length co32 : Value).ownBlock ∧ some k_ ≠ (.slice Ao39 t212.length co39 : Value).ownBlock ∧ some k_ ≠ (.slice Ao40 t215.length co40 : Value).ownBlock) (Kd.R_keptB (HO_203001.out) hkp (fun k_ hk_ hs_ => Or.elim hs_ (fun e_ => (hk_.2.2.2.1) e_) (fun e_ => (hk_.2.2.2.2) e_))) (fun k_ hk_ => ⟨hk_.1.1, hk_.1.2.1, hk_.1.2.2.1, hk_.1.2.2.2.1, hk_.1.2.2.2.2⟩)); replace HO_203002 := Aside0.mk (Kd.R_mono (ok' := fun k_ => some k_ ≠ (.slice Ao23 t195.length co23 : Value).ownBlock ∧ some k_ ≠ (.slice Ao31 t230.length co31 : Value).ownBlock ∧ some k_ ≠ (.slice Ao32 t231.length co32 : Value).ownBlock ∧ some k_ ≠ (.slice Ao39 t212.length co39 : Value).ownBlock ∧ some k_ ≠ (.slice Ao40 t215.length co40 : Value).ownBlock) (Kd.R_keptB (HO_203002.out) hkp (fun k_ hk_ hs_ => Or.elim hs_ (fun e_ => (hk_.2.2.2.1) e_) (fun e_ => (hk_.2.2.2.2) e_))) (fun k_ hk_ => ⟨hk_.1.1, hk_.1.2.1, hk_.1.2.2.1, hk_.1.2.2.2.1, hk_.1.2.2.2.2⟩)); replace HO_211001 := Aside0.mk (Kd.R_mono (ok' := fun k_ => some k_ ≠ (.slice Ao23 t195.length co23 : Value).ownBlock ∧ some k_ ≠ (.slice Ao24 t198.length co24 : Value).ownBlock ∧ some k_ ≠ (.slice Ao32 t231.length co32 : Value).ownBlock ∧ some k_ ≠ (.slice Ao39 t212.length co39 : Value).ownBlock ∧ some k_ ≠ (.slice Ao40 t215.length co40 : Value).ownBlock) (Kd.R_keptB (HO_211001.out) hkp (fun k_ hk_ hs_ => Or.elim hs_ (fun e_ => (hk_.2.2.2.1) e_) (fun e_ => (hk_.2.2.2.2) e_))) (fun k_ hk_ => ⟨hk_.1.1, hk_.1.2.1, hk_.1.2.2.1, hk_.1.2.2.2.1, hk_.1.2.2.2.2⟩)); replace HO_211002 := Aside0.mk (Kd.R_mono (ok' := fun k_ => some k_ ≠ (.slice Ao23 t195.length co23 : Value).ownBlock ∧ some k_ ≠ (.slice Ao24 t198.length co24 : Value).ownBlock ∧ some k_ ≠ (.slice Ao31 t230.length co31 : Value).ownBlock ∧ some k_ ≠ (.slice Ao39 t212.length co39 : Value).ownBlock ∧ some k_ ≠ (.slice Ao40 t215.length co40 : Value).ownBlock) (Kd.R_keptB (HO_211002.out) hkp (fun k_ hk_ hs_ => Or.elim hs_ (fun e_ => (hk_.2.2.2.1) e_) (fun e_ => (hk_.2.2.2.2) e_))) (fun k_ hk_ => ⟨hk_.1.1, hk_.1.2.1, hk_.1.2.2.1, hk_.1.2.2.2.1, hk_.1.2.2.2.2⟩)); replace BK185 := Aside0.mk (blk_kept (tK BK185.out) hkp (fun hs_ => Or.elim hs_ (fun e_ => (fun e_ => (Kd.R_ne HO_220001.out BK185.out (by decide)) e_) e_) (fun e_ => (fun e_ => (Kd.R_ne HO_220002.out BK185.out (by decide)) e_) e_))); replace BK202 := Aside0.mk (blk_kept (tK BK202.out) hkp (fun hs_ => Or.elim hs_ (fun e_ => (fun e_ => (Kd.R_ne HO_220001.out BK202.out (by decide)) e_) e_) (fun e_ => (fun e_ => (Kd.R_ne HO_220002.out BK202.out (by decide)) e_) e_))); replace BK210 := Aside0.mk (blk_kept (tK BK210.out) hkp (fun hs_ => Or.elim hs_ (fun e_ => (fun e_ => (Kd.R_ne HO_220001.out BK210.out (by decide)) e_) e_) (fun e_ => (fun e_ => (Kd.R_ne HO_220002.out BK210.out (by decide)) e_) e_))); replace BK219 := Aside0.mk (blk_kept (tK BK219.out) hkp (fun hs_ => Or.elim hs_ (fun e_ => (fun e_ => (Kd.R_ne HO_220001.out BK219.out (by decide)) e_) e_) (fun e_ => (fun e_ => (Kd.R_ne HO_220002.out BK219.out (by decide)) e_) e_))); replace HO_220001 := Aside0.mk (Kd.R_reok rfl hy0 (fun k_ e_ => HO_220001.out.1 k_ e_)); replace HO_220002 := Aside0.mk (Kd.R_reok rfl hy1 (fun k_ e_ => HO_220002.out.1 k_ e_)); replace HB := Aside0.mk (hb); (try clear hb); (try clear hkp); (try clear hy0); (try clear hy1); obtain ⟨hcz180_0, hfz180_0, hcz180_1, hfz180_1, hcz180_2, hfz180_2⟩ := cz3 BK219) | ((with_reducible refine gate_callee (f := 25) rfl ?_); refine goesL_ (some 67) rfl rfl Try.func25 (by kernel_rfl) rfl #[.agg #[.int .i64 t211, .slice Ao39 t234.length co39, .slice Ao40 t235.length co40], .int .i64 1] rfl (by (try simp only [List.map_toArray, List.map_cons, List.map_nil]); first | done | (rw [show t234.length = t212.length from (Kd.R_reads' HO_220001.out).1.symm, show t235.length = t215.length from (Kd.R_reads' HO_220002.out).1.symm] <;> rfl) | rfl | (simp only [List.length_drop, List.length_take]; rfl)) ?_; (with_reducible refine (laws_heldPile.calls kj63 t211 _ _ t234 _ _ t235 1 t236 _ ?side1 ?side2 ?side3 ?side4 A96.out).mono ?_); (case side1 => exact tC (Kd.R_reads' HO_220001.out).2.2); (case side2 => rw [show t234.length = t212.length from (Kd.R_reads' HO_220001.out).1.symm]; exact (Kd.R_reads' HO_220001.out).2.1); (case side3 => exact tC (Kd.R_reads' HO_220002.out).2.2); (case side4 => rw [show t235.length = t215.length from (Kd.R_reads' HO_220002.out).1.symm]; exact (Kd.R_reads' HO_220002.out).2.1); rintro e w181 ⟨rfl, hb⟩; refine ⟨_, rfl, ?_⟩; replace HO_203001 := Aside0.mk (Kd.R_below (tR HO_203001.out) hb); replace HO_203002 := Aside0.mk (Kd.R_below (tR HO_203002.out) hb); replace HO_211001 := Aside0.mk (Kd.R_below (tR HO_211001.out) hb); replace HO_211002 := Aside0.mk (Kd.R_below (tR HO_211002.out) hb); replace HO_220001 := Aside0.mk (Kd.R_below (tR HO_220001.out) hb); replace HO_220002 := Aside0.mk (Kd.R_below (tR HO_220002.out) hb); replace BK185 := bkB BK185 hb; replace BK202 := bkB BK202 hb; replace BK210 := bkB BK210 hb; replace BK219 := bkB BK219 hb; replace HB := Aside0.mk (below_step (tB HB.out) hb); (try clear hb); (try clear hb2); (try clear hk); (try clear hi)))
           go_ret
           exact ⟨by first | rfl | (simp [errW_none, errW_some] <;> rfl) | (simp [*, errW_none, errW_some] <;> rfl), tB HB.out⟩
     ·
      replace c62 := Bool.eq_false_iff.mpr c62
      subst c62
      have H1 : (some false) = some r := by rw [if_neg (show ¬ (false = true) by decide)] at H; exact H
      clear H
      have H := H1
      clear H1
      obtain rfl := Option.some.inj H
      try go_wp2
      replace HO_203001 := Aside0.mk (Kd.R_drew HO_203001.out)
      replace HO_203002 := Aside0.mk (Kd.R_drew HO_203002.out)
      replace HO_211001 := Aside0.mk (Kd.R_drew HO_211001.out)
      replace HO_211002 := Aside0.mk (Kd.R_drew HO_211002.out)
      replace HO_220001 := Aside0.mk (Kd.R_drew HO_220001.out)
      replace HO_220002 := Aside0.mk (Kd.R_drew HO_220002.out)
      replace BK185 := Aside0.mk (blk_drew BK185.out)
      replace BK202 := Aside0.mk (blk_drew BK202.out)
      replace BK210 := Aside0.mk (blk_drew BK210.out)
      replace BK219 := Aside0.mk (blk_drew BK219.out)
      replace HB := Aside0.mk (below_drew1 HB.out)
      refine start_ (n := 5) (S := fun w' => w'.cell? ⟨gb210, 0, none⟩ = some (.int .i64 t203) ∧ w'.cell? ⟨gb210, 1, none⟩ = some (.slice Ao31 t204.length co31) ∧ w'.cell? ⟨gb210, 2, none⟩ = some (.slice Ao32 t207.length co32) ∧ w'.cell? ⟨gb185, 0, none⟩ = some (.int .i64 a0_0) ∧ w'.cell? ⟨gb185, 1, none⟩ = some (.slice A0_1 l0_1.length c0_1) ∧ w'.cell? ⟨gb185, 2, none⟩ = some (.slice A0_2 l0_2.length c0_2)) (ds := []) #[false, false, false, false, false] (by kernel_rfl) rfl rfl ⟨(blk_cell BK210.out 0).trans rfl, (blk_cell BK210.out 1).trans rfl, (blk_cell BK210.out 2).trans rfl, (blk_cell BK185.out 0).trans rfl, (blk_cell BK185.out 1).trans rfl, (blk_cell BK185.out 2).trans rfl⟩ (fun hHeld => ?_)
      generalize wc.drew = w182 at HO_203001 HO_203002 HO_211001 HO_211002 HO_220001 HO_220002 BK185 BK202 BK210 BK219 HB hHeld ⊢
      refine take_ (i := 0) (N := some 41) (v := ?_) (a' := ?_) #[true, false, false, false, false] rfl rfl (by kernel_rfl) (fun _ _ _ h => h) (Or.inl ⟨by rfl, ?_⟩) hHeld ?_ ?_
      rotate_left
      ·
       rintro w' ⟨s0, s1, s2, s3, s4, s5⟩
       go_simp
       with_reducible rfl
      rotate_left
      ·
       simp only [Act.put, List.setIfInBounds_toArray, List.set_cons_zero, List.set_cons_succ, i64_w, i32_w]
       rfl
      refine take_ (i := 1) (N := some 42) (v := ?_) (a' := ?_) #[true, true, false, false, false] rfl rfl (by kernel_rfl) (fun _ _ _ h => h) (Or.inl ⟨by rfl, ?_⟩) hHeld ?_ ?_
      rotate_left
      ·
       rintro w' ⟨s0, s1, s2, s3, s4, s5⟩
       go_simp
       with_reducible rfl
      rotate_left
      ·
       simp only [Act.put, List.setIfInBounds_toArray, List.set_cons_zero, List.set_cons_succ, i64_w, i32_w]
       rfl
      refine one_ (i := 2) (N := some 43) #[true, true, true, false, false] rfl rfl (by kernel_rfl) (by decide) (fun K hK => ?_)
      refine goes_ Try.func17 (by kernel_rfl) rfl #[.agg #[.int .i64 a0_0, .slice A0_1 l0_1.length c0_1, .slice A0_2 l0_2.length c0_2]] (by rfl) rfl rfl tM ?_
      with_reducible refine (laws_toPile.calls kj10 a0_0 _ _ l0_1 _ _ l0_2 t221 t222 t225 _ ?side1 ?side2 ?side3 ?side4 A60.out).mono ?_
      (case side1 => exact tC (Kd.C_below HR0_1.out HB.out))
      (case side2 => exact HC0_1.out)
      (case side3 => exact tC (Kd.C_below HR0_2.out HB.out))
      (case side4 => exact HC0_2.out)
      rintro e w183 ⟨v223, v226, rfl, ho0, ho1, hb⟩
      refine ⟨_, rfl, ?_⟩
      have HO224 := Aside0.mk (Kd.R_lower (Kd.R_new' (Kd.R_new' (Kd.R_new' (Kd.R_new' (Kd.R_new' (Kd.R_new' ho0 (Kd.R_lt (tR HO_203001.out))) (Kd.R_lt (tR HO_203002.out))) (Kd.R_lt (tR HO_211001.out))) (Kd.R_lt (tR HO_211002.out))) (Kd.R_lt (tR HO_220001.out))) (Kd.R_lt (tR HO_220002.out))) (below_size (tB HB.out)))
      have HO227 := Aside0.mk (Kd.R_lower (Kd.R_new' (Kd.R_new' (Kd.R_new' (Kd.R_new' (Kd.R_new' (Kd.R_new' ho1 (Kd.R_lt (tR HO_203001.out))) (Kd.R_lt (tR HO_203002.out))) (Kd.R_lt (tR HO_211001.out))) (Kd.R_lt (tR HO_211002.out))) (Kd.R_lt (tR HO_220001.out))) (Kd.R_lt (tR HO_220002.out))) (below_size (tB HB.out)))
      replace HO_203001 := Aside0.mk (Kd.R_mono (Kd.R_told (Kd.R_told (Kd.R_old (tR HO_203001.out) hb) (Kd.R_base ho0)) (Kd.R_base ho1)) (fun _ h_ => h_.1))
      replace HO_203002 := Aside0.mk (Kd.R_mono (Kd.R_told (Kd.R_told (Kd.R_old (tR HO_203002.out) hb) (Kd.R_base ho0)) (Kd.R_base ho1)) (fun _ h_ => h_.1))
      replace HO_211001 := Aside0.mk (Kd.R_mono (Kd.R_told (Kd.R_told (Kd.R_old (tR HO_211001.out) hb) (Kd.R_base ho0)) (Kd.R_base ho1)) (fun _ h_ => h_.1))
      replace HO_211002 := Aside0.mk (Kd.R_mono (Kd.R_told (Kd.R_told (Kd.R_old (tR HO_211002.out) hb) (Kd.R_base ho0)) (Kd.R_base ho1)) (fun _ h_ => h_.1))
      replace HO_220001 := Aside0.mk (Kd.R_mono (Kd.R_told (Kd.R_told (Kd.R_old (tR HO_220001.out) hb) (Kd.R_base ho0)) (Kd.R_base ho1)) (fun _ h_ => h_.1))
      replace HO_220002 := Aside0.mk (Kd.R_mono (Kd.R_told (Kd.R_told (Kd.R_old (tR HO_220002.out) hb) (Kd.R_base ho0)) (Kd.R_base ho1)) (fun _ h_ => h_.1))
      replace BK185 := bkB BK185 hb
      replace BK202 := bkB BK202 hb
      replace BK210 := bkB BK210 hb
      replace BK219 := bkB BK219 hb
      replace HB := Aside0.mk (below_step (tB HB.out) hb)
      (try clear hb)
      (try clear hb2)
      (try clear hk)
      (try clear hi)
      (try clear ho0)
      (try clear ho1)
      obtain ⟨Ao184, co184, eo184⟩ := Kd.R_slice HO224.out
      (first | subst eo184 | (injection eo184 with f1_ f2_ f3_; have f4_ := f1_.symm; have f5_ := f3_.symm; clear f1_ f2_ f3_; subst f4_; subst f5_))
      obtain ⟨Ao185, co185, eo185⟩ := Kd.R_slice HO227.out
      (first | subst eo185 | (injection eo185 with f1_ f2_ f3_; have f4_ := f1_.symm; have f5_ := f3_.symm; clear f1_ f2_ f3_; subst f4_; subst f5_))
      refine hK.out _ _ ⟨(blk_cell BK210.out 0).trans rfl, (blk_cell BK210.out 1).trans rfl, (blk_cell BK210.out 2).trans rfl, (blk_cell BK185.out 0).trans rfl, (blk_cell BK185.out 1).trans rfl, (blk_cell BK185.out 2).trans rfl⟩ (fun hHeld => ?_)
      clear hK K
      refine norm_ (a' := ?_) ?_ ?_
      rotate_left
      ·
       show Act.put _ (some 43) _ = _
       simp only [Act.put, List.setIfInBounds_toArray, List.set_cons_zero, List.set_cons_succ, i64_w, i32_w]
       rfl
      refine one_ (i := 3) (N := some 44) #[true, true, true, true, false] rfl rfl (by kernel_rfl) (by decide) (fun K hK => ?_)
      refine goes_ Try.func19 (by kernel_rfl) rfl #[.agg #[.int .i64 t203, .slice Ao31 t204.length co31, .slice Ao32 t207.length co32], .agg #[.int .i64 t221, .slice Ao184 t222.length co184, .slice Ao185 t225.length co185]] (by rfl) rfl rfl tM ?_
      with_reducible refine (laws_eqPile.calls kj10 t203 _ _ t204 _ _ t207 t221 _ _ t222 _ _ t225 false _ ?side1 ?side2 ?side3 ?side4 ?side5 ?side6 ?side7 ?side8 A61.out).mono ?_
      (case side1 => exact tC (Kd.R_reads' HO_211001.out).2.2)
      (case side2 => exact (Kd.R_reads' HO_211001.out).2.1)
      (case side3 => exact tC (Kd.R_reads' HO_211002.out).2.2)
      (case side4 => exact (Kd.R_reads' HO_211002.out).2.1)
      (case side5 => exact tC (Kd.R_reads' HO224.out).2.2)
      (case side6 => exact (Kd.R_reads' HO224.out).2.1)
      (case side7 => exact tC (Kd.R_reads' HO227.out).2.2)
      (case side8 => exact (Kd.R_reads' HO227.out).2.1)
      rintro e w186 ⟨rfl, hb⟩
      refine ⟨_, rfl, ?_⟩
      replace HO_203001 := Aside0.mk (Kd.R_below (tR HO_203001.out) hb)
      replace HO_203002 := Aside0.mk (Kd.R_below (tR HO_203002.out) hb)
      replace HO_211001 := Aside0.mk (Kd.R_below (tR HO_211001.out) hb)
      replace HO_211002 := Aside0.mk (Kd.R_below (tR HO_211002.out) hb)
      replace HO_220001 := Aside0.mk (Kd.R_below (tR HO_220001.out) hb)
      replace HO_220002 := Aside0.mk (Kd.R_below (tR HO_220002.out) hb)
      replace HO224 := Aside0.mk (Kd.R_below (tR HO224.out) hb)
      replace HO227 := Aside0.mk (Kd.R_below (tR HO227.out) hb)
      replace BK185 := bkB BK185 hb
      replace BK202 := bkB BK202 hb
      replace BK210 := bkB BK210 hb
      replace BK219 := bkB BK219 hb
      replace HB := Aside0.mk (below_step (tB HB.out) hb)
      (try clear hb)
      (try clear hb2)
      (try clear hk)
      (try clear hi)
      refine hK.out _ _ ⟨(blk_cell BK210.out 0).trans rfl, (blk_cell BK210.out 1).trans rfl, (blk_cell BK210.out 2).trans rfl, (blk_cell BK185.out 0).trans rfl, (blk_cell BK185.out 1).trans rfl, (blk_cell BK185.out 2).trans rfl⟩ (fun hHeld => ?_)
      clear hK K
      refine norm_ (a' := ?_) ?_ ?_
      rotate_left
      ·
       show Act.put _ (some 44) _ = _
       simp only [Act.put, List.setIfInBounds_toArray, List.set_cons_zero, List.set_cons_succ, i64_w, i32_w]
       rfl
      refine pure_ (i := 4) (N := some 45) (v := ?_) (a' := ?_) #[true, true, true, true, true] rfl rfl (by kernel_rfl) (fun _ _ _ h => h) (Or.inl ⟨by rfl, ?_⟩) ?_ ?_
      rotate_left
      ·
       intro w'
       go_simp
       with_reducible rfl
      rotate_left
      ·
       simp only [Act.put, List.setIfInBounds_toArray, List.set_cons_zero, List.set_cons_succ, i64_w, i32_w]
       rfl
      refine done_ (by kernel_rfl) ?_
      try go_wp2
      go_ret
      exact ⟨by first | rfl | (simp [errW_none, errW_some] <;> rfl) | (simp [*, errW_none, errW_some] <;> rfl), tB HB.out⟩

end Go.Proofs.Ytigijeedekjeiaa.PFnExactDropTop

/- Printed by the program print2.py over the translation: each function as a Lean function, and the proof that the call comes to its answer. -/
import Derived.Test.YtbdajkfihbaapaaPFnExactHangLeavesx0
import Derived.Test.YtbdajkfihbaapaaPFnExactHangLeavesx8
import Derived.Test.YtbdajkfihbaapaaPFnExactHangLeavesx9
import Derived.Test.YtbdajkfihbaapaaPFnExactHangLeavesx10
namespace Go.Proofs.Ytbdajkfihbaapaa.PFnExactHangLeaves
open Go.RowKit Go.Proofs.YtbdajkfihbaapaaW.PrintWords Go.Proofs.YtbdajkfihbaapaaW.PrintLast Go.Proofs.YtbdajkfihbaapaaW.PrintMore
attribute [local go_sem] max2_int min2_int max_two min_two max_three min_three max_four min_four   -- for this text's walks alone
set_option linter.unusedVariables false
set_option linter.unusedSimpArgs false

/-! ### impl_HangLeaves: function 46 -/
def impl_HangLeaves.j0 : Nat → List Int → Bool → List (S58) → List (S58) → Option ((List (S58)) × (List (S58)) × Bool)
 | 0, _, _, _, _ => none
 | k + 1, x1, x20, x290000, x290001 => if x20 = true then (some (([] : List (S58)), ([] : List (S58)), false)) else ((impl_hungWith.f k x290000 x290001 x1).bind fun bt296 => ((impl_validMobile.f k bt296.1 bt296.2).bind fun bt302 => (some (bt302.1, bt302.2.1, bt302.2.2))))
def impl_HangLeaves.f (k : Nat) (l0_0 : List (S58)) (l0_1 : List (S58)) (l1 : List Int) : Option ((List (S58)) × (List (S58)) × Bool) := (impl_IsMobile.f k l0_0 l0_1).bind fun t291 => (if t291 = true then ((impl_leavesOf.f k l0_0 l0_1).bind fun t292 => (if (l1.length : Int) = (t292.length : Int) then ((slices_ContainsFunc_int_int.f k l1).bind fun t295 => (impl_HangLeaves.j0 k l1 t295 l0_0 l0_1)) else (impl_HangLeaves.j0 k l1 true l0_0 l0_1))) else (impl_HangLeaves.j0 k l1 true l0_0 l0_1))
theorem impl_HangLeaves.mono_l : ∀ k, (∀ y0 y1 y2 y3, LeO (impl_HangLeaves.j0 k y0 y1 y2 y3) (impl_HangLeaves.j0 (k + 1) y0 y1 y2 y3))
 | 0 => fun _ _ _ _ r h => by simp [impl_HangLeaves.j0] at h
 | k + 1 => by
  have ih0 := impl_HangLeaves.mono_l k
  ·
   intro y0 y1 y2 y3
   unfold impl_HangLeaves.j0
   repeat' first
   | (with_reducible exact ih0 _ _ _ _)
   | (with_reducible exact impl_IsMobile.mono _ _ _)
   | (with_reducible exact impl_hungWith.mono _ _ _ _)
   | (with_reducible exact impl_leavesOf.mono _ _ _)
   | (with_reducible exact impl_validMobile.mono _ _ _)
   | (with_reducible exact slices_ContainsFunc_int_int.mono _ _)
   | (with_reducible exact LeO.refl _)
   | (with_reducible exact LeO.none _)
   | (with_reducible refine LeO.ite ?_ ?_)
   | (with_reducible refine LeO.bind ?_ (fun _ => ?_))
   | exact ih0 _ _ _ _
   | exact impl_IsMobile.mono _ _ _
   | exact impl_hungWith.mono _ _ _ _
   | exact impl_leavesOf.mono _ _ _
   | exact impl_validMobile.mono _ _ _
   | exact slices_ContainsFunc_int_int.mono _ _
   | exact LeO.none _
   | refine LeO.ite ?_ ?_
   | refine LeO.bind ?_ (fun _ => ?_)
theorem impl_HangLeaves.mono : ∀ a0 a1 a2 k, LeO (impl_HangLeaves.f k a0 a1 a2) (impl_HangLeaves.f (k + 1) a0 a1 a2) := by
 intro a0 a1 a2 k
 have ih0 := impl_HangLeaves.mono_l k
 unfold impl_HangLeaves.f
 repeat' first
   | (with_reducible exact ih0 _ _ _ _)
   | (with_reducible exact impl_IsMobile.mono _ _ _)
   | (with_reducible exact impl_hungWith.mono _ _ _ _)
   | (with_reducible exact impl_leavesOf.mono _ _ _)
   | (with_reducible exact impl_validMobile.mono _ _ _)
   | (with_reducible exact slices_ContainsFunc_int_int.mono _ _)
   | (with_reducible exact LeO.refl _)
   | (with_reducible exact LeO.none _)
   | (with_reducible refine LeO.ite ?_ ?_)
   | (with_reducible refine LeO.bind ?_ (fun _ => ?_))
   | exact ih0 _ _ _ _
   | exact impl_IsMobile.mono _ _ _
   | exact impl_hungWith.mono _ _ _ _
   | exact impl_leavesOf.mono _ _ _
   | exact impl_validMobile.mono _ _ _
   | exact slices_ContainsFunc_int_int.mono _ _
   | exact LeO.none _
   | refine LeO.ite ?_ ?_
   | refine LeO.bind ?_ (fun _ => ?_)
set_option maxHeartbeats 8000000 in
set_option maxRecDepth 100000 in
theorem impl_HangLeaves.calls (k : Nat) (A0_0 : Option Addr) (c0_0 : Nat) (l0_0 : List (S58)) (A0_1 : Option Addr) (c0_1 : Nat) (l0_1 : List (S58)) (A1 : Option Addr) (c1 : Nat) (l1 : List Int) (r1 : List (S58)) (r2 : List (S58)) (r3 : Bool) (w : World) (hr0_0 : Kd.C k58 w A0_0 l0_0.length l0_0) (hc0_0 : l0_0.length ≤ c0_0) (hr0_1 : Kd.C k58 w A0_1 l0_1.length l0_1) (hc0_1 : l0_1.length ≤ c0_1) (hr1 : Kd.C (Kd.int .i64) w A1 l1.length l1) (hc1 : l1.length ≤ c1) (h : impl_HangLeaves.f k l0_0 l0_1 l1 = some (r1, r2, r3)) :
  Calls Try.prog 46 #[.agg #[.slice A0_0 l0_0.length c0_0, .slice A0_1 l0_1.length c0_1], .slice A1 l1.length c1] w fun e w' => ∃ v0_ v1_ : Value, e = .returned (.tuple #[.agg #[v0_, v1_], .bool r3]) ∧ Kd.R k58 58 w' w.heap.size (fun k_ => some k_ ≠ (v1_ : Value).ownBlock) v0_ r1 ∧ Kd.R k58 58 w' w.heap.size (fun k_ => some k_ ≠ (v0_ : Value).ownBlock) v1_ r2 ∧ Below w.heap.size w w' := by
 have hu27 := Try.underlying27
 have HR0_0 := Aside0.mk hr0_0
 have HC0_0 := Aside0.mk hc0_0
 clear hr0_0 hc0_0
 have HR0_1 := Aside0.mk hr0_1
 have HC0_1 := Aside0.mk hc0_1
 clear hr0_1 hc0_1
 have HR1 := Aside0.mk hr1
 have HC1 := Aside0.mk hc1
 clear hr1 hc1
 have HB := Aside0.mk (Below.refl w.heap.size w)
 have H : ((impl_IsMobile.f k l0_0 l0_1).bind fun t291 => (if t291 = true then ((impl_leavesOf.f k l0_0 l0_1).bind fun t292 => (if (l1.length : Int) = (t292.length : Int) then ((slices_ContainsFunc_int_int.f k l1).bind fun t295 => (impl_HangLeaves.j0 k l1 t295 l0_0 l0_1)) else (impl_HangLeaves.j0 k l1 true l0_0 l0_1))) else (impl_HangLeaves.j0 k l1 true l0_0 l0_1))) = some (r1, r2, r3) := h
 clear h
 have HC3 := Aside0.mk H
 clear H
 go_enter Try.func46, Try.ntmps46
 go_upto_region 1 with (first | ((with_reducible refine gate_dst (N := 2) rfl ?_); (try (refine gate_guard (by rfl) ?_; dsimp only)); refine box_event ?hg (N := 2) ?hd (cs := #[.slice A0_0 l0_0.length c0_0, .slice A0_1 l0_1.length c0_1]) (t := 27) ?hr ?_; (case hd => rfl); (case hg => rfl); (case hr => first | (go_simp; done) | (go_simp; rfl)); intro gb289 hg w4 hbox hb; have BK289 := Aside0.mk (hbox); have GW289 := Aside0.mk (bS HB.out hg); have GE289 := Aside0.mk (bS HB.out hg); replace HB := Aside0.mk (below_step (tB HB.out) hb); clear hb hbox hg) | ((with_reducible refine gate_dst (N := 4) rfl ?_); (try (refine gate_guard (by rfl) ?_; dsimp only)); refine box_event ?hg (N := 4) ?hd (cs := #[.slice none 0 0, .slice none 0 0]) (t := 27) ?hr ?_; (case hd => rfl); (case hg => rfl); (case hr => first | (go_simp; done) | (go_simp; rfl)); intro gb290 hg w5 hbox hb; have BK290 := Aside0.mk (hbox); have GW290 := Aside0.mk (bS HB.out hg); have GE290 := Aside0.mk (bS HB.out hg); replace HB := Aside0.mk (below_step (tB HB.out) hb); have NB289_290 := Aside0.mk (nL BK289.out hg); have NB290_289 := Aside0.mk (nG BK289.out hg); replace BK289 := bkB BK289 hb; clear hb hbox hg))
 (try simp only [Act.put, List.setIfInBounds_toArray, List.set_cons_zero, List.set_cons_succ])
 go_cut [20] (fun v20 wc => ∃ (kq : Nat) (x20_2 : Bool), v20 = .bool x20_2 ∧ Aside0 (impl_HangLeaves.j0 kq l1 x20_2 l0_0 l0_1 = some (r1, r2, r3)) ∧ Aside0 (kq ≤ k) ∧ Aside0 (wc.heap[gb289]? = some (.cells #[(.slice A0_0 l0_0.length c0_0), (.slice A0_1 l0_1.length c0_1)] 27 (0, 0))) ∧ Aside0 (wc.heap[gb290]? = some (.cells #[(.slice none 0 0), (.slice none 0 0)] 27 (0, 0))) ∧ Aside0 (Below w.heap.size w wc))
 case first =>
  have H := HC3.out
  clear HC3
  replace H := Option.bind_eq_some_iff.mp H
  obtain ⟨t291, A60, H⟩ := H
  replace H : (if t291 = true then ((impl_leavesOf.f k l0_0 l0_1).bind fun t292 => (if (l1.length : Int) = (t292.length : Int) then ((slices_ContainsFunc_int_int.f k l1).bind fun t295 => (impl_HangLeaves.j0 k l1 t295 l0_0 l0_1)) else (impl_HangLeaves.j0 k l1 true l0_0 l0_1))) else (impl_HangLeaves.j0 k l1 true l0_0 l0_1)) = some (r1, r2, r3) := H
  have A6 := Aside0.mk A60
  clear A60
  by_cases c7 : t291 = true
  ·
   subst c7
   have H1 : ((impl_leavesOf.f k l0_0 l0_1).bind fun t292 => (if (l1.length : Int) = (t292.length : Int) then ((slices_ContainsFunc_int_int.f k l1).bind fun t295 => (impl_HangLeaves.j0 k l1 t295 l0_0 l0_1)) else (impl_HangLeaves.j0 k l1 true l0_0 l0_1))) = some (r1, r2, r3) := by rw [if_pos rfl] at H; exact H
   clear H
   have H := H1
   clear H1
   replace H := Option.bind_eq_some_iff.mp H
   obtain ⟨t292, A80, H⟩ := H
   replace H : (if (l1.length : Int) = (t292.length : Int) then ((slices_ContainsFunc_int_int.f k l1).bind fun t295 => (impl_HangLeaves.j0 k l1 t295 l0_0 l0_1)) else (impl_HangLeaves.j0 k l1 true l0_0 l0_1)) = some (r1, r2, r3) := H
   have A8 := Aside0.mk A80
   clear A80
   by_cases c9 : (l1.length : Int) = (t292.length : Int)
   ·
    rw [if_pos c9] at H
    have c9b0 : ((l1.length : Int) == (t292.length : Int)) = true := beq_iff_eq.mpr c9
    have c9b1 : ((l1.length : Int) != (t292.length : Int)) = false := bne_eq_false_iff_eq.mpr c9
    have c9b2 : (l1.length == t292.length) = true := by first | simpa using c9 | (simp at c9 ⊢; omega)
    clear c9
    (first | rw [c9b0] | (simp only [i64_w, i32_w]; rw [c9b0]) | skip)
    replace H := Option.bind_eq_some_iff.mp H
    obtain ⟨t295, A100, H⟩ := H
    replace H : (impl_HangLeaves.j0 k l1 t295 l0_0 l0_1) = some (r1, r2, r3) := H
    have A10 := Aside0.mk A100
    clear A100
    have H' := Aside0.mk H
    clear H
    have hnb11 := NB289_290.out
    have hnc11 := NB290_289.out
    obtain ⟨hcz12_0, hfz12_0, hcz12_1, hfz12_1⟩ := cz2 BK289
    go_wp2_with (first | ((with_reducible refine gate_callee (f := 18) rfl ?_); refine goesL_ (some 7) rfl rfl Try.func18 (by kernel_rfl) rfl #[.agg #[.slice A0_0 l0_0.length c0_0, .slice A0_1 l0_1.length c0_1]] rfl tM ?_; (with_reducible refine (impl_IsMobile.calls k _ _ l0_0 _ _ l0_1 true _ ?side1 ?side2 ?side3 ?side4 A6.out).mono ?_); (case side1 => exact tC (Kd.C_below HR0_0.out HB.out)); (case side2 => exact HC0_0.out); (case side3 => exact tC (Kd.C_below HR0_1.out HB.out)); (case side4 => exact HC0_1.out); rintro e w13 ⟨rfl, hb⟩; refine ⟨_, rfl, ?_⟩; replace BK289 := bkB BK289 hb; replace BK290 := bkB BK290 hb; replace HB := Aside0.mk (below_step (tB HB.out) hb); (try clear hb); (try clear hb2); (try clear hk); (try clear hi); obtain ⟨hcz14_0, hfz14_0, hcz14_1, hfz14_1⟩ := cz2 BK289) | (go_at_call 68; (with_reducible refine (impl_leavesOf.calls k _ _ l0_0 _ _ l0_1 t292 _ ?side1 ?side2 ?side3 ?side4 A8.out).mono ?_); (case side1 => exact tC (Kd.C_below HR0_0.out HB.out)); (case side2 => exact HC0_0.out); (case side3 => exact tC (Kd.C_below HR0_1.out HB.out)); (case side4 => exact HC0_1.out); rintro e w15 ⟨v293, rfl, ho0, hb⟩; have HO294 := Aside0.mk (Kd.R_lower ho0 (below_size (tB HB.out))); replace BK289 := bkB BK289 hb; replace BK290 := bkB BK290 hb; replace HB := Aside0.mk (below_step (tB HB.out) hb); (try clear hb); (try clear hb2); (try clear hk); (try clear hi); (try clear ho0); obtain ⟨Ao16, co16, eo16⟩ := Kd.R_slice HO294.out; subst eo16) | (go_at_call 82; (with_reducible refine (slices_ContainsFunc_int_int.calls k _ _ l1 t295 _ ?side1 ?side2 A10.out).mono ?_); (case side1 => exact tC (Kd.C_below HR1.out HB.out)); (case side2 => exact HC1.out); rintro e w' ⟨rfl, ⟨nd, rfl⟩⟩))
    go_meet
    case rel => exact ⟨_, (t295), (by first | rfl | (simp; done) | (simp [wrap64]; done) | (simp [*]; done)), H', ⟨by first | omega | exact Nat.le_refl _⟩, ⟨tK BK289.out⟩, ⟨tK BK290.out⟩, ⟨tB HB.out⟩⟩
   ·
    rw [if_neg c9] at H
    have c9b0 : ((l1.length : Int) == (t292.length : Int)) = false := beq_eq_false_iff_ne.mpr c9
    have c9b1 : ((l1.length : Int) != (t292.length : Int)) = true := bne_iff_ne.mpr c9
    have c9b2 : (l1.length == t292.length) = false := by first | simpa using c9 | (simp at c9 ⊢; omega)
    (first | rw [c9b0] | (simp only [i64_w, i32_w]; rw [c9b0]) | skip)
    have H' := Aside0.mk H
    clear H
    have hnb17 := NB289_290.out
    have hnc17 := NB290_289.out
    obtain ⟨hcz18_0, hfz18_0, hcz18_1, hfz18_1⟩ := cz2 BK289
    go_wp2_with (first | ((with_reducible refine gate_callee (f := 18) rfl ?_); refine goesL_ (some 7) rfl rfl Try.func18 (by kernel_rfl) rfl #[.agg #[.slice A0_0 l0_0.length c0_0, .slice A0_1 l0_1.length c0_1]] rfl tM ?_; (with_reducible refine (impl_IsMobile.calls k _ _ l0_0 _ _ l0_1 true _ ?side1 ?side2 ?side3 ?side4 A6.out).mono ?_); (case side1 => exact tC (Kd.C_below HR0_0.out HB.out)); (case side2 => exact HC0_0.out); (case side3 => exact tC (Kd.C_below HR0_1.out HB.out)); (case side4 => exact HC0_1.out); rintro e w19 ⟨rfl, hb⟩; refine ⟨_, rfl, ?_⟩; replace BK289 := bkB BK289 hb; replace BK290 := bkB BK290 hb; replace HB := Aside0.mk (below_step (tB HB.out) hb); (try clear hb); (try clear hb2); (try clear hk); (try clear hi); obtain ⟨hcz20_0, hfz20_0, hcz20_1, hfz20_1⟩ := cz2 BK289) | (go_at_call 68; (with_reducible refine (impl_leavesOf.calls k _ _ l0_0 _ _ l0_1 t292 _ ?side1 ?side2 ?side3 ?side4 A8.out).mono ?_); (case side1 => exact tC (Kd.C_below HR0_0.out HB.out)); (case side2 => exact HC0_0.out); (case side3 => exact tC (Kd.C_below HR0_1.out HB.out)); (case side4 => exact HC0_1.out); rintro e w21 ⟨v293, rfl, ho0, hb⟩; have HO294 := Aside0.mk (Kd.R_lower ho0 (below_size (tB HB.out))); replace BK289 := bkB BK289 hb; replace BK290 := bkB BK290 hb; replace HB := Aside0.mk (below_step (tB HB.out) hb); (try clear hb); (try clear hb2); (try clear hk); (try clear hi); (try clear ho0); obtain ⟨Ao22, co22, eo22⟩ := Kd.R_slice HO294.out; subst eo22))
    go_meet
    case rel => exact ⟨_, (true), (by first | rfl | (simp; done) | (simp [wrap64]; done) | (simp [*]; done)), H', ⟨by first | omega | exact Nat.le_refl _⟩, ⟨tK BK289.out⟩, ⟨tK BK290.out⟩, ⟨tB HB.out⟩⟩
  ·
   replace c7 := Bool.eq_false_iff.mpr c7
   subst c7
   have H1 : (impl_HangLeaves.j0 k l1 true l0_0 l0_1) = some (r1, r2, r3) := by rw [if_neg (show ¬ (false = true) by decide)] at H; exact H
   clear H
   have H := H1
   clear H1
   have H' := Aside0.mk H
   clear H
   have hnb23 := NB289_290.out
   have hnc23 := NB290_289.out
   obtain ⟨hcz24_0, hfz24_0, hcz24_1, hfz24_1⟩ := cz2 BK289
   go_wp2_with (first | ((with_reducible refine gate_callee (f := 18) rfl ?_); refine goesL_ (some 7) rfl rfl Try.func18 (by kernel_rfl) rfl #[.agg #[.slice A0_0 l0_0.length c0_0, .slice A0_1 l0_1.length c0_1]] rfl tM ?_; (with_reducible refine (impl_IsMobile.calls k _ _ l0_0 _ _ l0_1 false _ ?side1 ?side2 ?side3 ?side4 A6.out).mono ?_); (case side1 => exact tC (Kd.C_below HR0_0.out HB.out)); (case side2 => exact HC0_0.out); (case side3 => exact tC (Kd.C_below HR0_1.out HB.out)); (case side4 => exact HC0_1.out); rintro e w25 ⟨rfl, hb⟩; refine ⟨_, rfl, ?_⟩; replace BK289 := bkB BK289 hb; replace BK290 := bkB BK290 hb; replace HB := Aside0.mk (below_step (tB HB.out) hb); (try clear hb); (try clear hb2); (try clear hk); (try clear hi)))
   go_meet
   case rel => exact ⟨_, (true), (by first | rfl | (simp; done) | (simp [wrap64]; done) | (simp [*]; done)), H', ⟨by first | omega | exact Nat.le_refl _⟩, ⟨tK BK289.out⟩, ⟨tK BK290.out⟩, ⟨tB HB.out⟩⟩
 case rest =>
  clear HC3
  try clear c1
  try clear c2
  try clear p2
  try clear c4
  try clear p6
  try clear c7
  try clear c9
  try clear c9b0
  try clear c9b1
  try clear c9b2
  try clear c11
  try clear c17
  try clear c18
  try clear c23
  try clear hcz12_0
  try clear hcz12_1
  try clear hcz14_0
  try clear hcz14_1
  try clear hcz18_0
  try clear hcz18_1
  try clear hcz20_0
  try clear hcz20_1
  try clear hcz24_0
  try clear hcz24_1
  try clear hfz12_0
  try clear hfz12_1
  try clear hfz14_0
  try clear hfz14_1
  try clear hfz18_0
  try clear hfz18_1
  try clear hfz20_0
  try clear hfz20_1
  try clear hfz24_0
  try clear hfz24_1
  obtain ⟨kq, x20_2, rfl, HA, HJ2, BK289, BK290, HB⟩ := hcut
  cases kq with
  | zero => exact absurd HA.out (by simp [impl_HangLeaves.j0])
  | succ kj2 =>
   have H := HA.out
   clear HA
   simp only [impl_HangLeaves.j0] at H
   by_cases c26 : x20_2 = true
   ·
    subst c26
    have H1 : (some (([] : List (S58)), ([] : List (S58)), false)) = some (r1, r2, r3) := by rw [if_pos rfl] at H; exact H
    clear H
    have H := H1
    clear H1
    simp only [Option.some.injEq, Prod.mk.injEq] at H
    obtain ⟨rfl, rfl, rfl⟩ := H
    have hnb27 := NB290_289.out
    have hnc27 := NB289_290.out
    obtain ⟨hcz28_0, hfz28_0, hcz28_1, hfz28_1⟩ := cz2 BK290
    go_wp2
    refine bodyPost_ret (results_ct rfl _ _ gb290 27 #[.slice none 0 0, .slice none 0 0] (0, 0) _ rfl (by (with_reducible repeat (first | refine blk_drewN ?_ _ | refine blk_drew ?_ | refine blk_alloc ?_ _)); refine blk_put (cs := #[.slice none 0 0, .slice none 0 0]) ?_ 1 _ rfl; (with_reducible repeat (first | refine blk_drewN ?_ _ | refine blk_drew ?_ | refine blk_alloc ?_ _)); refine blk_put (cs := #[.slice none 0 0, .slice none 0 0]) ?_ 0 _ rfl; (with_reducible repeat (first | refine blk_drewN ?_ _ | refine blk_drew ?_ | refine blk_alloc ?_ _)); exact BK290.out) Try.underlying27 rfl (by kernel_rfl)) rfl ?_
    exact ⟨_, _, by first | rfl | (simp [errW_none, errW_some] <;> rfl) | (simp [*, errW_none, errW_some] <;> rfl), by first | exact Kd.R_nil _ _ _ _ _ | exact Kd.N_nil _ _ _ _ _ | exact Kd.V_nil _ _ _ _ _ | exact Kd.Q_nil _ _ _ _ _ | exact Kd.S_nil _ _ _ _ _, by first | exact Kd.R_nil _ _ _ _ _ | exact Kd.N_nil _ _ _ _ _ | exact Kd.V_nil _ _ _ _ _ | exact Kd.Q_nil _ _ _ _ _ | exact Kd.S_nil _ _ _ _ _, tB HB.out⟩
   ·
    replace c26 := Bool.eq_false_iff.mpr c26
    subst c26
    have H1 : ((impl_hungWith.f kj2 l0_0 l0_1 l1).bind fun bt296 => ((impl_validMobile.f kj2 bt296.1 bt296.2).bind fun bt302 => (some (bt302.1, bt302.2.1, bt302.2.2)))) = some (r1, r2, r3) := by rw [if_neg (show ¬ (false = true) by decide)] at H; exact H
    clear H
    have H := H1
    clear H1
    replace H := Option.bind_eq_some_iff.mp H
    obtain ⟨⟨t296, t299⟩, A290, H⟩ := H
    replace H : ((impl_validMobile.f kj2 t296 t299).bind fun bt302 => (some (bt302.1, bt302.2.1, bt302.2.2))) = some (r1, r2, r3) := H
    have A29 := Aside0.mk A290
    clear A290
    replace H := Option.bind_eq_some_iff.mp H
    obtain ⟨⟨t302, t305, t308⟩, A300, H⟩ := H
    replace H : (some (t302, t305, t308)) = some (r1, r2, r3) := H
    have A30 := Aside0.mk A300
    clear A300
    simp only [Option.some.injEq, Prod.mk.injEq] at H
    obtain ⟨rfl, rfl, rfl⟩ := H
    have hnb31 := NB289_290.out
    have hnc31 := NB290_289.out
    obtain ⟨hcz32_0, hfz32_0, hcz32_1, hfz32_1⟩ := cz2 BK289
    go_wp2_with (first | ((with_reducible refine gate_callee (f := 84) rfl ?_); refine goesL_ (some 24) rfl rfl Try.func84 (by kernel_rfl) rfl #[.agg #[.slice A0_0 l0_0.length c0_0, .slice A0_1 l0_1.length c0_1], .slice A1 l1.length c1] rfl tM ?_; (with_reducible refine (impl_hungWith.calls kj2 _ _ l0_0 _ _ l0_1 _ _ l1 t296 t299 _ ?side1 ?side2 ?side3 ?side4 ?side5 ?side6 A29.out).mono ?_); (case side1 => exact tC (Kd.C_below HR0_0.out HB.out)); (case side2 => exact HC0_0.out); (case side3 => exact tC (Kd.C_below HR0_1.out HB.out)); (case side4 => exact HC0_1.out); (case side5 => exact tC (Kd.C_below HR1.out HB.out)); (case side6 => exact HC1.out); rintro e w33 ⟨v297, v300, rfl, ho0, ho1, hb⟩; refine ⟨_, rfl, ?_⟩; have HO298 := Aside0.mk (Kd.R_lower ho0 (below_size (tB HB.out))); have HO301 := Aside0.mk (Kd.R_lower ho1 (below_size (tB HB.out))); replace BK289 := bkB BK289 hb; replace BK290 := bkB BK290 hb; replace HB := Aside0.mk (below_step (tB HB.out) hb); (try clear hb); (try clear hb2); (try clear hk); (try clear hi); (try clear ho0); (try clear ho1); obtain ⟨Ao34, co34, eo34⟩ := Kd.R_slice HO298.out; subst eo34; obtain ⟨Ao35, co35, eo35⟩ := Kd.R_slice HO301.out; subst eo35) | ((with_reducible refine gate_callee (f := 75) rfl ?_); refine goesL_ (some 25) rfl rfl Try.func75 (by kernel_rfl) rfl #[.agg #[.slice Ao34 t296.length co34, .slice Ao35 t299.length co35]] rfl tM ?_; (with_reducible refine (impl_validMobile.calls kj2 (fun k_ => some k_ = (.slice Ao34 t296.length co34 : Value).ownBlock) (.slice Ao34 t296.length co34) t296 (fun k_ => some k_ = (.slice Ao35 t299.length co35 : Value).ownBlock) (.slice Ao35 t299.length co35) t299 t302 t305 t308 w _ ?side1 ?side2 ?side3 ?side4 ?side5 A30.out).mono ?_); (case side1 => repeat (first | (with_reducible first | exact HB.out | apply below_alloc | apply pw_below_drewN | apply below_drew1 | refine below_set ?_ GE289.out | refine below_set ?_ GE290.out) | exact HB.out)); (case side2 => exact Kd.R_tight rfl HO298.out); (case side3 => exact fun k_ e_ => (HO298.out.1 k_ e_.symm)); (case side4 => exact Kd.R_tight rfl HO301.out); (case side5 => exact fun k_ e_ => (HO301.out.1 k_ e_.symm)); rintro e w36 ⟨v303, v306, rfl, ho0, ho1, hb, hkp⟩; refine ⟨_, rfl, ?_⟩; replace BK289 := Aside0.mk (blk_kept (tK BK289.out) hkp (fun hs_ => Or.elim hs_ (fun e_ => (fun e_ => (Kd.R_ne HO298.out BK289.out (by decide)) e_) e_) (fun e_ => (fun e_ => (Kd.R_ne HO301.out BK289.out (by decide)) e_) e_))); replace BK290 := Aside0.mk (blk_kept (tK BK290.out) hkp (fun hs_ => Or.elim hs_ (fun e_ => (fun e_ => (Kd.R_ne HO298.out BK290.out (by decide)) e_) e_) (fun e_ => (fun e_ => (Kd.R_ne HO301.out BK290.out (by decide)) e_) e_))); have HO304 := Aside0.mk (Kd.R_mono (ok' := fun k_ => some k_ ≠ (v306 : Value).ownBlock) ho0 (fun k_ hk_ => hk_.2)); have HO307 := Aside0.mk (Kd.R_mono (ok' := fun k_ => some k_ ≠ (v303 : Value).ownBlock) ho1 (fun k_ hk_ => hk_.2)); replace HB := Aside0.mk (hb); clear HO298; clear HO301; (try clear hb); (try clear hkp); (try clear ho0); (try clear ho1); obtain ⟨Ao37, co37, eo37⟩ := Kd.R_slice HO304.out; subst eo37; obtain ⟨hcz38_0, hfz38_0, hcz38_1, hfz38_1⟩ := cz2 BK290; obtain ⟨Ao39, co39, eo39⟩ := Kd.R_slice HO307.out; subst eo39))
    refine bodyPost_ret (results_ct rfl _ _ gb290 27 #[.slice Ao37 t302.length co37, .slice Ao39 t305.length co39] (0, 0) _ rfl (by (with_reducible repeat (first | refine blk_drewN ?_ _ | refine blk_drew ?_ | refine blk_alloc ?_ _)); refine blk_put (cs := #[.slice Ao37 t302.length co37, .slice none 0 0]) ?_ 1 _ rfl; (with_reducible repeat (first | refine blk_drewN ?_ _ | refine blk_drew ?_ | refine blk_alloc ?_ _)); refine blk_put (cs := #[.slice none 0 0, .slice none 0 0]) ?_ 0 _ rfl; (with_reducible repeat (first | refine blk_drewN ?_ _ | refine blk_drew ?_ | refine blk_alloc ?_ _)); exact BK290.out) Try.underlying27 rfl (by kernel_rfl)) rfl ?_
    exact ⟨_, _, by first | rfl | (simp [errW_none, errW_some] <;> rfl) | (simp [*, errW_none, errW_some] <;> rfl), by (with_reducible repeat (first | apply Kd.R_alloc | apply Kd.R_drewN | apply Kd.R_drew)); exact Kd.R_mono (Kd.R_far (p := ⟨gb290, 1, none⟩) (Kd.R_far (p := ⟨gb290, 0, none⟩) (Kd.R_types HO304.out BK290.out (by decide)) (fun _ hk => hk.2) (.slice Ao37 t302.length co37)) (fun _ hk => hk.2) (.slice Ao39 t305.length co39)) (fun _ hk => hk.1), by (with_reducible repeat (first | apply Kd.R_alloc | apply Kd.R_drewN | apply Kd.R_drew)); exact Kd.R_mono (Kd.R_far (p := ⟨gb290, 1, none⟩) (Kd.R_far (p := ⟨gb290, 0, none⟩) (Kd.R_types HO307.out BK290.out (by decide)) (fun _ hk => hk.2) (.slice Ao37 t302.length co37)) (fun _ hk => hk.2) (.slice Ao39 t305.length co39)) (fun _ hk => hk.1), tB HB.out⟩

end Go.Proofs.Ytbdajkfihbaapaa.PFnExactHangLeaves

/- Printed by the program print2.py over the translation: each function as a Lean function, and the proof that the call comes to its answer. -/
import Derived.Test.YtbdajkfihbaapaaPFnExactLeafRowx0
import Derived.Test.YtbdajkfihbaapaaPFnExactLeafRowx2
import Derived.Test.YtbdajkfihbaapaaPFnExactLeafRowx3
namespace Go.Proofs.Ytbdajkfihbaapaa.PFnExactLeafRow
open Go.RowKit Go.Proofs.YtbdajkfihbaapaaW.PrintWords Go.Proofs.YtbdajkfihbaapaaW.PrintLast Go.Proofs.YtbdajkfihbaapaaW.PrintMore
attribute [local go_sem] max2_int min2_int max_two min_two max_three min_three max_four min_four   -- for this text's walks alone
set_option linter.unusedVariables false
set_option linter.unusedSimpArgs false

/-! ### spec_l2In: function 76 -/
def spec_l2In.f (a0 : Int) : Option (Bool) := (spec_l1In.f a0 0 60).bind fun t162 => (some t162)
set_option maxHeartbeats 8000000 in
set_option maxRecDepth 100000 in
theorem spec_l2In.calls (a0 : Int) (r : Bool) (w : World) (h : spec_l2In.f a0 = some r) :
  Calls Try.prog 76 #[.int .i64 a0] w fun e w' => e = .returned (.bool r) ∧ Drawn0 w w' := by
 have H : ((spec_l1In.f a0 0 60).bind fun t162 => (some t162)) = some r := h
 clear h
 replace H := Option.bind_eq_some_iff.mp H
 obtain ⟨t162, A20, H⟩ := H
 replace H : (some t162) = some r := H
 have A2 := Aside0.mk A20
 clear A20
 obtain rfl := Option.some.inj H
 go_enter Try.func76, Try.ntmps76
 go_wp2_with (first | ((with_reducible refine gate_callee (f := 91) rfl ?_); refine goesL_ (some 4) rfl rfl Try.func91 (by kernel_rfl) rfl #[.int .i64 a0, .int .i64 0, .int .i64 60] rfl tM ?_; (with_reducible refine (spec_l1In.calls a0 0 60 t162 _ A2.out).mono ?_); rintro e w' ⟨rfl, ⟨nd, rfl⟩⟩; refine ⟨_, rfl, ?_⟩))
 go_ret
 exact ⟨by first | rfl | (simp; done) | (simp [wrap64]; done) | (simp [*]; done), by repeat (first | exact Drawn0.refl _ | apply Drawn0.step)⟩

/-! ### spec_LeafRow: function 39 -/
mutual
def spec_LeafRow.j0 : Nat → Int → List (S67) → Bool → List (S58) → List (S58) → Option ((List (S67)) × Bool)
 | 0, _, _, _, _, _ => none
 | k + 1, x1, x6, x19, x164000, x164001 => if x19 = true then (some (x6, false)) else (if 0 ≤ (x164000.length : Int) then (if ((x164000.length : Int) : Int).toNat ≤ 35184372088832 then ((some (List.replicate ((x164000.length : Int) : Int).toNat 0 : List Int)).bind fun y169 => (if 0 < (y169.length : Int) then (spec_LeafRow.l0 k x6 (y169.set (0 : Int).toNat x1) 0 x164000 x164001) else (none))) else (none)) else (none))
def spec_LeafRow.l0 : Nat → List (S67) → List Int → Int → List (S58) → List (S58) → Option ((List (S67)) × Bool)
 | 0, _, _, _, _, _ => none
 | k + 1, x6, x7, x8, x164000, x164001 => if x8 < (x164000.length : Int) then (spec_LeafRow.l1 k x6 x7 x8 0 x164000 x164001) else (some (x6, true))
def spec_LeafRow.l1 : Nat → List (S67) → List Int → Int → Int → List (S58) → List (S58) → Option ((List (S67)) × Bool)
 | 0, _, _, _, _, _, _ => none
 | k + 1, x6, x7, x8, x9, x164000, x164001 => if x9 < 2 then (if 0 ≤ x8 then (if x8 < (x7.length : Int) then (if x8 < (x164000.length : Int) then (if x9 = 0 then (if x8 < (x164001.length : Int) then (if ((rd_T58 x164001 x8).f0) < 0 then (if 0 ≤ (wrap64 (-((rd_T58 x164001 x8).f0))) then (if (wrap64 (-((rd_T58 x164001 x8).f0))) < (x7.length : Int) then (spec_LeafRow.l1 k x6 (x7.set ((wrap64 (-((rd_T58 x164001 x8).f0))) : Int).toNat (wrap64 ((rd x7 x8) + (wrap64 ((wrap64 ((wrap64 (2 * x9)) - 1)) * ((rd_T58 x164000 x8).f0)))))) x8 (wrap64 (x9 + 1)) x164000 x164001) else (none)) else (none)) else ((spec_l2In.f (wrap64 ((rd x7 x8) + (wrap64 ((wrap64 ((wrap64 (2 * x9)) - 1)) * ((rd_T58 x164000 x8).f0)))))).bind fun t178 => (if t178 = true then (if x6.length < 8796093022208 then (spec_LeafRow.l1 k (x6 ++ [(⟨wrap64 ((rd x7 x8) + (wrap64 ((wrap64 ((wrap64 (2 * x9)) - 1)) * ((rd_T58 x164000 x8).f0)))), (rd_T58 x164001 x8).f0⟩ : S67)]) x7 x8 (wrap64 (x9 + 1)) x164000 x164001) else (none)) else (some ((([] : List (S67))), false))))) else (none)) else (if x9 = 1 then (if x8 < (x164001.length : Int) then (if ((rd_T58 x164001 x8).f1) < 0 then (if 0 ≤ (wrap64 (-((rd_T58 x164001 x8).f1))) then (if (wrap64 (-((rd_T58 x164001 x8).f1))) < (x7.length : Int) then (spec_LeafRow.l1 k x6 (x7.set ((wrap64 (-((rd_T58 x164001 x8).f1))) : Int).toNat (wrap64 ((rd x7 x8) + (wrap64 ((wrap64 ((wrap64 (2 * x9)) - 1)) * ((rd_T58 x164000 x8).f1)))))) x8 (wrap64 (x9 + 1)) x164000 x164001) else (none)) else (none)) else ((spec_l2In.f (wrap64 ((rd x7 x8) + (wrap64 ((wrap64 ((wrap64 (2 * x9)) - 1)) * ((rd_T58 x164000 x8).f1)))))).bind fun t189 => (if t189 = true then (if x6.length < 8796093022208 then (spec_LeafRow.l1 k (x6 ++ [(⟨wrap64 ((rd x7 x8) + (wrap64 ((wrap64 ((wrap64 (2 * x9)) - 1)) * ((rd_T58 x164000 x8).f1)))), (rd_T58 x164001 x8).f1⟩ : S67)]) x7 x8 (wrap64 (x9 + 1)) x164000 x164001) else (none)) else (some ((([] : List (S67))), false))))) else (none)) else (none))) else (none)) else (none)) else (none)) else (spec_LeafRow.l0 k x6 x7 (wrap64 (x8 + 1)) x164000 x164001)
end
def spec_LeafRow.f (k : Nat) (l0_0 : List (S58)) (l0_1 : List (S58)) (a1 : Int) : Option ((List (S67)) × Bool) := (some (([] : List (S67)) : List (S67))).bind fun y164 => ((spec_l5Good.f k l0_0 l0_1).bind fun t167 => (if t167 = true then ((spec_l2In.f a1).bind fun t168 => (spec_LeafRow.j0 k a1 y164 (!t168) l0_0 l0_1)) else (spec_LeafRow.j0 k a1 y164 true l0_0 l0_1)))
theorem spec_LeafRow.mono_l : ∀ k, (∀ y0 y1 y2 y3 y4, LeO (spec_LeafRow.j0 k y0 y1 y2 y3 y4) (spec_LeafRow.j0 (k + 1) y0 y1 y2 y3 y4)) ∧ (∀ y0 y1 y2 y3 y4, LeO (spec_LeafRow.l0 k y0 y1 y2 y3 y4) (spec_LeafRow.l0 (k + 1) y0 y1 y2 y3 y4)) ∧ (∀ y0 y1 y2 y3 y4 y5, LeO (spec_LeafRow.l1 k y0 y1 y2 y3 y4 y5) (spec_LeafRow.l1 (k + 1) y0 y1 y2 y3 y4 y5))
 | 0 => ⟨fun _ _ _ _ _ r h => by simp [spec_LeafRow.j0] at h, fun _ _ _ _ _ r h => by simp [spec_LeafRow.l0] at h, fun _ _ _ _ _ _ r h => by simp [spec_LeafRow.l1] at h⟩
 | k + 1 => by
  obtain ⟨ih0, ih1, ih2⟩ := spec_LeafRow.mono_l k
  refine ⟨?_, ?_, ?_⟩
  ·
   intro y0 y1 y2 y3 y4
   unfold spec_LeafRow.j0
   repeat' first
   | (with_reducible exact ih0 _ _ _ _ _)
   | (with_reducible exact ih1 _ _ _ _ _)
   | (with_reducible exact ih2 _ _ _ _ _ _)
   | (with_reducible exact spec_l5Good.mono _ _ _)
   | (with_reducible exact LeO.refl _)
   | (with_reducible exact LeO.none _)
   | (with_reducible refine LeO.ite ?_ ?_)
   | (with_reducible refine LeO.bind ?_ (fun _ => ?_))
   | exact ih0 _ _ _ _ _
   | exact ih1 _ _ _ _ _
   | exact ih2 _ _ _ _ _ _
   | exact spec_l5Good.mono _ _ _
   | exact LeO.none _
   | refine LeO.ite ?_ ?_
   | refine LeO.bind ?_ (fun _ => ?_)
  ·
   intro y0 y1 y2 y3 y4
   unfold spec_LeafRow.l0
   repeat' first
   | (with_reducible exact ih0 _ _ _ _ _)
   | (with_reducible exact ih1 _ _ _ _ _)
   | (with_reducible exact ih2 _ _ _ _ _ _)
   | (with_reducible exact spec_l5Good.mono _ _ _)
   | (with_reducible exact LeO.refl _)
   | (with_reducible exact LeO.none _)
   | (with_reducible refine LeO.ite ?_ ?_)
   | (with_reducible refine LeO.bind ?_ (fun _ => ?_))
   | exact ih0 _ _ _ _ _
   | exact ih1 _ _ _ _ _
   | exact ih2 _ _ _ _ _ _
   | exact spec_l5Good.mono _ _ _
   | exact LeO.none _
   | refine LeO.ite ?_ ?_
   | refine LeO.bind ?_ (fun _ => ?_)
  ·
   intro y0 y1 y2 y3 y4 y5
   unfold spec_LeafRow.l1
   repeat' first
   | (with_reducible exact ih0 _ _ _ _ _)
   | (with_reducible exact ih1 _ _ _ _ _)
   | (with_reducible exact ih2 _ _ _ _ _ _)
   | (with_reducible exact spec_l5Good.mono _ _ _)
   | (with_reducible exact LeO.refl _)
   | (with_reducible exact LeO.none _)
   | (with_reducible refine LeO.ite ?_ ?_)
   | (with_reducible refine LeO.bind ?_ (fun _ => ?_))
   | exact ih0 _ _ _ _ _
   | exact ih1 _ _ _ _ _
   | exact ih2 _ _ _ _ _ _
   | exact spec_l5Good.mono _ _ _
   | exact LeO.none _
   | refine LeO.ite ?_ ?_
   | refine LeO.bind ?_ (fun _ => ?_)
theorem spec_LeafRow.mono : ∀ a0 a1 a2 k, LeO (spec_LeafRow.f k a0 a1 a2) (spec_LeafRow.f (k + 1) a0 a1 a2) := by
 intro a0 a1 a2 k
 obtain ⟨ih0, ih1, ih2⟩ := spec_LeafRow.mono_l k
 unfold spec_LeafRow.f
 repeat' first
   | (with_reducible exact ih0 _ _ _ _ _)
   | (with_reducible exact ih1 _ _ _ _ _)
   | (with_reducible exact ih2 _ _ _ _ _ _)
   | (with_reducible exact spec_l5Good.mono _ _ _)
   | (with_reducible exact LeO.refl _)
   | (with_reducible exact LeO.none _)
   | (with_reducible refine LeO.ite ?_ ?_)
   | (with_reducible refine LeO.bind ?_ (fun _ => ?_))
   | exact ih0 _ _ _ _ _
   | exact ih1 _ _ _ _ _
   | exact ih2 _ _ _ _ _ _
   | exact spec_l5Good.mono _ _ _
   | exact LeO.none _
   | refine LeO.ite ?_ ?_
   | refine LeO.bind ?_ (fun _ => ?_)
set_option maxHeartbeats 8000000 in
set_option maxRecDepth 100000 in
theorem spec_LeafRow.calls (k : Nat) (A0_0 : Option Addr) (c0_0 : Nat) (l0_0 : List (S58)) (A0_1 : Option Addr) (c0_1 : Nat) (l0_1 : List (S58)) (a1 : Int) (r1 : List (S67)) (r2 : Bool) (w : World) (hr0_0 : Kd.C k58 w A0_0 l0_0.length l0_0) (hc0_0 : l0_0.length ≤ c0_0) (hr0_1 : Kd.C k58 w A0_1 l0_1.length l0_1) (hc0_1 : l0_1.length ≤ c0_1) (h : spec_LeafRow.f k l0_0 l0_1 a1 = some (r1, r2)) :
  Calls Try.prog 39 #[.agg #[.slice A0_0 l0_0.length c0_0, .slice A0_1 l0_1.length c0_1], .int .i64 a1] w fun e w' => ∃ v0_ : Value, e = .returned (.tuple #[v0_, .bool r2]) ∧ Kd.R k67 67 w' w.heap.size (fun _ => True) v0_ r1 ∧ Below w.heap.size w w' := by
 have hv0_ : ∀ X : Int, wrap64 ((wrap64 ((wrap64 (2 * 0)) - 1)) * X) = wrap64 (-X) := fun X => by rw [show wrap64 (2 * 0) = 0 from by simp [wrap64], show wrap64 ((0 : Int) - 1) = -1 from by simp [wrap64], Int.neg_mul, Int.one_mul]
 have hv1_ : ∀ X : Int, wrap64 ((wrap64 ((wrap64 (2 * 1)) - 1)) * X) = wrap64 X := fun X => by rw [show wrap64 (2 * 1) = 2 from by simp [wrap64], show wrap64 ((2 : Int) - 1) = 1 from by simp [wrap64], Int.one_mul]
 have hu27 := Try.underlying27
 have hu67 := Try.underlying67
 have hwz_ : wrap64 0 = 0 := by simp [wrap64]
 have hwo_ : wrap64 1 = 1 := by simp [wrap64]
 have HR0_0 := Aside0.mk hr0_0
 have HC0_0 := Aside0.mk hc0_0
 clear hr0_0 hc0_0
 have HR0_1 := Aside0.mk hr0_1
 have HC0_1 := Aside0.mk hc0_1
 clear hr0_1 hc0_1
 have HB := Aside0.mk (Below.refl w.heap.size w)
 have H : ((some (([] : List (S67)) : List (S67))).bind fun y164 => ((spec_l5Good.f k l0_0 l0_1).bind fun t167 => (if t167 = true then ((spec_l2In.f a1).bind fun t168 => (spec_LeafRow.j0 k a1 y164 (!t168) l0_0 l0_1)) else (spec_LeafRow.j0 k a1 y164 true l0_0 l0_1)))) = some (r1, r2) := h
 clear h
 obtain ⟨y164, hy164⟩ : ∃ y_ : List (S67), y_ = (([] : List (S67))) := ⟨_, rfl⟩
 replace H : ((spec_l5Good.f k l0_0 l0_1).bind fun t167 => (if t167 = true then ((spec_l2In.f a1).bind fun t168 => (spec_LeafRow.j0 k a1 y164 (!t168) l0_0 l0_1)) else (spec_LeafRow.j0 k a1 y164 true l0_0 l0_1))) = some (r1, r2) := by first | (rw [hy164]; with_reducible exact H) | (have H2_ := (Option.bind_some _ _).symm.trans H; rw [hy164]; with_reducible exact H2_) | (have H2_ := (Option.bind_some _ _).symm.trans H; with_reducible exact H2_) | with_reducible exact H | (rw [hy164]; exact H) | exact H
 have Ny164 := Aside0.mk hy164
 clear hy164
 have HC3 := Aside0.mk H
 clear H
 go_enter Try.func39, Try.ntmps39
 go_upto_region 2 with (first | ((with_reducible refine gate_dst (N := 2) rfl ?_); refine box_event ?hg (N := 2) ?hd (cs := #[.slice A0_0 l0_0.length c0_0, .slice A0_1 l0_1.length c0_1]) (t := 27) ?hr ?_; (case hd => rfl); (case hg => rfl); (case hr => first | (go_simp; done) | (go_simp; rfl)); intro gb163 hg w4 hbox hb; have BK163 := Aside0.mk (hbox); have GW163 := Aside0.mk (bS HB.out hg); have GE163 := Aside0.mk (bS HB.out hg); replace HB := Aside0.mk (below_step (tB HB.out) hb); clear hb hbox hg) | ((with_reducible refine gate_dst (N := 11) rfl ?_); refine Kd.R_lit k67 _ 67 ?hg (N := 11) ?hd (xs := ([] : List (S67))) (inner := []) (ok := fun _ => True) (okp := fun _ => True) ?hr ?hp (fun _ hk => hk) trivial (Below.refl _ _) (Nat.le_refl _) (by simp) ?_; (case hd => rfl); (case hg => rfl); (case hr => first | (go_simp; done) | (go_simp; rfl)); (case hp => exact (Reps.none _ _)); intro v165 w5 ho6 hb hg_ hnew_; clear hg_ hnew_; (first | rw [← Ny164.out] at ho6 | (simp only [Int.reduceToNat] at ho6; rw [← Ny164.out] at ho6)); have HO166 := Aside0.mk (Kd.R_lower ho6 (below_size (tB HB.out))); replace BK163 := bkB BK163 hb; replace HB := Aside0.mk (below_step (tB HB.out) hb); clear hb ho6))
 repeat (go_quiet (first | ((with_reducible refine gate_dst (N := 2) rfl ?_); refine box_event ?hg (N := 2) ?hd (cs := #[.slice A0_0 l0_0.length c0_0, .slice A0_1 l0_1.length c0_1]) (t := 27) ?hr ?_; (case hd => rfl); (case hg => rfl); (case hr => first | (go_simp; done) | (go_simp; rfl)); intro gb163 hg w4 hbox hb; have BK163 := Aside0.mk (hbox); have GW163 := Aside0.mk (bS HB.out hg); have GE163 := Aside0.mk (bS HB.out hg); replace HB := Aside0.mk (below_step (tB HB.out) hb); clear hb hbox hg) | ((with_reducible refine gate_dst (N := 11) rfl ?_); refine Kd.R_lit k67 _ 67 ?hg (N := 11) ?hd (xs := ([] : List (S67))) (inner := []) (ok := fun _ => True) (okp := fun _ => True) ?hr ?hp (fun _ hk => hk) trivial (Below.refl _ _) (Nat.le_refl _) (by simp) ?_; (case hd => rfl); (case hg => rfl); (case hr => first | (go_simp; done) | (go_simp; rfl)); (case hp => exact (Reps.none _ _)); intro v165 w5 ho6 hb hg_ hnew_; clear hg_ hnew_; (first | rw [← Ny164.out] at ho6 | (simp only [Int.reduceToNat] at ho6; rw [← Ny164.out] at ho6)); have HO166 := Aside0.mk (Kd.R_lower ho6 (below_size (tB HB.out))); replace BK163 := bkB BK163 hb; replace HB := Aside0.mk (below_step (tB HB.out) hb); clear hb ho6)); go_upto_region 2 with (first | ((with_reducible refine gate_dst (N := 2) rfl ?_); refine box_event ?hg (N := 2) ?hd (cs := #[.slice A0_0 l0_0.length c0_0, .slice A0_1 l0_1.length c0_1]) (t := 27) ?hr ?_; (case hd => rfl); (case hg => rfl); (case hr => first | (go_simp; done) | (go_simp; rfl)); intro gb163 hg w4 hbox hb; have BK163 := Aside0.mk (hbox); have GW163 := Aside0.mk (bS HB.out hg); have GE163 := Aside0.mk (bS HB.out hg); replace HB := Aside0.mk (below_step (tB HB.out) hb); clear hb hbox hg) | ((with_reducible refine gate_dst (N := 11) rfl ?_); refine Kd.R_lit k67 _ 67 ?hg (N := 11) ?hd (xs := ([] : List (S67))) (inner := []) (ok := fun _ => True) (okp := fun _ => True) ?hr ?hp (fun _ hk => hk) trivial (Below.refl _ _) (Nat.le_refl _) (by simp) ?_; (case hd => rfl); (case hg => rfl); (case hr => first | (go_simp; done) | (go_simp; rfl)); (case hp => exact (Reps.none _ _)); intro v165 w5 ho6 hb hg_ hnew_; clear hg_ hnew_; (first | rw [← Ny164.out] at ho6 | (simp only [Int.reduceToNat] at ho6; rw [← Ny164.out] at ho6)); have HO166 := Aside0.mk (Kd.R_lower ho6 (below_size (tB HB.out))); replace BK163 := bkB BK163 hb; replace HB := Aside0.mk (below_step (tB HB.out) hb); clear hb ho6)))
 (try simp only [Act.put, List.setIfInBounds_toArray, List.set_cons_zero, List.set_cons_succ])
 go_cut [19] (fun v19 wc => ∃ (kq : Nat) (x19_2 : Bool), v19 = .bool x19_2 ∧ Aside0 (spec_LeafRow.j0 kq a1 y164 x19_2 l0_0 l0_1 = some (r1, r2)) ∧ Aside0 (kq ≤ k) ∧ Aside0 (Kd.R k67 67 wc w.heap.size (fun _ => True) v165 y164) ∧ Aside0 (wc.heap[gb163]? = some (.cells #[(.slice A0_0 l0_0.length c0_0), (.slice A0_1 l0_1.length c0_1)] 27 (0, 0))) ∧ Aside0 (Below w.heap.size w wc))
 case first =>
  have H := HC3.out
  clear HC3
  replace H := Option.bind_eq_some_iff.mp H
  obtain ⟨t167, A70, H⟩ := H
  replace H : (if t167 = true then ((spec_l2In.f a1).bind fun t168 => (spec_LeafRow.j0 k a1 y164 (!t168) l0_0 l0_1)) else (spec_LeafRow.j0 k a1 y164 true l0_0 l0_1)) = some (r1, r2) := H
  have A7 := Aside0.mk A70
  clear A70
  by_cases c8 : t167 = true
  ·
   subst c8
   have H1 : ((spec_l2In.f a1).bind fun t168 => (spec_LeafRow.j0 k a1 y164 (!t168) l0_0 l0_1)) = some (r1, r2) := by rw [if_pos rfl] at H; (try simp only [hv0_, hv1_] at H); exact H
   clear H
   have H := H1
   clear H1
   replace H := Option.bind_eq_some_iff.mp H
   obtain ⟨t168, A90, H⟩ := H
   replace H : (spec_LeafRow.j0 k a1 y164 (!t168) l0_0 l0_1) = some (r1, r2) := H
   have A9 := Aside0.mk A90
   clear A90
   have H' := Aside0.mk H
   clear H
   obtain ⟨hcz10_0, hfz10_0, hcz10_1, hfz10_1⟩ := cz2 BK163
   go_wp2_with (first | (go_at_call 52; (with_reducible refine (spec_l5Good.calls k _ _ l0_0 _ _ l0_1 true _ ?side1 ?side2 ?side3 ?side4 A7.out).mono ?_); (case side1 => exact tC (Kd.C_below HR0_0.out HB.out)); (case side2 => exact HC0_0.out); (case side3 => exact tC (Kd.C_below HR0_1.out HB.out)); (case side4 => exact HC0_1.out); rintro e w11 ⟨rfl, hb⟩; replace HO166 := Aside0.mk (Kd.R_below (tR HO166.out) hb); replace BK163 := bkB BK163 hb; replace HB := Aside0.mk (below_step (tB HB.out) hb); (try clear hb); (try clear hb2); (try clear hk); (try clear hi)) | (go_at_call 76; (with_reducible refine (spec_l2In.calls a1 t168 _ A9.out).mono ?_); rintro e w' ⟨rfl, ⟨nd, rfl⟩⟩; (try first | exact ⟨rfl, _, World.drewN_drewN _ _ _⟩ | exact ⟨rfl, _, Eq.trans (World.drewN_drewN _ _ _) (congrArg (World.drewN _) (Nat.add_assoc _ _ _))⟩)))
   repeat (go_quiet (first | (go_at_call 52; (with_reducible refine (spec_l5Good.calls k _ _ l0_0 _ _ l0_1 true _ ?side1 ?side2 ?side3 ?side4 A7.out).mono ?_); (case side1 => exact tC (Kd.C_below HR0_0.out HB.out)); (case side2 => exact HC0_0.out); (case side3 => exact tC (Kd.C_below HR0_1.out HB.out)); (case side4 => exact HC0_1.out); rintro e w11 ⟨rfl, hb⟩; replace HO166 := Aside0.mk (Kd.R_below (tR HO166.out) hb); replace BK163 := bkB BK163 hb; replace HB := Aside0.mk (below_step (tB HB.out) hb); (try clear hb); (try clear hb2); (try clear hk); (try clear hi)) | (go_at_call 76; (with_reducible refine (spec_l2In.calls a1 t168 _ A9.out).mono ?_); rintro e w' ⟨rfl, ⟨nd, rfl⟩⟩; (try first | exact ⟨rfl, _, World.drewN_drewN _ _ _⟩ | exact ⟨rfl, _, Eq.trans (World.drewN_drewN _ _ _) (congrArg (World.drewN _) (Nat.add_assoc _ _ _))⟩))); try go_wp2_with (first | (go_at_call 52; (with_reducible refine (spec_l5Good.calls k _ _ l0_0 _ _ l0_1 true _ ?side1 ?side2 ?side3 ?side4 A7.out).mono ?_); (case side1 => exact tC (Kd.C_below HR0_0.out HB.out)); (case side2 => exact HC0_0.out); (case side3 => exact tC (Kd.C_below HR0_1.out HB.out)); (case side4 => exact HC0_1.out); rintro e w11 ⟨rfl, hb⟩; replace HO166 := Aside0.mk (Kd.R_below (tR HO166.out) hb); replace BK163 := bkB BK163 hb; replace HB := Aside0.mk (below_step (tB HB.out) hb); (try clear hb); (try clear hb2); (try clear hk); (try clear hi)) | (go_at_call 76; (with_reducible refine (spec_l2In.calls a1 t168 _ A9.out).mono ?_); rintro e w' ⟨rfl, ⟨nd, rfl⟩⟩; (try first | exact ⟨rfl, _, World.drewN_drewN _ _ _⟩ | exact ⟨rfl, _, Eq.trans (World.drewN_drewN _ _ _) (congrArg (World.drewN _) (Nat.add_assoc _ _ _))⟩))))
   go_meet
   case rel => exact ⟨_, (!t168), (by first | rfl | (simp; done) | (simp [wrap64]; done) | (simp [*]; done)), H', ⟨by first | omega | exact Nat.le_refl _⟩, ⟨tR HO166.out⟩, ⟨tK BK163.out⟩, ⟨tB HB.out⟩⟩
  ·
   replace c8 := Bool.eq_false_iff.mpr c8
   subst c8
   have H1 : (spec_LeafRow.j0 k a1 y164 true l0_0 l0_1) = some (r1, r2) := by rw [if_neg (show ¬ (false = true) by decide)] at H; exact H
   clear H
   have H := H1
   clear H1
   have H' := Aside0.mk H
   clear H
   obtain ⟨hcz12_0, hfz12_0, hcz12_1, hfz12_1⟩ := cz2 BK163
   go_wp2_with (first | (go_at_call 52; (with_reducible refine (spec_l5Good.calls k _ _ l0_0 _ _ l0_1 false _ ?side1 ?side2 ?side3 ?side4 A7.out).mono ?_); (case side1 => exact tC (Kd.C_below HR0_0.out HB.out)); (case side2 => exact HC0_0.out); (case side3 => exact tC (Kd.C_below HR0_1.out HB.out)); (case side4 => exact HC0_1.out); rintro e w13 ⟨rfl, hb⟩; replace HO166 := Aside0.mk (Kd.R_below (tR HO166.out) hb); replace BK163 := bkB BK163 hb; replace HB := Aside0.mk (below_step (tB HB.out) hb); (try clear hb); (try clear hb2); (try clear hk); (try clear hi)))
   repeat (go_quiet (first | (go_at_call 52; (with_reducible refine (spec_l5Good.calls k _ _ l0_0 _ _ l0_1 false _ ?side1 ?side2 ?side3 ?side4 A7.out).mono ?_); (case side1 => exact tC (Kd.C_below HR0_0.out HB.out)); (case side2 => exact HC0_0.out); (case side3 => exact tC (Kd.C_below HR0_1.out HB.out)); (case side4 => exact HC0_1.out); rintro e w13 ⟨rfl, hb⟩; replace HO166 := Aside0.mk (Kd.R_below (tR HO166.out) hb); replace BK163 := bkB BK163 hb; replace HB := Aside0.mk (below_step (tB HB.out) hb); (try clear hb); (try clear hb2); (try clear hk); (try clear hi))); try go_wp2_with (first | (go_at_call 52; (with_reducible refine (spec_l5Good.calls k _ _ l0_0 _ _ l0_1 false _ ?side1 ?side2 ?side3 ?side4 A7.out).mono ?_); (case side1 => exact tC (Kd.C_below HR0_0.out HB.out)); (case side2 => exact HC0_0.out); (case side3 => exact tC (Kd.C_below HR0_1.out HB.out)); (case side4 => exact HC0_1.out); rintro e w13 ⟨rfl, hb⟩; replace HO166 := Aside0.mk (Kd.R_below (tR HO166.out) hb); replace BK163 := bkB BK163 hb; replace HB := Aside0.mk (below_step (tB HB.out) hb); (try clear hb); (try clear hb2); (try clear hk); (try clear hi))))
   go_meet
   case rel => exact ⟨_, (true), (by first | rfl | (simp; done) | (simp [wrap64]; done) | (simp [*]; done)), H', ⟨by first | omega | exact Nat.le_refl _⟩, ⟨tR HO166.out⟩, ⟨tK BK163.out⟩, ⟨tB HB.out⟩⟩
 case rest =>
  clear HC3
  try clear p2
  try clear c3
  try clear p6
  try clear c8
  try clear hcz10_0
  try clear hcz10_1
  try clear hcz12_0
  try clear hcz12_1
  try clear hfz10_0
  try clear hfz10_1
  try clear hfz12_0
  try clear hfz12_1
  obtain ⟨kq, x19_2, rfl, HA, HJ2, HO_6, BK163, HB⟩ := hcut
  cases kq with
  | zero => exact absurd HA.out (by simp [spec_LeafRow.j0])
  | succ kj2 =>
   have H := HA.out
   clear HA
   simp only [spec_LeafRow.j0] at H
   by_cases c14 : x19_2 = true
   ·
    subst c14
    have H1 : (some (y164, false)) = some (r1, r2) := by rw [if_pos rfl] at H; (try simp only [hv0_, hv1_] at H); exact H
    clear H
    have H := H1
    clear H1
    simp only [Option.some.injEq, Prod.mk.injEq] at H
    obtain ⟨rfl, rfl⟩ := H
    go_wp2
    repeat (go_quiet (fail); try go_wp2)
    go_ret2
    exact ⟨_, by first | rfl | (simp [errW_none, errW_some] <;> rfl) | (simp [*, errW_none, errW_some] <;> rfl), tR HO_6.out, tB HB.out⟩
   ·
    replace c14 := Bool.eq_false_iff.mpr c14
    subst c14
    have H1 : (if 0 ≤ (l0_0.length : Int) then (if ((l0_0.length : Int) : Int).toNat ≤ 35184372088832 then ((some (List.replicate ((l0_0.length : Int) : Int).toNat 0 : List Int)).bind fun y169 => (if 0 < (y169.length : Int) then (spec_LeafRow.l0 kj2 y164 (y169.set (0 : Int).toNat a1) 0 l0_0 l0_1) else (none))) else (none)) else (none)) = some (r1, r2) := by rw [if_neg (show ¬ (false = true) by decide)] at H; exact H
    clear H
    have H := H1
    clear H1
    by_cases c15 : 0 ≤ (l0_0.length : Int)
    ·
     rw [if_pos c15] at H
     have c15b0 := eq_true c15
     have c15b1 : decide (0 ≤ (l0_0.length : Int)) = true := decide_eq_true c15
     clear c15
     by_cases c16 : ((l0_0.length : Int) : Int).toNat ≤ 35184372088832
     ·
      rw [if_pos c16] at H
      have c16b0 := eq_true c16
      have c16b1 : decide (((l0_0.length : Int) : Int).toNat ≤ 35184372088832) = true := decide_eq_true c16
      clear c16
      obtain ⟨y169, hy169⟩ : ∃ y_ : List Int, y_ = (List.replicate ((l0_0.length : Int) : Int).toNat 0) := ⟨_, rfl⟩
      replace H : (if 0 < (y169.length : Int) then (spec_LeafRow.l0 kj2 y164 (y169.set (0 : Int).toNat a1) 0 l0_0 l0_1) else (none)) = some (r1, r2) := by first | (rw [hy169]; with_reducible exact H) | (have H2_ := (Option.bind_some _ _).symm.trans H; rw [hy169]; with_reducible exact H2_) | (have H2_ := (Option.bind_some _ _).symm.trans H; with_reducible exact H2_) | with_reducible exact H | (rw [hy169]; exact H) | exact H
      have Ny169 := Aside0.mk hy169
      clear hy169
      by_cases c17 : 0 < (y169.length : Int)
      ·
       rw [if_pos c17] at H
       have c17b0 : decide (0 < (y169.length : Int)) = true := decide_eq_true c17
       have c17b1 : decide (0 < y169.length) = true := decide_eq_true (by omega)
       clear c17
       obtain ⟨y172, hy172⟩ : ∃ y_ : List Int, y_ = (y169.set (0 : Int).toNat a1) := ⟨_, rfl⟩
       replace H : (spec_LeafRow.l0 kj2 y164 y172 0 l0_0 l0_1) = some (r1, r2) := by first | (rw [hy172]; with_reducible exact H) | (have H2_ := (Option.bind_some _ _).symm.trans H; rw [hy172]; with_reducible exact H2_) | (have H2_ := (Option.bind_some _ _).symm.trans H; with_reducible exact H2_) | with_reducible exact H | (rw [hy172]; exact H) | exact H
       have Ny172 := Aside0.mk hy172
       clear hy172
       have H' := Aside0.mk H
       clear H
       obtain ⟨hcz19_0, hfz19_0, hcz19_1, hfz19_1⟩ := cz2 BK163
       go_wp2_with (first | ((with_reducible refine gate_dst (N := 24) rfl ?_); refine Kd.R_make (Kd.int .i64) _ 3 rfl (N := 24) rfl 37 _ _ rfl (l0_0.length : Int) rfl rfl Try.underlying37 (.int .i64 0) 8 info3 rfl (by decide) (by omega) 0 (ok := fun _ => True) (okp := fun _ => True) rfl (fun _ hk => hk) trivial (of_decide_eq_true (by first | (with_reducible assumption) | assumption)) (Nat.le_trans (Nat.mul_le_mul_right _ (of_decide_eq_true (by first | (with_reducible assumption) | assumption) : (l0_0.length : Int).toNat ≤ 35184372088832)) (by omega)) (Below.refl _ _) (Nat.le_refl _) ?_; intro v170 w20 ho21 hb hg_ hnew_; clear hg_ hnew_; (first | rw [← Ny169.out] at ho21 | (simp only [Int.reduceToNat] at ho21; rw [← Ny169.out] at ho21)); replace HO_6 := Aside0.mk (Kd.R_below (tR HO_6.out) hb); have HO171 := Aside0.mk (Kd.R_lower ho21 (below_size (tB HB.out))); replace BK163 := bkB BK163 hb; replace HB := Aside0.mk (below_step (tB HB.out) hb); clear hb ho21; have p18 : 0 ≤ (0 : Int) := (by omega); have q18 : (0 : Int) < ((y169.length : Int) : Int) := of_decide_eq_true (by first | (with_reducible assumption) | assumption); have qi18 : (0 < y169.length) = True := eq_true (by omega); obtain ⟨go18, co18, eo18, gb18, gl18, cl18, HG18⟩ := Kd.R_form HO171.out (by omega); (first | cases eo18 | (injection eo18 with ea_ en_ ec_; (first | subst ea_ | (injection ea_ with ea_; subst ea_)); subst ec_; clear en_)); have GB18 := Aside0.mk gb18; have GG18 := Aside0.mk HG18; clear gb18 gl18 HG18; obtain ⟨hx18_0, hf18_0⟩ := Kd.R_celln 0 HO171.out (0 : Int) p18 q18; (try rw [show ((0 : Int)).toNat = 0 from rfl] at hx18_0); (try simp only [Nat.reduceMul, Nat.zero_mul, Nat.zero_add, Nat.reduceAdd] at hx18_0); (try rw [show ((0 : Int)).toNat = 0 from rfl] at hf18_0); (try simp only [Nat.reduceMul, Nat.zero_mul, Nat.zero_add, Nat.reduceAdd] at hf18_0); replace p18 := eq_true p18; replace q18 := eq_true q18; obtain ⟨hy22_, hz22_⟩ := Kd.R_celln 0 HO171.out (0 : Int) (by omega) (of_decide_eq_true (by first | (with_reducible assumption) | assumption)); (try simp only [Int.reduceToNat, Int.toNat_zero, Int.toNat_ofNat, Nat.reduceMul, Nat.zero_mul, Nat.zero_add] at hy22_ hz22_); (try rw [show ((0 : Int)).toNat = 0 from rfl] at hy22_); (try rw [show ((0 : Int)).toNat = 0 from rfl] at hz22_); have HP22 := Kd.R_putg HO171.out (0 : Int) a1) | ((with_reducible refine gate_store (t := 3) (p := 27) rfl ?_); (try (rw [drewN_self w20]; generalize hq_ : World.drewN w20 _ = w20; have n0_ := Aside0.mk (Kd.R_at hq_ HO_6.out); have n1_ := Aside0.mk (Kd.R_at hq_ HO171.out); have n2_ := Aside0.mk (blk_at hq_ BK163.out); have n3_ := Aside0.mk (below_at hq_ HB.out); clear hq_ HO_6 HO171 BK163 HB; have HO_6 := n0_; have HO171 := n1_; have BK163 := n2_; have HB := n3_; clear n0_ n1_ n2_ n3_; (try (obtain ⟨hy22_, hz22_⟩ := Kd.R_celln 0 HO171.out (0 : Int) (by omega) (of_decide_eq_true (by first | (with_reducible assumption) | assumption)))); (try (try simp only [Int.reduceToNat, Int.toNat_zero, Int.toNat_ofNat, Nat.reduceMul, Nat.zero_mul, Nat.zero_add] at hy22_ hz22_)); (try (try rw [show ((0 : Int)).toNat = 0 from rfl] at hy22_)); (try (try rw [show ((0 : Int)).toNat = 0 from rfl] at hz22_)); (try (have HP22 := Kd.R_putg HO171.out (0 : Int) a1)))); refine store_event (t := 3) (p := 27) (v := ?vo_w23) (w1 := (w20.setCell ⟨go18, (0 : Int).toNat, none⟩ (.int .i64 a1))) ?hg ?ho ?hn ?hr ?_; (case ho => rfl); (case hg => rfl); (case hn => rfl); (case hr => first | (go_simp; done) | (go_simp; rfl)); intro w23 hw; have hg : w20.grownBy w23 (some go18) := (by rw [hw]; exact HP22.2); have hp_ : Kd.R (Kd.int .i64) 3 w23 w.heap.size (fun _ => True) (.slice (some ⟨go18, 0, none⟩) y169.length co18) y172 := (by rw [hw, Ny172.out]; exact HP22.1); clear HP22; replace HO_6 := Aside0.mk (Kd.R_over' (v := (.slice (some ⟨go18, 0, none⟩) y169.length co18)) (tR HO_6.out) (Kd.R_typed HO171.out) (by decide) hg); replace BK163 := Aside0.mk (blk_grown (g := gb163) (o := .cells #[.slice A0_0 l0_0.length c0_0, .slice A0_1 l0_1.length c0_1] 27 (0, 0)) (tK BK163.out) hg (Kd.R_ne HO171.out BK163.out (by decide))); replace HO171 := Aside0.mk (hp_); replace HB := Aside0.mk ((by rw [hw]; exact below_set (HB.out) GB18.out : Below w.heap.size w w23)); clear hg hw hp_))
       repeat (go_quiet (first | ((with_reducible refine gate_dst (N := 24) rfl ?_); refine Kd.R_make (Kd.int .i64) _ 3 rfl (N := 24) rfl 37 _ _ rfl (l0_0.length : Int) rfl rfl Try.underlying37 (.int .i64 0) 8 info3 rfl (by decide) (by omega) 0 (ok := fun _ => True) (okp := fun _ => True) rfl (fun _ hk => hk) trivial (of_decide_eq_true (by first | (with_reducible assumption) | assumption)) (Nat.le_trans (Nat.mul_le_mul_right _ (of_decide_eq_true (by first | (with_reducible assumption) | assumption) : (l0_0.length : Int).toNat ≤ 35184372088832)) (by omega)) (Below.refl _ _) (Nat.le_refl _) ?_; intro v170 w20 ho21 hb hg_ hnew_; clear hg_ hnew_; (first | rw [← Ny169.out] at ho21 | (simp only [Int.reduceToNat] at ho21; rw [← Ny169.out] at ho21)); replace HO_6 := Aside0.mk (Kd.R_below (tR HO_6.out) hb); have HO171 := Aside0.mk (Kd.R_lower ho21 (below_size (tB HB.out))); replace BK163 := bkB BK163 hb; replace HB := Aside0.mk (below_step (tB HB.out) hb); clear hb ho21; have p18 : 0 ≤ (0 : Int) := (by omega); have q18 : (0 : Int) < ((y169.length : Int) : Int) := of_decide_eq_true (by first | (with_reducible assumption) | assumption); have qi18 : (0 < y169.length) = True := eq_true (by omega); obtain ⟨go18, co18, eo18, gb18, gl18, cl18, HG18⟩ := Kd.R_form HO171.out (by omega); (first | cases eo18 | (injection eo18 with ea_ en_ ec_; (first | subst ea_ | (injection ea_ with ea_; subst ea_)); subst ec_; clear en_)); have GB18 := Aside0.mk gb18; have GG18 := Aside0.mk HG18; clear gb18 gl18 HG18; obtain ⟨hx18_0, hf18_0⟩ := Kd.R_celln 0 HO171.out (0 : Int) p18 q18; (try rw [show ((0 : Int)).toNat = 0 from rfl] at hx18_0); (try simp only [Nat.reduceMul, Nat.zero_mul, Nat.zero_add, Nat.reduceAdd] at hx18_0); (try rw [show ((0 : Int)).toNat = 0 from rfl] at hf18_0); (try simp only [Nat.reduceMul, Nat.zero_mul, Nat.zero_add, Nat.reduceAdd] at hf18_0); replace p18 := eq_true p18; replace q18 := eq_true q18; obtain ⟨hy22_, hz22_⟩ := Kd.R_celln 0 HO171.out (0 : Int) (by omega) (of_decide_eq_true (by first | (with_reducible assumption) | assumption)); (try simp only [Int.reduceToNat, Int.toNat_zero, Int.toNat_ofNat, Nat.reduceMul, Nat.zero_mul, Nat.zero_add] at hy22_ hz22_); (try rw [show ((0 : Int)).toNat = 0 from rfl] at hy22_); (try rw [show ((0 : Int)).toNat = 0 from rfl] at hz22_); have HP22 := Kd.R_putg HO171.out (0 : Int) a1) | ((with_reducible refine gate_store (t := 3) (p := 27) rfl ?_); (try (rw [drewN_self w20]; generalize hq_ : World.drewN w20 _ = w20; have n0_ := Aside0.mk (Kd.R_at hq_ HO_6.out); have n1_ := Aside0.mk (Kd.R_at hq_ HO171.out); have n2_ := Aside0.mk (blk_at hq_ BK163.out); have n3_ := Aside0.mk (below_at hq_ HB.out); clear hq_ HO_6 HO171 BK163 HB; have HO_6 := n0_; have HO171 := n1_; have BK163 := n2_; have HB := n3_; clear n0_ n1_ n2_ n3_; (try (obtain ⟨hy22_, hz22_⟩ := Kd.R_celln 0 HO171.out (0 : Int) (by omega) (of_decide_eq_true (by first | (with_reducible assumption) | assumption)))); (try (try simp only [Int.reduceToNat, Int.toNat_zero, Int.toNat_ofNat, Nat.reduceMul, Nat.zero_mul, Nat.zero_add] at hy22_ hz22_)); (try (try rw [show ((0 : Int)).toNat = 0 from rfl] at hy22_)); (try (try rw [show ((0 : Int)).toNat = 0 from rfl] at hz22_)); (try (have HP22 := Kd.R_putg HO171.out (0 : Int) a1)))); refine store_event (t := 3) (p := 27) (v := ?vo_w23) (w1 := (w20.setCell ⟨go18, (0 : Int).toNat, none⟩ (.int .i64 a1))) ?hg ?ho ?hn ?hr ?_; (case ho => rfl); (case hg => rfl); (case hn => rfl); (case hr => first | (go_simp; done) | (go_simp; rfl)); intro w23 hw; have hg : w20.grownBy w23 (some go18) := (by rw [hw]; exact HP22.2); have hp_ : Kd.R (Kd.int .i64) 3 w23 w.heap.size (fun _ => True) (.slice (some ⟨go18, 0, none⟩) y169.length co18) y172 := (by rw [hw, Ny172.out]; exact HP22.1); clear HP22; replace HO_6 := Aside0.mk (Kd.R_over' (v := (.slice (some ⟨go18, 0, none⟩) y169.length co18)) (tR HO_6.out) (Kd.R_typed HO171.out) (by decide) hg); replace BK163 := Aside0.mk (blk_grown (g := gb163) (o := .cells #[.slice A0_0 l0_0.length c0_0, .slice A0_1 l0_1.length c0_1] 27 (0, 0)) (tK BK163.out) hg (Kd.R_ne HO171.out BK163.out (by decide))); replace HO171 := Aside0.mk (hp_); replace HB := Aside0.mk ((by rw [hw]; exact below_set (HB.out) GB18.out : Below w.heap.size w w23)); clear hg hw hp_)); try go_wp2_with (first | ((with_reducible refine gate_dst (N := 24) rfl ?_); refine Kd.R_make (Kd.int .i64) _ 3 rfl (N := 24) rfl 37 _ _ rfl (l0_0.length : Int) rfl rfl Try.underlying37 (.int .i64 0) 8 info3 rfl (by decide) (by omega) 0 (ok := fun _ => True) (okp := fun _ => True) rfl (fun _ hk => hk) trivial (of_decide_eq_true (by first | (with_reducible assumption) | assumption)) (Nat.le_trans (Nat.mul_le_mul_right _ (of_decide_eq_true (by first | (with_reducible assumption) | assumption) : (l0_0.length : Int).toNat ≤ 35184372088832)) (by omega)) (Below.refl _ _) (Nat.le_refl _) ?_; intro v170 w20 ho21 hb hg_ hnew_; clear hg_ hnew_; (first | rw [← Ny169.out] at ho21 | (simp only [Int.reduceToNat] at ho21; rw [← Ny169.out] at ho21)); replace HO_6 := Aside0.mk (Kd.R_below (tR HO_6.out) hb); have HO171 := Aside0.mk (Kd.R_lower ho21 (below_size (tB HB.out))); replace BK163 := bkB BK163 hb; replace HB := Aside0.mk (below_step (tB HB.out) hb); clear hb ho21; have p18 : 0 ≤ (0 : Int) := (by omega); have q18 : (0 : Int) < ((y169.length : Int) : Int) := of_decide_eq_true (by first | (with_reducible assumption) | assumption); have qi18 : (0 < y169.length) = True := eq_true (by omega); obtain ⟨go18, co18, eo18, gb18, gl18, cl18, HG18⟩ := Kd.R_form HO171.out (by omega); (first | cases eo18 | (injection eo18 with ea_ en_ ec_; (first | subst ea_ | (injection ea_ with ea_; subst ea_)); subst ec_; clear en_)); have GB18 := Aside0.mk gb18; have GG18 := Aside0.mk HG18; clear gb18 gl18 HG18; obtain ⟨hx18_0, hf18_0⟩ := Kd.R_celln 0 HO171.out (0 : Int) p18 q18; (try rw [show ((0 : Int)).toNat = 0 from rfl] at hx18_0); (try simp only [Nat.reduceMul, Nat.zero_mul, Nat.zero_add, Nat.reduceAdd] at hx18_0); (try rw [show ((0 : Int)).toNat = 0 from rfl] at hf18_0); (try simp only [Nat.reduceMul, Nat.zero_mul, Nat.zero_add, Nat.reduceAdd] at hf18_0); replace p18 := eq_true p18; replace q18 := eq_true q18; obtain ⟨hy22_, hz22_⟩ := Kd.R_celln 0 HO171.out (0 : Int) (by omega) (of_decide_eq_true (by first | (with_reducible assumption) | assumption)); (try simp only [Int.reduceToNat, Int.toNat_zero, Int.toNat_ofNat, Nat.reduceMul, Nat.zero_mul, Nat.zero_add] at hy22_ hz22_); (try rw [show ((0 : Int)).toNat = 0 from rfl] at hy22_); (try rw [show ((0 : Int)).toNat = 0 from rfl] at hz22_); have HP22 := Kd.R_putg HO171.out (0 : Int) a1) | ((with_reducible refine gate_store (t := 3) (p := 27) rfl ?_); (try (rw [drewN_self w20]; generalize hq_ : World.drewN w20 _ = w20; have n0_ := Aside0.mk (Kd.R_at hq_ HO_6.out); have n1_ := Aside0.mk (Kd.R_at hq_ HO171.out); have n2_ := Aside0.mk (blk_at hq_ BK163.out); have n3_ := Aside0.mk (below_at hq_ HB.out); clear hq_ HO_6 HO171 BK163 HB; have HO_6 := n0_; have HO171 := n1_; have BK163 := n2_; have HB := n3_; clear n0_ n1_ n2_ n3_; (try (obtain ⟨hy22_, hz22_⟩ := Kd.R_celln 0 HO171.out (0 : Int) (by omega) (of_decide_eq_true (by first | (with_reducible assumption) | assumption)))); (try (try simp only [Int.reduceToNat, Int.toNat_zero, Int.toNat_ofNat, Nat.reduceMul, Nat.zero_mul, Nat.zero_add] at hy22_ hz22_)); (try (try rw [show ((0 : Int)).toNat = 0 from rfl] at hy22_)); (try (try rw [show ((0 : Int)).toNat = 0 from rfl] at hz22_)); (try (have HP22 := Kd.R_putg HO171.out (0 : Int) a1)))); refine store_event (t := 3) (p := 27) (v := ?vo_w23) (w1 := (w20.setCell ⟨go18, (0 : Int).toNat, none⟩ (.int .i64 a1))) ?hg ?ho ?hn ?hr ?_; (case ho => rfl); (case hg => rfl); (case hn => rfl); (case hr => first | (go_simp; done) | (go_simp; rfl)); intro w23 hw; have hg : w20.grownBy w23 (some go18) := (by rw [hw]; exact HP22.2); have hp_ : Kd.R (Kd.int .i64) 3 w23 w.heap.size (fun _ => True) (.slice (some ⟨go18, 0, none⟩) y169.length co18) y172 := (by rw [hw, Ny172.out]; exact HP22.1); clear HP22; replace HO_6 := Aside0.mk (Kd.R_over' (v := (.slice (some ⟨go18, 0, none⟩) y169.length co18)) (tR HO_6.out) (Kd.R_typed HO171.out) (by decide) hg); replace BK163 := Aside0.mk (blk_grown (g := gb163) (o := .cells #[.slice A0_0 l0_0.length c0_0, .slice A0_1 l0_1.length c0_1] 27 (0, 0)) (tK BK163.out) hg (Kd.R_ne HO171.out BK163.out (by decide))); replace HO171 := Aside0.mk (hp_); replace HB := Aside0.mk ((by rw [hw]; exact below_set (HB.out) GB18.out : Below w.heap.size w w23)); clear hg hw hp_)))
       go_loopg [6, 8] kj2 (fun kq v6 v8 w' => ∃ (x6_2 : List (S67)) (x7_2 : List Int) (x8_2 : Int), v8 = .int .i64 x8_2 ∧ Aside0 (spec_LeafRow.l0 kq x6_2 x7_2 x8_2 l0_0 l0_1 = some (r1, r2)) ∧ Aside0 (kq ≤ kj2) ∧ Aside0 (Kd.R k67 67 w' w.heap.size (fun _ => True) v6 x6_2) ∧ Aside0 (Kd.R (Kd.int .i64) 3 w' w.heap.size (fun _ => True) (.slice (some ⟨go18, 0, none⟩) y169.length co18) x7_2) ∧ Aside0 (w'.heap[gb163]? = some (.cells #[(.slice A0_0 l0_0.length c0_0), (.slice A0_1 l0_1.length c0_1)] 27 (0, 0))) ∧ Aside0 (Below w.heap.size w w'))
       case atStart => exact ⟨(y164), (y172), (0), (by first | rfl | (simp; done) | (simp [wrap64]; done) | (simp [*]; done)), H', ⟨Nat.le_refl _⟩, ⟨tR HO_6.out⟩, ⟨tR HO171.out⟩, ⟨tK BK163.out⟩, ⟨tB HB.out⟩⟩
       case round =>
        clear H'
        try clear c1
        try clear p1
        try clear q1
        try clear hx1
        try clear qi1
        try clear p2
        try clear c3
        try clear p6
        try clear c8
        try clear c14
        try clear c15
        try clear c15b0
        try clear c15b1
        try clear c16
        try clear c16b0
        try clear c16b1
        try clear c17
        try clear c17b0
        try clear c17b1
        try clear p18
        try clear q18
        try clear hx18
        try clear qi18
        try clear hf18
        try clear hcz10_0
        try clear hcz10_1
        try clear hcz12_0
        try clear hcz12_1
        try clear hcz19_0
        try clear hcz19_1
        try clear hfz10_0
        try clear hfz10_1
        try clear hfz12_0
        try clear hfz12_1
        try clear hfz19_0
        try clear hfz19_1
        try clear hx18_0
        try clear p18
        try clear p2
        try clear p6
        try clear q18
        obtain ⟨x6_2, x7_2, x8_2, rfl, HA, HK2, HO_6, HO_7, BK163, HB⟩ := hrel
        have hl7_2 := (Kd.R_reads' HO_7.out).1
        rw [hl7_2] at HO_7
        (try simp only [hl7_2])
        (try simp only [hl7_2] at BK163)
        (try simp only [hl7_2] at HO_6)
        cases gk with
        | zero => exact absurd HA.out (by simp [spec_LeafRow.l0])
        | succ k2 =>
         have H := HA.out
         clear HA
         simp only [spec_LeafRow.l0] at H
         by_cases c24 : x8_2 < (l0_0.length : Int)
         ·
          rw [if_pos c24] at H
          have c24b0 : decide (x8_2 < (l0_0.length : Int)) = true := decide_eq_true c24
          clear c24
          have H' := Aside0.mk H
          clear H
          obtain ⟨hcz25_0, hfz25_0, hcz25_1, hfz25_1⟩ := cz2 BK163
          go_wp2
          repeat (go_quiet (fail); try go_wp2)
          go_loopg [6, 9] k2 (fun kq v6 v9 w' => ∃ (x6_3 : List (S67)) (x7_3 : List Int) (x9_3 : Int), v9 = .int .i64 x9_3 ∧ Aside0 (spec_LeafRow.l1 kq x6_3 x7_3 x8_2 x9_3 l0_0 l0_1 = some (r1, r2)) ∧ Aside0 (kq ≤ k2) ∧ Aside0 (Kd.R k67 67 w' w.heap.size (fun _ => True) v6 x6_3) ∧ Aside0 (Kd.R (Kd.int .i64) 3 w' w.heap.size (fun _ => True) (.slice (some ⟨go18, 0, none⟩) x7_2.length co18) x7_3) ∧ Aside0 (w'.heap[gb163]? = some (.cells #[(.slice A0_0 l0_0.length c0_0), (.slice A0_1 l0_1.length c0_1)] 27 (0, 0))) ∧ Aside0 (Below w.heap.size w w'))
          case atStart => exact ⟨(x6_2), (x7_2), (0), (by first | rfl | (simp; done) | (simp [wrap64]; done) | (simp [*]; done)), H', ⟨Nat.le_refl _⟩, ⟨by (try simp only [hl7_2]); (with_reducible repeat (first | apply Kd.R_alloc | apply Kd.R_drewN | apply Kd.R_drew)); exact HO_6.out⟩, ⟨by (try simp only [hl7_2]); (with_reducible repeat (first | apply Kd.R_alloc | apply Kd.R_drewN | apply Kd.R_drew)); exact HO_7.out⟩, ⟨by (try simp only [hl7_2]); (with_reducible repeat (first | refine blk_drewN ?_ _ | refine blk_drew ?_ | refine blk_alloc ?_ _)); exact BK163.out⟩, ⟨tB HB.out⟩⟩
          case round =>
           clear H'
           try clear c1
           try clear p1
           try clear q1
           try clear hx1
           try clear qi1
           try clear c2
           try clear p2
           try clear c3
           try clear p6
           try clear c8
           try clear c14
           try clear c15
           try clear c15b0
           try clear c15b1
           try clear c16
           try clear c16b0
           try clear c16b1
           try clear c17
           try clear c17b0
           try clear c17b1
           try clear p18
           try clear q18
           try clear hx18
           try clear qi18
           try clear hf18
           try clear c24
           try clear c24b0
           try clear hcz10_0
           try clear hcz10_1
           try clear hcz12_0
           try clear hcz12_1
           try clear hcz19_0
           try clear hcz19_1
           try clear hcz25_0
           try clear hcz25_1
           try clear hfz10_0
           try clear hfz10_1
           try clear hfz12_0
           try clear hfz12_1
           try clear hfz19_0
           try clear hfz19_1
           try clear hfz25_0
           try clear hfz25_1
           try clear hx18_0
           try clear p1
           try clear p18
           try clear p2
           try clear p6
           try clear q1
           try clear q18
           obtain ⟨x6_3, x7_3, x9_3, rfl, HA, HK3, HO_6, HO_7, BK163, HB⟩ := hrel
           have hl7_3 := (Kd.R_reads' HO_7.out).1
           rw [hl7_3] at HO_7
           (try simp only [hl7_3])
           (try simp only [hl7_3] at BK163)
           (try simp only [hl7_3] at HO_6)
           cases gk with
           | zero => exact absurd HA.out (by simp [spec_LeafRow.l1])
           | succ k3 =>
            have H := HA.out
            clear HA
            simp only [spec_LeafRow.l1] at H
            by_cases c26 : x9_3 < 2
            ·
             rw [if_pos c26] at H
             have c26b0 : decide (x9_3 < 2) = true := decide_eq_true c26
             clear c26
             by_cases c27 : 0 ≤ x8_2
             ·
              rw [if_pos c27] at H
              have c27b0 : decide (0 ≤ x8_2) = true := decide_eq_true c27
              clear c27
              by_cases c28 : x8_2 < (x7_3.length : Int)
              ·
               rw [if_pos c28] at H
               have c28b0 : decide (x8_2 < (x7_3.length : Int)) = true := decide_eq_true c28
               clear c28
               by_cases c29 : x8_2 < (l0_0.length : Int)
               ·
                rw [if_pos c29] at H
                have c29b0 : decide (x8_2 < (l0_0.length : Int)) = true := decide_eq_true c29
                clear c29
                by_cases c30 : x9_3 = 0
                ·
                 subst c30
                 have H1 : (if x8_2 < (l0_1.length : Int) then (if ((rd_T58 l0_1 x8_2).f0) < 0 then (if 0 ≤ (wrap64 (-((rd_T58 l0_1 x8_2).f0))) then (if (wrap64 (-((rd_T58 l0_1 x8_2).f0))) < (x7_3.length : Int) then (spec_LeafRow.l1 k3 x6_3 (x7_3.set ((wrap64 (-((rd_T58 l0_1 x8_2).f0))) : Int).toNat (wrap64 ((rd x7_3 x8_2) + (wrap64 (-((rd_T58 l0_0 x8_2).f0)))))) x8_2 (wrap64 (0 + 1)) l0_0 l0_1) else (none)) else (none)) else ((spec_l2In.f (wrap64 ((rd x7_3 x8_2) + (wrap64 (-((rd_T58 l0_0 x8_2).f0)))))).bind fun t178 => (if t178 = true then (if x6_3.length < 8796093022208 then (spec_LeafRow.l1 k3 (x6_3 ++ [(⟨wrap64 ((rd x7_3 x8_2) + (wrap64 (-((rd_T58 l0_0 x8_2).f0)))), (rd_T58 l0_1 x8_2).f0⟩ : S67)]) x7_3 x8_2 (wrap64 (0 + 1)) l0_0 l0_1) else (none)) else (some ((([] : List (S67))), false))))) else (none)) = some (r1, r2) := by rw [if_pos rfl] at H; (try simp only [hv0_, hv1_] at H); exact H
                 clear H
                 have H := H1
                 clear H1
                 by_cases c31 : x8_2 < (l0_1.length : Int)
                 ·
                  rw [if_pos c31] at H
                  have c31b0 : decide (x8_2 < (l0_1.length : Int)) = true := decide_eq_true c31
                  clear c31
                  by_cases c32 : ((rd_T58 l0_1 x8_2).f0) < 0
                  ·
                   rw [if_pos c32] at H
                   have c32b0 : decide (((rd_T58 l0_1 x8_2).f0) < 0) = true := decide_eq_true c32
                   clear c32
                   obtain ⟨ji33, hji33⟩ : ∃ j_ : Int, (wrap64 (-((rd_T58 l0_1 x8_2).f0))) = j_ := ⟨_, rfl⟩
                   replace H : (if 0 ≤ (ji33) then (if (ji33) < (x7_3.length : Int) then (spec_LeafRow.l1 k3 x6_3 (x7_3.set ((ji33) : Int).toNat (wrap64 ((rd x7_3 x8_2) + (wrap64 (-((rd_T58 l0_0 x8_2).f0)))))) x8_2 (wrap64 (0 + 1)) l0_0 l0_1) else (none)) else (none)) = some (r1, r2) := by first | (rw [hji33] at H; exact H) | (simp only [hji33] at H ⊢; exact H)
                   have hji33w : (IntKind.i64.wrap (-((rd_T58 l0_1 x8_2).f0))) = ji33 := (i64_w _).trans hji33
                   by_cases c34 : 0 ≤ (ji33)
                   ·
                    rw [if_pos c34] at H
                    have c34b0 : decide (0 ≤ (ji33)) = true := decide_eq_true c34
                    clear c34
                    by_cases c35 : (ji33) < (x7_3.length : Int)
                    ·
                     rw [if_pos c35] at H
                     have c35b0 : decide ((ji33) < (x7_3.length : Int)) = true := decide_eq_true c35
                     clear c35
                     obtain ⟨y177, hy177⟩ : ∃ y_ : List Int, y_ = (x7_3.set ((ji33) : Int).toNat (wrap64 ((rd x7_3 x8_2) + (wrap64 (-((rd_T58 l0_0 x8_2).f0)))))) := ⟨_, rfl⟩
                     replace H : (spec_LeafRow.l1 k3 x6_3 y177 x8_2 (wrap64 (0 + 1)) l0_0 l0_1) = some (r1, r2) := by first | (rw [hy177]; with_reducible exact H) | (have H2_ := (Option.bind_some _ _).symm.trans H; rw [hy177]; with_reducible exact H2_) | (have H2_ := (Option.bind_some _ _).symm.trans H; with_reducible exact H2_) | with_reducible exact H | (rw [hy177]; exact H) | exact H
                     have Ny177 := Aside0.mk hy177
                     clear hy177
                     have H' := Aside0.mk H
                     clear H
                     have p173 : 0 ≤ (x8_2 : Int) := of_decide_eq_true (by first | (with_reducible assumption) | assumption)
                     have q173 : x8_2 < (x7_3.length : Int) := of_decide_eq_true (by first | (with_reducible assumption) | assumption)
                     obtain ⟨ad173, e173, hx173_0⟩ := Kd.at_int (Kd.R_reads' HO_7.out).2.2 x8_2 p173 q173
                     obtain rfl : (⟨go18, 0, none⟩ : Addr) = ad173 := (by injection e173)
                     (first | simp only [add_plain] at hx173_0 | simp only [add_at] at hx173_0 | simp only [Addr.add, Nat.zero_add] at hx173_0 | skip)
                     replace p173 := eq_true p173
                     replace q173 := eq_true q173
                     obtain ⟨hcz37_0, hfz37_0, hcz37_1, hfz37_1⟩ := cz2 BK163
                     have p174 : 0 ≤ (x8_2 : Int) := of_decide_eq_true (by first | (with_reducible assumption) | assumption)
                     have q174 : x8_2 < (l0_0.length : Int) := of_decide_eq_true (by first | (with_reducible assumption) | assumption)
                     obtain ⟨ad174, e174, hx174_0, hx174_1⟩ := at_T58 HR0_0.out x8_2 p174 q174
                     cases e174
                     replace hx174_0 := (HB.out.cell (World.block_lt_of_cell? w _ hx174_0)).trans hx174_0
                     replace hx174_1 := (HB.out.cell (World.block_lt_of_cell? w _ hx174_1)).trans hx174_1
                     replace p174 := eq_true p174
                     replace q174 := eq_true q174
                     have p175 : 0 ≤ (x8_2 : Int) := of_decide_eq_true (by first | (with_reducible assumption) | assumption)
                     have q175 : x8_2 < (l0_1.length : Int) := of_decide_eq_true (by first | (with_reducible assumption) | assumption)
                     obtain ⟨ad175, e175, hx175_0, hx175_1⟩ := at_T58 HR0_1.out x8_2 p175 q175
                     cases e175
                     replace hx175_0 := (HB.out.cell (World.block_lt_of_cell? w _ hx175_0)).trans hx175_0
                     replace hx175_1 := (HB.out.cell (World.block_lt_of_cell? w _ hx175_1)).trans hx175_1
                     replace p175 := eq_true p175
                     replace q175 := eq_true q175
                     have p176 : 0 ≤ (x8_2 : Int) := of_decide_eq_true (by first | (with_reducible assumption) | assumption)
                     have q176 : x8_2 < (l0_1.length : Int) := of_decide_eq_true (by first | (with_reducible assumption) | assumption)
                     obtain ⟨ad176, e176, hx176_0, hx176_1⟩ := at_T58 HR0_1.out x8_2 p176 q176
                     obtain rfl : ad175 = ad176 := (by injection e176)
                     replace hx176_0 := (HB.out.cell (World.block_lt_of_cell? w _ hx176_0)).trans hx176_0
                     replace hx176_1 := (HB.out.cell (World.block_lt_of_cell? w _ hx176_1)).trans hx176_1
                     replace p176 := eq_true p176
                     replace q176 := eq_true q176
                     have p36 : 0 ≤ ((ji33) : Int) := of_decide_eq_true (by first | (with_reducible assumption) | assumption)
                     have q36 : ((ji33) : Int) < ((x7_3.length : Int) : Int) := of_decide_eq_true (by first | (with_reducible assumption) | assumption)
                     obtain ⟨hx36_0, hf36_0⟩ := Kd.R_celln 0 HO_7.out ((ji33) : Int) p36 q36
                     replace p36 := eq_true p36
                     replace q36 := eq_true q36
                     have HP38 := Kd.R_putg HO_7.out ((ji33) : Int) (wrap64 ((rd x7_3 x8_2) + (wrap64 (-((rd_T58 l0_0 x8_2).f0)))))
                     go_wp2_with (first | ((with_reducible refine gate_store (t := 3) (p := 73) rfl ?_); (try (rw [drewN_self wr]; generalize hq_ : World.drewN wr _ = wr; have n0_ := Aside0.mk (Kd.R_at hq_ HO_6.out); have n1_ := Aside0.mk (Kd.R_at hq_ HO_7.out); have n2_ := Aside0.mk (blk_at hq_ BK163.out); have n3_ := Aside0.mk (below_at hq_ HB.out); clear hq_ HO_6 HO_7 BK163 HB; have HO_6 := n0_; have HO_7 := n1_; have BK163 := n2_; have HB := n3_; clear n0_ n1_ n2_ n3_; (try (obtain ⟨hx36_0, hf36_0⟩ := Kd.R_celln 0 HO_7.out ((ji33) : Int) (of_eq_true p36) (of_eq_true q36))); (try (have HP38 := Kd.R_putg HO_7.out ((ji33) : Int) (wrap64 ((rd x7_3 x8_2) + (wrap64 (-((rd_T58 l0_0 x8_2).f0))))))))); refine store_event (t := 3) (p := 73) (v := ?vo_w39) (w1 := (wr.setCell ⟨go18, ((ji33) : Int).toNat, none⟩ (.int .i64 (wrap64 ((rd x7_3 x8_2) + (wrap64 (-((rd_T58 l0_0 x8_2).f0)))))))) ?hg ?ho ?hn ?hr ?_; (case ho => rfl); (case hg => rfl); (case hn => rfl); (case hr => first | (go_simp; done) | (go_simp; rfl)); intro w39 hw; have hg : wr.grownBy w39 (some go18) := (by rw [hw]; exact HP38.2); have hp_ : Kd.R (Kd.int .i64) 3 w39 w.heap.size (fun _ => True) (.slice (some ⟨go18, 0, none⟩) x7_3.length co18) y177 := (by rw [hw, Ny177.out]; exact HP38.1); clear HP38; replace HO_6 := Aside0.mk (Kd.R_over' (v := (.slice (some ⟨go18, 0, none⟩) x7_3.length co18)) (tR HO_6.out) (Kd.R_typed HO_7.out) (by decide) hg); replace BK163 := Aside0.mk (blk_grown (g := gb163) (o := .cells #[.slice (some ad174) l0_0.length c0_0, .slice (some ad175) l0_1.length c0_1] 27 (0, 0)) (tK BK163.out) hg (Kd.R_ne HO_7.out BK163.out (by decide))); replace HO_7 := Aside0.mk (hp_); replace HB := Aside0.mk ((by rw [hw]; exact below_set (HB.out) GB18.out : Below w.heap.size w w39)); clear hg hw hp_))
                     repeat (go_quiet (first | ((with_reducible refine gate_store (t := 3) (p := 73) rfl ?_); (try (rw [drewN_self wr]; generalize hq_ : World.drewN wr _ = wr; have n0_ := Aside0.mk (Kd.R_at hq_ HO_6.out); have n1_ := Aside0.mk (Kd.R_at hq_ HO_7.out); have n2_ := Aside0.mk (blk_at hq_ BK163.out); have n3_ := Aside0.mk (below_at hq_ HB.out); clear hq_ HO_6 HO_7 BK163 HB; have HO_6 := n0_; have HO_7 := n1_; have BK163 := n2_; have HB := n3_; clear n0_ n1_ n2_ n3_; (try (obtain ⟨hx36_0, hf36_0⟩ := Kd.R_celln 0 HO_7.out ((ji33) : Int) (of_eq_true p36) (of_eq_true q36))); (try (have HP38 := Kd.R_putg HO_7.out ((ji33) : Int) (wrap64 ((rd x7_3 x8_2) + (wrap64 (-((rd_T58 l0_0 x8_2).f0))))))))); refine store_event (t := 3) (p := 73) (v := ?vo_w39) (w1 := (wr.setCell ⟨go18, ((ji33) : Int).toNat, none⟩ (.int .i64 (wrap64 ((rd x7_3 x8_2) + (wrap64 (-((rd_T58 l0_0 x8_2).f0)))))))) ?hg ?ho ?hn ?hr ?_; (case ho => rfl); (case hg => rfl); (case hn => rfl); (case hr => first | (go_simp; done) | (go_simp; rfl)); intro w39 hw; have hg : wr.grownBy w39 (some go18) := (by rw [hw]; exact HP38.2); have hp_ : Kd.R (Kd.int .i64) 3 w39 w.heap.size (fun _ => True) (.slice (some ⟨go18, 0, none⟩) x7_3.length co18) y177 := (by rw [hw, Ny177.out]; exact HP38.1); clear HP38; replace HO_6 := Aside0.mk (Kd.R_over' (v := (.slice (some ⟨go18, 0, none⟩) x7_3.length co18)) (tR HO_6.out) (Kd.R_typed HO_7.out) (by decide) hg); replace BK163 := Aside0.mk (blk_grown (g := gb163) (o := .cells #[.slice (some ad174) l0_0.length c0_0, .slice (some ad175) l0_1.length c0_1] 27 (0, 0)) (tK BK163.out) hg (Kd.R_ne HO_7.out BK163.out (by decide))); replace HO_7 := Aside0.mk (hp_); replace HB := Aside0.mk ((by rw [hw]; exact below_set (HB.out) GB18.out : Below w.heap.size w w39)); clear hg hw hp_)); try go_wp2_with (first | ((with_reducible refine gate_store (t := 3) (p := 73) rfl ?_); (try (rw [drewN_self wr]; generalize hq_ : World.drewN wr _ = wr; have n0_ := Aside0.mk (Kd.R_at hq_ HO_6.out); have n1_ := Aside0.mk (Kd.R_at hq_ HO_7.out); have n2_ := Aside0.mk (blk_at hq_ BK163.out); have n3_ := Aside0.mk (below_at hq_ HB.out); clear hq_ HO_6 HO_7 BK163 HB; have HO_6 := n0_; have HO_7 := n1_; have BK163 := n2_; have HB := n3_; clear n0_ n1_ n2_ n3_; (try (obtain ⟨hx36_0, hf36_0⟩ := Kd.R_celln 0 HO_7.out ((ji33) : Int) (of_eq_true p36) (of_eq_true q36))); (try (have HP38 := Kd.R_putg HO_7.out ((ji33) : Int) (wrap64 ((rd x7_3 x8_2) + (wrap64 (-((rd_T58 l0_0 x8_2).f0))))))))); refine store_event (t := 3) (p := 73) (v := ?vo_w39) (w1 := (wr.setCell ⟨go18, ((ji33) : Int).toNat, none⟩ (.int .i64 (wrap64 ((rd x7_3 x8_2) + (wrap64 (-((rd_T58 l0_0 x8_2).f0)))))))) ?hg ?ho ?hn ?hr ?_; (case ho => rfl); (case hg => rfl); (case hn => rfl); (case hr => first | (go_simp; done) | (go_simp; rfl)); intro w39 hw; have hg : wr.grownBy w39 (some go18) := (by rw [hw]; exact HP38.2); have hp_ : Kd.R (Kd.int .i64) 3 w39 w.heap.size (fun _ => True) (.slice (some ⟨go18, 0, none⟩) x7_3.length co18) y177 := (by rw [hw, Ny177.out]; exact HP38.1); clear HP38; replace HO_6 := Aside0.mk (Kd.R_over' (v := (.slice (some ⟨go18, 0, none⟩) x7_3.length co18)) (tR HO_6.out) (Kd.R_typed HO_7.out) (by decide) hg); replace BK163 := Aside0.mk (blk_grown (g := gb163) (o := .cells #[.slice (some ad174) l0_0.length c0_0, .slice (some ad175) l0_1.length c0_1] 27 (0, 0)) (tK BK163.out) hg (Kd.R_ne HO_7.out BK163.out (by decide))); replace HO_7 := Aside0.mk (hp_); replace HB := Aside0.mk ((by rw [hw]; exact below_set (HB.out) GB18.out : Below w.heap.size w w39)); clear hg hw hp_)))
                     (try simp only [← hl7_3])
                     go_roundg k3
                     case measure => have := HJ2.out; have := HK2.out; have := HK3.out; omega
                     case rel => exact ⟨(x6_3), (y177), (wrap64 (0 + 1)), (by first | rfl | (simp; done) | (simp [wrap64]; done) | (simp [*]; done)), H', ⟨by have := HJ2.out; have := HK2.out; have := HK3.out; omega⟩, ⟨by (try simp only [hl7_2]); (try simp only [hl7_3]); (with_reducible repeat (first | apply Kd.R_alloc | apply Kd.R_drewN | apply Kd.R_drew)); exact HO_6.out⟩, ⟨by (try simp only [hl7_2]); (try simp only [hl7_3]); (with_reducible repeat (first | apply Kd.R_alloc | apply Kd.R_drewN | apply Kd.R_drew)); exact HO_7.out⟩, ⟨by (try simp only [hl7_2]); (try simp only [hl7_3]); (with_reducible repeat (first | refine blk_drewN ?_ _ | refine blk_drew ?_ | refine blk_alloc ?_ _)); exact BK163.out⟩, ⟨tB HB.out⟩⟩
                    ·
                     rw [if_neg c35] at H
                     exact absurd H (by simp)
                   ·
                    rw [if_neg c34] at H
                    exact absurd H (by simp)
                  ·
                   rw [if_neg c32] at H
                   have c32b0 : decide (((rd_T58 l0_1 x8_2).f0) < 0) = false := decide_eq_false c32
                   clear c32
                   replace H := Option.bind_eq_some_iff.mp H
                   obtain ⟨t178, A400, H⟩ := H
                   replace H : (if t178 = true then (if x6_3.length < 8796093022208 then (spec_LeafRow.l1 k3 (x6_3 ++ [(⟨wrap64 ((rd x7_3 x8_2) + (wrap64 (-((rd_T58 l0_0 x8_2).f0)))), (rd_T58 l0_1 x8_2).f0⟩ : S67)]) x7_3 x8_2 (wrap64 (0 + 1)) l0_0 l0_1) else (none)) else (some ((([] : List (S67))), false))) = some (r1, r2) := H
                   have A40 := Aside0.mk A400
                   clear A400
                   by_cases c41 : t178 = true
                   ·
                    subst c41
                    have H1 : (if x6_3.length < 8796093022208 then (spec_LeafRow.l1 k3 (x6_3 ++ [(⟨wrap64 ((rd x7_3 x8_2) + (wrap64 (-((rd_T58 l0_0 x8_2).f0)))), (rd_T58 l0_1 x8_2).f0⟩ : S67)]) x7_3 x8_2 (wrap64 (0 + 1)) l0_0 l0_1) else (none)) = some (r1, r2) := by rw [if_pos rfl] at H; (try simp only [hv0_, hv1_] at H); exact H
                    clear H
                    have H := H1
                    clear H1
                    by_cases c42 : x6_3.length < 8796093022208
                    ·
                     rw [if_pos c42] at H
                     have LMc42 := Aside0.mk c42
                     clear c42
                     obtain ⟨y180, hy180⟩ : ∃ y_ : List (S67), y_ = (x6_3 ++ [(⟨wrap64 ((rd x7_3 x8_2) + (wrap64 (-((rd_T58 l0_0 x8_2).f0)))), (rd_T58 l0_1 x8_2).f0⟩ : S67)]) := ⟨_, rfl⟩
                     replace H : (spec_LeafRow.l1 k3 y180 x7_3 x8_2 (wrap64 (0 + 1)) l0_0 l0_1) = some (r1, r2) := by first | (rw [hy180]; with_reducible exact H) | (have H2_ := (Option.bind_some _ _).symm.trans H; rw [hy180]; with_reducible exact H2_) | (have H2_ := (Option.bind_some _ _).symm.trans H; with_reducible exact H2_) | with_reducible exact H | (rw [hy180]; exact H) | exact H
                     have Ny180 := Aside0.mk hy180
                     clear hy180
                     have H' := Aside0.mk H
                     clear H
                     have p173 : 0 ≤ (x8_2 : Int) := of_decide_eq_true (by first | (with_reducible assumption) | assumption)
                     have q173 : x8_2 < (x7_3.length : Int) := of_decide_eq_true (by first | (with_reducible assumption) | assumption)
                     obtain ⟨ad173, e173, hx173_0⟩ := Kd.at_int (Kd.R_reads' HO_7.out).2.2 x8_2 p173 q173
                     obtain rfl : (⟨go18, 0, none⟩ : Addr) = ad173 := (by injection e173)
                     (first | simp only [add_plain] at hx173_0 | simp only [add_at] at hx173_0 | simp only [Addr.add, Nat.zero_add] at hx173_0 | skip)
                     replace p173 := eq_true p173
                     replace q173 := eq_true q173
                     obtain ⟨hcz43_0, hfz43_0, hcz43_1, hfz43_1⟩ := cz2 BK163
                     have p174 : 0 ≤ (x8_2 : Int) := of_decide_eq_true (by first | (with_reducible assumption) | assumption)
                     have q174 : x8_2 < (l0_0.length : Int) := of_decide_eq_true (by first | (with_reducible assumption) | assumption)
                     obtain ⟨ad174, e174, hx174_0, hx174_1⟩ := at_T58 HR0_0.out x8_2 p174 q174
                     cases e174
                     replace hx174_0 := (HB.out.cell (World.block_lt_of_cell? w _ hx174_0)).trans hx174_0
                     replace hx174_1 := (HB.out.cell (World.block_lt_of_cell? w _ hx174_1)).trans hx174_1
                     replace p174 := eq_true p174
                     replace q174 := eq_true q174
                     have p175 : 0 ≤ (x8_2 : Int) := of_decide_eq_true (by first | (with_reducible assumption) | assumption)
                     have q175 : x8_2 < (l0_1.length : Int) := of_decide_eq_true (by first | (with_reducible assumption) | assumption)
                     obtain ⟨ad175, e175, hx175_0, hx175_1⟩ := at_T58 HR0_1.out x8_2 p175 q175
                     cases e175
                     replace hx175_0 := (HB.out.cell (World.block_lt_of_cell? w _ hx175_0)).trans hx175_0
                     replace hx175_1 := (HB.out.cell (World.block_lt_of_cell? w _ hx175_1)).trans hx175_1
                     replace p175 := eq_true p175
                     replace q175 := eq_true q175
                     go_wp2_with (first | (go_at_call 76; (with_reducible refine (spec_l2In.calls (wrap64 ((rd x7_3 x8_2) + (wrap64 (-((rd_T58 l0_0 x8_2).f0))))) true _ A40.out).mono ?_); rintro e w' ⟨rfl, ⟨nd, rfl⟩⟩; (try first | exact ⟨rfl, _, World.drewN_drewN _ _ _⟩ | exact ⟨rfl, _, Eq.trans (World.drewN_drewN _ _ _) (congrArg (World.drewN _) (Nat.add_assoc _ _ _))⟩); have p179 : 0 ≤ (x8_2 : Int) := of_decide_eq_true (by first | (with_reducible assumption) | assumption); have q179 : x8_2 < (l0_1.length : Int) := of_decide_eq_true (by first | (with_reducible assumption) | assumption); obtain ⟨ad179, e179, hx179_0, hx179_1⟩ := at_T58 HR0_1.out x8_2 p179 q179; obtain rfl : ad175 = ad179 := (by injection e179); replace hx179_0 := (HB.out.cell (World.block_lt_of_cell? w _ hx179_0)).trans hx179_0; replace hx179_1 := (HB.out.cell (World.block_lt_of_cell? w _ hx179_1)).trans hx179_1; replace p179 := eq_true p179; replace q179 := eq_true q179) | ((with_reducible refine gate_builtin (b := .append) (xs := #[.tmp 78, .tmp 88]) rfl ?_); at_builtin; refine Kd.R_append k67 (w0 := w) w.heap.size rfl (.tmp 78) (.tmp 88) 44 67 (.agg #[(.int .i64 0), (.int .i64 0)]) 16 rfl Try.underlying44 info67 rfl (by decide) (by omega) u6 x6_3 (⟨wrap64 ((rd x7_3 x8_2) + (wrap64 (-((rd_T58 l0_0 x8_2).f0)))), (rd_T58 l0_1 x8_2).f0⟩ : S67) [.int .i64 (wrap64 ((rd x7_3 x8_2) + (wrap64 (-((rd_T58 l0_0 x8_2).f0))))), .int .i64 ((rd_T58 l0_1 x8_2).f0)] (fun _ => True) (fun _ => False) rfl rfl ?aP (fun _ hk => hk.elim) ?aF ?aO ?aB ?aS ?aL ?_; (case aP => exact k67_mkM _ _ _ (⟨wrap64 ((rd x7_3 x8_2) + (wrap64 (-((rd_T58 l0_0 x8_2).f0)))), (rd_T58 l0_1 x8_2).f0⟩ : S67)); (case aB => exact (tB HB.out)); (case aF => exact (fun _ _ => trivial)); (case aO => exact (tR HO_6.out)); (case aS => exact (below_size (tB HB.out))); (case aL => have := LMc42.out; omega); intro v181 w44 ho hb hg hat; rw [← Ny180.out] at ho; replace HO_7 := Aside0.mk (Kd.R_over' (tR HO_7.out) (Kd.R_typed (tR HO_6.out)) (by decide) hg); replace BK163 := Aside0.mk (blk_grown (g := gb163) (o := .cells #[.slice (some ad174) l0_0.length c0_0, .slice (some ad175) l0_1.length c0_1] 27 (0, 0)) (tK BK163.out) hg (Kd.R_ne HO_6.out BK163.out (by decide))); replace HB := Aside0.mk (hb); have HO182 := Aside0.mk (ho); clear HO_6; clear ho hb hg hat))
                     repeat (go_quiet (first | (go_at_call 76; (with_reducible refine (spec_l2In.calls (wrap64 ((rd x7_3 x8_2) + (wrap64 (-((rd_T58 l0_0 x8_2).f0))))) true _ A40.out).mono ?_); rintro e w' ⟨rfl, ⟨nd, rfl⟩⟩; (try first | exact ⟨rfl, _, World.drewN_drewN _ _ _⟩ | exact ⟨rfl, _, Eq.trans (World.drewN_drewN _ _ _) (congrArg (World.drewN _) (Nat.add_assoc _ _ _))⟩); have p179 : 0 ≤ (x8_2 : Int) := of_decide_eq_true (by first | (with_reducible assumption) | assumption); have q179 : x8_2 < (l0_1.length : Int) := of_decide_eq_true (by first | (with_reducible assumption) | assumption); obtain ⟨ad179, e179, hx179_0, hx179_1⟩ := at_T58 HR0_1.out x8_2 p179 q179; obtain rfl : ad175 = ad179 := (by injection e179); replace hx179_0 := (HB.out.cell (World.block_lt_of_cell? w _ hx179_0)).trans hx179_0; replace hx179_1 := (HB.out.cell (World.block_lt_of_cell? w _ hx179_1)).trans hx179_1; replace p179 := eq_true p179; replace q179 := eq_true q179) | ((with_reducible refine gate_builtin (b := .append) (xs := #[.tmp 78, .tmp 88]) rfl ?_); at_builtin; refine Kd.R_append k67 (w0 := w) w.heap.size rfl (.tmp 78) (.tmp 88) 44 67 (.agg #[(.int .i64 0), (.int .i64 0)]) 16 rfl Try.underlying44 info67 rfl (by decide) (by omega) u6 x6_3 (⟨wrap64 ((rd x7_3 x8_2) + (wrap64 (-((rd_T58 l0_0 x8_2).f0)))), (rd_T58 l0_1 x8_2).f0⟩ : S67) [.int .i64 (wrap64 ((rd x7_3 x8_2) + (wrap64 (-((rd_T58 l0_0 x8_2).f0))))), .int .i64 ((rd_T58 l0_1 x8_2).f0)] (fun _ => True) (fun _ => False) rfl rfl ?aP (fun _ hk => hk.elim) ?aF ?aO ?aB ?aS ?aL ?_; (case aP => exact k67_mkM _ _ _ (⟨wrap64 ((rd x7_3 x8_2) + (wrap64 (-((rd_T58 l0_0 x8_2).f0)))), (rd_T58 l0_1 x8_2).f0⟩ : S67)); (case aB => exact (tB HB.out)); (case aF => exact (fun _ _ => trivial)); (case aO => exact (tR HO_6.out)); (case aS => exact (below_size (tB HB.out))); (case aL => have := LMc42.out; omega); intro v181 w44 ho hb hg hat; rw [← Ny180.out] at ho; replace HO_7 := Aside0.mk (Kd.R_over' (tR HO_7.out) (Kd.R_typed (tR HO_6.out)) (by decide) hg); replace BK163 := Aside0.mk (blk_grown (g := gb163) (o := .cells #[.slice (some ad174) l0_0.length c0_0, .slice (some ad175) l0_1.length c0_1] 27 (0, 0)) (tK BK163.out) hg (Kd.R_ne HO_6.out BK163.out (by decide))); replace HB := Aside0.mk (hb); have HO182 := Aside0.mk (ho); clear HO_6; clear ho hb hg hat)); try go_wp2_with (first | (go_at_call 76; (with_reducible refine (spec_l2In.calls (wrap64 ((rd x7_3 x8_2) + (wrap64 (-((rd_T58 l0_0 x8_2).f0))))) true _ A40.out).mono ?_); rintro e w' ⟨rfl, ⟨nd, rfl⟩⟩; (try first | exact ⟨rfl, _, World.drewN_drewN _ _ _⟩ | exact ⟨rfl, _, Eq.trans (World.drewN_drewN _ _ _) (congrArg (World.drewN _) (Nat.add_assoc _ _ _))⟩); have p179 : 0 ≤ (x8_2 : Int) := of_decide_eq_true (by first | (with_reducible assumption) | assumption); have q179 : x8_2 < (l0_1.length : Int) := of_decide_eq_true (by first | (with_reducible assumption) | assumption); obtain ⟨ad179, e179, hx179_0, hx179_1⟩ := at_T58 HR0_1.out x8_2 p179 q179; obtain rfl : ad175 = ad179 := (by injection e179); replace hx179_0 := (HB.out.cell (World.block_lt_of_cell? w _ hx179_0)).trans hx179_0; replace hx179_1 := (HB.out.cell (World.block_lt_of_cell? w _ hx179_1)).trans hx179_1; replace p179 := eq_true p179; replace q179 := eq_true q179) | ((with_reducible refine gate_builtin (b := .append) (xs := #[.tmp 78, .tmp 88]) rfl ?_); at_builtin; refine Kd.R_append k67 (w0 := w) w.heap.size rfl (.tmp 78) (.tmp 88) 44 67 (.agg #[(.int .i64 0), (.int .i64 0)]) 16 rfl Try.underlying44 info67 rfl (by decide) (by omega) u6 x6_3 (⟨wrap64 ((rd x7_3 x8_2) + (wrap64 (-((rd_T58 l0_0 x8_2).f0)))), (rd_T58 l0_1 x8_2).f0⟩ : S67) [.int .i64 (wrap64 ((rd x7_3 x8_2) + (wrap64 (-((rd_T58 l0_0 x8_2).f0))))), .int .i64 ((rd_T58 l0_1 x8_2).f0)] (fun _ => True) (fun _ => False) rfl rfl ?aP (fun _ hk => hk.elim) ?aF ?aO ?aB ?aS ?aL ?_; (case aP => exact k67_mkM _ _ _ (⟨wrap64 ((rd x7_3 x8_2) + (wrap64 (-((rd_T58 l0_0 x8_2).f0)))), (rd_T58 l0_1 x8_2).f0⟩ : S67)); (case aB => exact (tB HB.out)); (case aF => exact (fun _ _ => trivial)); (case aO => exact (tR HO_6.out)); (case aS => exact (below_size (tB HB.out))); (case aL => have := LMc42.out; omega); intro v181 w44 ho hb hg hat; rw [← Ny180.out] at ho; replace HO_7 := Aside0.mk (Kd.R_over' (tR HO_7.out) (Kd.R_typed (tR HO_6.out)) (by decide) hg); replace BK163 := Aside0.mk (blk_grown (g := gb163) (o := .cells #[.slice (some ad174) l0_0.length c0_0, .slice (some ad175) l0_1.length c0_1] 27 (0, 0)) (tK BK163.out) hg (Kd.R_ne HO_6.out BK163.out (by decide))); replace HB := Aside0.mk (hb); have HO182 := Aside0.mk (ho); clear HO_6; clear ho hb hg hat)))
                     (try simp only [← hl7_3])
                     go_roundg k3
                     case measure => have := HJ2.out; have := HK2.out; have := HK3.out; omega
                     case rel => exact ⟨(y180), (x7_3), (wrap64 (0 + 1)), (by first | rfl | (simp; done) | (simp [wrap64]; done) | (simp [*]; done)), H', ⟨by have := HJ2.out; have := HK2.out; have := HK3.out; omega⟩, ⟨by (try simp only [hl7_2]); (try simp only [hl7_3]); (with_reducible repeat (first | apply Kd.R_alloc | apply Kd.R_drewN | apply Kd.R_drew)); exact HO182.out⟩, ⟨by (try simp only [hl7_2]); (try simp only [hl7_3]); (with_reducible repeat (first | apply Kd.R_alloc | apply Kd.R_drewN | apply Kd.R_drew)); exact HO_7.out⟩, ⟨by (try simp only [hl7_2]); (try simp only [hl7_3]); (with_reducible repeat (first | refine blk_drewN ?_ _ | refine blk_drew ?_ | refine blk_alloc ?_ _)); exact BK163.out⟩, ⟨tB HB.out⟩⟩
                    ·
                     rw [if_neg c42] at H
                     exact absurd H (by simp)
                   ·
                    replace c41 := Bool.eq_false_iff.mpr c41
                    subst c41
                    have H1 : (some ((([] : List (S67))), false)) = some (r1, r2) := by rw [if_neg (show ¬ (false = true) by decide)] at H; exact H
                    clear H
                    have H := H1
                    clear H1
                    obtain ⟨y183, hy183⟩ : ∃ y_ : List (S67), y_ = (([] : List (S67))) := ⟨_, rfl⟩
                    replace H : (some (y183, false)) = some (r1, r2) := by first | (rw [hy183]; with_reducible exact H) | (have H2_ := (Option.bind_some _ _).symm.trans H; rw [hy183]; with_reducible exact H2_) | (have H2_ := (Option.bind_some _ _).symm.trans H; with_reducible exact H2_) | with_reducible exact H | (rw [hy183]; exact H) | exact H
                    have Ny183 := Aside0.mk hy183
                    clear hy183
                    simp only [Option.some.injEq, Prod.mk.injEq] at H
                    obtain ⟨rfl, rfl⟩ := H
                    have p173 : 0 ≤ (x8_2 : Int) := of_decide_eq_true (by first | (with_reducible assumption) | assumption)
                    have q173 : x8_2 < (x7_3.length : Int) := of_decide_eq_true (by first | (with_reducible assumption) | assumption)
                    obtain ⟨ad173, e173, hx173_0⟩ := Kd.at_int (Kd.R_reads' HO_7.out).2.2 x8_2 p173 q173
                    obtain rfl : (⟨go18, 0, none⟩ : Addr) = ad173 := (by injection e173)
                    (first | simp only [add_plain] at hx173_0 | simp only [add_at] at hx173_0 | simp only [Addr.add, Nat.zero_add] at hx173_0 | skip)
                    replace p173 := eq_true p173
                    replace q173 := eq_true q173
                    obtain ⟨hcz45_0, hfz45_0, hcz45_1, hfz45_1⟩ := cz2 BK163
                    have p174 : 0 ≤ (x8_2 : Int) := of_decide_eq_true (by first | (with_reducible assumption) | assumption)
                    have q174 : x8_2 < (l0_0.length : Int) := of_decide_eq_true (by first | (with_reducible assumption) | assumption)
                    obtain ⟨ad174, e174, hx174_0, hx174_1⟩ := at_T58 HR0_0.out x8_2 p174 q174
                    cases e174
                    replace hx174_0 := (HB.out.cell (World.block_lt_of_cell? w _ hx174_0)).trans hx174_0
                    replace hx174_1 := (HB.out.cell (World.block_lt_of_cell? w _ hx174_1)).trans hx174_1
                    replace p174 := eq_true p174
                    replace q174 := eq_true q174
                    have p175 : 0 ≤ (x8_2 : Int) := of_decide_eq_true (by first | (with_reducible assumption) | assumption)
                    have q175 : x8_2 < (l0_1.length : Int) := of_decide_eq_true (by first | (with_reducible assumption) | assumption)
                    obtain ⟨ad175, e175, hx175_0, hx175_1⟩ := at_T58 HR0_1.out x8_2 p175 q175
                    cases e175
                    replace hx175_0 := (HB.out.cell (World.block_lt_of_cell? w _ hx175_0)).trans hx175_0
                    replace hx175_1 := (HB.out.cell (World.block_lt_of_cell? w _ hx175_1)).trans hx175_1
                    replace p175 := eq_true p175
                    replace q175 := eq_true q175
                    go_wp2_with (first | (go_at_call 76; (with_reducible refine (spec_l2In.calls (wrap64 ((rd x7_3 x8_2) + (wrap64 (-((rd_T58 l0_0 x8_2).f0))))) false _ A40.out).mono ?_); rintro e w' ⟨rfl, ⟨nd, rfl⟩⟩; (try first | exact ⟨rfl, _, World.drewN_drewN _ _ _⟩ | exact ⟨rfl, _, Eq.trans (World.drewN_drewN _ _ _) (congrArg (World.drewN _) (Nat.add_assoc _ _ _))⟩)) | ((with_reducible refine gate_dst (N := 77) rfl ?_); refine Kd.R_lit k67 _ 67 ?hg (N := 77) ?hd (xs := ([] : List (S67))) (inner := []) (ok := fun _ => True) (okp := fun _ => True) ?hr ?hp (fun _ hk => hk) trivial (Below.refl _ _) (Nat.le_refl _) (by simp) ?_; (case hd => rfl); (case hg => rfl); (case hr => first | (go_simp; done) | (go_simp; rfl)); (case hp => exact (Reps.none _ _)); intro v184 w46 ho47 hb hg_ hnew_; clear hg_ hnew_; (first | rw [← Ny183.out] at ho47 | (simp only [Int.reduceToNat] at ho47; rw [← Ny183.out] at ho47)); replace HO_7 := Aside0.mk (Kd.R_below (tR HO_7.out) hb); have HO185 := Aside0.mk (Kd.R_lower (Kd.R_new' ho47 (Kd.R_lt (tR HO_6.out))) (below_size (tB HB.out))); replace HO_6 := Aside0.mk (Kd.R_elder' (tR HO_6.out) (Kd.R_base ho47) hb); replace BK163 := bkB BK163 hb; replace HB := Aside0.mk (below_step (tB HB.out) hb); clear hb ho47))
                    repeat (go_quiet (first | (go_at_call 76; (with_reducible refine (spec_l2In.calls (wrap64 ((rd x7_3 x8_2) + (wrap64 (-((rd_T58 l0_0 x8_2).f0))))) false _ A40.out).mono ?_); rintro e w' ⟨rfl, ⟨nd, rfl⟩⟩; (try first | exact ⟨rfl, _, World.drewN_drewN _ _ _⟩ | exact ⟨rfl, _, Eq.trans (World.drewN_drewN _ _ _) (congrArg (World.drewN _) (Nat.add_assoc _ _ _))⟩)) | ((with_reducible refine gate_dst (N := 77) rfl ?_); refine Kd.R_lit k67 _ 67 ?hg (N := 77) ?hd (xs := ([] : List (S67))) (inner := []) (ok := fun _ => True) (okp := fun _ => True) ?hr ?hp (fun _ hk => hk) trivial (Below.refl _ _) (Nat.le_refl _) (by simp) ?_; (case hd => rfl); (case hg => rfl); (case hr => first | (go_simp; done) | (go_simp; rfl)); (case hp => exact (Reps.none _ _)); intro v184 w46 ho47 hb hg_ hnew_; clear hg_ hnew_; (first | rw [← Ny183.out] at ho47 | (simp only [Int.reduceToNat] at ho47; rw [← Ny183.out] at ho47)); replace HO_7 := Aside0.mk (Kd.R_below (tR HO_7.out) hb); have HO185 := Aside0.mk (Kd.R_lower (Kd.R_new' ho47 (Kd.R_lt (tR HO_6.out))) (below_size (tB HB.out))); replace HO_6 := Aside0.mk (Kd.R_elder' (tR HO_6.out) (Kd.R_base ho47) hb); replace BK163 := bkB BK163 hb; replace HB := Aside0.mk (below_step (tB HB.out) hb); clear hb ho47)); try go_wp2_with (first | (go_at_call 76; (with_reducible refine (spec_l2In.calls (wrap64 ((rd x7_3 x8_2) + (wrap64 (-((rd_T58 l0_0 x8_2).f0))))) false _ A40.out).mono ?_); rintro e w' ⟨rfl, ⟨nd, rfl⟩⟩; (try first | exact ⟨rfl, _, World.drewN_drewN _ _ _⟩ | exact ⟨rfl, _, Eq.trans (World.drewN_drewN _ _ _) (congrArg (World.drewN _) (Nat.add_assoc _ _ _))⟩)) | ((with_reducible refine gate_dst (N := 77) rfl ?_); refine Kd.R_lit k67 _ 67 ?hg (N := 77) ?hd (xs := ([] : List (S67))) (inner := []) (ok := fun _ => True) (okp := fun _ => True) ?hr ?hp (fun _ hk => hk) trivial (Below.refl _ _) (Nat.le_refl _) (by simp) ?_; (case hd => rfl); (case hg => rfl); (case hr => first | (go_simp; done) | (go_simp; rfl)); (case hp => exact (Reps.none _ _)); intro v184 w46 ho47 hb hg_ hnew_; clear hg_ hnew_; (first | rw [← Ny183.out] at ho47 | (simp only [Int.reduceToNat] at ho47; rw [← Ny183.out] at ho47)); replace HO_7 := Aside0.mk (Kd.R_below (tR HO_7.out) hb); have HO185 := Aside0.mk (Kd.R_lower (Kd.R_new' ho47 (Kd.R_lt (tR HO_6.out))) (below_size (tB HB.out))); replace HO_6 := Aside0.mk (Kd.R_elder' (tR HO_6.out) (Kd.R_base ho47) hb); replace BK163 := bkB BK163 hb; replace HB := Aside0.mk (below_step (tB HB.out) hb); clear hb ho47)))
                    go_ret2
                    exact ⟨_, by first | rfl | (simp [errW_none, errW_some] <;> rfl) | (simp [*, errW_none, errW_some] <;> rfl), by (with_reducible repeat (first | apply Kd.R_alloc | apply Kd.R_drewN | apply Kd.R_drew)); exact Kd.R_mono HO185.out (fun _ hk => trivial), tB HB.out⟩
                 ·
                  rw [if_neg c31] at H
                  exact absurd H (by simp)
                ·
                 rw [if_neg c30] at H
                 have c30b0 : (x9_3 == 0) = false := beq_eq_false_iff_ne.mpr c30
                 have c30b1 : (x9_3 != 0) = true := bne_iff_ne.mpr c30
                 by_cases c48 : x9_3 = 1
                 ·
                  subst c48
                  have H1 : (if x8_2 < (l0_1.length : Int) then (if ((rd_T58 l0_1 x8_2).f1) < 0 then (if 0 ≤ (wrap64 (-((rd_T58 l0_1 x8_2).f1))) then (if (wrap64 (-((rd_T58 l0_1 x8_2).f1))) < (x7_3.length : Int) then (spec_LeafRow.l1 k3 x6_3 (x7_3.set ((wrap64 (-((rd_T58 l0_1 x8_2).f1))) : Int).toNat (wrap64 ((rd x7_3 x8_2) + (wrap64 ((rd_T58 l0_0 x8_2).f1))))) x8_2 (wrap64 (1 + 1)) l0_0 l0_1) else (none)) else (none)) else ((spec_l2In.f (wrap64 ((rd x7_3 x8_2) + (wrap64 ((rd_T58 l0_0 x8_2).f1))))).bind fun t189 => (if t189 = true then (if x6_3.length < 8796093022208 then (spec_LeafRow.l1 k3 (x6_3 ++ [(⟨wrap64 ((rd x7_3 x8_2) + (wrap64 ((rd_T58 l0_0 x8_2).f1))), (rd_T58 l0_1 x8_2).f1⟩ : S67)]) x7_3 x8_2 (wrap64 (1 + 1)) l0_0 l0_1) else (none)) else (some ((([] : List (S67))), false))))) else (none)) = some (r1, r2) := by rw [if_pos rfl] at H; (try simp only [hv0_, hv1_] at H); exact H
                  clear H
                  have H := H1
                  clear H1
                  by_cases c49 : x8_2 < (l0_1.length : Int)
                  ·
                   rw [if_pos c49] at H
                   have c49b0 : decide (x8_2 < (l0_1.length : Int)) = true := decide_eq_true c49
                   clear c49
                   by_cases c50 : ((rd_T58 l0_1 x8_2).f1) < 0
                   ·
                    rw [if_pos c50] at H
                    have c50b0 : decide (((rd_T58 l0_1 x8_2).f1) < 0) = true := decide_eq_true c50
                    clear c50
                    obtain ⟨ji51, hji51⟩ : ∃ j_ : Int, (wrap64 (-((rd_T58 l0_1 x8_2).f1))) = j_ := ⟨_, rfl⟩
                    replace H : (if 0 ≤ (ji51) then (if (ji51) < (x7_3.length : Int) then (spec_LeafRow.l1 k3 x6_3 (x7_3.set ((ji51) : Int).toNat (wrap64 ((rd x7_3 x8_2) + (wrap64 ((rd_T58 l0_0 x8_2).f1))))) x8_2 (wrap64 (1 + 1)) l0_0 l0_1) else (none)) else (none)) = some (r1, r2) := by first | (rw [hji51] at H; exact H) | (simp only [hji51] at H ⊢; exact H)
                    have hji51w : (IntKind.i64.wrap (-((rd_T58 l0_1 x8_2).f1))) = ji51 := (i64_w _).trans hji51
                    by_cases c52 : 0 ≤ (ji51)
                    ·
                     rw [if_pos c52] at H
                     have c52b0 : decide (0 ≤ (ji51)) = true := decide_eq_true c52
                     clear c52
                     by_cases c53 : (ji51) < (x7_3.length : Int)
                     ·
                      rw [if_pos c53] at H
                      have c53b0 : decide ((ji51) < (x7_3.length : Int)) = true := decide_eq_true c53
                      clear c53
                      obtain ⟨y188, hy188⟩ : ∃ y_ : List Int, y_ = (x7_3.set ((ji51) : Int).toNat (wrap64 ((rd x7_3 x8_2) + (wrap64 ((rd_T58 l0_0 x8_2).f1))))) := ⟨_, rfl⟩
                      replace H : (spec_LeafRow.l1 k3 x6_3 y188 x8_2 (wrap64 (1 + 1)) l0_0 l0_1) = some (r1, r2) := by first | (rw [hy188]; with_reducible exact H) | (have H2_ := (Option.bind_some _ _).symm.trans H; rw [hy188]; with_reducible exact H2_) | (have H2_ := (Option.bind_some _ _).symm.trans H; with_reducible exact H2_) | with_reducible exact H | (rw [hy188]; exact H) | exact H
                      have Ny188 := Aside0.mk hy188
                      clear hy188
                      have H' := Aside0.mk H
                      clear H
                      have p173 : 0 ≤ (x8_2 : Int) := of_decide_eq_true (by first | (with_reducible assumption) | assumption)
                      have q173 : x8_2 < (x7_3.length : Int) := of_decide_eq_true (by first | (with_reducible assumption) | assumption)
                      obtain ⟨ad173, e173, hx173_0⟩ := Kd.at_int (Kd.R_reads' HO_7.out).2.2 x8_2 p173 q173
                      obtain rfl : (⟨go18, 0, none⟩ : Addr) = ad173 := (by injection e173)
                      (first | simp only [add_plain] at hx173_0 | simp only [add_at] at hx173_0 | simp only [Addr.add, Nat.zero_add] at hx173_0 | skip)
                      replace p173 := eq_true p173
                      replace q173 := eq_true q173
                      obtain ⟨hcz55_0, hfz55_0, hcz55_1, hfz55_1⟩ := cz2 BK163
                      have p174 : 0 ≤ (x8_2 : Int) := of_decide_eq_true (by first | (with_reducible assumption) | assumption)
                      have q174 : x8_2 < (l0_0.length : Int) := of_decide_eq_true (by first | (with_reducible assumption) | assumption)
                      obtain ⟨ad174, e174, hx174_0, hx174_1⟩ := at_T58 HR0_0.out x8_2 p174 q174
                      cases e174
                      replace hx174_0 := (HB.out.cell (World.block_lt_of_cell? w _ hx174_0)).trans hx174_0
                      replace hx174_1 := (HB.out.cell (World.block_lt_of_cell? w _ hx174_1)).trans hx174_1
                      replace p174 := eq_true p174
                      replace q174 := eq_true q174
                      have p186 : 0 ≤ (x8_2 : Int) := of_decide_eq_true (by first | (with_reducible assumption) | assumption)
                      have q186 : x8_2 < (l0_1.length : Int) := of_decide_eq_true (by first | (with_reducible assumption) | assumption)
                      obtain ⟨ad186, e186, hx186_0, hx186_1⟩ := at_T58 HR0_1.out x8_2 p186 q186
                      cases e186
                      replace hx186_0 := (HB.out.cell (World.block_lt_of_cell? w _ hx186_0)).trans hx186_0
                      replace hx186_1 := (HB.out.cell (World.block_lt_of_cell? w _ hx186_1)).trans hx186_1
                      replace p186 := eq_true p186
                      replace q186 := eq_true q186
                      have p187 : 0 ≤ (x8_2 : Int) := of_decide_eq_true (by first | (with_reducible assumption) | assumption)
                      have q187 : x8_2 < (l0_1.length : Int) := of_decide_eq_true (by first | (with_reducible assumption) | assumption)
                      obtain ⟨ad187, e187, hx187_0, hx187_1⟩ := at_T58 HR0_1.out x8_2 p187 q187
                      obtain rfl : ad186 = ad187 := (by injection e187)
                      replace hx187_0 := (HB.out.cell (World.block_lt_of_cell? w _ hx187_0)).trans hx187_0
                      replace hx187_1 := (HB.out.cell (World.block_lt_of_cell? w _ hx187_1)).trans hx187_1
                      replace p187 := eq_true p187
                      replace q187 := eq_true q187
                      have p54 : 0 ≤ ((ji51) : Int) := of_decide_eq_true (by first | (with_reducible assumption) | assumption)
                      have q54 : ((ji51) : Int) < ((x7_3.length : Int) : Int) := of_decide_eq_true (by first | (with_reducible assumption) | assumption)
                      obtain ⟨hx54_0, hf54_0⟩ := Kd.R_celln 0 HO_7.out ((ji51) : Int) p54 q54
                      replace p54 := eq_true p54
                      replace q54 := eq_true q54
                      have HP56 := Kd.R_putg HO_7.out ((ji51) : Int) (wrap64 ((rd x7_3 x8_2) + (wrap64 ((rd_T58 l0_0 x8_2).f1))))
                      go_wp2_with (first | ((with_reducible refine gate_store (t := 3) (p := 73) rfl ?_); (try (rw [drewN_self wr]; generalize hq_ : World.drewN wr _ = wr; have n0_ := Aside0.mk (Kd.R_at hq_ HO_6.out); have n1_ := Aside0.mk (Kd.R_at hq_ HO_7.out); have n2_ := Aside0.mk (blk_at hq_ BK163.out); have n3_ := Aside0.mk (below_at hq_ HB.out); clear hq_ HO_6 HO_7 BK163 HB; have HO_6 := n0_; have HO_7 := n1_; have BK163 := n2_; have HB := n3_; clear n0_ n1_ n2_ n3_; (try (obtain ⟨hx54_0, hf54_0⟩ := Kd.R_celln 0 HO_7.out ((ji51) : Int) (of_eq_true p54) (of_eq_true q54))); (try (have HP56 := Kd.R_putg HO_7.out ((ji51) : Int) (wrap64 ((rd x7_3 x8_2) + (wrap64 ((rd_T58 l0_0 x8_2).f1)))))))); refine store_event (t := 3) (p := 73) (v := ?vo_w57) (w1 := (wr.setCell ⟨go18, ((ji51) : Int).toNat, none⟩ (.int .i64 (wrap64 ((rd x7_3 x8_2) + (wrap64 ((rd_T58 l0_0 x8_2).f1))))))) ?hg ?ho ?hn ?hr ?_; (case ho => rfl); (case hg => rfl); (case hn => rfl); (case hr => first | (go_simp; done) | (go_simp; rfl)); intro w57 hw; have hg : wr.grownBy w57 (some go18) := (by rw [hw]; exact HP56.2); have hp_ : Kd.R (Kd.int .i64) 3 w57 w.heap.size (fun _ => True) (.slice (some ⟨go18, 0, none⟩) x7_3.length co18) y188 := (by rw [hw, Ny188.out]; exact HP56.1); clear HP56; replace HO_6 := Aside0.mk (Kd.R_over' (v := (.slice (some ⟨go18, 0, none⟩) x7_3.length co18)) (tR HO_6.out) (Kd.R_typed HO_7.out) (by decide) hg); replace BK163 := Aside0.mk (blk_grown (g := gb163) (o := .cells #[.slice (some ad174) l0_0.length c0_0, .slice (some ad186) l0_1.length c0_1] 27 (0, 0)) (tK BK163.out) hg (Kd.R_ne HO_7.out BK163.out (by decide))); replace HO_7 := Aside0.mk (hp_); replace HB := Aside0.mk ((by rw [hw]; exact below_set (HB.out) GB18.out : Below w.heap.size w w57)); clear hg hw hp_))
                      repeat (go_quiet (first | ((with_reducible refine gate_store (t := 3) (p := 73) rfl ?_); (try (rw [drewN_self wr]; generalize hq_ : World.drewN wr _ = wr; have n0_ := Aside0.mk (Kd.R_at hq_ HO_6.out); have n1_ := Aside0.mk (Kd.R_at hq_ HO_7.out); have n2_ := Aside0.mk (blk_at hq_ BK163.out); have n3_ := Aside0.mk (below_at hq_ HB.out); clear hq_ HO_6 HO_7 BK163 HB; have HO_6 := n0_; have HO_7 := n1_; have BK163 := n2_; have HB := n3_; clear n0_ n1_ n2_ n3_; (try (obtain ⟨hx54_0, hf54_0⟩ := Kd.R_celln 0 HO_7.out ((ji51) : Int) (of_eq_true p54) (of_eq_true q54))); (try (have HP56 := Kd.R_putg HO_7.out ((ji51) : Int) (wrap64 ((rd x7_3 x8_2) + (wrap64 ((rd_T58 l0_0 x8_2).f1)))))))); refine store_event (t := 3) (p := 73) (v := ?vo_w57) (w1 := (wr.setCell ⟨go18, ((ji51) : Int).toNat, none⟩ (.int .i64 (wrap64 ((rd x7_3 x8_2) + (wrap64 ((rd_T58 l0_0 x8_2).f1))))))) ?hg ?ho ?hn ?hr ?_; (case ho => rfl); (case hg => rfl); (case hn => rfl); (case hr => first | (go_simp; done) | (go_simp; rfl)); intro w57 hw; have hg : wr.grownBy w57 (some go18) := (by rw [hw]; exact HP56.2); have hp_ : Kd.R (Kd.int .i64) 3 w57 w.heap.size (fun _ => True) (.slice (some ⟨go18, 0, none⟩) x7_3.length co18) y188 := (by rw [hw, Ny188.out]; exact HP56.1); clear HP56; replace HO_6 := Aside0.mk (Kd.R_over' (v := (.slice (some ⟨go18, 0, none⟩) x7_3.length co18)) (tR HO_6.out) (Kd.R_typed HO_7.out) (by decide) hg); replace BK163 := Aside0.mk (blk_grown (g := gb163) (o := .cells #[.slice (some ad174) l0_0.length c0_0, .slice (some ad186) l0_1.length c0_1] 27 (0, 0)) (tK BK163.out) hg (Kd.R_ne HO_7.out BK163.out (by decide))); replace HO_7 := Aside0.mk (hp_); replace HB := Aside0.mk ((by rw [hw]; exact below_set (HB.out) GB18.out : Below w.heap.size w w57)); clear hg hw hp_)); try go_wp2_with (first | ((with_reducible refine gate_store (t := 3) (p := 73) rfl ?_); (try (rw [drewN_self wr]; generalize hq_ : World.drewN wr _ = wr; have n0_ := Aside0.mk (Kd.R_at hq_ HO_6.out); have n1_ := Aside0.mk (Kd.R_at hq_ HO_7.out); have n2_ := Aside0.mk (blk_at hq_ BK163.out); have n3_ := Aside0.mk (below_at hq_ HB.out); clear hq_ HO_6 HO_7 BK163 HB; have HO_6 := n0_; have HO_7 := n1_; have BK163 := n2_; have HB := n3_; clear n0_ n1_ n2_ n3_; (try (obtain ⟨hx54_0, hf54_0⟩ := Kd.R_celln 0 HO_7.out ((ji51) : Int) (of_eq_true p54) (of_eq_true q54))); (try (have HP56 := Kd.R_putg HO_7.out ((ji51) : Int) (wrap64 ((rd x7_3 x8_2) + (wrap64 ((rd_T58 l0_0 x8_2).f1)))))))); refine store_event (t := 3) (p := 73) (v := ?vo_w57) (w1 := (wr.setCell ⟨go18, ((ji51) : Int).toNat, none⟩ (.int .i64 (wrap64 ((rd x7_3 x8_2) + (wrap64 ((rd_T58 l0_0 x8_2).f1))))))) ?hg ?ho ?hn ?hr ?_; (case ho => rfl); (case hg => rfl); (case hn => rfl); (case hr => first | (go_simp; done) | (go_simp; rfl)); intro w57 hw; have hg : wr.grownBy w57 (some go18) := (by rw [hw]; exact HP56.2); have hp_ : Kd.R (Kd.int .i64) 3 w57 w.heap.size (fun _ => True) (.slice (some ⟨go18, 0, none⟩) x7_3.length co18) y188 := (by rw [hw, Ny188.out]; exact HP56.1); clear HP56; replace HO_6 := Aside0.mk (Kd.R_over' (v := (.slice (some ⟨go18, 0, none⟩) x7_3.length co18)) (tR HO_6.out) (Kd.R_typed HO_7.out) (by decide) hg); replace BK163 := Aside0.mk (blk_grown (g := gb163) (o := .cells #[.slice (some ad174) l0_0.length c0_0, .slice (some ad186) l0_1.length c0_1] 27 (0, 0)) (tK BK163.out) hg (Kd.R_ne HO_7.out BK163.out (by decide))); replace HO_7 := Aside0.mk (hp_); replace HB := Aside0.mk ((by rw [hw]; exact below_set (HB.out) GB18.out : Below w.heap.size w w57)); clear hg hw hp_)))
                      (try simp only [← hl7_3])
                      go_roundg k3
                      case measure => have := HJ2.out; have := HK2.out; have := HK3.out; omega
                      case rel => exact ⟨(x6_3), (y188), (wrap64 (1 + 1)), (by first | rfl | (simp; done) | (simp [wrap64]; done) | (simp [*]; done)), H', ⟨by have := HJ2.out; have := HK2.out; have := HK3.out; omega⟩, ⟨by (try simp only [hl7_2]); (try simp only [hl7_3]); (with_reducible repeat (first | apply Kd.R_alloc | apply Kd.R_drewN | apply Kd.R_drew)); exact HO_6.out⟩, ⟨by (try simp only [hl7_2]); (try simp only [hl7_3]); (with_reducible repeat (first | apply Kd.R_alloc | apply Kd.R_drewN | apply Kd.R_drew)); exact HO_7.out⟩, ⟨by (try simp only [hl7_2]); (try simp only [hl7_3]); (with_reducible repeat (first | refine blk_drewN ?_ _ | refine blk_drew ?_ | refine blk_alloc ?_ _)); exact BK163.out⟩, ⟨tB HB.out⟩⟩
                     ·
                      rw [if_neg c53] at H
                      exact absurd H (by simp)
                    ·
                     rw [if_neg c52] at H
                     exact absurd H (by simp)
                   ·
                    rw [if_neg c50] at H
                    have c50b0 : decide (((rd_T58 l0_1 x8_2).f1) < 0) = false := decide_eq_false c50
                    clear c50
                    replace H := Option.bind_eq_some_iff.mp H
                    obtain ⟨t189, A580, H⟩ := H
                    replace H : (if t189 = true then (if x6_3.length < 8796093022208 then (spec_LeafRow.l1 k3 (x6_3 ++ [(⟨wrap64 ((rd x7_3 x8_2) + (wrap64 ((rd_T58 l0_0 x8_2).f1))), (rd_T58 l0_1 x8_2).f1⟩ : S67)]) x7_3 x8_2 (wrap64 (1 + 1)) l0_0 l0_1) else (none)) else (some ((([] : List (S67))), false))) = some (r1, r2) := H
                    have A58 := Aside0.mk A580
                    clear A580
                    by_cases c59 : t189 = true
                    ·
                     subst c59
                     have H1 : (if x6_3.length < 8796093022208 then (spec_LeafRow.l1 k3 (x6_3 ++ [(⟨wrap64 ((rd x7_3 x8_2) + (wrap64 ((rd_T58 l0_0 x8_2).f1))), (rd_T58 l0_1 x8_2).f1⟩ : S67)]) x7_3 x8_2 (wrap64 (1 + 1)) l0_0 l0_1) else (none)) = some (r1, r2) := by rw [if_pos rfl] at H; (try simp only [hv0_, hv1_] at H); exact H
                     clear H
                     have H := H1
                     clear H1
                     by_cases c60 : x6_3.length < 8796093022208
                     ·
                      rw [if_pos c60] at H
                      have LMc60 := Aside0.mk c60
                      clear c60
                      obtain ⟨y191, hy191⟩ : ∃ y_ : List (S67), y_ = (x6_3 ++ [(⟨wrap64 ((rd x7_3 x8_2) + (wrap64 ((rd_T58 l0_0 x8_2).f1))), (rd_T58 l0_1 x8_2).f1⟩ : S67)]) := ⟨_, rfl⟩
                      replace H : (spec_LeafRow.l1 k3 y191 x7_3 x8_2 (wrap64 (1 + 1)) l0_0 l0_1) = some (r1, r2) := by first | (rw [hy191]; with_reducible exact H) | (have H2_ := (Option.bind_some _ _).symm.trans H; rw [hy191]; with_reducible exact H2_) | (have H2_ := (Option.bind_some _ _).symm.trans H; with_reducible exact H2_) | with_reducible exact H | (rw [hy191]; exact H) | exact H
                      have Ny191 := Aside0.mk hy191
                      clear hy191
                      have H' := Aside0.mk H
                      clear H
                      have p173 : 0 ≤ (x8_2 : Int) := of_decide_eq_true (by first | (with_reducible assumption) | assumption)
                      have q173 : x8_2 < (x7_3.length : Int) := of_decide_eq_true (by first | (with_reducible assumption) | assumption)
                      obtain ⟨ad173, e173, hx173_0⟩ := Kd.at_int (Kd.R_reads' HO_7.out).2.2 x8_2 p173 q173
                      obtain rfl : (⟨go18, 0, none⟩ : Addr) = ad173 := (by injection e173)
                      (first | simp only [add_plain] at hx173_0 | simp only [add_at] at hx173_0 | simp only [Addr.add, Nat.zero_add] at hx173_0 | skip)
                      replace p173 := eq_true p173
                      replace q173 := eq_true q173
                      obtain ⟨hcz61_0, hfz61_0, hcz61_1, hfz61_1⟩ := cz2 BK163
                      have p174 : 0 ≤ (x8_2 : Int) := of_decide_eq_true (by first | (with_reducible assumption) | assumption)
                      have q174 : x8_2 < (l0_0.length : Int) := of_decide_eq_true (by first | (with_reducible assumption) | assumption)
                      obtain ⟨ad174, e174, hx174_0, hx174_1⟩ := at_T58 HR0_0.out x8_2 p174 q174
                      cases e174
                      replace hx174_0 := (HB.out.cell (World.block_lt_of_cell? w _ hx174_0)).trans hx174_0
                      replace hx174_1 := (HB.out.cell (World.block_lt_of_cell? w _ hx174_1)).trans hx174_1
                      replace p174 := eq_true p174
                      replace q174 := eq_true q174
                      have p186 : 0 ≤ (x8_2 : Int) := of_decide_eq_true (by first | (with_reducible assumption) | assumption)
                      have q186 : x8_2 < (l0_1.length : Int) := of_decide_eq_true (by first | (with_reducible assumption) | assumption)
                      obtain ⟨ad186, e186, hx186_0, hx186_1⟩ := at_T58 HR0_1.out x8_2 p186 q186
                      cases e186
                      replace hx186_0 := (HB.out.cell (World.block_lt_of_cell? w _ hx186_0)).trans hx186_0
                      replace hx186_1 := (HB.out.cell (World.block_lt_of_cell? w _ hx186_1)).trans hx186_1
                      replace p186 := eq_true p186
                      replace q186 := eq_true q186
                      go_wp2_with (first | (go_at_call 76; (with_reducible refine (spec_l2In.calls (wrap64 ((rd x7_3 x8_2) + (wrap64 ((rd_T58 l0_0 x8_2).f1)))) true _ A58.out).mono ?_); rintro e w' ⟨rfl, ⟨nd, rfl⟩⟩; (try first | exact ⟨rfl, _, World.drewN_drewN _ _ _⟩ | exact ⟨rfl, _, Eq.trans (World.drewN_drewN _ _ _) (congrArg (World.drewN _) (Nat.add_assoc _ _ _))⟩); have p190 : 0 ≤ (x8_2 : Int) := of_decide_eq_true (by first | (with_reducible assumption) | assumption); have q190 : x8_2 < (l0_1.length : Int) := of_decide_eq_true (by first | (with_reducible assumption) | assumption); obtain ⟨ad190, e190, hx190_0, hx190_1⟩ := at_T58 HR0_1.out x8_2 p190 q190; obtain rfl : ad186 = ad190 := (by injection e190); replace hx190_0 := (HB.out.cell (World.block_lt_of_cell? w _ hx190_0)).trans hx190_0; replace hx190_1 := (HB.out.cell (World.block_lt_of_cell? w _ hx190_1)).trans hx190_1; replace p190 := eq_true p190; replace q190 := eq_true q190) | ((with_reducible refine gate_builtin (b := .append) (xs := #[.tmp 78, .tmp 88]) rfl ?_); at_builtin; refine Kd.R_append k67 (w0 := w) w.heap.size rfl (.tmp 78) (.tmp 88) 44 67 (.agg #[(.int .i64 0), (.int .i64 0)]) 16 rfl Try.underlying44 info67 rfl (by decide) (by omega) u6 x6_3 (⟨wrap64 ((rd x7_3 x8_2) + (wrap64 ((rd_T58 l0_0 x8_2).f1))), (rd_T58 l0_1 x8_2).f1⟩ : S67) [.int .i64 (wrap64 ((rd x7_3 x8_2) + (wrap64 ((rd_T58 l0_0 x8_2).f1)))), .int .i64 ((rd_T58 l0_1 x8_2).f1)] (fun _ => True) (fun _ => False) rfl rfl ?aP (fun _ hk => hk.elim) ?aF ?aO ?aB ?aS ?aL ?_; (case aP => exact k67_mkM _ _ _ (⟨wrap64 ((rd x7_3 x8_2) + (wrap64 ((rd_T58 l0_0 x8_2).f1))), (rd_T58 l0_1 x8_2).f1⟩ : S67)); (case aB => exact (tB HB.out)); (case aF => exact (fun _ _ => trivial)); (case aO => exact (tR HO_6.out)); (case aS => exact (below_size (tB HB.out))); (case aL => have := LMc60.out; omega); intro v192 w62 ho hb hg hat; rw [← Ny191.out] at ho; replace HO_7 := Aside0.mk (Kd.R_over' (tR HO_7.out) (Kd.R_typed (tR HO_6.out)) (by decide) hg); replace BK163 := Aside0.mk (blk_grown (g := gb163) (o := .cells #[.slice (some ad174) l0_0.length c0_0, .slice (some ad186) l0_1.length c0_1] 27 (0, 0)) (tK BK163.out) hg (Kd.R_ne HO_6.out BK163.out (by decide))); replace HB := Aside0.mk (hb); have HO193 := Aside0.mk (ho); clear HO_6; clear ho hb hg hat))
                      repeat (go_quiet (first | (go_at_call 76; (with_reducible refine (spec_l2In.calls (wrap64 ((rd x7_3 x8_2) + (wrap64 ((rd_T58 l0_0 x8_2).f1)))) true _ A58.out).mono ?_); rintro e w' ⟨rfl, ⟨nd, rfl⟩⟩; (try first | exact ⟨rfl, _, World.drewN_drewN _ _ _⟩ | exact ⟨rfl, _, Eq.trans (World.drewN_drewN _ _ _) (congrArg (World.drewN _) (Nat.add_assoc _ _ _))⟩); have p190 : 0 ≤ (x8_2 : Int) := of_decide_eq_true (by first | (with_reducible assumption) | assumption); have q190 : x8_2 < (l0_1.length : Int) := of_decide_eq_true (by first | (with_reducible assumption) | assumption); obtain ⟨ad190, e190, hx190_0, hx190_1⟩ := at_T58 HR0_1.out x8_2 p190 q190; obtain rfl : ad186 = ad190 := (by injection e190); replace hx190_0 := (HB.out.cell (World.block_lt_of_cell? w _ hx190_0)).trans hx190_0; replace hx190_1 := (HB.out.cell (World.block_lt_of_cell? w _ hx190_1)).trans hx190_1; replace p190 := eq_true p190; replace q190 := eq_true q190) | ((with_reducible refine gate_builtin (b := .append) (xs := #[.tmp 78, .tmp 88]) rfl ?_); at_builtin; refine Kd.R_append k67 (w0 := w) w.heap.size rfl (.tmp 78) (.tmp 88) 44 67 (.agg #[(.int .i64 0), (.int .i64 0)]) 16 rfl Try.underlying44 info67 rfl (by decide) (by omega) u6 x6_3 (⟨wrap64 ((rd x7_3 x8_2) + (wrap64 ((rd_T58 l0_0 x8_2).f1))), (rd_T58 l0_1 x8_2).f1⟩ : S67) [.int .i64 (wrap64 ((rd x7_3 x8_2) + (wrap64 ((rd_T58 l0_0 x8_2).f1)))), .int .i64 ((rd_T58 l0_1 x8_2).f1)] (fun _ => True) (fun _ => False) rfl rfl ?aP (fun _ hk => hk.elim) ?aF ?aO ?aB ?aS ?aL ?_; (case aP => exact k67_mkM _ _ _ (⟨wrap64 ((rd x7_3 x8_2) + (wrap64 ((rd_T58 l0_0 x8_2).f1))), (rd_T58 l0_1 x8_2).f1⟩ : S67)); (case aB => exact (tB HB.out)); (case aF => exact (fun _ _ => trivial)); (case aO => exact (tR HO_6.out)); (case aS => exact (below_size (tB HB.out))); (case aL => have := LMc60.out; omega); intro v192 w62 ho hb hg hat; rw [← Ny191.out] at ho; replace HO_7 := Aside0.mk (Kd.R_over' (tR HO_7.out) (Kd.R_typed (tR HO_6.out)) (by decide) hg); replace BK163 := Aside0.mk (blk_grown (g := gb163) (o := .cells #[.slice (some ad174) l0_0.length c0_0, .slice (some ad186) l0_1.length c0_1] 27 (0, 0)) (tK BK163.out) hg (Kd.R_ne HO_6.out BK163.out (by decide))); replace HB := Aside0.mk (hb); have HO193 := Aside0.mk (ho); clear HO_6; clear ho hb hg hat)); try go_wp2_with (first | (go_at_call 76; (with_reducible refine (spec_l2In.calls (wrap64 ((rd x7_3 x8_2) + (wrap64 ((rd_T58 l0_0 x8_2).f1)))) true _ A58.out).mono ?_); rintro e w' ⟨rfl, ⟨nd, rfl⟩⟩; (try first | exact ⟨rfl, _, World.drewN_drewN _ _ _⟩ | exact ⟨rfl, _, Eq.trans (World.drewN_drewN _ _ _) (congrArg (World.drewN _) (Nat.add_assoc _ _ _))⟩); have p190 : 0 ≤ (x8_2 : Int) := of_decide_eq_true (by first | (with_reducible assumption) | assumption); have q190 : x8_2 < (l0_1.length : Int) := of_decide_eq_true (by first | (with_reducible assumption) | assumption); obtain ⟨ad190, e190, hx190_0, hx190_1⟩ := at_T58 HR0_1.out x8_2 p190 q190; obtain rfl : ad186 = ad190 := (by injection e190); replace hx190_0 := (HB.out.cell (World.block_lt_of_cell? w _ hx190_0)).trans hx190_0; replace hx190_1 := (HB.out.cell (World.block_lt_of_cell? w _ hx190_1)).trans hx190_1; replace p190 := eq_true p190; replace q190 := eq_true q190) | ((with_reducible refine gate_builtin (b := .append) (xs := #[.tmp 78, .tmp 88]) rfl ?_); at_builtin; refine Kd.R_append k67 (w0 := w) w.heap.size rfl (.tmp 78) (.tmp 88) 44 67 (.agg #[(.int .i64 0), (.int .i64 0)]) 16 rfl Try.underlying44 info67 rfl (by decide) (by omega) u6 x6_3 (⟨wrap64 ((rd x7_3 x8_2) + (wrap64 ((rd_T58 l0_0 x8_2).f1))), (rd_T58 l0_1 x8_2).f1⟩ : S67) [.int .i64 (wrap64 ((rd x7_3 x8_2) + (wrap64 ((rd_T58 l0_0 x8_2).f1)))), .int .i64 ((rd_T58 l0_1 x8_2).f1)] (fun _ => True) (fun _ => False) rfl rfl ?aP (fun _ hk => hk.elim) ?aF ?aO ?aB ?aS ?aL ?_; (case aP => exact k67_mkM _ _ _ (⟨wrap64 ((rd x7_3 x8_2) + (wrap64 ((rd_T58 l0_0 x8_2).f1))), (rd_T58 l0_1 x8_2).f1⟩ : S67)); (case aB => exact (tB HB.out)); (case aF => exact (fun _ _ => trivial)); (case aO => exact (tR HO_6.out)); (case aS => exact (below_size (tB HB.out))); (case aL => have := LMc60.out; omega); intro v192 w62 ho hb hg hat; rw [← Ny191.out] at ho; replace HO_7 := Aside0.mk (Kd.R_over' (tR HO_7.out) (Kd.R_typed (tR HO_6.out)) (by decide) hg); replace BK163 := Aside0.mk (blk_grown (g := gb163) (o := .cells #[.slice (some ad174) l0_0.length c0_0, .slice (some ad186) l0_1.length c0_1] 27 (0, 0)) (tK BK163.out) hg (Kd.R_ne HO_6.out BK163.out (by decide))); replace HB := Aside0.mk (hb); have HO193 := Aside0.mk (ho); clear HO_6; clear ho hb hg hat)))
                      (try simp only [← hl7_3])
                      go_roundg k3
                      case measure => have := HJ2.out; have := HK2.out; have := HK3.out; omega
                      case rel => exact ⟨(y191), (x7_3), (wrap64 (1 + 1)), (by first | rfl | (simp; done) | (simp [wrap64]; done) | (simp [*]; done)), H', ⟨by have := HJ2.out; have := HK2.out; have := HK3.out; omega⟩, ⟨by (try simp only [hl7_2]); (try simp only [hl7_3]); (with_reducible repeat (first | apply Kd.R_alloc | apply Kd.R_drewN | apply Kd.R_drew)); exact HO193.out⟩, ⟨by (try simp only [hl7_2]); (try simp only [hl7_3]); (with_reducible repeat (first | apply Kd.R_alloc | apply Kd.R_drewN | apply Kd.R_drew)); exact HO_7.out⟩, ⟨by (try simp only [hl7_2]); (try simp only [hl7_3]); (with_reducible repeat (first | refine blk_drewN ?_ _ | refine blk_drew ?_ | refine blk_alloc ?_ _)); exact BK163.out⟩, ⟨tB HB.out⟩⟩
                     ·
                      rw [if_neg c60] at H
                      exact absurd H (by simp)
                    ·
                     replace c59 := Bool.eq_false_iff.mpr c59
                     subst c59
                     have H1 : (some ((([] : List (S67))), false)) = some (r1, r2) := by rw [if_neg (show ¬ (false = true) by decide)] at H; exact H
                     clear H
                     have H := H1
                     clear H1
                     obtain ⟨y194, hy194⟩ : ∃ y_ : List (S67), y_ = (([] : List (S67))) := ⟨_, rfl⟩
                     replace H : (some (y194, false)) = some (r1, r2) := by first | (rw [hy194]; with_reducible exact H) | (have H2_ := (Option.bind_some _ _).symm.trans H; rw [hy194]; with_reducible exact H2_) | (have H2_ := (Option.bind_some _ _).symm.trans H; with_reducible exact H2_) | with_reducible exact H | (rw [hy194]; exact H) | exact H
                     have Ny194 := Aside0.mk hy194
                     clear hy194
                     simp only [Option.some.injEq, Prod.mk.injEq] at H
                     obtain ⟨rfl, rfl⟩ := H
                     have p173 : 0 ≤ (x8_2 : Int) := of_decide_eq_true (by first | (with_reducible assumption) | assumption)
                     have q173 : x8_2 < (x7_3.length : Int) := of_decide_eq_true (by first | (with_reducible assumption) | assumption)
                     obtain ⟨ad173, e173, hx173_0⟩ := Kd.at_int (Kd.R_reads' HO_7.out).2.2 x8_2 p173 q173
                     obtain rfl : (⟨go18, 0, none⟩ : Addr) = ad173 := (by injection e173)
                     (first | simp only [add_plain] at hx173_0 | simp only [add_at] at hx173_0 | simp only [Addr.add, Nat.zero_add] at hx173_0 | skip)
                     replace p173 := eq_true p173
                     replace q173 := eq_true q173
                     obtain ⟨hcz63_0, hfz63_0, hcz63_1, hfz63_1⟩ := cz2 BK163
                     have p174 : 0 ≤ (x8_2 : Int) := of_decide_eq_true (by first | (with_reducible assumption) | assumption)
                     have q174 : x8_2 < (l0_0.length : Int) := of_decide_eq_true (by first | (with_reducible assumption) | assumption)
                     obtain ⟨ad174, e174, hx174_0, hx174_1⟩ := at_T58 HR0_0.out x8_2 p174 q174
                     cases e174
                     replace hx174_0 := (HB.out.cell (World.block_lt_of_cell? w _ hx174_0)).trans hx174_0
                     replace hx174_1 := (HB.out.cell (World.block_lt_of_cell? w _ hx174_1)).trans hx174_1
                     replace p174 := eq_true p174
                     replace q174 := eq_true q174
                     have p186 : 0 ≤ (x8_2 : Int) := of_decide_eq_true (by first | (with_reducible assumption) | assumption)
                     have q186 : x8_2 < (l0_1.length : Int) := of_decide_eq_true (by first | (with_reducible assumption) | assumption)
                     obtain ⟨ad186, e186, hx186_0, hx186_1⟩ := at_T58 HR0_1.out x8_2 p186 q186
                     cases e186
                     replace hx186_0 := (HB.out.cell (World.block_lt_of_cell? w _ hx186_0)).trans hx186_0
                     replace hx186_1 := (HB.out.cell (World.block_lt_of_cell? w _ hx186_1)).trans hx186_1
                     replace p186 := eq_true p186
                     replace q186 := eq_true q186
                     go_wp2_with (first | (go_at_call 76; (with_reducible refine (spec_l2In.calls (wrap64 ((rd x7_3 x8_2) + (wrap64 ((rd_T58 l0_0 x8_2).f1)))) false _ A58.out).mono ?_); rintro e w' ⟨rfl, ⟨nd, rfl⟩⟩; (try first | exact ⟨rfl, _, World.drewN_drewN _ _ _⟩ | exact ⟨rfl, _, Eq.trans (World.drewN_drewN _ _ _) (congrArg (World.drewN _) (Nat.add_assoc _ _ _))⟩)) | ((with_reducible refine gate_dst (N := 77) rfl ?_); refine Kd.R_lit k67 _ 67 ?hg (N := 77) ?hd (xs := ([] : List (S67))) (inner := []) (ok := fun _ => True) (okp := fun _ => True) ?hr ?hp (fun _ hk => hk) trivial (Below.refl _ _) (Nat.le_refl _) (by simp) ?_; (case hd => rfl); (case hg => rfl); (case hr => first | (go_simp; done) | (go_simp; rfl)); (case hp => exact (Reps.none _ _)); intro v195 w64 ho65 hb hg_ hnew_; clear hg_ hnew_; (first | rw [← Ny194.out] at ho65 | (simp only [Int.reduceToNat] at ho65; rw [← Ny194.out] at ho65)); replace HO_7 := Aside0.mk (Kd.R_below (tR HO_7.out) hb); have HO196 := Aside0.mk (Kd.R_lower (Kd.R_new' ho65 (Kd.R_lt (tR HO_6.out))) (below_size (tB HB.out))); replace HO_6 := Aside0.mk (Kd.R_elder' (tR HO_6.out) (Kd.R_base ho65) hb); replace BK163 := bkB BK163 hb; replace HB := Aside0.mk (below_step (tB HB.out) hb); clear hb ho65))
                     repeat (go_quiet (first | (go_at_call 76; (with_reducible refine (spec_l2In.calls (wrap64 ((rd x7_3 x8_2) + (wrap64 ((rd_T58 l0_0 x8_2).f1)))) false _ A58.out).mono ?_); rintro e w' ⟨rfl, ⟨nd, rfl⟩⟩; (try first | exact ⟨rfl, _, World.drewN_drewN _ _ _⟩ | exact ⟨rfl, _, Eq.trans (World.drewN_drewN _ _ _) (congrArg (World.drewN _) (Nat.add_assoc _ _ _))⟩)) | ((with_reducible refine gate_dst (N := 77) rfl ?_); refine Kd.R_lit k67 _ 67 ?hg (N := 77) ?hd (xs := ([] : List (S67))) (inner := []) (ok := fun _ => True) (okp := fun _ => True) ?hr ?hp (fun _ hk => hk) trivial (Below.refl _ _) (Nat.le_refl _) (by simp) ?_; (case hd => rfl); (case hg => rfl); (case hr => first | (go_simp; done) | (go_simp; rfl)); (case hp => exact (Reps.none _ _)); intro v195 w64 ho65 hb hg_ hnew_; clear hg_ hnew_; (first | rw [← Ny194.out] at ho65 | (simp only [Int.reduceToNat] at ho65; rw [← Ny194.out] at ho65)); replace HO_7 := Aside0.mk (Kd.R_below (tR HO_7.out) hb); have HO196 := Aside0.mk (Kd.R_lower (Kd.R_new' ho65 (Kd.R_lt (tR HO_6.out))) (below_size (tB HB.out))); replace HO_6 := Aside0.mk (Kd.R_elder' (tR HO_6.out) (Kd.R_base ho65) hb); replace BK163 := bkB BK163 hb; replace HB := Aside0.mk (below_step (tB HB.out) hb); clear hb ho65)); try go_wp2_with (first | (go_at_call 76; (with_reducible refine (spec_l2In.calls (wrap64 ((rd x7_3 x8_2) + (wrap64 ((rd_T58 l0_0 x8_2).f1)))) false _ A58.out).mono ?_); rintro e w' ⟨rfl, ⟨nd, rfl⟩⟩; (try first | exact ⟨rfl, _, World.drewN_drewN _ _ _⟩ | exact ⟨rfl, _, Eq.trans (World.drewN_drewN _ _ _) (congrArg (World.drewN _) (Nat.add_assoc _ _ _))⟩)) | ((with_reducible refine gate_dst (N := 77) rfl ?_); refine Kd.R_lit k67 _ 67 ?hg (N := 77) ?hd (xs := ([] : List (S67))) (inner := []) (ok := fun _ => True) (okp := fun _ => True) ?hr ?hp (fun _ hk => hk) trivial (Below.refl _ _) (Nat.le_refl _) (by simp) ?_; (case hd => rfl); (case hg => rfl); (case hr => first | (go_simp; done) | (go_simp; rfl)); (case hp => exact (Reps.none _ _)); intro v195 w64 ho65 hb hg_ hnew_; clear hg_ hnew_; (first | rw [← Ny194.out] at ho65 | (simp only [Int.reduceToNat] at ho65; rw [← Ny194.out] at ho65)); replace HO_7 := Aside0.mk (Kd.R_below (tR HO_7.out) hb); have HO196 := Aside0.mk (Kd.R_lower (Kd.R_new' ho65 (Kd.R_lt (tR HO_6.out))) (below_size (tB HB.out))); replace HO_6 := Aside0.mk (Kd.R_elder' (tR HO_6.out) (Kd.R_base ho65) hb); replace BK163 := bkB BK163 hb; replace HB := Aside0.mk (below_step (tB HB.out) hb); clear hb ho65)))
                     go_ret2
                     exact ⟨_, by first | rfl | (simp [errW_none, errW_some] <;> rfl) | (simp [*, errW_none, errW_some] <;> rfl), by (with_reducible repeat (first | apply Kd.R_alloc | apply Kd.R_drewN | apply Kd.R_drew)); exact Kd.R_mono HO196.out (fun _ hk => trivial), tB HB.out⟩
                  ·
                   rw [if_neg c49] at H
                   exact absurd H (by simp)
                 ·
                  rw [if_neg c48] at H
                  exact absurd H (by simp)
               ·
                rw [if_neg c29] at H
                exact absurd H (by simp)
              ·
               rw [if_neg c28] at H
               exact absurd H (by simp)
             ·
              rw [if_neg c27] at H
              exact absurd H (by simp)
            ·
             rw [if_neg c26] at H
             have c26b0 : decide (x9_3 < 2) = false := decide_eq_false c26
             clear c26
             have H' := Aside0.mk H
             clear H
             go_wp2
             repeat (go_quiet (fail); try go_wp2)
             (try simp only [← hl7_2, ← hl7_3])
             go_roundg k3
             case measure => have := HJ2.out; have := HK2.out; have := HK3.out; omega
             case rel => exact ⟨(x6_3), (x7_3), (wrap64 (x8_2 + 1)), (by first | rfl | (simp; done) | (simp [wrap64]; done) | (simp [*]; done)), H', ⟨by have := HJ2.out; have := HK2.out; have := HK3.out; omega⟩, ⟨by (try simp only [hl7_2]); (try simp only [hl7_3]); (with_reducible repeat (first | apply Kd.R_alloc | apply Kd.R_drewN | apply Kd.R_drew)); exact HO_6.out⟩, ⟨by (try simp only [hl7_2]); (try simp only [hl7_3]); (with_reducible repeat (first | apply Kd.R_alloc | apply Kd.R_drewN | apply Kd.R_drew)); exact HO_7.out⟩, ⟨by (try simp only [hl7_2]); (try simp only [hl7_3]); (with_reducible repeat (first | refine blk_drewN ?_ _ | refine blk_drew ?_ | refine blk_alloc ?_ _)); exact BK163.out⟩, ⟨tB HB.out⟩⟩
         ·
          rw [if_neg c24] at H
          have c24b0 : decide (x8_2 < (l0_0.length : Int)) = false := decide_eq_false c24
          clear c24
          simp only [Option.some.injEq, Prod.mk.injEq] at H
          obtain ⟨rfl, rfl⟩ := H
          obtain ⟨hcz66_0, hfz66_0, hcz66_1, hfz66_1⟩ := cz2 BK163
          go_wp2
          repeat (go_quiet (fail); try go_wp2)
          go_ret2
          exact ⟨_, by first | rfl | (simp [errW_none, errW_some] <;> rfl) | (simp [*, errW_none, errW_some] <;> rfl), tR HO_6.out, tB HB.out⟩
      ·
       rw [if_neg c17] at H
       exact absurd H (by simp)
     ·
      rw [if_neg c16] at H
      exact absurd H (by simp)
    ·
     rw [if_neg c15] at H
     exact absurd H (by simp)

/-! ### impl_within: function 54 -/
def impl_within.f (a0 : Int) (a1 : Int) (a2 : Int) : Option (Bool) := if a0 ≥ a1 then (some (decide (a0 ≤ a2))) else (some false)
set_option maxHeartbeats 8000000 in
set_option maxRecDepth 100000 in
theorem impl_within.calls (a0 : Int) (a1 : Int) (a2 : Int) (r : Bool) (w : World) (h : impl_within.f a0 a1 a2 = some r) :
  Calls Try.prog 54 #[.int .i64 a0, .int .i64 a1, .int .i64 a2] w fun e w' => e = .returned (.bool r) ∧ Drawn0 w w' := by
 have H : (if a0 ≥ a1 then (some (decide (a0 ≤ a2))) else (some false)) = some r := h
 clear h
 by_cases c4 : a0 ≥ a1
 ·
  rw [if_pos c4] at H
  have c4b0 : decide (a1 ≤ a0) = true := decide_eq_true c4
  clear c4
  obtain rfl := Option.some.inj H
  go_enter Try.func54, Try.ntmps54
  go_wp2
  go_ret
  exact ⟨by first | rfl | (simp; done) | (simp [wrap64]; done) | (simp [*]; done), by repeat (first | exact Drawn0.refl _ | apply Drawn0.step)⟩
 ·
  rw [if_neg c4] at H
  have c4b0 : decide (a1 ≤ a0) = false := decide_eq_false c4
  clear c4
  obtain rfl := Option.some.inj H
  go_enter Try.func54, Try.ntmps54
  go_wp2
  go_ret
  exact ⟨by first | rfl | (simp; done) | (simp [wrap64]; done) | (simp [*]; done), by repeat (first | exact Drawn0.refl _ | apply Drawn0.step)⟩

/-! ### impl_isArm: function 55 -/
def impl_isArm.f (a0 : Int) : Option (Bool) := (impl_within.f a0 1 12).bind fun t197 => (some t197)
set_option maxHeartbeats 8000000 in
set_option maxRecDepth 100000 in
theorem impl_isArm.calls (a0 : Int) (r : Bool) (w : World) (h : impl_isArm.f a0 = some r) :
  Calls Try.prog 55 #[.int .i64 a0] w fun e w' => e = .returned (.bool r) ∧ Drawn0 w w' := by
 have H : ((impl_within.f a0 1 12).bind fun t197 => (some t197)) = some r := h
 clear h
 replace H := Option.bind_eq_some_iff.mp H
 obtain ⟨t197, A20, H⟩ := H
 replace H : (some t197) = some r := H
 have A2 := Aside0.mk A20
 clear A20
 obtain rfl := Option.some.inj H
 go_enter Try.func55, Try.ntmps55
 go_wp2_with (first | ((with_reducible refine gate_callee (f := 54) rfl ?_); refine goesL_ (some 4) rfl rfl Try.func54 (by kernel_rfl) rfl #[.int .i64 a0, .int .i64 1, .int .i64 12] rfl tM ?_; (with_reducible refine (impl_within.calls a0 1 12 t197 _ A2.out).mono ?_); rintro e w' ⟨rfl, ⟨nd, rfl⟩⟩; refine ⟨_, rfl, ?_⟩))
 go_ret
 exact ⟨by first | rfl | (simp; done) | (simp [wrap64]; done) | (simp [*]; done), by repeat (first | exact Drawn0.refl _ | apply Drawn0.step)⟩

/-! ### impl_isWeight: function 56 -/
def impl_isWeight.f (a0 : Int) : Option (Bool) := (impl_within.f a0 1 99).bind fun t198 => (some t198)
set_option maxHeartbeats 8000000 in
set_option maxRecDepth 100000 in
theorem impl_isWeight.calls (a0 : Int) (r : Bool) (w : World) (h : impl_isWeight.f a0 = some r) :
  Calls Try.prog 56 #[.int .i64 a0] w fun e w' => e = .returned (.bool r) ∧ Drawn0 w w' := by
 have H : ((impl_within.f a0 1 99).bind fun t198 => (some t198)) = some r := h
 clear h
 replace H := Option.bind_eq_some_iff.mp H
 obtain ⟨t198, A20, H⟩ := H
 replace H : (some t198) = some r := H
 have A2 := Aside0.mk A20
 clear A20
 obtain rfl := Option.some.inj H
 go_enter Try.func56, Try.ntmps56
 go_wp2_with (first | ((with_reducible refine gate_callee (f := 54) rfl ?_); refine goesL_ (some 4) rfl rfl Try.func54 (by kernel_rfl) rfl #[.int .i64 a0, .int .i64 1, .int .i64 99] rfl tM ?_; (with_reducible refine (impl_within.calls a0 1 99 t198 _ A2.out).mono ?_); rintro e w' ⟨rfl, ⟨nd, rfl⟩⟩; refine ⟨_, rfl, ?_⟩))
 go_ret
 exact ⟨by first | rfl | (simp; done) | (simp [wrap64]; done) | (simp [*]; done), by repeat (first | exact Drawn0.refl _ | apply Drawn0.step)⟩

end Go.Proofs.Ytbdajkfihbaapaa.PFnExactLeafRow

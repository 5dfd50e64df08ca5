/- Printed by the program print2.py over the translation: each function as a Lean function, and the proof that the call comes to its answer. -/
import Derived.Test.YtbdajkfihbaapaaPFnExactLeafRowx0
import Derived.Test.YtbdajkfihbaapaaPFnExactLeafRowx6
import Derived.Test.YtbdajkfihbaapaaPFnExactLeafRowx7
namespace Go.Proofs.Ytbdajkfihbaapaa.PFnExactLeafRow
open Go.RowKit Go.Proofs.YtbdajkfihbaapaaW.PrintWords Go.Proofs.YtbdajkfihbaapaaW.PrintLast Go.Proofs.YtbdajkfihbaapaaW.PrintMore
attribute [local go_sem] max2_int min2_int max_two min_two max_three min_three max_four min_four   -- for this text's walks alone
set_option linter.unusedVariables false
set_option linter.unusedSimpArgs false

/-! ### impl_LeafRow: function 40 -/
mutual
def impl_LeafRow.j0 : Nat → Int → Bool → List (S58) → List (S58) → Option ((List (S67)) × Bool)
 | 0, _, _, _, _ => none
 | k + 1, x1, x20, x234000, x234001 => if x20 = true then (some (([] : List (S67)), false)) else (if 0 ≤ (x234000.length : Int) then (if ((x234000.length : Int) : Int).toNat ≤ 35184372088832 then ((some (List.replicate ((x234000.length : Int) : Int).toNat 0 : List Int)).bind fun y236 => (if 0 < (y236.length : Int) then (impl_LeafRow.l0 k (y236.set (0 : Int).toNat x1) (([] : List (S67))) x234000 (x234000.length : Int) 0 x234000 x234001) else (none))) else (none)) else (none))
def impl_LeafRow.l0 : Nat → List Int → List (S67) → List (S58) → Int → Int → List (S58) → List (S58) → Option ((List (S67)) × Bool)
 | 0, _, _, _, _, _, _, _ => none
 | k + 1, x6, x7, x30, x31, x32, x234000, x234001 => if x32 < x31 then (if 0 ≤ x32 then (if x32 < (x30.length : Int) then (if x32 < (x234001.length : Int) then (impl_LeafRow.l1 k x6 x7 x32 x30 x31 x32 0 x234000 x234001 ((rd_T58 x30 x32).f0) ((rd_T58 x30 x32).f1) ((rd_T58 x234001 x32).f0) ((rd_T58 x234001 x32).f1)) else (none)) else (none)) else (none)) else ((impl_validRow.f k x7).bind fun bt243 => (some (bt243.1, bt243.2)))
def impl_LeafRow.l1 : Nat → List Int → List (S67) → Int → List (S58) → Int → Int → Int → List (S58) → List (S58) → Int → Int → Int → Int → Option ((List (S67)) × Bool)
 | 0, _, _, _, _, _, _, _, _, _, _, _, _, _ => none
 | k + 1, x6, x7, x8, x30, x31, x32, x42, x234000, x234001, x249000, x249001, x10041000, x10041001 => if x42 < 2 then (if x42 = 0 then (if 0 ≤ x8 then (if x8 < (x6.length : Int) then (if x10041000 < 0 then (if 0 ≤ (wrap64 (-x10041000)) then (if (wrap64 (-x10041000)) < (x6.length : Int) then (impl_LeafRow.l1 k (x6.set ((wrap64 (-x10041000)) : Int).toNat (wrap64 ((rd x6 x8) - x249000))) x7 x8 x30 x31 x32 (wrap64 (x42 + 1)) x234000 x234001 x249000 x249001 x10041000 x10041001) else (none)) else (none)) else (if x7.length < 8796093022208 then (impl_LeafRow.l1 k x6 (x7 ++ [(⟨wrap64 ((rd x6 x8) - x249000), x10041000⟩ : S67)]) x8 x30 x31 x32 (wrap64 (x42 + 1)) x234000 x234001 x249000 x249001 x10041000 x10041001) else (none))) else (none)) else (none)) else (if x42 = 1 then (if 0 ≤ x8 then (if x8 < (x6.length : Int) then (if x10041001 < 0 then (if 0 ≤ (wrap64 (-x10041001)) then (if (wrap64 (-x10041001)) < (x6.length : Int) then (impl_LeafRow.l1 k (x6.set ((wrap64 (-x10041001)) : Int).toNat (wrap64 ((rd x6 x8) + x249001))) x7 x8 x30 x31 x32 (wrap64 (x42 + 1)) x234000 x234001 x249000 x249001 x10041000 x10041001) else (none)) else (none)) else (if x7.length < 8796093022208 then (impl_LeafRow.l1 k x6 (x7 ++ [(⟨wrap64 ((rd x6 x8) + x249001), x10041001⟩ : S67)]) x8 x30 x31 x32 (wrap64 (x42 + 1)) x234000 x234001 x249000 x249001 x10041000 x10041001) else (none))) else (none)) else (none)) else (none))) else (impl_LeafRow.l0 k x6 x7 x30 x31 (wrap64 (x32 + 1)) x234000 x234001)
end
def impl_LeafRow.f (k : Nat) (l0_0 : List (S58)) (l0_1 : List (S58)) (a1 : Int) : Option ((List (S67)) × Bool) := (impl_IsMobile.f k l0_0 l0_1).bind fun t234 => (if t234 = true then ((impl_isPlace.f a1).bind fun t235 => (impl_LeafRow.j0 k a1 (!t235) l0_0 l0_1)) else (impl_LeafRow.j0 k a1 true l0_0 l0_1))
theorem impl_LeafRow.mono_l : ∀ k, (∀ y0 y1 y2 y3, LeO (impl_LeafRow.j0 k y0 y1 y2 y3) (impl_LeafRow.j0 (k + 1) y0 y1 y2 y3)) ∧ (∀ y0 y1 y2 y3 y4 y5 y6, LeO (impl_LeafRow.l0 k y0 y1 y2 y3 y4 y5 y6) (impl_LeafRow.l0 (k + 1) y0 y1 y2 y3 y4 y5 y6)) ∧ (∀ y0 y1 y2 y3 y4 y5 y6 y7 y8 y9 y10 y11 y12, LeO (impl_LeafRow.l1 k y0 y1 y2 y3 y4 y5 y6 y7 y8 y9 y10 y11 y12) (impl_LeafRow.l1 (k + 1) y0 y1 y2 y3 y4 y5 y6 y7 y8 y9 y10 y11 y12))
 | 0 => ⟨fun _ _ _ _ r h => by simp [impl_LeafRow.j0] at h, fun _ _ _ _ _ _ _ r h => by simp [impl_LeafRow.l0] at h, fun _ _ _ _ _ _ _ _ _ _ _ _ _ r h => by simp [impl_LeafRow.l1] at h⟩
 | k + 1 => by
  obtain ⟨ih0, ih1, ih2⟩ := impl_LeafRow.mono_l k
  refine ⟨?_, ?_, ?_⟩
  ·
   intro y0 y1 y2 y3
   unfold impl_LeafRow.j0
   repeat' first
   | (with_reducible exact ih0 _ _ _ _)
   | (with_reducible exact ih1 _ _ _ _ _ _ _)
   | (with_reducible exact ih2 _ _ _ _ _ _ _ _ _ _ _ _ _)
   | (with_reducible exact impl_IsMobile.mono _ _ _)
   | (with_reducible exact impl_validRow.mono _ _)
   | (with_reducible exact LeO.refl _)
   | (with_reducible exact LeO.none _)
   | (with_reducible refine LeO.ite ?_ ?_)
   | (with_reducible refine LeO.bind ?_ (fun _ => ?_))
   | exact ih0 _ _ _ _
   | exact ih1 _ _ _ _ _ _ _
   | exact ih2 _ _ _ _ _ _ _ _ _ _ _ _ _
   | exact impl_IsMobile.mono _ _ _
   | exact impl_validRow.mono _ _
   | exact LeO.none _
   | refine LeO.ite ?_ ?_
   | refine LeO.bind ?_ (fun _ => ?_)
  ·
   intro y0 y1 y2 y3 y4 y5 y6
   unfold impl_LeafRow.l0
   repeat' first
   | (with_reducible exact ih0 _ _ _ _)
   | (with_reducible exact ih1 _ _ _ _ _ _ _)
   | (with_reducible exact ih2 _ _ _ _ _ _ _ _ _ _ _ _ _)
   | (with_reducible exact impl_IsMobile.mono _ _ _)
   | (with_reducible exact impl_validRow.mono _ _)
   | (with_reducible exact LeO.refl _)
   | (with_reducible exact LeO.none _)
   | (with_reducible refine LeO.ite ?_ ?_)
   | (with_reducible refine LeO.bind ?_ (fun _ => ?_))
   | exact ih0 _ _ _ _
   | exact ih1 _ _ _ _ _ _ _
   | exact ih2 _ _ _ _ _ _ _ _ _ _ _ _ _
   | exact impl_IsMobile.mono _ _ _
   | exact impl_validRow.mono _ _
   | exact LeO.none _
   | refine LeO.ite ?_ ?_
   | refine LeO.bind ?_ (fun _ => ?_)
  ·
   intro y0 y1 y2 y3 y4 y5 y6 y7 y8 y9 y10 y11 y12
   unfold impl_LeafRow.l1
   repeat' first
   | (with_reducible exact ih0 _ _ _ _)
   | (with_reducible exact ih1 _ _ _ _ _ _ _)
   | (with_reducible exact ih2 _ _ _ _ _ _ _ _ _ _ _ _ _)
   | (with_reducible exact impl_IsMobile.mono _ _ _)
   | (with_reducible exact impl_validRow.mono _ _)
   | (with_reducible exact LeO.refl _)
   | (with_reducible exact LeO.none _)
   | (with_reducible refine LeO.ite ?_ ?_)
   | (with_reducible refine LeO.bind ?_ (fun _ => ?_))
   | exact ih0 _ _ _ _
   | exact ih1 _ _ _ _ _ _ _
   | exact ih2 _ _ _ _ _ _ _ _ _ _ _ _ _
   | exact impl_IsMobile.mono _ _ _
   | exact impl_validRow.mono _ _
   | exact LeO.none _
   | refine LeO.ite ?_ ?_
   | refine LeO.bind ?_ (fun _ => ?_)
theorem impl_LeafRow.mono : ∀ a0 a1 a2 k, LeO (impl_LeafRow.f k a0 a1 a2) (impl_LeafRow.f (k + 1) a0 a1 a2) := by
 intro a0 a1 a2 k
 obtain ⟨ih0, ih1, ih2⟩ := impl_LeafRow.mono_l k
 unfold impl_LeafRow.f
 repeat' first
   | (with_reducible exact ih0 _ _ _ _)
   | (with_reducible exact ih1 _ _ _ _ _ _ _)
   | (with_reducible exact ih2 _ _ _ _ _ _ _ _ _ _ _ _ _)
   | (with_reducible exact impl_IsMobile.mono _ _ _)
   | (with_reducible exact impl_validRow.mono _ _)
   | (with_reducible exact LeO.refl _)
   | (with_reducible exact LeO.none _)
   | (with_reducible refine LeO.ite ?_ ?_)
   | (with_reducible refine LeO.bind ?_ (fun _ => ?_))
   | exact ih0 _ _ _ _
   | exact ih1 _ _ _ _ _ _ _
   | exact ih2 _ _ _ _ _ _ _ _ _ _ _ _ _
   | exact impl_IsMobile.mono _ _ _
   | exact impl_validRow.mono _ _
   | exact LeO.none _
   | refine LeO.ite ?_ ?_
   | refine LeO.bind ?_ (fun _ => ?_)
set_option maxHeartbeats 8000000 in
set_option maxRecDepth 100000 in
theorem impl_LeafRow.calls (k : Nat) (A0_0 : Option Addr) (c0_0 : Nat) (l0_0 : List (S58)) (A0_1 : Option Addr) (c0_1 : Nat) (l0_1 : List (S58)) (a1 : Int) (r1 : List (S67)) (r2 : Bool) (w : World) (hr0_0 : Kd.C k58 w A0_0 l0_0.length l0_0) (hc0_0 : l0_0.length ≤ c0_0) (hr0_1 : Kd.C k58 w A0_1 l0_1.length l0_1) (hc0_1 : l0_1.length ≤ c0_1) (h : impl_LeafRow.f k l0_0 l0_1 a1 = some (r1, r2)) :
  Calls Try.prog 40 #[.agg #[.slice A0_0 l0_0.length c0_0, .slice A0_1 l0_1.length c0_1], .int .i64 a1] w fun e w' => ∃ v0_ : Value, e = .returned (.tuple #[v0_, .bool r2]) ∧ Kd.R k67 67 w' w.heap.size (fun _ => True) v0_ r1 ∧ Below w.heap.size w w' := by
 have hu27 := Try.underlying27
 have hu58 := Try.underlying58
 have hu67 := Try.underlying67
 have hwz_ : wrap64 0 = 0 := by simp [wrap64]
 have hwo_ : wrap64 1 = 1 := by simp [wrap64]
 have hix58_0 : ∀ (e0_ e1_ : Value) (W_ : World), (Instr.index 58 (.agg #[e0_, e1_]) (.int .i64 0)).run Try.prog W_ = .ok e0_ W_ := fun _ _ _ => by kernel_rfl
 have hix58_1 : ∀ (e0_ e1_ : Value) (W_ : World), (Instr.index 58 (.agg #[e0_, e1_]) (.int .i64 1)).run Try.prog W_ = .ok e1_ W_ := fun _ _ _ => by kernel_rfl
 have HR0_0 := Aside0.mk hr0_0
 have HC0_0 := Aside0.mk hc0_0
 clear hr0_0 hc0_0
 have HR0_1 := Aside0.mk hr0_1
 have HC0_1 := Aside0.mk hc0_1
 clear hr0_1 hc0_1
 have HB := Aside0.mk (Below.refl w.heap.size w)
 have H : ((impl_IsMobile.f k l0_0 l0_1).bind fun t234 => (if t234 = true then ((impl_isPlace.f a1).bind fun t235 => (impl_LeafRow.j0 k a1 (!t235) l0_0 l0_1)) else (impl_LeafRow.j0 k a1 true l0_0 l0_1))) = some (r1, r2) := h
 clear h
 have HC3 := Aside0.mk H
 clear H
 go_enter Try.func40, Try.ntmps40
 go_upto_region 1 with (first | ((with_reducible refine gate_dst (N := 2) rfl ?_); refine box_event ?hg (N := 2) ?hd (cs := #[.slice A0_0 l0_0.length c0_0, .slice A0_1 l0_1.length c0_1]) (t := 27) ?hr ?_; (case hd => rfl); (case hg => rfl); (case hr => first | (go_simp; done) | (go_simp; rfl)); intro gb233 hg w4 hbox hb; have BK233 := Aside0.mk (hbox); have GW233 := Aside0.mk (bS HB.out hg); have GE233 := Aside0.mk (bS HB.out hg); replace HB := Aside0.mk (below_step (tB HB.out) hb); clear hb hbox hg))
 repeat (go_quiet (first | ((with_reducible refine gate_dst (N := 2) rfl ?_); refine box_event ?hg (N := 2) ?hd (cs := #[.slice A0_0 l0_0.length c0_0, .slice A0_1 l0_1.length c0_1]) (t := 27) ?hr ?_; (case hd => rfl); (case hg => rfl); (case hr => first | (go_simp; done) | (go_simp; rfl)); intro gb233 hg w4 hbox hb; have BK233 := Aside0.mk (hbox); have GW233 := Aside0.mk (bS HB.out hg); have GE233 := Aside0.mk (bS HB.out hg); replace HB := Aside0.mk (below_step (tB HB.out) hb); clear hb hbox hg)); go_upto_region 1 with (first | ((with_reducible refine gate_dst (N := 2) rfl ?_); refine box_event ?hg (N := 2) ?hd (cs := #[.slice A0_0 l0_0.length c0_0, .slice A0_1 l0_1.length c0_1]) (t := 27) ?hr ?_; (case hd => rfl); (case hg => rfl); (case hr => first | (go_simp; done) | (go_simp; rfl)); intro gb233 hg w4 hbox hb; have BK233 := Aside0.mk (hbox); have GW233 := Aside0.mk (bS HB.out hg); have GE233 := Aside0.mk (bS HB.out hg); replace HB := Aside0.mk (below_step (tB HB.out) hb); clear hb hbox hg)))
 (try simp only [Act.put, List.setIfInBounds_toArray, List.set_cons_zero, List.set_cons_succ])
 go_cut [20] (fun v20 wc => ∃ (kq : Nat) (x20_2 : Bool), v20 = .bool x20_2 ∧ Aside0 (impl_LeafRow.j0 kq a1 x20_2 l0_0 l0_1 = some (r1, r2)) ∧ Aside0 (kq ≤ k) ∧ Aside0 (wc.heap[gb233]? = some (.cells #[(.slice A0_0 l0_0.length c0_0), (.slice A0_1 l0_1.length c0_1)] 27 (0, 0))) ∧ Aside0 (Below w.heap.size w wc))
 case first =>
  have H := HC3.out
  clear HC3
  replace H := Option.bind_eq_some_iff.mp H
  obtain ⟨t234, A50, H⟩ := H
  replace H : (if t234 = true then ((impl_isPlace.f a1).bind fun t235 => (impl_LeafRow.j0 k a1 (!t235) l0_0 l0_1)) else (impl_LeafRow.j0 k a1 true l0_0 l0_1)) = some (r1, r2) := H
  have A5 := Aside0.mk A50
  clear A50
  by_cases c6 : t234 = true
  ·
   subst c6
   have H1 : ((impl_isPlace.f a1).bind fun t235 => (impl_LeafRow.j0 k a1 (!t235) l0_0 l0_1)) = some (r1, r2) := by rw [if_pos rfl] at H; exact H
   clear H
   have H := H1
   clear H1
   replace H := Option.bind_eq_some_iff.mp H
   obtain ⟨t235, A70, H⟩ := H
   replace H : (impl_LeafRow.j0 k a1 (!t235) l0_0 l0_1) = some (r1, r2) := H
   have A7 := Aside0.mk A70
   clear A70
   have H' := Aside0.mk H
   clear H
   obtain ⟨hcz8_0, hfz8_0, hcz8_1, hfz8_1⟩ := cz2 BK233
   go_wp2_with (first | (go_at_call 18; (with_reducible refine (impl_IsMobile.calls k _ _ l0_0 _ _ l0_1 true _ ?side1 ?side2 ?side3 ?side4 A5.out).mono ?_); (case side1 => exact tC (Kd.C_below HR0_0.out HB.out)); (case side2 => exact HC0_0.out); (case side3 => exact tC (Kd.C_below HR0_1.out HB.out)); (case side4 => exact HC0_1.out); rintro e w9 ⟨rfl, hb⟩; replace BK233 := bkB BK233 hb; replace HB := Aside0.mk (below_step (tB HB.out) hb); (try clear hb); (try clear hb2); (try clear hk); (try clear hi)) | (go_at_call 77; (with_reducible refine (impl_isPlace.calls a1 t235 _ A7.out).mono ?_); rintro e w' ⟨rfl, ⟨nd, rfl⟩⟩; (try first | exact ⟨rfl, _, World.drewN_drewN _ _ _⟩ | exact ⟨rfl, _, Eq.trans (World.drewN_drewN _ _ _) (congrArg (World.drewN _) (Nat.add_assoc _ _ _))⟩)))
   repeat (go_quiet (first | (go_at_call 18; (with_reducible refine (impl_IsMobile.calls k _ _ l0_0 _ _ l0_1 true _ ?side1 ?side2 ?side3 ?side4 A5.out).mono ?_); (case side1 => exact tC (Kd.C_below HR0_0.out HB.out)); (case side2 => exact HC0_0.out); (case side3 => exact tC (Kd.C_below HR0_1.out HB.out)); (case side4 => exact HC0_1.out); rintro e w9 ⟨rfl, hb⟩; replace BK233 := bkB BK233 hb; replace HB := Aside0.mk (below_step (tB HB.out) hb); (try clear hb); (try clear hb2); (try clear hk); (try clear hi)) | (go_at_call 77; (with_reducible refine (impl_isPlace.calls a1 t235 _ A7.out).mono ?_); rintro e w' ⟨rfl, ⟨nd, rfl⟩⟩; (try first | exact ⟨rfl, _, World.drewN_drewN _ _ _⟩ | exact ⟨rfl, _, Eq.trans (World.drewN_drewN _ _ _) (congrArg (World.drewN _) (Nat.add_assoc _ _ _))⟩))); try go_wp2_with (first | (go_at_call 18; (with_reducible refine (impl_IsMobile.calls k _ _ l0_0 _ _ l0_1 true _ ?side1 ?side2 ?side3 ?side4 A5.out).mono ?_); (case side1 => exact tC (Kd.C_below HR0_0.out HB.out)); (case side2 => exact HC0_0.out); (case side3 => exact tC (Kd.C_below HR0_1.out HB.out)); (case side4 => exact HC0_1.out); rintro e w9 ⟨rfl, hb⟩; replace BK233 := bkB BK233 hb; replace HB := Aside0.mk (below_step (tB HB.out) hb); (try clear hb); (try clear hb2); (try clear hk); (try clear hi)) | (go_at_call 77; (with_reducible refine (impl_isPlace.calls a1 t235 _ A7.out).mono ?_); rintro e w' ⟨rfl, ⟨nd, rfl⟩⟩; (try first | exact ⟨rfl, _, World.drewN_drewN _ _ _⟩ | exact ⟨rfl, _, Eq.trans (World.drewN_drewN _ _ _) (congrArg (World.drewN _) (Nat.add_assoc _ _ _))⟩))))
   go_meet
   case rel => exact ⟨_, (!t235), (by first | rfl | (simp; done) | (simp [wrap64]; done) | (simp [*]; done)), H', ⟨by first | omega | exact Nat.le_refl _⟩, ⟨tK BK233.out⟩, ⟨tB HB.out⟩⟩
  ·
   replace c6 := Bool.eq_false_iff.mpr c6
   subst c6
   have H1 : (impl_LeafRow.j0 k a1 true l0_0 l0_1) = some (r1, r2) := by rw [if_neg (show ¬ (false = true) by decide)] at H; exact H
   clear H
   have H := H1
   clear H1
   have H' := Aside0.mk H
   clear H
   obtain ⟨hcz10_0, hfz10_0, hcz10_1, hfz10_1⟩ := cz2 BK233
   go_wp2_with (first | (go_at_call 18; (with_reducible refine (impl_IsMobile.calls k _ _ l0_0 _ _ l0_1 false _ ?side1 ?side2 ?side3 ?side4 A5.out).mono ?_); (case side1 => exact tC (Kd.C_below HR0_0.out HB.out)); (case side2 => exact HC0_0.out); (case side3 => exact tC (Kd.C_below HR0_1.out HB.out)); (case side4 => exact HC0_1.out); rintro e w11 ⟨rfl, hb⟩; replace BK233 := bkB BK233 hb; replace HB := Aside0.mk (below_step (tB HB.out) hb); (try clear hb); (try clear hb2); (try clear hk); (try clear hi)))
   repeat (go_quiet (first | (go_at_call 18; (with_reducible refine (impl_IsMobile.calls k _ _ l0_0 _ _ l0_1 false _ ?side1 ?side2 ?side3 ?side4 A5.out).mono ?_); (case side1 => exact tC (Kd.C_below HR0_0.out HB.out)); (case side2 => exact HC0_0.out); (case side3 => exact tC (Kd.C_below HR0_1.out HB.out)); (case side4 => exact HC0_1.out); rintro e w11 ⟨rfl, hb⟩; replace BK233 := bkB BK233 hb; replace HB := Aside0.mk (below_step (tB HB.out) hb); (try clear hb); (try clear hb2); (try clear hk); (try clear hi))); try go_wp2_with (first | (go_at_call 18; (with_reducible refine (impl_IsMobile.calls k _ _ l0_0 _ _ l0_1 false _ ?side1 ?side2 ?side3 ?side4 A5.out).mono ?_); (case side1 => exact tC (Kd.C_below HR0_0.out HB.out)); (case side2 => exact HC0_0.out); (case side3 => exact tC (Kd.C_below HR0_1.out HB.out)); (case side4 => exact HC0_1.out); rintro e w11 ⟨rfl, hb⟩; replace BK233 := bkB BK233 hb; replace HB := Aside0.mk (below_step (tB HB.out) hb); (try clear hb); (try clear hb2); (try clear hk); (try clear hi))))
   go_meet
   case rel => exact ⟨_, (true), (by first | rfl | (simp; done) | (simp [wrap64]; done) | (simp [*]; done)), H', ⟨by first | omega | exact Nat.le_refl _⟩, ⟨tK BK233.out⟩, ⟨tB HB.out⟩⟩
 case rest =>
  clear HC3
  try clear p2
  try clear c4
  try clear c6
  try clear p6
  try clear hcz10_0
  try clear hcz10_1
  try clear hcz8_0
  try clear hcz8_1
  try clear hfz10_0
  try clear hfz10_1
  try clear hfz8_0
  try clear hfz8_1
  obtain ⟨kq, x20_2, rfl, HA, HJ2, BK233, HB⟩ := hcut
  cases kq with
  | zero => exact absurd HA.out (by simp [impl_LeafRow.j0])
  | succ kj2 =>
   have H := HA.out
   clear HA
   simp only [impl_LeafRow.j0] at H
   by_cases c12 : x20_2 = true
   ·
    subst c12
    have H1 : (some (([] : List (S67)), false)) = some (r1, r2) := by rw [if_pos rfl] at H; exact H
    clear H
    have H := H1
    clear H1
    simp only [Option.some.injEq, Prod.mk.injEq] at H
    obtain ⟨rfl, rfl⟩ := H
    go_wp2
    repeat (go_quiet (fail); try go_wp2)
    go_ret2
    exact ⟨_, by first | rfl | (simp [errW_none, errW_some] <;> rfl) | (simp [*, errW_none, errW_some] <;> rfl), by first | exact Kd.R_nil _ _ _ _ _ | exact Kd.N_nil _ _ _ _ _ | exact Kd.V_nil _ _ _ _ _ | exact Kd.Q_nil _ _ _ _ _ | exact Kd.S_nil _ _ _ _ _, tB HB.out⟩
   ·
    replace c12 := Bool.eq_false_iff.mpr c12
    subst c12
    have H1 : (if 0 ≤ (l0_0.length : Int) then (if ((l0_0.length : Int) : Int).toNat ≤ 35184372088832 then ((some (List.replicate ((l0_0.length : Int) : Int).toNat 0 : List Int)).bind fun y236 => (if 0 < (y236.length : Int) then (impl_LeafRow.l0 kj2 (y236.set (0 : Int).toNat a1) (([] : List (S67))) l0_0 (l0_0.length : Int) 0 l0_0 l0_1) else (none))) else (none)) else (none)) = some (r1, r2) := by rw [if_neg (show ¬ (false = true) by decide)] at H; exact H
    clear H
    have H := H1
    clear H1
    by_cases c13 : 0 ≤ (l0_0.length : Int)
    ·
     rw [if_pos c13] at H
     have c13b0 := eq_true c13
     have c13b1 : decide (0 ≤ (l0_0.length : Int)) = true := decide_eq_true c13
     clear c13
     by_cases c14 : ((l0_0.length : Int) : Int).toNat ≤ 35184372088832
     ·
      rw [if_pos c14] at H
      have c14b0 := eq_true c14
      have c14b1 : decide (((l0_0.length : Int) : Int).toNat ≤ 35184372088832) = true := decide_eq_true c14
      clear c14
      obtain ⟨y236, hy236⟩ : ∃ y_ : List Int, y_ = (List.replicate ((l0_0.length : Int) : Int).toNat 0) := ⟨_, rfl⟩
      replace H : (if 0 < (y236.length : Int) then (impl_LeafRow.l0 kj2 (y236.set (0 : Int).toNat a1) (([] : List (S67))) l0_0 (l0_0.length : Int) 0 l0_0 l0_1) else (none)) = some (r1, r2) := by first | (rw [hy236]; with_reducible exact H) | (have H2_ := (Option.bind_some _ _).symm.trans H; rw [hy236]; with_reducible exact H2_) | (have H2_ := (Option.bind_some _ _).symm.trans H; with_reducible exact H2_) | with_reducible exact H | (rw [hy236]; exact H) | exact H
      have Ny236 := Aside0.mk hy236
      clear hy236
      obtain ⟨y239, hy239⟩ : ∃ y_ : List (S67), y_ = (([] : List (S67))) := ⟨_, rfl⟩
      replace H : (if 0 < (y236.length : Int) then (impl_LeafRow.l0 kj2 (y236.set (0 : Int).toNat a1) y239 l0_0 (l0_0.length : Int) 0 l0_0 l0_1) else (none)) = some (r1, r2) := by first | (rw [hy239]; with_reducible exact H) | (have H2_ := (Option.bind_some _ _).symm.trans H; rw [hy239]; with_reducible exact H2_) | (have H2_ := (Option.bind_some _ _).symm.trans H; with_reducible exact H2_) | with_reducible exact H | (rw [hy239]; exact H) | exact H
      have Ny239 := Aside0.mk hy239
      clear hy239
      by_cases c15 : 0 < (y236.length : Int)
      ·
       rw [if_pos c15] at H
       have c15b0 : decide (0 < (y236.length : Int)) = true := decide_eq_true c15
       have c15b1 : decide (0 < y236.length) = true := decide_eq_true (by omega)
       clear c15
       obtain ⟨y242, hy242⟩ : ∃ y_ : List Int, y_ = (y236.set (0 : Int).toNat a1) := ⟨_, rfl⟩
       replace H : (impl_LeafRow.l0 kj2 y242 y239 l0_0 (l0_0.length : Int) 0 l0_0 l0_1) = some (r1, r2) := by first | (rw [hy242]; with_reducible exact H) | (have H2_ := (Option.bind_some _ _).symm.trans H; rw [hy242]; with_reducible exact H2_) | (have H2_ := (Option.bind_some _ _).symm.trans H; with_reducible exact H2_) | with_reducible exact H | (rw [hy242]; exact H) | exact H
       have Ny242 := Aside0.mk hy242
       clear hy242
       have H' := Aside0.mk H
       clear H
       obtain ⟨hcz17_0, hfz17_0, hcz17_1, hfz17_1⟩ := cz2 BK233
       go_wp2_with (first | ((with_reducible refine gate_dst (N := 24) rfl ?_); refine Kd.R_make (Kd.int .i64) _ 3 rfl (N := 24) rfl 37 _ _ rfl (l0_0.length : Int) rfl rfl Try.underlying37 (.int .i64 0) 8 info3 rfl (by decide) (by omega) 0 (ok := fun _ => True) (okp := fun _ => True) rfl (fun _ hk => hk) trivial (of_decide_eq_true (by first | (with_reducible assumption) | assumption)) (Nat.le_trans (Nat.mul_le_mul_right _ (of_decide_eq_true (by first | (with_reducible assumption) | assumption) : (l0_0.length : Int).toNat ≤ 35184372088832)) (by omega)) (Below.refl _ _) (Nat.le_refl _) ?_; intro v237 w18 ho19 hb hg_ hnew_; clear hg_ hnew_; (first | rw [← Ny236.out] at ho19 | (simp only [Int.reduceToNat] at ho19; rw [← Ny236.out] at ho19)); have HO238 := Aside0.mk (Kd.R_lower ho19 (below_size (tB HB.out))); replace BK233 := bkB BK233 hb; replace HB := Aside0.mk (below_step (tB HB.out) hb); clear hb ho19) | ((with_reducible refine gate_dst (N := 25) rfl ?_); refine Kd.R_lit k67 _ 67 ?hg (N := 25) ?hd (xs := ([] : List (S67))) (inner := []) (ok := fun _ => True) (okp := fun _ => True) ?hr ?hp (fun _ hk => hk) trivial (Below.refl _ _) (Nat.le_refl _) (by simp) ?_; (case hd => rfl); (case hg => rfl); (case hr => first | (go_simp; done) | (go_simp; rfl)); (case hp => exact (Reps.none _ _)); intro v240 w20 ho21 hb hg_ hnew_; clear hg_ hnew_; (first | rw [← Ny239.out] at ho21 | (simp only [Int.reduceToNat] at ho21; rw [← Ny239.out] at ho21)); replace HO238 := Aside0.mk (Kd.R_below (tR HO238.out) hb); have HO241 := Aside0.mk (Kd.R_lower ho21 (below_size (tB HB.out))); replace BK233 := bkB BK233 hb; replace HB := Aside0.mk (below_step (tB HB.out) hb); clear hb ho21; have p16 : 0 ≤ (0 : Int) := (by omega); have q16 : (0 : Int) < ((y236.length : Int) : Int) := of_decide_eq_true (by first | (with_reducible assumption) | assumption); have qi16 : (0 < y236.length) = True := eq_true (by omega); obtain ⟨go16, co16, eo16, gb16, gl16, cl16, HG16⟩ := Kd.R_form HO238.out (by omega); (first | cases eo16 | (injection eo16 with ea_ en_ ec_; (first | subst ea_ | (injection ea_ with ea_; subst ea_)); subst ec_; clear en_)); have GB16 := Aside0.mk gb16; have GG16 := Aside0.mk HG16; clear gb16 gl16 HG16; obtain ⟨hx16_0, hf16_0⟩ := Kd.R_celln 0 HO238.out (0 : Int) p16 q16; (try rw [show ((0 : Int)).toNat = 0 from rfl] at hx16_0); (try simp only [Nat.reduceMul, Nat.zero_mul, Nat.zero_add, Nat.reduceAdd] at hx16_0); (try rw [show ((0 : Int)).toNat = 0 from rfl] at hf16_0); (try simp only [Nat.reduceMul, Nat.zero_mul, Nat.zero_add, Nat.reduceAdd] at hf16_0); replace p16 := eq_true p16; replace q16 := eq_true q16; obtain ⟨hy22_, hz22_⟩ := Kd.R_celln 0 HO238.out (0 : Int) (by omega) (of_decide_eq_true (by first | (with_reducible assumption) | assumption)); (try simp only [Int.reduceToNat, Int.toNat_zero, Int.toNat_ofNat, Nat.reduceMul, Nat.zero_mul, Nat.zero_add] at hy22_ hz22_); (try rw [show ((0 : Int)).toNat = 0 from rfl] at hy22_); (try rw [show ((0 : Int)).toNat = 0 from rfl] at hz22_); have HP22 := Kd.R_putg HO238.out (0 : Int) a1) | ((with_reducible refine gate_store (t := 3) (p := 28) rfl ?_); (try (rw [drewN_self w20]; generalize hq_ : World.drewN w20 _ = w20; have n0_ := Aside0.mk (Kd.R_at hq_ HO238.out); have n1_ := Aside0.mk (Kd.R_at hq_ HO241.out); have n2_ := Aside0.mk (blk_at hq_ BK233.out); have n3_ := Aside0.mk (below_at hq_ HB.out); clear hq_ HO238 HO241 BK233 HB; have HO238 := n0_; have HO241 := n1_; have BK233 := n2_; have HB := n3_; clear n0_ n1_ n2_ n3_; (try (obtain ⟨hy22_, hz22_⟩ := Kd.R_celln 0 HO238.out (0 : Int) (by omega) (of_decide_eq_true (by first | (with_reducible assumption) | assumption)))); (try (try simp only [Int.reduceToNat, Int.toNat_zero, Int.toNat_ofNat, Nat.reduceMul, Nat.zero_mul, Nat.zero_add] at hy22_ hz22_)); (try (try rw [show ((0 : Int)).toNat = 0 from rfl] at hy22_)); (try (try rw [show ((0 : Int)).toNat = 0 from rfl] at hz22_)); (try (have HP22 := Kd.R_putg HO238.out (0 : Int) a1)))); refine store_event (t := 3) (p := 28) (v := ?vo_w23) (w1 := (w20.setCell ⟨go16, (0 : Int).toNat, none⟩ (.int .i64 a1))) ?hg ?ho ?hn ?hr ?_; (case ho => rfl); (case hg => rfl); (case hn => rfl); (case hr => first | (go_simp; done) | (go_simp; rfl)); intro w23 hw; have hg : w20.grownBy w23 (some go16) := (by rw [hw]; exact HP22.2); have hp_ : Kd.R (Kd.int .i64) 3 w23 w.heap.size (fun _ => True) (.slice (some ⟨go16, 0, none⟩) y236.length co16) y242 := (by rw [hw, Ny242.out]; exact HP22.1); clear HP22; replace BK233 := Aside0.mk (blk_grown (g := gb233) (o := .cells #[.slice A0_0 l0_0.length c0_0, .slice A0_1 l0_1.length c0_1] 27 (0, 0)) (tK BK233.out) hg (Kd.R_ne HO238.out BK233.out (by decide))); replace HO241 := Aside0.mk (Kd.R_over' (v := (.slice (some ⟨go16, 0, none⟩) y236.length co16)) (tR HO241.out) (Kd.R_typed HO238.out) (by decide) hg); replace HO238 := Aside0.mk (hp_); replace HB := Aside0.mk ((by rw [hw]; exact below_set (HB.out) GB16.out : Below w.heap.size w w23)); clear hg hw hp_; obtain ⟨hcz24_0, hfz24_0, hcz24_1, hfz24_1⟩ := cz2 BK233))
       repeat (go_quiet (first | ((with_reducible refine gate_dst (N := 24) rfl ?_); refine Kd.R_make (Kd.int .i64) _ 3 rfl (N := 24) rfl 37 _ _ rfl (l0_0.length : Int) rfl rfl Try.underlying37 (.int .i64 0) 8 info3 rfl (by decide) (by omega) 0 (ok := fun _ => True) (okp := fun _ => True) rfl (fun _ hk => hk) trivial (of_decide_eq_true (by first | (with_reducible assumption) | assumption)) (Nat.le_trans (Nat.mul_le_mul_right _ (of_decide_eq_true (by first | (with_reducible assumption) | assumption) : (l0_0.length : Int).toNat ≤ 35184372088832)) (by omega)) (Below.refl _ _) (Nat.le_refl _) ?_; intro v237 w18 ho19 hb hg_ hnew_; clear hg_ hnew_; (first | rw [← Ny236.out] at ho19 | (simp only [Int.reduceToNat] at ho19; rw [← Ny236.out] at ho19)); have HO238 := Aside0.mk (Kd.R_lower ho19 (below_size (tB HB.out))); replace BK233 := bkB BK233 hb; replace HB := Aside0.mk (below_step (tB HB.out) hb); clear hb ho19) | ((with_reducible refine gate_dst (N := 25) rfl ?_); refine Kd.R_lit k67 _ 67 ?hg (N := 25) ?hd (xs := ([] : List (S67))) (inner := []) (ok := fun _ => True) (okp := fun _ => True) ?hr ?hp (fun _ hk => hk) trivial (Below.refl _ _) (Nat.le_refl _) (by simp) ?_; (case hd => rfl); (case hg => rfl); (case hr => first | (go_simp; done) | (go_simp; rfl)); (case hp => exact (Reps.none _ _)); intro v240 w20 ho21 hb hg_ hnew_; clear hg_ hnew_; (first | rw [← Ny239.out] at ho21 | (simp only [Int.reduceToNat] at ho21; rw [← Ny239.out] at ho21)); replace HO238 := Aside0.mk (Kd.R_below (tR HO238.out) hb); have HO241 := Aside0.mk (Kd.R_lower ho21 (below_size (tB HB.out))); replace BK233 := bkB BK233 hb; replace HB := Aside0.mk (below_step (tB HB.out) hb); clear hb ho21; have p16 : 0 ≤ (0 : Int) := (by omega); have q16 : (0 : Int) < ((y236.length : Int) : Int) := of_decide_eq_true (by first | (with_reducible assumption) | assumption); have qi16 : (0 < y236.length) = True := eq_true (by omega); obtain ⟨go16, co16, eo16, gb16, gl16, cl16, HG16⟩ := Kd.R_form HO238.out (by omega); (first | cases eo16 | (injection eo16 with ea_ en_ ec_; (first | subst ea_ | (injection ea_ with ea_; subst ea_)); subst ec_; clear en_)); have GB16 := Aside0.mk gb16; have GG16 := Aside0.mk HG16; clear gb16 gl16 HG16; obtain ⟨hx16_0, hf16_0⟩ := Kd.R_celln 0 HO238.out (0 : Int) p16 q16; (try rw [show ((0 : Int)).toNat = 0 from rfl] at hx16_0); (try simp only [Nat.reduceMul, Nat.zero_mul, Nat.zero_add, Nat.reduceAdd] at hx16_0); (try rw [show ((0 : Int)).toNat = 0 from rfl] at hf16_0); (try simp only [Nat.reduceMul, Nat.zero_mul, Nat.zero_add, Nat.reduceAdd] at hf16_0); replace p16 := eq_true p16; replace q16 := eq_true q16; obtain ⟨hy22_, hz22_⟩ := Kd.R_celln 0 HO238.out (0 : Int) (by omega) (of_decide_eq_true (by first | (with_reducible assumption) | assumption)); (try simp only [Int.reduceToNat, Int.toNat_zero, Int.toNat_ofNat, Nat.reduceMul, Nat.zero_mul, Nat.zero_add] at hy22_ hz22_); (try rw [show ((0 : Int)).toNat = 0 from rfl] at hy22_); (try rw [show ((0 : Int)).toNat = 0 from rfl] at hz22_); have HP22 := Kd.R_putg HO238.out (0 : Int) a1) | ((with_reducible refine gate_store (t := 3) (p := 28) rfl ?_); (try (rw [drewN_self w20]; generalize hq_ : World.drewN w20 _ = w20; have n0_ := Aside0.mk (Kd.R_at hq_ HO238.out); have n1_ := Aside0.mk (Kd.R_at hq_ HO241.out); have n2_ := Aside0.mk (blk_at hq_ BK233.out); have n3_ := Aside0.mk (below_at hq_ HB.out); clear hq_ HO238 HO241 BK233 HB; have HO238 := n0_; have HO241 := n1_; have BK233 := n2_; have HB := n3_; clear n0_ n1_ n2_ n3_; (try (obtain ⟨hy22_, hz22_⟩ := Kd.R_celln 0 HO238.out (0 : Int) (by omega) (of_decide_eq_true (by first | (with_reducible assumption) | assumption)))); (try (try simp only [Int.reduceToNat, Int.toNat_zero, Int.toNat_ofNat, Nat.reduceMul, Nat.zero_mul, Nat.zero_add] at hy22_ hz22_)); (try (try rw [show ((0 : Int)).toNat = 0 from rfl] at hy22_)); (try (try rw [show ((0 : Int)).toNat = 0 from rfl] at hz22_)); (try (have HP22 := Kd.R_putg HO238.out (0 : Int) a1)))); refine store_event (t := 3) (p := 28) (v := ?vo_w23) (w1 := (w20.setCell ⟨go16, (0 : Int).toNat, none⟩ (.int .i64 a1))) ?hg ?ho ?hn ?hr ?_; (case ho => rfl); (case hg => rfl); (case hn => rfl); (case hr => first | (go_simp; done) | (go_simp; rfl)); intro w23 hw; have hg : w20.grownBy w23 (some go16) := (by rw [hw]; exact HP22.2); have hp_ : Kd.R (Kd.int .i64) 3 w23 w.heap.size (fun _ => True) (.slice (some ⟨go16, 0, none⟩) y236.length co16) y242 := (by rw [hw, Ny242.out]; exact HP22.1); clear HP22; replace BK233 := Aside0.mk (blk_grown (g := gb233) (o := .cells #[.slice A0_0 l0_0.length c0_0, .slice A0_1 l0_1.length c0_1] 27 (0, 0)) (tK BK233.out) hg (Kd.R_ne HO238.out BK233.out (by decide))); replace HO241 := Aside0.mk (Kd.R_over' (v := (.slice (some ⟨go16, 0, none⟩) y236.length co16)) (tR HO241.out) (Kd.R_typed HO238.out) (by decide) hg); replace HO238 := Aside0.mk (hp_); replace HB := Aside0.mk ((by rw [hw]; exact below_set (HB.out) GB16.out : Below w.heap.size w w23)); clear hg hw hp_; obtain ⟨hcz24_0, hfz24_0, hcz24_1, hfz24_1⟩ := cz2 BK233)); try go_wp2_with (first | ((with_reducible refine gate_dst (N := 24) rfl ?_); refine Kd.R_make (Kd.int .i64) _ 3 rfl (N := 24) rfl 37 _ _ rfl (l0_0.length : Int) rfl rfl Try.underlying37 (.int .i64 0) 8 info3 rfl (by decide) (by omega) 0 (ok := fun _ => True) (okp := fun _ => True) rfl (fun _ hk => hk) trivial (of_decide_eq_true (by first | (with_reducible assumption) | assumption)) (Nat.le_trans (Nat.mul_le_mul_right _ (of_decide_eq_true (by first | (with_reducible assumption) | assumption) : (l0_0.length : Int).toNat ≤ 35184372088832)) (by omega)) (Below.refl _ _) (Nat.le_refl _) ?_; intro v237 w18 ho19 hb hg_ hnew_; clear hg_ hnew_; (first | rw [← Ny236.out] at ho19 | (simp only [Int.reduceToNat] at ho19; rw [← Ny236.out] at ho19)); have HO238 := Aside0.mk (Kd.R_lower ho19 (below_size (tB HB.out))); replace BK233 := bkB BK233 hb; replace HB := Aside0.mk (below_step (tB HB.out) hb); clear hb ho19) | ((with_reducible refine gate_dst (N := 25) rfl ?_); refine Kd.R_lit k67 _ 67 ?hg (N := 25) ?hd (xs := ([] : List (S67))) (inner := []) (ok := fun _ => True) (okp := fun _ => True) ?hr ?hp (fun _ hk => hk) trivial (Below.refl _ _) (Nat.le_refl _) (by simp) ?_; (case hd => rfl); (case hg => rfl); (case hr => first | (go_simp; done) | (go_simp; rfl)); (case hp => exact (Reps.none _ _)); intro v240 w20 ho21 hb hg_ hnew_; clear hg_ hnew_; (first | rw [← Ny239.out] at ho21 | (simp only [Int.reduceToNat] at ho21; rw [← Ny239.out] at ho21)); replace HO238 := Aside0.mk (Kd.R_below (tR HO238.out) hb); have HO241 := Aside0.mk (Kd.R_lower ho21 (below_size (tB HB.out))); replace BK233 := bkB BK233 hb; replace HB := Aside0.mk (below_step (tB HB.out) hb); clear hb ho21; have p16 : 0 ≤ (0 : Int) := (by omega); have q16 : (0 : Int) < ((y236.length : Int) : Int) := of_decide_eq_true (by first | (with_reducible assumption) | assumption); have qi16 : (0 < y236.length) = True := eq_true (by omega); obtain ⟨go16, co16, eo16, gb16, gl16, cl16, HG16⟩ := Kd.R_form HO238.out (by omega); (first | cases eo16 | (injection eo16 with ea_ en_ ec_; (first | subst ea_ | (injection ea_ with ea_; subst ea_)); subst ec_; clear en_)); have GB16 := Aside0.mk gb16; have GG16 := Aside0.mk HG16; clear gb16 gl16 HG16; obtain ⟨hx16_0, hf16_0⟩ := Kd.R_celln 0 HO238.out (0 : Int) p16 q16; (try rw [show ((0 : Int)).toNat = 0 from rfl] at hx16_0); (try simp only [Nat.reduceMul, Nat.zero_mul, Nat.zero_add, Nat.reduceAdd] at hx16_0); (try rw [show ((0 : Int)).toNat = 0 from rfl] at hf16_0); (try simp only [Nat.reduceMul, Nat.zero_mul, Nat.zero_add, Nat.reduceAdd] at hf16_0); replace p16 := eq_true p16; replace q16 := eq_true q16; obtain ⟨hy22_, hz22_⟩ := Kd.R_celln 0 HO238.out (0 : Int) (by omega) (of_decide_eq_true (by first | (with_reducible assumption) | assumption)); (try simp only [Int.reduceToNat, Int.toNat_zero, Int.toNat_ofNat, Nat.reduceMul, Nat.zero_mul, Nat.zero_add] at hy22_ hz22_); (try rw [show ((0 : Int)).toNat = 0 from rfl] at hy22_); (try rw [show ((0 : Int)).toNat = 0 from rfl] at hz22_); have HP22 := Kd.R_putg HO238.out (0 : Int) a1) | ((with_reducible refine gate_store (t := 3) (p := 28) rfl ?_); (try (rw [drewN_self w20]; generalize hq_ : World.drewN w20 _ = w20; have n0_ := Aside0.mk (Kd.R_at hq_ HO238.out); have n1_ := Aside0.mk (Kd.R_at hq_ HO241.out); have n2_ := Aside0.mk (blk_at hq_ BK233.out); have n3_ := Aside0.mk (below_at hq_ HB.out); clear hq_ HO238 HO241 BK233 HB; have HO238 := n0_; have HO241 := n1_; have BK233 := n2_; have HB := n3_; clear n0_ n1_ n2_ n3_; (try (obtain ⟨hy22_, hz22_⟩ := Kd.R_celln 0 HO238.out (0 : Int) (by omega) (of_decide_eq_true (by first | (with_reducible assumption) | assumption)))); (try (try simp only [Int.reduceToNat, Int.toNat_zero, Int.toNat_ofNat, Nat.reduceMul, Nat.zero_mul, Nat.zero_add] at hy22_ hz22_)); (try (try rw [show ((0 : Int)).toNat = 0 from rfl] at hy22_)); (try (try rw [show ((0 : Int)).toNat = 0 from rfl] at hz22_)); (try (have HP22 := Kd.R_putg HO238.out (0 : Int) a1)))); refine store_event (t := 3) (p := 28) (v := ?vo_w23) (w1 := (w20.setCell ⟨go16, (0 : Int).toNat, none⟩ (.int .i64 a1))) ?hg ?ho ?hn ?hr ?_; (case ho => rfl); (case hg => rfl); (case hn => rfl); (case hr => first | (go_simp; done) | (go_simp; rfl)); intro w23 hw; have hg : w20.grownBy w23 (some go16) := (by rw [hw]; exact HP22.2); have hp_ : Kd.R (Kd.int .i64) 3 w23 w.heap.size (fun _ => True) (.slice (some ⟨go16, 0, none⟩) y236.length co16) y242 := (by rw [hw, Ny242.out]; exact HP22.1); clear HP22; replace BK233 := Aside0.mk (blk_grown (g := gb233) (o := .cells #[.slice A0_0 l0_0.length c0_0, .slice A0_1 l0_1.length c0_1] 27 (0, 0)) (tK BK233.out) hg (Kd.R_ne HO238.out BK233.out (by decide))); replace HO241 := Aside0.mk (Kd.R_over' (v := (.slice (some ⟨go16, 0, none⟩) y236.length co16)) (tR HO241.out) (Kd.R_typed HO238.out) (by decide) hg); replace HO238 := Aside0.mk (hp_); replace HB := Aside0.mk ((by rw [hw]; exact below_set (HB.out) GB16.out : Below w.heap.size w w23)); clear hg hw hp_; obtain ⟨hcz24_0, hfz24_0, hcz24_1, hfz24_1⟩ := cz2 BK233)))
       go_loopg [7, 32] kj2 (fun kq v7 v32 w' => ∃ (x6_2 : List Int) (x7_2 : List (S67)) (x32_2 : Int), v32 = .int .i64 x32_2 ∧ Aside0 (impl_LeafRow.l0 kq x6_2 x7_2 l0_0 (l0_0.length : Int) x32_2 l0_0 l0_1 = some (r1, r2)) ∧ Aside0 (kq ≤ kj2) ∧ Aside0 (Kd.R (Kd.int .i64) 3 w' w.heap.size (fun _ => True) (.slice (some ⟨go16, 0, none⟩) y236.length co16) x6_2) ∧ Aside0 (Kd.R k67 67 w' w.heap.size (fun _ => True) v7 x7_2) ∧ Aside0 (w'.heap[gb233]? = some (.cells #[(.slice A0_0 l0_0.length c0_0), (.slice A0_1 l0_1.length c0_1)] 27 (0, 0))) ∧ Aside0 (Below w.heap.size w w'))
       case atStart => exact ⟨(y242), (y239), (0), (by first | rfl | (simp; done) | (simp [wrap64]; done) | (simp [*]; done)), H', ⟨Nat.le_refl _⟩, ⟨tR HO238.out⟩, ⟨tR HO241.out⟩, ⟨tK BK233.out⟩, ⟨tB HB.out⟩⟩
       case round =>
        clear H'
        try clear c1
        try clear p1
        try clear q1
        try clear hx1
        try clear qi1
        try clear p2
        try clear c4
        try clear c6
        try clear p6
        try clear c12
        try clear c13
        try clear c13b0
        try clear c13b1
        try clear c14
        try clear c14b0
        try clear c14b1
        try clear c15
        try clear c15b0
        try clear c15b1
        try clear p16
        try clear q16
        try clear hx16
        try clear qi16
        try clear hf16
        try clear hcz10_0
        try clear hcz10_1
        try clear hcz17_0
        try clear hcz17_1
        try clear hcz24_0
        try clear hcz24_1
        try clear hcz8_0
        try clear hcz8_1
        try clear hfz10_0
        try clear hfz10_1
        try clear hfz17_0
        try clear hfz17_1
        try clear hfz24_0
        try clear hfz24_1
        try clear hfz8_0
        try clear hfz8_1
        try clear hx16_0
        try clear p16
        try clear p2
        try clear p6
        try clear q16
        obtain ⟨x6_2, x7_2, x32_2, rfl, HA, HK2, HO_6, HO_7, BK233, HB⟩ := hrel
        have hl6_2 := (Kd.R_reads' HO_6.out).1
        rw [hl6_2] at HO_6
        (try simp only [hl6_2])
        (try simp only [hl6_2] at BK233)
        (try simp only [hl6_2] at HO_7)
        cases gk with
        | zero => exact absurd HA.out (by simp [impl_LeafRow.l0])
        | succ k2 =>
         have H := HA.out
         clear HA
         simp only [impl_LeafRow.l0] at H
         by_cases c25 : x32_2 < (l0_0.length : Int)
         ·
          rw [if_pos c25] at H
          have c25b0 : decide (x32_2 < (l0_0.length : Int)) = true := decide_eq_true c25
          clear c25
          by_cases c26 : 0 ≤ x32_2
          ·
           rw [if_pos c26] at H
           have c26b0 : decide (0 ≤ x32_2) = true := decide_eq_true c26
           clear c26
           by_cases c27 : x32_2 < (l0_0.length : Int)
           ·
            rw [if_pos c27] at H
            have c27b0 : decide (x32_2 < (l0_0.length : Int)) = true := decide_eq_true c27
            clear c27
            by_cases c28 : x32_2 < (l0_1.length : Int)
            ·
             rw [if_pos c28] at H
             have c28b0 : decide (x32_2 < (l0_1.length : Int)) = true := decide_eq_true c28
             clear c28
             have H' := Aside0.mk H
             clear H
             have p247 : 0 ≤ (x32_2 : Int) := of_decide_eq_true (by first | (with_reducible assumption) | assumption)
             have q247 : x32_2 < (l0_0.length : Int) := of_decide_eq_true (by first | (with_reducible assumption) | assumption)
             obtain ⟨ad247, e247, hx247_0, hx247_1⟩ := at_T58 HR0_0.out x32_2 p247 q247
             cases e247
             replace hx247_0 := (HB.out.cell (World.block_lt_of_cell? w _ hx247_0)).trans hx247_0
             replace hx247_1 := (HB.out.cell (World.block_lt_of_cell? w _ hx247_1)).trans hx247_1
             replace p247 := eq_true p247
             replace q247 := eq_true q247
             go_wp2_with (first | ((with_reducible refine gate_dst (N := 9) rfl ?_); refine box_event ?hg (N := 9) ?hd (cs := #[.int .i64 0, .int .i64 0]) (t := 58) ?hr ?_; (case hd => rfl); (case hg => rfl); (case hr => first | (go_simp; done) | (go_simp; rfl)); intro gb248 hg w29 hbox hb; replace HO_6 := Aside0.mk (Kd.R_below (tR HO_6.out) hb); replace HO_7 := Aside0.mk (Kd.R_below (tR HO_7.out) hb); have BK248 := Aside0.mk (hbox); have GW248 := Aside0.mk (bS HB.out hg); have GE248 := Aside0.mk (bS HB.out hg); replace HB := Aside0.mk (below_step (tB HB.out) hb); have NB233_248 := Aside0.mk (nL BK233.out hg); have NB248_233 := Aside0.mk (nG BK233.out hg); replace BK233 := bkB BK233 hb; clear hb hbox hg; have hnb30 := NB248_233.out; have hnc30 := NB233_248.out; obtain ⟨hcz31_0, hfz31_0, hcz31_1, hfz31_1⟩ := cz2 BK248; obtain ⟨hcz32_0, hfz32_0, hcz32_1, hfz32_1⟩ := cz2 BK233; have p249 : 0 ≤ (x32_2 : Int) := of_decide_eq_true (by first | (with_reducible assumption) | assumption); have q249 : x32_2 < (l0_1.length : Int) := of_decide_eq_true (by first | (with_reducible assumption) | assumption); obtain ⟨ad249, e249, hx249_0, hx249_1⟩ := at_T58 HR0_1.out x32_2 p249 q249; cases e249; have hn249_0 : ad249.block ≠ gb248 := Nat.ne_of_lt (Nat.lt_of_lt_of_le (by have := World.block_lt_of_cell? _ _ hx249_0; first | rwa [add_block] at this | exact this) GW248.out); have hn249_1 : ad249.block ≠ gb248 := Nat.ne_of_lt (Nat.lt_of_lt_of_le (by have := World.block_lt_of_cell? _ _ hx249_0; first | rwa [add_block] at this | exact this) GW248.out); replace hx249_0 := (HB.out.cell (World.block_lt_of_cell? w _ hx249_0)).trans hx249_0; replace hx249_1 := (HB.out.cell (World.block_lt_of_cell? w _ hx249_1)).trans hx249_1; replace hx249_0 := (cell_far (p := ⟨gb248, 0, none⟩) (by first | (rw [add_block]; exact hn249_0) | (show (Addr.add _ _).block ≠ _; rw [add_block]; exact hn249_0) | exact hn249_0) (.int .i64 ((rd_T58 l0_0 x32_2).f0))).trans hx249_0; replace hx249_1 := (cell_far (p := ⟨gb248, 0, none⟩) (by first | (rw [add_block]; exact hn249_0) | (show (Addr.add _ _).block ≠ _; rw [add_block]; exact hn249_0) | exact hn249_0) (.int .i64 ((rd_T58 l0_0 x32_2).f0))).trans hx249_1; replace hx249_0 := (cell_far (p := ⟨gb248, 1, none⟩) (by first | (rw [add_block]; exact hn249_1) | (show (Addr.add _ _).block ≠ _; rw [add_block]; exact hn249_1) | exact hn249_1) (.int .i64 ((rd_T58 l0_0 x32_2).f1))).trans hx249_0; replace hx249_1 := (cell_far (p := ⟨gb248, 1, none⟩) (by first | (rw [add_block]; exact hn249_1) | (show (Addr.add _ _).block ≠ _; rw [add_block]; exact hn249_1) | exact hn249_1) (.int .i64 ((rd_T58 l0_0 x32_2).f1))).trans hx249_1; (try have hy249_0 := fun (n_ : Nat) => (show ((((w29.drewN n_).setCell ⟨gb248, 0, none⟩ (.int .i64 ((rd_T58 l0_0 x32_2).f0))).setCell ⟨gb248, 1, none⟩ (.int .i64 ((rd_T58 l0_0 x32_2).f1)))).cell? _ = some _ from hx249_0)); (try have hy249_1 := fun (n_ : Nat) => (show ((((w29.drewN n_).setCell ⟨gb248, 0, none⟩ (.int .i64 ((rd_T58 l0_0 x32_2).f0))).setCell ⟨gb248, 1, none⟩ (.int .i64 ((rd_T58 l0_0 x32_2).f1)))).cell? _ = some _ from hx249_1)); clear hn249_0; clear hn249_1; replace p249 := eq_true p249; replace q249 := eq_true q249))
             repeat (go_quiet (first | ((with_reducible refine gate_dst (N := 9) rfl ?_); refine box_event ?hg (N := 9) ?hd (cs := #[.int .i64 0, .int .i64 0]) (t := 58) ?hr ?_; (case hd => rfl); (case hg => rfl); (case hr => first | (go_simp; done) | (go_simp; rfl)); intro gb248 hg w29 hbox hb; replace HO_6 := Aside0.mk (Kd.R_below (tR HO_6.out) hb); replace HO_7 := Aside0.mk (Kd.R_below (tR HO_7.out) hb); have BK248 := Aside0.mk (hbox); have GW248 := Aside0.mk (bS HB.out hg); have GE248 := Aside0.mk (bS HB.out hg); replace HB := Aside0.mk (below_step (tB HB.out) hb); have NB233_248 := Aside0.mk (nL BK233.out hg); have NB248_233 := Aside0.mk (nG BK233.out hg); replace BK233 := bkB BK233 hb; clear hb hbox hg; have hnb30 := NB248_233.out; have hnc30 := NB233_248.out; obtain ⟨hcz31_0, hfz31_0, hcz31_1, hfz31_1⟩ := cz2 BK248; obtain ⟨hcz32_0, hfz32_0, hcz32_1, hfz32_1⟩ := cz2 BK233; have p249 : 0 ≤ (x32_2 : Int) := of_decide_eq_true (by first | (with_reducible assumption) | assumption); have q249 : x32_2 < (l0_1.length : Int) := of_decide_eq_true (by first | (with_reducible assumption) | assumption); obtain ⟨ad249, e249, hx249_0, hx249_1⟩ := at_T58 HR0_1.out x32_2 p249 q249; cases e249; have hn249_0 : ad249.block ≠ gb248 := Nat.ne_of_lt (Nat.lt_of_lt_of_le (by have := World.block_lt_of_cell? _ _ hx249_0; first | rwa [add_block] at this | exact this) GW248.out); have hn249_1 : ad249.block ≠ gb248 := Nat.ne_of_lt (Nat.lt_of_lt_of_le (by have := World.block_lt_of_cell? _ _ hx249_0; first | rwa [add_block] at this | exact this) GW248.out); replace hx249_0 := (HB.out.cell (World.block_lt_of_cell? w _ hx249_0)).trans hx249_0; replace hx249_1 := (HB.out.cell (World.block_lt_of_cell? w _ hx249_1)).trans hx249_1; replace hx249_0 := (cell_far (p := ⟨gb248, 0, none⟩) (by first | (rw [add_block]; exact hn249_0) | (show (Addr.add _ _).block ≠ _; rw [add_block]; exact hn249_0) | exact hn249_0) (.int .i64 ((rd_T58 l0_0 x32_2).f0))).trans hx249_0; replace hx249_1 := (cell_far (p := ⟨gb248, 0, none⟩) (by first | (rw [add_block]; exact hn249_0) | (show (Addr.add _ _).block ≠ _; rw [add_block]; exact hn249_0) | exact hn249_0) (.int .i64 ((rd_T58 l0_0 x32_2).f0))).trans hx249_1; replace hx249_0 := (cell_far (p := ⟨gb248, 1, none⟩) (by first | (rw [add_block]; exact hn249_1) | (show (Addr.add _ _).block ≠ _; rw [add_block]; exact hn249_1) | exact hn249_1) (.int .i64 ((rd_T58 l0_0 x32_2).f1))).trans hx249_0; replace hx249_1 := (cell_far (p := ⟨gb248, 1, none⟩) (by first | (rw [add_block]; exact hn249_1) | (show (Addr.add _ _).block ≠ _; rw [add_block]; exact hn249_1) | exact hn249_1) (.int .i64 ((rd_T58 l0_0 x32_2).f1))).trans hx249_1; (try have hy249_0 := fun (n_ : Nat) => (show ((((w29.drewN n_).setCell ⟨gb248, 0, none⟩ (.int .i64 ((rd_T58 l0_0 x32_2).f0))).setCell ⟨gb248, 1, none⟩ (.int .i64 ((rd_T58 l0_0 x32_2).f1)))).cell? _ = some _ from hx249_0)); (try have hy249_1 := fun (n_ : Nat) => (show ((((w29.drewN n_).setCell ⟨gb248, 0, none⟩ (.int .i64 ((rd_T58 l0_0 x32_2).f0))).setCell ⟨gb248, 1, none⟩ (.int .i64 ((rd_T58 l0_0 x32_2).f1)))).cell? _ = some _ from hx249_1)); clear hn249_0; clear hn249_1; replace p249 := eq_true p249; replace q249 := eq_true q249)); try go_wp2_with (first | ((with_reducible refine gate_dst (N := 9) rfl ?_); refine box_event ?hg (N := 9) ?hd (cs := #[.int .i64 0, .int .i64 0]) (t := 58) ?hr ?_; (case hd => rfl); (case hg => rfl); (case hr => first | (go_simp; done) | (go_simp; rfl)); intro gb248 hg w29 hbox hb; replace HO_6 := Aside0.mk (Kd.R_below (tR HO_6.out) hb); replace HO_7 := Aside0.mk (Kd.R_below (tR HO_7.out) hb); have BK248 := Aside0.mk (hbox); have GW248 := Aside0.mk (bS HB.out hg); have GE248 := Aside0.mk (bS HB.out hg); replace HB := Aside0.mk (below_step (tB HB.out) hb); have NB233_248 := Aside0.mk (nL BK233.out hg); have NB248_233 := Aside0.mk (nG BK233.out hg); replace BK233 := bkB BK233 hb; clear hb hbox hg; have hnb30 := NB248_233.out; have hnc30 := NB233_248.out; obtain ⟨hcz31_0, hfz31_0, hcz31_1, hfz31_1⟩ := cz2 BK248; obtain ⟨hcz32_0, hfz32_0, hcz32_1, hfz32_1⟩ := cz2 BK233; have p249 : 0 ≤ (x32_2 : Int) := of_decide_eq_true (by first | (with_reducible assumption) | assumption); have q249 : x32_2 < (l0_1.length : Int) := of_decide_eq_true (by first | (with_reducible assumption) | assumption); obtain ⟨ad249, e249, hx249_0, hx249_1⟩ := at_T58 HR0_1.out x32_2 p249 q249; cases e249; have hn249_0 : ad249.block ≠ gb248 := Nat.ne_of_lt (Nat.lt_of_lt_of_le (by have := World.block_lt_of_cell? _ _ hx249_0; first | rwa [add_block] at this | exact this) GW248.out); have hn249_1 : ad249.block ≠ gb248 := Nat.ne_of_lt (Nat.lt_of_lt_of_le (by have := World.block_lt_of_cell? _ _ hx249_0; first | rwa [add_block] at this | exact this) GW248.out); replace hx249_0 := (HB.out.cell (World.block_lt_of_cell? w _ hx249_0)).trans hx249_0; replace hx249_1 := (HB.out.cell (World.block_lt_of_cell? w _ hx249_1)).trans hx249_1; replace hx249_0 := (cell_far (p := ⟨gb248, 0, none⟩) (by first | (rw [add_block]; exact hn249_0) | (show (Addr.add _ _).block ≠ _; rw [add_block]; exact hn249_0) | exact hn249_0) (.int .i64 ((rd_T58 l0_0 x32_2).f0))).trans hx249_0; replace hx249_1 := (cell_far (p := ⟨gb248, 0, none⟩) (by first | (rw [add_block]; exact hn249_0) | (show (Addr.add _ _).block ≠ _; rw [add_block]; exact hn249_0) | exact hn249_0) (.int .i64 ((rd_T58 l0_0 x32_2).f0))).trans hx249_1; replace hx249_0 := (cell_far (p := ⟨gb248, 1, none⟩) (by first | (rw [add_block]; exact hn249_1) | (show (Addr.add _ _).block ≠ _; rw [add_block]; exact hn249_1) | exact hn249_1) (.int .i64 ((rd_T58 l0_0 x32_2).f1))).trans hx249_0; replace hx249_1 := (cell_far (p := ⟨gb248, 1, none⟩) (by first | (rw [add_block]; exact hn249_1) | (show (Addr.add _ _).block ≠ _; rw [add_block]; exact hn249_1) | exact hn249_1) (.int .i64 ((rd_T58 l0_0 x32_2).f1))).trans hx249_1; (try have hy249_0 := fun (n_ : Nat) => (show ((((w29.drewN n_).setCell ⟨gb248, 0, none⟩ (.int .i64 ((rd_T58 l0_0 x32_2).f0))).setCell ⟨gb248, 1, none⟩ (.int .i64 ((rd_T58 l0_0 x32_2).f1)))).cell? _ = some _ from hx249_0)); (try have hy249_1 := fun (n_ : Nat) => (show ((((w29.drewN n_).setCell ⟨gb248, 0, none⟩ (.int .i64 ((rd_T58 l0_0 x32_2).f0))).setCell ⟨gb248, 1, none⟩ (.int .i64 ((rd_T58 l0_0 x32_2).f1)))).cell? _ = some _ from hx249_1)); clear hn249_0; clear hn249_1; replace p249 := eq_true p249; replace q249 := eq_true q249)))
             go_loopg [7, 42] k2 (fun kq v7 v42 w' => ∃ (x6_3 : List Int) (x7_3 : List (S67)) (x42_3 : Int), v42 = .int .i64 x42_3 ∧ Aside0 (impl_LeafRow.l1 kq x6_3 x7_3 x32_2 l0_0 (l0_0.length : Int) x32_2 x42_3 l0_0 l0_1 ((rd_T58 l0_0 x32_2).f0) ((rd_T58 l0_0 x32_2).f1) ((rd_T58 l0_1 x32_2).f0) ((rd_T58 l0_1 x32_2).f1) = some (r1, r2)) ∧ Aside0 (kq ≤ k2) ∧ Aside0 (Kd.R (Kd.int .i64) 3 w' w.heap.size (fun _ => True) (.slice (some ⟨go16, 0, none⟩) x6_2.length co16) x6_3) ∧ Aside0 (Kd.R k67 67 w' w.heap.size (fun _ => True) v7 x7_3) ∧ Aside0 (w'.heap[gb233]? = some (.cells #[(.slice (some ad247) l0_0.length c0_0), (.slice (some ad249) l0_1.length c0_1)] 27 (0, 0))) ∧ Aside0 (w'.heap[gb248]? = some (.cells #[.int .i64 ((rd_T58 l0_0 x32_2).f0), .int .i64 ((rd_T58 l0_0 x32_2).f1)] 58 (0, 0))) ∧ Aside0 (Below w.heap.size w w'))
             case atStart => exact ⟨(x6_2), (x7_2), (0), (by first | rfl | (simp; done) | (simp [wrap64]; done) | (simp [*]; done)), H', ⟨Nat.le_refl _⟩, ⟨by (try simp only [hl6_2]); (with_reducible repeat (first | apply Kd.R_alloc | apply Kd.R_drewN | apply Kd.R_drew)); exact Kd.R_mono (Kd.R_far (p := ⟨gb248, 1, none⟩) (Kd.R_far (p := ⟨gb248, 0, none⟩) (Kd.R_types HO_6.out BK248.out (by decide)) (fun _ hk => hk.2) (.int .i64 ((rd_T58 l0_0 x32_2).f0))) (fun _ hk => hk.2) (.int .i64 ((rd_T58 l0_0 x32_2).f1))) (fun _ hk => trivial)⟩, ⟨by (try simp only [hl6_2]); (with_reducible repeat (first | apply Kd.R_alloc | apply Kd.R_drewN | apply Kd.R_drew)); exact Kd.R_mono (Kd.R_far (p := ⟨gb248, 1, none⟩) (Kd.R_far (p := ⟨gb248, 0, none⟩) (Kd.R_types HO_7.out BK248.out (by decide)) (fun _ hk => hk.2) (.int .i64 ((rd_T58 l0_0 x32_2).f0))) (fun _ hk => hk.2) (.int .i64 ((rd_T58 l0_0 x32_2).f1))) (fun _ hk => trivial)⟩, ⟨by (try simp only [hl6_2]); (with_reducible repeat (first | refine blk_drewN ?_ _ | refine blk_drew ?_ | refine blk_alloc ?_ _)); refine blk_far ?_ NB233_248.out _; (with_reducible repeat (first | refine blk_drewN ?_ _ | refine blk_drew ?_ | refine blk_alloc ?_ _)); refine blk_far ?_ NB233_248.out _; (with_reducible repeat (first | refine blk_drewN ?_ _ | refine blk_drew ?_ | refine blk_alloc ?_ _)); exact BK233.out⟩, ⟨by (try simp only [hl6_2]); (with_reducible repeat (first | refine blk_drewN ?_ _ | refine blk_drew ?_ | refine blk_alloc ?_ _)); refine blk_put (cs := #[.int .i64 ((rd_T58 l0_0 x32_2).f0), .int .i64 0]) ?_ 1 _ rfl; (with_reducible repeat (first | refine blk_drewN ?_ _ | refine blk_drew ?_ | refine blk_alloc ?_ _)); refine blk_put (cs := #[.int .i64 0, .int .i64 0]) ?_ 0 _ rfl; (with_reducible repeat (first | refine blk_drewN ?_ _ | refine blk_drew ?_ | refine blk_alloc ?_ _)); exact BK248.out⟩, ⟨tB HB.out⟩⟩
             case round =>
              clear H'
              try clear c1
              try clear p1
              try clear q1
              try clear hx1
              try clear qi1
              try clear c2
              try clear p2
              try clear q2
              try clear hx2
              try clear c3
              try clear c4
              try clear c6
              try clear p6
              try clear c12
              try clear c13
              try clear c13b0
              try clear c13b1
              try clear c14
              try clear c14b0
              try clear c14b1
              try clear c15
              try clear c15b0
              try clear c15b1
              try clear p16
              try clear q16
              try clear hx16
              try clear qi16
              try clear hf16
              try clear p24
              try clear q24
              try clear hx24
              try clear c25
              try clear c25b0
              try clear c26
              try clear c26b0
              try clear c27
              try clear c27b0
              try clear c28
              try clear c28b0
              try clear c30
              try clear hcz10_0
              try clear hcz10_1
              try clear hcz17_0
              try clear hcz17_1
              try clear hcz24_0
              try clear hcz24_1
              try clear hcz31_0
              try clear hcz31_1
              try clear hcz32_0
              try clear hcz32_1
              try clear hcz8_0
              try clear hcz8_1
              try clear hfz10_0
              try clear hfz10_1
              try clear hfz17_0
              try clear hfz17_1
              try clear hfz24_0
              try clear hfz24_1
              try clear hfz31_0
              try clear hfz31_1
              try clear hfz32_0
              try clear hfz32_1
              try clear hfz8_0
              try clear hfz8_1
              try clear hx16_0
              try clear hx247_0
              try clear hx247_1
              try clear hx249_0
              try clear hx249_1
              try clear p1
              try clear p16
              try clear p2
              try clear p247
              try clear p249
              try clear p6
              try clear q1
              try clear q16
              try clear q247
              try clear q249
              obtain ⟨x6_3, x7_3, x42_3, rfl, HA, HK3, HO_6, HO_7, BK233, BK248, HB⟩ := hrel
              have hl6_3 := (Kd.R_reads' HO_6.out).1
              rw [hl6_3] at HO_6
              (try simp only [hl6_3])
              (try simp only [hl6_3] at BK233)
              (try simp only [hl6_3] at BK248)
              (try simp only [hl6_3] at HO_7)
              cases gk with
              | zero => exact absurd HA.out (by simp [impl_LeafRow.l1])
              | succ k3 =>
               have H := HA.out
               clear HA
               simp only [impl_LeafRow.l1] at H
               by_cases c33 : x42_3 < 2
               ·
                rw [if_pos c33] at H
                have c33b0 : decide (x42_3 < 2) = true := decide_eq_true c33
                clear c33
                by_cases c34 : x42_3 = 0
                ·
                 subst c34
                 have H1 : (if 0 ≤ x32_2 then (if x32_2 < (x6_3.length : Int) then (if ((rd_T58 l0_1 x32_2).f0) < 0 then (if 0 ≤ (wrap64 (-((rd_T58 l0_1 x32_2).f0))) then (if (wrap64 (-((rd_T58 l0_1 x32_2).f0))) < (x6_3.length : Int) then (impl_LeafRow.l1 k3 (x6_3.set ((wrap64 (-((rd_T58 l0_1 x32_2).f0))) : Int).toNat (wrap64 ((rd x6_3 x32_2) - ((rd_T58 l0_0 x32_2).f0)))) x7_3 x32_2 l0_0 (l0_0.length : Int) x32_2 (wrap64 (0 + 1)) l0_0 l0_1 ((rd_T58 l0_0 x32_2).f0) ((rd_T58 l0_0 x32_2).f1) ((rd_T58 l0_1 x32_2).f0) ((rd_T58 l0_1 x32_2).f1)) else (none)) else (none)) else (if x7_3.length < 8796093022208 then (impl_LeafRow.l1 k3 x6_3 (x7_3 ++ [(⟨wrap64 ((rd x6_3 x32_2) - ((rd_T58 l0_0 x32_2).f0)), ((rd_T58 l0_1 x32_2).f0)⟩ : S67)]) x32_2 l0_0 (l0_0.length : Int) x32_2 (wrap64 (0 + 1)) l0_0 l0_1 ((rd_T58 l0_0 x32_2).f0) ((rd_T58 l0_0 x32_2).f1) ((rd_T58 l0_1 x32_2).f0) ((rd_T58 l0_1 x32_2).f1)) else (none))) else (none)) else (none)) = some (r1, r2) := by rw [if_pos rfl] at H; exact H
                 clear H
                 have H := H1
                 clear H1
                 by_cases c35 : 0 ≤ x32_2
                 ·
                  rw [if_pos c35] at H
                  have c35b0 : decide (0 ≤ x32_2) = true := decide_eq_true c35
                  clear c35
                  by_cases c36 : x32_2 < (x6_3.length : Int)
                  ·
                   rw [if_pos c36] at H
                   have c36b0 : decide (x32_2 < (x6_3.length : Int)) = true := decide_eq_true c36
                   clear c36
                   by_cases c37 : ((rd_T58 l0_1 x32_2).f0) < 0
                   ·
                    rw [if_pos c37] at H
                    have c37b0 : decide (((rd_T58 l0_1 x32_2).f0) < 0) = true := decide_eq_true c37
                    clear c37
                    obtain ⟨ji38, hji38⟩ : ∃ j_ : Int, (wrap64 (-((rd_T58 l0_1 x32_2).f0))) = j_ := ⟨_, rfl⟩
                    replace H : (if 0 ≤ (ji38) then (if (ji38) < (x6_3.length : Int) then (impl_LeafRow.l1 k3 (x6_3.set ((ji38) : Int).toNat (wrap64 ((rd x6_3 x32_2) - ((rd_T58 l0_0 x32_2).f0)))) x7_3 x32_2 l0_0 (l0_0.length : Int) x32_2 (wrap64 (0 + 1)) l0_0 l0_1 ((rd_T58 l0_0 x32_2).f0) ((rd_T58 l0_0 x32_2).f1) ((rd_T58 l0_1 x32_2).f0) ((rd_T58 l0_1 x32_2).f1)) else (none)) else (none)) = some (r1, r2) := by first | (rw [hji38] at H; exact H) | (simp only [hji38] at H ⊢; exact H)
                    have hji38w : (IntKind.i64.wrap (-((rd_T58 l0_1 x32_2).f0))) = ji38 := (i64_w _).trans hji38
                    by_cases c39 : 0 ≤ (ji38)
                    ·
                     rw [if_pos c39] at H
                     have c39b0 : decide (0 ≤ (ji38)) = true := decide_eq_true c39
                     clear c39
                     by_cases c40 : (ji38) < (x6_3.length : Int)
                     ·
                      rw [if_pos c40] at H
                      have c40b0 : decide ((ji38) < (x6_3.length : Int)) = true := decide_eq_true c40
                      clear c40
                      obtain ⟨y252, hy252⟩ : ∃ y_ : List Int, y_ = (x6_3.set ((ji38) : Int).toNat (wrap64 ((rd x6_3 x32_2) - ((rd_T58 l0_0 x32_2).f0)))) := ⟨_, rfl⟩
                      replace H : (impl_LeafRow.l1 k3 y252 x7_3 x32_2 l0_0 (l0_0.length : Int) x32_2 (wrap64 (0 + 1)) l0_0 l0_1 ((rd_T58 l0_0 x32_2).f0) ((rd_T58 l0_0 x32_2).f1) ((rd_T58 l0_1 x32_2).f0) ((rd_T58 l0_1 x32_2).f1)) = some (r1, r2) := by first | (rw [hy252]; with_reducible exact H) | (have H2_ := (Option.bind_some _ _).symm.trans H; rw [hy252]; with_reducible exact H2_) | (have H2_ := (Option.bind_some _ _).symm.trans H; with_reducible exact H2_) | with_reducible exact H | (rw [hy252]; exact H) | exact H
                      have Ny252 := Aside0.mk hy252
                      clear hy252
                      have H' := Aside0.mk H
                      clear H
                      have p250 : 0 ≤ (x32_2 : Int) := of_decide_eq_true (by first | (with_reducible assumption) | assumption)
                      have q250 : x32_2 < (x6_3.length : Int) := of_decide_eq_true (by first | (with_reducible assumption) | assumption)
                      obtain ⟨ad250, e250, hx250_0⟩ := Kd.at_int (Kd.R_reads' HO_6.out).2.2 x32_2 p250 q250
                      obtain rfl : (⟨go16, 0, none⟩ : Addr) = ad250 := (by injection e250)
                      (first | simp only [add_plain] at hx250_0 | simp only [add_at] at hx250_0 | simp only [Addr.add, Nat.zero_add] at hx250_0 | skip)
                      replace p250 := eq_true p250
                      replace q250 := eq_true q250
                      have hnb42 := NB248_233.out
                      have hnc42 := NB233_248.out
                      obtain ⟨hcz43_0, hfz43_0, hcz43_1, hfz43_1⟩ := cz2 BK248
                      have p251 : 0 ≤ (x32_2 : Int) := of_decide_eq_true (by first | (with_reducible assumption) | assumption)
                      have q251 : x32_2 < (x6_3.length : Int) := of_decide_eq_true (by first | (with_reducible assumption) | assumption)
                      obtain ⟨ad251, e251, hx251_0⟩ := Kd.at_int (Kd.R_reads' HO_6.out).2.2 x32_2 p251 q251
                      obtain rfl : (⟨go16, 0, none⟩ : Addr) = ad251 := (by injection e251)
                      (first | simp only [add_plain] at hx251_0 | simp only [add_at] at hx251_0 | simp only [Addr.add, Nat.zero_add] at hx251_0 | skip)
                      replace p251 := eq_true p251
                      replace q251 := eq_true q251
                      have p41 : 0 ≤ ((ji38) : Int) := of_decide_eq_true (by first | (with_reducible assumption) | assumption)
                      have q41 : ((ji38) : Int) < ((x6_3.length : Int) : Int) := of_decide_eq_true (by first | (with_reducible assumption) | assumption)
                      obtain ⟨hx41_0, hf41_0⟩ := Kd.R_celln 0 HO_6.out ((ji38) : Int) p41 q41
                      replace p41 := eq_true p41
                      replace q41 := eq_true q41
                      have HP44 := Kd.R_putg HO_6.out ((ji38) : Int) (wrap64 ((rd x6_3 x32_2) - ((rd_T58 l0_0 x32_2).f0)))
                      go_wp2_with (first | ((with_reducible refine gate_store (t := 3) (p := 68) rfl ?_); (try (rw [drewN_self wr]; generalize hq_ : World.drewN wr _ = wr; have n0_ := Aside0.mk (Kd.R_at hq_ HO_6.out); have n1_ := Aside0.mk (Kd.R_at hq_ HO_7.out); have n2_ := Aside0.mk (blk_at hq_ BK233.out); have n3_ := Aside0.mk (blk_at hq_ BK248.out); have n4_ := Aside0.mk (below_at hq_ HB.out); clear hq_ HO_6 HO_7 BK233 BK248 HB; have HO_6 := n0_; have HO_7 := n1_; have BK233 := n2_; have BK248 := n3_; have HB := n4_; clear n0_ n1_ n2_ n3_ n4_; (try (obtain ⟨hx41_0, hf41_0⟩ := Kd.R_celln 0 HO_6.out ((ji38) : Int) (of_eq_true p41) (of_eq_true q41))); (try (have HP44 := Kd.R_putg HO_6.out ((ji38) : Int) (wrap64 ((rd x6_3 x32_2) - ((rd_T58 l0_0 x32_2).f0))))))); refine store_event (t := 3) (p := 68) (v := ?vo_w45) (w1 := (wr.setCell ⟨go16, ((ji38) : Int).toNat, none⟩ (.int .i64 (wrap64 ((rd x6_3 x32_2) - ((rd_T58 l0_0 x32_2).f0)))))) ?hg ?ho ?hn ?hr ?_; (case ho => rfl); (case hg => rfl); (case hn => rfl); (case hr => first | (go_simp; done) | (go_simp; rfl)); intro w45 hw; have hg : wr.grownBy w45 (some go16) := (by rw [hw]; exact HP44.2); have hp_ : Kd.R (Kd.int .i64) 3 w45 w.heap.size (fun _ => True) (.slice (some ⟨go16, 0, none⟩) x6_3.length co16) y252 := (by rw [hw, Ny252.out]; exact HP44.1); clear HP44; replace HO_7 := Aside0.mk (Kd.R_over' (v := (.slice (some ⟨go16, 0, none⟩) x6_3.length co16)) (tR HO_7.out) (Kd.R_typed HO_6.out) (by decide) hg); replace BK233 := Aside0.mk (blk_grown (g := gb233) (o := .cells #[.slice (some ad247) l0_0.length c0_0, .slice (some ad249) l0_1.length c0_1] 27 (0, 0)) (tK BK233.out) hg (Kd.R_ne HO_6.out BK233.out (by decide))); replace BK248 := Aside0.mk (blk_grown (g := gb248) (o := .cells #[.int .i64 ((rd_T58 l0_0 x32_2).f0), .int .i64 ((rd_T58 l0_0 x32_2).f1)] 58 (0, 0)) (tK BK248.out) hg (Kd.R_ne HO_6.out BK248.out (by decide))); replace HO_6 := Aside0.mk (hp_); replace HB := Aside0.mk ((by rw [hw]; exact below_set (HB.out) GB16.out : Below w.heap.size w w45)); clear hg hw hp_))
                      repeat (go_quiet (first | ((with_reducible refine gate_store (t := 3) (p := 68) rfl ?_); (try (rw [drewN_self wr]; generalize hq_ : World.drewN wr _ = wr; have n0_ := Aside0.mk (Kd.R_at hq_ HO_6.out); have n1_ := Aside0.mk (Kd.R_at hq_ HO_7.out); have n2_ := Aside0.mk (blk_at hq_ BK233.out); have n3_ := Aside0.mk (blk_at hq_ BK248.out); have n4_ := Aside0.mk (below_at hq_ HB.out); clear hq_ HO_6 HO_7 BK233 BK248 HB; have HO_6 := n0_; have HO_7 := n1_; have BK233 := n2_; have BK248 := n3_; have HB := n4_; clear n0_ n1_ n2_ n3_ n4_; (try (obtain ⟨hx41_0, hf41_0⟩ := Kd.R_celln 0 HO_6.out ((ji38) : Int) (of_eq_true p41) (of_eq_true q41))); (try (have HP44 := Kd.R_putg HO_6.out ((ji38) : Int) (wrap64 ((rd x6_3 x32_2) - ((rd_T58 l0_0 x32_2).f0))))))); refine store_event (t := 3) (p := 68) (v := ?vo_w45) (w1 := (wr.setCell ⟨go16, ((ji38) : Int).toNat, none⟩ (.int .i64 (wrap64 ((rd x6_3 x32_2) - ((rd_T58 l0_0 x32_2).f0)))))) ?hg ?ho ?hn ?hr ?_; (case ho => rfl); (case hg => rfl); (case hn => rfl); (case hr => first | (go_simp; done) | (go_simp; rfl)); intro w45 hw; have hg : wr.grownBy w45 (some go16) := (by rw [hw]; exact HP44.2); have hp_ : Kd.R (Kd.int .i64) 3 w45 w.heap.size (fun _ => True) (.slice (some ⟨go16, 0, none⟩) x6_3.length co16) y252 := (by rw [hw, Ny252.out]; exact HP44.1); clear HP44; replace HO_7 := Aside0.mk (Kd.R_over' (v := (.slice (some ⟨go16, 0, none⟩) x6_3.length co16)) (tR HO_7.out) (Kd.R_typed HO_6.out) (by decide) hg); replace BK233 := Aside0.mk (blk_grown (g := gb233) (o := .cells #[.slice (some ad247) l0_0.length c0_0, .slice (some ad249) l0_1.length c0_1] 27 (0, 0)) (tK BK233.out) hg (Kd.R_ne HO_6.out BK233.out (by decide))); replace BK248 := Aside0.mk (blk_grown (g := gb248) (o := .cells #[.int .i64 ((rd_T58 l0_0 x32_2).f0), .int .i64 ((rd_T58 l0_0 x32_2).f1)] 58 (0, 0)) (tK BK248.out) hg (Kd.R_ne HO_6.out BK248.out (by decide))); replace HO_6 := Aside0.mk (hp_); replace HB := Aside0.mk ((by rw [hw]; exact below_set (HB.out) GB16.out : Below w.heap.size w w45)); clear hg hw hp_)); try go_wp2_with (first | ((with_reducible refine gate_store (t := 3) (p := 68) rfl ?_); (try (rw [drewN_self wr]; generalize hq_ : World.drewN wr _ = wr; have n0_ := Aside0.mk (Kd.R_at hq_ HO_6.out); have n1_ := Aside0.mk (Kd.R_at hq_ HO_7.out); have n2_ := Aside0.mk (blk_at hq_ BK233.out); have n3_ := Aside0.mk (blk_at hq_ BK248.out); have n4_ := Aside0.mk (below_at hq_ HB.out); clear hq_ HO_6 HO_7 BK233 BK248 HB; have HO_6 := n0_; have HO_7 := n1_; have BK233 := n2_; have BK248 := n3_; have HB := n4_; clear n0_ n1_ n2_ n3_ n4_; (try (obtain ⟨hx41_0, hf41_0⟩ := Kd.R_celln 0 HO_6.out ((ji38) : Int) (of_eq_true p41) (of_eq_true q41))); (try (have HP44 := Kd.R_putg HO_6.out ((ji38) : Int) (wrap64 ((rd x6_3 x32_2) - ((rd_T58 l0_0 x32_2).f0))))))); refine store_event (t := 3) (p := 68) (v := ?vo_w45) (w1 := (wr.setCell ⟨go16, ((ji38) : Int).toNat, none⟩ (.int .i64 (wrap64 ((rd x6_3 x32_2) - ((rd_T58 l0_0 x32_2).f0)))))) ?hg ?ho ?hn ?hr ?_; (case ho => rfl); (case hg => rfl); (case hn => rfl); (case hr => first | (go_simp; done) | (go_simp; rfl)); intro w45 hw; have hg : wr.grownBy w45 (some go16) := (by rw [hw]; exact HP44.2); have hp_ : Kd.R (Kd.int .i64) 3 w45 w.heap.size (fun _ => True) (.slice (some ⟨go16, 0, none⟩) x6_3.length co16) y252 := (by rw [hw, Ny252.out]; exact HP44.1); clear HP44; replace HO_7 := Aside0.mk (Kd.R_over' (v := (.slice (some ⟨go16, 0, none⟩) x6_3.length co16)) (tR HO_7.out) (Kd.R_typed HO_6.out) (by decide) hg); replace BK233 := Aside0.mk (blk_grown (g := gb233) (o := .cells #[.slice (some ad247) l0_0.length c0_0, .slice (some ad249) l0_1.length c0_1] 27 (0, 0)) (tK BK233.out) hg (Kd.R_ne HO_6.out BK233.out (by decide))); replace BK248 := Aside0.mk (blk_grown (g := gb248) (o := .cells #[.int .i64 ((rd_T58 l0_0 x32_2).f0), .int .i64 ((rd_T58 l0_0 x32_2).f1)] 58 (0, 0)) (tK BK248.out) hg (Kd.R_ne HO_6.out BK248.out (by decide))); replace HO_6 := Aside0.mk (hp_); replace HB := Aside0.mk ((by rw [hw]; exact below_set (HB.out) GB16.out : Below w.heap.size w w45)); clear hg hw hp_)))
                      (try simp only [← hl6_3])
                      go_roundg k3
                      case measure => have := HJ2.out; have := HK2.out; have := HK3.out; omega
                      case rel => exact ⟨(y252), (x7_3), (wrap64 (0 + 1)), (by first | rfl | (simp; done) | (simp [wrap64]; done) | (simp [*]; done)), H', ⟨by have := HJ2.out; have := HK2.out; have := HK3.out; omega⟩, ⟨by (try simp only [hl6_2]); (try simp only [hl6_3]); (with_reducible repeat (first | apply Kd.R_alloc | apply Kd.R_drewN | apply Kd.R_drew)); exact HO_6.out⟩, ⟨by (try simp only [hl6_2]); (try simp only [hl6_3]); (with_reducible repeat (first | apply Kd.R_alloc | apply Kd.R_drewN | apply Kd.R_drew)); exact HO_7.out⟩, ⟨by (try simp only [hl6_2]); (try simp only [hl6_3]); (with_reducible repeat (first | refine blk_drewN ?_ _ | refine blk_drew ?_ | refine blk_alloc ?_ _)); exact BK233.out⟩, ⟨by (try simp only [hl6_2]); (try simp only [hl6_3]); (with_reducible repeat (first | refine blk_drewN ?_ _ | refine blk_drew ?_ | refine blk_alloc ?_ _)); exact BK248.out⟩, ⟨tB HB.out⟩⟩
                     ·
                      rw [if_neg c40] at H
                      exact absurd H (by simp)
                    ·
                     rw [if_neg c39] at H
                     exact absurd H (by simp)
                   ·
                    rw [if_neg c37] at H
                    have c37b0 : decide (((rd_T58 l0_1 x32_2).f0) < 0) = false := decide_eq_false c37
                    clear c37
                    by_cases c46 : x7_3.length < 8796093022208
                    ·
                     rw [if_pos c46] at H
                     have LMc46 := Aside0.mk c46
                     clear c46
                     obtain ⟨y253, hy253⟩ : ∃ y_ : List (S67), y_ = (x7_3 ++ [(⟨wrap64 ((rd x6_3 x32_2) - ((rd_T58 l0_0 x32_2).f0)), ((rd_T58 l0_1 x32_2).f0)⟩ : S67)]) := ⟨_, rfl⟩
                     replace H : (impl_LeafRow.l1 k3 x6_3 y253 x32_2 l0_0 (l0_0.length : Int) x32_2 (wrap64 (0 + 1)) l0_0 l0_1 ((rd_T58 l0_0 x32_2).f0) ((rd_T58 l0_0 x32_2).f1) ((rd_T58 l0_1 x32_2).f0) ((rd_T58 l0_1 x32_2).f1)) = some (r1, r2) := by first | (rw [hy253]; with_reducible exact H) | (have H2_ := (Option.bind_some _ _).symm.trans H; rw [hy253]; with_reducible exact H2_) | (have H2_ := (Option.bind_some _ _).symm.trans H; with_reducible exact H2_) | with_reducible exact H | (rw [hy253]; exact H) | exact H
                     have Ny253 := Aside0.mk hy253
                     clear hy253
                     have H' := Aside0.mk H
                     clear H
                     have p250 : 0 ≤ (x32_2 : Int) := of_decide_eq_true (by first | (with_reducible assumption) | assumption)
                     have q250 : x32_2 < (x6_3.length : Int) := of_decide_eq_true (by first | (with_reducible assumption) | assumption)
                     obtain ⟨ad250, e250, hx250_0⟩ := Kd.at_int (Kd.R_reads' HO_6.out).2.2 x32_2 p250 q250
                     obtain rfl : (⟨go16, 0, none⟩ : Addr) = ad250 := (by injection e250)
                     (first | simp only [add_plain] at hx250_0 | simp only [add_at] at hx250_0 | simp only [Addr.add, Nat.zero_add] at hx250_0 | skip)
                     replace p250 := eq_true p250
                     replace q250 := eq_true q250
                     have hnb47 := NB248_233.out
                     have hnc47 := NB233_248.out
                     obtain ⟨hcz48_0, hfz48_0, hcz48_1, hfz48_1⟩ := cz2 BK248
                     have p251 : 0 ≤ (x32_2 : Int) := of_decide_eq_true (by first | (with_reducible assumption) | assumption)
                     have q251 : x32_2 < (x6_3.length : Int) := of_decide_eq_true (by first | (with_reducible assumption) | assumption)
                     obtain ⟨ad251, e251, hx251_0⟩ := Kd.at_int (Kd.R_reads' HO_6.out).2.2 x32_2 p251 q251
                     obtain rfl : (⟨go16, 0, none⟩ : Addr) = ad251 := (by injection e251)
                     (first | simp only [add_plain] at hx251_0 | simp only [add_at] at hx251_0 | simp only [Addr.add, Nat.zero_add] at hx251_0 | skip)
                     replace p251 := eq_true p251
                     replace q251 := eq_true q251
                     go_wp2_with (first | ((with_reducible refine gate_builtin (b := .append) (xs := #[.tmp 69, .tmp 73]) rfl ?_); at_builtin; refine Kd.R_append k67 (w0 := w) w.heap.size rfl (.tmp 69) (.tmp 73) 44 67 (.agg #[(.int .i64 0), (.int .i64 0)]) 16 rfl Try.underlying44 info67 rfl (by decide) (by omega) u7 x7_3 (⟨wrap64 ((rd x6_3 x32_2) - ((rd_T58 l0_0 x32_2).f0)), ((rd_T58 l0_1 x32_2).f0)⟩ : S67) [.int .i64 (wrap64 ((rd x6_3 x32_2) - ((rd_T58 l0_0 x32_2).f0))), .int .i64 ((rd_T58 l0_1 x32_2).f0)] (fun _ => True) (fun _ => False) rfl rfl ?aP (fun _ hk => hk.elim) ?aF ?aO ?aB ?aS ?aL ?_; (case aP => exact k67_mkM _ _ _ (⟨wrap64 ((rd x6_3 x32_2) - ((rd_T58 l0_0 x32_2).f0)), ((rd_T58 l0_1 x32_2).f0)⟩ : S67)); (case aB => exact (tB HB.out)); (case aF => exact (fun _ _ => trivial)); (case aO => exact (tR HO_7.out)); (case aS => exact (below_size (tB HB.out))); (case aL => have := LMc46.out; omega); intro v254 w49 ho hb hg hat; rw [← Ny253.out] at ho; replace HO_6 := Aside0.mk (Kd.R_over' (tR HO_6.out) (Kd.R_typed (tR HO_7.out)) (by decide) hg); replace BK233 := Aside0.mk (blk_grown (g := gb233) (o := .cells #[.slice (some ad247) l0_0.length c0_0, .slice (some ad249) l0_1.length c0_1] 27 (0, 0)) (tK BK233.out) hg (Kd.R_ne HO_7.out BK233.out (by decide))); replace BK248 := Aside0.mk (blk_grown (g := gb248) (o := .cells #[.int .i64 ((rd_T58 l0_0 x32_2).f0), .int .i64 ((rd_T58 l0_0 x32_2).f1)] 58 (0, 0)) (tK BK248.out) hg (Kd.R_ne HO_7.out BK248.out (by decide))); replace HB := Aside0.mk (hb); have HO255 := Aside0.mk (ho); clear HO_7; clear ho hb hg hat))
                     repeat (go_quiet (first | ((with_reducible refine gate_builtin (b := .append) (xs := #[.tmp 69, .tmp 73]) rfl ?_); at_builtin; refine Kd.R_append k67 (w0 := w) w.heap.size rfl (.tmp 69) (.tmp 73) 44 67 (.agg #[(.int .i64 0), (.int .i64 0)]) 16 rfl Try.underlying44 info67 rfl (by decide) (by omega) u7 x7_3 (⟨wrap64 ((rd x6_3 x32_2) - ((rd_T58 l0_0 x32_2).f0)), ((rd_T58 l0_1 x32_2).f0)⟩ : S67) [.int .i64 (wrap64 ((rd x6_3 x32_2) - ((rd_T58 l0_0 x32_2).f0))), .int .i64 ((rd_T58 l0_1 x32_2).f0)] (fun _ => True) (fun _ => False) rfl rfl ?aP (fun _ hk => hk.elim) ?aF ?aO ?aB ?aS ?aL ?_; (case aP => exact k67_mkM _ _ _ (⟨wrap64 ((rd x6_3 x32_2) - ((rd_T58 l0_0 x32_2).f0)), ((rd_T58 l0_1 x32_2).f0)⟩ : S67)); (case aB => exact (tB HB.out)); (case aF => exact (fun _ _ => trivial)); (case aO => exact (tR HO_7.out)); (case aS => exact (below_size (tB HB.out))); (case aL => have := LMc46.out; omega); intro v254 w49 ho hb hg hat; rw [← Ny253.out] at ho; replace HO_6 := Aside0.mk (Kd.R_over' (tR HO_6.out) (Kd.R_typed (tR HO_7.out)) (by decide) hg); replace BK233 := Aside0.mk (blk_grown (g := gb233) (o := .cells #[.slice (some ad247) l0_0.length c0_0, .slice (some ad249) l0_1.length c0_1] 27 (0, 0)) (tK BK233.out) hg (Kd.R_ne HO_7.out BK233.out (by decide))); replace BK248 := Aside0.mk (blk_grown (g := gb248) (o := .cells #[.int .i64 ((rd_T58 l0_0 x32_2).f0), .int .i64 ((rd_T58 l0_0 x32_2).f1)] 58 (0, 0)) (tK BK248.out) hg (Kd.R_ne HO_7.out BK248.out (by decide))); replace HB := Aside0.mk (hb); have HO255 := Aside0.mk (ho); clear HO_7; clear ho hb hg hat)); try go_wp2_with (first | ((with_reducible refine gate_builtin (b := .append) (xs := #[.tmp 69, .tmp 73]) rfl ?_); at_builtin; refine Kd.R_append k67 (w0 := w) w.heap.size rfl (.tmp 69) (.tmp 73) 44 67 (.agg #[(.int .i64 0), (.int .i64 0)]) 16 rfl Try.underlying44 info67 rfl (by decide) (by omega) u7 x7_3 (⟨wrap64 ((rd x6_3 x32_2) - ((rd_T58 l0_0 x32_2).f0)), ((rd_T58 l0_1 x32_2).f0)⟩ : S67) [.int .i64 (wrap64 ((rd x6_3 x32_2) - ((rd_T58 l0_0 x32_2).f0))), .int .i64 ((rd_T58 l0_1 x32_2).f0)] (fun _ => True) (fun _ => False) rfl rfl ?aP (fun _ hk => hk.elim) ?aF ?aO ?aB ?aS ?aL ?_; (case aP => exact k67_mkM _ _ _ (⟨wrap64 ((rd x6_3 x32_2) - ((rd_T58 l0_0 x32_2).f0)), ((rd_T58 l0_1 x32_2).f0)⟩ : S67)); (case aB => exact (tB HB.out)); (case aF => exact (fun _ _ => trivial)); (case aO => exact (tR HO_7.out)); (case aS => exact (below_size (tB HB.out))); (case aL => have := LMc46.out; omega); intro v254 w49 ho hb hg hat; rw [← Ny253.out] at ho; replace HO_6 := Aside0.mk (Kd.R_over' (tR HO_6.out) (Kd.R_typed (tR HO_7.out)) (by decide) hg); replace BK233 := Aside0.mk (blk_grown (g := gb233) (o := .cells #[.slice (some ad247) l0_0.length c0_0, .slice (some ad249) l0_1.length c0_1] 27 (0, 0)) (tK BK233.out) hg (Kd.R_ne HO_7.out BK233.out (by decide))); replace BK248 := Aside0.mk (blk_grown (g := gb248) (o := .cells #[.int .i64 ((rd_T58 l0_0 x32_2).f0), .int .i64 ((rd_T58 l0_0 x32_2).f1)] 58 (0, 0)) (tK BK248.out) hg (Kd.R_ne HO_7.out BK248.out (by decide))); replace HB := Aside0.mk (hb); have HO255 := Aside0.mk (ho); clear HO_7; clear ho hb hg hat)))
                     (try simp only [← hl6_3])
                     go_roundg k3
                     case measure => have := HJ2.out; have := HK2.out; have := HK3.out; omega
                     case rel => exact ⟨(x6_3), (y253), (wrap64 (0 + 1)), (by first | rfl | (simp; done) | (simp [wrap64]; done) | (simp [*]; done)), H', ⟨by have := HJ2.out; have := HK2.out; have := HK3.out; omega⟩, ⟨by (try simp only [hl6_2]); (try simp only [hl6_3]); (with_reducible repeat (first | apply Kd.R_alloc | apply Kd.R_drewN | apply Kd.R_drew)); exact HO_6.out⟩, ⟨by (try simp only [hl6_2]); (try simp only [hl6_3]); (with_reducible repeat (first | apply Kd.R_alloc | apply Kd.R_drewN | apply Kd.R_drew)); exact HO255.out⟩, ⟨by (try simp only [hl6_2]); (try simp only [hl6_3]); (with_reducible repeat (first | refine blk_drewN ?_ _ | refine blk_drew ?_ | refine blk_alloc ?_ _)); exact BK233.out⟩, ⟨by (try simp only [hl6_2]); (try simp only [hl6_3]); (with_reducible repeat (first | refine blk_drewN ?_ _ | refine blk_drew ?_ | refine blk_alloc ?_ _)); exact BK248.out⟩, ⟨tB HB.out⟩⟩
                    ·
                     rw [if_neg c46] at H
                     exact absurd H (by simp)
                  ·
                   rw [if_neg c36] at H
                   exact absurd H (by simp)
                 ·
                  rw [if_neg c35] at H
                  exact absurd H (by simp)
                ·
                 rw [if_neg c34] at H
                 have c34b0 : (x42_3 == 0) = false := beq_eq_false_iff_ne.mpr c34
                 have c34b1 : (x42_3 != 0) = true := bne_iff_ne.mpr c34
                 by_cases c50 : x42_3 = 1
                 ·
                  subst c50
                  have H1 : (if 0 ≤ x32_2 then (if x32_2 < (x6_3.length : Int) then (if ((rd_T58 l0_1 x32_2).f1) < 0 then (if 0 ≤ (wrap64 (-((rd_T58 l0_1 x32_2).f1))) then (if (wrap64 (-((rd_T58 l0_1 x32_2).f1))) < (x6_3.length : Int) then (impl_LeafRow.l1 k3 (x6_3.set ((wrap64 (-((rd_T58 l0_1 x32_2).f1))) : Int).toNat (wrap64 ((rd x6_3 x32_2) + ((rd_T58 l0_0 x32_2).f1)))) x7_3 x32_2 l0_0 (l0_0.length : Int) x32_2 (wrap64 (1 + 1)) l0_0 l0_1 ((rd_T58 l0_0 x32_2).f0) ((rd_T58 l0_0 x32_2).f1) ((rd_T58 l0_1 x32_2).f0) ((rd_T58 l0_1 x32_2).f1)) else (none)) else (none)) else (if x7_3.length < 8796093022208 then (impl_LeafRow.l1 k3 x6_3 (x7_3 ++ [(⟨wrap64 ((rd x6_3 x32_2) + ((rd_T58 l0_0 x32_2).f1)), ((rd_T58 l0_1 x32_2).f1)⟩ : S67)]) x32_2 l0_0 (l0_0.length : Int) x32_2 (wrap64 (1 + 1)) l0_0 l0_1 ((rd_T58 l0_0 x32_2).f0) ((rd_T58 l0_0 x32_2).f1) ((rd_T58 l0_1 x32_2).f0) ((rd_T58 l0_1 x32_2).f1)) else (none))) else (none)) else (none)) = some (r1, r2) := by rw [if_pos rfl] at H; exact H
                  clear H
                  have H := H1
                  clear H1
                  by_cases c51 : 0 ≤ x32_2
                  ·
                   rw [if_pos c51] at H
                   have c51b0 : decide (0 ≤ x32_2) = true := decide_eq_true c51
                   clear c51
                   by_cases c52 : x32_2 < (x6_3.length : Int)
                   ·
                    rw [if_pos c52] at H
                    have c52b0 : decide (x32_2 < (x6_3.length : Int)) = true := decide_eq_true c52
                    clear c52
                    by_cases c53 : ((rd_T58 l0_1 x32_2).f1) < 0
                    ·
                     rw [if_pos c53] at H
                     have c53b0 : decide (((rd_T58 l0_1 x32_2).f1) < 0) = true := decide_eq_true c53
                     clear c53
                     obtain ⟨ji54, hji54⟩ : ∃ j_ : Int, (wrap64 (-((rd_T58 l0_1 x32_2).f1))) = j_ := ⟨_, rfl⟩
                     replace H : (if 0 ≤ (ji54) then (if (ji54) < (x6_3.length : Int) then (impl_LeafRow.l1 k3 (x6_3.set ((ji54) : Int).toNat (wrap64 ((rd x6_3 x32_2) + ((rd_T58 l0_0 x32_2).f1)))) x7_3 x32_2 l0_0 (l0_0.length : Int) x32_2 (wrap64 (1 + 1)) l0_0 l0_1 ((rd_T58 l0_0 x32_2).f0) ((rd_T58 l0_0 x32_2).f1) ((rd_T58 l0_1 x32_2).f0) ((rd_T58 l0_1 x32_2).f1)) else (none)) else (none)) = some (r1, r2) := by first | (rw [hji54] at H; exact H) | (simp only [hji54] at H ⊢; exact H)
                     have hji54w : (IntKind.i64.wrap (-((rd_T58 l0_1 x32_2).f1))) = ji54 := (i64_w _).trans hji54
                     by_cases c55 : 0 ≤ (ji54)
                     ·
                      rw [if_pos c55] at H
                      have c55b0 : decide (0 ≤ (ji54)) = true := decide_eq_true c55
                      clear c55
                      by_cases c56 : (ji54) < (x6_3.length : Int)
                      ·
                       rw [if_pos c56] at H
                       have c56b0 : decide ((ji54) < (x6_3.length : Int)) = true := decide_eq_true c56
                       clear c56
                       obtain ⟨y257, hy257⟩ : ∃ y_ : List Int, y_ = (x6_3.set ((ji54) : Int).toNat (wrap64 ((rd x6_3 x32_2) + ((rd_T58 l0_0 x32_2).f1)))) := ⟨_, rfl⟩
                       replace H : (impl_LeafRow.l1 k3 y257 x7_3 x32_2 l0_0 (l0_0.length : Int) x32_2 (wrap64 (1 + 1)) l0_0 l0_1 ((rd_T58 l0_0 x32_2).f0) ((rd_T58 l0_0 x32_2).f1) ((rd_T58 l0_1 x32_2).f0) ((rd_T58 l0_1 x32_2).f1)) = some (r1, r2) := by first | (rw [hy257]; with_reducible exact H) | (have H2_ := (Option.bind_some _ _).symm.trans H; rw [hy257]; with_reducible exact H2_) | (have H2_ := (Option.bind_some _ _).symm.trans H; with_reducible exact H2_) | with_reducible exact H | (rw [hy257]; exact H) | exact H
                       have Ny257 := Aside0.mk hy257
                       clear hy257
                       have H' := Aside0.mk H
                       clear H
                       have p256 : 0 ≤ (x32_2 : Int) := of_decide_eq_true (by first | (with_reducible assumption) | assumption)
                       have q256 : x32_2 < (x6_3.length : Int) := of_decide_eq_true (by first | (with_reducible assumption) | assumption)
                       obtain ⟨ad256, e256, hx256_0⟩ := Kd.at_int (Kd.R_reads' HO_6.out).2.2 x32_2 p256 q256
                       obtain rfl : (⟨go16, 0, none⟩ : Addr) = ad256 := (by injection e256)
                       (first | simp only [add_plain] at hx256_0 | simp only [add_at] at hx256_0 | simp only [Addr.add, Nat.zero_add] at hx256_0 | skip)
                       replace p256 := eq_true p256
                       replace q256 := eq_true q256
                       have hnb58 := NB248_233.out
                       have hnc58 := NB233_248.out
                       obtain ⟨hcz59_0, hfz59_0, hcz59_1, hfz59_1⟩ := cz2 BK248
                       have p57 : 0 ≤ ((ji54) : Int) := of_decide_eq_true (by first | (with_reducible assumption) | assumption)
                       have q57 : ((ji54) : Int) < ((x6_3.length : Int) : Int) := of_decide_eq_true (by first | (with_reducible assumption) | assumption)
                       obtain ⟨hx57_0, hf57_0⟩ := Kd.R_celln 0 HO_6.out ((ji54) : Int) p57 q57
                       replace p57 := eq_true p57
                       replace q57 := eq_true q57
                       have HP60 := Kd.R_putg HO_6.out ((ji54) : Int) (wrap64 ((rd x6_3 x32_2) + ((rd_T58 l0_0 x32_2).f1)))
                       go_wp2_with (first | ((with_reducible refine gate_store (t := 3) (p := 68) rfl ?_); (try (rw [drewN_self wr]; generalize hq_ : World.drewN wr _ = wr; have n0_ := Aside0.mk (Kd.R_at hq_ HO_6.out); have n1_ := Aside0.mk (Kd.R_at hq_ HO_7.out); have n2_ := Aside0.mk (blk_at hq_ BK233.out); have n3_ := Aside0.mk (blk_at hq_ BK248.out); have n4_ := Aside0.mk (below_at hq_ HB.out); clear hq_ HO_6 HO_7 BK233 BK248 HB; have HO_6 := n0_; have HO_7 := n1_; have BK233 := n2_; have BK248 := n3_; have HB := n4_; clear n0_ n1_ n2_ n3_ n4_; (try (obtain ⟨hx57_0, hf57_0⟩ := Kd.R_celln 0 HO_6.out ((ji54) : Int) (of_eq_true p57) (of_eq_true q57))); (try (have HP60 := Kd.R_putg HO_6.out ((ji54) : Int) (wrap64 ((rd x6_3 x32_2) + ((rd_T58 l0_0 x32_2).f1))))))); refine store_event (t := 3) (p := 68) (v := ?vo_w61) (w1 := (wr.setCell ⟨go16, ((ji54) : Int).toNat, none⟩ (.int .i64 (wrap64 ((rd x6_3 x32_2) + ((rd_T58 l0_0 x32_2).f1)))))) ?hg ?ho ?hn ?hr ?_; (case ho => rfl); (case hg => rfl); (case hn => rfl); (case hr => first | (go_simp; done) | (go_simp; rfl)); intro w61 hw; have hg : wr.grownBy w61 (some go16) := (by rw [hw]; exact HP60.2); have hp_ : Kd.R (Kd.int .i64) 3 w61 w.heap.size (fun _ => True) (.slice (some ⟨go16, 0, none⟩) x6_3.length co16) y257 := (by rw [hw, Ny257.out]; exact HP60.1); clear HP60; replace HO_7 := Aside0.mk (Kd.R_over' (v := (.slice (some ⟨go16, 0, none⟩) x6_3.length co16)) (tR HO_7.out) (Kd.R_typed HO_6.out) (by decide) hg); replace BK233 := Aside0.mk (blk_grown (g := gb233) (o := .cells #[.slice (some ad247) l0_0.length c0_0, .slice (some ad249) l0_1.length c0_1] 27 (0, 0)) (tK BK233.out) hg (Kd.R_ne HO_6.out BK233.out (by decide))); replace BK248 := Aside0.mk (blk_grown (g := gb248) (o := .cells #[.int .i64 ((rd_T58 l0_0 x32_2).f0), .int .i64 ((rd_T58 l0_0 x32_2).f1)] 58 (0, 0)) (tK BK248.out) hg (Kd.R_ne HO_6.out BK248.out (by decide))); replace HO_6 := Aside0.mk (hp_); replace HB := Aside0.mk ((by rw [hw]; exact below_set (HB.out) GB16.out : Below w.heap.size w w61)); clear hg hw hp_))
                       repeat (go_quiet (first | ((with_reducible refine gate_store (t := 3) (p := 68) rfl ?_); (try (rw [drewN_self wr]; generalize hq_ : World.drewN wr _ = wr; have n0_ := Aside0.mk (Kd.R_at hq_ HO_6.out); have n1_ := Aside0.mk (Kd.R_at hq_ HO_7.out); have n2_ := Aside0.mk (blk_at hq_ BK233.out); have n3_ := Aside0.mk (blk_at hq_ BK248.out); have n4_ := Aside0.mk (below_at hq_ HB.out); clear hq_ HO_6 HO_7 BK233 BK248 HB; have HO_6 := n0_; have HO_7 := n1_; have BK233 := n2_; have BK248 := n3_; have HB := n4_; clear n0_ n1_ n2_ n3_ n4_; (try (obtain ⟨hx57_0, hf57_0⟩ := Kd.R_celln 0 HO_6.out ((ji54) : Int) (of_eq_true p57) (of_eq_true q57))); (try (have HP60 := Kd.R_putg HO_6.out ((ji54) : Int) (wrap64 ((rd x6_3 x32_2) + ((rd_T58 l0_0 x32_2).f1))))))); refine store_event (t := 3) (p := 68) (v := ?vo_w61) (w1 := (wr.setCell ⟨go16, ((ji54) : Int).toNat, none⟩ (.int .i64 (wrap64 ((rd x6_3 x32_2) + ((rd_T58 l0_0 x32_2).f1)))))) ?hg ?ho ?hn ?hr ?_; (case ho => rfl); (case hg => rfl); (case hn => rfl); (case hr => first | (go_simp; done) | (go_simp; rfl)); intro w61 hw; have hg : wr.grownBy w61 (some go16) := (by rw [hw]; exact HP60.2); have hp_ : Kd.R (Kd.int .i64) 3 w61 w.heap.size (fun _ => True) (.slice (some ⟨go16, 0, none⟩) x6_3.length co16) y257 := (by rw [hw, Ny257.out]; exact HP60.1); clear HP60; replace HO_7 := Aside0.mk (Kd.R_over' (v := (.slice (some ⟨go16, 0, none⟩) x6_3.length co16)) (tR HO_7.out) (Kd.R_typed HO_6.out) (by decide) hg); replace BK233 := Aside0.mk (blk_grown (g := gb233) (o := .cells #[.slice (some ad247) l0_0.length c0_0, .slice (some ad249) l0_1.length c0_1] 27 (0, 0)) (tK BK233.out) hg (Kd.R_ne HO_6.out BK233.out (by decide))); replace BK248 := Aside0.mk (blk_grown (g := gb248) (o := .cells #[.int .i64 ((rd_T58 l0_0 x32_2).f0), .int .i64 ((rd_T58 l0_0 x32_2).f1)] 58 (0, 0)) (tK BK248.out) hg (Kd.R_ne HO_6.out BK248.out (by decide))); replace HO_6 := Aside0.mk (hp_); replace HB := Aside0.mk ((by rw [hw]; exact below_set (HB.out) GB16.out : Below w.heap.size w w61)); clear hg hw hp_)); try go_wp2_with (first | ((with_reducible refine gate_store (t := 3) (p := 68) rfl ?_); (try (rw [drewN_self wr]; generalize hq_ : World.drewN wr _ = wr; have n0_ := Aside0.mk (Kd.R_at hq_ HO_6.out); have n1_ := Aside0.mk (Kd.R_at hq_ HO_7.out); have n2_ := Aside0.mk (blk_at hq_ BK233.out); have n3_ := Aside0.mk (blk_at hq_ BK248.out); have n4_ := Aside0.mk (below_at hq_ HB.out); clear hq_ HO_6 HO_7 BK233 BK248 HB; have HO_6 := n0_; have HO_7 := n1_; have BK233 := n2_; have BK248 := n3_; have HB := n4_; clear n0_ n1_ n2_ n3_ n4_; (try (obtain ⟨hx57_0, hf57_0⟩ := Kd.R_celln 0 HO_6.out ((ji54) : Int) (of_eq_true p57) (of_eq_true q57))); (try (have HP60 := Kd.R_putg HO_6.out ((ji54) : Int) (wrap64 ((rd x6_3 x32_2) + ((rd_T58 l0_0 x32_2).f1))))))); refine store_event (t := 3) (p := 68) (v := ?vo_w61) (w1 := (wr.setCell ⟨go16, ((ji54) : Int).toNat, none⟩ (.int .i64 (wrap64 ((rd x6_3 x32_2) + ((rd_T58 l0_0 x32_2).f1)))))) ?hg ?ho ?hn ?hr ?_; (case ho => rfl); (case hg => rfl); (case hn => rfl); (case hr => first | (go_simp; done) | (go_simp; rfl)); intro w61 hw; have hg : wr.grownBy w61 (some go16) := (by rw [hw]; exact HP60.2); have hp_ : Kd.R (Kd.int .i64) 3 w61 w.heap.size (fun _ => True) (.slice (some ⟨go16, 0, none⟩) x6_3.length co16) y257 := (by rw [hw, Ny257.out]; exact HP60.1); clear HP60; replace HO_7 := Aside0.mk (Kd.R_over' (v := (.slice (some ⟨go16, 0, none⟩) x6_3.length co16)) (tR HO_7.out) (Kd.R_typed HO_6.out) (by decide) hg); replace BK233 := Aside0.mk (blk_grown (g := gb233) (o := .cells #[.slice (some ad247) l0_0.length c0_0, .slice (some ad249) l0_1.length c0_1] 27 (0, 0)) (tK BK233.out) hg (Kd.R_ne HO_6.out BK233.out (by decide))); replace BK248 := Aside0.mk (blk_grown (g := gb248) (o := .cells #[.int .i64 ((rd_T58 l0_0 x32_2).f0), .int .i64 ((rd_T58 l0_0 x32_2).f1)] 58 (0, 0)) (tK BK248.out) hg (Kd.R_ne HO_6.out BK248.out (by decide))); replace HO_6 := Aside0.mk (hp_); replace HB := Aside0.mk ((by rw [hw]; exact below_set (HB.out) GB16.out : Below w.heap.size w w61)); clear hg hw hp_)))
                       (try simp only [← hl6_3])
                       go_roundg k3
                       case measure => have := HJ2.out; have := HK2.out; have := HK3.out; omega
                       case rel => exact ⟨(y257), (x7_3), (wrap64 (1 + 1)), (by first | rfl | (simp; done) | (simp [wrap64]; done) | (simp [*]; done)), H', ⟨by have := HJ2.out; have := HK2.out; have := HK3.out; omega⟩, ⟨by (try simp only [hl6_2]); (try simp only [hl6_3]); (with_reducible repeat (first | apply Kd.R_alloc | apply Kd.R_drewN | apply Kd.R_drew)); exact HO_6.out⟩, ⟨by (try simp only [hl6_2]); (try simp only [hl6_3]); (with_reducible repeat (first | apply Kd.R_alloc | apply Kd.R_drewN | apply Kd.R_drew)); exact HO_7.out⟩, ⟨by (try simp only [hl6_2]); (try simp only [hl6_3]); (with_reducible repeat (first | refine blk_drewN ?_ _ | refine blk_drew ?_ | refine blk_alloc ?_ _)); exact BK233.out⟩, ⟨by (try simp only [hl6_2]); (try simp only [hl6_3]); (with_reducible repeat (first | refine blk_drewN ?_ _ | refine blk_drew ?_ | refine blk_alloc ?_ _)); exact BK248.out⟩, ⟨tB HB.out⟩⟩
                      ·
                       rw [if_neg c56] at H
                       exact absurd H (by simp)
                     ·
                      rw [if_neg c55] at H
                      exact absurd H (by simp)
                    ·
                     rw [if_neg c53] at H
                     have c53b0 : decide (((rd_T58 l0_1 x32_2).f1) < 0) = false := decide_eq_false c53
                     clear c53
                     by_cases c62 : x7_3.length < 8796093022208
                     ·
                      rw [if_pos c62] at H
                      have LMc62 := Aside0.mk c62
                      clear c62
                      obtain ⟨y258, hy258⟩ : ∃ y_ : List (S67), y_ = (x7_3 ++ [(⟨wrap64 ((rd x6_3 x32_2) + ((rd_T58 l0_0 x32_2).f1)), ((rd_T58 l0_1 x32_2).f1)⟩ : S67)]) := ⟨_, rfl⟩
                      replace H : (impl_LeafRow.l1 k3 x6_3 y258 x32_2 l0_0 (l0_0.length : Int) x32_2 (wrap64 (1 + 1)) l0_0 l0_1 ((rd_T58 l0_0 x32_2).f0) ((rd_T58 l0_0 x32_2).f1) ((rd_T58 l0_1 x32_2).f0) ((rd_T58 l0_1 x32_2).f1)) = some (r1, r2) := by first | (rw [hy258]; with_reducible exact H) | (have H2_ := (Option.bind_some _ _).symm.trans H; rw [hy258]; with_reducible exact H2_) | (have H2_ := (Option.bind_some _ _).symm.trans H; with_reducible exact H2_) | with_reducible exact H | (rw [hy258]; exact H) | exact H
                      have Ny258 := Aside0.mk hy258
                      clear hy258
                      have H' := Aside0.mk H
                      clear H
                      have p256 : 0 ≤ (x32_2 : Int) := of_decide_eq_true (by first | (with_reducible assumption) | assumption)
                      have q256 : x32_2 < (x6_3.length : Int) := of_decide_eq_true (by first | (with_reducible assumption) | assumption)
                      obtain ⟨ad256, e256, hx256_0⟩ := Kd.at_int (Kd.R_reads' HO_6.out).2.2 x32_2 p256 q256
                      obtain rfl : (⟨go16, 0, none⟩ : Addr) = ad256 := (by injection e256)
                      (first | simp only [add_plain] at hx256_0 | simp only [add_at] at hx256_0 | simp only [Addr.add, Nat.zero_add] at hx256_0 | skip)
                      replace p256 := eq_true p256
                      replace q256 := eq_true q256
                      have hnb63 := NB248_233.out
                      have hnc63 := NB233_248.out
                      obtain ⟨hcz64_0, hfz64_0, hcz64_1, hfz64_1⟩ := cz2 BK248
                      go_wp2_with (first | ((with_reducible refine gate_builtin (b := .append) (xs := #[.tmp 69, .tmp 73]) rfl ?_); at_builtin; refine Kd.R_append k67 (w0 := w) w.heap.size rfl (.tmp 69) (.tmp 73) 44 67 (.agg #[(.int .i64 0), (.int .i64 0)]) 16 rfl Try.underlying44 info67 rfl (by decide) (by omega) u7 x7_3 (⟨wrap64 ((rd x6_3 x32_2) + ((rd_T58 l0_0 x32_2).f1)), ((rd_T58 l0_1 x32_2).f1)⟩ : S67) [.int .i64 (wrap64 ((rd x6_3 x32_2) + ((rd_T58 l0_0 x32_2).f1))), .int .i64 ((rd_T58 l0_1 x32_2).f1)] (fun _ => True) (fun _ => False) rfl rfl ?aP (fun _ hk => hk.elim) ?aF ?aO ?aB ?aS ?aL ?_; (case aP => exact k67_mkM _ _ _ (⟨wrap64 ((rd x6_3 x32_2) + ((rd_T58 l0_0 x32_2).f1)), ((rd_T58 l0_1 x32_2).f1)⟩ : S67)); (case aB => exact (tB HB.out)); (case aF => exact (fun _ _ => trivial)); (case aO => exact (tR HO_7.out)); (case aS => exact (below_size (tB HB.out))); (case aL => have := LMc62.out; omega); intro v259 w65 ho hb hg hat; rw [← Ny258.out] at ho; replace HO_6 := Aside0.mk (Kd.R_over' (tR HO_6.out) (Kd.R_typed (tR HO_7.out)) (by decide) hg); replace BK233 := Aside0.mk (blk_grown (g := gb233) (o := .cells #[.slice (some ad247) l0_0.length c0_0, .slice (some ad249) l0_1.length c0_1] 27 (0, 0)) (tK BK233.out) hg (Kd.R_ne HO_7.out BK233.out (by decide))); replace BK248 := Aside0.mk (blk_grown (g := gb248) (o := .cells #[.int .i64 ((rd_T58 l0_0 x32_2).f0), .int .i64 ((rd_T58 l0_0 x32_2).f1)] 58 (0, 0)) (tK BK248.out) hg (Kd.R_ne HO_7.out BK248.out (by decide))); replace HB := Aside0.mk (hb); have HO260 := Aside0.mk (ho); clear HO_7; clear ho hb hg hat))
                      repeat (go_quiet (first | ((with_reducible refine gate_builtin (b := .append) (xs := #[.tmp 69, .tmp 73]) rfl ?_); at_builtin; refine Kd.R_append k67 (w0 := w) w.heap.size rfl (.tmp 69) (.tmp 73) 44 67 (.agg #[(.int .i64 0), (.int .i64 0)]) 16 rfl Try.underlying44 info67 rfl (by decide) (by omega) u7 x7_3 (⟨wrap64 ((rd x6_3 x32_2) + ((rd_T58 l0_0 x32_2).f1)), ((rd_T58 l0_1 x32_2).f1)⟩ : S67) [.int .i64 (wrap64 ((rd x6_3 x32_2) + ((rd_T58 l0_0 x32_2).f1))), .int .i64 ((rd_T58 l0_1 x32_2).f1)] (fun _ => True) (fun _ => False) rfl rfl ?aP (fun _ hk => hk.elim) ?aF ?aO ?aB ?aS ?aL ?_; (case aP => exact k67_mkM _ _ _ (⟨wrap64 ((rd x6_3 x32_2) + ((rd_T58 l0_0 x32_2).f1)), ((rd_T58 l0_1 x32_2).f1)⟩ : S67)); (case aB => exact (tB HB.out)); (case aF => exact (fun _ _ => trivial)); (case aO => exact (tR HO_7.out)); (case aS => exact (below_size (tB HB.out))); (case aL => have := LMc62.out; omega); intro v259 w65 ho hb hg hat; rw [← Ny258.out] at ho; replace HO_6 := Aside0.mk (Kd.R_over' (tR HO_6.out) (Kd.R_typed (tR HO_7.out)) (by decide) hg); replace BK233 := Aside0.mk (blk_grown (g := gb233) (o := .cells #[.slice (some ad247) l0_0.length c0_0, .slice (some ad249) l0_1.length c0_1] 27 (0, 0)) (tK BK233.out) hg (Kd.R_ne HO_7.out BK233.out (by decide))); replace BK248 := Aside0.mk (blk_grown (g := gb248) (o := .cells #[.int .i64 ((rd_T58 l0_0 x32_2).f0), .int .i64 ((rd_T58 l0_0 x32_2).f1)] 58 (0, 0)) (tK BK248.out) hg (Kd.R_ne HO_7.out BK248.out (by decide))); replace HB := Aside0.mk (hb); have HO260 := Aside0.mk (ho); clear HO_7; clear ho hb hg hat)); try go_wp2_with (first | ((with_reducible refine gate_builtin (b := .append) (xs := #[.tmp 69, .tmp 73]) rfl ?_); at_builtin; refine Kd.R_append k67 (w0 := w) w.heap.size rfl (.tmp 69) (.tmp 73) 44 67 (.agg #[(.int .i64 0), (.int .i64 0)]) 16 rfl Try.underlying44 info67 rfl (by decide) (by omega) u7 x7_3 (⟨wrap64 ((rd x6_3 x32_2) + ((rd_T58 l0_0 x32_2).f1)), ((rd_T58 l0_1 x32_2).f1)⟩ : S67) [.int .i64 (wrap64 ((rd x6_3 x32_2) + ((rd_T58 l0_0 x32_2).f1))), .int .i64 ((rd_T58 l0_1 x32_2).f1)] (fun _ => True) (fun _ => False) rfl rfl ?aP (fun _ hk => hk.elim) ?aF ?aO ?aB ?aS ?aL ?_; (case aP => exact k67_mkM _ _ _ (⟨wrap64 ((rd x6_3 x32_2) + ((rd_T58 l0_0 x32_2).f1)), ((rd_T58 l0_1 x32_2).f1)⟩ : S67)); (case aB => exact (tB HB.out)); (case aF => exact (fun _ _ => trivial)); (case aO => exact (tR HO_7.out)); (case aS => exact (below_size (tB HB.out))); (case aL => have := LMc62.out; omega); intro v259 w65 ho hb hg hat; rw [← Ny258.out] at ho; replace HO_6 := Aside0.mk (Kd.R_over' (tR HO_6.out) (Kd.R_typed (tR HO_7.out)) (by decide) hg); replace BK233 := Aside0.mk (blk_grown (g := gb233) (o := .cells #[.slice (some ad247) l0_0.length c0_0, .slice (some ad249) l0_1.length c0_1] 27 (0, 0)) (tK BK233.out) hg (Kd.R_ne HO_7.out BK233.out (by decide))); replace BK248 := Aside0.mk (blk_grown (g := gb248) (o := .cells #[.int .i64 ((rd_T58 l0_0 x32_2).f0), .int .i64 ((rd_T58 l0_0 x32_2).f1)] 58 (0, 0)) (tK BK248.out) hg (Kd.R_ne HO_7.out BK248.out (by decide))); replace HB := Aside0.mk (hb); have HO260 := Aside0.mk (ho); clear HO_7; clear ho hb hg hat)))
                      (try simp only [← hl6_3])
                      go_roundg k3
                      case measure => have := HJ2.out; have := HK2.out; have := HK3.out; omega
                      case rel => exact ⟨(x6_3), (y258), (wrap64 (1 + 1)), (by first | rfl | (simp; done) | (simp [wrap64]; done) | (simp [*]; done)), H', ⟨by have := HJ2.out; have := HK2.out; have := HK3.out; omega⟩, ⟨by (try simp only [hl6_2]); (try simp only [hl6_3]); (with_reducible repeat (first | apply Kd.R_alloc | apply Kd.R_drewN | apply Kd.R_drew)); exact HO_6.out⟩, ⟨by (try simp only [hl6_2]); (try simp only [hl6_3]); (with_reducible repeat (first | apply Kd.R_alloc | apply Kd.R_drewN | apply Kd.R_drew)); exact HO260.out⟩, ⟨by (try simp only [hl6_2]); (try simp only [hl6_3]); (with_reducible repeat (first | refine blk_drewN ?_ _ | refine blk_drew ?_ | refine blk_alloc ?_ _)); exact BK233.out⟩, ⟨by (try simp only [hl6_2]); (try simp only [hl6_3]); (with_reducible repeat (first | refine blk_drewN ?_ _ | refine blk_drew ?_ | refine blk_alloc ?_ _)); exact BK248.out⟩, ⟨tB HB.out⟩⟩
                     ·
                      rw [if_neg c62] at H
                      exact absurd H (by simp)
                   ·
                    rw [if_neg c52] at H
                    exact absurd H (by simp)
                  ·
                   rw [if_neg c51] at H
                   exact absurd H (by simp)
                 ·
                  rw [if_neg c50] at H
                  exact absurd H (by simp)
               ·
                rw [if_neg c33] at H
                have c33b0 : decide (x42_3 < 2) = false := decide_eq_false c33
                clear c33
                have H' := Aside0.mk H
                clear H
                go_wp2
                repeat (go_quiet (fail); try go_wp2)
                (try simp only [← hl6_2, ← hl6_3])
                go_roundg k3
                case measure => have := HJ2.out; have := HK2.out; have := HK3.out; omega
                case rel => exact ⟨(x6_3), (x7_3), (wrap64 (x32_2 + 1)), (by first | rfl | (simp; done) | (simp [wrap64]; done) | (simp [*]; done)), H', ⟨by have := HJ2.out; have := HK2.out; have := HK3.out; omega⟩, ⟨by (try simp only [hl6_2]); (try simp only [hl6_3]); (with_reducible repeat (first | apply Kd.R_alloc | apply Kd.R_drewN | apply Kd.R_drew)); exact HO_6.out⟩, ⟨by (try simp only [hl6_2]); (try simp only [hl6_3]); (with_reducible repeat (first | apply Kd.R_alloc | apply Kd.R_drewN | apply Kd.R_drew)); exact HO_7.out⟩, ⟨by (try simp only [hl6_2]); (try simp only [hl6_3]); (with_reducible repeat (first | refine blk_drewN ?_ _ | refine blk_drew ?_ | refine blk_alloc ?_ _)); exact BK233.out⟩, ⟨tB HB.out⟩⟩
            ·
             rw [if_neg c28] at H
             exact absurd H (by simp)
           ·
            rw [if_neg c27] at H
            exact absurd H (by simp)
          ·
           rw [if_neg c26] at H
           exact absurd H (by simp)
         ·
          rw [if_neg c25] at H
          have c25b0 : decide (x32_2 < (l0_0.length : Int)) = false := decide_eq_false c25
          clear c25
          replace H := Option.bind_eq_some_iff.mp H
          obtain ⟨⟨t243, t246⟩, A660, H⟩ := H
          replace H : (some (t243, t246)) = some (r1, r2) := H
          have A66 := Aside0.mk A660
          clear A660
          simp only [Option.some.injEq, Prod.mk.injEq] at H
          obtain ⟨rfl, rfl⟩ := H
          obtain ⟨Ao67, co67, eo67⟩ := Kd.R_slice HO_7.out
          subst eo67
          go_wp2_with (first | (go_at_call 78; (with_reducible refine (impl_validRow.calls k2 (fun k_ => some k_ = (.slice Ao67 x7_2.length co67 : Value).ownBlock) (.slice Ao67 x7_2.length co67) x7_2 t243 t246 w _ ?side1 ?side2 A66.out).mono ?_); (case side1 => repeat (first | (with_reducible first | exact HB.out | apply below_alloc | apply pw_below_drewN | apply below_drew1 | refine below_set ?_ GE233.out) | exact HB.out)); (case side2 => exact Kd.R_tight rfl HO_7.out); rintro e w68 ⟨v244, rfl, ho0, hb, hkp⟩; replace HO_6 := Aside0.mk (Kd.R_mono (ok' := fun k_ => True) (Kd.R_keptB ((Kd.R_apart' HO_6.out (Kd.R_typed HO_7.out) (by decide))) hkp (fun k_ hk_ hs_ => (hk_.2) hs_)) (fun k_ hk_ => trivial)); replace BK233 := Aside0.mk (blk_kept (tK BK233.out) hkp (fun hs_ => (fun e_ => (Kd.R_ne HO_7.out BK233.out (by decide)) e_) hs_)); have HO245 := Aside0.mk (Kd.R_mono (ok' := fun k_ => True) ho0 (fun k_ hk_ => trivial)); replace HB := Aside0.mk (hb); clear HO_7; (try clear hb); (try clear hkp); (try clear ho0)))
          repeat (go_quiet (first | (go_at_call 78; (with_reducible refine (impl_validRow.calls k2 (fun k_ => some k_ = (.slice Ao67 x7_2.length co67 : Value).ownBlock) (.slice Ao67 x7_2.length co67) x7_2 t243 t246 w _ ?side1 ?side2 A66.out).mono ?_); (case side1 => repeat (first | (with_reducible first | exact HB.out | apply below_alloc | apply pw_below_drewN | apply below_drew1 | refine below_set ?_ GE233.out) | exact HB.out)); (case side2 => exact Kd.R_tight rfl HO_7.out); rintro e w68 ⟨v244, rfl, ho0, hb, hkp⟩; replace HO_6 := Aside0.mk (Kd.R_mono (ok' := fun k_ => True) (Kd.R_keptB ((Kd.R_apart' HO_6.out (Kd.R_typed HO_7.out) (by decide))) hkp (fun k_ hk_ hs_ => (hk_.2) hs_)) (fun k_ hk_ => trivial)); replace BK233 := Aside0.mk (blk_kept (tK BK233.out) hkp (fun hs_ => (fun e_ => (Kd.R_ne HO_7.out BK233.out (by decide)) e_) hs_)); have HO245 := Aside0.mk (Kd.R_mono (ok' := fun k_ => True) ho0 (fun k_ hk_ => trivial)); replace HB := Aside0.mk (hb); clear HO_7; (try clear hb); (try clear hkp); (try clear ho0))); try go_wp2_with (first | (go_at_call 78; (with_reducible refine (impl_validRow.calls k2 (fun k_ => some k_ = (.slice Ao67 x7_2.length co67 : Value).ownBlock) (.slice Ao67 x7_2.length co67) x7_2 t243 t246 w _ ?side1 ?side2 A66.out).mono ?_); (case side1 => repeat (first | (with_reducible first | exact HB.out | apply below_alloc | apply pw_below_drewN | apply below_drew1 | refine below_set ?_ GE233.out) | exact HB.out)); (case side2 => exact Kd.R_tight rfl HO_7.out); rintro e w68 ⟨v244, rfl, ho0, hb, hkp⟩; replace HO_6 := Aside0.mk (Kd.R_mono (ok' := fun k_ => True) (Kd.R_keptB ((Kd.R_apart' HO_6.out (Kd.R_typed HO_7.out) (by decide))) hkp (fun k_ hk_ hs_ => (hk_.2) hs_)) (fun k_ hk_ => trivial)); replace BK233 := Aside0.mk (blk_kept (tK BK233.out) hkp (fun hs_ => (fun e_ => (Kd.R_ne HO_7.out BK233.out (by decide)) e_) hs_)); have HO245 := Aside0.mk (Kd.R_mono (ok' := fun k_ => True) ho0 (fun k_ hk_ => trivial)); replace HB := Aside0.mk (hb); clear HO_7; (try clear hb); (try clear hkp); (try clear ho0))))
          go_ret2
          exact ⟨_, by first | rfl | (simp [errW_none, errW_some] <;> rfl) | (simp [*, errW_none, errW_some] <;> rfl), tR HO245.out, tB HB.out⟩
      ·
       rw [if_neg c15] at H
       exact absurd H (by simp)
     ·
      rw [if_neg c14] at H
      exact absurd H (by simp)
    ·
     rw [if_neg c13] at H
     exact absurd H (by simp)

/-! ### laws_eqLoad: function 79 -/
def laws_eqLoad.f (a0_0 : Int) (a0_1 : Int) (a1_0 : Int) (a1_1 : Int) : Option (Bool) := if a0_0 = a1_0 then (if a0_1 = a1_1 then (some true) else (some false)) else (some false)
set_option maxHeartbeats 8000000 in
set_option maxRecDepth 100000 in
theorem laws_eqLoad.calls (a0_0 : Int) (a0_1 : Int) (a1_0 : Int) (a1_1 : Int) (r : Bool) (w : World) (h : laws_eqLoad.f a0_0 a0_1 a1_0 a1_1 = some r) :
  Calls Try.prog 79 #[.agg #[.int .i64 a0_0, .int .i64 a0_1], .agg #[.int .i64 a1_0, .int .i64 a1_1]] w fun e w' => e = .returned (.bool r) ∧ Below w.heap.size w w' := by
 have hu67 := Try.underlying67
 have HB := Aside0.mk (Below.refl w.heap.size w)
 have H : (if a0_0 = a1_0 then (if a0_1 = a1_1 then (some true) else (some false)) else (some false)) = some r := h
 clear h
 by_cases c3 : a0_0 = a1_0
 ·
  rw [if_pos c3] at H
  have c3b0 : (a0_0 == a1_0) = true := beq_iff_eq.mpr c3
  have c3b1 : (a0_0 != a1_0) = false := bne_eq_false_iff_eq.mpr c3
  clear c3
  by_cases c4 : a0_1 = a1_1
  ·
   rw [if_pos c4] at H
   have c4b0 : (a0_1 == a1_1) = true := beq_iff_eq.mpr c4
   have c4b1 : (a0_1 != a1_1) = false := bne_eq_false_iff_eq.mpr c4
   clear c4
   obtain rfl := Option.some.inj H
   go_enter Try.func79, Try.ntmps79
   go_wp2_with (first | ((with_reducible refine gate_dst (N := 2) rfl ?_); refine box_event ?hg (N := 2) ?hd (cs := #[.int .i64 a0_0, .int .i64 a0_1]) (t := 67) ?hr ?_; (case hd => rfl); (case hg => rfl); (case hr => first | (go_simp; done) | (go_simp; rfl)); intro gb261 hg w5 hbox hb; have BK261 := Aside0.mk (hbox); have GW261 := Aside0.mk (bS HB.out hg); have GE261 := Aside0.mk (bS HB.out hg); replace HB := Aside0.mk (below_step (tB HB.out) hb); clear hb hbox hg) | ((with_reducible refine gate_dst (N := 3) rfl ?_); refine box_event ?hg (N := 3) ?hd (cs := #[.int .i64 a1_0, .int .i64 a1_1]) (t := 67) ?hr ?_; (case hd => rfl); (case hg => rfl); (case hr => first | (go_simp; done) | (go_simp; rfl)); intro gb262 hg w6 hbox hb; have BK262 := Aside0.mk (hbox); have GW262 := Aside0.mk (bS HB.out hg); have GE262 := Aside0.mk (bS HB.out hg); replace HB := Aside0.mk (below_step (tB HB.out) hb); have NB261_262 := Aside0.mk (nL BK261.out hg); have NB262_261 := Aside0.mk (nG BK261.out hg); replace BK261 := bkB BK261 hb; clear hb hbox hg; have hnb7 := NB261_262.out; have hnc7 := NB262_261.out; obtain ⟨hcz8_0, hfz8_0, hcz8_1, hfz8_1⟩ := cz2 BK261; obtain ⟨hcz9_0, hfz9_0, hcz9_1, hfz9_1⟩ := cz2 BK262))
   go_ret
   exact ⟨by first | rfl | (simp [errW_none, errW_some] <;> rfl) | (simp [*, errW_none, errW_some] <;> rfl), tB HB.out⟩
  ·
   rw [if_neg c4] at H
   have c4b0 : (a0_1 == a1_1) = false := beq_eq_false_iff_ne.mpr c4
   have c4b1 : (a0_1 != a1_1) = true := bne_iff_ne.mpr c4
   obtain rfl := Option.some.inj H
   go_enter Try.func79, Try.ntmps79
   go_wp2_with (first | ((with_reducible refine gate_dst (N := 2) rfl ?_); refine box_event ?hg (N := 2) ?hd (cs := #[.int .i64 a0_0, .int .i64 a0_1]) (t := 67) ?hr ?_; (case hd => rfl); (case hg => rfl); (case hr => first | (go_simp; done) | (go_simp; rfl)); intro gb261 hg w10 hbox hb; have BK261 := Aside0.mk (hbox); have GW261 := Aside0.mk (bS HB.out hg); have GE261 := Aside0.mk (bS HB.out hg); replace HB := Aside0.mk (below_step (tB HB.out) hb); clear hb hbox hg) | ((with_reducible refine gate_dst (N := 3) rfl ?_); refine box_event ?hg (N := 3) ?hd (cs := #[.int .i64 a1_0, .int .i64 a1_1]) (t := 67) ?hr ?_; (case hd => rfl); (case hg => rfl); (case hr => first | (go_simp; done) | (go_simp; rfl)); intro gb262 hg w11 hbox hb; have BK262 := Aside0.mk (hbox); have GW262 := Aside0.mk (bS HB.out hg); have GE262 := Aside0.mk (bS HB.out hg); replace HB := Aside0.mk (below_step (tB HB.out) hb); have NB261_262 := Aside0.mk (nL BK261.out hg); have NB262_261 := Aside0.mk (nG BK261.out hg); replace BK261 := bkB BK261 hb; clear hb hbox hg; have hnb12 := NB261_262.out; have hnc12 := NB262_261.out; obtain ⟨hcz13_0, hfz13_0, hcz13_1, hfz13_1⟩ := cz2 BK261; obtain ⟨hcz14_0, hfz14_0, hcz14_1, hfz14_1⟩ := cz2 BK262))
   go_ret
   exact ⟨by first | rfl | (simp [errW_none, errW_some] <;> rfl) | (simp [*, errW_none, errW_some] <;> rfl), tB HB.out⟩
 ·
  rw [if_neg c3] at H
  have c3b0 : (a0_0 == a1_0) = false := beq_eq_false_iff_ne.mpr c3
  have c3b1 : (a0_0 != a1_0) = true := bne_iff_ne.mpr c3
  obtain rfl := Option.some.inj H
  go_enter Try.func79, Try.ntmps79
  go_wp2_with (first | ((with_reducible refine gate_dst (N := 2) rfl ?_); refine box_event ?hg (N := 2) ?hd (cs := #[.int .i64 a0_0, .int .i64 a0_1]) (t := 67) ?hr ?_; (case hd => rfl); (case hg => rfl); (case hr => first | (go_simp; done) | (go_simp; rfl)); intro gb261 hg w15 hbox hb; have BK261 := Aside0.mk (hbox); have GW261 := Aside0.mk (bS HB.out hg); have GE261 := Aside0.mk (bS HB.out hg); replace HB := Aside0.mk (below_step (tB HB.out) hb); clear hb hbox hg) | ((with_reducible refine gate_dst (N := 3) rfl ?_); refine box_event ?hg (N := 3) ?hd (cs := #[.int .i64 a1_0, .int .i64 a1_1]) (t := 67) ?hr ?_; (case hd => rfl); (case hg => rfl); (case hr => first | (go_simp; done) | (go_simp; rfl)); intro gb262 hg w16 hbox hb; have BK262 := Aside0.mk (hbox); have GW262 := Aside0.mk (bS HB.out hg); have GE262 := Aside0.mk (bS HB.out hg); replace HB := Aside0.mk (below_step (tB HB.out) hb); have NB261_262 := Aside0.mk (nL BK261.out hg); have NB262_261 := Aside0.mk (nG BK261.out hg); replace BK261 := bkB BK261 hb; clear hb hbox hg; have hnb17 := NB261_262.out; have hnc17 := NB262_261.out; obtain ⟨hcz18_0, hfz18_0, hcz18_1, hfz18_1⟩ := cz2 BK261; obtain ⟨hcz19_0, hfz19_0, hcz19_1, hfz19_1⟩ := cz2 BK262))
  go_ret
  exact ⟨by first | rfl | (simp [errW_none, errW_some] <;> rfl) | (simp [*, errW_none, errW_some] <;> rfl), tB HB.out⟩

end Go.Proofs.Ytbdajkfihbaapaa.PFnExactLeafRow

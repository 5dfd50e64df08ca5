/- Printed by the program print2.py over the translation: each function as a Lean function, and the proof that the call comes to its answer. -/
import Derived.Test.YtchcjlkbpmkajaaPFnExactOutermostPlacesx0
import Derived.Test.YtchcjlkbpmkajaaPFnExactOutermostPlacesx1
import Derived.Test.YtchcjlkbpmkajaaPFnExactOutermostPlacesx3
import Derived.Test.YtchcjlkbpmkajaaPFnExactOutermostPlacesx4
namespace Go.Proofs.Ytchcjlkbpmkajaa.PFnExactOutermostPlaces
open Go.RowKit Go.Proofs.YtchcjlkbpmkajaaW.PrintWords Go.Proofs.YtchcjlkbpmkajaaW.PrintLast Go.Proofs.YtchcjlkbpmkajaaW.PrintMore
attribute [local go_sem] max2_int min2_int max_two min_two max_three min_three max_four min_four   -- for this text's walks alone
set_option linter.unusedVariables false
set_option linter.unusedSimpArgs false

/-! ### impl_OutermostPlaces: function 42 -/
mutual
def impl_OutermostPlaces.j0 : Nat → List (S57) → Int → Bool → Int → Int → Int → Option (Int × Int × Bool)
 | 0, _, _, _, _, _, _ => none
 | k + 1, x1, x2, x25, x189000, x189001, x189002 => if x25 = true then (some (0, 0, false)) else (impl_OutermostPlaces.l0 k x1 x2 (-1) (-1) (wrap64 (x189000 + 1)) 0 x189000 x189001 x189002)
def impl_OutermostPlaces.l0 : Nat → List (S57) → Int → Int → Int → Int → Int → Int → Int → Int → Option (Int × Int × Bool)
 | 0, _, _, _, _, _, _, _, _, _ => none
 | k + 1, x1, x2, x9, x10, x28, x29, x189000, x189001, x189002 => if x29 < x28 then ((impl_standsWith.f k x1 x189001 x189002 x29 x2).bind fun t191 => (if t191 = true then (if x9 < 0 then (impl_OutermostPlaces.l0 k x1 x2 x29 x29 x28 (wrap64 (x29 + 1)) x189000 x189001 x189002) else (impl_OutermostPlaces.l0 k x1 x2 x9 x29 x28 (wrap64 (x29 + 1)) x189000 x189001 x189002)) else (impl_OutermostPlaces.l0 k x1 x2 x9 x10 x28 (wrap64 (x29 + 1)) x189000 x189001 x189002))) else (if x9 < 0 then (some (0, 0, false)) else (some (x9, x10, true)))
end
def impl_OutermostPlaces.f (k : Nat) (a0_0 : Int) (a0_1 : Int) (a0_2 : Int) (l1 : List (S57)) (a2 : Int) : Option (Int × Int × Bool) := (impl_isOn.f k a0_0 a0_1 a0_2 l1).bind fun t189 => (if t189 = true then (if (l1.length : Int) = 12 then (impl_OutermostPlaces.j0 k l1 a2 true a0_0 a0_1 a0_2) else ((impl_isWeight.f a2).bind fun t190 => (impl_OutermostPlaces.j0 k l1 a2 (!t190) a0_0 a0_1 a0_2))) else (impl_OutermostPlaces.j0 k l1 a2 true a0_0 a0_1 a0_2))
theorem impl_OutermostPlaces.mono_l : ∀ k, (∀ y0 y1 y2 y3 y4 y5, LeO (impl_OutermostPlaces.j0 k y0 y1 y2 y3 y4 y5) (impl_OutermostPlaces.j0 (k + 1) y0 y1 y2 y3 y4 y5)) ∧ (∀ y0 y1 y2 y3 y4 y5 y6 y7 y8, LeO (impl_OutermostPlaces.l0 k y0 y1 y2 y3 y4 y5 y6 y7 y8) (impl_OutermostPlaces.l0 (k + 1) y0 y1 y2 y3 y4 y5 y6 y7 y8))
 | 0 => ⟨fun _ _ _ _ _ _ r h => by simp [impl_OutermostPlaces.j0] at h, fun _ _ _ _ _ _ _ _ _ r h => by simp [impl_OutermostPlaces.l0] at h⟩
 | k + 1 => by
  obtain ⟨ih0, ih1⟩ := impl_OutermostPlaces.mono_l k
  refine ⟨?_, ?_⟩
  ·
   intro y0 y1 y2 y3 y4 y5
   unfold impl_OutermostPlaces.j0
   repeat' first
   | (with_reducible exact ih0 _ _ _ _ _ _)
   | (with_reducible exact ih1 _ _ _ _ _ _ _ _ _)
   | (with_reducible exact impl_isOn.mono _ _ _ _ _)
   | (with_reducible exact impl_standsWith.mono _ _ _ _ _ _)
   | (with_reducible exact LeO.refl _)
   | (with_reducible exact LeO.none _)
   | (with_reducible refine LeO.ite ?_ ?_)
   | (with_reducible refine LeO.bind ?_ (fun _ => ?_))
   | exact ih0 _ _ _ _ _ _
   | exact ih1 _ _ _ _ _ _ _ _ _
   | exact impl_isOn.mono _ _ _ _ _
   | exact impl_standsWith.mono _ _ _ _ _ _
   | exact LeO.none _
   | refine LeO.ite ?_ ?_
   | refine LeO.bind ?_ (fun _ => ?_)
  ·
   intro y0 y1 y2 y3 y4 y5 y6 y7 y8
   unfold impl_OutermostPlaces.l0
   repeat' first
   | (with_reducible exact ih0 _ _ _ _ _ _)
   | (with_reducible exact ih1 _ _ _ _ _ _ _ _ _)
   | (with_reducible exact impl_isOn.mono _ _ _ _ _)
   | (with_reducible exact impl_standsWith.mono _ _ _ _ _ _)
   | (with_reducible exact LeO.refl _)
   | (with_reducible exact LeO.none _)
   | (with_reducible refine LeO.ite ?_ ?_)
   | (with_reducible refine LeO.bind ?_ (fun _ => ?_))
   | exact ih0 _ _ _ _ _ _
   | exact ih1 _ _ _ _ _ _ _ _ _
   | exact impl_isOn.mono _ _ _ _ _
   | exact impl_standsWith.mono _ _ _ _ _ _
   | exact LeO.none _
   | refine LeO.ite ?_ ?_
   | refine LeO.bind ?_ (fun _ => ?_)
theorem impl_OutermostPlaces.mono : ∀ a0 a1 a2 a3 a4 k, LeO (impl_OutermostPlaces.f k a0 a1 a2 a3 a4) (impl_OutermostPlaces.f (k + 1) a0 a1 a2 a3 a4) := by
 intro a0 a1 a2 a3 a4 k
 obtain ⟨ih0, ih1⟩ := impl_OutermostPlaces.mono_l k
 unfold impl_OutermostPlaces.f
 repeat' first
   | (with_reducible exact ih0 _ _ _ _ _ _)
   | (with_reducible exact ih1 _ _ _ _ _ _ _ _ _)
   | (with_reducible exact impl_isOn.mono _ _ _ _ _)
   | (with_reducible exact impl_standsWith.mono _ _ _ _ _ _)
   | (with_reducible exact LeO.refl _)
   | (with_reducible exact LeO.none _)
   | (with_reducible refine LeO.ite ?_ ?_)
   | (with_reducible refine LeO.bind ?_ (fun _ => ?_))
   | exact ih0 _ _ _ _ _ _
   | exact ih1 _ _ _ _ _ _ _ _ _
   | exact impl_isOn.mono _ _ _ _ _
   | exact impl_standsWith.mono _ _ _ _ _ _
   | exact LeO.none _
   | refine LeO.ite ?_ ?_
   | refine LeO.bind ?_ (fun _ => ?_)
set_option maxHeartbeats 8000000 in
set_option maxRecDepth 100000 in
theorem impl_OutermostPlaces.calls (k : Nat) (a0_0 : Int) (a0_1 : Int) (a0_2 : Int) (A1 : Option Addr) (c1 : Nat) (l1 : List (S57)) (a2 : Int) (r1 : Int) (r2 : Int) (r3 : Bool) (w : World) (hr1 : Kd.C k57 w A1 l1.length l1) (hc1 : l1.length ≤ c1) (h : impl_OutermostPlaces.f k a0_0 a0_1 a0_2 l1 a2 = some (r1, r2, r3)) :
  Calls Try.prog 42 #[.agg #[.int .i64 a0_0, .int .i64 a0_1, .int .i64 a0_2], .slice A1 l1.length c1, .int .i64 a2] w fun e w' => e = .returned (.tuple #[.int .i64 r1, .int .i64 r2, .bool r3]) ∧ Below w.heap.size w w' := by
 have hu25 := Try.underlying25
 have HR1 := Aside0.mk hr1
 have HC1 := Aside0.mk hc1
 clear hr1 hc1
 have HB := Aside0.mk (Below.refl w.heap.size w)
 have H : ((impl_isOn.f k a0_0 a0_1 a0_2 l1).bind fun t189 => (if t189 = true then (if (l1.length : Int) = 12 then (impl_OutermostPlaces.j0 k l1 a2 true a0_0 a0_1 a0_2) else ((impl_isWeight.f a2).bind fun t190 => (impl_OutermostPlaces.j0 k l1 a2 (!t190) a0_0 a0_1 a0_2))) else (impl_OutermostPlaces.j0 k l1 a2 true a0_0 a0_1 a0_2))) = some (r1, r2, r3) := h
 clear h
 have HC4 := Aside0.mk H
 clear H
 go_enter Try.func42, Try.ntmps42
 go_upto_region 1 with (first | ((with_reducible refine gate_dst (N := 3) rfl ?_); (try (refine gate_guard (by rfl) ?_; dsimp only)); refine box_event ?hg (N := 3) ?hd (cs := #[.int .i64 a0_0, .int .i64 a0_1, .int .i64 a0_2]) (t := 25) ?hr ?_; (case hd => rfl); (case hg => rfl); (case hr => first | (go_simp; done) | (go_simp; rfl)); intro gb188 hg w5 hbox hb; have BK188 := Aside0.mk (hbox); have GW188 := Aside0.mk (bS HB.out hg); have GE188 := Aside0.mk (bS HB.out hg); replace HB := Aside0.mk (below_step (tB HB.out) hb); clear hb hbox hg))
 (try simp only [Act.put, List.setIfInBounds_toArray, List.set_cons_zero, List.set_cons_succ])
 go_cut [25] (fun v25 wc => ∃ (kq : Nat) (x25_3 : Bool), v25 = .bool x25_3 ∧ Aside0 (impl_OutermostPlaces.j0 kq l1 a2 x25_3 a0_0 a0_1 a0_2 = some (r1, r2, r3)) ∧ Aside0 (kq ≤ k) ∧ Aside0 (wc.heap[gb188]? = some (.cells #[.int .i64 a0_0, .int .i64 a0_1, .int .i64 a0_2] 25 (0, 0))) ∧ Aside0 (Below w.heap.size w wc))
 case first =>
  have H := HC4.out
  clear HC4
  replace H := Option.bind_eq_some_iff.mp H
  obtain ⟨t189, A60, H⟩ := H
  replace H : (if t189 = true then (if (l1.length : Int) = 12 then (impl_OutermostPlaces.j0 k l1 a2 true a0_0 a0_1 a0_2) else ((impl_isWeight.f a2).bind fun t190 => (impl_OutermostPlaces.j0 k l1 a2 (!t190) a0_0 a0_1 a0_2))) else (impl_OutermostPlaces.j0 k l1 a2 true a0_0 a0_1 a0_2)) = some (r1, r2, r3) := H
  have A6 := Aside0.mk A60
  clear A60
  by_cases c7 : t189 = true
  ·
   subst c7
   have H1 : (if (l1.length : Int) = 12 then (impl_OutermostPlaces.j0 k l1 a2 true a0_0 a0_1 a0_2) else ((impl_isWeight.f a2).bind fun t190 => (impl_OutermostPlaces.j0 k l1 a2 (!t190) a0_0 a0_1 a0_2))) = some (r1, r2, r3) := by rw [if_pos rfl] at H; exact H
   clear H
   have H := H1
   clear H1
   by_cases c8 : (l1.length : Int) = 12
   ·
    rw [if_pos c8] at H
    have c8b0 : ((l1.length : Int) == 12) = true := beq_iff_eq.mpr c8
    have c8b1 : ((l1.length : Int) != 12) = false := bne_eq_false_iff_eq.mpr c8
    clear c8
    (first | rw [c8b0] | (simp only [i64_w, i32_w]; rw [c8b0]) | skip)
    have H' := Aside0.mk H
    clear H
    obtain ⟨hcz9_0, hfz9_0, hcz9_1, hfz9_1, hcz9_2, hfz9_2⟩ := cz3 BK188
    go_wp2_with (first | ((with_reducible refine gate_callee (f := 63) rfl ?_); refine goesL_ (some 14) rfl rfl Try.func63 (by kernel_rfl) rfl #[.agg #[.int .i64 a0_0, .int .i64 a0_1, .int .i64 a0_2], .slice A1 l1.length c1] rfl tM ?_; (with_reducible refine (impl_isOn.calls k a0_0 a0_1 a0_2 _ _ l1 true _ ?side1 ?side2 A6.out).mono ?_); (case side1 => exact tC (Kd.C_below HR1.out HB.out)); (case side2 => exact HC1.out); rintro e w10 ⟨rfl, hb⟩; refine ⟨_, rfl, ?_⟩; replace BK188 := bkB BK188 hb; replace HB := Aside0.mk (below_step (tB HB.out) hb); (try clear hb); (try clear hb2); (try clear hk); (try clear hi)))
    go_meet
    case rel => exact ⟨_, (true), (by first | rfl | (simp; done) | (simp [wrap64]; done) | (simp [*]; done)), H', ⟨by first | omega | exact Nat.le_refl _⟩, ⟨tK BK188.out⟩, ⟨tB HB.out⟩⟩
   ·
    rw [if_neg c8] at H
    have c8b0 : ((l1.length : Int) == 12) = false := beq_eq_false_iff_ne.mpr c8
    have c8b1 : ((l1.length : Int) != 12) = true := bne_iff_ne.mpr c8
    (first | rw [c8b0] | (simp only [i64_w, i32_w]; rw [c8b0]) | skip)
    replace H := Option.bind_eq_some_iff.mp H
    obtain ⟨t190, A110, H⟩ := H
    replace H : (impl_OutermostPlaces.j0 k l1 a2 (!t190) a0_0 a0_1 a0_2) = some (r1, r2, r3) := H
    have A11 := Aside0.mk A110
    clear A110
    have H' := Aside0.mk H
    clear H
    obtain ⟨hcz12_0, hfz12_0, hcz12_1, hfz12_1, hcz12_2, hfz12_2⟩ := cz3 BK188
    go_wp2_with (first | ((with_reducible refine gate_callee (f := 63) rfl ?_); refine goesL_ (some 14) rfl rfl Try.func63 (by kernel_rfl) rfl #[.agg #[.int .i64 a0_0, .int .i64 a0_1, .int .i64 a0_2], .slice A1 l1.length c1] rfl tM ?_; (with_reducible refine (impl_isOn.calls k a0_0 a0_1 a0_2 _ _ l1 true _ ?side1 ?side2 A6.out).mono ?_); (case side1 => exact tC (Kd.C_below HR1.out HB.out)); (case side2 => exact HC1.out); rintro e w13 ⟨rfl, hb⟩; refine ⟨_, rfl, ?_⟩; replace BK188 := bkB BK188 hb; replace HB := Aside0.mk (below_step (tB HB.out) hb); (try clear hb); (try clear hb2); (try clear hk); (try clear hi)) | (go_at_call 53; (with_reducible refine (impl_isWeight.calls a2 t190 _ A11.out).mono ?_); rintro e w' ⟨rfl, ⟨nd, rfl⟩⟩))
    go_meet
    case rel => exact ⟨_, (!t190), (by first | rfl | (simp; done) | (simp [wrap64]; done) | (simp [*]; done)), H', ⟨by first | omega | exact Nat.le_refl _⟩, ⟨tK BK188.out⟩, ⟨tB HB.out⟩⟩
  ·
   replace c7 := Bool.eq_false_iff.mpr c7
   subst c7
   have H1 : (impl_OutermostPlaces.j0 k l1 a2 true a0_0 a0_1 a0_2) = some (r1, r2, r3) := by rw [if_neg (show ¬ (false = true) by decide)] at H; exact H
   clear H
   have H := H1
   clear H1
   have H' := Aside0.mk H
   clear H
   obtain ⟨hcz14_0, hfz14_0, hcz14_1, hfz14_1, hcz14_2, hfz14_2⟩ := cz3 BK188
   go_wp2_with (first | ((with_reducible refine gate_callee (f := 63) rfl ?_); refine goesL_ (some 14) rfl rfl Try.func63 (by kernel_rfl) rfl #[.agg #[.int .i64 a0_0, .int .i64 a0_1, .int .i64 a0_2], .slice A1 l1.length c1] rfl tM ?_; (with_reducible refine (impl_isOn.calls k a0_0 a0_1 a0_2 _ _ l1 false _ ?side1 ?side2 A6.out).mono ?_); (case side1 => exact tC (Kd.C_below HR1.out HB.out)); (case side2 => exact HC1.out); rintro e w15 ⟨rfl, hb⟩; refine ⟨_, rfl, ?_⟩; replace BK188 := bkB BK188 hb; replace HB := Aside0.mk (below_step (tB HB.out) hb); (try clear hb); (try clear hb2); (try clear hk); (try clear hi)))
   go_meet
   case rel => exact ⟨_, (true), (by first | rfl | (simp; done) | (simp [wrap64]; done) | (simp [*]; done)), H', ⟨by first | omega | exact Nat.le_refl _⟩, ⟨tK BK188.out⟩, ⟨tB HB.out⟩⟩
 case rest =>
  clear HC4
  try clear c1
  try clear p2
  try clear c4
  try clear c6
  try clear p6
  try clear c7
  try clear c8
  try clear c8b0
  try clear c8b1
  try clear hcz12_0
  try clear hcz12_1
  try clear hcz12_2
  try clear hcz14_0
  try clear hcz14_1
  try clear hcz14_2
  try clear hcz9_0
  try clear hcz9_1
  try clear hcz9_2
  try clear hfz12_0
  try clear hfz12_1
  try clear hfz12_2
  try clear hfz14_0
  try clear hfz14_1
  try clear hfz14_2
  try clear hfz9_0
  try clear hfz9_1
  try clear hfz9_2
  obtain ⟨kq, x25_3, rfl, HA, HJ3, BK188, HB⟩ := hcut
  cases kq with
  | zero => exact absurd HA.out (by simp [impl_OutermostPlaces.j0])
  | succ kj3 =>
   have H := HA.out
   clear HA
   simp only [impl_OutermostPlaces.j0] at H
   by_cases c16 : x25_3 = true
   ·
    subst c16
    have H1 : (some (0, 0, false)) = some (r1, r2, r3) := by rw [if_pos rfl] at H; exact H
    clear H
    have H := H1
    clear H1
    simp only [Option.some.injEq, Prod.mk.injEq] at H
    obtain ⟨rfl, rfl, rfl⟩ := H
    go_wp2
    go_ret3
    exact ⟨by first | rfl | (simp [errW_none, errW_some] <;> rfl) | (simp [*, errW_none, errW_some] <;> rfl), tB HB.out⟩
   ·
    replace c16 := Bool.eq_false_iff.mpr c16
    subst c16
    have H1 : (impl_OutermostPlaces.l0 kj3 l1 a2 (-1) (-1) (wrap64 (a0_0 + 1)) 0 a0_0 a0_1 a0_2) = some (r1, r2, r3) := by rw [if_neg (show ¬ (false = true) by decide)] at H; exact H
    clear H
    have H := H1
    clear H1
    have H' := Aside0.mk H
    clear H
    obtain ⟨hcz17_0, hfz17_0, hcz17_1, hfz17_1, hcz17_2, hfz17_2⟩ := cz3 BK188
    go_wp2
    go_loopg [9, 10, 29] kj3 (fun kq v9 v10 v29 w' => ∃ (x9_2 : Int) (x10_2 : Int) (x29_2 : Int), v9 = .int .i64 x9_2 ∧ v10 = .int .i64 x10_2 ∧ v29 = .int .i64 x29_2 ∧ Aside0 (impl_OutermostPlaces.l0 kq l1 a2 x9_2 x10_2 (wrap64 (a0_0 + 1)) x29_2 a0_0 a0_1 a0_2 = some (r1, r2, r3)) ∧ Aside0 (kq ≤ kj3) ∧ Aside0 (w'.heap[gb188]? = some (.cells #[.int .i64 a0_0, .int .i64 a0_1, .int .i64 a0_2] 25 (0, 0))) ∧ Aside0 (Below w.heap.size w w'))
    case atStart => exact ⟨((-1)), ((-1)), (0), (by first | rfl | (simp; done) | (simp [wrap64]; done) | (simp [*]; done)), (by first | rfl | (simp; done) | (simp [wrap64]; done) | (simp [*]; done)), (by first | rfl | (simp; done) | (simp [wrap64]; done) | (simp [*]; done)), H', ⟨Nat.le_refl _⟩, ⟨tK BK188.out⟩, ⟨tB HB.out⟩⟩
    case round =>
     clear H'
     try clear c1
     try clear p2
     try clear c4
     try clear c6
     try clear p6
     try clear c7
     try clear c8
     try clear c8b0
     try clear c8b1
     try clear c16
     try clear hcz12_0
     try clear hcz12_1
     try clear hcz12_2
     try clear hcz14_0
     try clear hcz14_1
     try clear hcz14_2
     try clear hcz17_0
     try clear hcz17_1
     try clear hcz17_2
     try clear hcz9_0
     try clear hcz9_1
     try clear hcz9_2
     try clear hfz12_0
     try clear hfz12_1
     try clear hfz12_2
     try clear hfz14_0
     try clear hfz14_1
     try clear hfz14_2
     try clear hfz17_0
     try clear hfz17_1
     try clear hfz17_2
     try clear hfz9_0
     try clear hfz9_1
     try clear hfz9_2
     try clear p2
     try clear p6
     obtain ⟨x9_2, x10_2, x29_2, rfl, rfl, rfl, HA, HK2, BK188, HB⟩ := hrel
     cases gk with
     | zero => exact absurd HA.out (by simp [impl_OutermostPlaces.l0])
     | succ k2 =>
      have H := HA.out
      clear HA
      simp only [impl_OutermostPlaces.l0] at H
      by_cases c18 : x29_2 < (wrap64 (a0_0 + 1))
      ·
       rw [if_pos c18] at H
       have c18b0 : decide (x29_2 < (wrap64 (a0_0 + 1))) = true := decide_eq_true c18
       clear c18
       replace H := Option.bind_eq_some_iff.mp H
       obtain ⟨t191, A190, H⟩ := H
       replace H : (if t191 = true then (if x9_2 < 0 then (impl_OutermostPlaces.l0 k2 l1 a2 x29_2 x29_2 (wrap64 (a0_0 + 1)) (wrap64 (x29_2 + 1)) a0_0 a0_1 a0_2) else (impl_OutermostPlaces.l0 k2 l1 a2 x9_2 x29_2 (wrap64 (a0_0 + 1)) (wrap64 (x29_2 + 1)) a0_0 a0_1 a0_2)) else (impl_OutermostPlaces.l0 k2 l1 a2 x9_2 x10_2 (wrap64 (a0_0 + 1)) (wrap64 (x29_2 + 1)) a0_0 a0_1 a0_2)) = some (r1, r2, r3) := H
       have A19 := Aside0.mk A190
       clear A190
       by_cases c20 : t191 = true
       ·
        subst c20
        have H1 : (if x9_2 < 0 then (impl_OutermostPlaces.l0 k2 l1 a2 x29_2 x29_2 (wrap64 (a0_0 + 1)) (wrap64 (x29_2 + 1)) a0_0 a0_1 a0_2) else (impl_OutermostPlaces.l0 k2 l1 a2 x9_2 x29_2 (wrap64 (a0_0 + 1)) (wrap64 (x29_2 + 1)) a0_0 a0_1 a0_2)) = some (r1, r2, r3) := by rw [if_pos rfl] at H; exact H
        clear H
        have H := H1
        clear H1
        by_cases c21 : x9_2 < 0
        ·
         rw [if_pos c21] at H
         have c21b0 : decide (x9_2 < 0) = true := decide_eq_true c21
         clear c21
         have H' := Aside0.mk H
         clear H
         obtain ⟨hcz22_0, hfz22_0, hcz22_1, hfz22_1, hcz22_2, hfz22_2⟩ := cz3 BK188
         go_wp2_with (first | ((with_reducible refine gate_callee (f := 68) rfl ?_); refine goesL_ (some 39) rfl rfl Try.func68 (by kernel_rfl) rfl #[.slice A1 l1.length c1, .int .i64 a0_1, .int .i64 a0_2, .int .i64 x29_2, .int .i64 a2] rfl tM ?_; (with_reducible refine (impl_standsWith.calls k2 _ _ l1 a0_1 a0_2 x29_2 a2 true _ ?side1 ?side2 A19.out).mono ?_); (case side1 => exact tC (Kd.C_below HR1.out HB.out)); (case side2 => exact HC1.out); rintro e w23 ⟨rfl, hb⟩; refine ⟨_, rfl, ?_⟩; replace BK188 := bkB BK188 hb; replace HB := Aside0.mk (below_step (tB HB.out) hb); (try clear hb); (try clear hb2); (try clear hk); (try clear hi)))
         go_roundg k2
         case measure => have := HJ3.out; have := HK2.out; omega
         case rel => exact ⟨(x29_2), (x29_2), (wrap64 (x29_2 + 1)), (by first | rfl | (simp; done) | (simp [wrap64]; done) | (simp [*]; done)), (by first | rfl | (simp; done) | (simp [wrap64]; done) | (simp [*]; done)), (by first | rfl | (simp; done) | (simp [wrap64]; done) | (simp [*]; done)), H', ⟨by have := HJ3.out; have := HK2.out; omega⟩, ⟨tK BK188.out⟩, ⟨tB HB.out⟩⟩
        ·
         rw [if_neg c21] at H
         have c21b0 : decide (x9_2 < 0) = false := decide_eq_false c21
         clear c21
         have H' := Aside0.mk H
         clear H
         obtain ⟨hcz24_0, hfz24_0, hcz24_1, hfz24_1, hcz24_2, hfz24_2⟩ := cz3 BK188
         go_wp2_with (first | ((with_reducible refine gate_callee (f := 68) rfl ?_); refine goesL_ (some 39) rfl rfl Try.func68 (by kernel_rfl) rfl #[.slice A1 l1.length c1, .int .i64 a0_1, .int .i64 a0_2, .int .i64 x29_2, .int .i64 a2] rfl tM ?_; (with_reducible refine (impl_standsWith.calls k2 _ _ l1 a0_1 a0_2 x29_2 a2 true _ ?side1 ?side2 A19.out).mono ?_); (case side1 => exact tC (Kd.C_below HR1.out HB.out)); (case side2 => exact HC1.out); rintro e w25 ⟨rfl, hb⟩; refine ⟨_, rfl, ?_⟩; replace BK188 := bkB BK188 hb; replace HB := Aside0.mk (below_step (tB HB.out) hb); (try clear hb); (try clear hb2); (try clear hk); (try clear hi)))
         go_roundg k2
         case measure => have := HJ3.out; have := HK2.out; omega
         case rel => exact ⟨(x9_2), (x29_2), (wrap64 (x29_2 + 1)), (by first | rfl | (simp; done) | (simp [wrap64]; done) | (simp [*]; done)), (by first | rfl | (simp; done) | (simp [wrap64]; done) | (simp [*]; done)), (by first | rfl | (simp; done) | (simp [wrap64]; done) | (simp [*]; done)), H', ⟨by have := HJ3.out; have := HK2.out; omega⟩, ⟨tK BK188.out⟩, ⟨tB HB.out⟩⟩
       ·
        replace c20 := Bool.eq_false_iff.mpr c20
        subst c20
        have H1 : (impl_OutermostPlaces.l0 k2 l1 a2 x9_2 x10_2 (wrap64 (a0_0 + 1)) (wrap64 (x29_2 + 1)) a0_0 a0_1 a0_2) = some (r1, r2, r3) := by rw [if_neg (show ¬ (false = true) by decide)] at H; exact H
        clear H
        have H := H1
        clear H1
        have H' := Aside0.mk H
        clear H
        obtain ⟨hcz26_0, hfz26_0, hcz26_1, hfz26_1, hcz26_2, hfz26_2⟩ := cz3 BK188
        go_wp2_with (first | ((with_reducible refine gate_callee (f := 68) rfl ?_); refine goesL_ (some 39) rfl rfl Try.func68 (by kernel_rfl) rfl #[.slice A1 l1.length c1, .int .i64 a0_1, .int .i64 a0_2, .int .i64 x29_2, .int .i64 a2] rfl tM ?_; (with_reducible refine (impl_standsWith.calls k2 _ _ l1 a0_1 a0_2 x29_2 a2 false _ ?side1 ?side2 A19.out).mono ?_); (case side1 => exact tC (Kd.C_below HR1.out HB.out)); (case side2 => exact HC1.out); rintro e w27 ⟨rfl, hb⟩; refine ⟨_, rfl, ?_⟩; replace BK188 := bkB BK188 hb; replace HB := Aside0.mk (below_step (tB HB.out) hb); (try clear hb); (try clear hb2); (try clear hk); (try clear hi)))
        go_roundg k2
        case measure => have := HJ3.out; have := HK2.out; omega
        case rel => exact ⟨(x9_2), (x10_2), (wrap64 (x29_2 + 1)), (by first | rfl | (simp; done) | (simp [wrap64]; done) | (simp [*]; done)), (by first | rfl | (simp; done) | (simp [wrap64]; done) | (simp [*]; done)), (by first | rfl | (simp; done) | (simp [wrap64]; done) | (simp [*]; done)), H', ⟨by have := HJ3.out; have := HK2.out; omega⟩, ⟨tK BK188.out⟩, ⟨tB HB.out⟩⟩
      ·
       rw [if_neg c18] at H
       have c18b0 : decide (x29_2 < (wrap64 (a0_0 + 1))) = false := decide_eq_false c18
       clear c18
       by_cases c28 : x9_2 < 0
       ·
        rw [if_pos c28] at H
        have c28b0 : decide (x9_2 < 0) = true := decide_eq_true c28
        clear c28
        simp only [Option.some.injEq, Prod.mk.injEq] at H
        obtain ⟨rfl, rfl, rfl⟩ := H
        go_wp2
        go_ret3
        exact ⟨by first | rfl | (simp [errW_none, errW_some] <;> rfl) | (simp [*, errW_none, errW_some] <;> rfl), tB HB.out⟩
       ·
        rw [if_neg c28] at H
        have c28b0 : decide (x9_2 < 0) = false := decide_eq_false c28
        clear c28
        simp only [Option.some.injEq, Prod.mk.injEq] at H
        obtain ⟨rfl, rfl, rfl⟩ := H
        go_wp2
        go_ret3
        exact ⟨by first | rfl | (simp [errW_none, errW_some] <;> rfl) | (simp [*, errW_none, errW_some] <;> rfl), tB HB.out⟩

/-! ### laws_FnExactOutermostPlaces: function 11 -/
def laws_FnExactOutermostPlaces.j0 : Nat → List (S59) → List (S57) → Bool → Option (Bool)
 | 0, _, _, _ => none
 | k + 1, x1, x11, x53 => if x53 = true then (some false) else ((laws_toLoadS.f k x1).bind fun t212 => ((laws_eqLoadS.f k x11 t212).bind fun t215 => (if t215 = true then (some true) else (some false))))
def laws_FnExactOutermostPlaces.f (k : Nat) (a0_0 : Int) (a0_1 : Int) (a0_2 : Int) (l1 : List (S59)) (a2 : Int) : Option (Bool) := (laws_szLoadS.f l1 1048576).bind fun t193 => (if t193 < 0 then (some true) else ((laws_toBeam.f a0_0 a0_1 a0_2).bind fun bt194 => ((laws_toLoadS.f k l1).bind fun t197 => ((spec_OutermostPlaces.f k bt194.1 bt194.2.1 bt194.2.2 t197 a2).bind fun bt200 => ((laws_toLoadS.f k l1).bind fun t203 => ((laws_toBeam.f a0_0 a0_1 a0_2).bind fun bt206 => ((impl_OutermostPlaces.f k bt206.1 bt206.2.1 bt206.2.2 t203 a2).bind fun bt209 => (if bt209.1 = bt200.1 then (if bt209.2.1 = bt200.2.1 then (laws_FnExactOutermostPlaces.j0 k l1 t203 (bt209.2.2 != bt200.2.2)) else (laws_FnExactOutermostPlaces.j0 k l1 t203 true)) else (laws_FnExactOutermostPlaces.j0 k l1 t203 true)))))))))
theorem laws_FnExactOutermostPlaces.mono_l : ∀ k, (∀ y0 y1 y2, LeO (laws_FnExactOutermostPlaces.j0 k y0 y1 y2) (laws_FnExactOutermostPlaces.j0 (k + 1) y0 y1 y2))
 | 0 => fun _ _ _ r h => by simp [laws_FnExactOutermostPlaces.j0] at h
 | k + 1 => by
  have ih0 := laws_FnExactOutermostPlaces.mono_l k
  ·
   intro y0 y1 y2
   unfold laws_FnExactOutermostPlaces.j0
   repeat' first
   | (with_reducible exact ih0 _ _ _)
   | (with_reducible exact impl_OutermostPlaces.mono _ _ _ _ _ _)
   | (with_reducible exact laws_eqLoadS.mono _ _ _)
   | (with_reducible exact laws_toLoadS.mono _ _)
   | (with_reducible exact spec_OutermostPlaces.mono _ _ _ _ _ _)
   | (with_reducible exact LeO.refl _)
   | (with_reducible exact LeO.none _)
   | (with_reducible refine LeO.ite ?_ ?_)
   | (with_reducible refine LeO.bind ?_ (fun _ => ?_))
   | exact ih0 _ _ _
   | exact impl_OutermostPlaces.mono _ _ _ _ _ _
   | exact laws_eqLoadS.mono _ _ _
   | exact laws_toLoadS.mono _ _
   | exact spec_OutermostPlaces.mono _ _ _ _ _ _
   | exact LeO.none _
   | refine LeO.ite ?_ ?_
   | refine LeO.bind ?_ (fun _ => ?_)
theorem laws_FnExactOutermostPlaces.mono : ∀ a0 a1 a2 a3 a4 k, LeO (laws_FnExactOutermostPlaces.f k a0 a1 a2 a3 a4) (laws_FnExactOutermostPlaces.f (k + 1) a0 a1 a2 a3 a4) := by
 intro a0 a1 a2 a3 a4 k
 have ih0 := laws_FnExactOutermostPlaces.mono_l k
 unfold laws_FnExactOutermostPlaces.f
 repeat' first
   | (with_reducible exact ih0 _ _ _)
   | (with_reducible exact impl_OutermostPlaces.mono _ _ _ _ _ _)
   | (with_reducible exact laws_eqLoadS.mono _ _ _)
   | (with_reducible exact laws_toLoadS.mono _ _)
   | (with_reducible exact spec_OutermostPlaces.mono _ _ _ _ _ _)
   | (with_reducible exact LeO.refl _)
   | (with_reducible exact LeO.none _)
   | (with_reducible refine LeO.ite ?_ ?_)
   | (with_reducible refine LeO.bind ?_ (fun _ => ?_))
   | exact ih0 _ _ _
   | exact impl_OutermostPlaces.mono _ _ _ _ _ _
   | exact laws_eqLoadS.mono _ _ _
   | exact laws_toLoadS.mono _ _
   | exact spec_OutermostPlaces.mono _ _ _ _ _ _
   | exact LeO.none _
   | refine LeO.ite ?_ ?_
   | refine LeO.bind ?_ (fun _ => ?_)
set_option maxHeartbeats 8000000 in
set_option maxRecDepth 100000 in
theorem laws_FnExactOutermostPlaces.calls (k : Nat) (a0_0 : Int) (a0_1 : Int) (a0_2 : Int) (A1 : Option Addr) (c1 : Nat) (l1 : List (S59)) (a2 : Int) (r : Bool) (w : World) (hr1 : Kd.C k59 w A1 l1.length l1) (hc1 : l1.length ≤ c1) (h : laws_FnExactOutermostPlaces.f k a0_0 a0_1 a0_2 l1 a2 = some r) :
  Calls Try.prog 11 #[.agg #[.int .i64 a0_0, .int .i64 a0_1, .int .i64 a0_2], .slice A1 l1.length c1, .int .i64 a2] w fun e w' => e = .returned (.bool r) ∧ Below w.heap.size w w' := by
 have hu23 := Try.underlying23
 have HR1 := Aside0.mk hr1
 have HC1 := Aside0.mk hc1
 clear hr1 hc1
 have HB := Aside0.mk (Below.refl w.heap.size w)
 have H : ((laws_szLoadS.f l1 1048576).bind fun t193 => (if t193 < 0 then (some true) else ((laws_toBeam.f a0_0 a0_1 a0_2).bind fun bt194 => ((laws_toLoadS.f k l1).bind fun t197 => ((spec_OutermostPlaces.f k bt194.1 bt194.2.1 bt194.2.2 t197 a2).bind fun bt200 => ((laws_toLoadS.f k l1).bind fun t203 => ((laws_toBeam.f a0_0 a0_1 a0_2).bind fun bt206 => ((impl_OutermostPlaces.f k bt206.1 bt206.2.1 bt206.2.2 t203 a2).bind fun bt209 => (if bt209.1 = bt200.1 then (if bt209.2.1 = bt200.2.1 then (laws_FnExactOutermostPlaces.j0 k l1 t203 (bt209.2.2 != bt200.2.2)) else (laws_FnExactOutermostPlaces.j0 k l1 t203 true)) else (laws_FnExactOutermostPlaces.j0 k l1 t203 true)))))))))) = some r := h
 clear h
 replace H := Option.bind_eq_some_iff.mp H
 obtain ⟨t193, A40, H⟩ := H
 replace H : (if t193 < 0 then (some true) else ((laws_toBeam.f a0_0 a0_1 a0_2).bind fun bt194 => ((laws_toLoadS.f k l1).bind fun t197 => ((spec_OutermostPlaces.f k bt194.1 bt194.2.1 bt194.2.2 t197 a2).bind fun bt200 => ((laws_toLoadS.f k l1).bind fun t203 => ((laws_toBeam.f a0_0 a0_1 a0_2).bind fun bt206 => ((impl_OutermostPlaces.f k bt206.1 bt206.2.1 bt206.2.2 t203 a2).bind fun bt209 => (if bt209.1 = bt200.1 then (if bt209.2.1 = bt200.2.1 then (laws_FnExactOutermostPlaces.j0 k l1 t203 (bt209.2.2 != bt200.2.2)) else (laws_FnExactOutermostPlaces.j0 k l1 t203 true)) else (laws_FnExactOutermostPlaces.j0 k l1 t203 true))))))))) = some r := H
 have A4 := Aside0.mk A40
 clear A40
 by_cases c5 : t193 < 0
 ·
  rw [if_pos c5] at H
  have c5b0 : decide (t193 < 0) = true := decide_eq_true c5
  clear c5
  obtain rfl := Option.some.inj H
  go_enter Try.func11, Try.ntmps11
  go_wp2_with (first | ((with_reducible refine gate_dst (N := 3) rfl ?_); refine box_event ?hg (N := 3) ?hd (cs := #[.int .i64 a0_0, .int .i64 a0_1, .int .i64 a0_2]) (t := 23) ?hr ?_; (case hd => rfl); (case hg => rfl); (case hr => first | (go_simp; done) | (go_simp; rfl)); intro gb192 hg w6 hbox hb; have BK192 := Aside0.mk (hbox); have GW192 := Aside0.mk (bS HB.out hg); have GE192 := Aside0.mk (bS HB.out hg); replace HB := Aside0.mk (below_step (tB HB.out) hb); clear hb hbox hg) | ((with_reducible refine gate_callee (f := 21) rfl ?_); refine goesL_ (some 17) rfl rfl Try.func21 (by kernel_rfl) rfl #[.slice A1 l1.length c1, .int .i64 1048576] rfl tM ?_; (with_reducible refine (laws_szLoadS.calls _ _ l1 1048576 t193 _ ?side1 ?side2 A4.out).mono ?_); (case side1 => exact tC (Kd.C_below HR1.out HB.out)); (case side2 => exact HC1.out); rintro e w' ⟨rfl, ⟨nd, rfl⟩⟩; refine ⟨_, rfl, ?_⟩))
  go_ret
  exact ⟨by first | rfl | (simp [errW_none, errW_some] <;> rfl) | (simp [*, errW_none, errW_some] <;> rfl), tB HB.out⟩
 ·
  rw [if_neg c5] at H
  have c5b0 : decide (t193 < 0) = false := decide_eq_false c5
  clear c5
  replace H := Option.bind_eq_some_iff.mp H
  obtain ⟨⟨t194, t195, t196⟩, A70, H⟩ := H
  replace H : ((laws_toLoadS.f k l1).bind fun t197 => ((spec_OutermostPlaces.f k t194 t195 t196 t197 a2).bind fun bt200 => ((laws_toLoadS.f k l1).bind fun t203 => ((laws_toBeam.f a0_0 a0_1 a0_2).bind fun bt206 => ((impl_OutermostPlaces.f k bt206.1 bt206.2.1 bt206.2.2 t203 a2).bind fun bt209 => (if bt209.1 = bt200.1 then (if bt209.2.1 = bt200.2.1 then (laws_FnExactOutermostPlaces.j0 k l1 t203 (bt209.2.2 != bt200.2.2)) else (laws_FnExactOutermostPlaces.j0 k l1 t203 true)) else (laws_FnExactOutermostPlaces.j0 k l1 t203 true))))))) = some r := H
  have A7 := Aside0.mk A70
  clear A70
  replace H := Option.bind_eq_some_iff.mp H
  obtain ⟨t197, A80, H⟩ := H
  replace H : ((spec_OutermostPlaces.f k t194 t195 t196 t197 a2).bind fun bt200 => ((laws_toLoadS.f k l1).bind fun t203 => ((laws_toBeam.f a0_0 a0_1 a0_2).bind fun bt206 => ((impl_OutermostPlaces.f k bt206.1 bt206.2.1 bt206.2.2 t203 a2).bind fun bt209 => (if bt209.1 = bt200.1 then (if bt209.2.1 = bt200.2.1 then (laws_FnExactOutermostPlaces.j0 k l1 t203 (bt209.2.2 != bt200.2.2)) else (laws_FnExactOutermostPlaces.j0 k l1 t203 true)) else (laws_FnExactOutermostPlaces.j0 k l1 t203 true)))))) = some r := H
  have A8 := Aside0.mk A80
  clear A80
  replace H := Option.bind_eq_some_iff.mp H
  obtain ⟨⟨t200, t201, t202⟩, A90, H⟩ := H
  replace H : ((laws_toLoadS.f k l1).bind fun t203 => ((laws_toBeam.f a0_0 a0_1 a0_2).bind fun bt206 => ((impl_OutermostPlaces.f k bt206.1 bt206.2.1 bt206.2.2 t203 a2).bind fun bt209 => (if bt209.1 = t200 then (if bt209.2.1 = t201 then (laws_FnExactOutermostPlaces.j0 k l1 t203 (bt209.2.2 != t202)) else (laws_FnExactOutermostPlaces.j0 k l1 t203 true)) else (laws_FnExactOutermostPlaces.j0 k l1 t203 true))))) = some r := H
  have A9 := Aside0.mk A90
  clear A90
  replace H := Option.bind_eq_some_iff.mp H
  obtain ⟨t203, A100, H⟩ := H
  replace H : ((laws_toBeam.f a0_0 a0_1 a0_2).bind fun bt206 => ((impl_OutermostPlaces.f k bt206.1 bt206.2.1 bt206.2.2 t203 a2).bind fun bt209 => (if bt209.1 = t200 then (if bt209.2.1 = t201 then (laws_FnExactOutermostPlaces.j0 k l1 t203 (bt209.2.2 != t202)) else (laws_FnExactOutermostPlaces.j0 k l1 t203 true)) else (laws_FnExactOutermostPlaces.j0 k l1 t203 true)))) = some r := H
  have A10 := Aside0.mk A100
  clear A100
  replace H := Option.bind_eq_some_iff.mp H
  obtain ⟨⟨t206, t207, t208⟩, A110, H⟩ := H
  replace H : ((impl_OutermostPlaces.f k t206 t207 t208 t203 a2).bind fun bt209 => (if bt209.1 = t200 then (if bt209.2.1 = t201 then (laws_FnExactOutermostPlaces.j0 k l1 t203 (bt209.2.2 != t202)) else (laws_FnExactOutermostPlaces.j0 k l1 t203 true)) else (laws_FnExactOutermostPlaces.j0 k l1 t203 true))) = some r := H
  have A11 := Aside0.mk A110
  clear A110
  replace H := Option.bind_eq_some_iff.mp H
  obtain ⟨⟨t209, t210, t211⟩, A120, H⟩ := H
  replace H : (if t209 = t200 then (if t210 = t201 then (laws_FnExactOutermostPlaces.j0 k l1 t203 (t211 != t202)) else (laws_FnExactOutermostPlaces.j0 k l1 t203 true)) else (laws_FnExactOutermostPlaces.j0 k l1 t203 true)) = some r := H
  have A12 := Aside0.mk A120
  clear A120
  have HC13 := Aside0.mk H
  clear H
  go_enter Try.func11, Try.ntmps11
  go_upto_region 8 with (first | ((with_reducible refine gate_dst (N := 3) rfl ?_); refine box_event ?hg (N := 3) ?hd (cs := #[.int .i64 a0_0, .int .i64 a0_1, .int .i64 a0_2]) (t := 23) ?hr ?_; (case hd => rfl); (case hg => rfl); (case hr => first | (go_simp; done) | (go_simp; rfl)); intro gb192 hg w14 hbox hb; have BK192 := Aside0.mk (hbox); have GW192 := Aside0.mk (bS HB.out hg); have GE192 := Aside0.mk (bS HB.out hg); replace HB := Aside0.mk (below_step (tB HB.out) hb); clear hb hbox hg) | ((with_reducible refine gate_callee (f := 21) rfl ?_); refine goesL_ (some 17) rfl rfl Try.func21 (by kernel_rfl) rfl #[.slice A1 l1.length c1, .int .i64 1048576] rfl tM ?_; (with_reducible refine (laws_szLoadS.calls _ _ l1 1048576 t193 _ ?side1 ?side2 A4.out).mono ?_); (case side1 => exact tC (Kd.C_below HR1.out HB.out)); (case side2 => exact HC1.out); rintro e w' ⟨rfl, ⟨nd, rfl⟩⟩; refine ⟨_, rfl, ?_⟩; obtain ⟨hcz15_0, hfz15_0, hcz15_1, hfz15_1, hcz15_2, hfz15_2⟩ := cz3 BK192) | ((with_reducible refine gate_callee (f := 16) rfl ?_); refine goesL_ (some 22) rfl rfl Try.func16 (by kernel_rfl) rfl #[.agg #[.int .i64 a0_0, .int .i64 a0_1, .int .i64 a0_2]] rfl tM ?_; (with_reducible refine (laws_toBeam.calls a0_0 a0_1 a0_2 t194 t195 t196 _ A7.out).mono ?_); rintro e w16 ⟨rfl, hb⟩; refine ⟨_, rfl, ?_⟩; replace BK192 := bkB BK192 hb; replace HB := Aside0.mk (below_step (tB HB.out) hb); (try clear hb); (try clear hb2); (try clear hk); (try clear hi)) | ((with_reducible refine gate_callee (f := 23) rfl ?_); refine goesL_ (some 24) rfl rfl Try.func23 (by kernel_rfl) rfl #[.slice A1 l1.length c1] rfl tM ?_; (with_reducible refine (laws_toLoadS.calls k _ _ l1 t197 _ ?side1 ?side2 A8.out).mono ?_); (case side1 => exact tC (Kd.C_below HR1.out HB.out)); (case side2 => exact HC1.out); rintro e w17 ⟨v198, rfl, ho0, hb⟩; refine ⟨_, rfl, ?_⟩; have HO199 := Aside0.mk (Kd.R_lower ho0 (below_size (tB HB.out))); replace BK192 := bkB BK192 hb; replace HB := Aside0.mk (below_step (tB HB.out) hb); (try clear hb); (try clear hb2); (try clear hk); (try clear hi); (try clear ho0); obtain ⟨Ao18, co18, eo18⟩ := Kd.R_slice HO199.out; subst eo18) | ((with_reducible refine gate_callee (f := 41) rfl ?_); refine goesL_ (some 26) rfl rfl Try.func41 (by kernel_rfl) rfl #[.agg #[.int .i64 t194, .int .i64 t195, .int .i64 t196], .slice Ao18 t197.length co18, .int .i64 a2] rfl tM ?_; (with_reducible refine (spec_OutermostPlaces.calls k t194 t195 t196 _ _ t197 a2 t200 t201 t202 _ ?side1 ?side2 A9.out).mono ?_); (case side1 => exact tC (Kd.R_reads' HO199.out).2.2); (case side2 => exact (Kd.R_reads' HO199.out).2.1); rintro e w19 ⟨rfl, hb⟩; refine ⟨_, rfl, ?_⟩; replace HO199 := Aside0.mk (Kd.R_below (tR HO199.out) hb); replace BK192 := bkB BK192 hb; replace HB := Aside0.mk (below_step (tB HB.out) hb); (try clear hb); (try clear hb2); (try clear hk); (try clear hi)) | ((with_reducible refine gate_callee (f := 23) rfl ?_); refine goesL_ (some 31) rfl rfl Try.func23 (by kernel_rfl) rfl #[.slice A1 l1.length c1] rfl tM ?_; (with_reducible refine (laws_toLoadS.calls k _ _ l1 t203 _ ?side1 ?side2 A10.out).mono ?_); (case side1 => exact tC (Kd.C_below HR1.out HB.out)); (case side2 => exact HC1.out); rintro e w20 ⟨v204, rfl, ho0, hb⟩; refine ⟨_, rfl, ?_⟩; have HO205 := Aside0.mk (Kd.R_lower (Kd.R_new' ho0 (Kd.R_lt (tR HO199.out))) (below_size (tB HB.out))); replace HO199 := Aside0.mk (Kd.R_elder' (tR HO199.out) (Kd.R_base ho0) hb); replace BK192 := bkB BK192 hb; replace HB := Aside0.mk (below_step (tB HB.out) hb); (try clear hb); (try clear hb2); (try clear hk); (try clear hi); (try clear ho0); obtain ⟨hcz21_0, hfz21_0, hcz21_1, hfz21_1, hcz21_2, hfz21_2⟩ := cz3 BK192) | ((with_reducible refine gate_callee (f := 16) rfl ?_); refine goesL_ (some 34) rfl rfl Try.func16 (by kernel_rfl) rfl #[.agg #[.int .i64 a0_0, .int .i64 a0_1, .int .i64 a0_2]] rfl tM ?_; (with_reducible refine (laws_toBeam.calls a0_0 a0_1 a0_2 t206 t207 t208 _ A11.out).mono ?_); rintro e w22 ⟨rfl, hb⟩; refine ⟨_, rfl, ?_⟩; replace HO199 := Aside0.mk (Kd.R_below (tR HO199.out) hb); replace HO205 := Aside0.mk (Kd.R_below (tR HO205.out) hb); replace BK192 := bkB BK192 hb; replace HB := Aside0.mk (below_step (tB HB.out) hb); (try clear hb); (try clear hb2); (try clear hk); (try clear hi); obtain ⟨Ao23, co23, eo23⟩ := Kd.R_slice HO205.out; subst eo23) | ((with_reducible refine gate_callee (f := 42) rfl ?_); refine goesL_ (some 37) rfl rfl Try.func42 (by kernel_rfl) rfl #[.agg #[.int .i64 t206, .int .i64 t207, .int .i64 t208], .slice Ao23 t203.length co23, .int .i64 a2] rfl tM ?_; (with_reducible refine (impl_OutermostPlaces.calls k t206 t207 t208 _ _ t203 a2 t209 t210 t211 _ ?side1 ?side2 A12.out).mono ?_); (case side1 => exact tC (Kd.R_reads' HO205.out).2.2); (case side2 => exact (Kd.R_reads' HO205.out).2.1); rintro e w24 ⟨rfl, hb⟩; refine ⟨_, rfl, ?_⟩; replace HO199 := Aside0.mk (Kd.R_below (tR HO199.out) hb); replace HO205 := Aside0.mk (Kd.R_below (tR HO205.out) hb); replace BK192 := bkB BK192 hb; replace HB := Aside0.mk (below_step (tB HB.out) hb); (try clear hb); (try clear hb2); (try clear hk); (try clear hi)))
  (try simp only [Act.put, List.setIfInBounds_toArray, List.set_cons_zero, List.set_cons_succ])
  go_cut [53] (fun v53 wc => ∃ (kq : Nat) (x53_12 : Bool), v53 = .bool x53_12 ∧ Aside0 (laws_FnExactOutermostPlaces.j0 kq l1 t203 x53_12 = some r) ∧ Aside0 (kq ≤ k) ∧ Aside0 (Kd.R k57 57 wc w.heap.size (fun _ => True) (.slice Ao23 t203.length co23) t203) ∧ Aside0 (wc.heap[gb192]? = some (.cells #[.int .i64 a0_0, .int .i64 a0_1, .int .i64 a0_2] 23 (0, 0))) ∧ Aside0 (Below w.heap.size w wc))
  case first =>
   have H := HC13.out
   clear HC13
   by_cases c25 : t209 = t200
   ·
    rw [if_pos c25] at H
    have c25b0 : (t209 == t200) = true := beq_iff_eq.mpr c25
    have c25b1 : (t209 != t200) = false := bne_eq_false_iff_eq.mpr c25
    clear c25
    (first | rw [c25b0] | (simp only [i64_w, i32_w]; rw [c25b0]) | skip)
    by_cases c26 : t210 = t201
    ·
     rw [if_pos c26] at H
     have c26b0 : (t210 == t201) = true := beq_iff_eq.mpr c26
     have c26b1 : (t210 != t201) = false := bne_eq_false_iff_eq.mpr c26
     clear c26
     have H' := Aside0.mk H
     clear H
     go_wp2
     go_meet
     case rel => exact ⟨_, ((t211 != t202)), (by first | rfl | (simp; done) | (simp [wrap64]; done) | (simp [*]; done)), H', ⟨by first | omega | exact Nat.le_refl _⟩, ⟨by (with_reducible repeat (first | apply Kd.R_alloc | apply Kd.R_drewN | apply Kd.R_drew)); exact Kd.R_mono HO205.out (fun _ hk => trivial)⟩, ⟨tK BK192.out⟩, ⟨tB HB.out⟩⟩
    ·
     rw [if_neg c26] at H
     have c26b0 : (t210 == t201) = false := beq_eq_false_iff_ne.mpr c26
     have c26b1 : (t210 != t201) = true := bne_iff_ne.mpr c26
     have H' := Aside0.mk H
     clear H
     go_wp2
     go_meet
     case rel => exact ⟨_, (true), (by first | rfl | (simp; done) | (simp [wrap64]; done) | (simp [*]; done)), H', ⟨by first | omega | exact Nat.le_refl _⟩, ⟨by (with_reducible repeat (first | apply Kd.R_alloc | apply Kd.R_drewN | apply Kd.R_drew)); exact Kd.R_mono HO205.out (fun _ hk => trivial)⟩, ⟨tK BK192.out⟩, ⟨tB HB.out⟩⟩
   ·
    rw [if_neg c25] at H
    have c25b0 : (t209 == t200) = false := beq_eq_false_iff_ne.mpr c25
    have c25b1 : (t209 != t200) = true := bne_iff_ne.mpr c25
    (first | rw [c25b0] | (simp only [i64_w, i32_w]; rw [c25b0]) | skip)
    have H' := Aside0.mk H
    clear H
    go_wp2
    go_meet
    case rel => exact ⟨_, (true), (by first | rfl | (simp; done) | (simp [wrap64]; done) | (simp [*]; done)), H', ⟨by first | omega | exact Nat.le_refl _⟩, ⟨by (with_reducible repeat (first | apply Kd.R_alloc | apply Kd.R_drewN | apply Kd.R_drew)); exact Kd.R_mono HO205.out (fun _ hk => trivial)⟩, ⟨tK BK192.out⟩, ⟨tB HB.out⟩⟩
  case rest =>
   clear HC13
   try clear c1
   try clear c2
   try clear p2
   try clear c4
   try clear c5
   try clear c5b0
   try clear p6
   try clear c11
   try clear c16
   try clear c21
   try clear c23
   try clear c25
   try clear c25b0
   try clear c25b1
   try clear c26
   try clear c26b0
   try clear c26b1
   try clear hcz15_0
   try clear hcz15_1
   try clear hcz15_2
   try clear hcz21_0
   try clear hcz21_1
   try clear hcz21_2
   try clear hfz15_0
   try clear hfz15_1
   try clear hfz15_2
   try clear hfz21_0
   try clear hfz21_1
   try clear hfz21_2
   obtain ⟨kq, x53_12, rfl, HA, HJ12, HO_11, BK192, HB⟩ := hcut
   cases kq with
   | zero => exact absurd HA.out (by simp [laws_FnExactOutermostPlaces.j0])
   | succ kj12 =>
    have H := HA.out
    clear HA
    simp only [laws_FnExactOutermostPlaces.j0] at H
    by_cases c27 : x53_12 = true
    ·
     subst c27
     have H1 : (some false) = some r := by rw [if_pos rfl] at H; exact H
     clear H
     have H := H1
     clear H1
     obtain rfl := Option.some.inj H
     go_wp2
     go_ret
     exact ⟨by first | rfl | (simp [errW_none, errW_some] <;> rfl) | (simp [*, errW_none, errW_some] <;> rfl), tB HB.out⟩
    ·
     replace c27 := Bool.eq_false_iff.mpr c27
     subst c27
     have H1 : ((laws_toLoadS.f kj12 l1).bind fun t212 => ((laws_eqLoadS.f kj12 t203 t212).bind fun t215 => (if t215 = true then (some true) else (some false)))) = some r := by rw [if_neg (show ¬ (false = true) by decide)] at H; exact H
     clear H
     have H := H1
     clear H1
     replace H := Option.bind_eq_some_iff.mp H
     obtain ⟨t212, A280, H⟩ := H
     replace H : ((laws_eqLoadS.f kj12 t203 t212).bind fun t215 => (if t215 = true then (some true) else (some false))) = some r := H
     have A28 := Aside0.mk A280
     clear A280
     replace H := Option.bind_eq_some_iff.mp H
     obtain ⟨t215, A290, H⟩ := H
     replace H : (if t215 = true then (some true) else (some false)) = some r := H
     have A29 := Aside0.mk A290
     clear A290
     by_cases c30 : t215 = true
     ·
      subst c30
      have H1 : (some true) = some r := by rw [if_pos rfl] at H; exact H
      clear H
      have H := H1
      clear H1
      obtain rfl := Option.some.inj H
      go_wp2_with (first | ((with_reducible refine gate_callee (f := 23) rfl ?_); refine goesL_ (some 56) rfl rfl Try.func23 (by kernel_rfl) rfl #[.slice A1 l1.length c1] rfl tM ?_; (with_reducible refine (laws_toLoadS.calls kj12 _ _ l1 t212 _ ?side1 ?side2 A28.out).mono ?_); (case side1 => exact tC (Kd.C_below HR1.out HB.out)); (case side2 => exact HC1.out); rintro e w31 ⟨v213, rfl, ho0, hb⟩; refine ⟨_, rfl, ?_⟩; have HO214 := Aside0.mk (Kd.R_lower (Kd.R_new' ho0 (Kd.R_lt (tR HO_11.out))) (below_size (tB HB.out))); replace HO_11 := Aside0.mk (Kd.R_elder' (tR HO_11.out) (Kd.R_base ho0) hb); replace BK192 := bkB BK192 hb; replace HB := Aside0.mk (below_step (tB HB.out) hb); (try clear hb); (try clear hb2); (try clear hk); (try clear hi); (try clear ho0); obtain ⟨Ao32, co32, eo32⟩ := Kd.R_slice HO214.out; subst eo32) | ((with_reducible refine gate_callee (f := 25) rfl ?_); refine goesL_ (some 57) rfl rfl Try.func25 (by kernel_rfl) rfl #[.slice Ao23 t203.length co23, .slice Ao32 t212.length co32] rfl tM ?_; (with_reducible refine (laws_eqLoadS.calls kj12 _ _ t203 _ _ t212 true _ ?side1 ?side2 ?side3 ?side4 A29.out).mono ?_); (case side1 => exact tC (Kd.R_reads' HO_11.out).2.2); (case side2 => exact (Kd.R_reads' HO_11.out).2.1); (case side3 => exact tC (Kd.R_reads' HO214.out).2.2); (case side4 => exact (Kd.R_reads' HO214.out).2.1); rintro e w33 ⟨rfl, hb⟩; refine ⟨_, rfl, ?_⟩; replace HO_11 := Aside0.mk (Kd.R_below (tR HO_11.out) hb); replace HO214 := Aside0.mk (Kd.R_below (tR HO214.out) hb); replace BK192 := bkB BK192 hb; replace HB := Aside0.mk (below_step (tB HB.out) hb); (try clear hb); (try clear hb2); (try clear hk); (try clear hi)))
      go_ret
      exact ⟨by first | rfl | (simp [errW_none, errW_some] <;> rfl) | (simp [*, errW_none, errW_some] <;> rfl), tB HB.out⟩
     ·
      replace c30 := Bool.eq_false_iff.mpr c30
      subst c30
      have H1 : (some false) = some r := by rw [if_neg (show ¬ (false = true) by decide)] at H; exact H
      clear H
      have H := H1
      clear H1
      obtain rfl := Option.some.inj H
      go_wp2_with (first | ((with_reducible refine gate_callee (f := 23) rfl ?_); refine goesL_ (some 56) rfl rfl Try.func23 (by kernel_rfl) rfl #[.slice A1 l1.length c1] rfl tM ?_; (with_reducible refine (laws_toLoadS.calls kj12 _ _ l1 t212 _ ?side1 ?side2 A28.out).mono ?_); (case side1 => exact tC (Kd.C_below HR1.out HB.out)); (case side2 => exact HC1.out); rintro e w34 ⟨v213, rfl, ho0, hb⟩; refine ⟨_, rfl, ?_⟩; have HO214 := Aside0.mk (Kd.R_lower (Kd.R_new' ho0 (Kd.R_lt (tR HO_11.out))) (below_size (tB HB.out))); replace HO_11 := Aside0.mk (Kd.R_elder' (tR HO_11.out) (Kd.R_base ho0) hb); replace BK192 := bkB BK192 hb; replace HB := Aside0.mk (below_step (tB HB.out) hb); (try clear hb); (try clear hb2); (try clear hk); (try clear hi); (try clear ho0); obtain ⟨Ao35, co35, eo35⟩ := Kd.R_slice HO214.out; subst eo35) | ((with_reducible refine gate_callee (f := 25) rfl ?_); refine goesL_ (some 57) rfl rfl Try.func25 (by kernel_rfl) rfl #[.slice Ao23 t203.length co23, .slice Ao35 t212.length co35] rfl tM ?_; (with_reducible refine (laws_eqLoadS.calls kj12 _ _ t203 _ _ t212 false _ ?side1 ?side2 ?side3 ?side4 A29.out).mono ?_); (case side1 => exact tC (Kd.R_reads' HO_11.out).2.2); (case side2 => exact (Kd.R_reads' HO_11.out).2.1); (case side3 => exact tC (Kd.R_reads' HO214.out).2.2); (case side4 => exact (Kd.R_reads' HO214.out).2.1); rintro e w36 ⟨rfl, hb⟩; refine ⟨_, rfl, ?_⟩; replace HO_11 := Aside0.mk (Kd.R_below (tR HO_11.out) hb); replace HO214 := Aside0.mk (Kd.R_below (tR HO214.out) hb); replace BK192 := bkB BK192 hb; replace HB := Aside0.mk (below_step (tB HB.out) hb); (try clear hb); (try clear hb2); (try clear hk); (try clear hi)))
      go_ret
      exact ⟨by first | rfl | (simp [errW_none, errW_some] <;> rfl) | (simp [*, errW_none, errW_some] <;> rfl), tB HB.out⟩

end Go.Proofs.Ytchcjlkbpmkajaa.PFnExactOutermostPlaces

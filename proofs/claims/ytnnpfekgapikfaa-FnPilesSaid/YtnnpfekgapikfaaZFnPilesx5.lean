import Derived.Test.YtnnpfekgapikfaaZFnPilesx0
import Derived.Test.YtnnpfekgapikfaaZFnPilesx3
import Derived.Test.YtnnpfekgapikfaaZFnPilesx4
namespace Go.Proofs.Ytnnpfekgapikfaa.PFnPiles
open Go.RowKit Go.Proofs.YtnnpfekgapikfaaW.PrintWords Go.Proofs.YtnnpfekgapikfaaW.PrintLast Go.Proofs.YtnnpfekgapikfaaW.PrintMore
attribute [local go_sem] max2_int min2_int max_two min_two max_three min_three max_four min_four
set_option linter.unusedVariables false
set_option linter.unusedSimpArgs false
def slices_Max_int_int.l0 : Nat → List Int → Int → Int → Option (Int)
 | 0, _, _, _ => none
 | k + 1, x0, x3, x4 => if x4 < (x0.length : Int) then (if 0 ≤ x4 then (slices_Max_int_int.l0 k x0 (mx x3 (rd x0 x4)) (wrap64 (x4 + 1))) else (none)) else (some x3)
def slices_Max_int_int.f (k : Nat) (l0 : List Int) : Option (Int) := if (l0.length : Int) < 1 then (none) else (if 0 < (l0.length : Int) then (slices_Max_int_int.l0 k l0 (rd l0 0) 1) else (none))
set_option maxHeartbeats 8000000 in
set_option maxRecDepth 100000 in
theorem slices_Max_int_int.calls (k : Nat) (A0 : Option Addr) (c0 : Nat) (l0 : List Int) (r : Int) (w : World) (hr0 : Kd.C (Kd.int .i64) w A0 l0.length l0) (hc0 : l0.length ≤ c0) (h : slices_Max_int_int.f k l0 = some r) :
  Calls Try.prog 70 #[.slice A0 l0.length c0] w fun e w' => e = .returned (.int .i64 r) ∧ Below w.heap.size w w' := by
 have HR0 := Aside0.mk hr0
 have HC0 := Aside0.mk hc0
 clear hr0 hc0
 have HB := Aside0.mk (Below.refl w.heap.size w)
 have H : (if (l0.length : Int) < 1 then (none) else (if 0 < (l0.length : Int) then (slices_Max_int_int.l0 k l0 (rd l0 0) 1) else (none))) = some r := h
 clear h
 by_cases c2 : (l0.length : Int) < 1
 ·
  rw [if_pos c2] at H
  exact absurd H (by simp)
 ·
  rw [if_neg c2] at H
  have c2b0 : decide ((l0.length : Int) < 1) = false := decide_eq_false c2
  have c2b1 : decide (l0.length < 1) = false := decide_eq_false (by omega)
  clear c2
  by_cases c3 : 0 < (l0.length : Int)
  ·
   rw [if_pos c3] at H
   have c3b0 : decide (0 < (l0.length : Int)) = true := decide_eq_true c3
   have c3b1 : decide (0 < l0.length) = true := decide_eq_true (by omega)
   clear c3
   have H' := Aside0.mk H
   clear H
   have p281 : 0 ≤ (0 : Int) := (by omega)
   have q281 : 0 < (l0.length : Int) := of_decide_eq_true (by first | (with_reducible assumption) | assumption)
   obtain ⟨ad281, e281, hx281_0⟩ := Kd.at_int HR0.out 0 p281 q281
   cases e281
   have qi281 : (0 < l0.length) = True := eq_true (by omega)
   (try rw [show ((0 : Int)).toNat = 0 from rfl] at hx281_0)
   (try rw [Addr.add_zero'] at hx281_0)
   replace p281 := eq_true p281
   replace q281 := eq_true q281
   go_enter Try.func70, Try.ntmps70
   go_wp2
   go_loopg [3, 4] k (fun kq v3 v4 w' => ∃ (x3_1 : Int) (x4_1 : Int), v3 = .int .i64 x3_1 ∧ v4 = .int .i64 x4_1 ∧ Aside0 (slices_Max_int_int.l0 kq l0 x3_1 x4_1 = some r) ∧ Aside0 (kq ≤ k) ∧ Aside0 (Below w.heap.size w w'))
   case atStart => exact ⟨(rd l0 0), (1), (by first | rfl | (simp; done) | (simp [wrap64]; done) | (simp [*]; done)), (by first | rfl | (simp; done) | (simp [wrap64]; done) | (simp [*]; done)), H', ⟨Nat.le_refl _⟩, ⟨tB HB.out⟩⟩
   case round =>
    clear H'
    (try clear c2); (try clear c2b0); (try clear c2b1); (try clear c3); (try clear c3b0); (try clear c3b1); (try clear hx281_0); (try clear p281); (try clear q281)
    obtain ⟨x3_1, x4_1, rfl, rfl, HA, HK1, HB⟩ := hrel
    cases gk with
    | zero => exact absurd HA.out (by simp [slices_Max_int_int.l0])
    | succ k1 =>
     have H := HA.out
     clear HA
     simp only [slices_Max_int_int.l0] at H
     by_cases c4 : x4_1 < (l0.length : Int)
     ·
      rw [if_pos c4] at H
      have c4b0 : decide (x4_1 < (l0.length : Int)) = true := decide_eq_true c4
      clear c4
      by_cases c5 : 0 ≤ x4_1
      ·
       rw [if_pos c5] at H
       have c5b0 : decide (0 ≤ x4_1) = true := decide_eq_true c5
       clear c5
       obtain ⟨ji6, hji6⟩ : ∃ j_ : Int, (mx x3_1 (rd l0 x4_1)) = j_ := ⟨_, rfl⟩
       replace H : (slices_Max_int_int.l0 k1 l0 ji6 (wrap64 (x4_1 + 1))) = some r := by first | (rw [hji6] at H; exact H) | (simp only [hji6] at H ⊢; exact H)
       have hji6_ : (if x3_1 < (rd l0 x4_1) then (rd l0 x4_1) else x3_1) = ji6 := hji6
       have H' := Aside0.mk H
       clear H
       have p282 : 0 ≤ (x4_1 : Int) := of_decide_eq_true (by first | (with_reducible assumption) | assumption)
       have q282 : x4_1 < (l0.length : Int) := of_decide_eq_true (by first | (with_reducible assumption) | assumption)
       obtain ⟨ad282, e282, hx282_0⟩ := Kd.at_int HR0.out x4_1 p282 q282
       obtain rfl : ad281 = ad282 := (by injection e282)
       replace hx282_0 := hC HB hx282_0
       replace p282 := eq_true p282
       replace q282 := eq_true q282
       go_wp2
       go_roundg k1
       case measure => have := HK1.out; omega
       case rel => exact ⟨(ji6), (wrap64 (x4_1 + 1)), (by first | rfl | (simp; done) | (simp only [← hji6] <;> (first | rfl | simp)) | (simp [*]; done)), (by first | rfl | (simp; done) | (simp [wrap64]; done) | (simp [*]; done)), H', ⟨by have := HK1.out; omega⟩, ⟨tB HB.out⟩⟩
      ·
       rw [if_neg c5] at H
       exact absurd H (by simp)
     ·
      rw [if_neg c4] at H
      have c4b0 : decide (x4_1 < (l0.length : Int)) = false := decide_eq_false c4
      clear c4
      obtain rfl := Option.some.inj H
      go_wp2
      go_ret
      exact ⟨by first | rfl | (simp [errW_none, errW_some] <;> rfl) | (simp [*, errW_none, errW_some] <;> rfl), tB HB.out⟩
  ·
   rw [if_neg c3] at H
   exact absurd H (by simp)
def impl_OverhangOf.f (k : Nat) (a0_0 : Int) (l0_1 : List Int) (l0_2 : List Int) : Option (Int × Bool) := (impl_IsPile.f k a0_0 l0_1 l0_2).bind fun t284 => (if t284 = true then ((slices_Max_int_int.f k l0_1).bind fun t285 => (some (mx 0 (wrap64 (t285 + a0_0)), true))) else (some (0, false)))
def impl_OverhangOf.T3 : Bool × List (List Nat × List Nat) := (true, [([], []), ([0], [0]), ([1], [1]), ([], []), ([3], [3]), ([2, 4], [2, 4]), ([5], [5]), ([6, 2, 0, 1, 2, 3, 4, 5, 6], [6]), ([7, 0, 1, 2, 3, 4, 5, 6, 7], [])])
def impl_OverhangOf.B3 : List Nat := [0, 1, 3, 0, 8, 31, 63, 127, 255]
theorem impl_OverhangOf.tab3 : rtab .any (opsOf Try.f21 3) = impl_OverhangOf.T3 := by kernel_rfl
theorem impl_OverhangOf.bits3 : waitsOk impl_OverhangOf.T3.2 impl_OverhangOf.B3 = true := by kernel_rfl
set_option maxHeartbeats 8000000 in
set_option maxRecDepth 100000 in
theorem impl_OverhangOf.calls (k : Nat) (a0_0 : Int) (A0_1 : Option Addr) (c0_1 : Nat) (l0_1 : List Int) (A0_2 : Option Addr) (c0_2 : Nat) (l0_2 : List Int) (r1 : Int) (r2 : Bool) (w : World) (hr0_1 : Kd.C (Kd.int .i64) w A0_1 l0_1.length l0_1) (hc0_1 : l0_1.length ≤ c0_1) (hr0_2 : Kd.C (Kd.int .i64) w A0_2 l0_2.length l0_2) (hc0_2 : l0_2.length ≤ c0_2) (h : impl_OverhangOf.f k a0_0 l0_1 l0_2 = some (r1, r2)) :
  Calls Try.prog 21 #[.agg #[.int .i64 a0_0, .slice A0_1 l0_1.length c0_1, .slice A0_2 l0_2.length c0_2]] w fun e w' => e = .returned (.tuple #[.int .i64 r1, .bool r2]) ∧ Below w.heap.size w w' := by
 have hu27 := Try.underlying27
 have HR0_1 := Aside0.mk hr0_1
 have HC0_1 := Aside0.mk hc0_1
 clear hr0_1 hc0_1
 have HR0_2 := Aside0.mk hr0_2
 have HC0_2 := Aside0.mk hc0_2
 clear hr0_2 hc0_2
 have HB := Aside0.mk (Below.refl w.heap.size w)
 have H : ((impl_IsPile.f k a0_0 l0_1 l0_2).bind fun t284 => (if t284 = true then ((slices_Max_int_int.f k l0_1).bind fun t285 => (some (mx 0 (wrap64 (t285 + a0_0)), true))) else (some (0, false)))) = some (r1, r2) := h
 clear h
 replace H := Option.bind_eq_some_iff.mp H
 obtain ⟨t284, A20, H⟩ := H
 replace H : (if t284 = true then ((slices_Max_int_int.f k l0_1).bind fun t285 => (some (mx 0 (wrap64 (t285 + a0_0)), true))) else (some (0, false))) = some (r1, r2) := H
 have A2 := Aside0.mk A20
 clear A20
 by_cases c3 : t284 = true
 ·
  subst c3
  have H1 : ((slices_Max_int_int.f k l0_1).bind fun t285 => (some (mx 0 (wrap64 (t285 + a0_0)), true))) = some (r1, r2) := by rw [if_pos rfl] at H; exact H
  clear H
  have H := H1
  clear H1
  replace H := Option.bind_eq_some_iff.mp H
  obtain ⟨t285, A40, H⟩ := H
  replace H : (some (mx 0 (wrap64 (t285 + a0_0)), true)) = some (r1, r2) := H
  have A4 := Aside0.mk A40
  clear A40
  obtain ⟨ji5, hji5⟩ : ∃ j_ : Int, (mx 0 (wrap64 (t285 + a0_0))) = j_ := ⟨_, rfl⟩
  replace H : (some (ji5, true)) = some (r1, r2) := by first | (rw [hji5] at H; exact H) | (simp only [hji5] at H ⊢; exact H)
  (try rw [hji5] at A2)
  (try rw [hji5] at A4)
  (try (have hji5l : 0 ≤ ji5 := by (rw [← hji5]; unfold mx; (repeat' split) <;> omega)))
  (try (have hji5m : 0 ≤ ji5 := by omega))
  have hji5_ : (if 0 < (wrap64 (t285 + a0_0)) then (wrap64 (t285 + a0_0)) else 0) = ji5 := hji5
  simp only [Option.some.injEq, Prod.mk.injEq] at H
  obtain ⟨rfl, rfl⟩ := H
  go_enter Try.func21, Try.ntmps21
  try go_wp2_with (first | ((with_reducible refine gate_dst (N := 1) rfl ?_); refine bE 1 #[.int .i64 a0_0, .slice A0_1 l0_1.length c0_1, .slice A0_2 l0_2.length c0_2] 27 ?_; intro gb283 hg w6 hbox hb; have BK283 := Aside0.mk hbox; have GW283 := sB HB hg; have GE283 := GW283; replace HB := hB HB hb; clear hb hbox hg; obtain ⟨hcz7_0, hfz7_0, hcz7_1, hfz7_1, hcz7_2, hfz7_2⟩ := cz3 BK283) | ((with_reducible refine gate_callee (f := 18) rfl ?_); refine goesL_ (some 5) rfl rfl Try.func18 (by kernel_rfl) rfl #[.agg #[.int .i64 a0_0, .slice A0_1 l0_1.length c0_1, .slice A0_2 l0_2.length c0_2]] rfl tM ?_; (with_reducible refine (impl_IsPile.calls k a0_0 _ _ l0_1 _ _ l0_2 true _ ?side1 ?side2 ?side3 ?side4 A2.out).mono ?_); (case side1 => exact cB HR0_1 HB); (case side2 => exact HC0_1.out); (case side3 => exact cB HR0_2 HB); (case side4 => exact HC0_2.out); rintro e w8 ⟨rfl, hb⟩; refine ⟨_, rfl, ?_⟩; replace BK283 := bkB BK283 hb; replace HB := hB HB hb; (try clear hb)))
  replace BK283 := Aside0.mk (blk_drew BK283.out)
  replace HB := Aside0.mk (below_drew1 HB.out)
  refine start_ (n := 9) (S := fun w' => w'.cell? ⟨gb283, 0, none⟩ = some (.int .i64 a0_0) ∧ w'.cell? ⟨gb283, 1, none⟩ = some (.slice A0_1 l0_1.length c0_1) ∧ w'.cell? ⟨gb283, 2, none⟩ = some (.slice A0_2 l0_2.length c0_2)) (ds := []) #[n_, n_, n_, n_, n_, n_, n_, n_, n_] (by kernel_rfl) rfl rfl ⟨(blk_cell BK283.out 0).trans rfl, (blk_cell BK283.out 1).trans rfl, (blk_cell BK283.out 2).trans rfl⟩ (fun hHeld => ?_); refine with_tabW impl_OverhangOf.tab3 impl_OverhangOf.bits3 (fun HT_ HW_ => ?_)
  generalize w8.drew = w9 at BK283 HB hHeld ⊢
  refine pu 0 (some 7) #[y_, n_, n_, n_, n_, n_, n_, n_, n_] (any_of HT_.out (by kernel_rfl)) ?_
  refine pu 3 (some 10) #[y_, n_, n_, y_, n_, n_, n_, n_, n_] (any_of HT_.out (by kernel_rfl)) ?_
  refine tk 1 (some 8) #[y_, y_, n_, y_, n_, n_, n_, n_, n_] rfl (take_ofW HT_.out HW_.out (by kernel_rfl)) hHeld (Or.inl ⟨by rfl, by rintro w' ⟨s0, s1, s2⟩; go_simp; with_reducible rfl⟩) ?_
  refine tk 4 (some 11) #[y_, y_, n_, y_, y_, n_, n_, n_, n_] rfl (take_ofW HT_.out HW_.out (by kernel_rfl)) hHeld (Or.inl ⟨by rfl, by rintro w' ⟨s0, s1, s2⟩; go_simp; with_reducible rfl⟩) ?_
  refine one_ (i := 2) (N := some 9) #[y_, y_, y_, y_, y_, n_, n_, n_, n_] rfl rfl (one_of HT_.out (by kernel_rfl)) (by decide) (fun K hK => ?_)
  refine goes_ Try.func70 (by kernel_rfl) rfl #[.slice A0_1 l0_1.length c0_1] (by rfl) rfl rfl tM ?_
  with_reducible refine (slices_Max_int_int.calls k _ _ l0_1 t285 _ ?side1 ?side2 A4.out).mono ?_
  (case side1 => exact cB HR0_1 HB)
  (case side2 => exact HC0_1.out)
  rintro e w10 ⟨rfl, hb⟩
  refine ⟨_, rfl, ?_⟩
  replace BK283 := bkB BK283 hb
  replace HB := hB HB hb
  (try clear hb); (try clear hb2); (try clear hk); (try clear hi)
  refine hK.out _ _ ⟨(blk_cell BK283.out 0).trans rfl, (blk_cell BK283.out 1).trans rfl, (blk_cell BK283.out 2).trans rfl⟩ (fun hHeld => ?_)
  clear hK K
  refine norm_ (a' := ?_) ?_ ?_
  rotate_left
  ·
   show Act.put _ (some 9) _ = _
   simp only [Act.put, List.setIfInBounds_toArray, List.set_cons_zero, List.set_cons_succ, i64_w, i32_w]
   rfl
  refine pu 5 (some 12) #[y_, y_, y_, y_, y_, y_, n_, n_, n_] (any_of HT_.out (by kernel_rfl)) ?_
  refine pu 6 (some 13) #[y_, y_, y_, y_, y_, y_, y_, n_, n_] (any_of HT_.out (by kernel_rfl)) ?_
  refine pu 7 (some 2) #[y_, y_, y_, y_, y_, y_, y_, y_, n_] (any_of HT_.out (by kernel_rfl)) ?_
  refine pu 8 (some 3) #[y_, y_, y_, y_, y_, y_, y_, y_, y_] (any_of HT_.out (by kernel_rfl)) ?_
  refine done_ (done_of HT_.out (by kernel_rfl)) ?_
  try go_wp2
  go_ret2
  exact ⟨by first | rfl | (simp [errW_none, errW_some] <;> rfl) | (simp only [← hji5]; first | rfl | (simp [errW_none, errW_some] <;> rfl)) | (simp [*, errW_none, errW_some] <;> rfl), tB HB.out⟩
 ·
  replace c3 := Bool.eq_false_iff.mpr c3
  subst c3
  have H1 : (some (0, false)) = some (r1, r2) := by rw [if_neg (show ¬ (false = true) by decide)] at H; exact H
  clear H
  have H := H1
  clear H1
  simp only [Option.some.injEq, Prod.mk.injEq] at H
  obtain ⟨rfl, rfl⟩ := H
  go_enter Try.func21, Try.ntmps21
  go_wp2_with (first | ((with_reducible refine gate_dst (N := 1) rfl ?_); refine bE 1 #[.int .i64 a0_0, .slice A0_1 l0_1.length c0_1, .slice A0_2 l0_2.length c0_2] 27 ?_; intro gb283 hg w11 hbox hb; have BK283 := Aside0.mk hbox; have GW283 := sB HB hg; have GE283 := GW283; replace HB := hB HB hb; clear hb hbox hg; obtain ⟨hcz12_0, hfz12_0, hcz12_1, hfz12_1, hcz12_2, hfz12_2⟩ := cz3 BK283) | ((with_reducible refine gate_callee (f := 18) rfl ?_); refine goesL_ (some 5) rfl rfl Try.func18 (by kernel_rfl) rfl #[.agg #[.int .i64 a0_0, .slice A0_1 l0_1.length c0_1, .slice A0_2 l0_2.length c0_2]] rfl tM ?_; (with_reducible refine (impl_IsPile.calls k a0_0 _ _ l0_1 _ _ l0_2 false _ ?side1 ?side2 ?side3 ?side4 A2.out).mono ?_); (case side1 => exact cB HR0_1 HB); (case side2 => exact HC0_1.out); (case side3 => exact cB HR0_2 HB); (case side4 => exact HC0_2.out); rintro e w13 ⟨rfl, hb⟩; refine ⟨_, rfl, ?_⟩; replace BK283 := bkB BK283 hb; replace HB := hB HB hb; (try clear hb)))
  go_ret2
  exact ⟨by first | rfl | (simp [errW_none, errW_some] <;> rfl) | (simp [*, errW_none, errW_some] <;> rfl), tB HB.out⟩
def spec_OverhangOf.l0 : Nat → Int → Int → Int → List Int → List Int → Option (Int × Bool)
 | 0, _, _, _, _, _ => none
 | k + 1, x4, x5, x287000, x287001, x287002 => if x5 < (x287001.length : Int) then (if 0 ≤ x5 then ((spec_l1Most.f x4 (wrap64 ((rd x287001 x5) + x287000))).bind fun t289 => (spec_OverhangOf.l0 k t289 (wrap64 (x5 + 1)) x287000 x287001 x287002)) else (none)) else (some (x4, true))
def spec_OverhangOf.f (k : Nat) (a0_0 : Int) (l0_1 : List Int) (l0_2 : List Int) : Option (Int × Bool) := (spec_l4Pile.f k a0_0 l0_1 l0_2).bind fun t287 => (if t287 = true then (spec_OverhangOf.l0 k 0 0 a0_0 l0_1 l0_2) else (some (0, false)))
set_option maxHeartbeats 8000000 in
set_option maxRecDepth 100000 in
theorem spec_OverhangOf.calls (k : Nat) (a0_0 : Int) (A0_1 : Option Addr) (c0_1 : Nat) (l0_1 : List Int) (A0_2 : Option Addr) (c0_2 : Nat) (l0_2 : List Int) (r1 : Int) (r2 : Bool) (w : World) (hr0_1 : Kd.C (Kd.int .i64) w A0_1 l0_1.length l0_1) (hc0_1 : l0_1.length ≤ c0_1) (hr0_2 : Kd.C (Kd.int .i64) w A0_2 l0_2.length l0_2) (hc0_2 : l0_2.length ≤ c0_2) (h : spec_OverhangOf.f k a0_0 l0_1 l0_2 = some (r1, r2)) :
  Calls Try.prog 22 #[.agg #[.int .i64 a0_0, .slice A0_1 l0_1.length c0_1, .slice A0_2 l0_2.length c0_2]] w fun e w' => e = .returned (.tuple #[.int .i64 r1, .bool r2]) ∧ Below w.heap.size w w' := by
 have hu27 := Try.underlying27
 have hiw_ := i64_w
 have HR0_1 := Aside0.mk hr0_1
 have HC0_1 := Aside0.mk hc0_1
 clear hr0_1 hc0_1
 have HR0_2 := Aside0.mk hr0_2
 have HC0_2 := Aside0.mk hc0_2
 clear hr0_2 hc0_2
 have HB := Aside0.mk (Below.refl w.heap.size w)
 have H : ((spec_l4Pile.f k a0_0 l0_1 l0_2).bind fun t287 => (if t287 = true then (spec_OverhangOf.l0 k 0 0 a0_0 l0_1 l0_2) else (some (0, false)))) = some (r1, r2) := h
 clear h
 replace H := Option.bind_eq_some_iff.mp H
 obtain ⟨t287, A20, H⟩ := H
 replace H : (if t287 = true then (spec_OverhangOf.l0 k 0 0 a0_0 l0_1 l0_2) else (some (0, false))) = some (r1, r2) := H
 have A2 := Aside0.mk A20
 clear A20
 by_cases c3 : t287 = true
 ·
  subst c3
  have H1 : (spec_OverhangOf.l0 k 0 0 a0_0 l0_1 l0_2) = some (r1, r2) := by rw [if_pos rfl] at H; exact H
  clear H
  have H := H1
  clear H1
  have H' := Aside0.mk H
  clear H
  go_enter Try.func22, Try.ntmps22
  go_wp2_with (first | ((with_reducible refine gate_dst (N := 1) rfl ?_); refine bE 1 #[.int .i64 a0_0, .slice A0_1 l0_1.length c0_1, .slice A0_2 l0_2.length c0_2] 27 ?_; intro gb286 hg w4 hbox hb; have BK286 := Aside0.mk hbox; have GW286 := sB HB hg; have GE286 := GW286; replace HB := hB HB hb; clear hb hbox hg; obtain ⟨hcz5_0, hfz5_0, hcz5_1, hfz5_1, hcz5_2, hfz5_2⟩ := cz3 BK286) | (go_at_call 56; (with_reducible refine (spec_l4Pile.calls k a0_0 _ _ l0_1 _ _ l0_2 true _ ?side1 ?side2 ?side3 ?side4 A2.out).mono ?_); (case side1 => exact cB HR0_1 HB); (case side2 => exact HC0_1.out); (case side3 => exact cB HR0_2 HB); (case side4 => exact HC0_2.out); rintro e w6 ⟨rfl, hb⟩; replace BK286 := bkB BK286 hb; replace HB := hB HB hb; (try clear hb)))
  repeat (go_quiet (first | ((with_reducible refine gate_dst (N := 1) rfl ?_); refine bE 1 #[.int .i64 a0_0, .slice A0_1 l0_1.length c0_1, .slice A0_2 l0_2.length c0_2] 27 ?_; intro gb286 hg w4 hbox hb; have BK286 := Aside0.mk hbox; have GW286 := sB HB hg; have GE286 := GW286; replace HB := hB HB hb; clear hb hbox hg; obtain ⟨hcz5_0, hfz5_0, hcz5_1, hfz5_1, hcz5_2, hfz5_2⟩ := cz3 BK286) | (go_at_call 56; (with_reducible refine (spec_l4Pile.calls k a0_0 _ _ l0_1 _ _ l0_2 true _ ?side1 ?side2 ?side3 ?side4 A2.out).mono ?_); (case side1 => exact cB HR0_1 HB); (case side2 => exact HC0_1.out); (case side3 => exact cB HR0_2 HB); (case side4 => exact HC0_2.out); rintro e w6 ⟨rfl, hb⟩; replace BK286 := bkB BK286 hb; replace HB := hB HB hb; (try clear hb))); try go_wp2_with (first | ((with_reducible refine gate_dst (N := 1) rfl ?_); refine bE 1 #[.int .i64 a0_0, .slice A0_1 l0_1.length c0_1, .slice A0_2 l0_2.length c0_2] 27 ?_; intro gb286 hg w4 hbox hb; have BK286 := Aside0.mk hbox; have GW286 := sB HB hg; have GE286 := GW286; replace HB := hB HB hb; clear hb hbox hg; obtain ⟨hcz5_0, hfz5_0, hcz5_1, hfz5_1, hcz5_2, hfz5_2⟩ := cz3 BK286) | (go_at_call 56; (with_reducible refine (spec_l4Pile.calls k a0_0 _ _ l0_1 _ _ l0_2 true _ ?side1 ?side2 ?side3 ?side4 A2.out).mono ?_); (case side1 => exact cB HR0_1 HB); (case side2 => exact HC0_1.out); (case side3 => exact cB HR0_2 HB); (case side4 => exact HC0_2.out); rintro e w6 ⟨rfl, hb⟩; replace BK286 := bkB BK286 hb; replace HB := hB HB hb; (try clear hb))))
  go_loopg [4, 5] k (fun kq v4 v5 w' => ∃ (x4_1 : Int) (x5_1 : Int), v4 = .int .i64 x4_1 ∧ v5 = .int .i64 x5_1 ∧ Aside0 (spec_OverhangOf.l0 kq x4_1 x5_1 a0_0 l0_1 l0_2 = some (r1, r2)) ∧ Aside0 (kq ≤ k) ∧ Aside0 (w'.heap[gb286]? = some (.cells #[.int .i64 a0_0, (.slice A0_1 l0_1.length c0_1), (.slice A0_2 l0_2.length c0_2)] 27 (0, 0))) ∧ Aside0 (Below w.heap.size w w'))
  case atStart => exact ⟨(0), (0), (by first | rfl | (simp; done) | (simp [wrap64]; done) | (simp [*]; done)), (by first | rfl | (simp; done) | (simp [wrap64]; done) | (simp [*]; done)), H', ⟨Nat.le_refl _⟩, ⟨tK BK286.out⟩, ⟨tB HB.out⟩⟩
  case round =>
   clear H'
   (try clear c3); (try clear hcz5_0); (try clear hcz5_1); (try clear hcz5_2); (try clear hfz5_0); (try clear hfz5_1); (try clear hfz5_2)
   obtain ⟨x4_1, x5_1, rfl, rfl, HA, HK1, BK286, HB⟩ := hrel
   cases gk with
   | zero => exact absurd HA.out (by simp [spec_OverhangOf.l0])
   | succ k1 =>
    have H := HA.out
    clear HA
    simp only [spec_OverhangOf.l0] at H
    by_cases c7 : x5_1 < (l0_1.length : Int)
    ·
     rw [if_pos c7] at H
     have c7b0 : decide (x5_1 < (l0_1.length : Int)) = true := decide_eq_true c7
     clear c7
     by_cases c8 : 0 ≤ x5_1
     ·
      rw [if_pos c8] at H
      have c8b0 : decide (0 ≤ x5_1) = true := decide_eq_true c8
      clear c8
      replace H := Option.bind_eq_some_iff.mp H
      obtain ⟨t289, A90, H⟩ := H
      replace H : (spec_OverhangOf.l0 k1 t289 (wrap64 (x5_1 + 1)) a0_0 l0_1 l0_2) = some (r1, r2) := H
      have A9 := Aside0.mk A90
      clear A90
      have H' := Aside0.mk H
      clear H
      obtain ⟨hcz10_0, hfz10_0, hcz10_1, hfz10_1, hcz10_2, hfz10_2⟩ := cz3 BK286
      have p288 : 0 ≤ (x5_1 : Int) := of_decide_eq_true (by first | (with_reducible assumption) | assumption)
      have q288 : x5_1 < (l0_1.length : Int) := of_decide_eq_true (by first | (with_reducible assumption) | assumption)
      obtain ⟨ad288, e288, hx288_0⟩ := Kd.at_int HR0_1.out x5_1 p288 q288
      cases e288
      replace hx288_0 := hC HB hx288_0
      replace p288 := eq_true p288
      replace q288 := eq_true q288
      go_wp2_with (first | (go_at_call 50; (with_reducible refine (spec_l1Most.calls x4_1 (wrap64 ((rd l0_1 x5_1) + a0_0)) t289 _ A9.out).mono ?_); rintro e w' ⟨rfl, ⟨nd, rfl⟩⟩; (try first | exact ⟨rfl, _, World.drewN_drewN _ _ _⟩ | exact ⟨rfl, _, Eq.trans (World.drewN_drewN _ _ _) (congrArg (World.drewN _) (Nat.add_assoc _ _ _))⟩)))
      repeat (go_quiet (first | (go_at_call 50; (with_reducible refine (spec_l1Most.calls x4_1 (wrap64 ((rd l0_1 x5_1) + a0_0)) t289 _ A9.out).mono ?_); rintro e w' ⟨rfl, ⟨nd, rfl⟩⟩; (try first | exact ⟨rfl, _, World.drewN_drewN _ _ _⟩ | exact ⟨rfl, _, Eq.trans (World.drewN_drewN _ _ _) (congrArg (World.drewN _) (Nat.add_assoc _ _ _))⟩))); try go_wp2_with (first | (go_at_call 50; (with_reducible refine (spec_l1Most.calls x4_1 (wrap64 ((rd l0_1 x5_1) + a0_0)) t289 _ A9.out).mono ?_); rintro e w' ⟨rfl, ⟨nd, rfl⟩⟩; (try first | exact ⟨rfl, _, World.drewN_drewN _ _ _⟩ | exact ⟨rfl, _, Eq.trans (World.drewN_drewN _ _ _) (congrArg (World.drewN _) (Nat.add_assoc _ _ _))⟩))))
      go_roundg k1
      case measure => have := HK1.out; omega
      case rel => exact ⟨(t289), (wrap64 (x5_1 + 1)), (by first | rfl | (simp; done) | (simp [wrap64]; done) | (simp [*]; done)), (by first | rfl | (simp; done) | (simp [wrap64]; done) | (simp [*]; done)), H', ⟨by have := HK1.out; omega⟩, ⟨tK BK286.out⟩, ⟨tB HB.out⟩⟩
     ·
      rw [if_neg c8] at H
      exact absurd H (by simp)
    ·
     rw [if_neg c7] at H
     have c7b0 : decide (x5_1 < (l0_1.length : Int)) = false := decide_eq_false c7
     clear c7
     simp only [Option.some.injEq, Prod.mk.injEq] at H
     obtain ⟨rfl, rfl⟩ := H
     obtain ⟨hcz11_0, hfz11_0, hcz11_1, hfz11_1, hcz11_2, hfz11_2⟩ := cz3 BK286
     go_wp2
     repeat (go_quiet (fail); try go_wp2)
     go_ret2
     exact ⟨by first | rfl | (simp [errW_none, errW_some] <;> rfl) | (simp [*, errW_none, errW_some] <;> rfl), tB HB.out⟩
 ·
  replace c3 := Bool.eq_false_iff.mpr c3
  subst c3
  have H1 : (some (0, false)) = some (r1, r2) := by rw [if_neg (show ¬ (false = true) by decide)] at H; exact H
  clear H
  have H := H1
  clear H1
  simp only [Option.some.injEq, Prod.mk.injEq] at H
  obtain ⟨rfl, rfl⟩ := H
  go_enter Try.func22, Try.ntmps22
  go_wp2_with (first | ((with_reducible refine gate_dst (N := 1) rfl ?_); refine bE 1 #[.int .i64 a0_0, .slice A0_1 l0_1.length c0_1, .slice A0_2 l0_2.length c0_2] 27 ?_; intro gb286 hg w12 hbox hb; have BK286 := Aside0.mk hbox; have GW286 := sB HB hg; have GE286 := GW286; replace HB := hB HB hb; clear hb hbox hg; obtain ⟨hcz13_0, hfz13_0, hcz13_1, hfz13_1, hcz13_2, hfz13_2⟩ := cz3 BK286) | (go_at_call 56; (with_reducible refine (spec_l4Pile.calls k a0_0 _ _ l0_1 _ _ l0_2 false _ ?side1 ?side2 ?side3 ?side4 A2.out).mono ?_); (case side1 => exact cB HR0_1 HB); (case side2 => exact HC0_1.out); (case side3 => exact cB HR0_2 HB); (case side4 => exact HC0_2.out); rintro e w14 ⟨rfl, hb⟩; replace BK286 := bkB BK286 hb; replace HB := hB HB hb; (try clear hb)))
  repeat (go_quiet (first | ((with_reducible refine gate_dst (N := 1) rfl ?_); refine bE 1 #[.int .i64 a0_0, .slice A0_1 l0_1.length c0_1, .slice A0_2 l0_2.length c0_2] 27 ?_; intro gb286 hg w12 hbox hb; have BK286 := Aside0.mk hbox; have GW286 := sB HB hg; have GE286 := GW286; replace HB := hB HB hb; clear hb hbox hg; obtain ⟨hcz13_0, hfz13_0, hcz13_1, hfz13_1, hcz13_2, hfz13_2⟩ := cz3 BK286) | (go_at_call 56; (with_reducible refine (spec_l4Pile.calls k a0_0 _ _ l0_1 _ _ l0_2 false _ ?side1 ?side2 ?side3 ?side4 A2.out).mono ?_); (case side1 => exact cB HR0_1 HB); (case side2 => exact HC0_1.out); (case side3 => exact cB HR0_2 HB); (case side4 => exact HC0_2.out); rintro e w14 ⟨rfl, hb⟩; replace BK286 := bkB BK286 hb; replace HB := hB HB hb; (try clear hb))); try go_wp2_with (first | ((with_reducible refine gate_dst (N := 1) rfl ?_); refine bE 1 #[.int .i64 a0_0, .slice A0_1 l0_1.length c0_1, .slice A0_2 l0_2.length c0_2] 27 ?_; intro gb286 hg w12 hbox hb; have BK286 := Aside0.mk hbox; have GW286 := sB HB hg; have GE286 := GW286; replace HB := hB HB hb; clear hb hbox hg; obtain ⟨hcz13_0, hfz13_0, hcz13_1, hfz13_1, hcz13_2, hfz13_2⟩ := cz3 BK286) | (go_at_call 56; (with_reducible refine (spec_l4Pile.calls k a0_0 _ _ l0_1 _ _ l0_2 false _ ?side1 ?side2 ?side3 ?side4 A2.out).mono ?_); (case side1 => exact cB HR0_1 HB); (case side2 => exact HC0_1.out); (case side3 => exact cB HR0_2 HB); (case side4 => exact HC0_2.out); rintro e w14 ⟨rfl, hb⟩; replace BK286 := bkB BK286 hb; replace HB := hB HB hb; (try clear hb))))
  go_ret2
  exact ⟨by first | rfl | (simp [errW_none, errW_some] <;> rfl) | (simp [*, errW_none, errW_some] <;> rfl), tB HB.out⟩
def slices_Clone_int_int.f (l0 : List Int) : Option (List Int) := (some (([] : List Int) : List Int)).bind fun y290 => (if y290.length + l0.length < 17592186044416 then (some (y290 ++ l0)) else (none))
set_option maxHeartbeats 8000000 in
set_option maxRecDepth 100000 in
theorem slices_Clone_int_int.calls (A0 : Option Addr) (c0 : Nat) (l0 : List Int) (r : List Int) (w : World) (hr0 : Kd.C (Kd.int .i64) w A0 l0.length l0) (hc0 : l0.length ≤ c0) (h : slices_Clone_int_int.f l0 = some r) :
  Calls Try.prog 71 #[.slice A0 l0.length c0] w fun e w' => ∃ v0_ : Value, e = .returned (v0_) ∧ Kd.R (Kd.int .i64) 3 w' w.heap.size (fun _ => True) v0_ r ∧ Below w.heap.size w w' := by
 by_cases hA0 : A0.isNone = true
 ·
  obtain rfl : A0 = none := by simpa using hA0
  have hz : l0.length = 0 := by
   rcases Nat.eq_zero_or_pos l0.length with hz | hz
   ·
    exact hz
   ·
    obtain ⟨ad, e_, _⟩ := hr0.2.2 hz
    cases e_
  obtain rfl : l0 = [] := List.eq_nil_of_length_eq_zero hz
  obtain rfl : r = [] := by
   have h2 := h
   simp [slices_Clone_int_int.f] at h2
   first | exact h2 | exact h2.symm
  have heq := fun (W : World) => Lib.run_eql_slice_nil (P := Try.prog) W 25 3 none ([] : List (Int)).length c0 0 0 Try.underlying25
  simp only [List.length_nil, Option.isNone_none] at heq
  simp only [List.length_nil]
  go_enter Try.func71, Try.ntmps71
  go_wp2
  go_ret
  exact ⟨_, rfl, Kd.R_nil _ _ _ _ _, Below.refl _ _⟩
 ·
  have hAn : A0.isNone = false := Bool.eq_false_iff.mpr hA0
  clear hA0
  have heq := fun (W : World) => Lib.run_eql_slice_nil (P := Try.prog) W 25 3 A0 l0.length c0 0 0 Try.underlying25
  simp only [hAn] at heq
  clear hAn
  have HR0 := Aside0.mk hr0
  have HC0 := Aside0.mk hc0
  clear hr0 hc0
  have HB := Aside0.mk (Below.refl w.heap.size w)
  have H : ((some (([] : List Int) : List Int)).bind fun y290 => (if y290.length + l0.length < 17592186044416 then (some (y290 ++ l0)) else (none))) = some r := h
  clear h
  obtain ⟨y290, hy290⟩ : ∃ y_ : List Int, y_ = (([] : List Int)) := ⟨_, rfl⟩
  replace H : (if y290.length + l0.length < 17592186044416 then (some (y290 ++ l0)) else (none)) = some r := by first | (rw [hy290]; with_reducible exact H) | (have H2_ := (Option.bind_some _ _).symm.trans H; rw [hy290]; with_reducible exact H2_) | (have H2_ := (Option.bind_some _ _).symm.trans H; with_reducible exact H2_) | with_reducible exact H | (rw [hy290]; exact H) | exact H
  have Ny290 := Aside0.mk hy290
  clear hy290
  by_cases c2 : y290.length + l0.length < 17592186044416
  ·
   rw [if_pos c2] at H
   have LMc2 := Aside0.mk c2
   clear c2
   obtain ⟨y293, hy293⟩ : ∃ y_ : List Int, y_ = (y290 ++ l0) := ⟨_, rfl⟩
   replace H : (some y293) = some r := by first | (rw [hy293]; with_reducible exact H) | (have H2_ := (Option.bind_some _ _).symm.trans H; rw [hy293]; with_reducible exact H2_) | (have H2_ := (Option.bind_some _ _).symm.trans H; with_reducible exact H2_) | with_reducible exact H | (rw [hy293]; exact H) | exact H
   have Ny293 := Aside0.mk hy293
   clear hy293
   obtain rfl := Option.some.inj H
   go_enter Try.func71, Try.ntmps71
   go_wp2_with (first | ((with_reducible refine gate_dst (N := 5) rfl ?_); refine Kd.R_lit (Kd.int .i64) _ 3 ?hg (N := 5) ?hd (xs := ([] : List Int)) (inner := []) (ok := fun _ => True) (okp := fun _ => True) ?hr ?hp (fun _ hk => hk) trivial (Below.refl _ _) (Nat.le_refl _) (by simp) ?_; (case hd => rfl); (case hg => rfl); (case hr => first | (go_simp; done) | (go_simp; rfl)); (case hp => exact (Reps.none _ _)); intro v291 w3 ho4 hb hg_ hnew_; clear hg_ hnew_; (first | rw [← Ny290.out] at ho4 | (simp only [Int.reduceToNat] at ho4; rw [← Ny290.out] at ho4)); have HO292 := Aside0.mk (Kd.R_lower ho4 (below_size (tB HB.out))); replace HB := hB HB hb; clear hb ho4) | ((with_reducible refine gate_builtin (b := .append) (xs := #[.tmp 5, .tmp 6]) rfl ?_); at_builtin; refine Kd.R_append_rows (Kd.int .i64) (w0 := w) w.heap.size rfl (.tmp 5) (.tmp 6) 25 3 (.int .i64 0) 8 rfl Try.underlying25 info3 rfl (by decide) (by omega) v291 y290 l0 _ _ _ (fun _ => True) (fun _ => False) rfl rfl ?aO ?aR (fun _ _ h => h) (fun _ h => h.elim) ?aF ?aB ?aS ?aL ?_; (case aR => exact cB HR0 HB); (case aB => exact (tB HB.out)); (case aF => exact (fun _ _ => trivial)); (case aO => exact (tR HO292.out)); (case aS => exact (below_size (tB HB.out))); (case aL => have := LMc2.out; omega); intro v294 w5 ho hb hg hat; rw [← Ny293.out] at ho; replace HB := Aside0.mk (hb); have HO295 := Aside0.mk (ho); clear HO292; clear ho hb hg hat))
   go_ret
   exact ⟨_, by first | rfl | (simp [errW_none, errW_some] <;> rfl) | (simp [*, errW_none, errW_some] <;> rfl), tR HO295.out, tB HB.out⟩
  ·
   rw [if_neg c2] at H
   exact absurd H (by simp)
def impl_validPile.f (k : Nat) (a0_0 : Int) (l0_1 : List Int) (l0_2 : List Int) : Option (Int × List Int × List Int × Bool) := (impl_IsPile.f k a0_0 l0_1 l0_2).bind fun t298 => (if t298 = true then (some (a0_0, l0_1, l0_2, true)) else (some (0, ([] : List Int), ([] : List Int), false)))
set_option maxHeartbeats 8000000 in
set_option maxRecDepth 100000 in
theorem impl_validPile.calls (k : Nat) (a0_0 : Int) (P0_1_ : Nat → Prop) (u9000_ : Value) (l0_1 : List Int) (P0_2_ : Nat → Prop) (u9001_ : Value) (l0_2 : List Int) (r1 : Int) (r2 : List Int) (r3 : List Int) (r4 : Bool) (w0 w : World) (hB : Below w0.heap.size w0 w) (ho0_1 : Kd.R (Kd.int .i64) 3 w w0.heap.size P0_1_ u9000_ l0_1) (hp0_1_0_2 : ∀ k_, P0_1_ k_ → ¬ P0_2_ k_) (ho0_2 : Kd.R (Kd.int .i64) 3 w w0.heap.size P0_2_ u9001_ l0_2) (hp0_2_0_1 : ∀ k_, P0_2_ k_ → ¬ P0_1_ k_) (h : impl_validPile.f k a0_0 l0_1 l0_2 = some (r1, r2, r3, r4)) :
  Calls Try.prog 72 #[.agg #[.int .i64 a0_0, u9000_, u9001_]] w fun e w' => ∃ v1_ v2_ : Value, e = .returned (.tuple #[.agg #[.int .i64 r1, v1_, v2_], .bool r4]) ∧ Kd.R (Kd.int .i64) 3 w' w0.heap.size (fun k_ => ((P0_1_ k_ ∨ P0_2_ k_) ∨ w.heap.size ≤ k_) ∧ some k_ ≠ (v2_ : Value).ownBlock) v1_ r2 ∧ Kd.R (Kd.int .i64) 3 w' w0.heap.size (fun k_ => ((P0_1_ k_ ∨ P0_2_ k_) ∨ w.heap.size ≤ k_) ∧ some k_ ≠ (v1_ : Value).ownBlock) v2_ r3 ∧ Below w0.heap.size w0 w' ∧ Kept w w' (fun k_ => P0_1_ k_ ∨ P0_2_ k_) := by
 have hu27 := Try.underlying27
 have HO0_1 := Aside0.mk (show Kd.R (Kd.int .i64) 3 w w0.heap.size (fun k_ => ((P0_1_ k_ ∨ P0_2_ k_) ∨ w.heap.size ≤ k_) ∧ some k_ ≠ (u9001_ : Value).ownBlock) u9000_ l0_1 from Kd.R_mono ho0_1 (fun k_ hk => ⟨(.inl (.inl hk)), fun e_ => hp0_1_0_2 k_ hk (ho0_2.1 k_ e_.symm)⟩))
 have HO0_2 := Aside0.mk (show Kd.R (Kd.int .i64) 3 w w0.heap.size (fun k_ => ((P0_1_ k_ ∨ P0_2_ k_) ∨ w.heap.size ≤ k_) ∧ some k_ ≠ (u9000_ : Value).ownBlock) u9001_ l0_2 from Kd.R_mono ho0_2 (fun k_ hk => ⟨(.inl (.inr hk)), fun e_ => hp0_2_0_1 k_ hk (ho0_1.1 k_ e_.symm)⟩))
 have HK := Aside0.mk (Kept.refl w (fun k_ => P0_1_ k_ ∨ P0_2_ k_))
 have HW0 := Aside0.mk hB.size
 have HB := Aside0.mk hB
 clear hB
 have H : ((impl_IsPile.f k a0_0 l0_1 l0_2).bind fun t298 => (if t298 = true then (some (a0_0, l0_1, l0_2, true)) else (some (0, ([] : List Int), ([] : List Int), false)))) = some (r1, r2, r3, r4) := h
 clear h
 replace H := Option.bind_eq_some_iff.mp H
 obtain ⟨t298, A20, H⟩ := H
 replace H : (if t298 = true then (some (a0_0, l0_1, l0_2, true)) else (some (0, ([] : List Int), ([] : List Int), false))) = some (r1, r2, r3, r4) := H
 have A2 := Aside0.mk A20
 clear A20
 by_cases c3 : t298 = true
 ·
  subst c3
  have H1 : (some (a0_0, l0_1, l0_2, true)) = some (r1, r2, r3, r4) := by rw [if_pos rfl] at H; exact H
  clear H
  have H := H1
  clear H1
  simp only [Option.some.injEq, Prod.mk.injEq] at H
  obtain ⟨rfl, rfl, rfl, rfl⟩ := H
  obtain ⟨Ao4, co4, eo4⟩ := Kd.R_slice HO0_1.out
  subst eo4
  obtain ⟨Ao5, co5, eo5⟩ := Kd.R_slice HO0_2.out
  subst eo5
  go_enter Try.func72, Try.ntmps72
  go_wp2_with (first | ((with_reducible refine gate_dst (N := 1) rfl ?_); refine bE 1 #[.int .i64 a0_0, .slice Ao4 l0_1.length co4, .slice Ao5 l0_2.length co5] 27 ?_; intro gb296 hg w6 hbox hb; replace HO0_1 := rB HO0_1 hb; replace HO0_2 := rB HO0_2 hb; have BK296 := Aside0.mk hbox; have GW296 := Aside0.mk ((by rw [hg]; exact (by first | exact HK.out.1 | exact (show Kept w _ (fun k_ => P0_1_ k_ ∨ P0_2_ k_) from by repeat (first | (with_reducible first | exact HK.out | apply Kept.alloc | apply Kept.drewN | apply Kept.drew) | exact HK.out)).1) : w.heap.size ≤ gb296)); replace HK := Aside0.mk (Kept.below (S := (fun k_ => P0_1_ k_ ∨ P0_2_ k_)) (by repeat (first | (with_reducible first | exact HK.out | apply Kept.alloc | apply Kept.drewN | apply Kept.drew) | exact HK.out)) hb); have GE296 := Aside0.mk ((by rw [hg]; exact (below_size (tB HB.out)) : w0.heap.size ≤ gb296)); replace HB := hB HB hb; clear hb hbox hg) | ((with_reducible refine gate_dst (N := 2) rfl ?_); refine bE 2 #[.int .i64 0, .slice none 0 0, .slice none 0 0] 27 ?_; intro gb297 hg w7 hbox hb; replace HO0_1 := rB HO0_1 hb; replace HO0_2 := rB HO0_2 hb; have BK297 := Aside0.mk hbox; have GW297 := Aside0.mk ((by rw [hg]; exact (by first | exact HK.out.1 | exact (show Kept w _ (fun k_ => P0_1_ k_ ∨ P0_2_ k_) from by repeat (first | (with_reducible first | exact HK.out | apply Kept.alloc | apply Kept.drewN | apply Kept.drew | refine Kept.setCell ?_ (.inr GW296.out) _) | exact HK.out)).1) : w.heap.size ≤ gb297)); replace HK := Aside0.mk (Kept.below (S := (fun k_ => P0_1_ k_ ∨ P0_2_ k_)) (by repeat (first | (with_reducible first | exact HK.out | apply Kept.alloc | apply Kept.drewN | apply Kept.drew | refine Kept.setCell ?_ (.inr GW296.out) _) | exact HK.out)) hb); have GE297 := Aside0.mk ((by rw [hg]; exact (below_size (tB HB.out)) : w0.heap.size ≤ gb297)); replace HB := hB HB hb; have NB296_297 := lN BK296 hg; have NB297_296 := gN NB296_297; replace BK296 := bkB BK296 hb; clear hb hbox hg; have hnb8 := NB296_297.out; have hnc8 := NB297_296.out; obtain ⟨hcz9_0, hfz9_0, hcz9_1, hfz9_1, hcz9_2, hfz9_2⟩ := cz3 BK296) | ((with_reducible refine gate_callee (f := 18) rfl ?_); refine goesL_ (some 5) rfl rfl Try.func18 (by kernel_rfl) rfl #[.agg #[.int .i64 a0_0, .slice Ao4 l0_1.length co4, .slice Ao5 l0_2.length co5]] rfl tM ?_; (with_reducible refine (impl_IsPile.calls k a0_0 _ _ l0_1 _ _ l0_2 true _ ?side1 ?side2 ?side3 ?side4 A2.out).mono ?_); (case side1 => exact rC HO0_1); (case side2 => exact (Kd.R_reads' HO0_1.out).2.1); (case side3 => exact rC HO0_2); (case side4 => exact (Kd.R_reads' HO0_2.out).2.1); rintro e w10 ⟨rfl, hb⟩; refine ⟨_, rfl, ?_⟩; replace HO0_1 := rB HO0_1 hb; replace HO0_2 := rB HO0_2 hb; replace BK296 := bkB BK296 hb; replace BK297 := bkB BK297 hb; replace HK := Aside0.mk (Kept.below (S := (fun k_ => P0_1_ k_ ∨ P0_2_ k_)) (by repeat (first | (with_reducible first | exact HK.out | apply Kept.alloc | apply Kept.drewN | apply Kept.drew | refine Kept.setCell ?_ (.inr GW296.out) _ | refine Kept.setCell ?_ (.inr GW297.out) _) | exact HK.out)) hb); replace HB := hB HB hb; (try clear hb); obtain ⟨hcz11_0, hfz11_0, hcz11_1, hfz11_1, hcz11_2, hfz11_2⟩ := cz3 BK296; obtain ⟨hcz12_0, hfz12_0, hcz12_1, hfz12_1, hcz12_2, hfz12_2⟩ := cz3 BK297))
  refine bodyPost_ret (results_ct rfl _ _ gb297 27 #[.int .i64 a0_0, .slice Ao4 l0_1.length co4, .slice Ao5 l0_2.length co5] (0, 0) _ rfl (by (with_reducible repeat (first | refine blk_drewN ?_ _ | refine blk_drew ?_ | refine blk_alloc ?_ _)); exact bp3 BK297.out) Try.underlying27 rfl (by kernel_rfl)) rfl ?_
  exact ⟨_, _, by first | rfl | (simp [errW_none, errW_some] <;> rfl) | (simp [*, errW_none, errW_some] <;> rfl), by (with_reducible repeat (first | apply Kd.R_alloc | apply Kd.R_drewN | apply Kd.R_drew)); exact Kd.R_mono (Kd.R_far (p := ⟨gb297, 2, none⟩) (Kd.R_far (p := ⟨gb297, 1, none⟩) (Kd.R_far (p := ⟨gb297, 0, none⟩) (Kd.R_types HO0_1.out BK297.out (by decide)) (fun _ hk => hk.2) (.int .i64 a0_0)) (fun _ hk => hk.2) (.slice Ao4 l0_1.length co4)) (fun _ hk => hk.2) (.slice Ao5 l0_2.length co5)) (fun _ hk => ⟨hk.1.1, hk.1.2⟩), by (with_reducible repeat (first | apply Kd.R_alloc | apply Kd.R_drewN | apply Kd.R_drew)); exact Kd.R_mono (Kd.R_far (p := ⟨gb297, 2, none⟩) (Kd.R_far (p := ⟨gb297, 1, none⟩) (Kd.R_far (p := ⟨gb297, 0, none⟩) (Kd.R_types HO0_2.out BK297.out (by decide)) (fun _ hk => hk.2) (.int .i64 a0_0)) (fun _ hk => hk.2) (.slice Ao4 l0_1.length co4)) (fun _ hk => hk.2) (.slice Ao5 l0_2.length co5)) (fun _ hk => ⟨hk.1.1, hk.1.2⟩), tB HB.out, by repeat (first | (with_reducible first | exact HK.out | apply Kept.alloc | apply Kept.drewN | apply Kept.drew | refine Kept.setCell ?_ (.inr GW296.out) _ | refine Kept.setCell ?_ (.inr GW297.out) _) | exact HK.out)⟩
 ·
  replace c3 := Bool.eq_false_iff.mpr c3
  subst c3
  have H1 : (some (0, ([] : List Int), ([] : List Int), false)) = some (r1, r2, r3, r4) := by rw [if_neg (show ¬ (false = true) by decide)] at H; exact H
  clear H
  have H := H1
  clear H1
  simp only [Option.some.injEq, Prod.mk.injEq] at H
  obtain ⟨rfl, rfl, rfl, rfl⟩ := H
  obtain ⟨Ao13, co13, eo13⟩ := Kd.R_slice HO0_1.out
  subst eo13
  obtain ⟨Ao14, co14, eo14⟩ := Kd.R_slice HO0_2.out
  subst eo14
  go_enter Try.func72, Try.ntmps72
  go_wp2_with (first | ((with_reducible refine gate_dst (N := 1) rfl ?_); refine bE 1 #[.int .i64 a0_0, .slice Ao13 l0_1.length co13, .slice Ao14 l0_2.length co14] 27 ?_; intro gb296 hg w15 hbox hb; replace HO0_1 := rB HO0_1 hb; replace HO0_2 := rB HO0_2 hb; have BK296 := Aside0.mk hbox; have GW296 := Aside0.mk ((by rw [hg]; exact (by first | exact HK.out.1 | exact (show Kept w _ (fun k_ => P0_1_ k_ ∨ P0_2_ k_) from by repeat (first | (with_reducible first | exact HK.out | apply Kept.alloc | apply Kept.drewN | apply Kept.drew) | exact HK.out)).1) : w.heap.size ≤ gb296)); replace HK := Aside0.mk (Kept.below (S := (fun k_ => P0_1_ k_ ∨ P0_2_ k_)) (by repeat (first | (with_reducible first | exact HK.out | apply Kept.alloc | apply Kept.drewN | apply Kept.drew) | exact HK.out)) hb); have GE296 := Aside0.mk ((by rw [hg]; exact (below_size (tB HB.out)) : w0.heap.size ≤ gb296)); replace HB := hB HB hb; clear hb hbox hg) | ((with_reducible refine gate_dst (N := 2) rfl ?_); refine bE 2 #[.int .i64 0, .slice none 0 0, .slice none 0 0] 27 ?_; intro gb297 hg w16 hbox hb; replace HO0_1 := rB HO0_1 hb; replace HO0_2 := rB HO0_2 hb; have BK297 := Aside0.mk hbox; have GW297 := Aside0.mk ((by rw [hg]; exact (by first | exact HK.out.1 | exact (show Kept w _ (fun k_ => P0_1_ k_ ∨ P0_2_ k_) from by repeat (first | (with_reducible first | exact HK.out | apply Kept.alloc | apply Kept.drewN | apply Kept.drew | refine Kept.setCell ?_ (.inr GW296.out) _) | exact HK.out)).1) : w.heap.size ≤ gb297)); replace HK := Aside0.mk (Kept.below (S := (fun k_ => P0_1_ k_ ∨ P0_2_ k_)) (by repeat (first | (with_reducible first | exact HK.out | apply Kept.alloc | apply Kept.drewN | apply Kept.drew | refine Kept.setCell ?_ (.inr GW296.out) _) | exact HK.out)) hb); have GE297 := Aside0.mk ((by rw [hg]; exact (below_size (tB HB.out)) : w0.heap.size ≤ gb297)); replace HB := hB HB hb; have NB296_297 := lN BK296 hg; have NB297_296 := gN NB296_297; replace BK296 := bkB BK296 hb; clear hb hbox hg; have hnb17 := NB296_297.out; have hnc17 := NB297_296.out; obtain ⟨hcz18_0, hfz18_0, hcz18_1, hfz18_1, hcz18_2, hfz18_2⟩ := cz3 BK296) | ((with_reducible refine gate_callee (f := 18) rfl ?_); refine goesL_ (some 5) rfl rfl Try.func18 (by kernel_rfl) rfl #[.agg #[.int .i64 a0_0, .slice Ao13 l0_1.length co13, .slice Ao14 l0_2.length co14]] rfl tM ?_; (with_reducible refine (impl_IsPile.calls k a0_0 _ _ l0_1 _ _ l0_2 false _ ?side1 ?side2 ?side3 ?side4 A2.out).mono ?_); (case side1 => exact rC HO0_1); (case side2 => exact (Kd.R_reads' HO0_1.out).2.1); (case side3 => exact rC HO0_2); (case side4 => exact (Kd.R_reads' HO0_2.out).2.1); rintro e w19 ⟨rfl, hb⟩; refine ⟨_, rfl, ?_⟩; replace HO0_1 := rB HO0_1 hb; replace HO0_2 := rB HO0_2 hb; replace BK296 := bkB BK296 hb; replace BK297 := bkB BK297 hb; replace HK := Aside0.mk (Kept.below (S := (fun k_ => P0_1_ k_ ∨ P0_2_ k_)) (by repeat (first | (with_reducible first | exact HK.out | apply Kept.alloc | apply Kept.drewN | apply Kept.drew | refine Kept.setCell ?_ (.inr GW296.out) _ | refine Kept.setCell ?_ (.inr GW297.out) _) | exact HK.out)) hb); replace HB := hB HB hb; (try clear hb); obtain ⟨hcz20_0, hfz20_0, hcz20_1, hfz20_1, hcz20_2, hfz20_2⟩ := cz3 BK297))
  refine bodyPost_ret (results_ct rfl _ _ gb297 27 #[.int .i64 0, .slice none 0 0, .slice none 0 0] (0, 0) _ rfl (by (with_reducible repeat (first | refine blk_drewN ?_ _ | refine blk_drew ?_ | refine blk_alloc ?_ _)); exact bp3 BK297.out) Try.underlying27 rfl (by kernel_rfl)) rfl ?_
  exact ⟨_, _, by first | rfl | (simp [errW_none, errW_some] <;> rfl) | (simp [*, errW_none, errW_some] <;> rfl), by first | exact Kd.R_nil _ _ _ _ _ | exact Kd.N_nil _ _ _ _ _ | exact Kd.V_nil _ _ _ _ _ | exact Kd.Q_nil _ _ _ _ _ | exact Kd.S_nil _ _ _ _ _, by first | exact Kd.R_nil _ _ _ _ _ | exact Kd.N_nil _ _ _ _ _ | exact Kd.V_nil _ _ _ _ _ | exact Kd.Q_nil _ _ _ _ _ | exact Kd.S_nil _ _ _ _ _, tB HB.out, by repeat (first | (with_reducible first | exact HK.out | apply Kept.alloc | apply Kept.drewN | apply Kept.drew | refine Kept.setCell ?_ (.inr GW296.out) _ | refine Kept.setCell ?_ (.inr GW297.out) _) | exact HK.out)⟩
def impl_MirrorPile.l0 : Nat → List Int → Int → Int → Int → List Int → List Int → Int → List Int → List Int → Option (Int × List Int × List Int × Bool)
 | 0, _, _, _, _, _, _, _, _, _ => none
 | k + 1, x18, x19, x20, x300000, x300001, x300002, x306000, x306001, x306002 => if x20 < x19 then (if 0 ≤ x20 then (if x20 < (x18.length : Int) then (if 0 < (x300001.length : Int) then (if x306001.length < 17592186044416 then (impl_MirrorPile.l0 k x18 x19 (wrap64 (x20 + 1)) x300000 x300001 x300002 x306000 (x306001 ++ [wrap64 ((wrap64 (2 * (rd x300001 0))) - (rd x18 x20))]) x306002) else (none)) else (none)) else (none)) else (none)) else ((impl_validPile.f k x306000 x306001 x306002).bind fun bt311 => (some (bt311.1, bt311.2.1, bt311.2.2.1, bt311.2.2.2)))
def impl_MirrorPile.f (k : Nat) (a0_0 : Int) (l0_1 : List Int) (l0_2 : List Int) : Option (Int × List Int × List Int × Bool) := (impl_IsPile.f k a0_0 l0_1 l0_2).bind fun t301 => (if t301 = true then ((slices_Clone_int_int.f l0_2).bind fun t302 => (impl_MirrorPile.l0 k l0_1 (l0_1.length : Int) 0 a0_0 l0_1 l0_2 a0_0 ([] : List Int) t302)) else (some (0, ([] : List Int), ([] : List Int), false)))
def impl_MirrorPile.T3 : Bool × List (List Nat × List Nat) := (true, [([], []), ([0], [0]), ([], []), ([2], [2]), ([3], [3]), ([1, 4], [1, 4]), ([], []), ([6, 5, 4, 0, 1, 2, 3, 4, 5, 6], [5, 6])])
def impl_MirrorPile.B3 : List Nat := [0, 1, 0, 4, 12, 31, 0, 127]
theorem impl_MirrorPile.tab3 : rtab .any (opsOf Try.f23 3) = impl_MirrorPile.T3 := by kernel_rfl
theorem impl_MirrorPile.bits3 : waitsOk impl_MirrorPile.T3.2 impl_MirrorPile.B3 = true := by kernel_rfl
def impl_MirrorPile.T7 : Bool × List (List Nat × List Nat) := (true, [([], []), ([0], [0]), ([], []), ([2], [2]), ([3], [3]), ([4], [4]), ([5], [5]), ([], []), ([6, 7], [6, 7]), ([8], [8]), ([1, 9], [1, 9]), ([0, 1, 2, 3, 4, 5, 6, 7, 8, 9, 10], []), ([11, 10, 10, 0, 1, 2, 3, 4, 5, 6, 7, 8, 9, 10], [10, 11])])
def impl_MirrorPile.B7 : List Nat := [0, 1, 0, 4, 12, 28, 60, 0, 252, 508, 1023, 2047, 4095]
theorem impl_MirrorPile.tab7 : rtab .any (opsOf Try.f23 7) = impl_MirrorPile.T7 := by kernel_rfl
theorem impl_MirrorPile.bits7 : waitsOk impl_MirrorPile.T7.2 impl_MirrorPile.B7 = true := by kernel_rfl
set_option maxHeartbeats 8000000 in
set_option maxRecDepth 100000 in
theorem impl_MirrorPile.calls (k : Nat) (a0_0 : Int) (A0_1 : Option Addr) (c0_1 : Nat) (l0_1 : List Int) (A0_2 : Option Addr) (c0_2 : Nat) (l0_2 : List Int) (r1 : Int) (r2 : List Int) (r3 : List Int) (r4 : Bool) (w : World) (hr0_1 : Kd.C (Kd.int .i64) w A0_1 l0_1.length l0_1) (hc0_1 : l0_1.length ≤ c0_1) (hr0_2 : Kd.C (Kd.int .i64) w A0_2 l0_2.length l0_2) (hc0_2 : l0_2.length ≤ c0_2) (h : impl_MirrorPile.f k a0_0 l0_1 l0_2 = some (r1, r2, r3, r4)) :
  Calls Try.prog 23 #[.agg #[.int .i64 a0_0, .slice A0_1 l0_1.length c0_1, .slice A0_2 l0_2.length c0_2]] w fun e w' => ∃ v1_ v2_ : Value, e = .returned (.tuple #[.agg #[.int .i64 r1, v1_, v2_], .bool r4]) ∧ Kd.R (Kd.int .i64) 3 w' w.heap.size (fun k_ => some k_ ≠ (v2_ : Value).ownBlock) v1_ r2 ∧ Kd.R (Kd.int .i64) 3 w' w.heap.size (fun k_ => some k_ ≠ (v1_ : Value).ownBlock) v2_ r3 ∧ Below w.heap.size w w' := by
 have hu27 := Try.underlying27
 have HR0_1 := Aside0.mk hr0_1
 have HC0_1 := Aside0.mk hc0_1
 clear hr0_1 hc0_1
 have HR0_2 := Aside0.mk hr0_2
 have HC0_2 := Aside0.mk hc0_2
 clear hr0_2 hc0_2
 have HB := Aside0.mk (Below.refl w.heap.size w)
 have H : ((impl_IsPile.f k a0_0 l0_1 l0_2).bind fun t301 => (if t301 = true then ((slices_Clone_int_int.f l0_2).bind fun t302 => (impl_MirrorPile.l0 k l0_1 (l0_1.length : Int) 0 a0_0 l0_1 l0_2 a0_0 ([] : List Int) t302)) else (some (0, ([] : List Int), ([] : List Int), false)))) = some (r1, r2, r3, r4) := h
 clear h
 replace H := Option.bind_eq_some_iff.mp H
 obtain ⟨t301, A20, H⟩ := H
 replace H : (if t301 = true then ((slices_Clone_int_int.f l0_2).bind fun t302 => (impl_MirrorPile.l0 k l0_1 (l0_1.length : Int) 0 a0_0 l0_1 l0_2 a0_0 ([] : List Int) t302)) else (some (0, ([] : List Int), ([] : List Int), false))) = some (r1, r2, r3, r4) := H
 have A2 := Aside0.mk A20
 clear A20
 by_cases c3 : t301 = true
 ·
  subst c3
  have H1 : ((slices_Clone_int_int.f l0_2).bind fun t302 => (impl_MirrorPile.l0 k l0_1 (l0_1.length : Int) 0 a0_0 l0_1 l0_2 a0_0 ([] : List Int) t302)) = some (r1, r2, r3, r4) := by rw [if_pos rfl] at H; exact H
  clear H
  have H := H1
  clear H1
  replace H := Option.bind_eq_some_iff.mp H
  obtain ⟨t302, A40, H⟩ := H
  replace H : (impl_MirrorPile.l0 k l0_1 (l0_1.length : Int) 0 a0_0 l0_1 l0_2 a0_0 ([] : List Int) t302) = some (r1, r2, r3, r4) := H
  have A4 := Aside0.mk A40
  clear A40
  have H' := Aside0.mk H
  clear H
  go_enter Try.func23, Try.ntmps23
  try go_wp2_with (first | ((with_reducible refine gate_dst (N := 1) rfl ?_); refine bE 1 #[.int .i64 a0_0, .slice A0_1 l0_1.length c0_1, .slice A0_2 l0_2.length c0_2] 27 ?_; intro gb299 hg w5 hbox hb; have BK299 := Aside0.mk hbox; have GW299 := sB HB hg; have GE299 := GW299; replace HB := hB HB hb; clear hb hbox hg) | ((with_reducible refine gate_dst (N := 2) rfl ?_); refine bE 2 #[.int .i64 0, .slice none 0 0, .slice none 0 0] 27 ?_; intro gb300 hg w6 hbox hb; have BK300 := Aside0.mk hbox; have GW300 := sB HB hg; have GE300 := GW300; replace HB := hB HB hb; have NB299_300 := lN BK299 hg; have NB300_299 := gN NB299_300; replace BK299 := bkB BK299 hb; clear hb hbox hg; have hnb7 := NB299_300.out; have hnc7 := NB300_299.out; obtain ⟨hcz8_0, hfz8_0, hcz8_1, hfz8_1, hcz8_2, hfz8_2⟩ := cz3 BK299) | ((with_reducible refine gate_callee (f := 18) rfl ?_); refine goesL_ (some 8) rfl rfl Try.func18 (by kernel_rfl) rfl #[.agg #[.int .i64 a0_0, .slice A0_1 l0_1.length c0_1, .slice A0_2 l0_2.length c0_2]] rfl tM ?_; (with_reducible refine (impl_IsPile.calls k a0_0 _ _ l0_1 _ _ l0_2 true _ ?side1 ?side2 ?side3 ?side4 A2.out).mono ?_); (case side1 => exact cB HR0_1 HB); (case side2 => exact HC0_1.out); (case side3 => exact cB HR0_2 HB); (case side4 => exact HC0_2.out); rintro e w9 ⟨rfl, hb⟩; refine ⟨_, rfl, ?_⟩; replace BK299 := bkB BK299 hb; replace BK300 := bkB BK300 hb; replace HB := hB HB hb; (try clear hb)))
  replace BK299 := Aside0.mk (blk_drew BK299.out)
  replace BK300 := Aside0.mk (blk_drew BK300.out)
  replace HB := Aside0.mk (below_drew1 HB.out)
  refine start_ (n := 8) (S := fun w' => w'.cell? ⟨gb299, 0, none⟩ = some (.int .i64 a0_0) ∧ w'.cell? ⟨gb299, 1, none⟩ = some (.slice A0_1 l0_1.length c0_1) ∧ w'.cell? ⟨gb299, 2, none⟩ = some (.slice A0_2 l0_2.length c0_2)) (ds := []) #[n_, n_, n_, n_, n_, n_, n_, n_] (by kernel_rfl) rfl rfl ⟨(blk_cell BK299.out 0).trans rfl, (blk_cell BK299.out 1).trans rfl, (blk_cell BK299.out 2).trans rfl⟩ (fun hHeld => ?_); refine with_tabW impl_MirrorPile.tab3 impl_MirrorPile.bits3 (fun HT_ HW_ => ?_)
  generalize w9.drew = w10 at BK299 BK300 HB hHeld ⊢
  refine pu 0 (some 11) #[y_, n_, n_, n_, n_, n_, n_, n_] (any_of HT_.out (by kernel_rfl)) ?_
  refine pu 2 (some 13) #[y_, n_, y_, n_, n_, n_, n_, n_] (any_of HT_.out (by kernel_rfl)) ?_
  refine tk 1 (some 12) #[y_, y_, y_, n_, n_, n_, n_, n_] rfl (take_ofW HT_.out HW_.out (by kernel_rfl)) hHeld (Or.inl ⟨by rfl, by rintro w' ⟨s0, s1, s2⟩; go_simp; with_reducible rfl⟩) ?_
  refine tk 3 (some 14) #[y_, y_, y_, y_, n_, n_, n_, n_] rfl (take_ofW HT_.out HW_.out (by kernel_rfl)) hHeld (Or.inl ⟨by rfl, by rintro w' ⟨s0, s1, s2⟩; go_simp; with_reducible rfl⟩) ?_
  refine join_ (σ := Value × Nat) 1 #[y_, y_, y_, y_, y_, y_, y_, n_] (fun s_ => [(15, s_.1), (4, .pointer (some ⟨s_.2, 0, none⟩)), (16, .agg #[.int .i64 a0_0, .slice none 0 0, s_.1])]) (fun s_ w' => (w'.cell? ⟨gb299, 0, none⟩ = some (.int .i64 a0_0) ∧ w'.cell? ⟨gb299, 1, none⟩ = some (.slice A0_1 l0_1.length c0_1) ∧ w'.cell? ⟨gb299, 2, none⟩ = some (.slice A0_2 l0_2.length c0_2)) ∧ (Kd.R (Kd.int .i64) 3 w' w.heap.size (fun _ => True) s_.1 t302) ∧ (w'.heap[gb299]? = some (.cells #[.int .i64 a0_0, .slice A0_1 l0_1.length c0_1, .slice A0_2 l0_2.length c0_2] 27 (0, 0))) ∧ (w'.heap[gb300]? = some (.cells #[.int .i64 0, .slice none 0 0, .slice none 0 0] 27 (0, 0))) ∧ (w'.heap[s_.2]? = some (.cells #[.int .i64 0, .slice none 0 0, .slice none 0 0] 27 (0, 0))) ∧ (w.heap.size ≤ s_.2) ∧ (w.heap.size ≤ s_.2) ∧ (gb299 ≠ s_.2) ∧ (s_.2 ≠ gb299) ∧ (gb300 ≠ s_.2) ∧ (s_.2 ≠ gb300) ∧ (Below w.heap.size w w')) ?_ ?_
  rotate_left
  ·
   intro hCont
   refine two_ (i := 4) (j := 6) (Ni := some 15) (Nj := some 4) #[y_, y_, y_, y_, y_, n_, n_, n_] #[y_, y_, y_, y_, n_, n_, y_, n_] rfl rfl rfl rfl (two_of HT_.out (by kernel_rfl)) (by decide) (by decide) (fun K hK => ?_) (fun K hK => ?_)
   ·
    skip
    refine goes_ Try.func71 (by kernel_rfl) rfl #[.slice A0_2 l0_2.length c0_2] (by rfl) rfl rfl tM ?_
    with_reducible refine (slices_Clone_int_int.calls _ _ l0_2 t302 _ ?side1 ?side2 A4.out).mono ?_
    (case side1 => exact cB HR0_2 HB)
    (case side2 => exact HC0_2.out)
    rintro e w11 ⟨v303, rfl, ho0, hb⟩
    refine ⟨_, rfl, ?_⟩
    have HO304 := Aside0.mk (Kd.R_lower ho0 (below_size (tB HB.out)))
    replace BK299 := bkB BK299 hb
    replace BK300 := bkB BK300 hb
    replace HB := hB HB hb
    (try clear hb); (try clear hb2); (try clear hk); (try clear hi); (try clear ho0)
    obtain ⟨Ao12, co12, eo12⟩ := Kd.R_slice HO304.out
    (first | subst eo12 | (injection eo12 with f1_ f2_ f3_; have f4_ := f1_.symm; have f5_ := f3_.symm; clear f1_ f2_ f3_; subst f4_; subst f5_))
    refine hK.out _ _ ⟨(blk_cell BK299.out 0).trans rfl, (blk_cell BK299.out 1).trans rfl, (blk_cell BK299.out 2).trans rfl⟩ (fun hHeld => ?_)
    clear hK K
    refine norm_ (a' := ?_) ?_ ?_
    rotate_left
    ·
     show Act.put _ (some 15) _ = _
     simp only [Act.put, List.setIfInBounds_toArray, List.set_cons_zero, List.set_cons_succ, i64_w, i32_w]
     rfl
    refine pu 5 (some 16) #[y_, y_, y_, y_, y_, y_, n_, n_] (any_of HT_.out (by kernel_rfl)) ?_
    refine one_ (i := 6) (N := some 4) #[y_, y_, y_, y_, y_, y_, y_, n_] rfl rfl (one_of HT_.out (by kernel_rfl)) (by decide) (fun K hK => ?_)
    refine box_step ?hg (N := 4) ?hd (cs := #[.int .i64 0, .slice none 0 0, .slice none 0 0]) (t := 27) ?hr ?_; (case hd => rfl); (case hg => rfl); (case hr => first | (go_simp; done) | (go_simp; rfl))
    intro gb305 hg w13 hbox hb
    replace HO304 := rB HO304 hb
    have BK305 := Aside0.mk hbox
    have GW305 := Aside0.mk (bS HB.out hg)
    have GE305 := Aside0.mk (bS HB.out hg)
    replace HB := hB HB hb
    have NB299_305 := Aside0.mk (nL BK299.out hg)
    have NB305_299 := Aside0.mk (nG BK299.out hg)
    replace BK299 := bkB BK299 hb
    have NB300_305 := Aside0.mk (nL BK300.out hg)
    have NB305_300 := Aside0.mk (nG BK300.out hg)
    replace BK300 := bkB BK300 hb
    clear hb hbox hg
    refine hK.out _ _ ⟨(blk_cell BK299.out 0).trans rfl, (blk_cell BK299.out 1).trans rfl, (blk_cell BK299.out 2).trans rfl⟩ (fun hHeld => ?_)
    clear hK K
    refine norm_ (a' := ?_) ?_ ?_
    rotate_left
    ·
     show Act.put _ (some 4) _ = _
     simp only [Act.put, List.setIfInBounds_toArray, List.set_cons_zero, List.set_cons_succ, i64_w, i32_w]
     rfl
    exact norm_ (by simp only [putAll, Act.put, List.setIfInBounds_toArray, List.set_cons_zero, List.set_cons_succ]) (hCont (.slice Ao12 t302.length co12, gb305) _ ⟨hHeld, (tR HO304.out), (tK BK299.out), (tK BK300.out), (tK BK305.out), GW305.out, GE305.out, NB299_305.out, NB305_299.out, NB300_305.out, NB305_300.out, (tB HB.out)⟩)
   ·
    skip
    refine box_step ?hg (N := 4) ?hd (cs := #[.int .i64 0, .slice none 0 0, .slice none 0 0]) (t := 27) ?hr ?_; (case hd => rfl); (case hg => rfl); (case hr => first | (go_simp; done) | (go_simp; rfl))
    intro gb305 hg w11 hbox hb
    have BK305 := Aside0.mk hbox
    have GW305 := Aside0.mk (bS HB.out hg)
    have GE305 := Aside0.mk (bS HB.out hg)
    replace HB := hB HB hb
    have NB299_305 := Aside0.mk (nL BK299.out hg)
    have NB305_299 := Aside0.mk (nG BK299.out hg)
    replace BK299 := bkB BK299 hb
    have NB300_305 := Aside0.mk (nL BK300.out hg)
    have NB305_300 := Aside0.mk (nG BK300.out hg)
    replace BK300 := bkB BK300 hb
    clear hb hbox hg
    refine hK.out _ _ ⟨(blk_cell BK299.out 0).trans rfl, (blk_cell BK299.out 1).trans rfl, (blk_cell BK299.out 2).trans rfl⟩ (fun hHeld => ?_)
    clear hK K
    refine norm_ (a' := ?_) ?_ ?_
    rotate_left
    ·
     show Act.put _ (some 4) _ = _
     simp only [Act.put, List.setIfInBounds_toArray, List.set_cons_zero, List.set_cons_succ, i64_w, i32_w]
     rfl
    refine one_ (i := 4) (N := some 15) #[y_, y_, y_, y_, y_, n_, y_, n_] rfl rfl (one_of HT_.out (by kernel_rfl)) (by decide) (fun K hK => ?_)
    refine goes_ Try.func71 (by kernel_rfl) rfl #[.slice A0_2 l0_2.length c0_2] (by rfl) rfl rfl tM ?_
    with_reducible refine (slices_Clone_int_int.calls _ _ l0_2 t302 _ ?side1 ?side2 A4.out).mono ?_
    (case side1 => exact cB HR0_2 HB)
    (case side2 => exact HC0_2.out)
    rintro e w12 ⟨v303, rfl, ho0, hb⟩
    refine ⟨_, rfl, ?_⟩
    have HO304 := Aside0.mk (Kd.R_lower ho0 (below_size (tB HB.out)))
    replace BK299 := bkB BK299 hb
    replace BK300 := bkB BK300 hb
    replace BK305 := bkB BK305 hb
    replace HB := hB HB hb
    (try clear hb); (try clear hb2); (try clear hk); (try clear hi); (try clear ho0)
    obtain ⟨Ao13, co13, eo13⟩ := Kd.R_slice HO304.out
    (first | subst eo13 | (injection eo13 with f1_ f2_ f3_; have f4_ := f1_.symm; have f5_ := f3_.symm; clear f1_ f2_ f3_; subst f4_; subst f5_))
    refine hK.out _ _ ⟨(blk_cell BK299.out 0).trans rfl, (blk_cell BK299.out 1).trans rfl, (blk_cell BK299.out 2).trans rfl⟩ (fun hHeld => ?_)
    clear hK K
    refine norm_ (a' := ?_) ?_ ?_
    rotate_left
    ·
     show Act.put _ (some 15) _ = _
     simp only [Act.put, List.setIfInBounds_toArray, List.set_cons_zero, List.set_cons_succ, i64_w, i32_w]
     rfl
    refine pu 5 (some 16) #[y_, y_, y_, y_, y_, y_, y_, n_] (any_of HT_.out (by kernel_rfl)) ?_
    exact norm_ (by simp only [putAll, Act.put, List.setIfInBounds_toArray, List.set_cons_zero, List.set_cons_succ]) (hCont (.slice Ao13 t302.length co13, gb305) _ ⟨hHeld, (tR HO304.out), (tK BK299.out), (tK BK300.out), (tK BK305.out), GW305.out, GE305.out, NB299_305.out, NB305_299.out, NB300_305.out, NB305_300.out, (tB HB.out)⟩)
  rintro ⟨v303, gb305⟩ w14 ⟨hS_, h0_, h1_, h2_, h3_, h4_, h5_, h6_, h7_, h8_, h9_, h10_⟩
  have n0_ : Aside0 (Kd.R (Kd.int .i64) 3 w14 w.heap.size (fun _ => True) v303 t302) := ⟨h0_⟩
  have n1_ : Aside0 (w14.heap[gb299]? = some (.cells #[.int .i64 a0_0, .slice A0_1 l0_1.length c0_1, .slice A0_2 l0_2.length c0_2] 27 (0, 0))) := ⟨h1_⟩
  have n2_ : Aside0 (w14.heap[gb300]? = some (.cells #[.int .i64 0, .slice none 0 0, .slice none 0 0] 27 (0, 0))) := ⟨h2_⟩
  have n3_ : Aside0 (w14.heap[gb305]? = some (.cells #[.int .i64 0, .slice none 0 0, .slice none 0 0] 27 (0, 0))) := ⟨h3_⟩
  have n4_ : Aside0 (w.heap.size ≤ gb305) := ⟨h4_⟩
  have n5_ : Aside0 (w.heap.size ≤ gb305) := ⟨h5_⟩
  have n6_ : Aside0 (gb299 ≠ gb305) := ⟨h6_⟩
  have n7_ : Aside0 (gb305 ≠ gb299) := ⟨h7_⟩
  have n8_ : Aside0 (gb300 ≠ gb305) := ⟨h8_⟩
  have n9_ : Aside0 (gb305 ≠ gb300) := ⟨h9_⟩
  have n10_ : Aside0 (Below w.heap.size w w14) := ⟨h10_⟩
  clear BK299
  clear BK300
  clear HB
  clear h0_ h1_ h2_ h3_ h4_ h5_ h6_ h7_ h8_ h9_ h10_
  have HO304 := n0_
  have BK299 := n1_
  have BK300 := n2_
  have BK305 := n3_
  have GW305 := n4_
  have GE305 := n5_
  have NB299_305 := n6_
  have NB305_299 := n7_
  have NB300_305 := n8_
  have NB305_300 := n9_
  have HB := n10_
  clear n0_ n1_ n2_ n3_ n4_ n5_ n6_ n7_ n8_ n9_ n10_
  have hHeld : w14.cell? ⟨gb299, 0, none⟩ = some (.int .i64 a0_0) ∧ w14.cell? ⟨gb299, 1, none⟩ = some (.slice A0_1 l0_1.length c0_1) ∧ w14.cell? ⟨gb299, 2, none⟩ = some (.slice A0_2 l0_2.length c0_2) := hS_
  obtain ⟨Ao15, co15, eo15⟩ := Kd.R_slice HO304.out
  (first | subst eo15 | (injection eo15 with f1_ f2_ f3_; have f4_ := f1_.symm; have f5_ := f3_.symm; clear f1_ f2_ f3_; subst f4_; subst f5_))
  refine norm_ (a' := ?_) ?_ ?_
  rotate_left
  ·
   simp only [putAll, Act.put, List.setIfInBounds_toArray, List.set_cons_zero, List.set_cons_succ]
   rfl
  refine one_ (i := 7) (N := none) #[y_, y_, y_, y_, y_, y_, y_, y_] rfl rfl (one_of HT_.out (by kernel_rfl)) (by decide) (fun K hK => ?_)
  have hs16 : w14.cell? ⟨gb305, 0, none⟩ = some (.int .i64 0) := (blk_cell BK305.out 0).trans rfl
  have hfs16 := blk_frozen BK305.out 0
  have hns16_0 := NB299_305.out
  have hns16_1 := NB300_305.out
  have hms16_0 := NB305_299.out
  have hms16_1 := NB305_300.out
  have hs17 : w14.cell? ⟨gb305, 1, none⟩ = some (.slice none 0 0) := (blk_cell BK305.out 1).trans rfl
  have hfs17 := blk_frozen BK305.out 1
  have hns17_0 := NB299_305.out
  have hns17_1 := NB300_305.out
  have hms17_0 := NB305_299.out
  have hms17_1 := NB305_300.out
  have hs18 : w14.cell? ⟨gb305, 2, none⟩ = some (.slice none 0 0) := (blk_cell BK305.out 2).trans rfl
  have hfs18 := blk_frozen BK305.out 2
  have hns18_0 := NB299_305.out
  have hns18_1 := NB300_305.out
  have hms18_0 := NB305_299.out
  have hms18_1 := NB305_300.out
  refine skip_ (w1 := ?_) (by rfl) rfl ?_ ?_
  rotate_left
  ·
   go_simp
   rfl
  refine hK.out _ _ ⟨((cell_far (p := ⟨gb305, _, none⟩) NB299_305.out _).trans (((cell_far (p := ⟨gb305, _, none⟩) NB299_305.out _).trans (((cell_far (p := ⟨gb305, _, none⟩) NB299_305.out _).trans (hHeld.1)))))), ((cell_far (p := ⟨gb305, _, none⟩) NB299_305.out _).trans (((cell_far (p := ⟨gb305, _, none⟩) NB299_305.out _).trans (((cell_far (p := ⟨gb305, _, none⟩) NB299_305.out _).trans (hHeld.2.1)))))), ((cell_far (p := ⟨gb305, _, none⟩) NB299_305.out _).trans (((cell_far (p := ⟨gb305, _, none⟩) NB299_305.out _).trans (((cell_far (p := ⟨gb305, _, none⟩) NB299_305.out _).trans (hHeld.2.2))))))⟩ (fun hHeld => ?_)
  clear hK K
  refine done_ (done_of HT_.out (by kernel_rfl)) ?_
  have hnb19 := NB299_305.out
  have hnc19 := NB305_299.out
  obtain ⟨hcz20_0, hfz20_0, hcz20_1, hfz20_1, hcz20_2, hfz20_2⟩ := cz3 BK299
  try go_wp2
  go_loopg [20] k (fun kq v20 w' => ∃ (x20_1 : Int) (x306001_1 : List Int) (u306001 : Value), v20 = .int .i64 x20_1 ∧ Aside0 (impl_MirrorPile.l0 kq l0_1 (l0_1.length : Int) x20_1 a0_0 l0_1 l0_2 a0_0 x306001_1 t302 = some (r1, r2, r3, r4)) ∧ Aside0 (kq ≤ k) ∧ Aside0 (Kd.R (Kd.int .i64) 3 w' w.heap.size (fun k_ => some k_ ≠ ((.slice Ao15 t302.length co15) : Value).ownBlock) u306001 x306001_1) ∧ Aside0 (Kd.R (Kd.int .i64) 3 w' w.heap.size (fun k_ => some k_ ≠ (u306001 : Value).ownBlock) (.slice Ao15 t302.length co15) t302) ∧ Aside0 (w'.heap[gb299]? = some (.cells #[.int .i64 a0_0, (.slice A0_1 l0_1.length c0_1), (.slice A0_2 l0_2.length c0_2)] 27 (0, 0))) ∧ Aside0 (w'.heap[gb300]? = some (.cells #[.int .i64 0, (.slice none 0 0), (.slice none 0 0)] 27 (0, 0))) ∧ Aside0 (w'.heap[gb305]? = some (.cells #[.int .i64 a0_0, u306001, (.slice Ao15 t302.length co15)] 27 (0, 0))) ∧ Aside0 (Below w.heap.size w w'))
  case atStart => exact ⟨(0), (([] : List Int)), (.slice none 0 0), (by first | rfl | (simp; done) | (simp [wrap64]; done) | (simp [*]; done)), H', ⟨Nat.le_refl _⟩, ⟨by first | exact Kd.R_nil _ _ _ _ _ | exact Kd.N_nil _ _ _ _ _ | exact Kd.V_nil _ _ _ _ _ | exact Kd.Q_nil _ _ _ _ _ | exact Kd.S_nil _ _ _ _ _⟩, ⟨by (with_reducible repeat (first | apply Kd.R_alloc | apply Kd.R_drewN | apply Kd.R_drew)); exact Kd.R_mono (Kd.R_far (p := ⟨gb305, 2, none⟩) (Kd.R_far (p := ⟨gb305, 1, none⟩) (Kd.R_far (p := ⟨gb305, 0, none⟩) (Kd.R_types HO304.out BK305.out (by decide)) (fun _ hk => hk.2) (.int .i64 a0_0)) (fun _ hk => hk.2) (.slice none 0 0)) (fun _ hk => hk.2) (.slice Ao15 t302.length co15)) (fun _ hk => (by simp [Value.ownBlock]))⟩, ⟨by (with_reducible repeat (first | refine blk_drewN ?_ _ | refine blk_drew ?_ | refine blk_alloc ?_ _)); refine blk_far ?_ NB299_305.out _; (with_reducible repeat (first | refine blk_drewN ?_ _ | refine blk_drew ?_ | refine blk_alloc ?_ _)); refine blk_far ?_ NB299_305.out _; (with_reducible repeat (first | refine blk_drewN ?_ _ | refine blk_drew ?_ | refine blk_alloc ?_ _)); refine blk_far ?_ NB299_305.out _; (with_reducible repeat (first | refine blk_drewN ?_ _ | refine blk_drew ?_ | refine blk_alloc ?_ _)); exact BK299.out⟩, ⟨by (with_reducible repeat (first | refine blk_drewN ?_ _ | refine blk_drew ?_ | refine blk_alloc ?_ _)); refine blk_far ?_ NB300_305.out _; (with_reducible repeat (first | refine blk_drewN ?_ _ | refine blk_drew ?_ | refine blk_alloc ?_ _)); refine blk_far ?_ NB300_305.out _; (with_reducible repeat (first | refine blk_drewN ?_ _ | refine blk_drew ?_ | refine blk_alloc ?_ _)); refine blk_far ?_ NB300_305.out _; (with_reducible repeat (first | refine blk_drewN ?_ _ | refine blk_drew ?_ | refine blk_alloc ?_ _)); exact BK300.out⟩, ⟨by (with_reducible repeat (first | refine blk_drewN ?_ _ | refine blk_drew ?_ | refine blk_alloc ?_ _)); exact bp3 BK305.out⟩, ⟨tB HB.out⟩⟩
  case round =>
   clear H'
   (try clear c3); (try clear hcz20_0); (try clear hcz20_1); (try clear hcz20_2); (try clear hcz8_0); (try clear hcz8_1); (try clear hcz8_2); (try clear hfz20_0); (try clear hfz20_1); (try clear hfz20_2); (try clear hfz8_0); (try clear hfz8_1); (try clear hfz8_2)
   obtain ⟨x20_1, x306001_1, u306001, rfl, HA, HK1, HO_306001, HO_306002, BK299, BK300, BK305, HB⟩ := hrel
   cases gk with
   | zero => exact absurd HA.out (by simp [impl_MirrorPile.l0])
   | succ k1 =>
    have H := HA.out
    clear HA
    simp only [impl_MirrorPile.l0] at H
    by_cases c21 : x20_1 < (l0_1.length : Int)
    ·
     rw [if_pos c21] at H
     have c21b0 : decide (x20_1 < (l0_1.length : Int)) = true := decide_eq_true c21
     clear c21
     by_cases c22 : 0 ≤ x20_1
     ·
      rw [if_pos c22] at H
      have c22b0 : decide (0 ≤ x20_1) = true := decide_eq_true c22
      clear c22
      by_cases c23 : x20_1 < (l0_1.length : Int)
      ·
       rw [if_pos c23] at H
       have c23b0 : decide (x20_1 < (l0_1.length : Int)) = true := decide_eq_true c23
       clear c23
       by_cases c24 : 0 < (l0_1.length : Int)
       ·
        rw [if_pos c24] at H
        have c24b0 : decide (0 < (l0_1.length : Int)) = true := decide_eq_true c24
        have c24b1 : decide (0 < l0_1.length) = true := decide_eq_true (by omega)
        clear c24
        by_cases c25 : x306001_1.length < 17592186044416
        ·
         rw [if_pos c25] at H
         have LMc25 := Aside0.mk c25
         clear c25
         obtain ⟨y308, hy308⟩ : ∃ y_ : List Int, y_ = (x306001_1 ++ [wrap64 ((wrap64 (2 * (rd l0_1 0))) - (rd l0_1 x20_1))]) := ⟨_, rfl⟩
         replace H : (impl_MirrorPile.l0 k1 l0_1 (l0_1.length : Int) (wrap64 (x20_1 + 1)) a0_0 l0_1 l0_2 a0_0 y308 t302) = some (r1, r2, r3, r4) := by first | (rw [hy308]; with_reducible exact H) | (have H2_ := (Option.bind_some _ _).symm.trans H; rw [hy308]; with_reducible exact H2_) | (have H2_ := (Option.bind_some _ _).symm.trans H; with_reducible exact H2_) | with_reducible exact H | (rw [hy308]; exact H) | exact H
         have Ny308 := Aside0.mk hy308
         clear hy308
         have H' := Aside0.mk H
         clear H
         have p306 : 0 ≤ (x20_1 : Int) := of_decide_eq_true (by first | (with_reducible assumption) | assumption)
         have q306 : x20_1 < (l0_1.length : Int) := of_decide_eq_true (by first | (with_reducible assumption) | assumption)
         obtain ⟨ad306, e306, hx306_0⟩ := Kd.at_int HR0_1.out x20_1 p306 q306
         cases e306
         replace hx306_0 := hC HB hx306_0
         replace p306 := eq_true p306
         replace q306 := eq_true q306
         try go_wp2
         replace HO_306001 := Aside0.mk (Kd.R_drew HO_306001.out)
         replace HO_306002 := Aside0.mk (Kd.R_drew HO_306002.out)
         replace BK299 := Aside0.mk (blk_drew BK299.out)
         replace BK300 := Aside0.mk (blk_drew BK300.out)
         replace BK305 := Aside0.mk (blk_drew BK305.out)
         replace HB := Aside0.mk (below_drew1 HB.out)
         have p307 : 0 ≤ (0 : Int) := (by omega)
         have q307 : 0 < (l0_1.length : Int) := of_decide_eq_true (by first | (with_reducible assumption) | assumption)
         obtain ⟨ad307, e307, hx307_0⟩ := Kd.at_int HR0_1.out 0 p307 q307
         have hw307_0 := hx307_0
         (try rw [show ((0 : Int)).toNat = 0 from rfl] at hw307_0)
         (try rw [show 0 * 1 = 0 from rfl] at hw307_0)
         (try rw [Addr.add_zero'] at hw307_0)
         obtain rfl : ad306 = ad307 := (by injection e307)
         have qi307 : (0 < l0_1.length) = True := eq_true (by omega)
         (try rw [show ((0 : Int)).toNat = 0 from rfl] at hx307_0)
         (try rw [Addr.add_zero'] at hx307_0)
         replace hx307_0 := hC HB hx307_0
         replace p307 := eq_true p307
         replace q307 := eq_true q307
         refine start_ (n := 13) (S := fun w' => w'.cell? ⟨gb305, 0, none⟩ = some (.int .i64 a0_0) ∧ w'.cell? ⟨gb305, 1, none⟩ = some (u306001) ∧ w'.cell? ⟨gb305, 2, none⟩ = some (.slice Ao15 t302.length co15) ∧ w'.cell? ⟨gb299, 0, none⟩ = some (.int .i64 a0_0) ∧ w'.cell? ⟨gb299, 1, none⟩ = some (.slice (some ad306) l0_1.length c0_1) ∧ w'.cell? ⟨gb299, 2, none⟩ = some (.slice A0_2 l0_2.length c0_2) ∧ w'.cell? ad306 = some (.int .i64 (rd l0_1 0))) (ds := [12]) #[n_, n_, n_, n_, n_, n_, n_, n_, n_, n_, n_, n_, n_] (by kernel_rfl) rfl rfl ⟨(blk_cell BK305.out 0).trans rfl, (blk_cell BK305.out 1).trans rfl, (blk_cell BK305.out 2).trans rfl, (blk_cell BK299.out 0).trans rfl, (blk_cell BK299.out 1).trans rfl, (blk_cell BK299.out 2).trans rfl, ((HB.out.cell (World.block_lt_of_cell? w _ hw307_0)).trans hw307_0)⟩ (fun hHeld => ?_); refine with_tabW impl_MirrorPile.tab7 impl_MirrorPile.bits7 (fun HT_ HW_ => ?_)
         generalize wr.drew = w26 at HO_306001 HO_306002 BK299 BK300 BK305 HB hx307_0 hHeld ⊢
         refine pu 0 (some 24) #[y_, n_, n_, n_, n_, n_, n_, n_, n_, n_, n_, n_, n_] (any_of HT_.out (by kernel_rfl)) ?_
         refine pu 2 (some 26) #[y_, n_, y_, n_, n_, n_, n_, n_, n_, n_, n_, n_, n_] (any_of HT_.out (by kernel_rfl)) ?_
         refine pu 7 (some 31) #[y_, n_, y_, n_, n_, n_, n_, y_, n_, n_, n_, n_, n_] (any_of HT_.out (by kernel_rfl)) ?_
         refine tk 1 (some 25) #[y_, y_, y_, n_, n_, n_, n_, y_, n_, n_, n_, n_, n_] rfl (take_ofW HT_.out HW_.out (by kernel_rfl)) hHeld (Or.inl ⟨by rfl, by rintro w' ⟨s0, s1, s2, s3, s4, s5, s6⟩; go_simp; with_reducible rfl⟩) ?_
         refine tk 3 (some 27) #[y_, y_, y_, y_, n_, n_, n_, y_, n_, n_, n_, n_, n_] rfl (take_ofW HT_.out HW_.out (by kernel_rfl)) hHeld (Or.inl ⟨by rfl, by rintro w' ⟨s0, s1, s2, s3, s4, s5, s6⟩; go_simp; with_reducible rfl⟩) ?_
         refine pu 4 (some 28) #[y_, y_, y_, y_, y_, n_, n_, y_, n_, n_, n_, n_, n_] (any_of HT_.out (by kernel_rfl)) ?_
         refine tk 5 (some 29) #[y_, y_, y_, y_, y_, y_, n_, y_, n_, n_, n_, n_, n_] rfl (take_ofW HT_.out HW_.out (by kernel_rfl)) hHeld (Or.inl ⟨by rfl, by rintro w' ⟨s0, s1, s2, s3, s4, s5, s6⟩; go_simp; with_reducible rfl⟩) ?_
         refine pu 6 (some 30) #[y_, y_, y_, y_, y_, y_, y_, y_, n_, n_, n_, n_, n_] (any_of HT_.out (by kernel_rfl)) ?_
         refine pu 8 (some 32) #[y_, y_, y_, y_, y_, y_, y_, y_, y_, n_, n_, n_, n_] (any_of HT_.out (by kernel_rfl)) ?_
         refine one_ (i := 9) (N := some 33) #[y_, y_, y_, y_, y_, y_, y_, y_, y_, y_, n_, n_, n_] rfl rfl (one_of HT_.out (by kernel_rfl)) (by decide) (fun K hK => ?_)
         refine value_ (w1 := ?_) (v := ?_) (by rfl) rfl ?_ ?_
         rotate_left 2
         ·
          go_simp
          constructor
          ·
           rfl
          ·
           rfl
         refine hK.out _ _ ⟨(blk_cell (blk_alloc BK305.out _) 0).trans rfl, (blk_cell (blk_alloc BK305.out _) 1).trans rfl, (blk_cell (blk_alloc BK305.out _) 2).trans rfl, (blk_cell (blk_alloc BK299.out _) 0).trans rfl, (blk_cell (blk_alloc BK299.out _) 1).trans rfl, (blk_cell (blk_alloc BK299.out _) 2).trans rfl, (World.cell?_alloc_lt _ _ _ (World.block_lt_of_cell? _ _ (((HB.out.cell (World.block_lt_of_cell? w _ hw307_0)).trans hw307_0)))).trans (((HB.out.cell (World.block_lt_of_cell? w _ hw307_0)).trans hw307_0))⟩ (fun hHeld => ?_)
         clear hK K
         refine norm_ (a' := ?_) ?_ ?_
         rotate_left
         ·
          show Act.put _ (some 33) _ = _
          simp only [Act.put, List.setIfInBounds_toArray, List.set_cons_zero, List.set_cons_succ, i64_w, i32_w]
          rfl
         refine one_ (i := 10) (N := some 34) #[y_, y_, y_, y_, y_, y_, y_, y_, y_, y_, y_, n_, n_] rfl rfl (one_of HT_.out (by kernel_rfl)) (by decide) (fun K hK => ?_)
         refine Kd.R_append_step (Kd.int .i64) (w0 := w) w.heap.size (by rfl) (.tmp 25) (.tmp 33) 25 3 (.int .i64 0) 8 rfl Try.underlying25 info3 rfl (by decide) (by omega) u306001 x306001_1 (wrap64 ((wrap64 (2 * (rd l0_1 0))) - (rd l0_1 x20_1))) [.int .i64 (wrap64 ((wrap64 (2 * (rd l0_1 0))) - (rd l0_1 x20_1)))] (fun k_ => some k_ ≠ (.slice Ao15 t302.length co15 : Value).ownBlock) (fun _ => False) rfl rfl ?aP (fun _ hk => hk.elim) ?aF ?aO ?aB ?aS ?aL ?_
         (case aP => exact rfl)
         (case aB => exact (tB HB.out))
         (case aF => exact (fun k_ hk => Kd.fresh' (Kd.R_lt (tR HO_306002.out)) k_ hk))
         (case aO => exact (tR HO_306001.out))
         (case aS => exact (below_size (tB HB.out)))
         (case aL => have := LMc25.out; omega)
         intro v309 w27 ho hb hg hat
         rw [← Ny308.out] at ho
         replace HO_306002 := Aside0.mk (Kd.R_after (ok := (fun _ => True)) (by (with_reducible repeat (first | apply Kd.R_alloc | apply Kd.R_drewN | apply Kd.R_drew)); exact Kd.R_mono HO_306002.out (fun _ hk => ⟨trivial, hk⟩)) hg hat)
         replace BK299 := Aside0.mk (blk_grown (g := gb299) (o := .cells #[.int .i64 a0_0, .slice (some ad306) l0_1.length c0_1, .slice A0_2 l0_2.length c0_2] 27 (0, 0)) (tK BK299.out) hg (Kd.R_ne HO_306001.out BK299.out (by decide)))
         replace BK300 := Aside0.mk (blk_grown (g := gb300) (o := .cells #[.int .i64 0, .slice none 0 0, .slice none 0 0] 27 (0, 0)) (tK BK300.out) hg (Kd.R_ne HO_306001.out BK300.out (by decide)))
         replace BK305 := Aside0.mk (blk_grown (g := gb305) (o := .cells #[.int .i64 a0_0, u306001, .slice Ao15 t302.length co15] 27 (0, 0)) (tK BK305.out) hg (Kd.R_ne HO_306001.out BK305.out (by decide)))
         replace HB := Aside0.mk (hb)
         have HO310 := Aside0.mk (ho)
         clear HO_306001
         clear ho hb hg hat
         obtain ⟨Ao28, co28, eo28⟩ := Kd.R_slice HO310.out
         (first | subst eo28 | (injection eo28 with f1_ f2_ f3_; have f4_ := f1_.symm; have f5_ := f3_.symm; clear f1_ f2_ f3_; subst f4_; subst f5_))
         refine hK.out _ _ ⟨(blk_cell BK305.out 0).trans rfl, (blk_cell BK305.out 1).trans rfl, (blk_cell BK305.out 2).trans rfl, (blk_cell BK299.out 0).trans rfl, (blk_cell BK299.out 1).trans rfl, (blk_cell BK299.out 2).trans rfl, ((HB.out.cell (World.block_lt_of_cell? w _ hw307_0)).trans hw307_0)⟩ (fun hHeld => ?_)
         clear hK K
         refine norm_ (a' := ?_) ?_ ?_
         rotate_left
         ·
          show Act.put _ (some 34) _ = _
          simp only [Act.put, List.setIfInBounds_toArray, List.set_cons_zero, List.set_cons_succ, i64_w, i32_w]
          rfl
         refine pu 11 (some 35) #[y_, y_, y_, y_, y_, y_, y_, y_, y_, y_, y_, y_, n_] (any_of HT_.out (by kernel_rfl)) ?_
         refine last_ (i := 12) (N := none) #[y_, y_, y_, y_, y_, y_, y_, y_, y_, y_, y_, y_, y_] rfl rfl (one_of HT_.out (by kernel_rfl)) (by decide) (fun K hK => ?_)
         have hs29 : w27.cell? ⟨gb305, 1, none⟩ = some (u306001) := (blk_cell BK305.out 1).trans rfl
         have hfs29 := blk_frozen BK305.out 1
         have hns29_0 := NB299_305.out
         have hns29_1 := NB300_305.out
         have hms29_0 := NB305_299.out
         have hms29_1 := NB305_300.out
         refine skip_ (w1 := ?_) (by rfl) rfl ?_ ?_
         rotate_left
         ·
          go_simp
          rfl
         refine hK.out _ _ ?_
         clear hK K
         refine done_ (done_of HT_.out (by kernel_rfl)) ?_
         try go_wp2
         go_roundg k1
         case measure => have := HK1.out; omega
         case rel => exact ⟨(wrap64 (x20_1 + 1)), (y308), (.slice Ao28 y308.length co28), (by first | rfl | (simp; done) | (simp [wrap64]; done) | (simp [*]; done)), H', ⟨by have := HK1.out; omega⟩, ⟨by (with_reducible repeat (first | apply Kd.R_alloc | apply Kd.R_drewN | apply Kd.R_drew)); exact Kd.R_mono (Kd.R_far (p := ⟨gb305, 1, none⟩) (Kd.R_types HO310.out BK305.out (by decide)) (fun _ hk => hk.2) (.slice Ao28 y308.length co28)) (fun _ hk => hk.1)⟩, ⟨by (with_reducible repeat (first | apply Kd.R_alloc | apply Kd.R_drewN | apply Kd.R_drew)); exact Kd.R_mono (Kd.R_far (p := ⟨gb305, 1, none⟩) (Kd.R_types HO_306002.out BK305.out (by decide)) (fun _ hk => hk.2) (.slice Ao28 y308.length co28)) (fun _ hk => hk.1.2)⟩, ⟨by (with_reducible repeat (first | refine blk_drewN ?_ _ | refine blk_drew ?_ | refine blk_alloc ?_ _)); refine blk_far ?_ NB299_305.out _; (with_reducible repeat (first | refine blk_drewN ?_ _ | refine blk_drew ?_ | refine blk_alloc ?_ _)); exact BK299.out⟩, ⟨by (with_reducible repeat (first | refine blk_drewN ?_ _ | refine blk_drew ?_ | refine blk_alloc ?_ _)); refine blk_far ?_ NB300_305.out _; (with_reducible repeat (first | refine blk_drewN ?_ _ | refine blk_drew ?_ | refine blk_alloc ?_ _)); exact BK300.out⟩, ⟨by (with_reducible repeat (first | refine blk_drewN ?_ _ | refine blk_drew ?_ | refine blk_alloc ?_ _)); refine blk_put (cs := #[.int .i64 a0_0, u306001, .slice Ao15 t302.length co15]) ?_ 1 _ rfl; (with_reducible repeat (first | refine blk_drewN ?_ _ | refine blk_drew ?_ | refine blk_alloc ?_ _)); exact BK305.out⟩, ⟨tB HB.out⟩⟩
        ·
         rw [if_neg c25] at H
         exact absurd H (by simp)
       ·
        rw [if_neg c24] at H
        exact absurd H (by simp)
      ·
       rw [if_neg c23] at H
       exact absurd H (by simp)
     ·
      rw [if_neg c22] at H
      exact absurd H (by simp)
    ·
     rw [if_neg c21] at H
     have c21b0 : decide (x20_1 < (l0_1.length : Int)) = false := decide_eq_false c21
     clear c21
     replace H := Option.bind_eq_some_iff.mp H
     obtain ⟨⟨t311, t312, t315, t318⟩, A300, H⟩ := H
     replace H : (some (t311, t312, t315, t318)) = some (r1, r2, r3, r4) := H
     have A30 := Aside0.mk A300
     clear A300
     simp only [Option.some.injEq, Prod.mk.injEq] at H
     obtain ⟨rfl, rfl, rfl, rfl⟩ := H
     have hnb31 := NB305_299.out
     have hnc31 := NB299_305.out
     have hnb32 := NB305_300.out
     have hnc32 := NB300_305.out
     obtain ⟨hcz33_0, hfz33_0, hcz33_1, hfz33_1, hcz33_2, hfz33_2⟩ := cz3 BK305
     obtain ⟨Ao34, co34, eo34⟩ := Kd.R_slice HO_306001.out
     subst eo34
     go_wp2_with (first | ((with_reducible refine gate_callee (f := 72) rfl ?_); refine goesL_ (some 38) rfl rfl Try.func72 (by kernel_rfl) rfl #[.agg #[.int .i64 a0_0, .slice Ao34 x306001_1.length co34, .slice Ao15 t302.length co15]] rfl tM ?_; (with_reducible refine (impl_validPile.calls k1 a0_0 (fun k_ => some k_ = (.slice Ao34 x306001_1.length co34 : Value).ownBlock) (.slice Ao34 x306001_1.length co34) x306001_1 (fun k_ => some k_ = (.slice Ao15 t302.length co15 : Value).ownBlock) (.slice Ao15 t302.length co15) t302 t311 t312 t315 t318 w _ ?side1 ?side2 ?side3 ?side4 ?side5 A30.out).mono ?_); (case side1 => repeat (first | (with_reducible first | exact HB.out | apply below_alloc | apply pw_below_drewN | apply below_drew1 | refine below_set ?_ GE299.out | refine below_set ?_ GE300.out | refine below_set ?_ GE305.out) | exact HB.out)); (case side2 => exact Kd.R_tight rfl HO_306001.out); (case side3 => exact fun k_ e_ => (HO_306001.out.1 k_ e_.symm)); (case side4 => exact Kd.R_tight rfl HO_306002.out); (case side5 => exact fun k_ e_ => (HO_306002.out.1 k_ e_.symm)); rintro e w35 ⟨v313, v316, rfl, ho0, ho1, hb, hkp⟩; refine ⟨_, rfl, ?_⟩; replace BK299 := Aside0.mk (blk_kept (tK BK299.out) hkp (fun hs_ => Or.elim hs_ (fun e_ => (fun e_ => (Kd.R_ne HO_306001.out BK299.out (by decide)) e_) e_) (fun e_ => (fun e_ => (Kd.R_ne HO_306002.out BK299.out (by decide)) e_) e_))); replace BK300 := Aside0.mk (blk_kept (tK BK300.out) hkp (fun hs_ => Or.elim hs_ (fun e_ => (fun e_ => (Kd.R_ne HO_306001.out BK300.out (by decide)) e_) e_) (fun e_ => (fun e_ => (Kd.R_ne HO_306002.out BK300.out (by decide)) e_) e_))); replace BK305 := Aside0.mk (blk_kept (tK BK305.out) hkp (fun hs_ => Or.elim hs_ (fun e_ => (fun e_ => (Kd.R_ne HO_306001.out BK305.out (by decide)) e_) e_) (fun e_ => (fun e_ => (Kd.R_ne HO_306002.out BK305.out (by decide)) e_) e_))); have HO314 := Aside0.mk (Kd.R_mono (ok' := fun k_ => some k_ ≠ (v316 : Value).ownBlock) ho0 (fun k_ hk_ => hk_.2)); have HO317 := Aside0.mk (Kd.R_mono (ok' := fun k_ => some k_ ≠ (v313 : Value).ownBlock) ho1 (fun k_ hk_ => hk_.2)); replace HB := Aside0.mk (hb); clear HO_306001; clear HO_306002; (try clear hb); (try clear hkp); (try clear ho0); (try clear ho1); have hnb36 := NB300_299.out; have hnc36 := NB299_300.out; obtain ⟨hcz37_0, hfz37_0, hcz37_1, hfz37_1, hcz37_2, hfz37_2⟩ := cz3 BK300; obtain ⟨Ao38, co38, eo38⟩ := Kd.R_slice HO314.out; subst eo38; obtain ⟨Ao39, co39, eo39⟩ := Kd.R_slice HO317.out; subst eo39))
     refine bodyPost_ret (results_ct rfl _ _ gb300 27 #[.int .i64 t311, .slice Ao38 t312.length co38, .slice Ao39 t315.length co39] (0, 0) _ rfl (by (with_reducible repeat (first | refine blk_drewN ?_ _ | refine blk_drew ?_ | refine blk_alloc ?_ _)); exact bp3 BK300.out) Try.underlying27 rfl (by kernel_rfl)) rfl ?_
     exact ⟨_, _, by first | rfl | (simp [errW_none, errW_some] <;> rfl) | (simp [*, errW_none, errW_some] <;> rfl), by (with_reducible repeat (first | apply Kd.R_alloc | apply Kd.R_drewN | apply Kd.R_drew)); exact rF3 HO314 BK300, by (with_reducible repeat (first | apply Kd.R_alloc | apply Kd.R_drewN | apply Kd.R_drew)); exact rF3 HO317 BK300, tB HB.out⟩
 ·
  replace c3 := Bool.eq_false_iff.mpr c3
  subst c3
  have H1 : (some (0, ([] : List Int), ([] : List Int), false)) = some (r1, r2, r3, r4) := by rw [if_neg (show ¬ (false = true) by decide)] at H; exact H
  clear H
  have H := H1
  clear H1
  simp only [Option.some.injEq, Prod.mk.injEq] at H
  obtain ⟨rfl, rfl, rfl, rfl⟩ := H
  go_enter Try.func23, Try.ntmps23
  go_wp2_with (first | ((with_reducible refine gate_dst (N := 1) rfl ?_); refine bE 1 #[.int .i64 a0_0, .slice A0_1 l0_1.length c0_1, .slice A0_2 l0_2.length c0_2] 27 ?_; intro gb299 hg w40 hbox hb; have BK299 := Aside0.mk hbox; have GW299 := sB HB hg; have GE299 := GW299; replace HB := hB HB hb; clear hb hbox hg) | ((with_reducible refine gate_dst (N := 2) rfl ?_); refine bE 2 #[.int .i64 0, .slice none 0 0, .slice none 0 0] 27 ?_; intro gb300 hg w41 hbox hb; have BK300 := Aside0.mk hbox; have GW300 := sB HB hg; have GE300 := GW300; replace HB := hB HB hb; have NB299_300 := lN BK299 hg; have NB300_299 := gN NB299_300; replace BK299 := bkB BK299 hb; clear hb hbox hg; have hnb42 := NB299_300.out; have hnc42 := NB300_299.out; obtain ⟨hcz43_0, hfz43_0, hcz43_1, hfz43_1, hcz43_2, hfz43_2⟩ := cz3 BK299) | ((with_reducible refine gate_callee (f := 18) rfl ?_); refine goesL_ (some 8) rfl rfl Try.func18 (by kernel_rfl) rfl #[.agg #[.int .i64 a0_0, .slice A0_1 l0_1.length c0_1, .slice A0_2 l0_2.length c0_2]] rfl tM ?_; (with_reducible refine (impl_IsPile.calls k a0_0 _ _ l0_1 _ _ l0_2 false _ ?side1 ?side2 ?side3 ?side4 A2.out).mono ?_); (case side1 => exact cB HR0_1 HB); (case side2 => exact HC0_1.out); (case side3 => exact cB HR0_2 HB); (case side4 => exact HC0_2.out); rintro e w44 ⟨rfl, hb⟩; refine ⟨_, rfl, ?_⟩; replace BK299 := bkB BK299 hb; replace BK300 := bkB BK300 hb; replace HB := hB HB hb; (try clear hb); obtain ⟨hcz45_0, hfz45_0, hcz45_1, hfz45_1, hcz45_2, hfz45_2⟩ := cz3 BK300))
  refine bodyPost_ret (results_ct rfl _ _ gb300 27 #[.int .i64 0, .slice none 0 0, .slice none 0 0] (0, 0) _ rfl (by (with_reducible repeat (first | refine blk_drewN ?_ _ | refine blk_drew ?_ | refine blk_alloc ?_ _)); exact bp3 BK300.out) Try.underlying27 rfl (by kernel_rfl)) rfl ?_
  exact ⟨_, _, by first | rfl | (simp [errW_none, errW_some] <;> rfl) | (simp [*, errW_none, errW_some] <;> rfl), by first | exact Kd.R_nil _ _ _ _ _ | exact Kd.N_nil _ _ _ _ _ | exact Kd.V_nil _ _ _ _ _ | exact Kd.Q_nil _ _ _ _ _ | exact Kd.S_nil _ _ _ _ _, by first | exact Kd.R_nil _ _ _ _ _ | exact Kd.N_nil _ _ _ _ _ | exact Kd.V_nil _ _ _ _ _ | exact Kd.Q_nil _ _ _ _ _ | exact Kd.S_nil _ _ _ _ _, tB HB.out⟩
def spec_l1Own.f (l0 : List Int) : Option (List Int) := (some (([] : List Int) : List Int)).bind fun y319 => (if y319.length + l0.length < 17592186044416 then (some (y319 ++ l0)) else (none))
set_option maxHeartbeats 8000000 in
set_option maxRecDepth 100000 in
theorem spec_l1Own.calls (A0 : Option Addr) (c0 : Nat) (l0 : List Int) (r : List Int) (w : World) (hr0 : Kd.C (Kd.int .i64) w A0 l0.length l0) (hc0 : l0.length ≤ c0) (h : spec_l1Own.f l0 = some r) :
  Calls Try.prog 73 #[.slice A0 l0.length c0] w fun e w' => ∃ v0_ : Value, e = .returned (v0_) ∧ Kd.R (Kd.int .i64) 3 w' w.heap.size (fun _ => True) v0_ r ∧ Below w.heap.size w w' := by
 have HR0 := Aside0.mk hr0
 have HC0 := Aside0.mk hc0
 clear hr0 hc0
 have HB := Aside0.mk (Below.refl w.heap.size w)
 have H : ((some (([] : List Int) : List Int)).bind fun y319 => (if y319.length + l0.length < 17592186044416 then (some (y319 ++ l0)) else (none))) = some r := h
 clear h
 obtain ⟨y319, hy319⟩ : ∃ y_ : List Int, y_ = (([] : List Int)) := ⟨_, rfl⟩
 replace H : (if y319.length + l0.length < 17592186044416 then (some (y319 ++ l0)) else (none)) = some r := by first | (rw [hy319]; with_reducible exact H) | (have H2_ := (Option.bind_some _ _).symm.trans H; rw [hy319]; with_reducible exact H2_) | (have H2_ := (Option.bind_some _ _).symm.trans H; with_reducible exact H2_) | with_reducible exact H | (rw [hy319]; exact H) | exact H
 have Ny319 := Aside0.mk hy319
 clear hy319
 by_cases c2 : y319.length + l0.length < 17592186044416
 ·
  rw [if_pos c2] at H
  have LMc2 := Aside0.mk c2
  clear c2
  obtain ⟨y322, hy322⟩ : ∃ y_ : List Int, y_ = (y319 ++ l0) := ⟨_, rfl⟩
  replace H : (some y322) = some r := by first | (rw [hy322]; with_reducible exact H) | (have H2_ := (Option.bind_some _ _).symm.trans H; rw [hy322]; with_reducible exact H2_) | (have H2_ := (Option.bind_some _ _).symm.trans H; with_reducible exact H2_) | with_reducible exact H | (rw [hy322]; exact H) | exact H
  have Ny322 := Aside0.mk hy322
  clear hy322
  obtain rfl := Option.some.inj H
  go_enter Try.func73, Try.ntmps73
  go_wp2_with (first | ((with_reducible refine gate_dst (N := 3) rfl ?_); refine Kd.R_lit (Kd.int .i64) _ 3 ?hg (N := 3) ?hd (xs := ([] : List Int)) (inner := []) (ok := fun _ => True) (okp := fun _ => True) ?hr ?hp (fun _ hk => hk) trivial (Below.refl _ _) (Nat.le_refl _) (by simp) ?_; (case hd => rfl); (case hg => rfl); (case hr => first | (go_simp; done) | (go_simp; rfl)); (case hp => exact (Reps.none _ _)); intro v320 w3 ho4 hb hg_ hnew_; clear hg_ hnew_; (first | rw [← Ny319.out] at ho4 | (simp only [Int.reduceToNat] at ho4; rw [← Ny319.out] at ho4)); have HO321 := Aside0.mk (Kd.R_lower ho4 (below_size (tB HB.out))); replace HB := hB HB hb; clear hb ho4) | ((with_reducible refine gate_builtin (b := .append) (xs := #[.tmp 3, .tmp 4]) rfl ?_); at_builtin; refine Kd.R_append_rows (Kd.int .i64) (w0 := w) w.heap.size rfl (.tmp 3) (.tmp 4) 25 3 (.int .i64 0) 8 rfl Try.underlying25 info3 rfl (by decide) (by omega) v320 y319 l0 _ _ _ (fun _ => True) (fun _ => False) rfl rfl ?aO ?aR (fun _ _ h => h) (fun _ h => h.elim) ?aF ?aB ?aS ?aL ?_; (case aR => exact cB HR0 HB); (case aB => exact (tB HB.out)); (case aF => exact (fun _ _ => trivial)); (case aO => exact (tR HO321.out)); (case aS => exact (below_size (tB HB.out))); (case aL => have := LMc2.out; omega); intro v323 w5 ho hb hg hat; rw [← Ny322.out] at ho; replace HB := Aside0.mk (hb); have HO324 := Aside0.mk (ho); clear HO321; clear ho hb hg hat))
  go_ret
  exact ⟨_, by first | rfl | (simp [errW_none, errW_some] <;> rfl) | (simp [*, errW_none, errW_some] <;> rfl), tR HO324.out, tB HB.out⟩
 ·
  rw [if_neg c2] at H
  exact absurd H (by simp)
end Go.Proofs.Ytnnpfekgapikfaa.PFnPiles

import Derived.Test.YtnnpfekgapikfaaZFnPilesx0
import Derived.Test.YtnnpfekgapikfaaZFnPilesx1
import Derived.Test.YtnnpfekgapikfaaZFnPilesx2
import Derived.Test.YtnnpfekgapikfaaZFnPilesx3
import Derived.Test.YtnnpfekgapikfaaZFnPilesx4
import Derived.Test.YtnnpfekgapikfaaZFnPilesx5
import Derived.Test.YtnnpfekgapikfaaZFnPilesx7
namespace Go.Proofs.Ytnnpfekgapikfaa.PFnPiles
open Go.RowKit Go.Proofs.YtnnpfekgapikfaaW.PrintWords Go.Proofs.YtnnpfekgapikfaaW.PrintLast Go.Proofs.YtnnpfekgapikfaaW.PrintMore
attribute [local go_sem] max2_int min2_int max_two min_two max_three min_three max_four min_four
set_option linter.unusedVariables false
set_option linter.unusedSimpArgs false
def impl_UpperCentre.f (k : Nat) (a0_0 : Int) (l0_1 : List Int) (l0_2 : List Int) (a1 : Int) : Option (Int × Int × Bool) := (impl_isBrick.f k a0_0 l0_1 l0_2 a1).bind fun t419 => (if t419 = true then ((impl_Pile_centre.f k a0_0 l0_1 l0_2 a1).bind fun bt420 => ((impl_fraction.f k bt420.1 bt420.2).bind fun bt422 => (some (bt422.1, bt422.2, true)))) else (some (0, 0, false)))
set_option maxHeartbeats 8000000 in
set_option maxRecDepth 100000 in
theorem impl_UpperCentre.calls (k : Nat) (a0_0 : Int) (A0_1 : Option Addr) (c0_1 : Nat) (l0_1 : List Int) (A0_2 : Option Addr) (c0_2 : Nat) (l0_2 : List Int) (a1 : Int) (r1 : Int) (r2 : Int) (r3 : Bool) (w : World) (hr0_1 : Kd.C (Kd.int .i64) w A0_1 l0_1.length l0_1) (hc0_1 : l0_1.length ≤ c0_1) (hr0_2 : Kd.C (Kd.int .i64) w A0_2 l0_2.length l0_2) (hc0_2 : l0_2.length ≤ c0_2) (h : impl_UpperCentre.f k a0_0 l0_1 l0_2 a1 = some (r1, r2, r3)) :
  Calls Try.prog 31 #[.agg #[.int .i64 a0_0, .slice A0_1 l0_1.length c0_1, .slice A0_2 l0_2.length c0_2], .int .i64 a1] w fun e w' => e = .returned (.tuple #[.agg #[.int .i64 r1, .int .i64 r2], .bool r3]) ∧ Below w.heap.size w w' := by
 have hu27 := Try.underlying27
 have hu45 := Try.underlying45
 have HR0_1 := Aside0.mk hr0_1
 have HC0_1 := Aside0.mk hc0_1
 clear hr0_1 hc0_1
 have HR0_2 := Aside0.mk hr0_2
 have HC0_2 := Aside0.mk hc0_2
 clear hr0_2 hc0_2
 have HB := Aside0.mk (Below.refl w.heap.size w)
 have H : ((impl_isBrick.f k a0_0 l0_1 l0_2 a1).bind fun t419 => (if t419 = true then ((impl_Pile_centre.f k a0_0 l0_1 l0_2 a1).bind fun bt420 => ((impl_fraction.f k bt420.1 bt420.2).bind fun bt422 => (some (bt422.1, bt422.2, true)))) else (some (0, 0, false)))) = some (r1, r2, r3) := h
 clear h
 replace H := Option.bind_eq_some_iff.mp H
 obtain ⟨t419, A30, H⟩ := H
 replace H : (if t419 = true then ((impl_Pile_centre.f k a0_0 l0_1 l0_2 a1).bind fun bt420 => ((impl_fraction.f k bt420.1 bt420.2).bind fun bt422 => (some (bt422.1, bt422.2, true)))) else (some (0, 0, false))) = some (r1, r2, r3) := H
 have A3 := Aside0.mk A30
 clear A30
 by_cases c4 : t419 = true
 ·
  subst c4
  have H1 : ((impl_Pile_centre.f k a0_0 l0_1 l0_2 a1).bind fun bt420 => ((impl_fraction.f k bt420.1 bt420.2).bind fun bt422 => (some (bt422.1, bt422.2, true)))) = some (r1, r2, r3) := by rw [if_pos rfl] at H; exact H
  clear H
  have H := H1
  clear H1
  replace H := Option.bind_eq_some_iff.mp H
  obtain ⟨⟨t420, t421⟩, A50, H⟩ := H
  replace H : ((impl_fraction.f k t420 t421).bind fun bt422 => (some (bt422.1, bt422.2, true))) = some (r1, r2, r3) := H
  have A5 := Aside0.mk A50
  clear A50
  replace H := Option.bind_eq_some_iff.mp H
  obtain ⟨⟨t422, t423⟩, A60, H⟩ := H
  replace H : (some (t422, t423, true)) = some (r1, r2, r3) := H
  have A6 := Aside0.mk A60
  clear A60
  simp only [Option.some.injEq, Prod.mk.injEq] at H
  obtain ⟨rfl, rfl, rfl⟩ := H
  go_enter Try.func31, Try.ntmps31
  go_wp2_with (first | ((with_reducible refine gate_dst (N := 2) rfl ?_); refine bE 2 #[.int .i64 a0_0, .slice A0_1 l0_1.length c0_1, .slice A0_2 l0_2.length c0_2] 27 ?_; intro gb417 hg w7 hbox hb; have BK417 := Aside0.mk hbox; have GW417 := sB HB hg; have GE417 := GW417; replace HB := hB HB hb; clear hb hbox hg) | ((with_reducible refine gate_dst (N := 4) rfl ?_); refine bE 4 #[.int .i64 0, .int .i64 0] 45 ?_; intro gb418 hg w8 hbox hb; have BK418 := Aside0.mk hbox; have GW418 := sB HB hg; have GE418 := GW418; replace HB := hB HB hb; have NB417_418 := lN BK417 hg; have NB418_417 := gN NB417_418; replace BK417 := bkB BK417 hb; clear hb hbox hg; have hnb9 := NB417_418.out; have hnc9 := NB418_417.out; obtain ⟨hcz10_0, hfz10_0, hcz10_1, hfz10_1, hcz10_2, hfz10_2⟩ := cz3 BK417) | ((with_reducible refine gate_callee (f := 77) rfl ?_); refine goesL_ (some 8) rfl rfl Try.func77 (by kernel_rfl) rfl #[.agg #[.int .i64 a0_0, .slice A0_1 l0_1.length c0_1, .slice A0_2 l0_2.length c0_2], .int .i64 a1] rfl tM ?_; (with_reducible refine (impl_isBrick.calls k a0_0 _ _ l0_1 _ _ l0_2 a1 true _ ?side1 ?side2 ?side3 ?side4 A3.out).mono ?_); (case side1 => exact cB HR0_1 HB); (case side2 => exact HC0_1.out); (case side3 => exact cB HR0_2 HB); (case side4 => exact HC0_2.out); rintro e w11 ⟨rfl, hb⟩; refine ⟨_, rfl, ?_⟩; replace BK417 := bkB BK417 hb; replace BK418 := bkB BK418 hb; replace HB := hB HB hb; (try clear hb); obtain ⟨hcz12_0, hfz12_0, hcz12_1, hfz12_1, hcz12_2, hfz12_2⟩ := cz3 BK417) | ((with_reducible refine gate_callee (f := 83) rfl ?_); refine goesL_ (some 13) rfl rfl Try.func83 (by kernel_rfl) rfl #[.agg #[.int .i64 a0_0, .slice A0_1 l0_1.length c0_1, .slice A0_2 l0_2.length c0_2], .int .i64 a1] rfl tM ?_; (with_reducible refine (impl_Pile_centre.calls k a0_0 _ _ l0_1 _ _ l0_2 a1 t420 t421 _ ?side1 ?side2 ?side3 ?side4 A5.out).mono ?_); (case side1 => exact cB HR0_1 HB); (case side2 => exact HC0_1.out); (case side3 => exact cB HR0_2 HB); (case side4 => exact HC0_2.out); rintro e w13 ⟨rfl, hb⟩; refine ⟨_, rfl, ?_⟩; replace BK417 := bkB BK417 hb; replace BK418 := bkB BK418 hb; replace HB := hB HB hb; (try clear hb)) | ((with_reducible refine gate_callee (f := 82) rfl ?_); refine goesL_ (some 16) rfl rfl Try.func82 (by kernel_rfl) rfl #[.int .i64 t420, .int .i64 t421] rfl tM ?_; (with_reducible refine (impl_fraction.calls k t420 t421 t422 t423 _ A6.out).mono ?_); rintro e w14 ⟨rfl, hb⟩; refine ⟨_, rfl, ?_⟩; replace BK417 := bkB BK417 hb; replace BK418 := bkB BK418 hb; replace HB := hB HB hb; (try clear hb); obtain ⟨hcz15_0, hfz15_0, hcz15_1, hfz15_1⟩ := cz2 BK418))
  refine bodyPost_ret (results_ct rfl _ _ gb418 45 #[.int .i64 t422, .int .i64 t423] (0, 0) _ rfl (by (with_reducible repeat (first | refine blk_drewN ?_ _ | refine blk_drew ?_ | refine blk_alloc ?_ _)); refine blk_put (cs := #[.int .i64 t422, .int .i64 0]) ?_ 1 _ rfl; (with_reducible repeat (first | refine blk_drewN ?_ _ | refine blk_drew ?_ | refine blk_alloc ?_ _)); refine blk_put (cs := #[.int .i64 0, .int .i64 0]) ?_ 0 _ rfl; (with_reducible repeat (first | refine blk_drewN ?_ _ | refine blk_drew ?_ | refine blk_alloc ?_ _)); exact BK418.out) Try.underlying45 rfl (by kernel_rfl)) rfl ?_
  exact ⟨by first | rfl | (simp [errW_none, errW_some] <;> rfl) | (simp [*, errW_none, errW_some] <;> rfl), tB HB.out⟩
 ·
  replace c4 := Bool.eq_false_iff.mpr c4
  subst c4
  have H1 : (some (0, 0, false)) = some (r1, r2, r3) := by rw [if_neg (show ¬ (false = true) by decide)] at H; exact H
  clear H
  have H := H1
  clear H1
  simp only [Option.some.injEq, Prod.mk.injEq] at H
  obtain ⟨rfl, rfl, rfl⟩ := H
  go_enter Try.func31, Try.ntmps31
  go_wp2_with (first | ((with_reducible refine gate_dst (N := 2) rfl ?_); refine bE 2 #[.int .i64 a0_0, .slice A0_1 l0_1.length c0_1, .slice A0_2 l0_2.length c0_2] 27 ?_; intro gb417 hg w16 hbox hb; have BK417 := Aside0.mk hbox; have GW417 := sB HB hg; have GE417 := GW417; replace HB := hB HB hb; clear hb hbox hg) | ((with_reducible refine gate_dst (N := 4) rfl ?_); refine bE 4 #[.int .i64 0, .int .i64 0] 45 ?_; intro gb418 hg w17 hbox hb; have BK418 := Aside0.mk hbox; have GW418 := sB HB hg; have GE418 := GW418; replace HB := hB HB hb; have NB417_418 := lN BK417 hg; have NB418_417 := gN NB417_418; replace BK417 := bkB BK417 hb; clear hb hbox hg; have hnb18 := NB417_418.out; have hnc18 := NB418_417.out; obtain ⟨hcz19_0, hfz19_0, hcz19_1, hfz19_1, hcz19_2, hfz19_2⟩ := cz3 BK417) | ((with_reducible refine gate_callee (f := 77) rfl ?_); refine goesL_ (some 8) rfl rfl Try.func77 (by kernel_rfl) rfl #[.agg #[.int .i64 a0_0, .slice A0_1 l0_1.length c0_1, .slice A0_2 l0_2.length c0_2], .int .i64 a1] rfl tM ?_; (with_reducible refine (impl_isBrick.calls k a0_0 _ _ l0_1 _ _ l0_2 a1 false _ ?side1 ?side2 ?side3 ?side4 A3.out).mono ?_); (case side1 => exact cB HR0_1 HB); (case side2 => exact HC0_1.out); (case side3 => exact cB HR0_2 HB); (case side4 => exact HC0_2.out); rintro e w20 ⟨rfl, hb⟩; refine ⟨_, rfl, ?_⟩; replace BK417 := bkB BK417 hb; replace BK418 := bkB BK418 hb; replace HB := hB HB hb; (try clear hb); obtain ⟨hcz21_0, hfz21_0, hcz21_1, hfz21_1⟩ := cz2 BK418))
  refine bodyPost_ret (results_ct rfl _ _ gb418 45 #[.int .i64 0, .int .i64 0] (0, 0) _ rfl (by (with_reducible repeat (first | refine blk_drewN ?_ _ | refine blk_drew ?_ | refine blk_alloc ?_ _)); refine blk_put (cs := #[.int .i64 0, .int .i64 0]) ?_ 1 _ rfl; (with_reducible repeat (first | refine blk_drewN ?_ _ | refine blk_drew ?_ | refine blk_alloc ?_ _)); refine blk_put (cs := #[.int .i64 0, .int .i64 0]) ?_ 0 _ rfl; (with_reducible repeat (first | refine blk_drewN ?_ _ | refine blk_drew ?_ | refine blk_alloc ?_ _)); exact BK418.out) Try.underlying45 rfl (by kernel_rfl)) rfl ?_
  exact ⟨by first | rfl | (simp [errW_none, errW_some] <;> rfl) | (simp [*, errW_none, errW_some] <;> rfl), tB HB.out⟩
def spec_l2Gcd.l0 : Nat → Int → Int → Option (Int)
 | 0, _, _ => none
 | k + 1, x0, x1 => if x1 > 0 then (if x1 = 0 then (none) else (spec_l2Gcd.l0 k x1 (Int.tmod x0 x1))) else (some x0)
def spec_l2Gcd.f (k : Nat) (a0 : Int) (a1 : Int) : Option (Int) := spec_l2Gcd.l0 k a0 a1
set_option maxHeartbeats 8000000 in
set_option maxRecDepth 100000 in
theorem spec_l2Gcd.calls (k : Nat) (a0 : Int) (a1 : Int) (r : Int) (w : World) (h : spec_l2Gcd.f k a0 a1 = some r) :
  Calls Try.prog 95 #[.int .i64 a0, .int .i64 a1] w fun e w' => e = .returned (.int .i64 r) ∧ Drawn0 w w' := by
 have H : (spec_l2Gcd.l0 k a0 a1) = some r := h
 clear h
 have H' := Aside0.mk H
 clear H
 go_enter Try.func95, Try.ntmps95
 go_wp2
 repeat (go_quiet (fail); try go_wp2)
 go_loopg [0, 1] k (fun kq v0 v1 w' => ∃ (x0_1 : Int) (x1_1 : Int), v0 = .int .i64 x0_1 ∧ v1 = .int .i64 x1_1 ∧ Aside0 (spec_l2Gcd.l0 kq x0_1 x1_1 = some r) ∧ Aside0 (kq ≤ k) ∧ Drawn0 w w')
 case atStart => exact ⟨(a0), (a1), (by first | rfl | (simp; done) | (simp [wrap64]; done) | (simp [*]; done)), (by first | rfl | (simp; done) | (simp [wrap64]; done) | (simp [*]; done)), H', ⟨Nat.le_refl _⟩, by repeat (first | exact Drawn0.refl _ | apply Drawn0.step)⟩
 case round =>
  clear H'
  obtain ⟨x0_1, x1_1, rfl, rfl, HA, HK1, ⟨m1, rfl⟩⟩ := hrel
  cases gk with
  | zero => exact absurd HA.out (by simp [spec_l2Gcd.l0])
  | succ k1 =>
   have H := HA.out
   clear HA
   simp only [spec_l2Gcd.l0] at H
   by_cases c3 : x1_1 > 0
   ·
    rw [if_pos c3] at H
    have c3b0 : decide (0 < x1_1) = true := decide_eq_true c3
    clear c3
    by_cases c4 : x1_1 = 0
    ·
     rw [if_pos c4] at H
     exact absurd H (by simp)
    ·
     rw [if_neg c4] at H
     have c4b0 : (x1_1 == 0) = false := beq_eq_false_iff_ne.mpr c4
     have c4b1 : (x1_1 != 0) = true := bne_iff_ne.mpr c4
     have H' := Aside0.mk H
     clear H
     go_wp2
     repeat (go_quiet (fail); try go_wp2)
     go_roundg k1
     case measure => have := HK1.out; omega
     case rel => exact ⟨(x1_1), (Int.tmod x0_1 x1_1), (by first | rfl | (simp; done) | (simp [wrap64]; done) | (simp [*]; done)), (by first | rfl | (simp; done) | (simp [wrap64]; done) | (simp [*]; done)), H', ⟨by have := HK1.out; omega⟩, by repeat (first | exact Drawn0.refl _ | apply Drawn0.step)⟩
   ·
    rw [if_neg c3] at H
    have c3b0 : decide (0 < x1_1) = false := decide_eq_false c3
    clear c3
    obtain rfl := Option.some.inj H
    go_wp2
    repeat (go_quiet (fail); try go_wp2)
    go_ret
    exact ⟨by first | rfl | (simp; done) | (simp [wrap64]; done) | (simp [*]; done), by repeat (first | exact Drawn0.refl _ | apply Drawn0.step)⟩
def spec_l2Cut.f (k : Nat) (a0 : Int) (a1 : Int) : Option (Int × Int) := (spec_l1Most.f a0 (wrap64 (-a0))).bind fun t425 => ((spec_l2Gcd.f k t425 a1).bind fun t426 => (if t426 = 0 then (none) else (some (wrap64 (Int.tdiv a0 t426), wrap64 (Int.tdiv a1 t426)))))
def spec_l2Cut.T2 : Bool × List (List Nat × List Nat) := (true, [([], []), ([], []), ([0, 1], [0, 1]), ([], []), ([], []), ([3, 4], [3, 4]), ([2, 5], [2, 5]), ([6, 0, 1, 2, 3, 4, 5, 6], [6])])
def spec_l2Cut.B2 : List Nat := [0, 0, 3, 0, 0, 24, 63, 127]
theorem spec_l2Cut.tab2 : rtab .any (opsOf Try.f84 2) = spec_l2Cut.T2 := by kernel_rfl
theorem spec_l2Cut.bits2 : waitsOk spec_l2Cut.T2.2 spec_l2Cut.B2 = true := by kernel_rfl
set_option maxHeartbeats 8000000 in
set_option maxRecDepth 100000 in
theorem spec_l2Cut.calls (k : Nat) (a0 : Int) (a1 : Int) (r1 : Int) (r2 : Int) (w : World) (h : spec_l2Cut.f k a0 a1 = some (r1, r2)) :
  Calls Try.prog 84 #[.int .i64 a0, .int .i64 a1] w fun e w' => e = .returned (.agg #[.int .i64 r1, .int .i64 r2]) ∧ Below w.heap.size w w' := by
 have hu45 := Try.underlying45
 have HB := Aside0.mk (Below.refl w.heap.size w)
 have H : ((spec_l1Most.f a0 (wrap64 (-a0))).bind fun t425 => ((spec_l2Gcd.f k t425 a1).bind fun t426 => (if t426 = 0 then (none) else (some (wrap64 (Int.tdiv a0 t426), wrap64 (Int.tdiv a1 t426)))))) = some (r1, r2) := h
 clear h
 replace H := Option.bind_eq_some_iff.mp H
 obtain ⟨t425, A30, H⟩ := H
 replace H : ((spec_l2Gcd.f k t425 a1).bind fun t426 => (if t426 = 0 then (none) else (some (wrap64 (Int.tdiv a0 t426), wrap64 (Int.tdiv a1 t426))))) = some (r1, r2) := H
 have A3 := Aside0.mk A30
 clear A30
 replace H := Option.bind_eq_some_iff.mp H
 obtain ⟨t426, A40, H⟩ := H
 replace H : (if t426 = 0 then (none) else (some (wrap64 (Int.tdiv a0 t426), wrap64 (Int.tdiv a1 t426)))) = some (r1, r2) := H
 have A4 := Aside0.mk A40
 clear A40
 by_cases c5 : t426 = 0
 ·
  rw [if_pos c5] at H
  exact absurd H (by simp)
 ·
  rw [if_neg c5] at H
  have c5b0 : (t426 == 0) = false := beq_eq_false_iff_ne.mpr c5
  have c5b1 : (t426 != 0) = true := bne_iff_ne.mpr c5
  simp only [Option.some.injEq, Prod.mk.injEq] at H
  obtain ⟨rfl, rfl⟩ := H
  go_enter Try.func84, Try.ntmps84
  try go_wp2_with (first | ((with_reducible refine gate_dst (N := 4) rfl ?_); refine bE 4 #[.int .i64 0, .int .i64 0] 45 ?_; intro gb424 hg w6 hbox hb; have BK424 := Aside0.mk hbox; have GW424 := sB HB hg; have GE424 := GW424; replace HB := hB HB hb; clear hb hbox hg) | ((with_reducible refine gate_callee (f := 50) rfl ?_); refine goesL_ (some 9) rfl rfl Try.func50 (by kernel_rfl) rfl #[.int .i64 a0, .int .i64 (wrap64 (-a0))] rfl tM ?_; (with_reducible refine (spec_l1Most.calls a0 (wrap64 (-a0)) t425 _ A3.out).mono ?_); rintro e w' ⟨rfl, ⟨nd, rfl⟩⟩; refine ⟨_, rfl, ?_⟩; (try (rw [drewN_self w6]; generalize hq_ : World.drewN w6 _ = w6; have n0_ : Aside0 (w6.heap[gb424]? = some (.cells #[.int .i64 0, .int .i64 0] 45 (0, 0))) := ⟨by rw [← hq_]; exact (tK BK424.out)⟩; have n1_ : Aside0 (Below w.heap.size w w6) := ⟨by rw [← hq_]; exact (tB HB.out)⟩; clear BK424 HB hq_; have BK424 := n0_; have HB := n1_; clear n0_ n1_))) | ((with_reducible refine gate_callee (f := 95) rfl ?_); refine goesL_ (some 11) rfl rfl Try.func95 (by kernel_rfl) rfl #[.int .i64 t425, .int .i64 a1] rfl tM ?_; (with_reducible refine (spec_l2Gcd.calls k t425 a1 t426 _ A4.out).mono ?_); rintro e w' ⟨rfl, ⟨nd, rfl⟩⟩; refine ⟨_, rfl, ?_⟩; (try (rw [drewN_self w6]; generalize hq_ : World.drewN w6 _ = w6; have n0_ : Aside0 (w6.heap[gb424]? = some (.cells #[.int .i64 0, .int .i64 0] 45 (0, 0))) := ⟨by rw [← hq_]; exact (tK BK424.out)⟩; have n1_ : Aside0 (Below w.heap.size w w6) := ⟨by rw [← hq_]; exact (tB HB.out)⟩; clear BK424 HB hq_; have BK424 := n0_; have HB := n1_; clear n0_ n1_))))
  replace BK424 := Aside0.mk (blk_drew BK424.out)
  replace HB := Aside0.mk (below_drew1 HB.out)
  refine start_ (n := 8) (S := fun w' => True) (ds := []) #[n_, n_, n_, n_, n_, n_, n_, n_] (by kernel_rfl) rfl rfl trivial (fun hHeld => ?_); refine with_tabW spec_l2Cut.tab2 spec_l2Cut.bits2 (fun HT_ HW_ => ?_)
  generalize w6.drew = w7 at BK424 HB hHeld ⊢
  refine pu 0 (some 12) #[y_, n_, n_, n_, n_, n_, n_, n_] (any_of HT_.out (by kernel_rfl)) ?_
  refine pu 1 (some 13) #[y_, y_, n_, n_, n_, n_, n_, n_] (any_of HT_.out (by kernel_rfl)) ?_
  refine pu 2 (some 14) #[y_, y_, y_, n_, n_, n_, n_, n_] (any_of HT_.out (by kernel_rfl)) ?_
  refine pu 3 (some 15) #[y_, y_, y_, y_, n_, n_, n_, n_] (any_of HT_.out (by kernel_rfl)) ?_
  refine pu 4 (some 16) #[y_, y_, y_, y_, y_, n_, n_, n_] (any_of HT_.out (by kernel_rfl)) ?_
  refine pu 5 (some 17) #[y_, y_, y_, y_, y_, y_, n_, n_] (any_of HT_.out (by kernel_rfl)) ?_
  refine pu 6 (some 18) #[y_, y_, y_, y_, y_, y_, y_, n_] (any_of HT_.out (by kernel_rfl)) ?_
  refine one_ (i := 7) (N := none) #[y_, y_, y_, y_, y_, y_, y_, y_] rfl rfl (one_of HT_.out (by kernel_rfl)) (by decide) (fun K hK => ?_)
  have hs8 : w7.cell? ⟨gb424, 0, none⟩ = some (.int .i64 0) := (blk_cell BK424.out 0).trans rfl
  have hfs8 := blk_frozen BK424.out 0
  have hs9 : w7.cell? ⟨gb424, 1, none⟩ = some (.int .i64 0) := (blk_cell BK424.out 1).trans rfl
  have hfs9 := blk_frozen BK424.out 1
  refine skip_ (w1 := ?_) (by rfl) rfl ?_ ?_
  rotate_left
  ·
   go_simp
   rfl
  refine hK.out _ _ trivial (fun hHeld => ?_)
  clear hK K
  refine done_ (done_of HT_.out (by kernel_rfl)) ?_
  try go_wp2
  refine bodyPost_ret (results_cell_row rfl _ _ gb424 45 #[.int .i64 (wrap64 (Int.tdiv a0 t426)), .int .i64 (wrap64 (Int.tdiv a1 t426))] (0, 0) _ rfl (by (with_reducible repeat (first | refine blk_drewN ?_ _ | refine blk_drew ?_ | refine blk_alloc ?_ _)); refine blk_put (cs := #[.int .i64 (wrap64 (Int.tdiv a0 t426)), .int .i64 0]) ?_ 1 _ rfl; (with_reducible repeat (first | refine blk_drewN ?_ _ | refine blk_drew ?_ | refine blk_alloc ?_ _)); refine blk_put (cs := #[.int .i64 0, .int .i64 0]) ?_ 0 _ rfl; (with_reducible repeat (first | refine blk_drewN ?_ _ | refine blk_drew ?_ | refine blk_alloc ?_ _)); exact BK424.out) Try.underlying45 rfl (by kernel_rfl)) rfl ?_
  exact ⟨by first | rfl | (simp [errW_none, errW_some] <;> rfl) | (simp [*, errW_none, errW_some] <;> rfl), tB HB.out⟩
def spec_UpperCentre.f (k : Nat) (a0_0 : Int) (l0_1 : List Int) (l0_2 : List Int) (a1 : Int) : Option (Int × Int × Bool) := (spec_l4Brick.f k a0_0 l0_1 l0_2 a1).bind fun t429 => (if t429 = true then ((spec_l4Upper.f k a0_0 l0_1 l0_2 a1).bind fun bt430 => ((spec_l2Cut.f k bt430.1 (wrap64 (2 * bt430.2))).bind fun bt432 => (some (bt432.1, bt432.2, true)))) else (some (0, 0, false)))
set_option maxHeartbeats 8000000 in
set_option maxRecDepth 100000 in
theorem spec_UpperCentre.calls (k : Nat) (a0_0 : Int) (A0_1 : Option Addr) (c0_1 : Nat) (l0_1 : List Int) (A0_2 : Option Addr) (c0_2 : Nat) (l0_2 : List Int) (a1 : Int) (r1 : Int) (r2 : Int) (r3 : Bool) (w : World) (hr0_1 : Kd.C (Kd.int .i64) w A0_1 l0_1.length l0_1) (hc0_1 : l0_1.length ≤ c0_1) (hr0_2 : Kd.C (Kd.int .i64) w A0_2 l0_2.length l0_2) (hc0_2 : l0_2.length ≤ c0_2) (h : spec_UpperCentre.f k a0_0 l0_1 l0_2 a1 = some (r1, r2, r3)) :
  Calls Try.prog 32 #[.agg #[.int .i64 a0_0, .slice A0_1 l0_1.length c0_1, .slice A0_2 l0_2.length c0_2], .int .i64 a1] w fun e w' => e = .returned (.tuple #[.agg #[.int .i64 r1, .int .i64 r2], .bool r3]) ∧ Below w.heap.size w w' := by
 have hu27 := Try.underlying27
 have hu45 := Try.underlying45
 have HR0_1 := Aside0.mk hr0_1
 have HC0_1 := Aside0.mk hc0_1
 clear hr0_1 hc0_1
 have HR0_2 := Aside0.mk hr0_2
 have HC0_2 := Aside0.mk hc0_2
 clear hr0_2 hc0_2
 have HB := Aside0.mk (Below.refl w.heap.size w)
 have H : ((spec_l4Brick.f k a0_0 l0_1 l0_2 a1).bind fun t429 => (if t429 = true then ((spec_l4Upper.f k a0_0 l0_1 l0_2 a1).bind fun bt430 => ((spec_l2Cut.f k bt430.1 (wrap64 (2 * bt430.2))).bind fun bt432 => (some (bt432.1, bt432.2, true)))) else (some (0, 0, false)))) = some (r1, r2, r3) := h
 clear h
 replace H := Option.bind_eq_some_iff.mp H
 obtain ⟨t429, A30, H⟩ := H
 replace H : (if t429 = true then ((spec_l4Upper.f k a0_0 l0_1 l0_2 a1).bind fun bt430 => ((spec_l2Cut.f k bt430.1 (wrap64 (2 * bt430.2))).bind fun bt432 => (some (bt432.1, bt432.2, true)))) else (some (0, 0, false))) = some (r1, r2, r3) := H
 have A3 := Aside0.mk A30
 clear A30
 by_cases c4 : t429 = true
 ·
  subst c4
  have H1 : ((spec_l4Upper.f k a0_0 l0_1 l0_2 a1).bind fun bt430 => ((spec_l2Cut.f k bt430.1 (wrap64 (2 * bt430.2))).bind fun bt432 => (some (bt432.1, bt432.2, true)))) = some (r1, r2, r3) := by rw [if_pos rfl] at H; exact H
  clear H
  have H := H1
  clear H1
  replace H := Option.bind_eq_some_iff.mp H
  obtain ⟨⟨t430, t431⟩, A50, H⟩ := H
  replace H : ((spec_l2Cut.f k t430 (wrap64 (2 * t431))).bind fun bt432 => (some (bt432.1, bt432.2, true))) = some (r1, r2, r3) := H
  have A5 := Aside0.mk A50
  clear A50
  replace H := Option.bind_eq_some_iff.mp H
  obtain ⟨⟨t432, t433⟩, A60, H⟩ := H
  replace H : (some (t432, t433, true)) = some (r1, r2, r3) := H
  have A6 := Aside0.mk A60
  clear A60
  simp only [Option.some.injEq, Prod.mk.injEq] at H
  obtain ⟨rfl, rfl, rfl⟩ := H
  go_enter Try.func32, Try.ntmps32
  go_wp2_with (first | ((with_reducible refine gate_dst (N := 2) rfl ?_); refine bE 2 #[.int .i64 a0_0, .slice A0_1 l0_1.length c0_1, .slice A0_2 l0_2.length c0_2] 27 ?_; intro gb427 hg w7 hbox hb; have BK427 := Aside0.mk hbox; have GW427 := sB HB hg; have GE427 := GW427; replace HB := hB HB hb; clear hb hbox hg) | ((with_reducible refine gate_dst (N := 4) rfl ?_); refine bE 4 #[.int .i64 0, .int .i64 0] 45 ?_; intro gb428 hg w8 hbox hb; have BK428 := Aside0.mk hbox; have GW428 := sB HB hg; have GE428 := GW428; replace HB := hB HB hb; have NB427_428 := lN BK427 hg; have NB428_427 := gN NB427_428; replace BK427 := bkB BK427 hb; clear hb hbox hg; have hnb9 := NB427_428.out; have hnc9 := NB428_427.out; obtain ⟨hcz10_0, hfz10_0, hcz10_1, hfz10_1, hcz10_2, hfz10_2⟩ := cz3 BK427) | ((with_reducible refine gate_callee (f := 78) rfl ?_); refine goesL_ (some 10) rfl rfl Try.func78 (by kernel_rfl) rfl #[.agg #[.int .i64 a0_0, .slice A0_1 l0_1.length c0_1, .slice A0_2 l0_2.length c0_2], .int .i64 a1] rfl tM ?_; (with_reducible refine (spec_l4Brick.calls k a0_0 _ _ l0_1 _ _ l0_2 a1 true _ ?side1 ?side2 ?side3 ?side4 A3.out).mono ?_); (case side1 => exact cB HR0_1 HB); (case side2 => exact HC0_1.out); (case side3 => exact cB HR0_2 HB); (case side4 => exact HC0_2.out); rintro e w11 ⟨rfl, hb⟩; refine ⟨_, rfl, ?_⟩; replace BK427 := bkB BK427 hb; replace BK428 := bkB BK428 hb; replace HB := hB HB hb; (try clear hb); obtain ⟨hcz12_0, hfz12_0, hcz12_1, hfz12_1, hcz12_2, hfz12_2⟩ := cz3 BK427) | ((with_reducible refine gate_callee (f := 55) rfl ?_); refine goesL_ (some 16) rfl rfl Try.func55 (by kernel_rfl) rfl #[.agg #[.int .i64 a0_0, .slice A0_1 l0_1.length c0_1, .slice A0_2 l0_2.length c0_2], .int .i64 a1] rfl tM ?_; (with_reducible refine (spec_l4Upper.calls k a0_0 _ _ l0_1 _ _ l0_2 a1 t430 t431 _ ?side1 ?side2 ?side3 ?side4 A5.out).mono ?_); (case side1 => exact cB HR0_1 HB); (case side2 => exact HC0_1.out); (case side3 => exact cB HR0_2 HB); (case side4 => exact HC0_2.out); rintro e w13 ⟨rfl, hb⟩; refine ⟨_, rfl, ?_⟩; replace BK427 := bkB BK427 hb; replace BK428 := bkB BK428 hb; replace HB := hB HB hb; (try clear hb)) | ((with_reducible refine gate_callee (f := 84) rfl ?_); refine goesL_ (some 22) rfl rfl Try.func84 (by kernel_rfl) rfl #[.int .i64 t430, .int .i64 (wrap64 (2 * t431))] rfl tM ?_; (with_reducible refine (spec_l2Cut.calls k t430 (wrap64 (2 * t431)) t432 t433 _ A6.out).mono ?_); rintro e w14 ⟨rfl, hb⟩; refine ⟨_, rfl, ?_⟩; replace BK427 := bkB BK427 hb; replace BK428 := bkB BK428 hb; replace HB := hB HB hb; (try clear hb); obtain ⟨hcz15_0, hfz15_0, hcz15_1, hfz15_1⟩ := cz2 BK428))
  refine bodyPost_ret (results_ct rfl _ _ gb428 45 #[.int .i64 t432, .int .i64 t433] (0, 0) _ rfl (by (with_reducible repeat (first | refine blk_drewN ?_ _ | refine blk_drew ?_ | refine blk_alloc ?_ _)); refine blk_put (cs := #[.int .i64 t432, .int .i64 0]) ?_ 1 _ rfl; (with_reducible repeat (first | refine blk_drewN ?_ _ | refine blk_drew ?_ | refine blk_alloc ?_ _)); refine blk_put (cs := #[.int .i64 0, .int .i64 0]) ?_ 0 _ rfl; (with_reducible repeat (first | refine blk_drewN ?_ _ | refine blk_drew ?_ | refine blk_alloc ?_ _)); exact BK428.out) Try.underlying45 rfl (by kernel_rfl)) rfl ?_
  exact ⟨by first | rfl | (simp [errW_none, errW_some] <;> rfl) | (simp [*, errW_none, errW_some] <;> rfl), tB HB.out⟩
 ·
  replace c4 := Bool.eq_false_iff.mpr c4
  subst c4
  have H1 : (some (0, 0, false)) = some (r1, r2, r3) := by rw [if_neg (show ¬ (false = true) by decide)] at H; exact H
  clear H
  have H := H1
  clear H1
  simp only [Option.some.injEq, Prod.mk.injEq] at H
  obtain ⟨rfl, rfl, rfl⟩ := H
  go_enter Try.func32, Try.ntmps32
  go_wp2_with (first | ((with_reducible refine gate_dst (N := 2) rfl ?_); refine bE 2 #[.int .i64 a0_0, .slice A0_1 l0_1.length c0_1, .slice A0_2 l0_2.length c0_2] 27 ?_; intro gb427 hg w16 hbox hb; have BK427 := Aside0.mk hbox; have GW427 := sB HB hg; have GE427 := GW427; replace HB := hB HB hb; clear hb hbox hg) | ((with_reducible refine gate_dst (N := 4) rfl ?_); refine bE 4 #[.int .i64 0, .int .i64 0] 45 ?_; intro gb428 hg w17 hbox hb; have BK428 := Aside0.mk hbox; have GW428 := sB HB hg; have GE428 := GW428; replace HB := hB HB hb; have NB427_428 := lN BK427 hg; have NB428_427 := gN NB427_428; replace BK427 := bkB BK427 hb; clear hb hbox hg; have hnb18 := NB427_428.out; have hnc18 := NB428_427.out; obtain ⟨hcz19_0, hfz19_0, hcz19_1, hfz19_1, hcz19_2, hfz19_2⟩ := cz3 BK427) | ((with_reducible refine gate_callee (f := 78) rfl ?_); refine goesL_ (some 10) rfl rfl Try.func78 (by kernel_rfl) rfl #[.agg #[.int .i64 a0_0, .slice A0_1 l0_1.length c0_1, .slice A0_2 l0_2.length c0_2], .int .i64 a1] rfl tM ?_; (with_reducible refine (spec_l4Brick.calls k a0_0 _ _ l0_1 _ _ l0_2 a1 false _ ?side1 ?side2 ?side3 ?side4 A3.out).mono ?_); (case side1 => exact cB HR0_1 HB); (case side2 => exact HC0_1.out); (case side3 => exact cB HR0_2 HB); (case side4 => exact HC0_2.out); rintro e w20 ⟨rfl, hb⟩; refine ⟨_, rfl, ?_⟩; replace BK427 := bkB BK427 hb; replace BK428 := bkB BK428 hb; replace HB := hB HB hb; (try clear hb); obtain ⟨hcz21_0, hfz21_0, hcz21_1, hfz21_1⟩ := cz2 BK428))
  refine bodyPost_ret (results_ct rfl _ _ gb428 45 #[.int .i64 0, .int .i64 0] (0, 0) _ rfl (by (with_reducible repeat (first | refine blk_drewN ?_ _ | refine blk_drew ?_ | refine blk_alloc ?_ _)); refine blk_put (cs := #[.int .i64 0, .int .i64 0]) ?_ 1 _ rfl; (with_reducible repeat (first | refine blk_drewN ?_ _ | refine blk_drew ?_ | refine blk_alloc ?_ _)); refine blk_put (cs := #[.int .i64 0, .int .i64 0]) ?_ 0 _ rfl; (with_reducible repeat (first | refine blk_drewN ?_ _ | refine blk_drew ?_ | refine blk_alloc ?_ _)); exact BK428.out) Try.underlying45 rfl (by kernel_rfl)) rfl ?_
  exact ⟨by first | rfl | (simp [errW_none, errW_some] <;> rfl) | (simp [*, errW_none, errW_some] <;> rfl), tB HB.out⟩
def spec_DrawShiftPile.f (k : Nat) (l0 : List Int) : Option (Int × List Int × List Int × Int) := (spec_l1Cur_pile.f k l0 0 0).bind fun bt436 => ((spec_l1Cur_among.f l0 bt436.2.2.2.1 bt436.2.2.2.2 (([1, (-1), 3, (-5), 40, 99, (-99), 100, 0] : List Int))).bind fun bt448 => (some (bt436.1, bt436.2.1, bt436.2.2.1, bt448.1)))
set_option maxHeartbeats 8000000 in
set_option maxRecDepth 100000 in
theorem spec_DrawShiftPile.calls (k : Nat) (A0 : Option Addr) (c0 : Nat) (l0 : List Int) (r1 : Int) (r2 : List Int) (r3 : List Int) (r4 : Int) (w : World) (hr0 : Kd.C (Kd.int .u8) w A0 l0.length l0) (hc0 : l0.length ≤ c0) (h : spec_DrawShiftPile.f k l0 = some (r1, r2, r3, r4)) :
  Calls Try.prog 33 #[.slice A0 l0.length c0] w fun e w' => ∃ v1_ v2_ : Value, e = .returned (.tuple #[.agg #[.int .i64 r1, v1_, v2_], .int .i64 r4]) ∧ Kd.R (Kd.int .i64) 3 w' w.heap.size (fun k_ => some k_ ≠ (v2_ : Value).ownBlock) v1_ r2 ∧ Kd.R (Kd.int .i64) 3 w' w.heap.size (fun k_ => some k_ ≠ (v1_ : Value).ownBlock) v2_ r3 ∧ Below w.heap.size w w' := by
 have hu27 := Try.underlying27
 have hu75 := Try.underlying75
 have HR0 := Aside0.mk hr0
 have HC0 := Aside0.mk hc0
 clear hr0 hc0
 have HB := Aside0.mk (Below.refl w.heap.size w)
 have H : ((spec_l1Cur_pile.f k l0 0 0).bind fun bt436 => ((spec_l1Cur_among.f l0 bt436.2.2.2.1 bt436.2.2.2.2 (([1, (-1), 3, (-5), 40, 99, (-99), 100, 0] : List Int))).bind fun bt448 => (some (bt436.1, bt436.2.1, bt436.2.2.1, bt448.1)))) = some (r1, r2, r3, r4) := h
 clear h
 replace H := Option.bind_eq_some_iff.mp H
 obtain ⟨⟨t436, t437, t440, t443, t444⟩, A20, H⟩ := H
 replace H : ((spec_l1Cur_among.f l0 t443 t444 (([1, (-1), 3, (-5), 40, 99, (-99), 100, 0] : List Int))).bind fun bt448 => (some (t436, t437, t440, bt448.1))) = some (r1, r2, r3, r4) := H
 have A2 := Aside0.mk A20
 clear A20
 obtain ⟨y445, hy445⟩ : ∃ y_ : List Int, y_ = (([1, (-1), 3, (-5), 40, 99, (-99), 100, 0] : List Int)) := ⟨_, rfl⟩
 replace H : ((spec_l1Cur_among.f l0 t443 t444 y445).bind fun bt448 => (some (t436, t437, t440, bt448.1))) = some (r1, r2, r3, r4) := by first | (rw [hy445]; with_reducible exact H) | (have H2_ := (Option.bind_some _ _).symm.trans H; rw [hy445]; with_reducible exact H2_) | (have H2_ := (Option.bind_some _ _).symm.trans H; with_reducible exact H2_) | with_reducible exact H | (rw [hy445]; exact H) | exact H
 have Ny445 := Aside0.mk hy445
 clear hy445
 replace H := Option.bind_eq_some_iff.mp H
 obtain ⟨⟨t448, t449, t450⟩, A30, H⟩ := H
 replace H : (some (t436, t437, t440, t448)) = some (r1, r2, r3, r4) := H
 have A3 := Aside0.mk A30
 clear A30
 simp only [Option.some.injEq, Prod.mk.injEq] at H
 obtain ⟨rfl, rfl, rfl, rfl⟩ := H
 go_enter Try.func33, Try.ntmps33
 go_wp2_with (first | ((with_reducible refine gate_dst (N := 2) rfl ?_); refine bE 2 #[.int .i64 0, .slice none 0 0, .slice none 0 0] 27 ?_; intro gb434 hg w4 hbox hb; have BK434 := Aside0.mk hbox; have GW434 := sB HB hg; have GE434 := GW434; replace HB := hB HB hb; clear hb hbox hg) | ((with_reducible refine gate_dst (N := 7) rfl ?_); refine bE 7 #[.slice A0 l0.length c0, .int .i64 0, .int .u64 0] 75 ?_; intro gb435 hg w5 hbox hb; have NB434_435 := lN BK434 hg; have NB435_434 := gN NB434_435; replace BK434 := bkB BK434 hb; have HI435 := Aside0.mk ((⟨_, _, hbox, bS HB.out hg, HR0.out⟩ : IsS75 w w5 gb435 l0 0 0)); replace HB := hB HB hb; clear hb hbox hg) | ((with_reducible refine gate_callee (f := 85) rfl ?_); refine goesL_ (some 9) rfl rfl Try.func85 (by kernel_rfl) rfl #[.pointer (some ⟨gb435, 0, none⟩)] rfl tM ?_; (with_reducible refine (spec_l1Cur_pile.calls k gb435 l0 0 0 t436 t437 t440 t443 t444 w _ ?side1 ?side2 A2.out).mono ?_); (case side1 => repeat (first | (with_reducible first | exact HI435.out | apply IsS75.alloc | apply IsS75.drewN | apply IsS75.drew | apply IsS75.set_1 | apply IsS75.set_2 | refine IsS75.far ?_ NB435_434.out _) | exact HI435.out)); (case side2 => repeat (first | (with_reducible first | exact HB.out | apply below_alloc | apply pw_below_drewN | apply below_drew1 | refine below_set ?_ (IsS75.ge HI435.out) | refine below_set ?_ GE434.out) | exact HB.out)); rintro e w6 ⟨v438, v441, rfl, ho0, ho1, hi, hb, hk⟩; refine ⟨_, rfl, ?_⟩; replace BK434 := Aside0.mk (KeepBut.blk hk (g' := gb434) (o := .cells #[.int .i64 0, .slice none 0 0, .slice none 0 0] 27 (0, 0)) (tK BK434.out) NB434_435.out (by simp)); have HO439 := Aside0.mk (Kd.R_lower ho0 (below_size (by repeat (first | (with_reducible first | exact HB.out | apply below_alloc | apply pw_below_drewN | apply below_drew1 | refine below_set ?_ (IsS75.ge HI435.out) | refine below_set ?_ GE434.out) | exact HB.out)))); have HO442 := Aside0.mk (Kd.R_lower ho1 (below_size (by repeat (first | (with_reducible first | exact HB.out | apply below_alloc | apply pw_below_drewN | apply below_drew1 | refine below_set ?_ (IsS75.ge HI435.out) | refine below_set ?_ GE434.out) | exact HB.out)))); replace HB := Aside0.mk (hb); replace HI435 := Aside0.mk (hi); (try clear hb); (try clear hk); (try clear hi); (try clear ho0); (try clear ho1)) | ((with_reducible refine gate_dst (N := 11) rfl ?_); refine Kd.R_lit (Kd.int .i64) _ 3 ?hg (N := 11) ?hd (xs := ([1, (-1), 3, (-5), 40, 99, (-99), 100, 0] : List Int)) (inner := [.int .i64 1, .int .i64 (-1), .int .i64 3, .int .i64 (-5), .int .i64 40, .int .i64 99, .int .i64 (-99), .int .i64 100, .int .i64 0]) (ok := fun _ => True) (okp := fun _ => True) ?hr ?hp (fun _ hk => hk) trivial (Below.refl _ _) (Nat.le_refl _) (by simp) ?_; (case hd => rfl); (case hg => rfl); (case hr => first | (go_simp; done) | (go_simp; rfl)); (case hp => exact (Reps.one (show Kd.M (Kd.int .i64) _ _ _ 1 [.int .i64 1] from rfl) (Reps.one (show Kd.M (Kd.int .i64) _ _ _ (-1) [.int .i64 (-1)] from rfl) (Reps.one (show Kd.M (Kd.int .i64) _ _ _ 3 [.int .i64 3] from rfl) (Reps.one (show Kd.M (Kd.int .i64) _ _ _ (-5) [.int .i64 (-5)] from rfl) (Reps.one (show Kd.M (Kd.int .i64) _ _ _ 40 [.int .i64 40] from rfl) (Reps.one (show Kd.M (Kd.int .i64) _ _ _ 99 [.int .i64 99] from rfl) (Reps.one (show Kd.M (Kd.int .i64) _ _ _ (-99) [.int .i64 (-99)] from rfl) (Reps.one (show Kd.M (Kd.int .i64) _ _ _ 100 [.int .i64 100] from rfl) (Reps.one (show Kd.M (Kd.int .i64) _ _ _ 0 [.int .i64 0] from rfl) (Reps.none _ _))))))))))); intro v446 w7 ho8 hb hg_ hnew_; clear hg_ hnew_; (first | rw [← Ny445.out] at ho8 | (simp only [Int.reduceToNat] at ho8; rw [← Ny445.out] at ho8)); have HO447 := Aside0.mk (Kd.R_lower (Kd.R_new' (Kd.R_new' ho8 (Kd.R_lt (tR HO439.out))) (Kd.R_lt (tR HO442.out))) (below_size (by repeat (first | (with_reducible first | exact HB.out | apply below_alloc | apply pw_below_drewN | apply below_drew1 | refine below_set ?_ (IsS75.ge HI435.out) | refine below_set ?_ GE434.out) | exact HB.out)))); replace HO439 := Aside0.mk (Kd.R_elder' (tR HO439.out) (Kd.R_base ho8) hb); replace HO442 := Aside0.mk (Kd.R_elder' (tR HO442.out) (Kd.R_base ho8) hb); replace BK434 := bkB BK434 hb; replace HB := Aside0.mk (below_step (by repeat (first | (with_reducible first | exact HB.out | apply below_alloc | apply pw_below_drewN | apply below_drew1 | refine below_set ?_ (IsS75.ge HI435.out) | refine below_set ?_ GE434.out) | exact HB.out)) hb); replace HI435 := Aside0.mk (IsS75.below (by repeat (first | (with_reducible first | exact HI435.out | apply IsS75.alloc | apply IsS75.drewN | apply IsS75.drew | apply IsS75.set_1 | apply IsS75.set_2 | refine IsS75.far ?_ NB435_434.out _) | exact HI435.out)) hb); clear hb ho8; obtain ⟨Ao9, co9, eo9⟩ := Kd.R_slice HO447.out; subst eo9) | ((with_reducible refine gate_callee (f := 86) rfl ?_); refine goesL_ (some 12) rfl rfl Try.func86 (by kernel_rfl) rfl #[.pointer (some ⟨gb435, 0, none⟩), .slice Ao9 y445.length co9] rfl tM ?_; (with_reducible refine (spec_l1Cur_among.calls gb435 l0 t443 t444 _ _ y445 t448 t449 t450 w _ ?side1 ?side2 ?side3 ?side4 ?side5 A3.out).mono ?_); (case side1 => repeat (first | (with_reducible first | exact HI435.out | apply IsS75.alloc | apply IsS75.drewN | apply IsS75.drew | apply IsS75.set_1 | apply IsS75.set_2 | refine IsS75.far ?_ NB435_434.out _) | exact HI435.out)); (case side2 => repeat (first | (with_reducible first | exact HB.out | apply below_alloc | apply pw_below_drewN | apply below_drew1 | refine below_set ?_ (IsS75.ge HI435.out) | refine below_set ?_ GE434.out) | exact HB.out)); (case side3 => exact rC HO447); (case side4 => exact (Kd.R_reads' HO447.out).2.1); (case side5 => exact far_slice (IsS75.own_ne HI435.out HO447.out (by decide))); rintro e w10 ⟨rfl, hi, hb, hk⟩; refine ⟨_, rfl, ?_⟩; replace BK434 := Aside0.mk (KeepBut.blk hk (g' := gb434) (o := .cells #[.int .i64 0, .slice none 0 0, .slice none 0 0] 27 (0, 0)) (tK BK434.out) NB434_435.out (by simp)); replace HO439 := Aside0.mk (Kd.R_mono (Kd.R_keep (IsS75.apart (show IsS75 w _ gb435 l0 t443 t444 from by repeat (first | (with_reducible first | exact HI435.out | apply IsS75.alloc | apply IsS75.drewN | apply IsS75.drew | apply IsS75.set_1 | apply IsS75.set_2 | refine IsS75.far ?_ NB435_434.out _) | exact HI435.out)) (tR HO439.out) (by decide)) hk (fun _ h => h.2)) (fun _ h => h.1)); replace HO442 := Aside0.mk (Kd.R_mono (Kd.R_keep (IsS75.apart (show IsS75 w _ gb435 l0 t443 t444 from by repeat (first | (with_reducible first | exact HI435.out | apply IsS75.alloc | apply IsS75.drewN | apply IsS75.drew | apply IsS75.set_1 | apply IsS75.set_2 | refine IsS75.far ?_ NB435_434.out _) | exact HI435.out)) (tR HO442.out) (by decide)) hk (fun _ h => h.2)) (fun _ h => h.1)); replace HO447 := Aside0.mk (Kd.R_mono (Kd.R_keep (IsS75.apart (show IsS75 w _ gb435 l0 t443 t444 from by repeat (first | (with_reducible first | exact HI435.out | apply IsS75.alloc | apply IsS75.drewN | apply IsS75.drew | apply IsS75.set_1 | apply IsS75.set_2 | refine IsS75.far ?_ NB435_434.out _) | exact HI435.out)) (tR HO447.out) (by decide)) hk (fun _ h => h.2)) (fun _ h => h.1)); replace HB := Aside0.mk (hb); replace HI435 := Aside0.mk (hi); (try clear hb); (try clear hk); (try clear hi); have hnb11 := NB434_435.out; have hnc11 := NB435_434.out; obtain ⟨hcz12_0, hfz12_0, hcz12_1, hfz12_1, hcz12_2, hfz12_2⟩ := cz3 BK434; obtain ⟨Ao13, co13, eo13⟩ := Kd.R_slice HO439.out; subst eo13; obtain ⟨Ao14, co14, eo14⟩ := Kd.R_slice HO442.out; subst eo14))
 refine bodyPost_ret (results_ct rfl _ _ gb434 27 #[.int .i64 t436, .slice Ao13 t437.length co13, .slice Ao14 t440.length co14] (0, 0) _ rfl (by (with_reducible repeat (first | refine blk_drewN ?_ _ | refine blk_drew ?_ | refine blk_alloc ?_ _)); exact bp3 BK434.out) Try.underlying27 rfl (by kernel_rfl)) rfl ?_
 exact ⟨_, _, by first | rfl | (simp [errW_none, errW_some] <;> rfl) | (simp [*, errW_none, errW_some] <;> rfl), by (with_reducible repeat (first | apply Kd.R_alloc | apply Kd.R_drewN | apply Kd.R_drew)); exact Kd.R_mono (Kd.R_far (p := ⟨gb434, 2, none⟩) (Kd.R_far (p := ⟨gb434, 1, none⟩) (Kd.R_far (p := ⟨gb434, 0, none⟩) (Kd.R_types HO439.out BK434.out (by decide)) (fun _ hk => hk.2) (.int .i64 t436)) (fun _ hk => hk.2) (.slice Ao13 t437.length co13)) (fun _ hk => hk.2) (.slice Ao14 t440.length co14)) (fun _ hk => hk.1.1), by (with_reducible repeat (first | apply Kd.R_alloc | apply Kd.R_drewN | apply Kd.R_drew)); exact Kd.R_mono (Kd.R_far (p := ⟨gb434, 2, none⟩) (Kd.R_far (p := ⟨gb434, 1, none⟩) (Kd.R_far (p := ⟨gb434, 0, none⟩) (Kd.R_types HO442.out BK434.out (by decide)) (fun _ hk => hk.2) (.int .i64 t436)) (fun _ hk => hk.2) (.slice Ao13 t437.length co13)) (fun _ hk => hk.2) (.slice Ao14 t440.length co14)) (fun _ hk => hk.1.1), by repeat (first | (with_reducible first | exact HB.out | apply below_alloc | apply pw_below_drewN | apply below_drew1 | refine below_set ?_ (IsS75.ge HI435.out) | refine below_set ?_ GE434.out) | exact HB.out)⟩
def impl_Pile_moved.l0 : Nat → Int → List Int → Int → Int → Int → List Int → List Int → Option (Int × List Int × List Int)
 | 0, _, _, _, _, _, _, _ => none
 | k + 1, x1, x15, x16, x17, x457000, x457001, x457002 => if x17 < x16 then (if 0 ≤ x17 then (if x17 < (x15.length : Int) then (if x457001.length < 17592186044416 then (impl_Pile_moved.l0 k x1 x15 x16 (wrap64 (x17 + 1)) x457000 (x457001 ++ [wrap64 ((rd x15 x17) + x1)]) x457002) else (none)) else (none)) else (none)) else (some (x457000, x457001, x457002))
def impl_Pile_moved.f (k : Nat) (a0_0 : Int) (l0_1 : List Int) (l0_2 : List Int) (a1 : Int) : Option (Int × List Int × List Int) := (slices_Clone_int_int.f l0_2).bind fun t453 => (impl_Pile_moved.l0 k a1 l0_1 (l0_1.length : Int) 0 a0_0 ([] : List Int) t453)
def impl_Pile_moved.T1 : Bool × List (List Nat × List Nat) := (true, [([], []), ([0], [0]), ([], []), ([2], [2]), ([3], [3]), ([1, 4], [1, 4]), ([], []), ([6, 5, 4, 0, 1, 2, 3, 4, 5, 6], [5, 6])])
def impl_Pile_moved.B1 : List Nat := [0, 1, 0, 4, 12, 31, 0, 127]
theorem impl_Pile_moved.tab1 : rtab .any (opsOf Try.f59 1) = impl_Pile_moved.T1 := by kernel_rfl
theorem impl_Pile_moved.bits1 : waitsOk impl_Pile_moved.T1.2 impl_Pile_moved.B1 = true := by kernel_rfl
set_option maxHeartbeats 8000000 in
set_option maxRecDepth 100000 in
theorem impl_Pile_moved.calls (k : Nat) (a0_0 : Int) (A0_1 : Option Addr) (c0_1 : Nat) (l0_1 : List Int) (A0_2 : Option Addr) (c0_2 : Nat) (l0_2 : List Int) (a1 : Int) (r1 : Int) (r2 : List Int) (r3 : List Int) (w : World) (hr0_1 : Kd.C (Kd.int .i64) w A0_1 l0_1.length l0_1) (hc0_1 : l0_1.length ≤ c0_1) (hr0_2 : Kd.C (Kd.int .i64) w A0_2 l0_2.length l0_2) (hc0_2 : l0_2.length ≤ c0_2) (h : impl_Pile_moved.f k a0_0 l0_1 l0_2 a1 = some (r1, r2, r3)) :
  Calls Try.prog 59 #[.agg #[.int .i64 a0_0, .slice A0_1 l0_1.length c0_1, .slice A0_2 l0_2.length c0_2], .int .i64 a1] w fun e w' => ∃ v1_ v2_ : Value, e = .returned (.agg #[.int .i64 r1, v1_, v2_]) ∧ Kd.R (Kd.int .i64) 3 w' w.heap.size (fun k_ => some k_ ≠ (v2_ : Value).ownBlock) v1_ r2 ∧ Kd.R (Kd.int .i64) 3 w' w.heap.size (fun k_ => some k_ ≠ (v1_ : Value).ownBlock) v2_ r3 ∧ Below w.heap.size w w' := by
 have hu27 := Try.underlying27
 have HR0_1 := Aside0.mk hr0_1
 have HC0_1 := Aside0.mk hc0_1
 clear hr0_1 hc0_1
 have HR0_2 := Aside0.mk hr0_2
 have HC0_2 := Aside0.mk hc0_2
 clear hr0_2 hc0_2
 have HB := Aside0.mk (Below.refl w.heap.size w)
 have H : ((slices_Clone_int_int.f l0_2).bind fun t453 => (impl_Pile_moved.l0 k a1 l0_1 (l0_1.length : Int) 0 a0_0 ([] : List Int) t453)) = some (r1, r2, r3) := h
 clear h
 replace H := Option.bind_eq_some_iff.mp H
 obtain ⟨t453, A30, H⟩ := H
 replace H : (impl_Pile_moved.l0 k a1 l0_1 (l0_1.length : Int) 0 a0_0 ([] : List Int) t453) = some (r1, r2, r3) := H
 have A3 := Aside0.mk A30
 clear A30
 have H' := Aside0.mk H
 clear H
 go_enter Try.func59, Try.ntmps59
 try go_wp2_with (first | ((with_reducible refine gate_dst (N := 2) rfl ?_); refine bE 2 #[.int .i64 a0_0, .slice A0_1 l0_1.length c0_1, .slice A0_2 l0_2.length c0_2] 27 ?_; intro gb451 hg w4 hbox hb; have BK451 := Aside0.mk hbox; have GW451 := sB HB hg; have GE451 := GW451; replace HB := hB HB hb; clear hb hbox hg) | ((with_reducible refine gate_dst (N := 4) rfl ?_); refine bE 4 #[.int .i64 0, .slice none 0 0, .slice none 0 0] 27 ?_; intro gb452 hg w5 hbox hb; have BK452 := Aside0.mk hbox; have GW452 := sB HB hg; have GE452 := GW452; replace HB := hB HB hb; have NB451_452 := lN BK451 hg; have NB452_451 := gN NB451_452; replace BK451 := bkB BK451 hb; clear hb hbox hg))
 replace BK451 := Aside0.mk (blk_drew BK451.out)
 replace BK452 := Aside0.mk (blk_drew BK452.out)
 replace HB := Aside0.mk (below_drew1 HB.out)
 refine start_ (n := 8) (S := fun w' => w'.cell? ⟨gb451, 0, none⟩ = some (.int .i64 a0_0) ∧ w'.cell? ⟨gb451, 1, none⟩ = some (.slice A0_1 l0_1.length c0_1) ∧ w'.cell? ⟨gb451, 2, none⟩ = some (.slice A0_2 l0_2.length c0_2)) (ds := []) #[n_, n_, n_, n_, n_, n_, n_, n_] (by kernel_rfl) rfl rfl ⟨(blk_cell BK451.out 0).trans rfl, (blk_cell BK451.out 1).trans rfl, (blk_cell BK451.out 2).trans rfl⟩ (fun hHeld => ?_); refine with_tabW impl_Pile_moved.tab1 impl_Pile_moved.bits1 (fun HT_ HW_ => ?_)
 generalize w5.drew = w6 at BK451 BK452 HB hHeld ⊢
 refine pu 0 (some 8) #[y_, n_, n_, n_, n_, n_, n_, n_] (any_of HT_.out (by kernel_rfl)) ?_
 refine pu 2 (some 10) #[y_, n_, y_, n_, n_, n_, n_, n_] (any_of HT_.out (by kernel_rfl)) ?_
 refine tk 1 (some 9) #[y_, y_, y_, n_, n_, n_, n_, n_] rfl (take_ofW HT_.out HW_.out (by kernel_rfl)) hHeld (Or.inl ⟨by rfl, by rintro w' ⟨s0, s1, s2⟩; go_simp; with_reducible rfl⟩) ?_
 refine tk 3 (some 11) #[y_, y_, y_, y_, n_, n_, n_, n_] rfl (take_ofW HT_.out HW_.out (by kernel_rfl)) hHeld (Or.inl ⟨by rfl, by rintro w' ⟨s0, s1, s2⟩; go_simp; with_reducible rfl⟩) ?_
 refine join_ (σ := Value × Nat) 1 #[y_, y_, y_, y_, y_, y_, y_, n_] (fun s_ => [(12, s_.1), (5, .pointer (some ⟨s_.2, 0, none⟩)), (13, .agg #[.int .i64 a0_0, .slice none 0 0, s_.1])]) (fun s_ w' => (w'.cell? ⟨gb451, 0, none⟩ = some (.int .i64 a0_0) ∧ w'.cell? ⟨gb451, 1, none⟩ = some (.slice A0_1 l0_1.length c0_1) ∧ w'.cell? ⟨gb451, 2, none⟩ = some (.slice A0_2 l0_2.length c0_2)) ∧ (Kd.R (Kd.int .i64) 3 w' w.heap.size (fun _ => True) s_.1 t453) ∧ (w'.heap[gb451]? = some (.cells #[.int .i64 a0_0, .slice A0_1 l0_1.length c0_1, .slice A0_2 l0_2.length c0_2] 27 (0, 0))) ∧ (w'.heap[gb452]? = some (.cells #[.int .i64 0, .slice none 0 0, .slice none 0 0] 27 (0, 0))) ∧ (w'.heap[s_.2]? = some (.cells #[.int .i64 0, .slice none 0 0, .slice none 0 0] 27 (0, 0))) ∧ (w.heap.size ≤ s_.2) ∧ (w.heap.size ≤ s_.2) ∧ (gb451 ≠ s_.2) ∧ (s_.2 ≠ gb451) ∧ (gb452 ≠ s_.2) ∧ (s_.2 ≠ gb452) ∧ (Below w.heap.size w w')) ?_ ?_
 rotate_left
 ·
  intro hCont
  refine two_ (i := 4) (j := 6) (Ni := some 12) (Nj := some 5) #[y_, y_, y_, y_, y_, n_, n_, n_] #[y_, y_, y_, y_, n_, n_, y_, n_] rfl rfl rfl rfl (two_of HT_.out (by kernel_rfl)) (by decide) (by decide) (fun K hK => ?_) (fun K hK => ?_)
  ·
   skip
   refine goes_ Try.func71 (by kernel_rfl) rfl #[.slice A0_2 l0_2.length c0_2] (by rfl) rfl rfl tM ?_
   with_reducible refine (slices_Clone_int_int.calls _ _ l0_2 t453 _ ?side1 ?side2 A3.out).mono ?_
   (case side1 => exact cB HR0_2 HB)
   (case side2 => exact HC0_2.out)
   rintro e w7 ⟨v454, rfl, ho0, hb⟩
   refine ⟨_, rfl, ?_⟩
   have HO455 := Aside0.mk (Kd.R_lower ho0 (below_size (tB HB.out)))
   replace BK451 := bkB BK451 hb
   replace BK452 := bkB BK452 hb
   replace HB := hB HB hb
   (try clear hb); (try clear ho0)
   obtain ⟨Ao8, co8, eo8⟩ := Kd.R_slice HO455.out
   (first | subst eo8 | (injection eo8 with f1_ f2_ f3_; have f4_ := f1_.symm; have f5_ := f3_.symm; clear f1_ f2_ f3_; subst f4_; subst f5_))
   refine hK.out _ _ ⟨(blk_cell BK451.out 0).trans rfl, (blk_cell BK451.out 1).trans rfl, (blk_cell BK451.out 2).trans rfl⟩ (fun hHeld => ?_)
   clear hK K
   refine norm_ (a' := ?_) ?_ ?_
   rotate_left
   ·
    show Act.put _ (some 12) _ = _
    simp only [Act.put, List.setIfInBounds_toArray, List.set_cons_zero, List.set_cons_succ, i64_w, i32_w]
    rfl
   refine pu 5 (some 13) #[y_, y_, y_, y_, y_, y_, n_, n_] (any_of HT_.out (by kernel_rfl)) ?_
   refine one_ (i := 6) (N := some 5) #[y_, y_, y_, y_, y_, y_, y_, n_] rfl rfl (one_of HT_.out (by kernel_rfl)) (by decide) (fun K hK => ?_)
   refine box_step ?hg (N := 5) ?hd (cs := #[.int .i64 0, .slice none 0 0, .slice none 0 0]) (t := 27) ?hr ?_; (case hd => rfl); (case hg => rfl); (case hr => first | (go_simp; done) | (go_simp; rfl))
   intro gb456 hg w9 hbox hb
   replace HO455 := rB HO455 hb
   have BK456 := Aside0.mk hbox
   have GW456 := Aside0.mk (bS HB.out hg)
   have GE456 := Aside0.mk (bS HB.out hg)
   replace HB := hB HB hb
   have NB451_456 := Aside0.mk (nL BK451.out hg)
   have NB456_451 := Aside0.mk (nG BK451.out hg)
   replace BK451 := bkB BK451 hb
   have NB452_456 := Aside0.mk (nL BK452.out hg)
   have NB456_452 := Aside0.mk (nG BK452.out hg)
   replace BK452 := bkB BK452 hb
   clear hb hbox hg
   refine hK.out _ _ ⟨(blk_cell BK451.out 0).trans rfl, (blk_cell BK451.out 1).trans rfl, (blk_cell BK451.out 2).trans rfl⟩ (fun hHeld => ?_)
   clear hK K
   refine norm_ (a' := ?_) ?_ ?_
   rotate_left
   ·
    show Act.put _ (some 5) _ = _
    simp only [Act.put, List.setIfInBounds_toArray, List.set_cons_zero, List.set_cons_succ, i64_w, i32_w]
    rfl
   exact norm_ (by simp only [putAll, Act.put, List.setIfInBounds_toArray, List.set_cons_zero, List.set_cons_succ]) (hCont (.slice Ao8 t453.length co8, gb456) _ ⟨hHeld, (tR HO455.out), (tK BK451.out), (tK BK452.out), (tK BK456.out), GW456.out, GE456.out, NB451_456.out, NB456_451.out, NB452_456.out, NB456_452.out, (tB HB.out)⟩)
  ·
   skip
   refine box_step ?hg (N := 5) ?hd (cs := #[.int .i64 0, .slice none 0 0, .slice none 0 0]) (t := 27) ?hr ?_; (case hd => rfl); (case hg => rfl); (case hr => first | (go_simp; done) | (go_simp; rfl))
   intro gb456 hg w7 hbox hb
   have BK456 := Aside0.mk hbox
   have GW456 := Aside0.mk (bS HB.out hg)
   have GE456 := Aside0.mk (bS HB.out hg)
   replace HB := hB HB hb
   have NB451_456 := Aside0.mk (nL BK451.out hg)
   have NB456_451 := Aside0.mk (nG BK451.out hg)
   replace BK451 := bkB BK451 hb
   have NB452_456 := Aside0.mk (nL BK452.out hg)
   have NB456_452 := Aside0.mk (nG BK452.out hg)
   replace BK452 := bkB BK452 hb
   clear hb hbox hg
   refine hK.out _ _ ⟨(blk_cell BK451.out 0).trans rfl, (blk_cell BK451.out 1).trans rfl, (blk_cell BK451.out 2).trans rfl⟩ (fun hHeld => ?_)
   clear hK K
   refine norm_ (a' := ?_) ?_ ?_
   rotate_left
   ·
    show Act.put _ (some 5) _ = _
    simp only [Act.put, List.setIfInBounds_toArray, List.set_cons_zero, List.set_cons_succ, i64_w, i32_w]
    rfl
   refine one_ (i := 4) (N := some 12) #[y_, y_, y_, y_, y_, n_, y_, n_] rfl rfl (one_of HT_.out (by kernel_rfl)) (by decide) (fun K hK => ?_)
   refine goes_ Try.func71 (by kernel_rfl) rfl #[.slice A0_2 l0_2.length c0_2] (by rfl) rfl rfl tM ?_
   with_reducible refine (slices_Clone_int_int.calls _ _ l0_2 t453 _ ?side1 ?side2 A3.out).mono ?_
   (case side1 => exact cB HR0_2 HB)
   (case side2 => exact HC0_2.out)
   rintro e w8 ⟨v454, rfl, ho0, hb⟩
   refine ⟨_, rfl, ?_⟩
   have HO455 := Aside0.mk (Kd.R_lower ho0 (below_size (tB HB.out)))
   replace BK451 := bkB BK451 hb
   replace BK452 := bkB BK452 hb
   replace BK456 := bkB BK456 hb
   replace HB := hB HB hb
   (try clear hb); (try clear ho0)
   obtain ⟨Ao9, co9, eo9⟩ := Kd.R_slice HO455.out
   (first | subst eo9 | (injection eo9 with f1_ f2_ f3_; have f4_ := f1_.symm; have f5_ := f3_.symm; clear f1_ f2_ f3_; subst f4_; subst f5_))
   refine hK.out _ _ ⟨(blk_cell BK451.out 0).trans rfl, (blk_cell BK451.out 1).trans rfl, (blk_cell BK451.out 2).trans rfl⟩ (fun hHeld => ?_)
   clear hK K
   refine norm_ (a' := ?_) ?_ ?_
   rotate_left
   ·
    show Act.put _ (some 12) _ = _
    simp only [Act.put, List.setIfInBounds_toArray, List.set_cons_zero, List.set_cons_succ, i64_w, i32_w]
    rfl
   refine pu 5 (some 13) #[y_, y_, y_, y_, y_, y_, y_, n_] (any_of HT_.out (by kernel_rfl)) ?_
   exact norm_ (by simp only [putAll, Act.put, List.setIfInBounds_toArray, List.set_cons_zero, List.set_cons_succ]) (hCont (.slice Ao9 t453.length co9, gb456) _ ⟨hHeld, (tR HO455.out), (tK BK451.out), (tK BK452.out), (tK BK456.out), GW456.out, GE456.out, NB451_456.out, NB456_451.out, NB452_456.out, NB456_452.out, (tB HB.out)⟩)
 rintro ⟨v454, gb456⟩ w10 ⟨hS_, h0_, h1_, h2_, h3_, h4_, h5_, h6_, h7_, h8_, h9_, h10_⟩
 have n0_ : Aside0 (Kd.R (Kd.int .i64) 3 w10 w.heap.size (fun _ => True) v454 t453) := ⟨h0_⟩
 have n1_ : Aside0 (w10.heap[gb451]? = some (.cells #[.int .i64 a0_0, .slice A0_1 l0_1.length c0_1, .slice A0_2 l0_2.length c0_2] 27 (0, 0))) := ⟨h1_⟩
 have n2_ : Aside0 (w10.heap[gb452]? = some (.cells #[.int .i64 0, .slice none 0 0, .slice none 0 0] 27 (0, 0))) := ⟨h2_⟩
 have n3_ : Aside0 (w10.heap[gb456]? = some (.cells #[.int .i64 0, .slice none 0 0, .slice none 0 0] 27 (0, 0))) := ⟨h3_⟩
 have n4_ : Aside0 (w.heap.size ≤ gb456) := ⟨h4_⟩
 have n5_ : Aside0 (w.heap.size ≤ gb456) := ⟨h5_⟩
 have n6_ : Aside0 (gb451 ≠ gb456) := ⟨h6_⟩
 have n7_ : Aside0 (gb456 ≠ gb451) := ⟨h7_⟩
 have n8_ : Aside0 (gb452 ≠ gb456) := ⟨h8_⟩
 have n9_ : Aside0 (gb456 ≠ gb452) := ⟨h9_⟩
 have n10_ : Aside0 (Below w.heap.size w w10) := ⟨h10_⟩
 clear BK451
 clear BK452
 clear HB
 clear h0_ h1_ h2_ h3_ h4_ h5_ h6_ h7_ h8_ h9_ h10_
 have HO455 := n0_
 have BK451 := n1_
 have BK452 := n2_
 have BK456 := n3_
 have GW456 := n4_
 have GE456 := n5_
 have NB451_456 := n6_
 have NB456_451 := n7_
 have NB452_456 := n8_
 have NB456_452 := n9_
 have HB := n10_
 clear n0_ n1_ n2_ n3_ n4_ n5_ n6_ n7_ n8_ n9_ n10_
 have hHeld : w10.cell? ⟨gb451, 0, none⟩ = some (.int .i64 a0_0) ∧ w10.cell? ⟨gb451, 1, none⟩ = some (.slice A0_1 l0_1.length c0_1) ∧ w10.cell? ⟨gb451, 2, none⟩ = some (.slice A0_2 l0_2.length c0_2) := hS_
 obtain ⟨Ao11, co11, eo11⟩ := Kd.R_slice HO455.out
 (first | subst eo11 | (injection eo11 with f1_ f2_ f3_; have f4_ := f1_.symm; have f5_ := f3_.symm; clear f1_ f2_ f3_; subst f4_; subst f5_))
 refine norm_ (a' := ?_) ?_ ?_
 rotate_left
 ·
  simp only [putAll, Act.put, List.setIfInBounds_toArray, List.set_cons_zero, List.set_cons_succ]
  rfl
 refine one_ (i := 7) (N := none) #[y_, y_, y_, y_, y_, y_, y_, y_] rfl rfl (one_of HT_.out (by kernel_rfl)) (by decide) (fun K hK => ?_)
 have hs12 : w10.cell? ⟨gb456, 0, none⟩ = some (.int .i64 0) := (blk_cell BK456.out 0).trans rfl
 have hfs12 := blk_frozen BK456.out 0
 have hns12_0 := NB451_456.out
 have hns12_1 := NB452_456.out
 have hms12_0 := NB456_451.out
 have hms12_1 := NB456_452.out
 have hs13 : w10.cell? ⟨gb456, 1, none⟩ = some (.slice none 0 0) := (blk_cell BK456.out 1).trans rfl
 have hfs13 := blk_frozen BK456.out 1
 have hns13_0 := NB451_456.out
 have hns13_1 := NB452_456.out
 have hms13_0 := NB456_451.out
 have hms13_1 := NB456_452.out
 have hs14 : w10.cell? ⟨gb456, 2, none⟩ = some (.slice none 0 0) := (blk_cell BK456.out 2).trans rfl
 have hfs14 := blk_frozen BK456.out 2
 have hns14_0 := NB451_456.out
 have hns14_1 := NB452_456.out
 have hms14_0 := NB456_451.out
 have hms14_1 := NB456_452.out
 refine skip_ (w1 := ?_) (by rfl) rfl ?_ ?_
 rotate_left
 ·
  go_simp
  rfl
 refine hK.out _ _ ⟨((cell_far (p := ⟨gb456, _, none⟩) NB451_456.out _).trans (((cell_far (p := ⟨gb456, _, none⟩) NB451_456.out _).trans (((cell_far (p := ⟨gb456, _, none⟩) NB451_456.out _).trans (hHeld.1)))))), ((cell_far (p := ⟨gb456, _, none⟩) NB451_456.out _).trans (((cell_far (p := ⟨gb456, _, none⟩) NB451_456.out _).trans (((cell_far (p := ⟨gb456, _, none⟩) NB451_456.out _).trans (hHeld.2.1)))))), ((cell_far (p := ⟨gb456, _, none⟩) NB451_456.out _).trans (((cell_far (p := ⟨gb456, _, none⟩) NB451_456.out _).trans (((cell_far (p := ⟨gb456, _, none⟩) NB451_456.out _).trans (hHeld.2.2))))))⟩ (fun hHeld => ?_)
 clear hK K
 refine done_ (done_of HT_.out (by kernel_rfl)) ?_
 have hnb15 := NB451_452.out
 have hnc15 := NB452_451.out
 have hnb16 := NB451_456.out
 have hnc16 := NB456_451.out
 obtain ⟨hcz17_0, hfz17_0, hcz17_1, hfz17_1, hcz17_2, hfz17_2⟩ := cz3 BK451
 try go_wp2
 go_loopg [17] k (fun kq v17 w' => ∃ (x17_1 : Int) (x457001_1 : List Int) (u457001 : Value), v17 = .int .i64 x17_1 ∧ Aside0 (impl_Pile_moved.l0 kq a1 l0_1 (l0_1.length : Int) x17_1 a0_0 x457001_1 t453 = some (r1, r2, r3)) ∧ Aside0 (kq ≤ k) ∧ Aside0 (Kd.R (Kd.int .i64) 3 w' w.heap.size (fun k_ => some k_ ≠ ((.slice Ao11 t453.length co11) : Value).ownBlock) u457001 x457001_1) ∧ Aside0 (Kd.R (Kd.int .i64) 3 w' w.heap.size (fun k_ => some k_ ≠ (u457001 : Value).ownBlock) (.slice Ao11 t453.length co11) t453) ∧ Aside0 (w'.heap[gb451]? = some (.cells #[.int .i64 a0_0, (.slice A0_1 l0_1.length c0_1), (.slice A0_2 l0_2.length c0_2)] 27 (0, 0))) ∧ Aside0 (w'.heap[gb452]? = some (.cells #[.int .i64 0, (.slice none 0 0), (.slice none 0 0)] 27 (0, 0))) ∧ Aside0 (w'.heap[gb456]? = some (.cells #[.int .i64 a0_0, u457001, (.slice Ao11 t453.length co11)] 27 (0, 0))) ∧ Aside0 (Below w.heap.size w w'))
 case atStart => exact ⟨(0), (([] : List Int)), (.slice none 0 0), (by first | rfl | (simp; done) | (simp [wrap64]; done) | (simp [*]; done)), H', ⟨Nat.le_refl _⟩, ⟨by first | exact Kd.R_nil _ _ _ _ _ | exact Kd.N_nil _ _ _ _ _ | exact Kd.V_nil _ _ _ _ _ | exact Kd.Q_nil _ _ _ _ _ | exact Kd.S_nil _ _ _ _ _⟩, ⟨by (with_reducible repeat (first | apply Kd.R_alloc | apply Kd.R_drewN | apply Kd.R_drew)); exact Kd.R_mono (Kd.R_far (p := ⟨gb456, 2, none⟩) (Kd.R_far (p := ⟨gb456, 1, none⟩) (Kd.R_far (p := ⟨gb456, 0, none⟩) (Kd.R_types HO455.out BK456.out (by decide)) (fun _ hk => hk.2) (.int .i64 a0_0)) (fun _ hk => hk.2) (.slice none 0 0)) (fun _ hk => hk.2) (.slice Ao11 t453.length co11)) (fun _ hk => (by simp [Value.ownBlock]))⟩, ⟨by (with_reducible repeat (first | refine blk_drewN ?_ _ | refine blk_drew ?_ | refine blk_alloc ?_ _)); refine blk_far ?_ NB451_456.out _; (with_reducible repeat (first | refine blk_drewN ?_ _ | refine blk_drew ?_ | refine blk_alloc ?_ _)); refine blk_far ?_ NB451_456.out _; (with_reducible repeat (first | refine blk_drewN ?_ _ | refine blk_drew ?_ | refine blk_alloc ?_ _)); refine blk_far ?_ NB451_456.out _; (with_reducible repeat (first | refine blk_drewN ?_ _ | refine blk_drew ?_ | refine blk_alloc ?_ _)); exact BK451.out⟩, ⟨by (with_reducible repeat (first | refine blk_drewN ?_ _ | refine blk_drew ?_ | refine blk_alloc ?_ _)); refine blk_far ?_ NB452_456.out _; (with_reducible repeat (first | refine blk_drewN ?_ _ | refine blk_drew ?_ | refine blk_alloc ?_ _)); refine blk_far ?_ NB452_456.out _; (with_reducible repeat (first | refine blk_drewN ?_ _ | refine blk_drew ?_ | refine blk_alloc ?_ _)); refine blk_far ?_ NB452_456.out _; (with_reducible repeat (first | refine blk_drewN ?_ _ | refine blk_drew ?_ | refine blk_alloc ?_ _)); exact BK452.out⟩, ⟨by (with_reducible repeat (first | refine blk_drewN ?_ _ | refine blk_drew ?_ | refine blk_alloc ?_ _)); exact bp3 BK456.out⟩, ⟨tB HB.out⟩⟩
 case round =>
  clear H'
  (try clear hcz17_0); (try clear hcz17_1); (try clear hcz17_2); (try clear hfz17_0); (try clear hfz17_1); (try clear hfz17_2)
  obtain ⟨x17_1, x457001_1, u457001, rfl, HA, HK1, HO_457001, HO_457002, BK451, BK452, BK456, HB⟩ := hrel
  cases gk with
  | zero => exact absurd HA.out (by simp [impl_Pile_moved.l0])
  | succ k1 =>
   have H := HA.out
   clear HA
   simp only [impl_Pile_moved.l0] at H
   by_cases c18 : x17_1 < (l0_1.length : Int)
   ·
    rw [if_pos c18] at H
    have c18b0 : decide (x17_1 < (l0_1.length : Int)) = true := decide_eq_true c18
    clear c18
    by_cases c19 : 0 ≤ x17_1
    ·
     rw [if_pos c19] at H
     have c19b0 : decide (0 ≤ x17_1) = true := decide_eq_true c19
     clear c19
     by_cases c20 : x17_1 < (l0_1.length : Int)
     ·
      rw [if_pos c20] at H
      have c20b0 : decide (x17_1 < (l0_1.length : Int)) = true := decide_eq_true c20
      clear c20
      by_cases c21 : x457001_1.length < 17592186044416
      ·
       rw [if_pos c21] at H
       have LMc21 := Aside0.mk c21
       clear c21
       obtain ⟨y458, hy458⟩ : ∃ y_ : List Int, y_ = (x457001_1 ++ [wrap64 ((rd l0_1 x17_1) + a1)]) := ⟨_, rfl⟩
       replace H : (impl_Pile_moved.l0 k1 a1 l0_1 (l0_1.length : Int) (wrap64 (x17_1 + 1)) a0_0 y458 t453) = some (r1, r2, r3) := by first | (rw [hy458]; with_reducible exact H) | (have H2_ := (Option.bind_some _ _).symm.trans H; rw [hy458]; with_reducible exact H2_) | (have H2_ := (Option.bind_some _ _).symm.trans H; with_reducible exact H2_) | with_reducible exact H | (rw [hy458]; exact H) | exact H
       have Ny458 := Aside0.mk hy458
       clear hy458
       have H' := Aside0.mk H
       clear H
       have p457 : 0 ≤ (x17_1 : Int) := of_decide_eq_true (by first | (with_reducible assumption) | assumption)
       have q457 : x17_1 < (l0_1.length : Int) := of_decide_eq_true (by first | (with_reducible assumption) | assumption)
       obtain ⟨ad457, e457, hx457_0⟩ := Kd.at_int HR0_1.out x17_1 p457 q457
       cases e457
       replace hx457_0 := hC HB hx457_0
       replace p457 := eq_true p457
       replace q457 := eq_true q457
       have hnb22 := NB456_451.out
       have hnc22 := NB451_456.out
       have hnb23 := NB456_452.out
       have hnc23 := NB452_456.out
       obtain ⟨hcz24_0, hfz24_0, hcz24_1, hfz24_1, hcz24_2, hfz24_2⟩ := cz3 BK456
       go_wp2_with (first | ((with_reducible refine gate_builtin (b := .append) (xs := #[.tmp 22, .tmp 26]) rfl ?_); at_builtin; refine Kd.R_append (Kd.int .i64) (w0 := w) w.heap.size rfl (.tmp 22) (.tmp 26) 25 3 (.int .i64 0) 8 rfl Try.underlying25 info3 rfl (by decide) (by omega) u457001 x457001_1 (wrap64 ((rd l0_1 x17_1) + a1)) [.int .i64 (wrap64 ((rd l0_1 x17_1) + a1))] (fun k_ => some k_ ≠ (.slice Ao11 t453.length co11 : Value).ownBlock) (fun _ => False) rfl rfl ?aP (fun _ hk => hk.elim) ?aF ?aO ?aB ?aS ?aL ?_; (case aP => exact rfl); (case aB => exact (tB HB.out)); (case aF => exact (fun k_ hk => Kd.fresh' (Kd.R_lt (tR HO_457002.out)) k_ hk)); (case aO => exact (tR HO_457001.out)); (case aS => exact (below_size (tB HB.out))); (case aL => have := LMc21.out; omega); intro v459 w25 ho hb hg hat; rw [← Ny458.out] at ho; replace HO_457002 := Aside0.mk (Kd.R_after (ok := (fun _ => True)) (by (with_reducible repeat (first | apply Kd.R_alloc | apply Kd.R_drewN | apply Kd.R_drew)); exact Kd.R_mono HO_457002.out (fun _ hk => ⟨trivial, hk⟩)) hg hat); replace BK451 := Aside0.mk (blk_grown (g := gb451) (o := .cells #[.int .i64 a0_0, .slice (some ad457) l0_1.length c0_1, .slice A0_2 l0_2.length c0_2] 27 (0, 0)) (tK BK451.out) hg (Kd.R_ne HO_457001.out BK451.out (by decide))); replace BK452 := Aside0.mk (blk_grown (g := gb452) (o := .cells #[.int .i64 0, .slice none 0 0, .slice none 0 0] 27 (0, 0)) (tK BK452.out) hg (Kd.R_ne HO_457001.out BK452.out (by decide))); replace BK456 := Aside0.mk (blk_grown (g := gb456) (o := .cells #[.int .i64 a0_0, u457001, .slice Ao11 t453.length co11] 27 (0, 0)) (tK BK456.out) hg (Kd.R_ne HO_457001.out BK456.out (by decide))); replace HB := Aside0.mk (hb); have HO460 := Aside0.mk (ho); clear HO_457001; clear ho hb hg hat; obtain ⟨Ao26, co26, eo26⟩ := Kd.R_slice HO460.out; subst eo26; obtain ⟨hcz27_0, hfz27_0, hcz27_1, hfz27_1, hcz27_2, hfz27_2⟩ := cz3 BK456))
       go_roundg k1
       case measure => have := HK1.out; omega
       case rel => exact ⟨(wrap64 (x17_1 + 1)), (y458), (.slice Ao26 y458.length co26), (by first | rfl | (simp; done) | (simp [wrap64]; done) | (simp [*]; done)), H', ⟨by have := HK1.out; omega⟩, ⟨by (with_reducible repeat (first | apply Kd.R_alloc | apply Kd.R_drewN | apply Kd.R_drew)); exact Kd.R_mono (Kd.R_far (p := ⟨gb456, 1, none⟩) (Kd.R_types HO460.out BK456.out (by decide)) (fun _ hk => hk.2) (.slice Ao26 y458.length co26)) (fun _ hk => hk.1)⟩, ⟨by (with_reducible repeat (first | apply Kd.R_alloc | apply Kd.R_drewN | apply Kd.R_drew)); exact Kd.R_mono (Kd.R_far (p := ⟨gb456, 1, none⟩) (Kd.R_types HO_457002.out BK456.out (by decide)) (fun _ hk => hk.2) (.slice Ao26 y458.length co26)) (fun _ hk => hk.1.2)⟩, ⟨by (with_reducible repeat (first | refine blk_drewN ?_ _ | refine blk_drew ?_ | refine blk_alloc ?_ _)); refine blk_far ?_ NB451_456.out _; (with_reducible repeat (first | refine blk_drewN ?_ _ | refine blk_drew ?_ | refine blk_alloc ?_ _)); exact BK451.out⟩, ⟨by (with_reducible repeat (first | refine blk_drewN ?_ _ | refine blk_drew ?_ | refine blk_alloc ?_ _)); refine blk_far ?_ NB452_456.out _; (with_reducible repeat (first | refine blk_drewN ?_ _ | refine blk_drew ?_ | refine blk_alloc ?_ _)); exact BK452.out⟩, ⟨by (with_reducible repeat (first | refine blk_drewN ?_ _ | refine blk_drew ?_ | refine blk_alloc ?_ _)); refine blk_put (cs := #[.int .i64 a0_0, u457001, .slice Ao11 t453.length co11]) ?_ 1 _ rfl; (with_reducible repeat (first | refine blk_drewN ?_ _ | refine blk_drew ?_ | refine blk_alloc ?_ _)); exact BK456.out⟩, ⟨tB HB.out⟩⟩
      ·
       rw [if_neg c21] at H
       exact absurd H (by simp)
     ·
      rw [if_neg c20] at H
      exact absurd H (by simp)
    ·
     rw [if_neg c19] at H
     exact absurd H (by simp)
   ·
    rw [if_neg c18] at H
    have c18b0 : decide (x17_1 < (l0_1.length : Int)) = false := decide_eq_false c18
    clear c18
    simp only [Option.some.injEq, Prod.mk.injEq] at H
    obtain ⟨rfl, rfl, rfl⟩ := H
    have hnb28 := NB456_451.out
    have hnc28 := NB451_456.out
    have hnb29 := NB456_452.out
    have hnc29 := NB452_456.out
    obtain ⟨hcz30_0, hfz30_0, hcz30_1, hfz30_1, hcz30_2, hfz30_2⟩ := cz3 BK456
    have hnb31 := NB452_451.out
    have hnc31 := NB451_452.out
    obtain ⟨hcz32_0, hfz32_0, hcz32_1, hfz32_1, hcz32_2, hfz32_2⟩ := cz3 BK452
    obtain ⟨Ao33, co33, eo33⟩ := Kd.R_slice HO_457001.out
    subst eo33
    go_wp2
    refine bodyPost_ret (results_cell_row rfl _ _ gb452 27 #[.int .i64 a0_0, .slice Ao33 x457001_1.length co33, .slice Ao11 t453.length co11] (0, 0) _ rfl (by (with_reducible repeat (first | refine blk_drewN ?_ _ | refine blk_drew ?_ | refine blk_alloc ?_ _)); exact bp3 BK452.out) Try.underlying27 rfl (by kernel_rfl)) rfl ?_
    exact ⟨_, _, by first | rfl | (simp [errW_none, errW_some] <;> rfl) | (simp [*, errW_none, errW_some] <;> rfl), by (with_reducible repeat (first | apply Kd.R_alloc | apply Kd.R_drewN | apply Kd.R_drew)); exact rF3 HO_457001 BK452, by (with_reducible repeat (first | apply Kd.R_alloc | apply Kd.R_drewN | apply Kd.R_drew)); exact rF3 HO_457002 BK452, tB HB.out⟩
def impl_ShiftPile.j0 : Nat → Int → Bool → Int → List Int → List Int → Option (Int × List Int × List Int × Bool)
 | 0, _, _, _, _, _ => none
 | k + 1, x1, x13, x462000, x462001, x462002 => if x13 = true then (some (0, ([] : List Int), ([] : List Int), false)) else ((impl_Pile_moved.f k x462000 x462001 x462002 x1).bind fun bt465 => ((impl_validPile.f k bt465.1 bt465.2.1 bt465.2.2).bind fun bt472 => (some (bt472.1, bt472.2.1, bt472.2.2.1, bt472.2.2.2))))
def impl_ShiftPile.f (k : Nat) (a0_0 : Int) (l0_1 : List Int) (l0_2 : List Int) (a1 : Int) : Option (Int × List Int × List Int × Bool) := (impl_IsPile.f k a0_0 l0_1 l0_2).bind fun t463 => (if t463 = true then ((impl_isLeft.f a1).bind fun t464 => (impl_ShiftPile.j0 k a1 (!t464) a0_0 l0_1 l0_2)) else (impl_ShiftPile.j0 k a1 true a0_0 l0_1 l0_2))
set_option maxHeartbeats 8000000 in
set_option maxRecDepth 100000 in
theorem impl_ShiftPile.calls (k : Nat) (a0_0 : Int) (A0_1 : Option Addr) (c0_1 : Nat) (l0_1 : List Int) (A0_2 : Option Addr) (c0_2 : Nat) (l0_2 : List Int) (a1 : Int) (r1 : Int) (r2 : List Int) (r3 : List Int) (r4 : Bool) (w : World) (hr0_1 : Kd.C (Kd.int .i64) w A0_1 l0_1.length l0_1) (hc0_1 : l0_1.length ≤ c0_1) (hr0_2 : Kd.C (Kd.int .i64) w A0_2 l0_2.length l0_2) (hc0_2 : l0_2.length ≤ c0_2) (h : impl_ShiftPile.f k a0_0 l0_1 l0_2 a1 = some (r1, r2, r3, r4)) :
  Calls Try.prog 34 #[.agg #[.int .i64 a0_0, .slice A0_1 l0_1.length c0_1, .slice A0_2 l0_2.length c0_2], .int .i64 a1] w fun e w' => ∃ v1_ v2_ : Value, e = .returned (.tuple #[.agg #[.int .i64 r1, v1_, v2_], .bool r4]) ∧ Kd.R (Kd.int .i64) 3 w' w.heap.size (fun k_ => some k_ ≠ (v2_ : Value).ownBlock) v1_ r2 ∧ Kd.R (Kd.int .i64) 3 w' w.heap.size (fun k_ => some k_ ≠ (v1_ : Value).ownBlock) v2_ r3 ∧ Below w.heap.size w w' := by
 have hu27 := Try.underlying27
 have HR0_1 := Aside0.mk hr0_1
 have HC0_1 := Aside0.mk hc0_1
 clear hr0_1 hc0_1
 have HR0_2 := Aside0.mk hr0_2
 have HC0_2 := Aside0.mk hc0_2
 clear hr0_2 hc0_2
 have HB := Aside0.mk (Below.refl w.heap.size w)
 have H : ((impl_IsPile.f k a0_0 l0_1 l0_2).bind fun t463 => (if t463 = true then ((impl_isLeft.f a1).bind fun t464 => (impl_ShiftPile.j0 k a1 (!t464) a0_0 l0_1 l0_2)) else (impl_ShiftPile.j0 k a1 true a0_0 l0_1 l0_2))) = some (r1, r2, r3, r4) := h
 clear h
 have HC3 := Aside0.mk H
 clear H
 go_enter Try.func34, Try.ntmps34
 go_upto_region 1 with (first | ((with_reducible refine gate_dst (N := 2) rfl ?_); refine bE 2 #[.int .i64 a0_0, .slice A0_1 l0_1.length c0_1, .slice A0_2 l0_2.length c0_2] 27 ?_; intro gb461 hg w4 hbox hb; have BK461 := Aside0.mk hbox; have GW461 := sB HB hg; have GE461 := GW461; replace HB := hB HB hb; clear hb hbox hg) | ((with_reducible refine gate_dst (N := 4) rfl ?_); refine bE 4 #[.int .i64 0, .slice none 0 0, .slice none 0 0] 27 ?_; intro gb462 hg w5 hbox hb; have BK462 := Aside0.mk hbox; have GW462 := sB HB hg; have GE462 := GW462; replace HB := hB HB hb; have NB461_462 := lN BK461 hg; have NB462_461 := gN NB461_462; replace BK461 := bkB BK461 hb; clear hb hbox hg))
 (try simp only [Act.put, List.setIfInBounds_toArray, List.set_cons_zero, List.set_cons_succ])
 go_cut [13] (fun v13 wc => ∃ (kq : Nat) (x13_2 : Bool), v13 = .bool x13_2 ∧ Aside0 (impl_ShiftPile.j0 kq a1 x13_2 a0_0 l0_1 l0_2 = some (r1, r2, r3, r4)) ∧ Aside0 (kq ≤ k) ∧ Aside0 (wc.heap[gb461]? = some (.cells #[.int .i64 a0_0, (.slice A0_1 l0_1.length c0_1), (.slice A0_2 l0_2.length c0_2)] 27 (0, 0))) ∧ Aside0 (wc.heap[gb462]? = some (.cells #[.int .i64 0, (.slice none 0 0), (.slice none 0 0)] 27 (0, 0))) ∧ Aside0 (Below w.heap.size w wc))
 case first =>
  have H := HC3.out
  clear HC3
  replace H := Option.bind_eq_some_iff.mp H
  obtain ⟨t463, A60, H⟩ := H
  replace H : (if t463 = true then ((impl_isLeft.f a1).bind fun t464 => (impl_ShiftPile.j0 k a1 (!t464) a0_0 l0_1 l0_2)) else (impl_ShiftPile.j0 k a1 true a0_0 l0_1 l0_2)) = some (r1, r2, r3, r4) := H
  have A6 := Aside0.mk A60
  clear A60
  by_cases c7 : t463 = true
  ·
   subst c7
   have H1 : ((impl_isLeft.f a1).bind fun t464 => (impl_ShiftPile.j0 k a1 (!t464) a0_0 l0_1 l0_2)) = some (r1, r2, r3, r4) := by rw [if_pos rfl] at H; exact H
   clear H
   have H := H1
   clear H1
   replace H := Option.bind_eq_some_iff.mp H
   obtain ⟨t464, A80, H⟩ := H
   replace H : (impl_ShiftPile.j0 k a1 (!t464) a0_0 l0_1 l0_2) = some (r1, r2, r3, r4) := H
   have A8 := Aside0.mk A80
   clear A80
   have H' := Aside0.mk H
   clear H
   have hnb9 := NB461_462.out
   have hnc9 := NB462_461.out
   obtain ⟨hcz10_0, hfz10_0, hcz10_1, hfz10_1, hcz10_2, hfz10_2⟩ := cz3 BK461
   go_wp2_with (first | ((with_reducible refine gate_callee (f := 18) rfl ?_); refine goesL_ (some 7) rfl rfl Try.func18 (by kernel_rfl) rfl #[.agg #[.int .i64 a0_0, .slice A0_1 l0_1.length c0_1, .slice A0_2 l0_2.length c0_2]] rfl tM ?_; (with_reducible refine (impl_IsPile.calls k a0_0 _ _ l0_1 _ _ l0_2 true _ ?side1 ?side2 ?side3 ?side4 A6.out).mono ?_); (case side1 => exact cB HR0_1 HB); (case side2 => exact HC0_1.out); (case side3 => exact cB HR0_2 HB); (case side4 => exact HC0_2.out); rintro e w11 ⟨rfl, hb⟩; refine ⟨_, rfl, ?_⟩; replace BK461 := bkB BK461 hb; replace BK462 := bkB BK462 hb; replace HB := hB HB hb; (try clear hb)) | (go_at_call 68; (with_reducible refine (impl_isLeft.calls a1 t464 _ A8.out).mono ?_); rintro e w' ⟨rfl, ⟨nd, rfl⟩⟩))
   go_meet
   case rel => exact ⟨_, (!t464), (by first | rfl | (simp; done) | (simp [wrap64]; done) | (simp [*]; done)), H', ⟨by first | omega | exact Nat.le_refl _⟩, ⟨tK BK461.out⟩, ⟨tK BK462.out⟩, ⟨tB HB.out⟩⟩
  ·
   replace c7 := Bool.eq_false_iff.mpr c7
   subst c7
   have H1 : (impl_ShiftPile.j0 k a1 true a0_0 l0_1 l0_2) = some (r1, r2, r3, r4) := by rw [if_neg (show ¬ (false = true) by decide)] at H; exact H
   clear H
   have H := H1
   clear H1
   have H' := Aside0.mk H
   clear H
   have hnb12 := NB461_462.out
   have hnc12 := NB462_461.out
   obtain ⟨hcz13_0, hfz13_0, hcz13_1, hfz13_1, hcz13_2, hfz13_2⟩ := cz3 BK461
   go_wp2_with (first | ((with_reducible refine gate_callee (f := 18) rfl ?_); refine goesL_ (some 7) rfl rfl Try.func18 (by kernel_rfl) rfl #[.agg #[.int .i64 a0_0, .slice A0_1 l0_1.length c0_1, .slice A0_2 l0_2.length c0_2]] rfl tM ?_; (with_reducible refine (impl_IsPile.calls k a0_0 _ _ l0_1 _ _ l0_2 false _ ?side1 ?side2 ?side3 ?side4 A6.out).mono ?_); (case side1 => exact cB HR0_1 HB); (case side2 => exact HC0_1.out); (case side3 => exact cB HR0_2 HB); (case side4 => exact HC0_2.out); rintro e w14 ⟨rfl, hb⟩; refine ⟨_, rfl, ?_⟩; replace BK461 := bkB BK461 hb; replace BK462 := bkB BK462 hb; replace HB := hB HB hb; (try clear hb)))
   go_meet
   case rel => exact ⟨_, (true), (by first | rfl | (simp; done) | (simp [wrap64]; done) | (simp [*]; done)), H', ⟨by first | omega | exact Nat.le_refl _⟩, ⟨tK BK461.out⟩, ⟨tK BK462.out⟩, ⟨tB HB.out⟩⟩
 case rest =>
  clear HC3
  obtain ⟨kq, x13_2, rfl, HA, HJ2, BK461, BK462, HB⟩ := hcut
  cases kq with
  | zero => exact absurd HA.out (by simp [impl_ShiftPile.j0])
  | succ kj2 =>
   have H := HA.out
   clear HA
   simp only [impl_ShiftPile.j0] at H
   by_cases c15 : x13_2 = true
   ·
    subst c15
    have H1 : (some (0, ([] : List Int), ([] : List Int), false)) = some (r1, r2, r3, r4) := by rw [if_pos rfl] at H; exact H
    clear H
    have H := H1
    clear H1
    simp only [Option.some.injEq, Prod.mk.injEq] at H
    obtain ⟨rfl, rfl, rfl, rfl⟩ := H
    have hnb16 := NB462_461.out
    have hnc16 := NB461_462.out
    obtain ⟨hcz17_0, hfz17_0, hcz17_1, hfz17_1, hcz17_2, hfz17_2⟩ := cz3 BK462
    go_wp2
    refine bodyPost_ret (results_ct rfl _ _ gb462 27 #[.int .i64 0, .slice none 0 0, .slice none 0 0] (0, 0) _ rfl (by (with_reducible repeat (first | refine blk_drewN ?_ _ | refine blk_drew ?_ | refine blk_alloc ?_ _)); exact bp3 BK462.out) Try.underlying27 rfl (by kernel_rfl)) rfl ?_
    exact ⟨_, _, by first | rfl | (simp [errW_none, errW_some] <;> rfl) | (simp [*, errW_none, errW_some] <;> rfl), by first | exact Kd.R_nil _ _ _ _ _ | exact Kd.N_nil _ _ _ _ _ | exact Kd.V_nil _ _ _ _ _ | exact Kd.Q_nil _ _ _ _ _ | exact Kd.S_nil _ _ _ _ _, by first | exact Kd.R_nil _ _ _ _ _ | exact Kd.N_nil _ _ _ _ _ | exact Kd.V_nil _ _ _ _ _ | exact Kd.Q_nil _ _ _ _ _ | exact Kd.S_nil _ _ _ _ _, tB HB.out⟩
   ·
    replace c15 := Bool.eq_false_iff.mpr c15
    subst c15
    have H1 : ((impl_Pile_moved.f kj2 a0_0 l0_1 l0_2 a1).bind fun bt465 => ((impl_validPile.f kj2 bt465.1 bt465.2.1 bt465.2.2).bind fun bt472 => (some (bt472.1, bt472.2.1, bt472.2.2.1, bt472.2.2.2)))) = some (r1, r2, r3, r4) := by rw [if_neg (show ¬ (false = true) by decide)] at H; exact H
    clear H
    have H := H1
    clear H1
    replace H := Option.bind_eq_some_iff.mp H
    obtain ⟨⟨t465, t466, t469⟩, A180, H⟩ := H
    replace H : ((impl_validPile.f kj2 t465 t466 t469).bind fun bt472 => (some (bt472.1, bt472.2.1, bt472.2.2.1, bt472.2.2.2))) = some (r1, r2, r3, r4) := H
    have A18 := Aside0.mk A180
    clear A180
    replace H := Option.bind_eq_some_iff.mp H
    obtain ⟨⟨t472, t473, t476, t479⟩, A190, H⟩ := H
    replace H : (some (t472, t473, t476, t479)) = some (r1, r2, r3, r4) := H
    have A19 := Aside0.mk A190
    clear A190
    simp only [Option.some.injEq, Prod.mk.injEq] at H
    obtain ⟨rfl, rfl, rfl, rfl⟩ := H
    have hnb20 := NB461_462.out
    have hnc20 := NB462_461.out
    obtain ⟨hcz21_0, hfz21_0, hcz21_1, hfz21_1, hcz21_2, hfz21_2⟩ := cz3 BK461
    go_wp2_with (first | ((with_reducible refine gate_callee (f := 59) rfl ?_); refine goesL_ (some 17) rfl rfl Try.func59 (by kernel_rfl) rfl #[.agg #[.int .i64 a0_0, .slice A0_1 l0_1.length c0_1, .slice A0_2 l0_2.length c0_2], .int .i64 a1] rfl tM ?_; (with_reducible refine (impl_Pile_moved.calls kj2 a0_0 _ _ l0_1 _ _ l0_2 a1 t465 t466 t469 _ ?side1 ?side2 ?side3 ?side4 A18.out).mono ?_); (case side1 => exact cB HR0_1 HB); (case side2 => exact HC0_1.out); (case side3 => exact cB HR0_2 HB); (case side4 => exact HC0_2.out); rintro e w22 ⟨v467, v470, rfl, ho0, ho1, hb⟩; refine ⟨_, rfl, ?_⟩; have HO468 := Aside0.mk (Kd.R_lower ho0 (below_size (tB HB.out))); have HO471 := Aside0.mk (Kd.R_lower ho1 (below_size (tB HB.out))); replace BK461 := bkB BK461 hb; replace BK462 := bkB BK462 hb; replace HB := hB HB hb; (try clear hb); (try clear ho0); (try clear ho1); obtain ⟨Ao23, co23, eo23⟩ := Kd.R_slice HO468.out; subst eo23; obtain ⟨Ao24, co24, eo24⟩ := Kd.R_slice HO471.out; subst eo24) | ((with_reducible refine gate_callee (f := 72) rfl ?_); refine goesL_ (some 18) rfl rfl Try.func72 (by kernel_rfl) rfl #[.agg #[.int .i64 t465, .slice Ao23 t466.length co23, .slice Ao24 t469.length co24]] rfl tM ?_; (with_reducible refine (impl_validPile.calls kj2 t465 (fun k_ => some k_ = (.slice Ao23 t466.length co23 : Value).ownBlock) (.slice Ao23 t466.length co23) t466 (fun k_ => some k_ = (.slice Ao24 t469.length co24 : Value).ownBlock) (.slice Ao24 t469.length co24) t469 t472 t473 t476 t479 w _ ?side1 ?side2 ?side3 ?side4 ?side5 A19.out).mono ?_); (case side1 => repeat (first | (with_reducible first | exact HB.out | apply below_alloc | apply pw_below_drewN | apply below_drew1 | refine below_set ?_ GE461.out | refine below_set ?_ GE462.out) | exact HB.out)); (case side2 => exact Kd.R_tight rfl HO468.out); (case side3 => exact fun k_ e_ => (HO468.out.1 k_ e_.symm)); (case side4 => exact Kd.R_tight rfl HO471.out); (case side5 => exact fun k_ e_ => (HO471.out.1 k_ e_.symm)); rintro e w25 ⟨v474, v477, rfl, ho0, ho1, hb, hkp⟩; refine ⟨_, rfl, ?_⟩; replace BK461 := Aside0.mk (blk_kept (tK BK461.out) hkp (fun hs_ => Or.elim hs_ (fun e_ => (fun e_ => (Kd.R_ne HO468.out BK461.out (by decide)) e_) e_) (fun e_ => (fun e_ => (Kd.R_ne HO471.out BK461.out (by decide)) e_) e_))); replace BK462 := Aside0.mk (blk_kept (tK BK462.out) hkp (fun hs_ => Or.elim hs_ (fun e_ => (fun e_ => (Kd.R_ne HO468.out BK462.out (by decide)) e_) e_) (fun e_ => (fun e_ => (Kd.R_ne HO471.out BK462.out (by decide)) e_) e_))); have HO475 := Aside0.mk (Kd.R_mono (ok' := fun k_ => some k_ ≠ (v477 : Value).ownBlock) ho0 (fun k_ hk_ => hk_.2)); have HO478 := Aside0.mk (Kd.R_mono (ok' := fun k_ => some k_ ≠ (v474 : Value).ownBlock) ho1 (fun k_ hk_ => hk_.2)); replace HB := Aside0.mk (hb); clear HO468; clear HO471; (try clear hb); (try clear hkp); (try clear ho0); (try clear ho1); obtain ⟨hcz26_0, hfz26_0, hcz26_1, hfz26_1, hcz26_2, hfz26_2⟩ := cz3 BK462; obtain ⟨Ao27, co27, eo27⟩ := Kd.R_slice HO475.out; subst eo27; obtain ⟨Ao28, co28, eo28⟩ := Kd.R_slice HO478.out; subst eo28))
    refine bodyPost_ret (results_ct rfl _ _ gb462 27 #[.int .i64 t472, .slice Ao27 t473.length co27, .slice Ao28 t476.length co28] (0, 0) _ rfl (by (with_reducible repeat (first | refine blk_drewN ?_ _ | refine blk_drew ?_ | refine blk_alloc ?_ _)); exact bp3 BK462.out) Try.underlying27 rfl (by kernel_rfl)) rfl ?_
    exact ⟨_, _, by first | rfl | (simp [errW_none, errW_some] <;> rfl) | (simp [*, errW_none, errW_some] <;> rfl), by (with_reducible repeat (first | apply Kd.R_alloc | apply Kd.R_drewN | apply Kd.R_drew)); exact rF3 HO475 BK462, by (with_reducible repeat (first | apply Kd.R_alloc | apply Kd.R_drewN | apply Kd.R_drew)); exact rF3 HO478 BK462, tB HB.out⟩
end Go.Proofs.Ytnnpfekgapikfaa.PFnPiles

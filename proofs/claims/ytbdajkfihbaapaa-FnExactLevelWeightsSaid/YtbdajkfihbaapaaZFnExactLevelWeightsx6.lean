/- Printed by the program print2.py over the translation: each function as a Lean function, and the proof that the call comes to its answer. -/
import Derived.Test.YtbdajkfihbaapaaZFnExactLevelWeightsx0
import Derived.Test.YtbdajkfihbaapaaZFnExactLevelWeightsx3
import Derived.Test.YtbdajkfihbaapaaZFnExactLevelWeightsx4
import Derived.Test.YtbdajkfihbaapaaZFnExactLevelWeightsx5
namespace Go.Proofs.Ytbdajkfihbaapaa.PFnExactLevelWeights
open Go.RowKit Go.Proofs.YtbdajkfihbaapaaW.PrintWords Go.Proofs.YtbdajkfihbaapaaW.PrintLast Go.Proofs.YtbdajkfihbaapaaW.PrintMore
attribute [local go_sem] max2_int min2_int max_two min_two max_three min_three max_four min_four   -- for this text's walks alone
set_option linter.unusedVariables false
set_option linter.unusedSimpArgs false

/-! ### spec_l1Least: function 88 -/
def spec_l1Least.f (a0 : Int) (a1 : Int) : Option (Int) := if a0 < a1 then (some a0) else (some a1)
set_option maxHeartbeats 8000000 in
set_option maxRecDepth 100000 in
theorem spec_l1Least.calls (a0 : Int) (a1 : Int) (r : Int) (w : World) (h : spec_l1Least.f a0 a1 = some r) :
  Calls Try.prog 88 #[.int .i64 a0, .int .i64 a1] w fun e w' => e = .returned (.int .i64 r) ∧ Drawn0 w w' := by
 have H : (if a0 < a1 then (some a0) else (some a1)) = some r := h
 clear h
 by_cases c3 : a0 < a1
 ·
  rw [if_pos c3] at H
  have c3b0 : decide (a0 < a1) = true := decide_eq_true c3
  clear c3
  obtain rfl := Option.some.inj H
  go_enter Try.func88, Try.ntmps88
  go_wp2
  go_ret
  exact ⟨by first | rfl | (simp; done) | (simp [wrap64]; done) | (simp [*]; done), by repeat (first | exact Drawn0.refl _ | apply Drawn0.step)⟩
 ·
  rw [if_neg c3] at H
  have c3b0 : decide (a0 < a1) = false := decide_eq_false c3
  clear c3
  obtain rfl := Option.some.inj H
  go_enter Try.func88, Try.ntmps88
  go_wp2
  go_ret
  exact ⟨by first | rfl | (simp; done) | (simp [wrap64]; done) | (simp [*]; done), by repeat (first | exact Drawn0.refl _ | apply Drawn0.step)⟩

/-! ### spec_LevelWeights: function 49 -/
mutual
def spec_LevelWeights.l0 : Nat → List (S77) → Int → Int → Option (List Int × Bool)
 | 0, _, _, _ => none
 | k + 1, x4, x5, x6 => if x6 < (x4.length : Int) then (if 0 ≤ x6 then ((spec_l2Gcd.f k x5 ((rd_T77 x4 x6).f1)).bind fun t214 => (if t214 = 0 then (none) else (spec_LevelWeights.l0 k x4 (wrap64 ((wrap64 (Int.tdiv x5 t214)) * ((rd_T77 x4 x6).f1))) (wrap64 (x6 + 1))))) else (none)) else (spec_LevelWeights.l1 k x4 x5 (([] : List Int)) 0 0)
def spec_LevelWeights.l1 : Nat → List (S77) → Int → List Int → Int → Int → Option (List Int × Bool)
 | 0, _, _, _, _, _ => none
 | k + 1, x4, x5, x7, x8, x9 => if x9 < (x4.length : Int) then (if 0 ≤ x9 then (if ((rd_T77 x4 x9).f1) = 0 then (none) else (if x7.length < 17592186044416 then ((some (x7 ++ [wrap64 ((wrap64 (Int.tdiv x5 ((rd_T77 x4 x9).f1))) * ((rd_T77 x4 x9).f0))] : List Int)).bind fun y221 => (if x9 < (y221.length : Int) then ((spec_l1Most.f x8 (rd y221 x9)).bind fun t225 => ((spec_l1Least.f x8 (rd y221 x9)).bind fun t227 => ((spec_l2Gcd.f k t225 t227).bind fun t228 => (spec_LevelWeights.l1 k x4 x5 y221 t228 (wrap64 (x9 + 1)))))) else (none))) else (none))) else (none)) else (spec_LevelWeights.l2 k x7 x8 0)
def spec_LevelWeights.l2 : Nat → List Int → Int → Int → Option (List Int × Bool)
 | 0, _, _, _ => none
 | k + 1, x7, x8, x10 => if x10 < (x7.length : Int) then (if 0 ≤ x10 then (if x8 = 0 then (none) else ((some (x7.set (x10 : Int).toNat (wrap64 (Int.tdiv (rd x7 x10) x8)) : List Int)).bind fun y230 => (if (rd y230 x10) > 99 then (some ((([] : List Int)), false)) else (spec_LevelWeights.l2 k y230 x8 (wrap64 (x10 + 1)))))) else (none)) else (some (x7, true))
end
def spec_LevelWeights.f (k : Nat) (l0_0 : List (S58)) (l0_1 : List (S58)) : Option (List Int × Bool) := (spec_l5Good.f k l0_0 l0_1).bind fun t206 => (if t206 = true then ((spec_l5Shares.f k l0_0 l0_1).bind fun t210 => (spec_LevelWeights.l0 k t210 1 0)) else (some ((([] : List Int)), false)))
theorem spec_LevelWeights.mono_l : ∀ k, (∀ y0 y1 y2, LeO (spec_LevelWeights.l0 k y0 y1 y2) (spec_LevelWeights.l0 (k + 1) y0 y1 y2)) ∧ (∀ y0 y1 y2 y3 y4, LeO (spec_LevelWeights.l1 k y0 y1 y2 y3 y4) (spec_LevelWeights.l1 (k + 1) y0 y1 y2 y3 y4)) ∧ (∀ y0 y1 y2, LeO (spec_LevelWeights.l2 k y0 y1 y2) (spec_LevelWeights.l2 (k + 1) y0 y1 y2))
 | 0 => ⟨fun _ _ _ r h => by simp [spec_LevelWeights.l0] at h, fun _ _ _ _ _ r h => by simp [spec_LevelWeights.l1] at h, fun _ _ _ r h => by simp [spec_LevelWeights.l2] at h⟩
 | k + 1 => by
  obtain ⟨ih0, ih1, ih2⟩ := spec_LevelWeights.mono_l k
  refine ⟨?_, ?_, ?_⟩
  ·
   intro y0 y1 y2
   unfold spec_LevelWeights.l0
   repeat' first
   | (with_reducible exact ih0 _ _ _)
   | (with_reducible exact ih1 _ _ _ _ _)
   | (with_reducible exact ih2 _ _ _)
   | (with_reducible exact spec_l2Gcd.mono _ _ _)
   | (with_reducible exact spec_l5Good.mono _ _ _)
   | (with_reducible exact spec_l5Shares.mono _ _ _)
   | (with_reducible exact LeO.refl _)
   | (with_reducible exact LeO.none _)
   | (with_reducible refine LeO.ite ?_ ?_)
   | (with_reducible refine LeO.bind ?_ (fun _ => ?_))
   | exact ih0 _ _ _
   | exact ih1 _ _ _ _ _
   | exact ih2 _ _ _
   | exact spec_l2Gcd.mono _ _ _
   | exact spec_l5Good.mono _ _ _
   | exact spec_l5Shares.mono _ _ _
   | exact LeO.none _
   | refine LeO.ite ?_ ?_
   | refine LeO.bind ?_ (fun _ => ?_)
  ·
   intro y0 y1 y2 y3 y4
   unfold spec_LevelWeights.l1
   repeat' first
   | (with_reducible exact ih0 _ _ _)
   | (with_reducible exact ih1 _ _ _ _ _)
   | (with_reducible exact ih2 _ _ _)
   | (with_reducible exact spec_l2Gcd.mono _ _ _)
   | (with_reducible exact spec_l5Good.mono _ _ _)
   | (with_reducible exact spec_l5Shares.mono _ _ _)
   | (with_reducible exact LeO.refl _)
   | (with_reducible exact LeO.none _)
   | (with_reducible refine LeO.ite ?_ ?_)
   | (with_reducible refine LeO.bind ?_ (fun _ => ?_))
   | exact ih0 _ _ _
   | exact ih1 _ _ _ _ _
   | exact ih2 _ _ _
   | exact spec_l2Gcd.mono _ _ _
   | exact spec_l5Good.mono _ _ _
   | exact spec_l5Shares.mono _ _ _
   | exact LeO.none _
   | refine LeO.ite ?_ ?_
   | refine LeO.bind ?_ (fun _ => ?_)
  ·
   intro y0 y1 y2
   unfold spec_LevelWeights.l2
   repeat' first
   | (with_reducible exact ih0 _ _ _)
   | (with_reducible exact ih1 _ _ _ _ _)
   | (with_reducible exact ih2 _ _ _)
   | (with_reducible exact spec_l2Gcd.mono _ _ _)
   | (with_reducible exact spec_l5Good.mono _ _ _)
   | (with_reducible exact spec_l5Shares.mono _ _ _)
   | (with_reducible exact LeO.refl _)
   | (with_reducible exact LeO.none _)
   | (with_reducible refine LeO.ite ?_ ?_)
   | (with_reducible refine LeO.bind ?_ (fun _ => ?_))
   | exact ih0 _ _ _
   | exact ih1 _ _ _ _ _
   | exact ih2 _ _ _
   | exact spec_l2Gcd.mono _ _ _
   | exact spec_l5Good.mono _ _ _
   | exact spec_l5Shares.mono _ _ _
   | exact LeO.none _
   | refine LeO.ite ?_ ?_
   | refine LeO.bind ?_ (fun _ => ?_)
theorem spec_LevelWeights.mono : ∀ a0 a1 k, LeO (spec_LevelWeights.f k a0 a1) (spec_LevelWeights.f (k + 1) a0 a1) := by
 intro a0 a1 k
 obtain ⟨ih0, ih1, ih2⟩ := spec_LevelWeights.mono_l k
 unfold spec_LevelWeights.f
 repeat' first
   | (with_reducible exact ih0 _ _ _)
   | (with_reducible exact ih1 _ _ _ _ _)
   | (with_reducible exact ih2 _ _ _)
   | (with_reducible exact spec_l2Gcd.mono _ _ _)
   | (with_reducible exact spec_l5Good.mono _ _ _)
   | (with_reducible exact spec_l5Shares.mono _ _ _)
   | (with_reducible exact LeO.refl _)
   | (with_reducible exact LeO.none _)
   | (with_reducible refine LeO.ite ?_ ?_)
   | (with_reducible refine LeO.bind ?_ (fun _ => ?_))
   | exact ih0 _ _ _
   | exact ih1 _ _ _ _ _
   | exact ih2 _ _ _
   | exact spec_l2Gcd.mono _ _ _
   | exact spec_l5Good.mono _ _ _
   | exact spec_l5Shares.mono _ _ _
   | exact LeO.none _
   | refine LeO.ite ?_ ?_
   | refine LeO.bind ?_ (fun _ => ?_)
def spec_LevelWeights.T8 : Bool × List (List Nat × List Nat) := (true, [([], []), ([], []), ([], []), ([], []), ([2, 3], [2, 3]), ([4], [4]), ([5], [5]), ([1, 6], [1, 6]), ([0, 7], [0, 7]), ([], []), ([], []), ([9, 10], [9, 10]), ([11], [11]), ([12], [12]), ([8, 13], [8, 13]), ([14, 7, 0, 1, 2, 3, 4, 5, 6, 7, 8, 9, 10, 11, 12, 13, 14], [0, 1, 14])])
def spec_LevelWeights.B8 : List Nat := [0, 0, 0, 0, 12, 28, 60, 126, 255, 0, 0, 1536, 3584, 7680, 16383, 32767]
theorem spec_LevelWeights.tab8 : rtab .any (opsOf Try.f49 8) = spec_LevelWeights.T8 := by kernel_rfl
theorem spec_LevelWeights.bits8 : waitsOk spec_LevelWeights.T8.2 spec_LevelWeights.B8 = true := by kernel_rfl
def spec_LevelWeights.T13 : Bool × List (List Nat × List Nat) := (true, [([], []), ([], []), ([], []), ([], []), ([2, 3], [2, 3]), ([4], [4]), ([5], [5]), ([1, 6], [1, 6]), ([], []), ([], []), ([8, 9], [8, 9]), ([10], [10]), ([11], [11]), ([7, 12], [7, 12]), ([13], [13]), ([0, 14], [0, 14]), ([15, 15, 0, 1, 2, 3, 4, 5, 6, 7, 8, 9, 10, 11, 12, 13, 14, 15], [0, 15])])
def spec_LevelWeights.B13 : List Nat := [0, 0, 0, 0, 12, 28, 60, 126, 0, 0, 768, 1792, 3840, 8190, 16382, 32767, 65535]
theorem spec_LevelWeights.tab13 : rtab .any (opsOf Try.f49 13) = spec_LevelWeights.T13 := by kernel_rfl
theorem spec_LevelWeights.bits13 : waitsOk spec_LevelWeights.T13.2 spec_LevelWeights.B13 = true := by kernel_rfl
def spec_LevelWeights.T14 : Bool × List (List Nat × List Nat) := (true, [([], []), ([], []), ([], []), ([1, 2], [1, 2]), ([3], [3]), ([0, 4], [0, 4]), ([], []), ([], []), ([], []), ([7, 8], [7, 8]), ([9], [9]), ([6, 10, 5], [6, 10]), ([5, 11, 11], [5, 11]), ([12, 12, 0, 1, 2, 3, 4, 5, 6, 7, 8, 9, 10, 11, 12], [0, 6, 12])])
def spec_LevelWeights.B14 : List Nat := [0, 0, 0, 6, 14, 31, 0, 0, 0, 384, 896, 2047, 4095, 8191]
theorem spec_LevelWeights.tab14 : rtab .any (opsOf Try.f49 14) = spec_LevelWeights.T14 := by kernel_rfl
theorem spec_LevelWeights.bits14 : waitsOk spec_LevelWeights.T14.2 spec_LevelWeights.B14 = true := by kernel_rfl
set_option maxHeartbeats 8000000 in
set_option maxRecDepth 100000 in
theorem spec_LevelWeights.calls (k : Nat) (A0_0 : Option Addr) (c0_0 : Nat) (l0_0 : List (S58)) (A0_1 : Option Addr) (c0_1 : Nat) (l0_1 : List (S58)) (r1 : List Int) (r2 : Bool) (w : World) (hr0_0 : Kd.C k58 w A0_0 l0_0.length l0_0) (hc0_0 : l0_0.length ≤ c0_0) (hr0_1 : Kd.C k58 w A0_1 l0_1.length l0_1) (hc0_1 : l0_1.length ≤ c0_1) (h : spec_LevelWeights.f k l0_0 l0_1 = some (r1, r2)) :
  Calls Try.prog 49 #[.agg #[.slice A0_0 l0_0.length c0_0, .slice A0_1 l0_1.length c0_1]] w fun e w' => ∃ v0_ : Value, e = .returned (.tuple #[v0_, .bool r2]) ∧ Kd.R (Kd.int .i64) 3 w' w.heap.size (fun _ => True) v0_ r1 ∧ Below w.heap.size w w' := by
 have hu27 := Try.underlying27
 have HR0_0 := Aside0.mk hr0_0
 have HC0_0 := Aside0.mk hc0_0
 clear hr0_0 hc0_0
 have HR0_1 := Aside0.mk hr0_1
 have HC0_1 := Aside0.mk hc0_1
 clear hr0_1 hc0_1
 have HB := Aside0.mk (Below.refl w.heap.size w)
 have H : ((spec_l5Good.f k l0_0 l0_1).bind fun t206 => (if t206 = true then ((spec_l5Shares.f k l0_0 l0_1).bind fun t210 => (spec_LevelWeights.l0 k t210 1 0)) else (some ((([] : List Int)), false)))) = some (r1, r2) := h
 clear h
 replace H := Option.bind_eq_some_iff.mp H
 obtain ⟨t206, A20, H⟩ := H
 replace H : (if t206 = true then ((spec_l5Shares.f k l0_0 l0_1).bind fun t210 => (spec_LevelWeights.l0 k t210 1 0)) else (some ((([] : List Int)), false))) = some (r1, r2) := H
 have A2 := Aside0.mk A20
 clear A20
 by_cases c3 : t206 = true
 ·
  subst c3
  have H1 : ((spec_l5Shares.f k l0_0 l0_1).bind fun t210 => (spec_LevelWeights.l0 k t210 1 0)) = some (r1, r2) := by rw [if_pos rfl] at H; exact H
  clear H
  have H := H1
  clear H1
  replace H := Option.bind_eq_some_iff.mp H
  obtain ⟨t210, A40, H⟩ := H
  replace H : (spec_LevelWeights.l0 k t210 1 0) = some (r1, r2) := H
  have A4 := Aside0.mk A40
  clear A40
  have H' := Aside0.mk H
  clear H
  go_enter Try.func49, Try.ntmps49
  go_wp2_with (first | ((with_reducible refine gate_dst (N := 1) rfl ?_); refine box_event ?hg (N := 1) ?hd (cs := #[.slice A0_0 l0_0.length c0_0, .slice A0_1 l0_1.length c0_1]) (t := 27) ?hr ?_; (case hd => rfl); (case hg => rfl); (case hr => first | (go_simp; done) | (go_simp; rfl)); intro gb205 hg w5 hbox hb; have BK205 := Aside0.mk (hbox); have GW205 := Aside0.mk (bS HB.out hg); have GE205 := Aside0.mk (bS HB.out hg); replace HB := Aside0.mk (below_step (tB HB.out) hb); clear hb hbox hg; obtain ⟨hcz6_0, hfz6_0, hcz6_1, hfz6_1⟩ := cz2 BK205) | ((with_reducible refine gate_callee (f := 52) rfl ?_); refine goesL_ (some 12) rfl rfl Try.func52 (by kernel_rfl) rfl #[.agg #[.slice A0_0 l0_0.length c0_0, .slice A0_1 l0_1.length c0_1]] rfl tM ?_; (with_reducible refine (spec_l5Good.calls k _ _ l0_0 _ _ l0_1 true _ ?side1 ?side2 ?side3 ?side4 A2.out).mono ?_); (case side1 => exact tC (Kd.C_below HR0_0.out HB.out)); (case side2 => exact HC0_0.out); (case side3 => exact tC (Kd.C_below HR0_1.out HB.out)); (case side4 => exact HC0_1.out); rintro e w7 ⟨rfl, hb⟩; refine ⟨_, rfl, ?_⟩; replace BK205 := bkB BK205 hb; replace HB := Aside0.mk (below_step (tB HB.out) hb); (try clear hb); (try clear hb2); (try clear hk); (try clear hi); obtain ⟨hcz8_0, hfz8_0, hcz8_1, hfz8_1⟩ := cz2 BK205) | ((with_reducible refine gate_callee (f := 85) rfl ?_); refine goesL_ (some 16) rfl rfl Try.func85 (by kernel_rfl) rfl #[.agg #[.slice A0_0 l0_0.length c0_0, .slice A0_1 l0_1.length c0_1]] rfl tM ?_; (with_reducible refine (spec_l5Shares.calls k _ _ l0_0 _ _ l0_1 t210 _ ?side1 ?side2 ?side3 ?side4 A4.out).mono ?_); (case side1 => exact tC (Kd.C_below HR0_0.out HB.out)); (case side2 => exact HC0_0.out); (case side3 => exact tC (Kd.C_below HR0_1.out HB.out)); (case side4 => exact HC0_1.out); rintro e w9 ⟨v211, rfl, ho0, hb⟩; refine ⟨_, rfl, ?_⟩; have HO212 := Aside0.mk (Kd.R_lower ho0 (below_size (tB HB.out))); replace BK205 := bkB BK205 hb; replace HB := Aside0.mk (below_step (tB HB.out) hb); (try clear hb); (try clear hb2); (try clear hk); (try clear hi); (try clear ho0)))
  go_loopg [5, 6] k (fun kq v5 v6 w' => ∃ (x5_1 : Int) (x6_1 : Int), v5 = .int .i64 x5_1 ∧ v6 = .int .i64 x6_1 ∧ Aside0 (spec_LevelWeights.l0 kq t210 x5_1 x6_1 = some (r1, r2)) ∧ Aside0 (kq ≤ k) ∧ Aside0 (Kd.R k77 77 w' w.heap.size (fun _ => True) v211 t210) ∧ Aside0 (w'.heap[gb205]? = some (.cells #[(.slice A0_0 l0_0.length c0_0), (.slice A0_1 l0_1.length c0_1)] 27 (0, 0))) ∧ Aside0 (Below w.heap.size w w'))
  case atStart => exact ⟨(1), (0), (by first | rfl | (simp; done) | (simp [wrap64]; done) | (simp [*]; done)), (by first | rfl | (simp; done) | (simp [wrap64]; done) | (simp [*]; done)), H', ⟨Nat.le_refl _⟩, ⟨tR HO212.out⟩, ⟨tK BK205.out⟩, ⟨tB HB.out⟩⟩
  case round =>
   clear H'
   try clear p2
   try clear c3
   try clear c4
   try clear c5
   try clear p6
   try clear c8
   try clear hcz6_0
   try clear hcz6_1
   try clear hcz8_0
   try clear hcz8_1
   try clear hfz6_0
   try clear hfz6_1
   try clear hfz8_0
   try clear hfz8_1
   obtain ⟨x5_1, x6_1, rfl, rfl, HA, HK1, HO_4, BK205, HB⟩ := hrel
   cases gk with
   | zero => exact absurd HA.out (by simp [spec_LevelWeights.l0])
   | succ k1 =>
    have H := HA.out
    clear HA
    simp only [spec_LevelWeights.l0] at H
    by_cases c10 : x6_1 < (t210.length : Int)
    ·
     rw [if_pos c10] at H
     have c10b0 : decide (x6_1 < (t210.length : Int)) = true := decide_eq_true c10
     clear c10
     by_cases c11 : 0 ≤ x6_1
     ·
      rw [if_pos c11] at H
      have c11b0 : decide (0 ≤ x6_1) = true := decide_eq_true c11
      clear c11
      replace H := Option.bind_eq_some_iff.mp H
      obtain ⟨t214, A120, H⟩ := H
      replace H : (if t214 = 0 then (none) else (spec_LevelWeights.l0 k1 t210 (wrap64 ((wrap64 (Int.tdiv x5_1 t214)) * ((rd_T77 t210 x6_1).f1))) (wrap64 (x6_1 + 1)))) = some (r1, r2) := H
      have A12 := Aside0.mk A120
      clear A120
      by_cases c13 : t214 = 0
      ·
       rw [if_pos c13] at H
       exact absurd H (by simp)
      ·
       rw [if_neg c13] at H
       have c13b0 : (t214 == 0) = false := beq_eq_false_iff_ne.mpr c13
       have c13b1 : (t214 != 0) = true := bne_iff_ne.mpr c13
       have H' := Aside0.mk H
       clear H
       obtain ⟨Ao14, co14, eo14⟩ := Kd.R_slice HO_4.out
       subst eo14
       try go_wp2
       replace HO_4 := Aside0.mk (Kd.R_drew HO_4.out)
       replace BK205 := Aside0.mk (blk_drew BK205.out)
       replace HB := Aside0.mk (below_drew1 HB.out)
       have p213 : 0 ≤ (x6_1 : Int) := of_decide_eq_true (by first | (with_reducible assumption) | assumption)
       have q213 : x6_1 < (t210.length : Int) := of_decide_eq_true (by first | (with_reducible assumption) | assumption)
       obtain ⟨ad213, e213, hx213_0, hx213_1⟩ := at_T77 (Kd.R_reads' HO_4.out).2.2 x6_1 p213 q213
       cases e213
       replace p213 := eq_true p213
       replace q213 := eq_true q213
       have p215 : 0 ≤ (x6_1 : Int) := of_decide_eq_true (by first | (with_reducible assumption) | assumption)
       have q215 : x6_1 < (t210.length : Int) := of_decide_eq_true (by first | (with_reducible assumption) | assumption)
       obtain ⟨ad215, e215, hx215_0, hx215_1⟩ := at_T77 (Kd.R_reads' HO_4.out).2.2 x6_1 p215 q215
       obtain rfl : ad213 = ad215 := (by injection e215)
       replace p215 := eq_true p215
       replace q215 := eq_true q215
       refine start_ (n := 16) (S := fun w' => w'.cell? (ad213.add ((x6_1).toNat * 2)) = some (.int .i64 ((rd_T77 t210 x6_1).f0)) ∧ w'.cell? ⟨(ad213.add ((x6_1).toNat * 2)).block, (ad213.add ((x6_1).toNat * 2)).off + 1, none⟩ = some (.int .i64 ((rd_T77 t210 x6_1).f1)) ∧ w'.cell? (ad213.add ((x6_1).toNat * 2)) = some (.int .i64 ((rd_T77 t210 x6_1).f0)) ∧ w'.cell? ⟨(ad213.add ((x6_1).toNat * 2)).block, (ad213.add ((x6_1).toNat * 2)).off + 1, none⟩ = some (.int .i64 ((rd_T77 t210 x6_1).f1))) (ds := []) #[n_, n_, n_, n_, n_, n_, n_, n_, n_, n_, n_, n_, n_, n_, n_, n_] (by kernel_rfl) rfl rfl ⟨hx213_0, hx213_1, hx215_0, hx215_1⟩ (fun hHeld => ?_); refine with_tabW spec_LevelWeights.tab8 spec_LevelWeights.bits8 (fun HT_ HW_ => ?_)
       generalize wr.drew = w15 at HO_4 BK205 HB hx213_0 hx213_1 hx215_0 hx215_1 hHeld ⊢
       refine pu 0 (some 23) #[y_, n_, n_, n_, n_, n_, n_, n_, n_, n_, n_, n_, n_, n_, n_, n_] (any_of HT_.out (by kernel_rfl)) ?_
       refine pu 1 (some 24) #[y_, y_, n_, n_, n_, n_, n_, n_, n_, n_, n_, n_, n_, n_, n_, n_] (any_of HT_.out (by kernel_rfl)) ?_
       refine pu 2 (some 25) #[y_, y_, y_, n_, n_, n_, n_, n_, n_, n_, n_, n_, n_, n_, n_, n_] (any_of HT_.out (by kernel_rfl)) ?_
       refine pu 3 (some 26) #[y_, y_, y_, y_, n_, n_, n_, n_, n_, n_, n_, n_, n_, n_, n_, n_] (any_of HT_.out (by kernel_rfl)) ?_
       refine pu 4 (some 27) #[y_, y_, y_, y_, y_, n_, n_, n_, n_, n_, n_, n_, n_, n_, n_, n_] (any_of HT_.out (by kernel_rfl)) ?_
       refine pu 5 (some 28) #[y_, y_, y_, y_, y_, y_, n_, n_, n_, n_, n_, n_, n_, n_, n_, n_] (any_of HT_.out (by kernel_rfl)) ?_
       refine pu 9 (some 32) #[y_, y_, y_, y_, y_, y_, n_, n_, n_, y_, n_, n_, n_, n_, n_, n_] (any_of HT_.out (by kernel_rfl)) ?_
       refine pu 10 (some 33) #[y_, y_, y_, y_, y_, y_, n_, n_, n_, y_, y_, n_, n_, n_, n_, n_] (any_of HT_.out (by kernel_rfl)) ?_
       refine pu 11 (some 34) #[y_, y_, y_, y_, y_, y_, n_, n_, n_, y_, y_, y_, n_, n_, n_, n_] (any_of HT_.out (by kernel_rfl)) ?_
       refine pu 12 (some 35) #[y_, y_, y_, y_, y_, y_, n_, n_, n_, y_, y_, y_, y_, n_, n_, n_] (any_of HT_.out (by kernel_rfl)) ?_
       refine tk 6 (some 29) #[y_, y_, y_, y_, y_, y_, y_, n_, n_, y_, y_, y_, y_, n_, n_, n_] rfl (take_ofW HT_.out HW_.out (by kernel_rfl)) hHeld (Or.inl ⟨by rfl, by rintro w' ⟨s0, s1, s2, s3⟩; go_simp; with_reducible rfl⟩) ?_
       refine tk 13 (some 36) #[y_, y_, y_, y_, y_, y_, y_, n_, n_, y_, y_, y_, y_, y_, n_, n_] rfl (take_ofW HT_.out HW_.out (by kernel_rfl)) hHeld (Or.inl ⟨by rfl, by rintro w' ⟨s0, s1, s2, s3⟩; go_simp; with_reducible rfl⟩) ?_
       refine one_ (i := 7) (N := some 30) #[y_, y_, y_, y_, y_, y_, y_, y_, n_, y_, y_, y_, y_, y_, n_, n_] rfl rfl (one_of HT_.out (by kernel_rfl)) (by decide) (fun K hK => ?_)
       refine goes_ Try.func86 (by kernel_rfl) rfl #[.int .i64 x5_1, .int .i64 ((rd_T77 t210 x6_1).f1)] (by rfl) rfl rfl tM ?_
       with_reducible refine (spec_l2Gcd.calls k1 x5_1 ((rd_T77 t210 x6_1).f1) t214 _ A12.out).mono ?_
       rintro e w' ⟨rfl, ⟨nd, rfl⟩⟩
       refine ⟨_, rfl, ?_⟩
       refine hK.out _ _ ⟨hHeld.1, hHeld.2.1, hHeld.2.2.1, hHeld.2.2.2⟩ (fun hHeld => ?_)
       clear hK K
       refine norm_ (a' := ?_) ?_ ?_
       rotate_left
       ·
        show Act.put _ (some 30) _ = _
        simp only [Act.put, List.setIfInBounds_toArray, List.set_cons_zero, List.set_cons_succ, i64_w, i32_w]
        rfl
       refine pu 8 (some 31) #[y_, y_, y_, y_, y_, y_, y_, y_, y_, y_, y_, y_, y_, y_, n_, n_] (any_of HT_.out (by kernel_rfl)) ?_
       refine pu 14 (some 37) #[y_, y_, y_, y_, y_, y_, y_, y_, y_, y_, y_, y_, y_, y_, y_, n_] (any_of HT_.out (by kernel_rfl)) ?_
       refine pu 15 (some 5) #[y_, y_, y_, y_, y_, y_, y_, y_, y_, y_, y_, y_, y_, y_, y_, y_] (any_of HT_.out (by kernel_rfl)) ?_
       refine done_ (done_of HT_.out (by kernel_rfl)) ?_
       try go_wp2
       go_roundg k1
       case measure => have := HK1.out; omega
       case rel => exact ⟨(wrap64 ((wrap64 (Int.tdiv x5_1 t214)) * ((rd_T77 t210 x6_1).f1))), (wrap64 (x6_1 + 1)), (by first | rfl | (simp; done) | (simp [wrap64]; done) | (simp [*]; done)), (by first | rfl | (simp; done) | (simp [wrap64]; done) | (simp [*]; done)), H', ⟨by have := HK1.out; omega⟩, ⟨tR HO_4.out⟩, ⟨tK BK205.out⟩, ⟨tB HB.out⟩⟩
     ·
      rw [if_neg c11] at H
      exact absurd H (by simp)
    ·
     rw [if_neg c10] at H
     have c10b0 : decide (x6_1 < (t210.length : Int)) = false := decide_eq_false c10
     clear c10
     obtain ⟨y216, hy216⟩ : ∃ y_ : List Int, y_ = (([] : List Int)) := ⟨_, rfl⟩
     replace H : (spec_LevelWeights.l1 k1 t210 x5_1 y216 0 0) = some (r1, r2) := by first | (rw [hy216]; with_reducible exact H) | (have H2_ := (Option.bind_some _ _).symm.trans H; rw [hy216]; with_reducible exact H2_) | (have H2_ := (Option.bind_some _ _).symm.trans H; with_reducible exact H2_) | with_reducible exact H | (rw [hy216]; exact H) | exact H
     have Ny216 := Aside0.mk hy216
     clear hy216
     have H' := Aside0.mk H
     clear H
     obtain ⟨Ao16, co16, eo16⟩ := Kd.R_slice HO_4.out
     subst eo16
     go_wp2_with (first | ((with_reducible refine gate_dst (N := 38) rfl ?_); refine Kd.R_lit (Kd.int .i64) _ 3 ?hg (N := 38) ?hd (xs := ([] : List Int)) (inner := []) (ok := fun _ => True) (okp := fun _ => True) ?hr ?hp (fun _ hk => hk) trivial (Below.refl _ _) (Nat.le_refl _) (by simp) ?_; (case hd => rfl); (case hg => rfl); (case hr => first | (go_simp; done) | (go_simp; rfl)); (case hp => exact (Reps.none _ _)); intro v217 w17 ho18 hb hg_ hnew_; clear hg_ hnew_; (first | rw [← Ny216.out] at ho18 | (simp only [Int.reduceToNat] at ho18; rw [← Ny216.out] at ho18)); replace HO_4 := Aside0.mk (Kd.R_below (tR HO_4.out) hb); have HO218 := Aside0.mk (Kd.R_lower ho18 (below_size (tB HB.out))); replace BK205 := bkB BK205 hb; replace HB := Aside0.mk (below_step (tB HB.out) hb); clear hb ho18))
     go_loopg [7, 8, 9] k1 (fun kq v7 v8 v9 w' => ∃ (x7_2 : List Int) (x8_2 : Int) (x9_2 : Int), v8 = .int .i64 x8_2 ∧ v9 = .int .i64 x9_2 ∧ Aside0 (spec_LevelWeights.l1 kq t210 x5_1 x7_2 x8_2 x9_2 = some (r1, r2)) ∧ Aside0 (kq ≤ k1) ∧ Aside0 (Kd.R k77 77 w' w.heap.size (fun _ => True) (.slice Ao16 t210.length co16) t210) ∧ Aside0 (Kd.R (Kd.int .i64) 3 w' w.heap.size (fun _ => True) v7 x7_2) ∧ Aside0 (w'.heap[gb205]? = some (.cells #[(.slice A0_0 l0_0.length c0_0), (.slice A0_1 l0_1.length c0_1)] 27 (0, 0))) ∧ Aside0 (Below w.heap.size w w'))
     case atStart => exact ⟨(y216), (0), (0), (by first | rfl | (simp; done) | (simp [wrap64]; done) | (simp [*]; done)), (by first | rfl | (simp; done) | (simp [wrap64]; done) | (simp [*]; done)), H', ⟨Nat.le_refl _⟩, ⟨tR HO_4.out⟩, ⟨tR HO218.out⟩, ⟨tK BK205.out⟩, ⟨tB HB.out⟩⟩
     case round =>
      clear H'
      try clear c1
      try clear p2
      try clear q2
      try clear hx2
      try clear c3
      try clear c4
      try clear c5
      try clear p6
      try clear c8
      try clear c10
      try clear c10b0
      try clear c11
      try clear c11b0
      try clear c13
      try clear c13b0
      try clear c13b1
      try clear hcz6_0
      try clear hcz6_1
      try clear hcz8_0
      try clear hcz8_1
      try clear hfz6_0
      try clear hfz6_1
      try clear hfz8_0
      try clear hfz8_1
      try clear hx213_0
      try clear hx213_1
      try clear hx215_0
      try clear hx215_1
      try clear p2
      try clear p213
      try clear p215
      try clear p6
      try clear q213
      try clear q215
      obtain ⟨x7_2, x8_2, x9_2, rfl, rfl, HA, HK2, HO_4, HO_7, BK205, HB⟩ := hrel
      cases gk with
      | zero => exact absurd HA.out (by simp [spec_LevelWeights.l1])
      | succ k2 =>
       have H := HA.out
       clear HA
       simp only [spec_LevelWeights.l1] at H
       by_cases c19 : x9_2 < (t210.length : Int)
       ·
        rw [if_pos c19] at H
        have c19b0 : decide (x9_2 < (t210.length : Int)) = true := decide_eq_true c19
        clear c19
        by_cases c20 : 0 ≤ x9_2
        ·
         rw [if_pos c20] at H
         have c20b0 : decide (0 ≤ x9_2) = true := decide_eq_true c20
         clear c20
         by_cases c21 : ((rd_T77 t210 x9_2).f1) = 0
         ·
          rw [if_pos c21] at H
          exact absurd H (by simp)
         ·
          rw [if_neg c21] at H
          have c21b0 : (((rd_T77 t210 x9_2).f1) == 0) = false := beq_eq_false_iff_ne.mpr c21
          have c21b1 : (((rd_T77 t210 x9_2).f1) != 0) = true := bne_iff_ne.mpr c21
          by_cases c22 : x7_2.length < 17592186044416
          ·
           rw [if_pos c22] at H
           have LMc22 := Aside0.mk c22
           clear c22
           obtain ⟨y221, hy221⟩ : ∃ y_ : List Int, y_ = (x7_2 ++ [wrap64 ((wrap64 (Int.tdiv x5_1 ((rd_T77 t210 x9_2).f1))) * ((rd_T77 t210 x9_2).f0))]) := ⟨_, rfl⟩
           replace H : (if x9_2 < (y221.length : Int) then ((spec_l1Most.f x8_2 (rd y221 x9_2)).bind fun t225 => ((spec_l1Least.f x8_2 (rd y221 x9_2)).bind fun t227 => ((spec_l2Gcd.f k2 t225 t227).bind fun t228 => (spec_LevelWeights.l1 k2 t210 x5_1 y221 t228 (wrap64 (x9_2 + 1)))))) else (none)) = some (r1, r2) := by first | (rw [hy221]; with_reducible exact H) | (have H2_ := (Option.bind_some _ _).symm.trans H; rw [hy221]; with_reducible exact H2_) | (have H2_ := (Option.bind_some _ _).symm.trans H; with_reducible exact H2_) | with_reducible exact H | (rw [hy221]; exact H) | exact H
           have Ny221 := Aside0.mk hy221
           clear hy221
           by_cases c23 : x9_2 < (y221.length : Int)
           ·
            rw [if_pos c23] at H
            have c23b0 : decide (x9_2 < (y221.length : Int)) = true := decide_eq_true c23
            clear c23
            replace H := Option.bind_eq_some_iff.mp H
            obtain ⟨t225, A240, H⟩ := H
            replace H : ((spec_l1Least.f x8_2 (rd y221 x9_2)).bind fun t227 => ((spec_l2Gcd.f k2 t225 t227).bind fun t228 => (spec_LevelWeights.l1 k2 t210 x5_1 y221 t228 (wrap64 (x9_2 + 1))))) = some (r1, r2) := H
            have A24 := Aside0.mk A240
            clear A240
            replace H := Option.bind_eq_some_iff.mp H
            obtain ⟨t227, A250, H⟩ := H
            replace H : ((spec_l2Gcd.f k2 t225 t227).bind fun t228 => (spec_LevelWeights.l1 k2 t210 x5_1 y221 t228 (wrap64 (x9_2 + 1)))) = some (r1, r2) := H
            have A25 := Aside0.mk A250
            clear A250
            replace H := Option.bind_eq_some_iff.mp H
            obtain ⟨t228, A260, H⟩ := H
            replace H : (spec_LevelWeights.l1 k2 t210 x5_1 y221 t228 (wrap64 (x9_2 + 1))) = some (r1, r2) := H
            have A26 := Aside0.mk A260
            clear A260
            have H' := Aside0.mk H
            clear H
            try go_wp2
            replace HO_4 := Aside0.mk (Kd.R_drew HO_4.out)
            replace HO_7 := Aside0.mk (Kd.R_drew HO_7.out)
            replace BK205 := Aside0.mk (blk_drew BK205.out)
            replace HB := Aside0.mk (below_drew1 HB.out)
            have p219 : 0 ≤ (x9_2 : Int) := of_decide_eq_true (by first | (with_reducible assumption) | assumption)
            have q219 : x9_2 < (t210.length : Int) := of_decide_eq_true (by first | (with_reducible assumption) | assumption)
            obtain ⟨ad219, e219, hx219_0, hx219_1⟩ := at_T77 (Kd.R_reads' HO_4.out).2.2 x9_2 p219 q219
            cases e219
            replace p219 := eq_true p219
            replace q219 := eq_true q219
            have p220 : 0 ≤ (x9_2 : Int) := of_decide_eq_true (by first | (with_reducible assumption) | assumption)
            have q220 : x9_2 < (t210.length : Int) := of_decide_eq_true (by first | (with_reducible assumption) | assumption)
            obtain ⟨ad220, e220, hx220_0, hx220_1⟩ := at_T77 (Kd.R_reads' HO_4.out).2.2 x9_2 p220 q220
            obtain rfl : ad219 = ad220 := (by injection e220)
            replace p220 := eq_true p220
            replace q220 := eq_true q220
            refine start_ (n := 17) (S := fun w' => w'.cell? (ad219.add ((x9_2).toNat * 2)) = some (.int .i64 ((rd_T77 t210 x9_2).f0)) ∧ w'.cell? ⟨(ad219.add ((x9_2).toNat * 2)).block, (ad219.add ((x9_2).toNat * 2)).off + 1, none⟩ = some (.int .i64 ((rd_T77 t210 x9_2).f1)) ∧ w'.cell? (ad219.add ((x9_2).toNat * 2)) = some (.int .i64 ((rd_T77 t210 x9_2).f0)) ∧ w'.cell? ⟨(ad219.add ((x9_2).toNat * 2)).block, (ad219.add ((x9_2).toNat * 2)).off + 1, none⟩ = some (.int .i64 ((rd_T77 t210 x9_2).f1))) (ds := [14, 15]) #[n_, n_, n_, n_, n_, n_, n_, n_, n_, n_, n_, n_, n_, n_, n_, n_, n_] (by kernel_rfl) rfl rfl ⟨hx219_0, hx219_1, hx220_0, hx220_1⟩ (fun hHeld => ?_); refine with_tabW spec_LevelWeights.tab13 spec_LevelWeights.bits13 (fun HT_ HW_ => ?_)
            generalize wr.drew = w27 at HO_4 HO_7 BK205 HB hx219_0 hx219_1 hx220_0 hx220_1 hHeld ⊢
            refine pu 0 (some 45) #[y_, n_, n_, n_, n_, n_, n_, n_, n_, n_, n_, n_, n_, n_, n_, n_, n_] (any_of HT_.out (by kernel_rfl)) ?_
            refine pu 1 (some 46) #[y_, y_, n_, n_, n_, n_, n_, n_, n_, n_, n_, n_, n_, n_, n_, n_, n_] (any_of HT_.out (by kernel_rfl)) ?_
            refine pu 2 (some 47) #[y_, y_, y_, n_, n_, n_, n_, n_, n_, n_, n_, n_, n_, n_, n_, n_, n_] (any_of HT_.out (by kernel_rfl)) ?_
            refine pu 3 (some 48) #[y_, y_, y_, y_, n_, n_, n_, n_, n_, n_, n_, n_, n_, n_, n_, n_, n_] (any_of HT_.out (by kernel_rfl)) ?_
            refine pu 4 (some 49) #[y_, y_, y_, y_, y_, n_, n_, n_, n_, n_, n_, n_, n_, n_, n_, n_, n_] (any_of HT_.out (by kernel_rfl)) ?_
            refine pu 5 (some 50) #[y_, y_, y_, y_, y_, y_, n_, n_, n_, n_, n_, n_, n_, n_, n_, n_, n_] (any_of HT_.out (by kernel_rfl)) ?_
            refine pu 8 (some 53) #[y_, y_, y_, y_, y_, y_, n_, n_, y_, n_, n_, n_, n_, n_, n_, n_, n_] (any_of HT_.out (by kernel_rfl)) ?_
            refine pu 9 (some 54) #[y_, y_, y_, y_, y_, y_, n_, n_, y_, y_, n_, n_, n_, n_, n_, n_, n_] (any_of HT_.out (by kernel_rfl)) ?_
            refine pu 10 (some 55) #[y_, y_, y_, y_, y_, y_, n_, n_, y_, y_, y_, n_, n_, n_, n_, n_, n_] (any_of HT_.out (by kernel_rfl)) ?_
            refine pu 11 (some 56) #[y_, y_, y_, y_, y_, y_, n_, n_, y_, y_, y_, y_, n_, n_, n_, n_, n_] (any_of HT_.out (by kernel_rfl)) ?_
            refine tk 6 (some 51) #[y_, y_, y_, y_, y_, y_, y_, n_, y_, y_, y_, y_, n_, n_, n_, n_, n_] rfl (take_ofW HT_.out HW_.out (by kernel_rfl)) hHeld (Or.inl ⟨by rfl, by rintro w' ⟨s0, s1, s2, s3⟩; go_simp; with_reducible rfl⟩) ?_
            refine pu 7 (some 52) #[y_, y_, y_, y_, y_, y_, y_, y_, y_, y_, y_, y_, n_, n_, n_, n_, n_] (any_of HT_.out (by kernel_rfl)) ?_
            refine tk 12 (some 57) #[y_, y_, y_, y_, y_, y_, y_, y_, y_, y_, y_, y_, y_, n_, n_, n_, n_] rfl (take_ofW HT_.out HW_.out (by kernel_rfl)) hHeld (Or.inl ⟨by rfl, by rintro w' ⟨s0, s1, s2, s3⟩; go_simp; with_reducible rfl⟩) ?_
            refine pu 13 (some 58) #[y_, y_, y_, y_, y_, y_, y_, y_, y_, y_, y_, y_, y_, y_, n_, n_, n_] (any_of HT_.out (by kernel_rfl)) ?_
            refine last_ (i := 14) (N := some 59) #[y_, y_, y_, y_, y_, y_, y_, y_, y_, y_, y_, y_, y_, y_, y_, n_, n_] rfl rfl (one_of HT_.out (by kernel_rfl)) (by decide) (fun K hK => ?_)
            refine value_ (w1 := ?_) (v := ?_) (by rfl) rfl ?_ ?_
            rotate_left 2
            ·
             go_simp
             constructor
             ·
              rfl
             ·
              rfl
            refine hK.out _ _ ?_
            clear hK K
            refine norm_ (a' := ?_) ?_ ?_
            rotate_left
            ·
             show Act.put _ (some 59) _ = _
             simp only [Act.put, List.setIfInBounds_toArray, List.set_cons_zero, List.set_cons_succ, i64_w, i32_w]
             rfl
            refine last_ (i := 15) (N := some 60) #[y_, y_, y_, y_, y_, y_, y_, y_, y_, y_, y_, y_, y_, y_, y_, y_, n_] rfl rfl (one_of HT_.out (by kernel_rfl)) (by decide) (fun K hK => ?_)
            refine Kd.R_append_step (Kd.int .i64) (w0 := w) w.heap.size (by rfl) (.tmp 45) (.tmp 59) 37 3 (.int .i64 0) 8 rfl Try.underlying37 info3 rfl (by decide) (by omega) u7 x7_2 (wrap64 ((wrap64 (Int.tdiv x5_1 ((rd_T77 t210 x9_2).f1))) * ((rd_T77 t210 x9_2).f0))) [.int .i64 (wrap64 ((wrap64 (Int.tdiv x5_1 ((rd_T77 t210 x9_2).f1))) * ((rd_T77 t210 x9_2).f0)))] (fun _ => True) (fun _ => False) rfl rfl ?aP (fun _ hk => hk.elim) ?aF ?aO ?aB ?aS ?aL ?_
            (case aP => exact rfl)
            (case aB => exact (tB HB.out))
            (case aF => exact (fun _ _ => trivial))
            (case aO => exact (tR HO_7.out))
            (case aS => exact (below_size (tB HB.out)))
            (case aL => have := LMc22.out; omega)
            intro v222 w28 ho hb hg hat
            rw [← Ny221.out] at ho
            replace HO_4 := Aside0.mk (Kd.R_over' (tR HO_4.out) (Kd.R_typed (tR HO_7.out)) (by decide) hg)
            replace BK205 := Aside0.mk (blk_grown (g := gb205) (o := .cells #[.slice A0_0 l0_0.length c0_0, .slice A0_1 l0_1.length c0_1] 27 (0, 0)) (tK BK205.out) hg (Kd.R_ne HO_7.out BK205.out (by decide)))
            replace HB := Aside0.mk (hb)
            have HO223 := Aside0.mk (ho)
            clear HO_7
            clear ho hb hg hat
            refine hK.out _ _ ?_
            clear hK K
            refine norm_ (a' := ?_) ?_ ?_
            rotate_left
            ·
             show Act.put _ (some 60) _ = _
             simp only [Act.put, List.setIfInBounds_toArray, List.set_cons_zero, List.set_cons_succ, i64_w, i32_w]
             rfl
            refine pu 16 (some 7) #[y_, y_, y_, y_, y_, y_, y_, y_, y_, y_, y_, y_, y_, y_, y_, y_, y_] (any_of HT_.out (by kernel_rfl)) ?_
            refine done_ (done_of HT_.out (by kernel_rfl)) ?_
            try go_wp2
            replace HO_4 := Aside0.mk (Kd.R_drew HO_4.out)
            replace HO223 := Aside0.mk (Kd.R_drew HO223.out)
            replace BK205 := Aside0.mk (blk_drew BK205.out)
            replace HB := Aside0.mk (below_drew1 HB.out)
            obtain ⟨Ao30, co30, eo30⟩ := Kd.R_slice HO223.out
            (first | subst eo30 | (injection eo30 with f1_ f2_ f3_; have f4_ := f1_.symm; have f5_ := f3_.symm; clear f1_ f2_ f3_; subst f4_; subst f5_))
            have p224 : 0 ≤ (x9_2 : Int) := of_decide_eq_true (by first | (with_reducible assumption) | assumption)
            have q224 : x9_2 < (y221.length : Int) := of_decide_eq_true (by first | (with_reducible assumption) | assumption)
            obtain ⟨ad224, e224, hx224_0⟩ := Kd.at_int (Kd.R_reads' HO223.out).2.2 x9_2 p224 q224
            cases e224
            replace p224 := eq_true p224
            replace q224 := eq_true q224
            have p226 : 0 ≤ (x9_2 : Int) := of_decide_eq_true (by first | (with_reducible assumption) | assumption)
            have q226 : x9_2 < (y221.length : Int) := of_decide_eq_true (by first | (with_reducible assumption) | assumption)
            obtain ⟨ad226, e226, hx226_0⟩ := Kd.at_int (Kd.R_reads' HO223.out).2.2 x9_2 p226 q226
            obtain rfl : ad224 = ad226 := (by injection e226)
            replace p226 := eq_true p226
            replace q226 := eq_true q226
            refine start_ (n := 14) (S := fun w' => w'.cell? (ad224.add (x9_2).toNat) = some (.int .i64 (rd y221 x9_2)) ∧ w'.cell? (ad224.add (x9_2).toNat) = some (.int .i64 (rd y221 x9_2))) (ds := []) #[n_, n_, n_, n_, n_, n_, n_, n_, n_, n_, n_, n_, n_, n_] (by kernel_rfl) rfl rfl ⟨hx224_0, hx226_0⟩ (fun hHeld => ?_); refine with_tabW spec_LevelWeights.tab14 spec_LevelWeights.bits14 (fun HT_ HW_ => ?_)
            generalize w28.drew = w29 at HO_4 HO223 BK205 HB hx224_0 hx226_0 hHeld ⊢
            refine pu 0 (some 61) #[y_, n_, n_, n_, n_, n_, n_, n_, n_, n_, n_, n_, n_, n_] (any_of HT_.out (by kernel_rfl)) ?_
            refine pu 1 (some 62) #[y_, y_, n_, n_, n_, n_, n_, n_, n_, n_, n_, n_, n_, n_] (any_of HT_.out (by kernel_rfl)) ?_
            refine pu 2 (some 63) #[y_, y_, y_, n_, n_, n_, n_, n_, n_, n_, n_, n_, n_, n_] (any_of HT_.out (by kernel_rfl)) ?_
            refine pu 3 (some 64) #[y_, y_, y_, y_, n_, n_, n_, n_, n_, n_, n_, n_, n_, n_] (any_of HT_.out (by kernel_rfl)) ?_
            refine pu 6 (some 67) #[y_, y_, y_, y_, n_, n_, y_, n_, n_, n_, n_, n_, n_, n_] (any_of HT_.out (by kernel_rfl)) ?_
            refine pu 7 (some 68) #[y_, y_, y_, y_, n_, n_, y_, y_, n_, n_, n_, n_, n_, n_] (any_of HT_.out (by kernel_rfl)) ?_
            refine pu 8 (some 69) #[y_, y_, y_, y_, n_, n_, y_, y_, y_, n_, n_, n_, n_, n_] (any_of HT_.out (by kernel_rfl)) ?_
            refine pu 9 (some 70) #[y_, y_, y_, y_, n_, n_, y_, y_, y_, y_, n_, n_, n_, n_] (any_of HT_.out (by kernel_rfl)) ?_
            refine tk 4 (some 65) #[y_, y_, y_, y_, y_, n_, y_, y_, y_, y_, n_, n_, n_, n_] rfl (take_ofW HT_.out HW_.out (by kernel_rfl)) hHeld (Or.inl ⟨by rfl, by rintro w' ⟨s0, s1⟩; go_simp; with_reducible rfl⟩) ?_
            refine tk 10 (some 71) #[y_, y_, y_, y_, y_, n_, y_, y_, y_, y_, y_, n_, n_, n_] rfl (take_ofW HT_.out HW_.out (by kernel_rfl)) hHeld (Or.inl ⟨by rfl, by rintro w' ⟨s0, s1⟩; go_simp; with_reducible rfl⟩) ?_
            refine one_ (i := 5) (N := some 66) #[y_, y_, y_, y_, y_, y_, y_, y_, y_, y_, y_, n_, n_, n_] rfl rfl (one_of HT_.out (by kernel_rfl)) (by decide) (fun K hK => ?_)
            refine goes_ Try.func87 (by kernel_rfl) rfl #[.int .i64 x8_2, .int .i64 (rd y221 x9_2)] (by rfl) rfl rfl tM ?_
            with_reducible refine (spec_l1Most.calls x8_2 (rd y221 x9_2) t225 _ A24.out).mono ?_
            rintro e w' ⟨rfl, ⟨nd, rfl⟩⟩
            refine ⟨_, rfl, ?_⟩
            refine hK.out _ _ ⟨hHeld.1, hHeld.2⟩ (fun hHeld => ?_)
            clear hK K
            refine norm_ (a' := ?_) ?_ ?_
            rotate_left
            ·
             show Act.put _ (some 66) _ = _
             simp only [Act.put, List.setIfInBounds_toArray, List.set_cons_zero, List.set_cons_succ, i64_w, i32_w]
             rfl
            refine one_ (i := 11) (N := some 72) #[y_, y_, y_, y_, y_, y_, y_, y_, y_, y_, y_, y_, n_, n_] rfl rfl (one_of HT_.out (by kernel_rfl)) (by decide) (fun K hK => ?_)
            refine goes_ Try.func88 (by kernel_rfl) rfl #[.int .i64 x8_2, .int .i64 (rd y221 x9_2)] (by rfl) rfl rfl tM ?_
            with_reducible refine (spec_l1Least.calls x8_2 (rd y221 x9_2) t227 _ A25.out).mono ?_
            rintro e w' ⟨rfl, ⟨nd, rfl⟩⟩
            refine ⟨_, rfl, ?_⟩
            refine hK.out _ _ ⟨hHeld.1, hHeld.2⟩ (fun hHeld => ?_)
            clear hK K
            refine norm_ (a' := ?_) ?_ ?_
            rotate_left
            ·
             show Act.put _ (some 72) _ = _
             simp only [Act.put, List.setIfInBounds_toArray, List.set_cons_zero, List.set_cons_succ, i64_w, i32_w]
             rfl
            refine one_ (i := 12) (N := some 73) #[y_, y_, y_, y_, y_, y_, y_, y_, y_, y_, y_, y_, y_, n_] rfl rfl (one_of HT_.out (by kernel_rfl)) (by decide) (fun K hK => ?_)
            refine goes_ Try.func86 (by kernel_rfl) rfl #[.int .i64 t225, .int .i64 t227] (by rfl) rfl rfl tM ?_
            with_reducible refine (spec_l2Gcd.calls k2 t225 t227 t228 _ A26.out).mono ?_
            rintro e w' ⟨rfl, ⟨nd, rfl⟩⟩
            refine ⟨_, rfl, ?_⟩
            refine hK.out _ _ ⟨hHeld.1, hHeld.2⟩ (fun hHeld => ?_)
            clear hK K
            refine norm_ (a' := ?_) ?_ ?_
            rotate_left
            ·
             show Act.put _ (some 73) _ = _
             simp only [Act.put, List.setIfInBounds_toArray, List.set_cons_zero, List.set_cons_succ, i64_w, i32_w]
             rfl
            refine pu 13 (some 8) #[y_, y_, y_, y_, y_, y_, y_, y_, y_, y_, y_, y_, y_, y_] (any_of HT_.out (by kernel_rfl)) ?_
            refine done_ (done_of HT_.out (by kernel_rfl)) ?_
            try go_wp2
            go_roundg k2
            case measure => have := HK1.out; have := HK2.out; omega
            case rel => exact ⟨(y221), (t228), (wrap64 (x9_2 + 1)), (by first | rfl | (simp; done) | (simp [wrap64]; done) | (simp [*]; done)), (by first | rfl | (simp; done) | (simp [wrap64]; done) | (simp [*]; done)), H', ⟨by have := HK1.out; have := HK2.out; omega⟩, ⟨tR HO_4.out⟩, ⟨tR HO223.out⟩, ⟨tK BK205.out⟩, ⟨tB HB.out⟩⟩
           ·
            rw [if_neg c23] at H
            exact absurd H (by simp)
          ·
           rw [if_neg c22] at H
           exact absurd H (by simp)
        ·
         rw [if_neg c20] at H
         exact absurd H (by simp)
       ·
        rw [if_neg c19] at H
        have c19b0 : decide (x9_2 < (t210.length : Int)) = false := decide_eq_false c19
        clear c19
        have H' := Aside0.mk H
        clear H
        go_wp2
        go_loopg [10] k2 (fun kq v10 w' => ∃ (x7_3 : List Int) (x10_3 : Int), v10 = .int .i64 x10_3 ∧ Aside0 (spec_LevelWeights.l2 kq x7_3 x8_2 x10_3 = some (r1, r2)) ∧ Aside0 (kq ≤ k2) ∧ Aside0 (Kd.R (Kd.int .i64) 3 w' w.heap.size (fun _ => True) u7 x7_3) ∧ Aside0 (w'.heap[gb205]? = some (.cells #[(.slice A0_0 l0_0.length c0_0), (.slice A0_1 l0_1.length c0_1)] 27 (0, 0))) ∧ Aside0 (Below w.heap.size w w'))
        case atStart => exact ⟨(x7_2), (0), (by first | rfl | (simp; done) | (simp [wrap64]; done) | (simp [*]; done)), H', ⟨Nat.le_refl _⟩, ⟨tR HO_7.out⟩, ⟨tK BK205.out⟩, ⟨tB HB.out⟩⟩
        case round =>
         clear H'
         try clear c1
         try clear c2
         try clear p2
         try clear q2
         try clear hx2
         try clear c3
         try clear c4
         try clear c5
         try clear p6
         try clear c8
         try clear c10
         try clear c10b0
         try clear c11
         try clear c11b0
         try clear c13
         try clear c13b0
         try clear c13b1
         try clear c19
         try clear c19b0
         try clear c20
         try clear c20b0
         try clear c21
         try clear c21b0
         try clear c21b1
         try clear p21
         try clear q21
         try clear hx21
         try clear c22
         try clear p22
         try clear q22
         try clear hx22
         try clear c23
         try clear c23b0
         try clear hcz6_0
         try clear hcz6_1
         try clear hcz8_0
         try clear hcz8_1
         try clear hfz6_0
         try clear hfz6_1
         try clear hfz8_0
         try clear hfz8_1
         try clear hx213_0
         try clear hx213_1
         try clear hx215_0
         try clear hx215_1
         try clear hx219_0
         try clear hx219_1
         try clear hx220_0
         try clear hx220_1
         try clear hx224_0
         try clear hx226_0
         try clear p2
         try clear p213
         try clear p215
         try clear p219
         try clear p220
         try clear p224
         try clear p226
         try clear p6
         try clear q2
         try clear q213
         try clear q215
         try clear q219
         try clear q220
         try clear q224
         try clear q226
         obtain ⟨x7_3, x10_3, rfl, HA, HK3, HO_7, BK205, HB⟩ := hrel
         cases gk with
         | zero => exact absurd HA.out (by simp [spec_LevelWeights.l2])
         | succ k3 =>
          have H := HA.out
          clear HA
          simp only [spec_LevelWeights.l2] at H
          by_cases c31 : x10_3 < (x7_3.length : Int)
          ·
           rw [if_pos c31] at H
           have c31b0 : decide (x10_3 < (x7_3.length : Int)) = true := decide_eq_true c31
           clear c31
           by_cases c32 : 0 ≤ x10_3
           ·
            rw [if_pos c32] at H
            have c32b0 : decide (0 ≤ x10_3) = true := decide_eq_true c32
            clear c32
            by_cases c33 : x8_2 = 0
            ·
             rw [if_pos c33] at H
             exact absurd H (by simp)
            ·
             rw [if_neg c33] at H
             have c33b0 : (x8_2 == 0) = false := beq_eq_false_iff_ne.mpr c33
             have c33b1 : (x8_2 != 0) = true := bne_iff_ne.mpr c33
             obtain ⟨y230, hy230⟩ : ∃ y_ : List Int, y_ = (x7_3.set (x10_3 : Int).toNat (wrap64 (Int.tdiv (rd x7_3 x10_3) x8_2))) := ⟨_, rfl⟩
             replace H : (if (rd y230 x10_3) > 99 then (some ((([] : List Int)), false)) else (spec_LevelWeights.l2 k3 y230 x8_2 (wrap64 (x10_3 + 1)))) = some (r1, r2) := by first | (rw [hy230]; with_reducible exact H) | (have H2_ := (Option.bind_some _ _).symm.trans H; rw [hy230]; with_reducible exact H2_) | (have H2_ := (Option.bind_some _ _).symm.trans H; with_reducible exact H2_) | with_reducible exact H | (rw [hy230]; exact H) | exact H
             have Ny230 := Aside0.mk hy230
             clear hy230
             by_cases c35 : (rd y230 x10_3) > 99
             ·
              rw [if_pos c35] at H
              have c35b0 : decide (99 < (rd y230 x10_3)) = true := decide_eq_true c35
              clear c35
              obtain ⟨y232, hy232⟩ : ∃ y_ : List Int, y_ = (([] : List Int)) := ⟨_, rfl⟩
              replace H : (some (y232, false)) = some (r1, r2) := by first | (rw [hy232]; with_reducible exact H) | (have H2_ := (Option.bind_some _ _).symm.trans H; rw [hy232]; with_reducible exact H2_) | (have H2_ := (Option.bind_some _ _).symm.trans H; with_reducible exact H2_) | with_reducible exact H | (rw [hy232]; exact H) | exact H
              have Ny232 := Aside0.mk hy232
              clear hy232
              simp only [Option.some.injEq, Prod.mk.injEq] at H
              obtain ⟨rfl, rfl⟩ := H
              obtain ⟨Ao36, co36, eo36⟩ := Kd.R_slice HO_7.out
              subst eo36
              have p229 : 0 ≤ (x10_3 : Int) := of_decide_eq_true (by first | (with_reducible assumption) | assumption)
              have q229 : x10_3 < (x7_3.length : Int) := of_decide_eq_true (by first | (with_reducible assumption) | assumption)
              obtain ⟨ad229, e229, hx229_0⟩ := Kd.at_int (Kd.R_reads' HO_7.out).2.2 x10_3 p229 q229
              cases e229
              replace p229 := eq_true p229
              replace q229 := eq_true q229
              have p34 : 0 ≤ (x10_3 : Int) := of_decide_eq_true (by first | (with_reducible assumption) | assumption)
              have q34 : (x10_3 : Int) < ((x7_3.length : Int) : Int) := of_decide_eq_true (by first | (with_reducible assumption) | assumption)
              obtain ⟨go34, co34, eo34, gb34, gl34, cl34, HG34⟩ := Kd.R_form HO_7.out (by omega)
              (first | cases eo34 | (injection eo34 with ea_ en_ ec_; (first | subst ea_ | (injection ea_ with ea_; subst ea_)); subst ec_; clear en_))
              have GB34 := Aside0.mk gb34
              have GG34 := Aside0.mk HG34
              clear gb34 gl34 HG34
              (first | simp only [add_plain] at hx229_0 | skip)
              obtain ⟨hx34_0, hf34_0⟩ := Kd.R_celln 0 HO_7.out (x10_3 : Int) p34 q34
              replace p34 := eq_true p34
              replace q34 := eq_true q34
              have HP37 := Kd.R_putg HO_7.out (x10_3 : Int) (wrap64 (Int.tdiv (rd x7_3 x10_3) x8_2))
              go_wp2_with (first | ((with_reducible refine gate_store (t := 3) (p := 88) rfl ?_); refine store_event (t := 3) (p := 88) (v := ?vo_w38) (w1 := (wr.setCell ⟨go34, (x10_3 : Int).toNat, none⟩ (.int .i64 (wrap64 (Int.tdiv (rd x7_3 x10_3) x8_2))))) ?hg ?ho ?hn ?hr ?_; (case ho => rfl); (case hg => rfl); (case hn => rfl); (case hr => first | (go_simp; done) | (go_simp; rfl)); intro w38 hw; have hg : wr.grownBy w38 (some go34) := (by rw [hw]; exact HP37.2); have hp_ : Kd.R (Kd.int .i64) 3 w38 w.heap.size (fun _ => True) (.slice (some ⟨go34, 0, none⟩) x7_3.length co36) y230 := (by rw [hw, Ny230.out]; exact HP37.1); clear HP37; replace BK205 := Aside0.mk (blk_grown (g := gb205) (o := .cells #[.slice A0_0 l0_0.length c0_0, .slice A0_1 l0_1.length c0_1] 27 (0, 0)) (tK BK205.out) hg (Kd.R_ne HO_7.out BK205.out (by decide))); replace HO_7 := Aside0.mk (hp_); replace HB := Aside0.mk ((by rw [hw]; exact below_set (HB.out) GB34.out : Below w.heap.size w w38)); clear hg hw hp_; have p231 : 0 ≤ (x10_3 : Int) := of_decide_eq_true (by first | (with_reducible assumption) | assumption); have q231 : x10_3 < (y230.length : Int) := (by have h_ : (x10_3 : Int) < ((x7_3.length : Int) : Int) := of_decide_eq_true (by first | (with_reducible assumption) | assumption); first | (have e_ := (Kd.R_reads' HO_7.out).1; omega) | simpa only [Ny230.out, List.length_set] using h_); have ql231 : ((x10_3 : Int) < ((x7_3.length : Int) : Int)) = True := eq_true (of_decide_eq_true (by first | (with_reducible assumption) | assumption)); obtain ⟨ad231, e231, hx231_0⟩ := Kd.at_int (Kd.R_reads' HO_7.out).2.2 x10_3 p231 q231; obtain rfl : (⟨go34, 0, none⟩ : Addr) = ad231 := (by injection e231); (first | simp only [add_plain] at hx231_0 | simp only [add_at] at hx231_0 | simp only [Addr.add, Nat.zero_add] at hx231_0 | skip); replace p231 := eq_true p231; replace q231 := eq_true q231) | ((with_reducible refine gate_dst (N := 94) rfl ?_); refine Kd.R_lit (Kd.int .i64) _ 3 ?hg (N := 94) ?hd (xs := ([] : List Int)) (inner := []) (ok := fun _ => True) (okp := fun _ => True) ?hr ?hp (fun _ hk => hk) trivial (Below.refl _ _) (Nat.le_refl _) (by simp) ?_; (case hd => rfl); (case hg => rfl); (case hr => first | (go_simp; done) | (go_simp; rfl)); (case hp => exact (Reps.none _ _)); intro v233 w39 ho40 hb hg_ hnew_; clear hg_ hnew_; (first | rw [← Ny232.out] at ho40 | (simp only [Int.reduceToNat] at ho40; rw [← Ny232.out] at ho40)); have HO234 := Aside0.mk (Kd.R_lower (Kd.R_new' ho40 (Kd.R_lt (tR HO_7.out))) (below_size (tB HB.out))); replace HO_7 := Aside0.mk (Kd.R_elder' (tR HO_7.out) (Kd.R_base ho40) hb); replace BK205 := bkB BK205 hb; replace HB := Aside0.mk (below_step (tB HB.out) hb); clear hb ho40))
              go_ret2
              exact ⟨_, by first | rfl | (simp [errW_none, errW_some] <;> rfl) | (simp [*, errW_none, errW_some] <;> rfl), by (with_reducible repeat (first | apply Kd.R_alloc | apply Kd.R_drewN | apply Kd.R_drew)); exact Kd.R_mono HO234.out (fun _ hk => trivial), tB HB.out⟩
             ·
              rw [if_neg c35] at H
              have c35b0 : decide (99 < (rd y230 x10_3)) = false := decide_eq_false c35
              clear c35
              have H' := Aside0.mk H
              clear H
              obtain ⟨Ao41, co41, eo41⟩ := Kd.R_slice HO_7.out
              subst eo41
              have p229 : 0 ≤ (x10_3 : Int) := of_decide_eq_true (by first | (with_reducible assumption) | assumption)
              have q229 : x10_3 < (x7_3.length : Int) := of_decide_eq_true (by first | (with_reducible assumption) | assumption)
              obtain ⟨ad229, e229, hx229_0⟩ := Kd.at_int (Kd.R_reads' HO_7.out).2.2 x10_3 p229 q229
              cases e229
              replace p229 := eq_true p229
              replace q229 := eq_true q229
              have p34 : 0 ≤ (x10_3 : Int) := of_decide_eq_true (by first | (with_reducible assumption) | assumption)
              have q34 : (x10_3 : Int) < ((x7_3.length : Int) : Int) := of_decide_eq_true (by first | (with_reducible assumption) | assumption)
              obtain ⟨go34, co34, eo34, gb34, gl34, cl34, HG34⟩ := Kd.R_form HO_7.out (by omega)
              (first | cases eo34 | (injection eo34 with ea_ en_ ec_; (first | subst ea_ | (injection ea_ with ea_; subst ea_)); subst ec_; clear en_))
              have GB34 := Aside0.mk gb34
              have GG34 := Aside0.mk HG34
              clear gb34 gl34 HG34
              (first | simp only [add_plain] at hx229_0 | skip)
              obtain ⟨hx34_0, hf34_0⟩ := Kd.R_celln 0 HO_7.out (x10_3 : Int) p34 q34
              replace p34 := eq_true p34
              replace q34 := eq_true q34
              have HP42 := Kd.R_putg HO_7.out (x10_3 : Int) (wrap64 (Int.tdiv (rd x7_3 x10_3) x8_2))
              go_wp2_with (first | ((with_reducible refine gate_store (t := 3) (p := 88) rfl ?_); refine store_event (t := 3) (p := 88) (v := ?vo_w43) (w1 := (wr.setCell ⟨go34, (x10_3 : Int).toNat, none⟩ (.int .i64 (wrap64 (Int.tdiv (rd x7_3 x10_3) x8_2))))) ?hg ?ho ?hn ?hr ?_; (case ho => rfl); (case hg => rfl); (case hn => rfl); (case hr => first | (go_simp; done) | (go_simp; rfl)); intro w43 hw; have hg : wr.grownBy w43 (some go34) := (by rw [hw]; exact HP42.2); have hp_ : Kd.R (Kd.int .i64) 3 w43 w.heap.size (fun _ => True) (.slice (some ⟨go34, 0, none⟩) x7_3.length co41) y230 := (by rw [hw, Ny230.out]; exact HP42.1); clear HP42; replace BK205 := Aside0.mk (blk_grown (g := gb205) (o := .cells #[.slice A0_0 l0_0.length c0_0, .slice A0_1 l0_1.length c0_1] 27 (0, 0)) (tK BK205.out) hg (Kd.R_ne HO_7.out BK205.out (by decide))); replace HO_7 := Aside0.mk (hp_); replace HB := Aside0.mk ((by rw [hw]; exact below_set (HB.out) GB34.out : Below w.heap.size w w43)); clear hg hw hp_; have p231 : 0 ≤ (x10_3 : Int) := of_decide_eq_true (by first | (with_reducible assumption) | assumption); have q231 : x10_3 < (y230.length : Int) := (by have h_ : (x10_3 : Int) < ((x7_3.length : Int) : Int) := of_decide_eq_true (by first | (with_reducible assumption) | assumption); first | (have e_ := (Kd.R_reads' HO_7.out).1; omega) | simpa only [Ny230.out, List.length_set] using h_); have ql231 : ((x10_3 : Int) < ((x7_3.length : Int) : Int)) = True := eq_true (of_decide_eq_true (by first | (with_reducible assumption) | assumption)); obtain ⟨ad231, e231, hx231_0⟩ := Kd.at_int (Kd.R_reads' HO_7.out).2.2 x10_3 p231 q231; obtain rfl : (⟨go34, 0, none⟩ : Addr) = ad231 := (by injection e231); (first | simp only [add_plain] at hx231_0 | simp only [add_at] at hx231_0 | simp only [Addr.add, Nat.zero_add] at hx231_0 | skip); replace p231 := eq_true p231; replace q231 := eq_true q231))
              go_roundg k3
              case measure => have := HK1.out; have := HK2.out; have := HK3.out; omega
              case rel => exact ⟨(y230), (wrap64 (x10_3 + 1)), (by first | rfl | (simp; done) | (simp [wrap64]; done) | (simp [*]; done)), H', ⟨by have := HK1.out; have := HK2.out; have := HK3.out; omega⟩, ⟨tR HO_7.out⟩, ⟨tK BK205.out⟩, ⟨tB HB.out⟩⟩
           ·
            rw [if_neg c32] at H
            exact absurd H (by simp)
          ·
           rw [if_neg c31] at H
           have c31b0 : decide (x10_3 < (x7_3.length : Int)) = false := decide_eq_false c31
           clear c31
           simp only [Option.some.injEq, Prod.mk.injEq] at H
           obtain ⟨rfl, rfl⟩ := H
           obtain ⟨Ao44, co44, eo44⟩ := Kd.R_slice HO_7.out
           subst eo44
           go_wp2
           go_ret2
           exact ⟨_, by first | rfl | (simp [errW_none, errW_some] <;> rfl) | (simp [*, errW_none, errW_some] <;> rfl), tR HO_7.out, tB HB.out⟩
 ·
  replace c3 := Bool.eq_false_iff.mpr c3
  subst c3
  have H1 : (some ((([] : List Int)), false)) = some (r1, r2) := by rw [if_neg (show ¬ (false = true) by decide)] at H; exact H
  clear H
  have H := H1
  clear H1
  obtain ⟨y207, hy207⟩ : ∃ y_ : List Int, y_ = (([] : List Int)) := ⟨_, rfl⟩
  replace H : (some (y207, false)) = some (r1, r2) := by first | (rw [hy207]; with_reducible exact H) | (have H2_ := (Option.bind_some _ _).symm.trans H; rw [hy207]; with_reducible exact H2_) | (have H2_ := (Option.bind_some _ _).symm.trans H; with_reducible exact H2_) | with_reducible exact H | (rw [hy207]; exact H) | exact H
  have Ny207 := Aside0.mk hy207
  clear hy207
  simp only [Option.some.injEq, Prod.mk.injEq] at H
  obtain ⟨rfl, rfl⟩ := H
  go_enter Try.func49, Try.ntmps49
  go_wp2_with (first | ((with_reducible refine gate_dst (N := 1) rfl ?_); refine box_event ?hg (N := 1) ?hd (cs := #[.slice A0_0 l0_0.length c0_0, .slice A0_1 l0_1.length c0_1]) (t := 27) ?hr ?_; (case hd => rfl); (case hg => rfl); (case hr => first | (go_simp; done) | (go_simp; rfl)); intro gb205 hg w45 hbox hb; have BK205 := Aside0.mk (hbox); have GW205 := Aside0.mk (bS HB.out hg); have GE205 := Aside0.mk (bS HB.out hg); replace HB := Aside0.mk (below_step (tB HB.out) hb); clear hb hbox hg; obtain ⟨hcz46_0, hfz46_0, hcz46_1, hfz46_1⟩ := cz2 BK205) | ((with_reducible refine gate_callee (f := 52) rfl ?_); refine goesL_ (some 12) rfl rfl Try.func52 (by kernel_rfl) rfl #[.agg #[.slice A0_0 l0_0.length c0_0, .slice A0_1 l0_1.length c0_1]] rfl tM ?_; (with_reducible refine (spec_l5Good.calls k _ _ l0_0 _ _ l0_1 false _ ?side1 ?side2 ?side3 ?side4 A2.out).mono ?_); (case side1 => exact tC (Kd.C_below HR0_0.out HB.out)); (case side2 => exact HC0_0.out); (case side3 => exact tC (Kd.C_below HR0_1.out HB.out)); (case side4 => exact HC0_1.out); rintro e w47 ⟨rfl, hb⟩; refine ⟨_, rfl, ?_⟩; replace BK205 := bkB BK205 hb; replace HB := Aside0.mk (below_step (tB HB.out) hb); (try clear hb); (try clear hb2); (try clear hk); (try clear hi)) | ((with_reducible refine gate_dst (N := 14) rfl ?_); refine Kd.R_lit (Kd.int .i64) _ 3 ?hg (N := 14) ?hd (xs := ([] : List Int)) (inner := []) (ok := fun _ => True) (okp := fun _ => True) ?hr ?hp (fun _ hk => hk) trivial (Below.refl _ _) (Nat.le_refl _) (by simp) ?_; (case hd => rfl); (case hg => rfl); (case hr => first | (go_simp; done) | (go_simp; rfl)); (case hp => exact (Reps.none _ _)); intro v208 w48 ho49 hb hg_ hnew_; clear hg_ hnew_; (first | rw [← Ny207.out] at ho49 | (simp only [Int.reduceToNat] at ho49; rw [← Ny207.out] at ho49)); have HO209 := Aside0.mk (Kd.R_lower ho49 (below_size (tB HB.out))); replace BK205 := bkB BK205 hb; replace HB := Aside0.mk (below_step (tB HB.out) hb); clear hb ho49))
  go_ret2
  exact ⟨_, by first | rfl | (simp [errW_none, errW_some] <;> rfl) | (simp [*, errW_none, errW_some] <;> rfl), tR HO209.out, tB HB.out⟩

/-! ### impl_within: function 54 -/
def impl_within.f (a0 : Int) (a1 : Int) (a2 : Int) : Option (Bool) := if a0 ≥ a1 then (some (decide (a0 ≤ a2))) else (some false)
set_option maxHeartbeats 8000000 in
set_option maxRecDepth 100000 in
theorem impl_within.calls (a0 : Int) (a1 : Int) (a2 : Int) (r : Bool) (w : World) (h : impl_within.f a0 a1 a2 = some r) :
  Calls Try.prog 54 #[.int .i64 a0, .int .i64 a1, .int .i64 a2] w fun e w' => e = .returned (.bool r) ∧ Drawn0 w w' := by
 have H : (if a0 ≥ a1 then (some (decide (a0 ≤ a2))) else (some false)) = some r := h
 clear h
 by_cases c4 : a0 ≥ a1
 ·
  rw [if_pos c4] at H
  have c4b0 : decide (a1 ≤ a0) = true := decide_eq_true c4
  clear c4
  obtain rfl := Option.some.inj H
  go_enter Try.func54, Try.ntmps54
  go_wp2
  go_ret
  exact ⟨by first | rfl | (simp; done) | (simp [wrap64]; done) | (simp [*]; done), by repeat (first | exact Drawn0.refl _ | apply Drawn0.step)⟩
 ·
  rw [if_neg c4] at H
  have c4b0 : decide (a1 ≤ a0) = false := decide_eq_false c4
  clear c4
  obtain rfl := Option.some.inj H
  go_enter Try.func54, Try.ntmps54
  go_wp2
  go_ret
  exact ⟨by first | rfl | (simp; done) | (simp [wrap64]; done) | (simp [*]; done), by repeat (first | exact Drawn0.refl _ | apply Drawn0.step)⟩

/-! ### impl_isArm: function 55 -/
def impl_isArm.f (a0 : Int) : Option (Bool) := (impl_within.f a0 1 12).bind fun t235 => (some t235)
set_option maxHeartbeats 8000000 in
set_option maxRecDepth 100000 in
theorem impl_isArm.calls (a0 : Int) (r : Bool) (w : World) (h : impl_isArm.f a0 = some r) :
  Calls Try.prog 55 #[.int .i64 a0] w fun e w' => e = .returned (.bool r) ∧ Drawn0 w w' := by
 have H : ((impl_within.f a0 1 12).bind fun t235 => (some t235)) = some r := h
 clear h
 replace H := Option.bind_eq_some_iff.mp H
 obtain ⟨t235, A20, H⟩ := H
 replace H : (some t235) = some r := H
 have A2 := Aside0.mk A20
 clear A20
 obtain rfl := Option.some.inj H
 go_enter Try.func55, Try.ntmps55
 go_wp2_with (first | ((with_reducible refine gate_callee (f := 54) rfl ?_); refine goesL_ (some 4) rfl rfl Try.func54 (by kernel_rfl) rfl #[.int .i64 a0, .int .i64 1, .int .i64 12] rfl tM ?_; (with_reducible refine (impl_within.calls a0 1 12 t235 _ A2.out).mono ?_); rintro e w' ⟨rfl, ⟨nd, rfl⟩⟩; refine ⟨_, rfl, ?_⟩))
 go_ret
 exact ⟨by first | rfl | (simp; done) | (simp [wrap64]; done) | (simp [*]; done), by repeat (first | exact Drawn0.refl _ | apply Drawn0.step)⟩

/-! ### impl_isWeight: function 56 -/
def impl_isWeight.f (a0 : Int) : Option (Bool) := (impl_within.f a0 1 99).bind fun t236 => (some t236)
set_option maxHeartbeats 8000000 in
set_option maxRecDepth 100000 in
theorem impl_isWeight.calls (a0 : Int) (r : Bool) (w : World) (h : impl_isWeight.f a0 = some r) :
  Calls Try.prog 56 #[.int .i64 a0] w fun e w' => e = .returned (.bool r) ∧ Drawn0 w w' := by
 have H : ((impl_within.f a0 1 99).bind fun t236 => (some t236)) = some r := h
 clear h
 replace H := Option.bind_eq_some_iff.mp H
 obtain ⟨t236, A20, H⟩ := H
 replace H : (some t236) = some r := H
 have A2 := Aside0.mk A20
 clear A20
 obtain rfl := Option.some.inj H
 go_enter Try.func56, Try.ntmps56
 go_wp2_with (first | ((with_reducible refine gate_callee (f := 54) rfl ?_); refine goesL_ (some 4) rfl rfl Try.func54 (by kernel_rfl) rfl #[.int .i64 a0, .int .i64 1, .int .i64 99] rfl tM ?_; (with_reducible refine (impl_within.calls a0 1 99 t236 _ A2.out).mono ?_); rintro e w' ⟨rfl, ⟨nd, rfl⟩⟩; refine ⟨_, rfl, ?_⟩))
 go_ret
 exact ⟨by first | rfl | (simp; done) | (simp [wrap64]; done) | (simp [*]; done), by repeat (first | exact Drawn0.refl _ | apply Drawn0.step)⟩

end Go.Proofs.Ytbdajkfihbaapaa.PFnExactLevelWeights

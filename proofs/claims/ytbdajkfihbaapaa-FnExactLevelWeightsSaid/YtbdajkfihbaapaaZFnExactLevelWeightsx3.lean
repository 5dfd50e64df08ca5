/- Printed by the program print2.py over the translation: each function as a Lean function, and the proof that the call comes to its answer. -/
import Derived.Test.YtbdajkfihbaapaaZFnExactLevelWeightsx0
import Derived.Test.YtbdajkfihbaapaaZFnExactLevelWeightsx2
namespace Go.Proofs.Ytbdajkfihbaapaa.PFnExactLevelWeights
open Go.RowKit Go.Proofs.YtbdajkfihbaapaaW.PrintWords Go.Proofs.YtbdajkfihbaapaaW.PrintLast Go.Proofs.YtbdajkfihbaapaaW.PrintMore
attribute [local go_sem] max2_int min2_int max_two min_two max_three min_three max_four min_four   -- for this text's walks alone
set_option linter.unusedVariables false
set_option linter.unusedSimpArgs false

/-! ### spec_l5Good: function 52 -/
mutual
def spec_l5Good.j0 : Nat → Int → Bool → List (S58) → List (S58) → Option (Bool)
 | 0, _, _, _, _ => none
 | k + 1, x3, x20, x146000, x146001 => if x20 = true then (some false) else (if 0 ≤ x3 then (if (x3 : Int).toNat ≤ 35184372088832 then ((some (List.replicate (x3 : Int).toNat 0 : List Int)).bind fun y147 => (if 0 < (y147.length : Int) then (spec_l5Good.l0 k x3 (y147.set (0 : Int).toNat 1) 0 x146000 x146001) else (none))) else (none)) else (none))
def spec_l5Good.l0 : Nat → Int → List Int → Int → List (S58) → List (S58) → Option (Bool)
 | 0, _, _, _, _, _ => none
 | k + 1, x3, x4, x5, x146000, x146001 => if x5 < x3 then (spec_l5Good.l1 k x3 x4 x5 0 x146000 x146001) else (spec_l5Good.l2 k x3 x4 0)
def spec_l5Good.l1 : Nat → Int → List Int → Int → Int → List (S58) → List (S58) → Option (Bool)
 | 0, _, _, _, _, _, _ => none
 | k + 1, x3, x4, x5, x6, x146000, x146001 => if x6 < 2 then (if 0 ≤ x5 then (if x5 < (x146000.length : Int) then (if x6 = 0 then ((spec_l1In.f ((rd_T58 x146000 x5).f0) 1 12).bind fun t152 => (if t152 = true then (if x5 < (x146001.length : Int) then ((spec_l5End.f x5 ((rd_T58 x146001 x5).f0) x3).bind fun t154 => (spec_l5Good.j3 k x3 x4 x5 x6 (!t154) x146000 x146001)) else (none)) else (spec_l5Good.j3 k x3 x4 x5 x6 true x146000 x146001))) else (if x6 = 1 then ((spec_l1In.f ((rd_T58 x146000 x5).f1) 1 12).bind fun t155 => (if t155 = true then (if x5 < (x146001.length : Int) then ((spec_l5End.f x5 ((rd_T58 x146001 x5).f1) x3).bind fun t157 => (spec_l5Good.j3 k x3 x4 x5 x6 (!t157) x146000 x146001)) else (none)) else (spec_l5Good.j3 k x3 x4 x5 x6 true x146000 x146001))) else (none))) else (none)) else (none)) else (spec_l5Good.l0 k x3 x4 (wrap64 (x5 + 1)) x146000 x146001)
def spec_l5Good.j3 : Nat → Int → List Int → Int → Int → Bool → List (S58) → List (S58) → Option (Bool)
 | 0, _, _, _, _, _, _, _ => none
 | k + 1, x3, x4, x5, x6, x55, x146000, x146001 => if x55 = true then (some false) else (if 0 ≤ x5 then (if x5 < (x146001.length : Int) then (if x6 = 0 then (if ((rd_T58 x146001 x5).f0) < 0 then (if 0 ≤ (wrap64 (-((rd_T58 x146001 x5).f0))) then (if (wrap64 (-((rd_T58 x146001 x5).f0))) < (x4.length : Int) then (spec_l5Good.l1 k x3 (x4.set ((wrap64 (-((rd_T58 x146001 x5).f0))) : Int).toNat (wrap64 ((rd x4 (wrap64 (-((rd_T58 x146001 x5).f0)))) + 1))) x5 (wrap64 (x6 + 1)) x146000 x146001) else (none)) else (none)) else (spec_l5Good.l1 k x3 x4 x5 (wrap64 (x6 + 1)) x146000 x146001)) else (if x6 = 1 then (if ((rd_T58 x146001 x5).f1) < 0 then (if 0 ≤ (wrap64 (-((rd_T58 x146001 x5).f1))) then (if (wrap64 (-((rd_T58 x146001 x5).f1))) < (x4.length : Int) then (spec_l5Good.l1 k x3 (x4.set ((wrap64 (-((rd_T58 x146001 x5).f1))) : Int).toNat (wrap64 ((rd x4 (wrap64 (-((rd_T58 x146001 x5).f1)))) + 1))) x5 (wrap64 (x6 + 1)) x146000 x146001) else (none)) else (none)) else (spec_l5Good.l1 k x3 x4 x5 (wrap64 (x6 + 1)) x146000 x146001)) else (none))) else (none)) else (none))
def spec_l5Good.l2 : Nat → Int → List Int → Int → Option (Bool)
 | 0, _, _, _ => none
 | k + 1, x3, x4, x7 => if x7 < x3 then (if 0 ≤ x7 then (if x7 < (x4.length : Int) then (if (rd x4 x7) = 1 then (spec_l5Good.l2 k x3 x4 (wrap64 (x7 + 1))) else (some false)) else (none)) else (none)) else (some true)
end
def spec_l5Good.f (k : Nat) (l0_0 : List (S58)) (l0_1 : List (S58)) : Option (Bool) := (spec_l1In.f (l0_0.length : Int) 1 6).bind fun t146 => (if t146 = true then (spec_l5Good.j0 k (l0_0.length : Int) ((l0_1.length : Int) != (l0_0.length : Int)) l0_0 l0_1) else (spec_l5Good.j0 k (l0_0.length : Int) true l0_0 l0_1))
theorem spec_l5Good.mono_l : ∀ k, (∀ y0 y1 y2 y3, LeO (spec_l5Good.j0 k y0 y1 y2 y3) (spec_l5Good.j0 (k + 1) y0 y1 y2 y3)) ∧ (∀ y0 y1 y2 y3 y4, LeO (spec_l5Good.l0 k y0 y1 y2 y3 y4) (spec_l5Good.l0 (k + 1) y0 y1 y2 y3 y4)) ∧ (∀ y0 y1 y2 y3 y4 y5, LeO (spec_l5Good.l1 k y0 y1 y2 y3 y4 y5) (spec_l5Good.l1 (k + 1) y0 y1 y2 y3 y4 y5)) ∧ (∀ y0 y1 y2 y3 y4 y5 y6, LeO (spec_l5Good.j3 k y0 y1 y2 y3 y4 y5 y6) (spec_l5Good.j3 (k + 1) y0 y1 y2 y3 y4 y5 y6)) ∧ (∀ y0 y1 y2, LeO (spec_l5Good.l2 k y0 y1 y2) (spec_l5Good.l2 (k + 1) y0 y1 y2))
 | 0 => ⟨fun _ _ _ _ r h => by simp [spec_l5Good.j0] at h, fun _ _ _ _ _ r h => by simp [spec_l5Good.l0] at h, fun _ _ _ _ _ _ r h => by simp [spec_l5Good.l1] at h, fun _ _ _ _ _ _ _ r h => by simp [spec_l5Good.j3] at h, fun _ _ _ r h => by simp [spec_l5Good.l2] at h⟩
 | k + 1 => by
  obtain ⟨ih0, ih1, ih2, ih3, ih4⟩ := spec_l5Good.mono_l k
  refine ⟨?_, ?_, ?_, ?_, ?_⟩
  ·
   intro y0 y1 y2 y3
   unfold spec_l5Good.j0
   repeat' first
   | (with_reducible exact ih0 _ _ _ _)
   | (with_reducible exact ih1 _ _ _ _ _)
   | (with_reducible exact ih2 _ _ _ _ _ _)
   | (with_reducible exact ih3 _ _ _ _ _ _ _)
   | (with_reducible exact ih4 _ _ _)
   | (with_reducible exact LeO.refl _)
   | (with_reducible exact LeO.none _)
   | (with_reducible refine LeO.ite ?_ ?_)
   | (with_reducible refine LeO.bind ?_ (fun _ => ?_))
   | exact ih0 _ _ _ _
   | exact ih1 _ _ _ _ _
   | exact ih2 _ _ _ _ _ _
   | exact ih3 _ _ _ _ _ _ _
   | exact ih4 _ _ _
   | exact LeO.none _
   | refine LeO.ite ?_ ?_
   | refine LeO.bind ?_ (fun _ => ?_)
  ·
   intro y0 y1 y2 y3 y4
   unfold spec_l5Good.l0
   repeat' first
   | (with_reducible exact ih0 _ _ _ _)
   | (with_reducible exact ih1 _ _ _ _ _)
   | (with_reducible exact ih2 _ _ _ _ _ _)
   | (with_reducible exact ih3 _ _ _ _ _ _ _)
   | (with_reducible exact ih4 _ _ _)
   | (with_reducible exact LeO.refl _)
   | (with_reducible exact LeO.none _)
   | (with_reducible refine LeO.ite ?_ ?_)
   | (with_reducible refine LeO.bind ?_ (fun _ => ?_))
   | exact ih0 _ _ _ _
   | exact ih1 _ _ _ _ _
   | exact ih2 _ _ _ _ _ _
   | exact ih3 _ _ _ _ _ _ _
   | exact ih4 _ _ _
   | exact LeO.none _
   | refine LeO.ite ?_ ?_
   | refine LeO.bind ?_ (fun _ => ?_)
  ·
   intro y0 y1 y2 y3 y4 y5
   unfold spec_l5Good.l1
   repeat' first
   | (with_reducible exact ih0 _ _ _ _)
   | (with_reducible exact ih1 _ _ _ _ _)
   | (with_reducible exact ih2 _ _ _ _ _ _)
   | (with_reducible exact ih3 _ _ _ _ _ _ _)
   | (with_reducible exact ih4 _ _ _)
   | (with_reducible exact LeO.refl _)
   | (with_reducible exact LeO.none _)
   | (with_reducible refine LeO.ite ?_ ?_)
   | (with_reducible refine LeO.bind ?_ (fun _ => ?_))
   | exact ih0 _ _ _ _
   | exact ih1 _ _ _ _ _
   | exact ih2 _ _ _ _ _ _
   | exact ih3 _ _ _ _ _ _ _
   | exact ih4 _ _ _
   | exact LeO.none _
   | refine LeO.ite ?_ ?_
   | refine LeO.bind ?_ (fun _ => ?_)
  ·
   intro y0 y1 y2 y3 y4 y5 y6
   unfold spec_l5Good.j3
   repeat' first
   | (with_reducible exact ih0 _ _ _ _)
   | (with_reducible exact ih1 _ _ _ _ _)
   | (with_reducible exact ih2 _ _ _ _ _ _)
   | (with_reducible exact ih3 _ _ _ _ _ _ _)
   | (with_reducible exact ih4 _ _ _)
   | (with_reducible exact LeO.refl _)
   | (with_reducible exact LeO.none _)
   | (with_reducible refine LeO.ite ?_ ?_)
   | (with_reducible refine LeO.bind ?_ (fun _ => ?_))
   | exact ih0 _ _ _ _
   | exact ih1 _ _ _ _ _
   | exact ih2 _ _ _ _ _ _
   | exact ih3 _ _ _ _ _ _ _
   | exact ih4 _ _ _
   | exact LeO.none _
   | refine LeO.ite ?_ ?_
   | refine LeO.bind ?_ (fun _ => ?_)
  ·
   intro y0 y1 y2
   unfold spec_l5Good.l2
   repeat' first
   | (with_reducible exact ih0 _ _ _ _)
   | (with_reducible exact ih1 _ _ _ _ _)
   | (with_reducible exact ih2 _ _ _ _ _ _)
   | (with_reducible exact ih3 _ _ _ _ _ _ _)
   | (with_reducible exact ih4 _ _ _)
   | (with_reducible exact LeO.refl _)
   | (with_reducible exact LeO.none _)
   | (with_reducible refine LeO.ite ?_ ?_)
   | (with_reducible refine LeO.bind ?_ (fun _ => ?_))
   | exact ih0 _ _ _ _
   | exact ih1 _ _ _ _ _
   | exact ih2 _ _ _ _ _ _
   | exact ih3 _ _ _ _ _ _ _
   | exact ih4 _ _ _
   | exact LeO.none _
   | refine LeO.ite ?_ ?_
   | refine LeO.bind ?_ (fun _ => ?_)
theorem spec_l5Good.mono : ∀ a0 a1 k, LeO (spec_l5Good.f k a0 a1) (spec_l5Good.f (k + 1) a0 a1) := by
 intro a0 a1 k
 obtain ⟨ih0, ih1, ih2, ih3, ih4⟩ := spec_l5Good.mono_l k
 unfold spec_l5Good.f
 repeat' first
   | (with_reducible exact ih0 _ _ _ _)
   | (with_reducible exact ih1 _ _ _ _ _)
   | (with_reducible exact ih2 _ _ _ _ _ _)
   | (with_reducible exact ih3 _ _ _ _ _ _ _)
   | (with_reducible exact ih4 _ _ _)
   | (with_reducible exact LeO.refl _)
   | (with_reducible exact LeO.none _)
   | (with_reducible refine LeO.ite ?_ ?_)
   | (with_reducible refine LeO.bind ?_ (fun _ => ?_))
   | exact ih0 _ _ _ _
   | exact ih1 _ _ _ _ _
   | exact ih2 _ _ _ _ _ _
   | exact ih3 _ _ _ _ _ _ _
   | exact ih4 _ _ _
   | exact LeO.none _
   | refine LeO.ite ?_ ?_
   | refine LeO.bind ?_ (fun _ => ?_)
set_option maxHeartbeats 8000000 in
set_option maxRecDepth 100000 in
theorem spec_l5Good.calls (k : Nat) (A0_0 : Option Addr) (c0_0 : Nat) (l0_0 : List (S58)) (A0_1 : Option Addr) (c0_1 : Nat) (l0_1 : List (S58)) (r : Bool) (w : World) (hr0_0 : Kd.C k58 w A0_0 l0_0.length l0_0) (hc0_0 : l0_0.length ≤ c0_0) (hr0_1 : Kd.C k58 w A0_1 l0_1.length l0_1) (hc0_1 : l0_1.length ≤ c0_1) (h : spec_l5Good.f k l0_0 l0_1 = some r) :
  Calls Try.prog 52 #[.agg #[.slice A0_0 l0_0.length c0_0, .slice A0_1 l0_1.length c0_1]] w fun e w' => e = .returned (.bool r) ∧ Below w.heap.size w w' := by
 have hu27 := Try.underlying27
 have hwz_ : wrap64 0 = 0 := by simp [wrap64]
 have hwo_ : wrap64 1 = 1 := by simp [wrap64]
 have HR0_0 := Aside0.mk hr0_0
 have HC0_0 := Aside0.mk hc0_0
 clear hr0_0 hc0_0
 have HR0_1 := Aside0.mk hr0_1
 have HC0_1 := Aside0.mk hc0_1
 clear hr0_1 hc0_1
 have HB := Aside0.mk (Below.refl w.heap.size w)
 have H : ((spec_l1In.f (l0_0.length : Int) 1 6).bind fun t146 => (if t146 = true then (spec_l5Good.j0 k (l0_0.length : Int) ((l0_1.length : Int) != (l0_0.length : Int)) l0_0 l0_1) else (spec_l5Good.j0 k (l0_0.length : Int) true l0_0 l0_1))) = some r := h
 clear h
 have HC2 := Aside0.mk H
 clear H
 go_enter Try.func52, Try.ntmps52
 go_upto_region 2 with (first | ((with_reducible refine gate_dst (N := 1) rfl ?_); (try (refine gate_guard (by rfl) ?_; dsimp only)); refine box_event ?hg (N := 1) ?hd (cs := #[.slice A0_0 l0_0.length c0_0, .slice A0_1 l0_1.length c0_1]) (t := 27) ?hr ?_; (case hd => rfl); (case hg => rfl); (case hr => first | (go_simp; done) | (go_simp; rfl)); intro gb145 hg w3 hbox hb; have BK145 := Aside0.mk (hbox); have GW145 := Aside0.mk (bS HB.out hg); have GE145 := Aside0.mk (bS HB.out hg); replace HB := Aside0.mk (below_step (tB HB.out) hb); clear hb hbox hg; obtain ⟨hcz4_0, hfz4_0, hcz4_1, hfz4_1⟩ := cz2 BK145))
 (try simp only [Act.put, List.setIfInBounds_toArray, List.set_cons_zero, List.set_cons_succ])
 go_cut [20] (fun v20 wc => ∃ (kq : Nat) (x20_1 : Bool), v20 = .bool x20_1 ∧ Aside0 (spec_l5Good.j0 kq (l0_0.length : Int) x20_1 l0_0 l0_1 = some r) ∧ Aside0 (kq ≤ k) ∧ Aside0 (wc.heap[gb145]? = some (.cells #[(.slice A0_0 l0_0.length c0_0), (.slice A0_1 l0_1.length c0_1)] 27 (0, 0))) ∧ Aside0 (Below w.heap.size w wc))
 case first =>
  have H := HC2.out
  clear HC2
  replace H := Option.bind_eq_some_iff.mp H
  obtain ⟨t146, A50, H⟩ := H
  replace H : (if t146 = true then (spec_l5Good.j0 k (l0_0.length : Int) ((l0_1.length : Int) != (l0_0.length : Int)) l0_0 l0_1) else (spec_l5Good.j0 k (l0_0.length : Int) true l0_0 l0_1)) = some r := H
  have A5 := Aside0.mk A50
  clear A50
  by_cases c6 : t146 = true
  ·
   subst c6
   have H1 : (spec_l5Good.j0 k (l0_0.length : Int) ((l0_1.length : Int) != (l0_0.length : Int)) l0_0 l0_1) = some r := by rw [if_pos rfl] at H; exact H
   clear H
   have H := H1
   clear H1
   have H' := Aside0.mk H
   clear H
   go_wp2_with (first | ((with_reducible refine gate_callee (f := 91) rfl ?_); refine goesL_ (some 12) rfl rfl Try.func91 (by kernel_rfl) rfl #[.int .i64 (l0_0.length : Int), .int .i64 1, .int .i64 6] rfl tM ?_; (with_reducible refine (spec_l1In.calls (l0_0.length : Int) 1 6 true _ A5.out).mono ?_); rintro e w' ⟨rfl, ⟨nd, rfl⟩⟩; refine ⟨_, rfl, ?_⟩; obtain ⟨hcz7_0, hfz7_0, hcz7_1, hfz7_1⟩ := cz2 BK145))
   go_meet
   case rel => exact ⟨_, (((l0_1.length : Int) != (l0_0.length : Int))), (by first | rfl | (simp; done) | (simp [wrap64]; done) | (simp [*]; done)), H', ⟨by first | omega | exact Nat.le_refl _⟩, ⟨tK BK145.out⟩, ⟨tB HB.out⟩⟩
  ·
   replace c6 := Bool.eq_false_iff.mpr c6
   subst c6
   have H1 : (spec_l5Good.j0 k (l0_0.length : Int) true l0_0 l0_1) = some r := by rw [if_neg (show ¬ (false = true) by decide)] at H; exact H
   clear H
   have H := H1
   clear H1
   have H' := Aside0.mk H
   clear H
   go_wp2_with (first | ((with_reducible refine gate_callee (f := 91) rfl ?_); refine goesL_ (some 12) rfl rfl Try.func91 (by kernel_rfl) rfl #[.int .i64 (l0_0.length : Int), .int .i64 1, .int .i64 6] rfl tM ?_; (with_reducible refine (spec_l1In.calls (l0_0.length : Int) 1 6 false _ A5.out).mono ?_); rintro e w' ⟨rfl, ⟨nd, rfl⟩⟩; refine ⟨_, rfl, ?_⟩))
   go_meet
   case rel => exact ⟨_, (true), (by first | rfl | (simp; done) | (simp [wrap64]; done) | (simp [*]; done)), H', ⟨by first | omega | exact Nat.le_refl _⟩, ⟨tK BK145.out⟩, ⟨tB HB.out⟩⟩
 case rest =>
  clear HC2
  try clear p2
  try clear c5
  try clear c6
  try clear p6
  try clear hcz4_0
  try clear hcz4_1
  try clear hcz7_0
  try clear hcz7_1
  try clear hfz4_0
  try clear hfz4_1
  try clear hfz7_0
  try clear hfz7_1
  obtain ⟨kq, x20_1, rfl, HA, HJ1, BK145, HB⟩ := hcut
  cases kq with
  | zero => exact absurd HA.out (by simp [spec_l5Good.j0])
  | succ kj1 =>
   have H := HA.out
   clear HA
   simp only [spec_l5Good.j0] at H
   by_cases c8 : x20_1 = true
   ·
    subst c8
    have H1 : (some false) = some r := by rw [if_pos rfl] at H; exact H
    clear H
    have H := H1
    clear H1
    obtain rfl := Option.some.inj H
    go_wp2
    go_ret
    exact ⟨by first | rfl | (simp [errW_none, errW_some] <;> rfl) | (simp [*, errW_none, errW_some] <;> rfl), tB HB.out⟩
   ·
    replace c8 := Bool.eq_false_iff.mpr c8
    subst c8
    have H1 : (if 0 ≤ (l0_0.length : Int) then (if ((l0_0.length : Int) : Int).toNat ≤ 35184372088832 then ((some (List.replicate ((l0_0.length : Int) : Int).toNat 0 : List Int)).bind fun y147 => (if 0 < (y147.length : Int) then (spec_l5Good.l0 kj1 (l0_0.length : Int) (y147.set (0 : Int).toNat 1) 0 l0_0 l0_1) else (none))) else (none)) else (none)) = some r := by rw [if_neg (show ¬ (false = true) by decide)] at H; exact H
    clear H
    have H := H1
    clear H1
    by_cases c9 : 0 ≤ (l0_0.length : Int)
    ·
     rw [if_pos c9] at H
     have c9b0 := eq_true c9
     have c9b1 : decide (0 ≤ (l0_0.length : Int)) = true := decide_eq_true c9
     clear c9
     by_cases c10 : ((l0_0.length : Int) : Int).toNat ≤ 35184372088832
     ·
      rw [if_pos c10] at H
      have c10b0 := eq_true c10
      have c10b1 : decide (((l0_0.length : Int) : Int).toNat ≤ 35184372088832) = true := decide_eq_true c10
      clear c10
      obtain ⟨y147, hy147⟩ : ∃ y_ : List Int, y_ = (List.replicate ((l0_0.length : Int) : Int).toNat 0) := ⟨_, rfl⟩
      replace H : (if 0 < (y147.length : Int) then (spec_l5Good.l0 kj1 (l0_0.length : Int) (y147.set (0 : Int).toNat 1) 0 l0_0 l0_1) else (none)) = some r := by first | (rw [hy147]; with_reducible exact H) | (have H2_ := (Option.bind_some _ _).symm.trans H; rw [hy147]; with_reducible exact H2_) | (have H2_ := (Option.bind_some _ _).symm.trans H; with_reducible exact H2_) | with_reducible exact H | (rw [hy147]; exact H) | exact H
      have Ny147 := Aside0.mk hy147
      clear hy147
      by_cases c11 : 0 < (y147.length : Int)
      ·
       rw [if_pos c11] at H
       have c11b0 : decide (0 < (y147.length : Int)) = true := decide_eq_true c11
       have c11b1 : decide (0 < y147.length) = true := decide_eq_true (by omega)
       clear c11
       obtain ⟨y150, hy150⟩ : ∃ y_ : List Int, y_ = (y147.set (0 : Int).toNat 1) := ⟨_, rfl⟩
       replace H : (spec_l5Good.l0 kj1 (l0_0.length : Int) y150 0 l0_0 l0_1) = some r := by first | (rw [hy150]; with_reducible exact H) | (have H2_ := (Option.bind_some _ _).symm.trans H; rw [hy150]; with_reducible exact H2_) | (have H2_ := (Option.bind_some _ _).symm.trans H; with_reducible exact H2_) | with_reducible exact H | (rw [hy150]; exact H) | exact H
       have Ny150 := Aside0.mk hy150
       clear hy150
       have H' := Aside0.mk H
       clear H
       go_wp2_with (first | ((with_reducible refine gate_dst (N := 22) rfl ?_); (try (refine gate_guard (by rfl) ?_; dsimp only)); refine Kd.R_make (Kd.int .i64) _ 3 rfl (N := 22) rfl 37 _ _ rfl (l0_0.length : Int) rfl rfl Try.underlying37 (.int .i64 0) 8 info3 rfl (by decide) (by omega) 0 (ok := fun _ => True) (okp := fun _ => True) rfl (fun _ hk => hk) trivial (of_decide_eq_true (by first | (with_reducible assumption) | assumption)) (Nat.le_trans (Nat.mul_le_mul_right _ (of_decide_eq_true (by first | (with_reducible assumption) | assumption) : (l0_0.length : Int).toNat ≤ 35184372088832)) (by omega)) (Below.refl _ _) (Nat.le_refl _) ?_; intro v148 w13 ho14 hb hg_ hnew_; clear hg_ hnew_; (first | rw [← Ny147.out] at ho14 | (simp only [Int.reduceToNat] at ho14; rw [← Ny147.out] at ho14)); have HO149 := Aside0.mk (Kd.R_lower ho14 (below_size (tB HB.out))); replace BK145 := bkB BK145 hb; replace HB := Aside0.mk (below_step (tB HB.out) hb); clear hb ho14; have p12 : 0 ≤ (0 : Int) := (by omega); have q12 : (0 : Int) < ((y147.length : Int) : Int) := of_decide_eq_true (by first | (with_reducible assumption) | assumption); have qi12 : (0 < y147.length) = True := eq_true (by omega); obtain ⟨go12, co12, eo12, gb12, gl12, cl12, HG12⟩ := Kd.R_form HO149.out (by omega); (first | cases eo12 | (injection eo12 with ea_ en_ ec_; (first | subst ea_ | (injection ea_ with ea_; subst ea_)); subst ec_; clear en_)); have GB12 := Aside0.mk gb12; have GG12 := Aside0.mk HG12; clear gb12 gl12 HG12; obtain ⟨hx12_0, hf12_0⟩ := Kd.R_celln 0 HO149.out (0 : Int) p12 q12; (try rw [show ((0 : Int)).toNat = 0 from rfl] at hx12_0); (try simp only [Nat.reduceMul, Nat.zero_mul, Nat.zero_add, Nat.reduceAdd] at hx12_0); (try rw [show ((0 : Int)).toNat = 0 from rfl] at hf12_0); (try simp only [Nat.reduceMul, Nat.zero_mul, Nat.zero_add, Nat.reduceAdd] at hf12_0); replace p12 := eq_true p12; replace q12 := eq_true q12; obtain ⟨hy15_, hz15_⟩ := Kd.R_celln 0 HO149.out (0 : Int) (by omega) (of_decide_eq_true (by first | (with_reducible assumption) | assumption)); (try simp only [Int.reduceToNat, Int.toNat_zero, Int.toNat_ofNat, Nat.reduceMul, Nat.zero_mul, Nat.zero_add] at hy15_ hz15_); (try rw [show ((0 : Int)).toNat = 0 from rfl] at hy15_); (try rw [show ((0 : Int)).toNat = 0 from rfl] at hz15_); have HP15 := Kd.R_putg HO149.out (0 : Int) 1) | ((with_reducible refine gate_store (t := 3) (p := 24) rfl ?_); refine store_event (t := 3) (p := 24) (v := ?vo_w16) (w1 := (w13.setCell ⟨go12, (0 : Int).toNat, none⟩ (.int .i64 1))) ?hg ?ho ?hn ?hr ?_; (case ho => rfl); (case hg => rfl); (case hn => rfl); (case hr => first | (go_simp; done) | (go_simp; rfl)); intro w16 hw; have hg : w13.grownBy w16 (some go12) := (by rw [hw]; exact HP15.2); have hp_ : Kd.R (Kd.int .i64) 3 w16 w.heap.size (fun _ => True) (.slice (some ⟨go12, 0, none⟩) y147.length co12) y150 := (by rw [hw, Ny150.out]; exact HP15.1); clear HP15; replace BK145 := Aside0.mk (blk_grown (g := gb145) (o := .cells #[.slice A0_0 l0_0.length c0_0, .slice A0_1 l0_1.length c0_1] 27 (0, 0)) (tK BK145.out) hg (Kd.R_ne HO149.out BK145.out (by decide))); replace HO149 := Aside0.mk (hp_); replace HB := Aside0.mk ((by rw [hw]; exact below_set (HB.out) GB12.out : Below w.heap.size w w16)); clear hg hw hp_))
       go_loopg [5] kj1 (fun kq v5 w' => ∃ (x4_2 : List Int) (x5_2 : Int), v5 = .int .i64 x5_2 ∧ Aside0 (spec_l5Good.l0 kq (l0_0.length : Int) x4_2 x5_2 l0_0 l0_1 = some r) ∧ Aside0 (kq ≤ kj1) ∧ Aside0 (Kd.R (Kd.int .i64) 3 w' w.heap.size (fun _ => True) (.slice (some ⟨go12, 0, none⟩) y147.length co12) x4_2) ∧ Aside0 (w'.heap[gb145]? = some (.cells #[(.slice A0_0 l0_0.length c0_0), (.slice A0_1 l0_1.length c0_1)] 27 (0, 0))) ∧ Aside0 (Below w.heap.size w w'))
       case atStart => exact ⟨(y150), (0), (by first | rfl | (simp; done) | (simp [wrap64]; done) | (simp [*]; done)), H', ⟨Nat.le_refl _⟩, ⟨tR HO149.out⟩, ⟨tK BK145.out⟩, ⟨tB HB.out⟩⟩
       case round =>
        clear H'
        try clear c1
        try clear p1
        try clear q1
        try clear hx1
        try clear qi1
        try clear hf1
        try clear p2
        try clear c5
        try clear c6
        try clear p6
        try clear c8
        try clear c9
        try clear c9b0
        try clear c9b1
        try clear c10
        try clear c10b0
        try clear c10b1
        try clear c11
        try clear c11b0
        try clear c11b1
        try clear p12
        try clear q12
        try clear hx12
        try clear qi12
        try clear hf12
        try clear hcz4_0
        try clear hcz4_1
        try clear hcz7_0
        try clear hcz7_1
        try clear hfz4_0
        try clear hfz4_1
        try clear hfz7_0
        try clear hfz7_1
        try clear hx12_0
        try clear p12
        try clear p2
        try clear p6
        try clear q12
        obtain ⟨x4_2, x5_2, rfl, HA, HK2, HO_4, BK145, HB⟩ := hrel
        have hl4_2 := (Kd.R_reads' HO_4.out).1
        rw [hl4_2] at HO_4
        (try simp only [hl4_2])
        (try simp only [hl4_2] at BK145)
        cases gk with
        | zero => exact absurd HA.out (by simp [spec_l5Good.l0])
        | succ k2 =>
         have H := HA.out
         clear HA
         simp only [spec_l5Good.l0] at H
         by_cases c17 : x5_2 < (l0_0.length : Int)
         ·
          rw [if_pos c17] at H
          have c17b0 : decide (x5_2 < (l0_0.length : Int)) = true := decide_eq_true c17
          clear c17
          have H' := Aside0.mk H
          clear H
          go_wp2
          go_loopg [6] k2 (fun kq v6 w' => ∃ (x4_3 : List Int) (x6_3 : Int), v6 = .int .i64 x6_3 ∧ Aside0 (spec_l5Good.l1 kq (l0_0.length : Int) x4_3 x5_2 x6_3 l0_0 l0_1 = some r) ∧ Aside0 (kq ≤ k2) ∧ Aside0 (Kd.R (Kd.int .i64) 3 w' w.heap.size (fun _ => True) (.slice (some ⟨go12, 0, none⟩) x4_2.length co12) x4_3) ∧ Aside0 (w'.heap[gb145]? = some (.cells #[(.slice A0_0 l0_0.length c0_0), (.slice A0_1 l0_1.length c0_1)] 27 (0, 0))) ∧ Aside0 (Below w.heap.size w w'))
          case atStart => exact ⟨(x4_2), (0), (by first | rfl | (simp; done) | (simp [wrap64]; done) | (simp [*]; done)), H', ⟨Nat.le_refl _⟩, ⟨by (try simp only [hl4_2]); (with_reducible repeat (first | apply Kd.R_alloc | apply Kd.R_drewN | apply Kd.R_drew)); exact HO_4.out⟩, ⟨by (try simp only [hl4_2]); (with_reducible repeat (first | refine blk_drewN ?_ _ | refine blk_drew ?_ | refine blk_alloc ?_ _)); exact BK145.out⟩, ⟨tB HB.out⟩⟩
          case round =>
           clear H'
           try clear c1
           try clear p1
           try clear q1
           try clear hx1
           try clear qi1
           try clear hf1
           try clear p2
           try clear c5
           try clear c6
           try clear p6
           try clear c8
           try clear c9
           try clear c9b0
           try clear c9b1
           try clear c10
           try clear c10b0
           try clear c10b1
           try clear c11
           try clear c11b0
           try clear c11b1
           try clear p12
           try clear q12
           try clear hx12
           try clear qi12
           try clear hf12
           try clear c17
           try clear c17b0
           try clear hcz4_0
           try clear hcz4_1
           try clear hcz7_0
           try clear hcz7_1
           try clear hfz4_0
           try clear hfz4_1
           try clear hfz7_0
           try clear hfz7_1
           try clear hx12_0
           try clear p1
           try clear p12
           try clear p2
           try clear p6
           try clear q1
           try clear q12
           obtain ⟨x4_3, x6_3, rfl, HA, HK3, HO_4, BK145, HB⟩ := hrel
           have hl4_3 := (Kd.R_reads' HO_4.out).1
           rw [hl4_3] at HO_4
           (try simp only [hl4_3])
           (try simp only [hl4_3] at BK145)
           cases gk with
           | zero => exact absurd HA.out (by simp [spec_l5Good.l1])
           | succ k3 =>
            have H := HA.out
            clear HA
            simp only [spec_l5Good.l1] at H
            by_cases c18 : x6_3 < 2
            ·
             rw [if_pos c18] at H
             have c18b0 : decide (x6_3 < 2) = true := decide_eq_true c18
             clear c18
             have HC19 := Aside0.mk H
             clear H
             go_upto_region 12 with (fail)
             go_cut [55] (fun v55 wc => ∃ (kq : Nat) (x55_18 : Bool), v55 = .bool x55_18 ∧ Aside0 (spec_l5Good.j3 kq (l0_0.length : Int) x4_3 x5_2 x6_3 x55_18 l0_0 l0_1 = some r) ∧ Aside0 (kq ≤ k3) ∧ Aside0 (Kd.R (Kd.int .i64) 3 wc w.heap.size (fun _ => True) (.slice (some ⟨go12, 0, none⟩) x4_3.length co12) x4_3) ∧ Aside0 (wc.heap[gb145]? = some (.cells #[(.slice A0_0 l0_0.length c0_0), (.slice A0_1 l0_1.length c0_1)] 27 (0, 0))) ∧ Aside0 (Below w.heap.size w wc))
             case first =>
              have H := HC19.out
              clear HC19
              by_cases c20 : 0 ≤ x5_2
              ·
               rw [if_pos c20] at H
               have c20b0 : decide (0 ≤ x5_2) = true := decide_eq_true c20
               clear c20
               (first | rw [c20b0] | (simp only [i64_w, i32_w]; rw [c20b0]) | skip)
               by_cases c21 : x5_2 < (l0_0.length : Int)
               ·
                rw [if_pos c21] at H
                have c21b0 : decide (x5_2 < (l0_0.length : Int)) = true := decide_eq_true c21
                clear c21
                by_cases c22 : x6_3 = 0
                ·
                 subst c22
                 have H1 : ((spec_l1In.f ((rd_T58 l0_0 x5_2).f0) 1 12).bind fun t152 => (if t152 = true then (if x5_2 < (l0_1.length : Int) then ((spec_l5End.f x5_2 ((rd_T58 l0_1 x5_2).f0) (l0_0.length : Int)).bind fun t154 => (spec_l5Good.j3 k3 (l0_0.length : Int) x4_3 x5_2 0 (!t154) l0_0 l0_1)) else (none)) else (spec_l5Good.j3 k3 (l0_0.length : Int) x4_3 x5_2 0 true l0_0 l0_1))) = some r := by rw [if_pos rfl] at H; exact H
                 clear H
                 have H := H1
                 clear H1
                 replace H := Option.bind_eq_some_iff.mp H
                 obtain ⟨t152, A230, H⟩ := H
                 replace H : (if t152 = true then (if x5_2 < (l0_1.length : Int) then ((spec_l5End.f x5_2 ((rd_T58 l0_1 x5_2).f0) (l0_0.length : Int)).bind fun t154 => (spec_l5Good.j3 k3 (l0_0.length : Int) x4_3 x5_2 0 (!t154) l0_0 l0_1)) else (none)) else (spec_l5Good.j3 k3 (l0_0.length : Int) x4_3 x5_2 0 true l0_0 l0_1)) = some r := H
                 have A23 := Aside0.mk A230
                 clear A230
                 by_cases c24 : t152 = true
                 ·
                  subst c24
                  have H1 : (if x5_2 < (l0_1.length : Int) then ((spec_l5End.f x5_2 ((rd_T58 l0_1 x5_2).f0) (l0_0.length : Int)).bind fun t154 => (spec_l5Good.j3 k3 (l0_0.length : Int) x4_3 x5_2 0 (!t154) l0_0 l0_1)) else (none)) = some r := by rw [if_pos rfl] at H; exact H
                  clear H
                  have H := H1
                  clear H1
                  by_cases c25 : x5_2 < (l0_1.length : Int)
                  ·
                   rw [if_pos c25] at H
                   have c25b0 : decide (x5_2 < (l0_1.length : Int)) = true := decide_eq_true c25
                   clear c25
                   replace H := Option.bind_eq_some_iff.mp H
                   obtain ⟨t154, A260, H⟩ := H
                   replace H : (spec_l5Good.j3 k3 (l0_0.length : Int) x4_3 x5_2 0 (!t154) l0_0 l0_1) = some r := H
                   have A26 := Aside0.mk A260
                   clear A260
                   have H' := Aside0.mk H
                   clear H
                   obtain ⟨hcz27_0, hfz27_0, hcz27_1, hfz27_1⟩ := cz2 BK145
                   have p151 : 0 ≤ (x5_2 : Int) := of_decide_eq_true (by first | (with_reducible assumption) | assumption)
                   have q151 : x5_2 < (l0_0.length : Int) := of_decide_eq_true (by first | (with_reducible assumption) | assumption)
                   obtain ⟨ad151, e151, hx151_0, hx151_1⟩ := at_T58 HR0_0.out x5_2 p151 q151
                   cases e151
                   replace hx151_0 := (HB.out.cell (World.block_lt_of_cell? w _ hx151_0)).trans hx151_0
                   replace hx151_1 := (HB.out.cell (World.block_lt_of_cell? w _ hx151_1)).trans hx151_1
                   replace p151 := eq_true p151
                   replace q151 := eq_true q151
                   go_wp2_with (first | ((with_reducible refine gate_callee (f := 91) rfl ?_); refine goesL_ (some 41) rfl rfl Try.func91 (by kernel_rfl) rfl #[.int .i64 ((rd_T58 l0_0 x5_2).f0), .int .i64 1, .int .i64 12] rfl tM ?_; (with_reducible refine (spec_l1In.calls ((rd_T58 l0_0 x5_2).f0) 1 12 true _ A23.out).mono ?_); rintro e w' ⟨rfl, ⟨nd, rfl⟩⟩; refine ⟨_, rfl, ?_⟩; have p153 : 0 ≤ (x5_2 : Int) := of_decide_eq_true (by first | (with_reducible assumption) | assumption); have q153 : x5_2 < (l0_1.length : Int) := of_decide_eq_true (by first | (with_reducible assumption) | assumption); obtain ⟨ad153, e153, hx153_0, hx153_1⟩ := at_T58 HR0_1.out x5_2 p153 q153; cases e153; replace hx153_0 := (HB.out.cell (World.block_lt_of_cell? w _ hx153_0)).trans hx153_0; replace hx153_1 := (HB.out.cell (World.block_lt_of_cell? w _ hx153_1)).trans hx153_1; replace p153 := eq_true p153; replace q153 := eq_true q153) | (go_at_call 92; (with_reducible refine (spec_l5End.calls x5_2 ((rd_T58 l0_1 x5_2).f0) (l0_0.length : Int) t154 _ A26.out).mono ?_); rintro e w' ⟨rfl, ⟨nd, rfl⟩⟩))
                   go_meet
                   case rel => exact ⟨_, (!t154), (by first | rfl | (simp; done) | (simp [wrap64]; done) | (simp [*]; done)), H', ⟨by have := HJ1.out; have := HK2.out; have := HK3.out; first | omega | exact Nat.le_refl _⟩, ⟨by (try simp only [hl4_2]); (try simp only [hl4_3]); (with_reducible repeat (first | apply Kd.R_alloc | apply Kd.R_drewN | apply Kd.R_drew)); exact HO_4.out⟩, ⟨by (try simp only [hl4_2]); (try simp only [hl4_3]); (with_reducible repeat (first | refine blk_drewN ?_ _ | refine blk_drew ?_ | refine blk_alloc ?_ _)); exact BK145.out⟩, ⟨tB HB.out⟩⟩
                  ·
                   rw [if_neg c25] at H
                   exact absurd H (by simp)
                 ·
                  replace c24 := Bool.eq_false_iff.mpr c24
                  subst c24
                  have H1 : (spec_l5Good.j3 k3 (l0_0.length : Int) x4_3 x5_2 0 true l0_0 l0_1) = some r := by rw [if_neg (show ¬ (false = true) by decide)] at H; exact H
                  clear H
                  have H := H1
                  clear H1
                  have H' := Aside0.mk H
                  clear H
                  obtain ⟨hcz28_0, hfz28_0, hcz28_1, hfz28_1⟩ := cz2 BK145
                  have p151 : 0 ≤ (x5_2 : Int) := of_decide_eq_true (by first | (with_reducible assumption) | assumption)
                  have q151 : x5_2 < (l0_0.length : Int) := of_decide_eq_true (by first | (with_reducible assumption) | assumption)
                  obtain ⟨ad151, e151, hx151_0, hx151_1⟩ := at_T58 HR0_0.out x5_2 p151 q151
                  cases e151
                  replace hx151_0 := (HB.out.cell (World.block_lt_of_cell? w _ hx151_0)).trans hx151_0
                  replace hx151_1 := (HB.out.cell (World.block_lt_of_cell? w _ hx151_1)).trans hx151_1
                  replace p151 := eq_true p151
                  replace q151 := eq_true q151
                  go_wp2_with (first | ((with_reducible refine gate_callee (f := 91) rfl ?_); refine goesL_ (some 41) rfl rfl Try.func91 (by kernel_rfl) rfl #[.int .i64 ((rd_T58 l0_0 x5_2).f0), .int .i64 1, .int .i64 12] rfl tM ?_; (with_reducible refine (spec_l1In.calls ((rd_T58 l0_0 x5_2).f0) 1 12 false _ A23.out).mono ?_); rintro e w' ⟨rfl, ⟨nd, rfl⟩⟩; refine ⟨_, rfl, ?_⟩))
                  go_meet
                  case rel => exact ⟨_, (true), (by first | rfl | (simp; done) | (simp [wrap64]; done) | (simp [*]; done)), H', ⟨by have := HJ1.out; have := HK2.out; have := HK3.out; first | omega | exact Nat.le_refl _⟩, ⟨by (try simp only [hl4_2]); (try simp only [hl4_3]); (with_reducible repeat (first | apply Kd.R_alloc | apply Kd.R_drewN | apply Kd.R_drew)); exact HO_4.out⟩, ⟨by (try simp only [hl4_2]); (try simp only [hl4_3]); (with_reducible repeat (first | refine blk_drewN ?_ _ | refine blk_drew ?_ | refine blk_alloc ?_ _)); exact BK145.out⟩, ⟨tB HB.out⟩⟩
                ·
                 rw [if_neg c22] at H
                 have c22b0 : (x6_3 == 0) = false := beq_eq_false_iff_ne.mpr c22
                 have c22b1 : (x6_3 != 0) = true := bne_iff_ne.mpr c22
                 by_cases c29 : x6_3 = 1
                 ·
                  subst c29
                  have H1 : ((spec_l1In.f ((rd_T58 l0_0 x5_2).f1) 1 12).bind fun t155 => (if t155 = true then (if x5_2 < (l0_1.length : Int) then ((spec_l5End.f x5_2 ((rd_T58 l0_1 x5_2).f1) (l0_0.length : Int)).bind fun t157 => (spec_l5Good.j3 k3 (l0_0.length : Int) x4_3 x5_2 1 (!t157) l0_0 l0_1)) else (none)) else (spec_l5Good.j3 k3 (l0_0.length : Int) x4_3 x5_2 1 true l0_0 l0_1))) = some r := by rw [if_pos rfl] at H; exact H
                  clear H
                  have H := H1
                  clear H1
                  replace H := Option.bind_eq_some_iff.mp H
                  obtain ⟨t155, A300, H⟩ := H
                  replace H : (if t155 = true then (if x5_2 < (l0_1.length : Int) then ((spec_l5End.f x5_2 ((rd_T58 l0_1 x5_2).f1) (l0_0.length : Int)).bind fun t157 => (spec_l5Good.j3 k3 (l0_0.length : Int) x4_3 x5_2 1 (!t157) l0_0 l0_1)) else (none)) else (spec_l5Good.j3 k3 (l0_0.length : Int) x4_3 x5_2 1 true l0_0 l0_1)) = some r := H
                  have A30 := Aside0.mk A300
                  clear A300
                  by_cases c31 : t155 = true
                  ·
                   subst c31
                   have H1 : (if x5_2 < (l0_1.length : Int) then ((spec_l5End.f x5_2 ((rd_T58 l0_1 x5_2).f1) (l0_0.length : Int)).bind fun t157 => (spec_l5Good.j3 k3 (l0_0.length : Int) x4_3 x5_2 1 (!t157) l0_0 l0_1)) else (none)) = some r := by rw [if_pos rfl] at H; exact H
                   clear H
                   have H := H1
                   clear H1
                   by_cases c32 : x5_2 < (l0_1.length : Int)
                   ·
                    rw [if_pos c32] at H
                    have c32b0 : decide (x5_2 < (l0_1.length : Int)) = true := decide_eq_true c32
                    clear c32
                    replace H := Option.bind_eq_some_iff.mp H
                    obtain ⟨t157, A330, H⟩ := H
                    replace H : (spec_l5Good.j3 k3 (l0_0.length : Int) x4_3 x5_2 1 (!t157) l0_0 l0_1) = some r := H
                    have A33 := Aside0.mk A330
                    clear A330
                    have H' := Aside0.mk H
                    clear H
                    obtain ⟨hcz34_0, hfz34_0, hcz34_1, hfz34_1⟩ := cz2 BK145
                    have p151 : 0 ≤ (x5_2 : Int) := of_decide_eq_true (by first | (with_reducible assumption) | assumption)
                    have q151 : x5_2 < (l0_0.length : Int) := of_decide_eq_true (by first | (with_reducible assumption) | assumption)
                    obtain ⟨ad151, e151, hx151_0, hx151_1⟩ := at_T58 HR0_0.out x5_2 p151 q151
                    cases e151
                    replace hx151_0 := (HB.out.cell (World.block_lt_of_cell? w _ hx151_0)).trans hx151_0
                    replace hx151_1 := (HB.out.cell (World.block_lt_of_cell? w _ hx151_1)).trans hx151_1
                    replace p151 := eq_true p151
                    replace q151 := eq_true q151
                    go_wp2_with (first | ((with_reducible refine gate_callee (f := 91) rfl ?_); refine goesL_ (some 41) rfl rfl Try.func91 (by kernel_rfl) rfl #[.int .i64 ((rd_T58 l0_0 x5_2).f1), .int .i64 1, .int .i64 12] rfl tM ?_; (with_reducible refine (spec_l1In.calls ((rd_T58 l0_0 x5_2).f1) 1 12 true _ A30.out).mono ?_); rintro e w' ⟨rfl, ⟨nd, rfl⟩⟩; refine ⟨_, rfl, ?_⟩; have p156 : 0 ≤ (x5_2 : Int) := of_decide_eq_true (by first | (with_reducible assumption) | assumption); have q156 : x5_2 < (l0_1.length : Int) := of_decide_eq_true (by first | (with_reducible assumption) | assumption); obtain ⟨ad156, e156, hx156_0, hx156_1⟩ := at_T58 HR0_1.out x5_2 p156 q156; cases e156; replace hx156_0 := (HB.out.cell (World.block_lt_of_cell? w _ hx156_0)).trans hx156_0; replace hx156_1 := (HB.out.cell (World.block_lt_of_cell? w _ hx156_1)).trans hx156_1; replace p156 := eq_true p156; replace q156 := eq_true q156) | (go_at_call 92; (with_reducible refine (spec_l5End.calls x5_2 ((rd_T58 l0_1 x5_2).f1) (l0_0.length : Int) t157 _ A33.out).mono ?_); rintro e w' ⟨rfl, ⟨nd, rfl⟩⟩))
                    go_meet
                    case rel => exact ⟨_, (!t157), (by first | rfl | (simp; done) | (simp [wrap64]; done) | (simp [*]; done)), H', ⟨by have := HJ1.out; have := HK2.out; have := HK3.out; first | omega | exact Nat.le_refl _⟩, ⟨by (try simp only [hl4_2]); (try simp only [hl4_3]); (with_reducible repeat (first | apply Kd.R_alloc | apply Kd.R_drewN | apply Kd.R_drew)); exact HO_4.out⟩, ⟨by (try simp only [hl4_2]); (try simp only [hl4_3]); (with_reducible repeat (first | refine blk_drewN ?_ _ | refine blk_drew ?_ | refine blk_alloc ?_ _)); exact BK145.out⟩, ⟨tB HB.out⟩⟩
                   ·
                    rw [if_neg c32] at H
                    exact absurd H (by simp)
                  ·
                   replace c31 := Bool.eq_false_iff.mpr c31
                   subst c31
                   have H1 : (spec_l5Good.j3 k3 (l0_0.length : Int) x4_3 x5_2 1 true l0_0 l0_1) = some r := by rw [if_neg (show ¬ (false = true) by decide)] at H; exact H
                   clear H
                   have H := H1
                   clear H1
                   have H' := Aside0.mk H
                   clear H
                   obtain ⟨hcz35_0, hfz35_0, hcz35_1, hfz35_1⟩ := cz2 BK145
                   have p151 : 0 ≤ (x5_2 : Int) := of_decide_eq_true (by first | (with_reducible assumption) | assumption)
                   have q151 : x5_2 < (l0_0.length : Int) := of_decide_eq_true (by first | (with_reducible assumption) | assumption)
                   obtain ⟨ad151, e151, hx151_0, hx151_1⟩ := at_T58 HR0_0.out x5_2 p151 q151
                   cases e151
                   replace hx151_0 := (HB.out.cell (World.block_lt_of_cell? w _ hx151_0)).trans hx151_0
                   replace hx151_1 := (HB.out.cell (World.block_lt_of_cell? w _ hx151_1)).trans hx151_1
                   replace p151 := eq_true p151
                   replace q151 := eq_true q151
                   go_wp2_with (first | ((with_reducible refine gate_callee (f := 91) rfl ?_); refine goesL_ (some 41) rfl rfl Try.func91 (by kernel_rfl) rfl #[.int .i64 ((rd_T58 l0_0 x5_2).f1), .int .i64 1, .int .i64 12] rfl tM ?_; (with_reducible refine (spec_l1In.calls ((rd_T58 l0_0 x5_2).f1) 1 12 false _ A30.out).mono ?_); rintro e w' ⟨rfl, ⟨nd, rfl⟩⟩; refine ⟨_, rfl, ?_⟩))
                   go_meet
                   case rel => exact ⟨_, (true), (by first | rfl | (simp; done) | (simp [wrap64]; done) | (simp [*]; done)), H', ⟨by have := HJ1.out; have := HK2.out; have := HK3.out; first | omega | exact Nat.le_refl _⟩, ⟨by (try simp only [hl4_2]); (try simp only [hl4_3]); (with_reducible repeat (first | apply Kd.R_alloc | apply Kd.R_drewN | apply Kd.R_drew)); exact HO_4.out⟩, ⟨by (try simp only [hl4_2]); (try simp only [hl4_3]); (with_reducible repeat (first | refine blk_drewN ?_ _ | refine blk_drew ?_ | refine blk_alloc ?_ _)); exact BK145.out⟩, ⟨tB HB.out⟩⟩
                 ·
                  rw [if_neg c29] at H
                  exact absurd H (by simp)
               ·
                rw [if_neg c21] at H
                exact absurd H (by simp)
              ·
               rw [if_neg c20] at H
               exact absurd H (by simp)
             case rest =>
              clear HC19
              try clear c1
              try clear p1
              try clear q1
              try clear hx1
              try clear qi1
              try clear hf1
              try clear c2
              try clear p2
              try clear c3
              try clear c5
              try clear c6
              try clear p6
              try clear c8
              try clear c9
              try clear c9b0
              try clear c9b1
              try clear c10
              try clear c10b0
              try clear c10b1
              try clear c11
              try clear c11b0
              try clear c11b1
              try clear p12
              try clear q12
              try clear hx12
              try clear qi12
              try clear hf12
              try clear p15
              try clear q15
              try clear hx15
              try clear c17
              try clear c17b0
              try clear c18
              try clear c18b0
              try clear c20
              try clear c20b0
              try clear c21
              try clear c21b0
              try clear c22
              try clear c22b0
              try clear c22b1
              try clear c24
              try clear c25
              try clear c25b0
              try clear c29
              try clear c31
              try clear c32
              try clear c32b0
              try clear hcz27_0
              try clear hcz27_1
              try clear hcz28_0
              try clear hcz28_1
              try clear hcz34_0
              try clear hcz34_1
              try clear hcz35_0
              try clear hcz35_1
              try clear hcz4_0
              try clear hcz4_1
              try clear hcz7_0
              try clear hcz7_1
              try clear hfz27_0
              try clear hfz27_1
              try clear hfz28_0
              try clear hfz28_1
              try clear hfz34_0
              try clear hfz34_1
              try clear hfz35_0
              try clear hfz35_1
              try clear hfz4_0
              try clear hfz4_1
              try clear hfz7_0
              try clear hfz7_1
              try clear hx12_0
              try clear hx151_0
              try clear hx151_1
              try clear hx153_0
              try clear hx153_1
              try clear hx156_0
              try clear hx156_1
              try clear p1
              try clear p12
              try clear p151
              try clear p153
              try clear p156
              try clear p2
              try clear p6
              try clear q1
              try clear q12
              try clear q151
              try clear q153
              try clear q156
              obtain ⟨kq, x55_18, rfl, HA, HJ18, HO_4, BK145, HB⟩ := hcut
              cases kq with
              | zero => exact absurd HA.out (by simp [spec_l5Good.j3])
              | succ kj18 =>
               have H := HA.out
               clear HA
               simp only [spec_l5Good.j3] at H
               by_cases c36 : x55_18 = true
               ·
                subst c36
                have H1 : (some false) = some r := by rw [if_pos rfl] at H; exact H
                clear H
                have H := H1
                clear H1
                obtain rfl := Option.some.inj H
                go_wp2
                go_ret
                exact ⟨by first | rfl | (simp [errW_none, errW_some] <;> rfl) | (simp [*, errW_none, errW_some] <;> rfl), tB HB.out⟩
               ·
                replace c36 := Bool.eq_false_iff.mpr c36
                subst c36
                have H1 : (if 0 ≤ x5_2 then (if x5_2 < (l0_1.length : Int) then (if x6_3 = 0 then (if ((rd_T58 l0_1 x5_2).f0) < 0 then (if 0 ≤ (wrap64 (-((rd_T58 l0_1 x5_2).f0))) then (if (wrap64 (-((rd_T58 l0_1 x5_2).f0))) < (x4_3.length : Int) then (spec_l5Good.l1 kj18 (l0_0.length : Int) (x4_3.set ((wrap64 (-((rd_T58 l0_1 x5_2).f0))) : Int).toNat (wrap64 ((rd x4_3 (wrap64 (-((rd_T58 l0_1 x5_2).f0)))) + 1))) x5_2 (wrap64 (x6_3 + 1)) l0_0 l0_1) else (none)) else (none)) else (spec_l5Good.l1 kj18 (l0_0.length : Int) x4_3 x5_2 (wrap64 (x6_3 + 1)) l0_0 l0_1)) else (if x6_3 = 1 then (if ((rd_T58 l0_1 x5_2).f1) < 0 then (if 0 ≤ (wrap64 (-((rd_T58 l0_1 x5_2).f1))) then (if (wrap64 (-((rd_T58 l0_1 x5_2).f1))) < (x4_3.length : Int) then (spec_l5Good.l1 kj18 (l0_0.length : Int) (x4_3.set ((wrap64 (-((rd_T58 l0_1 x5_2).f1))) : Int).toNat (wrap64 ((rd x4_3 (wrap64 (-((rd_T58 l0_1 x5_2).f1)))) + 1))) x5_2 (wrap64 (x6_3 + 1)) l0_0 l0_1) else (none)) else (none)) else (spec_l5Good.l1 kj18 (l0_0.length : Int) x4_3 x5_2 (wrap64 (x6_3 + 1)) l0_0 l0_1)) else (none))) else (none)) else (none)) = some r := by rw [if_neg (show ¬ (false = true) by decide)] at H; exact H
                clear H
                have H := H1
                clear H1
                by_cases c37 : 0 ≤ x5_2
                ·
                 rw [if_pos c37] at H
                 have c37b0 : decide (0 ≤ x5_2) = true := decide_eq_true c37
                 clear c37
                 by_cases c38 : x5_2 < (l0_1.length : Int)
                 ·
                  rw [if_pos c38] at H
                  have c38b0 : decide (x5_2 < (l0_1.length : Int)) = true := decide_eq_true c38
                  clear c38
                  by_cases c39 : x6_3 = 0
                  ·
                   subst c39
                   have H1 : (if ((rd_T58 l0_1 x5_2).f0) < 0 then (if 0 ≤ (wrap64 (-((rd_T58 l0_1 x5_2).f0))) then (if (wrap64 (-((rd_T58 l0_1 x5_2).f0))) < (x4_3.length : Int) then (spec_l5Good.l1 kj18 (l0_0.length : Int) (x4_3.set ((wrap64 (-((rd_T58 l0_1 x5_2).f0))) : Int).toNat (wrap64 ((rd x4_3 (wrap64 (-((rd_T58 l0_1 x5_2).f0)))) + 1))) x5_2 (wrap64 (0 + 1)) l0_0 l0_1) else (none)) else (none)) else (spec_l5Good.l1 kj18 (l0_0.length : Int) x4_3 x5_2 (wrap64 (0 + 1)) l0_0 l0_1)) = some r := by rw [if_pos rfl] at H; exact H
                   clear H
                   have H := H1
                   clear H1
                   by_cases c40 : ((rd_T58 l0_1 x5_2).f0) < 0
                   ·
                    rw [if_pos c40] at H
                    have c40b0 : decide (((rd_T58 l0_1 x5_2).f0) < 0) = true := decide_eq_true c40
                    clear c40
                    obtain ⟨ji41, hji41⟩ : ∃ j_ : Int, (wrap64 (-((rd_T58 l0_1 x5_2).f0))) = j_ := ⟨_, rfl⟩
                    replace H : (if 0 ≤ (ji41) then (if (ji41) < (x4_3.length : Int) then (spec_l5Good.l1 kj18 (l0_0.length : Int) (x4_3.set ((ji41) : Int).toNat (wrap64 ((rd x4_3 (ji41)) + 1))) x5_2 (wrap64 (0 + 1)) l0_0 l0_1) else (none)) else (none)) = some r := by first | (rw [hji41] at H; exact H) | (simp only [hji41] at H ⊢; exact H)
                    have hji41w : (IntKind.i64.wrap (-((rd_T58 l0_1 x5_2).f0))) = ji41 := (i64_w _).trans hji41
                    by_cases c42 : 0 ≤ (ji41)
                    ·
                     rw [if_pos c42] at H
                     have c42b0 : decide (0 ≤ (ji41)) = true := decide_eq_true c42
                     clear c42
                     by_cases c43 : (ji41) < (x4_3.length : Int)
                     ·
                      rw [if_pos c43] at H
                      have c43b0 : decide ((ji41) < (x4_3.length : Int)) = true := decide_eq_true c43
                      clear c43
                      obtain ⟨y161, hy161⟩ : ∃ y_ : List Int, y_ = (x4_3.set ((ji41) : Int).toNat (wrap64 ((rd x4_3 (ji41)) + 1))) := ⟨_, rfl⟩
                      replace H : (spec_l5Good.l1 kj18 (l0_0.length : Int) y161 x5_2 (wrap64 (0 + 1)) l0_0 l0_1) = some r := by first | (rw [hy161]; with_reducible exact H) | (have H2_ := (Option.bind_some _ _).symm.trans H; rw [hy161]; with_reducible exact H2_) | (have H2_ := (Option.bind_some _ _).symm.trans H; with_reducible exact H2_) | with_reducible exact H | (rw [hy161]; exact H) | exact H
                      have Ny161 := Aside0.mk hy161
                      clear hy161
                      have H' := Aside0.mk H
                      clear H
                      obtain ⟨hcz45_0, hfz45_0, hcz45_1, hfz45_1⟩ := cz2 BK145
                      have p158 : 0 ≤ (x5_2 : Int) := of_decide_eq_true (by first | (with_reducible assumption) | assumption)
                      have q158 : x5_2 < (l0_1.length : Int) := of_decide_eq_true (by first | (with_reducible assumption) | assumption)
                      obtain ⟨ad158, e158, hx158_0, hx158_1⟩ := at_T58 HR0_1.out x5_2 p158 q158
                      cases e158
                      replace hx158_0 := (HB.out.cell (World.block_lt_of_cell? w _ hx158_0)).trans hx158_0
                      replace hx158_1 := (HB.out.cell (World.block_lt_of_cell? w _ hx158_1)).trans hx158_1
                      replace p158 := eq_true p158
                      replace q158 := eq_true q158
                      have p159 : 0 ≤ (x5_2 : Int) := of_decide_eq_true (by first | (with_reducible assumption) | assumption)
                      have q159 : x5_2 < (l0_1.length : Int) := of_decide_eq_true (by first | (with_reducible assumption) | assumption)
                      obtain ⟨ad159, e159, hx159_0, hx159_1⟩ := at_T58 HR0_1.out x5_2 p159 q159
                      obtain rfl : ad158 = ad159 := (by injection e159)
                      replace hx159_0 := (HB.out.cell (World.block_lt_of_cell? w _ hx159_0)).trans hx159_0
                      replace hx159_1 := (HB.out.cell (World.block_lt_of_cell? w _ hx159_1)).trans hx159_1
                      replace p159 := eq_true p159
                      replace q159 := eq_true q159
                      have p160 : 0 ≤ ((ji41) : Int) := of_decide_eq_true (by first | (with_reducible assumption) | assumption)
                      have q160 : (ji41) < (x4_3.length : Int) := of_decide_eq_true (by first | (with_reducible assumption) | assumption)
                      obtain ⟨ad160, e160, hx160_0⟩ := Kd.at_int (Kd.R_reads' HO_4.out).2.2 (ji41) p160 q160
                      obtain rfl : (⟨go12, 0, none⟩ : Addr) = ad160 := (by injection e160)
                      (first | simp only [add_plain] at hx160_0 | simp only [add_at] at hx160_0 | simp only [Addr.add, Nat.zero_add] at hx160_0 | skip)
                      replace p160 := eq_true p160
                      replace q160 := eq_true q160
                      have p44 : 0 ≤ ((ji41) : Int) := of_decide_eq_true (by first | (with_reducible assumption) | assumption)
                      have q44 : ((ji41) : Int) < ((x4_3.length : Int) : Int) := of_decide_eq_true (by first | (with_reducible assumption) | assumption)
                      obtain ⟨hx44_0, hf44_0⟩ := Kd.R_celln 0 HO_4.out ((ji41) : Int) p44 q44
                      replace p44 := eq_true p44
                      replace q44 := eq_true q44
                      have HP46 := Kd.R_putg HO_4.out ((ji41) : Int) (wrap64 ((rd x4_3 (ji41)) + 1))
                      go_wp2_with (first | ((with_reducible refine gate_store (t := 3) (p := 76) rfl ?_); refine store_event (t := 3) (p := 76) (v := ?vo_w47) (w1 := (wc.setCell ⟨go12, ((ji41) : Int).toNat, none⟩ (.int .i64 (wrap64 ((rd x4_3 (ji41)) + 1))))) ?hg ?ho ?hn ?hr ?_; (case ho => rfl); (case hg => rfl); (case hn => rfl); (case hr => first | (go_simp; done) | (go_simp; rfl)); intro w47 hw; have hg : wc.grownBy w47 (some go12) := (by rw [hw]; exact HP46.2); have hp_ : Kd.R (Kd.int .i64) 3 w47 w.heap.size (fun _ => True) (.slice (some ⟨go12, 0, none⟩) x4_3.length co12) y161 := (by rw [hw, Ny161.out]; exact HP46.1); clear HP46; replace BK145 := Aside0.mk (blk_grown (g := gb145) (o := .cells #[.slice A0_0 l0_0.length c0_0, .slice (some ad158) l0_1.length c0_1] 27 (0, 0)) (tK BK145.out) hg (Kd.R_ne HO_4.out BK145.out (by decide))); replace HO_4 := Aside0.mk (hp_); replace HB := Aside0.mk ((by rw [hw]; exact below_set (HB.out) GB12.out : Below w.heap.size w w47)); clear hg hw hp_))
                      (try simp only [← hl4_3])
                      go_roundg kj18
                      case measure => have := HJ1.out; have := HK2.out; have := HK3.out; have := HJ18.out; omega
                      case rel => exact ⟨(y161), (wrap64 (0 + 1)), (by first | rfl | (simp; done) | (simp [wrap64]; done) | (simp [*]; done)), H', ⟨by have := HJ1.out; have := HK2.out; have := HK3.out; have := HJ18.out; omega⟩, ⟨by (try simp only [hl4_2]); (try simp only [hl4_3]); (with_reducible repeat (first | apply Kd.R_alloc | apply Kd.R_drewN | apply Kd.R_drew)); exact HO_4.out⟩, ⟨by (try simp only [hl4_2]); (try simp only [hl4_3]); (with_reducible repeat (first | refine blk_drewN ?_ _ | refine blk_drew ?_ | refine blk_alloc ?_ _)); exact BK145.out⟩, ⟨tB HB.out⟩⟩
                     ·
                      rw [if_neg c43] at H
                      exact absurd H (by simp)
                    ·
                     rw [if_neg c42] at H
                     exact absurd H (by simp)
                   ·
                    rw [if_neg c40] at H
                    have c40b0 : decide (((rd_T58 l0_1 x5_2).f0) < 0) = false := decide_eq_false c40
                    clear c40
                    have H' := Aside0.mk H
                    clear H
                    obtain ⟨hcz48_0, hfz48_0, hcz48_1, hfz48_1⟩ := cz2 BK145
                    have p158 : 0 ≤ (x5_2 : Int) := of_decide_eq_true (by first | (with_reducible assumption) | assumption)
                    have q158 : x5_2 < (l0_1.length : Int) := of_decide_eq_true (by first | (with_reducible assumption) | assumption)
                    obtain ⟨ad158, e158, hx158_0, hx158_1⟩ := at_T58 HR0_1.out x5_2 p158 q158
                    cases e158
                    replace hx158_0 := (HB.out.cell (World.block_lt_of_cell? w _ hx158_0)).trans hx158_0
                    replace hx158_1 := (HB.out.cell (World.block_lt_of_cell? w _ hx158_1)).trans hx158_1
                    replace p158 := eq_true p158
                    replace q158 := eq_true q158
                    go_wp2
                    (try simp only [← hl4_3])
                    go_roundg kj18
                    case measure => have := HJ1.out; have := HK2.out; have := HK3.out; have := HJ18.out; omega
                    case rel => exact ⟨(x4_3), (wrap64 (0 + 1)), (by first | rfl | (simp; done) | (simp [wrap64]; done) | (simp [*]; done)), H', ⟨by have := HJ1.out; have := HK2.out; have := HK3.out; have := HJ18.out; omega⟩, ⟨by (try simp only [hl4_2]); (try simp only [hl4_3]); (with_reducible repeat (first | apply Kd.R_alloc | apply Kd.R_drewN | apply Kd.R_drew)); exact HO_4.out⟩, ⟨by (try simp only [hl4_2]); (try simp only [hl4_3]); (with_reducible repeat (first | refine blk_drewN ?_ _ | refine blk_drew ?_ | refine blk_alloc ?_ _)); exact BK145.out⟩, ⟨tB HB.out⟩⟩
                  ·
                   rw [if_neg c39] at H
                   have c39b0 : (x6_3 == 0) = false := beq_eq_false_iff_ne.mpr c39
                   have c39b1 : (x6_3 != 0) = true := bne_iff_ne.mpr c39
                   by_cases c49 : x6_3 = 1
                   ·
                    subst c49
                    have H1 : (if ((rd_T58 l0_1 x5_2).f1) < 0 then (if 0 ≤ (wrap64 (-((rd_T58 l0_1 x5_2).f1))) then (if (wrap64 (-((rd_T58 l0_1 x5_2).f1))) < (x4_3.length : Int) then (spec_l5Good.l1 kj18 (l0_0.length : Int) (x4_3.set ((wrap64 (-((rd_T58 l0_1 x5_2).f1))) : Int).toNat (wrap64 ((rd x4_3 (wrap64 (-((rd_T58 l0_1 x5_2).f1)))) + 1))) x5_2 (wrap64 (1 + 1)) l0_0 l0_1) else (none)) else (none)) else (spec_l5Good.l1 kj18 (l0_0.length : Int) x4_3 x5_2 (wrap64 (1 + 1)) l0_0 l0_1)) = some r := by rw [if_pos rfl] at H; exact H
                    clear H
                    have H := H1
                    clear H1
                    by_cases c50 : ((rd_T58 l0_1 x5_2).f1) < 0
                    ·
                     rw [if_pos c50] at H
                     have c50b0 : decide (((rd_T58 l0_1 x5_2).f1) < 0) = true := decide_eq_true c50
                     clear c50
                     obtain ⟨ji51, hji51⟩ : ∃ j_ : Int, (wrap64 (-((rd_T58 l0_1 x5_2).f1))) = j_ := ⟨_, rfl⟩
                     replace H : (if 0 ≤ (ji51) then (if (ji51) < (x4_3.length : Int) then (spec_l5Good.l1 kj18 (l0_0.length : Int) (x4_3.set ((ji51) : Int).toNat (wrap64 ((rd x4_3 (ji51)) + 1))) x5_2 (wrap64 (1 + 1)) l0_0 l0_1) else (none)) else (none)) = some r := by first | (rw [hji51] at H; exact H) | (simp only [hji51] at H ⊢; exact H)
                     have hji51w : (IntKind.i64.wrap (-((rd_T58 l0_1 x5_2).f1))) = ji51 := (i64_w _).trans hji51
                     by_cases c52 : 0 ≤ (ji51)
                     ·
                      rw [if_pos c52] at H
                      have c52b0 : decide (0 ≤ (ji51)) = true := decide_eq_true c52
                      clear c52
                      by_cases c53 : (ji51) < (x4_3.length : Int)
                      ·
                       rw [if_pos c53] at H
                       have c53b0 : decide ((ji51) < (x4_3.length : Int)) = true := decide_eq_true c53
                       clear c53
                       obtain ⟨y164, hy164⟩ : ∃ y_ : List Int, y_ = (x4_3.set ((ji51) : Int).toNat (wrap64 ((rd x4_3 (ji51)) + 1))) := ⟨_, rfl⟩
                       replace H : (spec_l5Good.l1 kj18 (l0_0.length : Int) y164 x5_2 (wrap64 (1 + 1)) l0_0 l0_1) = some r := by first | (rw [hy164]; with_reducible exact H) | (have H2_ := (Option.bind_some _ _).symm.trans H; rw [hy164]; with_reducible exact H2_) | (have H2_ := (Option.bind_some _ _).symm.trans H; with_reducible exact H2_) | with_reducible exact H | (rw [hy164]; exact H) | exact H
                       have Ny164 := Aside0.mk hy164
                       clear hy164
                       have H' := Aside0.mk H
                       clear H
                       obtain ⟨hcz55_0, hfz55_0, hcz55_1, hfz55_1⟩ := cz2 BK145
                       have p158 : 0 ≤ (x5_2 : Int) := of_decide_eq_true (by first | (with_reducible assumption) | assumption)
                       have q158 : x5_2 < (l0_1.length : Int) := of_decide_eq_true (by first | (with_reducible assumption) | assumption)
                       obtain ⟨ad158, e158, hx158_0, hx158_1⟩ := at_T58 HR0_1.out x5_2 p158 q158
                       cases e158
                       replace hx158_0 := (HB.out.cell (World.block_lt_of_cell? w _ hx158_0)).trans hx158_0
                       replace hx158_1 := (HB.out.cell (World.block_lt_of_cell? w _ hx158_1)).trans hx158_1
                       replace p158 := eq_true p158
                       replace q158 := eq_true q158
                       have p162 : 0 ≤ (x5_2 : Int) := of_decide_eq_true (by first | (with_reducible assumption) | assumption)
                       have q162 : x5_2 < (l0_1.length : Int) := of_decide_eq_true (by first | (with_reducible assumption) | assumption)
                       obtain ⟨ad162, e162, hx162_0, hx162_1⟩ := at_T58 HR0_1.out x5_2 p162 q162
                       obtain rfl : ad158 = ad162 := (by injection e162)
                       replace hx162_0 := (HB.out.cell (World.block_lt_of_cell? w _ hx162_0)).trans hx162_0
                       replace hx162_1 := (HB.out.cell (World.block_lt_of_cell? w _ hx162_1)).trans hx162_1
                       replace p162 := eq_true p162
                       replace q162 := eq_true q162
                       have p163 : 0 ≤ ((ji51) : Int) := of_decide_eq_true (by first | (with_reducible assumption) | assumption)
                       have q163 : (ji51) < (x4_3.length : Int) := of_decide_eq_true (by first | (with_reducible assumption) | assumption)
                       obtain ⟨ad163, e163, hx163_0⟩ := Kd.at_int (Kd.R_reads' HO_4.out).2.2 (ji51) p163 q163
                       obtain rfl : (⟨go12, 0, none⟩ : Addr) = ad163 := (by injection e163)
                       (first | simp only [add_plain] at hx163_0 | simp only [add_at] at hx163_0 | simp only [Addr.add, Nat.zero_add] at hx163_0 | skip)
                       replace p163 := eq_true p163
                       replace q163 := eq_true q163
                       have p54 : 0 ≤ ((ji51) : Int) := of_decide_eq_true (by first | (with_reducible assumption) | assumption)
                       have q54 : ((ji51) : Int) < ((x4_3.length : Int) : Int) := of_decide_eq_true (by first | (with_reducible assumption) | assumption)
                       obtain ⟨hx54_0, hf54_0⟩ := Kd.R_celln 0 HO_4.out ((ji51) : Int) p54 q54
                       replace p54 := eq_true p54
                       replace q54 := eq_true q54
                       have HP56 := Kd.R_putg HO_4.out ((ji51) : Int) (wrap64 ((rd x4_3 (ji51)) + 1))
                       go_wp2_with (first | ((with_reducible refine gate_store (t := 3) (p := 76) rfl ?_); refine store_event (t := 3) (p := 76) (v := ?vo_w57) (w1 := (wc.setCell ⟨go12, ((ji51) : Int).toNat, none⟩ (.int .i64 (wrap64 ((rd x4_3 (ji51)) + 1))))) ?hg ?ho ?hn ?hr ?_; (case ho => rfl); (case hg => rfl); (case hn => rfl); (case hr => first | (go_simp; done) | (go_simp; rfl)); intro w57 hw; have hg : wc.grownBy w57 (some go12) := (by rw [hw]; exact HP56.2); have hp_ : Kd.R (Kd.int .i64) 3 w57 w.heap.size (fun _ => True) (.slice (some ⟨go12, 0, none⟩) x4_3.length co12) y164 := (by rw [hw, Ny164.out]; exact HP56.1); clear HP56; replace BK145 := Aside0.mk (blk_grown (g := gb145) (o := .cells #[.slice A0_0 l0_0.length c0_0, .slice (some ad158) l0_1.length c0_1] 27 (0, 0)) (tK BK145.out) hg (Kd.R_ne HO_4.out BK145.out (by decide))); replace HO_4 := Aside0.mk (hp_); replace HB := Aside0.mk ((by rw [hw]; exact below_set (HB.out) GB12.out : Below w.heap.size w w57)); clear hg hw hp_))
                       (try simp only [← hl4_3])
                       go_roundg kj18
                       case measure => have := HJ1.out; have := HK2.out; have := HK3.out; have := HJ18.out; omega
                       case rel => exact ⟨(y164), (wrap64 (1 + 1)), (by first | rfl | (simp; done) | (simp [wrap64]; done) | (simp [*]; done)), H', ⟨by have := HJ1.out; have := HK2.out; have := HK3.out; have := HJ18.out; omega⟩, ⟨by (try simp only [hl4_2]); (try simp only [hl4_3]); (with_reducible repeat (first | apply Kd.R_alloc | apply Kd.R_drewN | apply Kd.R_drew)); exact HO_4.out⟩, ⟨by (try simp only [hl4_2]); (try simp only [hl4_3]); (with_reducible repeat (first | refine blk_drewN ?_ _ | refine blk_drew ?_ | refine blk_alloc ?_ _)); exact BK145.out⟩, ⟨tB HB.out⟩⟩
                      ·
                       rw [if_neg c53] at H
                       exact absurd H (by simp)
                     ·
                      rw [if_neg c52] at H
                      exact absurd H (by simp)
                    ·
                     rw [if_neg c50] at H
                     have c50b0 : decide (((rd_T58 l0_1 x5_2).f1) < 0) = false := decide_eq_false c50
                     clear c50
                     have H' := Aside0.mk H
                     clear H
                     obtain ⟨hcz58_0, hfz58_0, hcz58_1, hfz58_1⟩ := cz2 BK145
                     have p158 : 0 ≤ (x5_2 : Int) := of_decide_eq_true (by first | (with_reducible assumption) | assumption)
                     have q158 : x5_2 < (l0_1.length : Int) := of_decide_eq_true (by first | (with_reducible assumption) | assumption)
                     obtain ⟨ad158, e158, hx158_0, hx158_1⟩ := at_T58 HR0_1.out x5_2 p158 q158
                     cases e158
                     replace hx158_0 := (HB.out.cell (World.block_lt_of_cell? w _ hx158_0)).trans hx158_0
                     replace hx158_1 := (HB.out.cell (World.block_lt_of_cell? w _ hx158_1)).trans hx158_1
                     replace p158 := eq_true p158
                     replace q158 := eq_true q158
                     go_wp2
                     (try simp only [← hl4_3])
                     go_roundg kj18
                     case measure => have := HJ1.out; have := HK2.out; have := HK3.out; have := HJ18.out; omega
                     case rel => exact ⟨(x4_3), (wrap64 (1 + 1)), (by first | rfl | (simp; done) | (simp [wrap64]; done) | (simp [*]; done)), H', ⟨by have := HJ1.out; have := HK2.out; have := HK3.out; have := HJ18.out; omega⟩, ⟨by (try simp only [hl4_2]); (try simp only [hl4_3]); (with_reducible repeat (first | apply Kd.R_alloc | apply Kd.R_drewN | apply Kd.R_drew)); exact HO_4.out⟩, ⟨by (try simp only [hl4_2]); (try simp only [hl4_3]); (with_reducible repeat (first | refine blk_drewN ?_ _ | refine blk_drew ?_ | refine blk_alloc ?_ _)); exact BK145.out⟩, ⟨tB HB.out⟩⟩
                   ·
                    rw [if_neg c49] at H
                    exact absurd H (by simp)
                 ·
                  rw [if_neg c38] at H
                  exact absurd H (by simp)
                ·
                 rw [if_neg c37] at H
                 exact absurd H (by simp)
            ·
             rw [if_neg c18] at H
             have c18b0 : decide (x6_3 < 2) = false := decide_eq_false c18
             clear c18
             have H' := Aside0.mk H
             clear H
             go_wp2
             (try simp only [← hl4_2, ← hl4_3])
             go_roundg k3
             case measure => have := HJ1.out; have := HK2.out; have := HK3.out; omega
             case rel => exact ⟨(x4_3), (wrap64 (x5_2 + 1)), (by first | rfl | (simp; done) | (simp [wrap64]; done) | (simp [*]; done)), H', ⟨by have := HJ1.out; have := HK2.out; have := HK3.out; omega⟩, ⟨by (try simp only [hl4_2]); (try simp only [hl4_3]); (with_reducible repeat (first | apply Kd.R_alloc | apply Kd.R_drewN | apply Kd.R_drew)); exact HO_4.out⟩, ⟨by (try simp only [hl4_2]); (try simp only [hl4_3]); (with_reducible repeat (first | refine blk_drewN ?_ _ | refine blk_drew ?_ | refine blk_alloc ?_ _)); exact BK145.out⟩, ⟨tB HB.out⟩⟩
         ·
          rw [if_neg c17] at H
          have c17b0 : decide (x5_2 < (l0_0.length : Int)) = false := decide_eq_false c17
          clear c17
          have H' := Aside0.mk H
          clear H
          go_wp2
          go_loopg [7] k2 (fun kq v7 w' => ∃ (x7_3 : Int), v7 = .int .i64 x7_3 ∧ Aside0 (spec_l5Good.l2 kq (l0_0.length : Int) x4_2 x7_3 = some r) ∧ Aside0 (kq ≤ k2) ∧ Aside0 (Kd.R (Kd.int .i64) 3 w' w.heap.size (fun _ => True) (.slice (some ⟨go12, 0, none⟩) x4_2.length co12) x4_2) ∧ Aside0 (w'.heap[gb145]? = some (.cells #[(.slice A0_0 l0_0.length c0_0), (.slice A0_1 l0_1.length c0_1)] 27 (0, 0))) ∧ Aside0 (Below w.heap.size w w'))
          case atStart => exact ⟨(0), (by first | rfl | (simp; done) | (simp [wrap64]; done) | (simp [*]; done)), H', ⟨Nat.le_refl _⟩, ⟨by (try simp only [hl4_2]); (with_reducible repeat (first | apply Kd.R_alloc | apply Kd.R_drewN | apply Kd.R_drew)); exact HO_4.out⟩, ⟨by (try simp only [hl4_2]); (with_reducible repeat (first | refine blk_drewN ?_ _ | refine blk_drew ?_ | refine blk_alloc ?_ _)); exact BK145.out⟩, ⟨tB HB.out⟩⟩
          case round =>
           clear H'
           try clear c1
           try clear p1
           try clear q1
           try clear hx1
           try clear qi1
           try clear hf1
           try clear c2
           try clear p2
           try clear c3
           try clear c4
           try clear p4
           try clear q4
           try clear hx4
           try clear hf4
           try clear c5
           try clear p5
           try clear q5
           try clear hx5
           try clear hf5
           try clear c6
           try clear p6
           try clear c8
           try clear c9
           try clear c9b0
           try clear c9b1
           try clear c10
           try clear c10b0
           try clear c10b1
           try clear c11
           try clear c11b0
           try clear c11b1
           try clear p12
           try clear q12
           try clear hx12
           try clear qi12
           try clear hf12
           try clear p15
           try clear q15
           try clear hx15
           try clear p16
           try clear q16
           try clear hx16
           try clear c17
           try clear c17b0
           try clear c18
           try clear c18b0
           try clear c20
           try clear c20b0
           try clear c21
           try clear c21b0
           try clear c22
           try clear c22b0
           try clear c22b1
           try clear c24
           try clear c25
           try clear c25b0
           try clear c29
           try clear c31
           try clear c32
           try clear c32b0
           try clear c36
           try clear c37
           try clear c37b0
           try clear c38
           try clear c38b0
           try clear c39
           try clear c39b0
           try clear c39b1
           try clear c40
           try clear c40b0
           try clear c42
           try clear c42b0
           try clear c43
           try clear c43b0
           try clear p44
           try clear q44
           try clear hx44
           try clear hf44
           try clear c49
           try clear c50
           try clear c50b0
           try clear c52
           try clear c52b0
           try clear c53
           try clear c53b0
           try clear p54
           try clear q54
           try clear hx54
           try clear hf54
           try clear hcz27_0
           try clear hcz27_1
           try clear hcz28_0
           try clear hcz28_1
           try clear hcz34_0
           try clear hcz34_1
           try clear hcz35_0
           try clear hcz35_1
           try clear hcz45_0
           try clear hcz45_1
           try clear hcz48_0
           try clear hcz48_1
           try clear hcz4_0
           try clear hcz4_1
           try clear hcz55_0
           try clear hcz55_1
           try clear hcz58_0
           try clear hcz58_1
           try clear hcz7_0
           try clear hcz7_1
           try clear hfz27_0
           try clear hfz27_1
           try clear hfz28_0
           try clear hfz28_1
           try clear hfz34_0
           try clear hfz34_1
           try clear hfz35_0
           try clear hfz35_1
           try clear hfz45_0
           try clear hfz45_1
           try clear hfz48_0
           try clear hfz48_1
           try clear hfz4_0
           try clear hfz4_1
           try clear hfz55_0
           try clear hfz55_1
           try clear hfz58_0
           try clear hfz58_1
           try clear hfz7_0
           try clear hfz7_1
           try clear hx12_0
           try clear hx151_0
           try clear hx151_1
           try clear hx153_0
           try clear hx153_1
           try clear hx156_0
           try clear hx156_1
           try clear hx158_0
           try clear hx158_1
           try clear hx159_0
           try clear hx159_1
           try clear hx160_0
           try clear hx162_0
           try clear hx162_1
           try clear hx163_0
           try clear hx44_0
           try clear hx54_0
           try clear p1
           try clear p12
           try clear p15
           try clear p151
           try clear p153
           try clear p156
           try clear p158
           try clear p159
           try clear p160
           try clear p162
           try clear p163
           try clear p2
           try clear p44
           try clear p54
           try clear p6
           try clear q1
           try clear q12
           try clear q15
           try clear q151
           try clear q153
           try clear q156
           try clear q158
           try clear q159
           try clear q160
           try clear q162
           try clear q163
           try clear q44
           try clear q54
           obtain ⟨x7_3, rfl, HA, HK3, HO_4, BK145, HB⟩ := hrel
           cases gk with
           | zero => exact absurd HA.out (by simp [spec_l5Good.l2])
           | succ k3 =>
            have H := HA.out
            clear HA
            simp only [spec_l5Good.l2] at H
            by_cases c59 : x7_3 < (l0_0.length : Int)
            ·
             rw [if_pos c59] at H
             have c59b0 : decide (x7_3 < (l0_0.length : Int)) = true := decide_eq_true c59
             clear c59
             by_cases c60 : 0 ≤ x7_3
             ·
              rw [if_pos c60] at H
              have c60b0 : decide (0 ≤ x7_3) = true := decide_eq_true c60
              clear c60
              by_cases c61 : x7_3 < (x4_2.length : Int)
              ·
               rw [if_pos c61] at H
               have c61b0 : decide (x7_3 < (x4_2.length : Int)) = true := decide_eq_true c61
               clear c61
               by_cases c62 : (rd x4_2 x7_3) = 1
               ·
                rw [if_pos c62] at H
                have c62b0 : ((rd x4_2 x7_3) == 1) = true := beq_iff_eq.mpr c62
                have c62b1 : ((rd x4_2 x7_3) != 1) = false := bne_eq_false_iff_eq.mpr c62
                clear c62
                have H' := Aside0.mk H
                clear H
                have p165 : 0 ≤ (x7_3 : Int) := of_decide_eq_true (by first | (with_reducible assumption) | assumption)
                have q165 : x7_3 < (x4_2.length : Int) := of_decide_eq_true (by first | (with_reducible assumption) | assumption)
                obtain ⟨ad165, e165, hx165_0⟩ := Kd.at_int (Kd.R_reads' HO_4.out).2.2 x7_3 p165 q165
                obtain rfl : (⟨go12, 0, none⟩ : Addr) = ad165 := (by injection e165)
                (first | simp only [add_plain] at hx165_0 | simp only [add_at] at hx165_0 | simp only [Addr.add, Nat.zero_add] at hx165_0 | skip)
                replace p165 := eq_true p165
                replace q165 := eq_true q165
                go_wp2
                go_roundg k3
                case measure => have := HJ1.out; have := HK2.out; have := HK3.out; omega
                case rel => exact ⟨(wrap64 (x7_3 + 1)), (by first | rfl | (simp; done) | (simp [wrap64]; done) | (simp [*]; done)), H', ⟨by have := HJ1.out; have := HK2.out; have := HK3.out; omega⟩, ⟨by (try simp only [hl4_2]); (with_reducible repeat (first | apply Kd.R_alloc | apply Kd.R_drewN | apply Kd.R_drew)); exact HO_4.out⟩, ⟨by (try simp only [hl4_2]); (with_reducible repeat (first | refine blk_drewN ?_ _ | refine blk_drew ?_ | refine blk_alloc ?_ _)); exact BK145.out⟩, ⟨tB HB.out⟩⟩
               ·
                rw [if_neg c62] at H
                have c62b0 : ((rd x4_2 x7_3) == 1) = false := beq_eq_false_iff_ne.mpr c62
                have c62b1 : ((rd x4_2 x7_3) != 1) = true := bne_iff_ne.mpr c62
                obtain rfl := Option.some.inj H
                have p165 : 0 ≤ (x7_3 : Int) := of_decide_eq_true (by first | (with_reducible assumption) | assumption)
                have q165 : x7_3 < (x4_2.length : Int) := of_decide_eq_true (by first | (with_reducible assumption) | assumption)
                obtain ⟨ad165, e165, hx165_0⟩ := Kd.at_int (Kd.R_reads' HO_4.out).2.2 x7_3 p165 q165
                obtain rfl : (⟨go12, 0, none⟩ : Addr) = ad165 := (by injection e165)
                (first | simp only [add_plain] at hx165_0 | simp only [add_at] at hx165_0 | simp only [Addr.add, Nat.zero_add] at hx165_0 | skip)
                replace p165 := eq_true p165
                replace q165 := eq_true q165
                go_wp2
                go_ret
                exact ⟨by first | rfl | (simp [errW_none, errW_some] <;> rfl) | (simp [*, errW_none, errW_some] <;> rfl), tB HB.out⟩
              ·
               rw [if_neg c61] at H
               exact absurd H (by simp)
             ·
              rw [if_neg c60] at H
              exact absurd H (by simp)
            ·
             rw [if_neg c59] at H
             have c59b0 : decide (x7_3 < (l0_0.length : Int)) = false := decide_eq_false c59
             clear c59
             obtain rfl := Option.some.inj H
             go_wp2
             go_ret
             exact ⟨by first | rfl | (simp [errW_none, errW_some] <;> rfl) | (simp [*, errW_none, errW_some] <;> rfl), tB HB.out⟩
      ·
       rw [if_neg c11] at H
       exact absurd H (by simp)
     ·
      rw [if_neg c10] at H
      exact absurd H (by simp)
    ·
     rw [if_neg c9] at H
     exact absurd H (by simp)

end Go.Proofs.Ytbdajkfihbaapaa.PFnExactLevelWeights

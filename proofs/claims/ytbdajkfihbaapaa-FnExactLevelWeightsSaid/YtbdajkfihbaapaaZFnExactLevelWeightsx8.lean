/- Printed by the program print2.py over the translation: each function as a Lean function, and the proof that the call comes to its answer. -/
import Derived.Test.YtbdajkfihbaapaaZFnExactLevelWeightsx0
import Derived.Test.YtbdajkfihbaapaaZFnExactLevelWeightsx6
import Derived.Test.YtbdajkfihbaapaaZFnExactLevelWeightsx7
namespace Go.Proofs.Ytbdajkfihbaapaa.PFnExactLevelWeights
open Go.RowKit Go.Proofs.YtbdajkfihbaapaaW.PrintWords Go.Proofs.YtbdajkfihbaapaaW.PrintLast Go.Proofs.YtbdajkfihbaapaaW.PrintMore
attribute [local go_sem] max2_int min2_int max_two min_two max_three min_three max_four min_four   -- for this text's walks alone
set_option linter.unusedVariables false
set_option linter.unusedSimpArgs false

/-! ### impl_IsMobile: function 18 -/
mutual
def impl_IsMobile.j0 : Nat → Int → Bool → List (S58) → List (S58) → Option (Bool)
 | 0, _, _, _, _ => none
 | k + 1, x3, x21, x240000, x240001 => if x21 = true then (some false) else (if 0 ≤ x3 then (if (x3 : Int).toNat ≤ 281474976710656 then (impl_IsMobile.l0 k x3 (List.replicate (x3 : Int).toNat false) x240000 (x240000.length : Int) 0 x240000 x240001) else (none)) else (none))
def impl_IsMobile.l0 : Nat → Int → List Bool → List (S58) → Int → Int → List (S58) → List (S58) → Option (Bool)
 | 0, _, _, _, _, _, _, _ => none
 | k + 1, x3, x4, x25, x26, x27, x240000, x240001 => if x27 < x26 then (if 0 ≤ x27 then (if x27 < (x25.length : Int) then ((impl_isArm.f ((rd_T58 x25 x27).f0)).bind fun t251 => (if t251 = true then ((impl_isArm.f ((rd_T58 x25 x27).f1)).bind fun t252 => (impl_IsMobile.j2 k x3 x4 x27 x25 x26 x27 (!t252) x240000 x240001)) else (impl_IsMobile.j2 k x3 x4 x27 x25 x26 x27 true x240000 x240001))) else (none)) else (none)) else (if 1 ≤ (x4.length : Int) then ((slices_Contains_bool_bool.f k (x4.drop 1) false).bind fun t248 => (some (!t248))) else (none))
def impl_IsMobile.j2 : Nat → Int → List Bool → Int → List (S58) → Int → Int → Bool → List (S58) → List (S58) → Option (Bool)
 | 0, _, _, _, _, _, _, _, _, _ => none
 | k + 1, x3, x4, x5, x25, x26, x27, x41, x240000, x240001 => if x41 = true then (some false) else (if 0 ≤ x5 then (if x5 < (x240001.length : Int) then (impl_IsMobile.l1 k x3 x4 x5 x25 x26 x27 0 x240000 x240001 ((rd_T58 x240001 x5).f0) ((rd_T58 x240001 x5).f1)) else (none)) else (none))
def impl_IsMobile.l1 : Nat → Int → List Bool → Int → List (S58) → Int → Int → Int → List (S58) → List (S58) → Int → Int → Option (Bool)
 | 0, _, _, _, _, _, _, _, _, _, _, _ => none
 | k + 1, x3, x4, x5, x25, x26, x27, x47, x240000, x240001, x10046000, x10046001 => if x47 < 2 then (if x47 = 0 then ((impl_isWeight.f x10046000).bind fun t254 => (if t254 = true then (impl_IsMobile.l1 k x3 x4 x5 x25 x26 x27 (wrap64 (x47 + 1)) x240000 x240001 x10046000 x10046001) else ((impl_within.f x10046000 (wrap64 (1 - x3)) (wrap64 ((wrap64 (-x5)) - 1))).bind fun t255 => (if t255 = true then (if 0 ≤ (wrap64 (-x10046000)) then (if (wrap64 (-x10046000)) < (x4.length : Int) then (if rdOf false x4 (wrap64 (-x10046000)) = true then (some false) else (impl_IsMobile.l1 k x3 (x4.set ((wrap64 (-x10046000)) : Int).toNat true) x5 x25 x26 x27 (wrap64 (x47 + 1)) x240000 x240001 x10046000 x10046001)) else (none)) else (none)) else (some false))))) else (if x47 = 1 then ((impl_isWeight.f x10046001).bind fun t258 => (if t258 = true then (impl_IsMobile.l1 k x3 x4 x5 x25 x26 x27 (wrap64 (x47 + 1)) x240000 x240001 x10046000 x10046001) else ((impl_within.f x10046001 (wrap64 (1 - x3)) (wrap64 ((wrap64 (-x5)) - 1))).bind fun t259 => (if t259 = true then (if 0 ≤ (wrap64 (-x10046001)) then (if (wrap64 (-x10046001)) < (x4.length : Int) then (if rdOf false x4 (wrap64 (-x10046001)) = true then (some false) else (impl_IsMobile.l1 k x3 (x4.set ((wrap64 (-x10046001)) : Int).toNat true) x5 x25 x26 x27 (wrap64 (x47 + 1)) x240000 x240001 x10046000 x10046001)) else (none)) else (none)) else (some false))))) else (none))) else (impl_IsMobile.l0 k x3 x4 x25 x26 (wrap64 (x27 + 1)) x240000 x240001)
end
def impl_IsMobile.f (k : Nat) (l0_0 : List (S58)) (l0_1 : List (S58)) : Option (Bool) := (impl_within.f (l0_0.length : Int) 1 6).bind fun t240 => (if t240 = true then (impl_IsMobile.j0 k (l0_0.length : Int) ((l0_1.length : Int) != (l0_0.length : Int)) l0_0 l0_1) else (impl_IsMobile.j0 k (l0_0.length : Int) true l0_0 l0_1))
theorem impl_IsMobile.mono_l : ∀ k, (∀ y0 y1 y2 y3, LeO (impl_IsMobile.j0 k y0 y1 y2 y3) (impl_IsMobile.j0 (k + 1) y0 y1 y2 y3)) ∧ (∀ y0 y1 y2 y3 y4 y5 y6, LeO (impl_IsMobile.l0 k y0 y1 y2 y3 y4 y5 y6) (impl_IsMobile.l0 (k + 1) y0 y1 y2 y3 y4 y5 y6)) ∧ (∀ y0 y1 y2 y3 y4 y5 y6 y7 y8, LeO (impl_IsMobile.j2 k y0 y1 y2 y3 y4 y5 y6 y7 y8) (impl_IsMobile.j2 (k + 1) y0 y1 y2 y3 y4 y5 y6 y7 y8)) ∧ (∀ y0 y1 y2 y3 y4 y5 y6 y7 y8 y9 y10, LeO (impl_IsMobile.l1 k y0 y1 y2 y3 y4 y5 y6 y7 y8 y9 y10) (impl_IsMobile.l1 (k + 1) y0 y1 y2 y3 y4 y5 y6 y7 y8 y9 y10))
 | 0 => ⟨fun _ _ _ _ r h => by simp [impl_IsMobile.j0] at h, fun _ _ _ _ _ _ _ r h => by simp [impl_IsMobile.l0] at h, fun _ _ _ _ _ _ _ _ _ r h => by simp [impl_IsMobile.j2] at h, fun _ _ _ _ _ _ _ _ _ _ _ r h => by simp [impl_IsMobile.l1] at h⟩
 | k + 1 => by
  obtain ⟨ih0, ih1, ih2, ih3⟩ := impl_IsMobile.mono_l k
  refine ⟨?_, ?_, ?_, ?_⟩
  ·
   intro y0 y1 y2 y3
   unfold impl_IsMobile.j0
   repeat' first
   | (with_reducible exact ih0 _ _ _ _)
   | (with_reducible exact ih1 _ _ _ _ _ _ _)
   | (with_reducible exact ih2 _ _ _ _ _ _ _ _ _)
   | (with_reducible exact ih3 _ _ _ _ _ _ _ _ _ _ _)
   | (with_reducible exact slices_Contains_bool_bool.mono _ _ _)
   | (with_reducible exact LeO.refl _)
   | (with_reducible exact LeO.none _)
   | (with_reducible refine LeO.ite ?_ ?_)
   | (with_reducible refine LeO.bind ?_ (fun _ => ?_))
   | exact ih0 _ _ _ _
   | exact ih1 _ _ _ _ _ _ _
   | exact ih2 _ _ _ _ _ _ _ _ _
   | exact ih3 _ _ _ _ _ _ _ _ _ _ _
   | exact slices_Contains_bool_bool.mono _ _ _
   | exact LeO.none _
   | refine LeO.ite ?_ ?_
   | refine LeO.bind ?_ (fun _ => ?_)
  ·
   intro y0 y1 y2 y3 y4 y5 y6
   unfold impl_IsMobile.l0
   repeat' first
   | (with_reducible exact ih0 _ _ _ _)
   | (with_reducible exact ih1 _ _ _ _ _ _ _)
   | (with_reducible exact ih2 _ _ _ _ _ _ _ _ _)
   | (with_reducible exact ih3 _ _ _ _ _ _ _ _ _ _ _)
   | (with_reducible exact slices_Contains_bool_bool.mono _ _ _)
   | (with_reducible exact LeO.refl _)
   | (with_reducible exact LeO.none _)
   | (with_reducible refine LeO.ite ?_ ?_)
   | (with_reducible refine LeO.bind ?_ (fun _ => ?_))
   | exact ih0 _ _ _ _
   | exact ih1 _ _ _ _ _ _ _
   | exact ih2 _ _ _ _ _ _ _ _ _
   | exact ih3 _ _ _ _ _ _ _ _ _ _ _
   | exact slices_Contains_bool_bool.mono _ _ _
   | exact LeO.none _
   | refine LeO.ite ?_ ?_
   | refine LeO.bind ?_ (fun _ => ?_)
  ·
   intro y0 y1 y2 y3 y4 y5 y6 y7 y8
   unfold impl_IsMobile.j2
   repeat' first
   | (with_reducible exact ih0 _ _ _ _)
   | (with_reducible exact ih1 _ _ _ _ _ _ _)
   | (with_reducible exact ih2 _ _ _ _ _ _ _ _ _)
   | (with_reducible exact ih3 _ _ _ _ _ _ _ _ _ _ _)
   | (with_reducible exact slices_Contains_bool_bool.mono _ _ _)
   | (with_reducible exact LeO.refl _)
   | (with_reducible exact LeO.none _)
   | (with_reducible refine LeO.ite ?_ ?_)
   | (with_reducible refine LeO.bind ?_ (fun _ => ?_))
   | exact ih0 _ _ _ _
   | exact ih1 _ _ _ _ _ _ _
   | exact ih2 _ _ _ _ _ _ _ _ _
   | exact ih3 _ _ _ _ _ _ _ _ _ _ _
   | exact slices_Contains_bool_bool.mono _ _ _
   | exact LeO.none _
   | refine LeO.ite ?_ ?_
   | refine LeO.bind ?_ (fun _ => ?_)
  ·
   intro y0 y1 y2 y3 y4 y5 y6 y7 y8 y9 y10
   unfold impl_IsMobile.l1
   repeat' first
   | (with_reducible exact ih0 _ _ _ _)
   | (with_reducible exact ih1 _ _ _ _ _ _ _)
   | (with_reducible exact ih2 _ _ _ _ _ _ _ _ _)
   | (with_reducible exact ih3 _ _ _ _ _ _ _ _ _ _ _)
   | (with_reducible exact slices_Contains_bool_bool.mono _ _ _)
   | (with_reducible exact LeO.refl _)
   | (with_reducible exact LeO.none _)
   | (with_reducible refine LeO.ite ?_ ?_)
   | (with_reducible refine LeO.bind ?_ (fun _ => ?_))
   | exact ih0 _ _ _ _
   | exact ih1 _ _ _ _ _ _ _
   | exact ih2 _ _ _ _ _ _ _ _ _
   | exact ih3 _ _ _ _ _ _ _ _ _ _ _
   | exact slices_Contains_bool_bool.mono _ _ _
   | exact LeO.none _
   | refine LeO.ite ?_ ?_
   | refine LeO.bind ?_ (fun _ => ?_)
theorem impl_IsMobile.mono : ∀ a0 a1 k, LeO (impl_IsMobile.f k a0 a1) (impl_IsMobile.f (k + 1) a0 a1) := by
 intro a0 a1 k
 obtain ⟨ih0, ih1, ih2, ih3⟩ := impl_IsMobile.mono_l k
 unfold impl_IsMobile.f
 repeat' first
   | (with_reducible exact ih0 _ _ _ _)
   | (with_reducible exact ih1 _ _ _ _ _ _ _)
   | (with_reducible exact ih2 _ _ _ _ _ _ _ _ _)
   | (with_reducible exact ih3 _ _ _ _ _ _ _ _ _ _ _)
   | (with_reducible exact slices_Contains_bool_bool.mono _ _ _)
   | (with_reducible exact LeO.refl _)
   | (with_reducible exact LeO.none _)
   | (with_reducible refine LeO.ite ?_ ?_)
   | (with_reducible refine LeO.bind ?_ (fun _ => ?_))
   | exact ih0 _ _ _ _
   | exact ih1 _ _ _ _ _ _ _
   | exact ih2 _ _ _ _ _ _ _ _ _
   | exact ih3 _ _ _ _ _ _ _ _ _ _ _
   | exact slices_Contains_bool_bool.mono _ _ _
   | exact LeO.none _
   | refine LeO.ite ?_ ?_
   | refine LeO.bind ?_ (fun _ => ?_)
set_option maxHeartbeats 8000000 in
set_option maxRecDepth 100000 in
theorem impl_IsMobile.calls (k : Nat) (A0_0 : Option Addr) (c0_0 : Nat) (l0_0 : List (S58)) (A0_1 : Option Addr) (c0_1 : Nat) (l0_1 : List (S58)) (r : Bool) (w : World) (hr0_0 : Kd.C k58 w A0_0 l0_0.length l0_0) (hc0_0 : l0_0.length ≤ c0_0) (hr0_1 : Kd.C k58 w A0_1 l0_1.length l0_1) (hc0_1 : l0_1.length ≤ c0_1) (h : impl_IsMobile.f k l0_0 l0_1 = some r) :
  Calls Try.prog 18 #[.agg #[.slice A0_0 l0_0.length c0_0, .slice A0_1 l0_1.length c0_1]] w fun e w' => e = .returned (.bool r) ∧ Below w.heap.size w w' := by
 have hu27 := Try.underlying27
 have hu58 := Try.underlying58
 have hwz_ : wrap64 0 = 0 := by simp [wrap64]
 have hwo_ : wrap64 1 = 1 := by simp [wrap64]
 have hix58_0 : ∀ (e0_ e1_ : Value) (W_ : World), (Instr.index 58 (.agg #[e0_, e1_]) (.int .i64 0)).run Try.prog W_ = .ok e0_ W_ := fun _ _ _ => by kernel_rfl
 have hix58_1 : ∀ (e0_ e1_ : Value) (W_ : World), (Instr.index 58 (.agg #[e0_, e1_]) (.int .i64 1)).run Try.prog W_ = .ok e1_ W_ := fun _ _ _ => by kernel_rfl
 have HR0_0 := Aside0.mk hr0_0
 have HC0_0 := Aside0.mk hc0_0
 clear hr0_0 hc0_0
 have HR0_1 := Aside0.mk hr0_1
 have HC0_1 := Aside0.mk hc0_1
 clear hr0_1 hc0_1
 have HB := Aside0.mk (Below.refl w.heap.size w)
 have H : ((impl_within.f (l0_0.length : Int) 1 6).bind fun t240 => (if t240 = true then (impl_IsMobile.j0 k (l0_0.length : Int) ((l0_1.length : Int) != (l0_0.length : Int)) l0_0 l0_1) else (impl_IsMobile.j0 k (l0_0.length : Int) true l0_0 l0_1))) = some r := h
 clear h
 have HC2 := Aside0.mk H
 clear H
 go_enter Try.func18, Try.ntmps18
 go_upto_region 2 with (first | ((with_reducible refine gate_dst (N := 1) rfl ?_); (try (refine gate_guard (by rfl) ?_; dsimp only)); refine box_event ?hg (N := 1) ?hd (cs := #[.slice A0_0 l0_0.length c0_0, .slice A0_1 l0_1.length c0_1]) (t := 27) ?hr ?_; (case hd => rfl); (case hg => rfl); (case hr => first | (go_simp; done) | (go_simp; rfl)); intro gb239 hg w3 hbox hb; have BK239 := Aside0.mk (hbox); have GW239 := Aside0.mk (bS HB.out hg); have GE239 := Aside0.mk (bS HB.out hg); replace HB := Aside0.mk (below_step (tB HB.out) hb); clear hb hbox hg; obtain ⟨hcz4_0, hfz4_0, hcz4_1, hfz4_1⟩ := cz2 BK239))
 (try simp only [Act.put, List.setIfInBounds_toArray, List.set_cons_zero, List.set_cons_succ])
 go_cut [21] (fun v21 wc => ∃ (kq : Nat) (x21_1 : Bool), v21 = .bool x21_1 ∧ Aside0 (impl_IsMobile.j0 kq (l0_0.length : Int) x21_1 l0_0 l0_1 = some r) ∧ Aside0 (kq ≤ k) ∧ Aside0 (wc.heap[gb239]? = some (.cells #[(.slice A0_0 l0_0.length c0_0), (.slice A0_1 l0_1.length c0_1)] 27 (0, 0))) ∧ Aside0 (Below w.heap.size w wc))
 case first =>
  have H := HC2.out
  clear HC2
  replace H := Option.bind_eq_some_iff.mp H
  obtain ⟨t240, A50, H⟩ := H
  replace H : (if t240 = true then (impl_IsMobile.j0 k (l0_0.length : Int) ((l0_1.length : Int) != (l0_0.length : Int)) l0_0 l0_1) else (impl_IsMobile.j0 k (l0_0.length : Int) true l0_0 l0_1)) = some r := H
  have A5 := Aside0.mk A50
  clear A50
  by_cases c6 : t240 = true
  ·
   subst c6
   have H1 : (impl_IsMobile.j0 k (l0_0.length : Int) ((l0_1.length : Int) != (l0_0.length : Int)) l0_0 l0_1) = some r := by rw [if_pos rfl] at H; exact H
   clear H
   have H := H1
   clear H1
   have H' := Aside0.mk H
   clear H
   go_wp2_with (first | ((with_reducible refine gate_callee (f := 54) rfl ?_); refine goesL_ (some 13) rfl rfl Try.func54 (by kernel_rfl) rfl #[.int .i64 (l0_0.length : Int), .int .i64 1, .int .i64 6] rfl tM ?_; (with_reducible refine (impl_within.calls (l0_0.length : Int) 1 6 true _ A5.out).mono ?_); rintro e w' ⟨rfl, ⟨nd, rfl⟩⟩; refine ⟨_, rfl, ?_⟩; obtain ⟨hcz7_0, hfz7_0, hcz7_1, hfz7_1⟩ := cz2 BK239))
   go_meet
   case rel => exact ⟨_, (((l0_1.length : Int) != (l0_0.length : Int))), (by first | rfl | (simp; done) | (simp [wrap64]; done) | (simp [*]; done)), H', ⟨by first | omega | exact Nat.le_refl _⟩, ⟨tK BK239.out⟩, ⟨tB HB.out⟩⟩
  ·
   replace c6 := Bool.eq_false_iff.mpr c6
   subst c6
   have H1 : (impl_IsMobile.j0 k (l0_0.length : Int) true l0_0 l0_1) = some r := by rw [if_neg (show ¬ (false = true) by decide)] at H; exact H
   clear H
   have H := H1
   clear H1
   have H' := Aside0.mk H
   clear H
   go_wp2_with (first | ((with_reducible refine gate_callee (f := 54) rfl ?_); refine goesL_ (some 13) rfl rfl Try.func54 (by kernel_rfl) rfl #[.int .i64 (l0_0.length : Int), .int .i64 1, .int .i64 6] rfl tM ?_; (with_reducible refine (impl_within.calls (l0_0.length : Int) 1 6 false _ A5.out).mono ?_); rintro e w' ⟨rfl, ⟨nd, rfl⟩⟩; refine ⟨_, rfl, ?_⟩))
   go_meet
   case rel => exact ⟨_, (true), (by first | rfl | (simp; done) | (simp [wrap64]; done) | (simp [*]; done)), H', ⟨by first | omega | exact Nat.le_refl _⟩, ⟨tK BK239.out⟩, ⟨tB HB.out⟩⟩
 case rest =>
  clear HC2
  try clear c1
  try clear p2
  try clear c5
  try clear c6
  try clear p6
  try clear hcz4_0
  try clear hcz4_1
  try clear hcz7_0
  try clear hcz7_1
  try clear hfz4_0
  try clear hfz4_1
  try clear hfz7_0
  try clear hfz7_1
  obtain ⟨kq, x21_1, rfl, HA, HJ1, BK239, HB⟩ := hcut
  cases kq with
  | zero => exact absurd HA.out (by simp [impl_IsMobile.j0])
  | succ kj1 =>
   have H := HA.out
   clear HA
   simp only [impl_IsMobile.j0] at H
   by_cases c8 : x21_1 = true
   ·
    subst c8
    have H1 : (some false) = some r := by rw [if_pos rfl] at H; exact H
    clear H
    have H := H1
    clear H1
    obtain rfl := Option.some.inj H
    go_wp2
    go_ret
    exact ⟨by first | rfl | (simp [errW_none, errW_some] <;> rfl) | (simp [*, errW_none, errW_some] <;> rfl), tB HB.out⟩
   ·
    replace c8 := Bool.eq_false_iff.mpr c8
    subst c8
    have H1 : (if 0 ≤ (l0_0.length : Int) then (if ((l0_0.length : Int) : Int).toNat ≤ 281474976710656 then (impl_IsMobile.l0 kj1 (l0_0.length : Int) (List.replicate ((l0_0.length : Int) : Int).toNat false) l0_0 (l0_0.length : Int) 0 l0_0 l0_1) else (none)) else (none)) = some r := by rw [if_neg (show ¬ (false = true) by decide)] at H; exact H
    clear H
    have H := H1
    clear H1
    by_cases c9 : 0 ≤ (l0_0.length : Int)
    ·
     rw [if_pos c9] at H
     have c9b0 := eq_true c9
     have c9b1 : decide (0 ≤ (l0_0.length : Int)) = true := decide_eq_true c9
     clear c9
     by_cases c10 : ((l0_0.length : Int) : Int).toNat ≤ 281474976710656
     ·
      rw [if_pos c10] at H
      have c10b0 := eq_true c10
      have c10b1 : decide (((l0_0.length : Int) : Int).toNat ≤ 281474976710656) = true := decide_eq_true c10
      clear c10
      obtain ⟨y241, hy241⟩ : ∃ y_ : List Bool, y_ = (List.replicate ((l0_0.length : Int) : Int).toNat false) := ⟨_, rfl⟩
      replace H : (impl_IsMobile.l0 kj1 (l0_0.length : Int) y241 l0_0 (l0_0.length : Int) 0 l0_0 l0_1) = some r := by first | (rw [hy241]; with_reducible exact H) | (have H2_ := (Option.bind_some _ _).symm.trans H; rw [hy241]; with_reducible exact H2_) | (have H2_ := (Option.bind_some _ _).symm.trans H; with_reducible exact H2_) | with_reducible exact H | (rw [hy241]; exact H) | exact H
      have Ny241 := Aside0.mk hy241
      clear hy241
      have H' := Aside0.mk H
      clear H
      go_wp2_with (first | ((with_reducible refine gate_dst (N := 23) rfl ?_); (try (refine gate_guard (by rfl) ?_; dsimp only)); refine Kd.R_make Kd.bool _ 4 rfl (N := 23) rfl 57 _ _ rfl (l0_0.length : Int) rfl rfl Try.underlying57 (.bool false) 1 info4 rfl (by decide) (by omega) false (ok := fun _ => True) (okp := fun _ => True) rfl (fun _ hk => hk) trivial (of_decide_eq_true (by first | (with_reducible assumption) | assumption)) (Nat.le_trans (Nat.mul_le_mul_right _ (of_decide_eq_true (by first | (with_reducible assumption) | assumption) : (l0_0.length : Int).toNat ≤ 281474976710656)) (by omega)) (Below.refl _ _) (Nat.le_refl _) ?_; intro v242 w11 ho12 hb hg_ hnew_; clear hg_ hnew_; (first | rw [← Ny241.out] at ho12 | (simp only [Int.reduceToNat] at ho12; rw [← Ny241.out] at ho12)); have HO243 := Aside0.mk (Kd.R_lower ho12 (below_size (tB HB.out))); replace BK239 := bkB BK239 hb; replace HB := Aside0.mk (below_step (tB HB.out) hb); clear hb ho12; obtain ⟨hcz13_0, hfz13_0, hcz13_1, hfz13_1⟩ := cz2 BK239))
      go_loopg [27] kj1 (fun kq v27 w' => ∃ (x4_2 : List Bool) (x27_2 : Int), v27 = .int .i64 x27_2 ∧ Aside0 (impl_IsMobile.l0 kq (l0_0.length : Int) x4_2 l0_0 (l0_0.length : Int) x27_2 l0_0 l0_1 = some r) ∧ Aside0 (kq ≤ kj1) ∧ Aside0 (Kd.R Kd.bool 4 w' w.heap.size (fun _ => True) v242 x4_2) ∧ Aside0 (w'.heap[gb239]? = some (.cells #[(.slice A0_0 l0_0.length c0_0), (.slice A0_1 l0_1.length c0_1)] 27 (0, 0))) ∧ Aside0 (Below w.heap.size w w'))
      case atStart => exact ⟨(y241), (0), (by first | rfl | (simp; done) | (simp [wrap64]; done) | (simp [*]; done)), H', ⟨Nat.le_refl _⟩, ⟨tR HO243.out⟩, ⟨tK BK239.out⟩, ⟨tB HB.out⟩⟩
      case round =>
       clear H'
       try clear c1
       try clear p2
       try clear c5
       try clear c6
       try clear p6
       try clear c8
       try clear c9
       try clear c9b0
       try clear c9b1
       try clear c10
       try clear c10b0
       try clear c10b1
       try clear hcz13_0
       try clear hcz13_1
       try clear hcz4_0
       try clear hcz4_1
       try clear hcz7_0
       try clear hcz7_1
       try clear hfz13_0
       try clear hfz13_1
       try clear hfz4_0
       try clear hfz4_1
       try clear hfz7_0
       try clear hfz7_1
       try clear p2
       try clear p6
       obtain ⟨x4_2, x27_2, rfl, HA, HK2, HO_4, BK239, HB⟩ := hrel
       cases gk with
       | zero => exact absurd HA.out (by simp [impl_IsMobile.l0])
       | succ k2 =>
        have H := HA.out
        clear HA
        simp only [impl_IsMobile.l0] at H
        by_cases c14 : x27_2 < (l0_0.length : Int)
        ·
         rw [if_pos c14] at H
         have c14b0 : decide (x27_2 < (l0_0.length : Int)) = true := decide_eq_true c14
         clear c14
         by_cases c15 : 0 ≤ x27_2
         ·
          rw [if_pos c15] at H
          have c15b0 : decide (0 ≤ x27_2) = true := decide_eq_true c15
          clear c15
          by_cases c16 : x27_2 < (l0_0.length : Int)
          ·
           rw [if_pos c16] at H
           have c16b0 : decide (x27_2 < (l0_0.length : Int)) = true := decide_eq_true c16
           clear c16
           have HC17 := Aside0.mk H
           clear H
           have p249 : 0 ≤ (x27_2 : Int) := of_decide_eq_true (by first | (with_reducible assumption) | assumption)
           have q249 : x27_2 < (l0_0.length : Int) := of_decide_eq_true (by first | (with_reducible assumption) | assumption)
           obtain ⟨ad249, e249, hx249_0, hx249_1⟩ := at_T58 HR0_0.out x27_2 p249 q249
           cases e249
           replace hx249_0 := (HB.out.cell (World.block_lt_of_cell? w _ hx249_0)).trans hx249_0
           replace hx249_1 := (HB.out.cell (World.block_lt_of_cell? w _ hx249_1)).trans hx249_1
           replace p249 := eq_true p249
           replace q249 := eq_true q249
           go_upto_region 8 with (first | ((with_reducible refine gate_dst (N := 6) rfl ?_); (try (refine gate_guard (by rfl) ?_; dsimp only)); refine box_event ?hg (N := 6) ?hd (cs := #[.int .i64 0, .int .i64 0]) (t := 58) ?hr ?_; (case hd => rfl); (case hg => rfl); (case hr => first | (go_simp; done) | (go_simp; rfl)); intro gb250 hg w18 hbox hb; replace HO_4 := Aside0.mk (Kd.R_below (tR HO_4.out) hb); have BK250 := Aside0.mk (hbox); have GW250 := Aside0.mk (bS HB.out hg); have GE250 := Aside0.mk (bS HB.out hg); replace HB := Aside0.mk (below_step (tB HB.out) hb); have NB239_250 := Aside0.mk (nL BK239.out hg); have NB250_239 := Aside0.mk (nG BK239.out hg); replace BK239 := bkB BK239 hb; clear hb hbox hg; have hnb19 := NB250_239.out; have hnc19 := NB239_250.out; obtain ⟨hcz20_0, hfz20_0, hcz20_1, hfz20_1⟩ := cz2 BK250))
           (try simp only [Act.put, List.setIfInBounds_toArray, List.set_cons_zero, List.set_cons_succ])
           go_cut [41] (fun v41 wc => ∃ (kq : Nat) (x41_16 : Bool), v41 = .bool x41_16 ∧ Aside0 (impl_IsMobile.j2 kq (l0_0.length : Int) x4_2 x27_2 l0_0 (l0_0.length : Int) x27_2 x41_16 l0_0 l0_1 = some r) ∧ Aside0 (kq ≤ k2) ∧ Aside0 (Kd.R Kd.bool 4 wc w.heap.size (fun _ => True) v242 x4_2) ∧ Aside0 (wc.heap[gb239]? = some (.cells #[(.slice (some ad249) l0_0.length c0_0), (.slice A0_1 l0_1.length c0_1)] 27 (0, 0))) ∧ Aside0 (wc.heap[gb250]? = some (.cells #[.int .i64 ((rd_T58 l0_0 x27_2).f0), .int .i64 ((rd_T58 l0_0 x27_2).f1)] 58 (0, 0))) ∧ Aside0 (Below w.heap.size w wc))
           case first =>
            have H := HC17.out
            clear HC17
            replace H := Option.bind_eq_some_iff.mp H
            obtain ⟨t251, A210, H⟩ := H
            replace H : (if t251 = true then ((impl_isArm.f ((rd_T58 l0_0 x27_2).f1)).bind fun t252 => (impl_IsMobile.j2 k2 (l0_0.length : Int) x4_2 x27_2 l0_0 (l0_0.length : Int) x27_2 (!t252) l0_0 l0_1)) else (impl_IsMobile.j2 k2 (l0_0.length : Int) x4_2 x27_2 l0_0 (l0_0.length : Int) x27_2 true l0_0 l0_1)) = some r := H
            have A21 := Aside0.mk A210
            clear A210
            by_cases c22 : t251 = true
            ·
             subst c22
             have H1 : ((impl_isArm.f ((rd_T58 l0_0 x27_2).f1)).bind fun t252 => (impl_IsMobile.j2 k2 (l0_0.length : Int) x4_2 x27_2 l0_0 (l0_0.length : Int) x27_2 (!t252) l0_0 l0_1)) = some r := by rw [if_pos rfl] at H; exact H
             clear H
             have H := H1
             clear H1
             replace H := Option.bind_eq_some_iff.mp H
             obtain ⟨t252, A230, H⟩ := H
             replace H : (impl_IsMobile.j2 k2 (l0_0.length : Int) x4_2 x27_2 l0_0 (l0_0.length : Int) x27_2 (!t252) l0_0 l0_1) = some r := H
             have A23 := Aside0.mk A230
             clear A230
             have H' := Aside0.mk H
             clear H
             have hnb24 := NB250_239.out
             have hnc24 := NB239_250.out
             obtain ⟨hcz25_0, hfz25_0, hcz25_1, hfz25_1⟩ := cz2 BK250
             go_wp2_with (first | ((with_reducible refine gate_callee (f := 55) rfl ?_); refine goesL_ (some 34) rfl rfl Try.func55 (by kernel_rfl) rfl #[.int .i64 ((rd_T58 l0_0 x27_2).f0)] rfl tM ?_; (with_reducible refine (impl_isArm.calls ((rd_T58 l0_0 x27_2).f0) true _ A21.out).mono ?_); rintro e w' ⟨rfl, ⟨nd, rfl⟩⟩; refine ⟨_, rfl, ?_⟩) | (go_at_call 55; (with_reducible refine (impl_isArm.calls ((rd_T58 l0_0 x27_2).f1) t252 _ A23.out).mono ?_); rintro e w' ⟨rfl, ⟨nd, rfl⟩⟩))
             go_meet
             case rel => exact ⟨_, (!t252), (by first | rfl | (simp; done) | (simp [wrap64]; done) | (simp [*]; done)), H', ⟨by have := HJ1.out; have := HK2.out; first | omega | exact Nat.le_refl _⟩, ⟨by (with_reducible repeat (first | apply Kd.R_alloc | apply Kd.R_drewN | apply Kd.R_drew)); exact Kd.R_mono (Kd.R_far (p := ⟨gb250, 1, none⟩) (Kd.R_far (p := ⟨gb250, 0, none⟩) (Kd.R_types HO_4.out BK250.out (by decide)) (fun _ hk => hk.2) (.int .i64 ((rd_T58 l0_0 x27_2).f0))) (fun _ hk => hk.2) (.int .i64 ((rd_T58 l0_0 x27_2).f1))) (fun _ hk => trivial)⟩, ⟨by (with_reducible repeat (first | refine blk_drewN ?_ _ | refine blk_drew ?_ | refine blk_alloc ?_ _)); refine blk_far ?_ NB239_250.out _; (with_reducible repeat (first | refine blk_drewN ?_ _ | refine blk_drew ?_ | refine blk_alloc ?_ _)); refine blk_far ?_ NB239_250.out _; (with_reducible repeat (first | refine blk_drewN ?_ _ | refine blk_drew ?_ | refine blk_alloc ?_ _)); exact BK239.out⟩, ⟨by (with_reducible repeat (first | refine blk_drewN ?_ _ | refine blk_drew ?_ | refine blk_alloc ?_ _)); refine blk_put (cs := #[.int .i64 ((rd_T58 l0_0 x27_2).f0), .int .i64 0]) ?_ 1 _ rfl; (with_reducible repeat (first | refine blk_drewN ?_ _ | refine blk_drew ?_ | refine blk_alloc ?_ _)); refine blk_put (cs := #[.int .i64 0, .int .i64 0]) ?_ 0 _ rfl; (with_reducible repeat (first | refine blk_drewN ?_ _ | refine blk_drew ?_ | refine blk_alloc ?_ _)); exact BK250.out⟩, ⟨tB HB.out⟩⟩
            ·
             replace c22 := Bool.eq_false_iff.mpr c22
             subst c22
             have H1 : (impl_IsMobile.j2 k2 (l0_0.length : Int) x4_2 x27_2 l0_0 (l0_0.length : Int) x27_2 true l0_0 l0_1) = some r := by rw [if_neg (show ¬ (false = true) by decide)] at H; exact H
             clear H
             have H := H1
             clear H1
             have H' := Aside0.mk H
             clear H
             have hnb26 := NB250_239.out
             have hnc26 := NB239_250.out
             obtain ⟨hcz27_0, hfz27_0, hcz27_1, hfz27_1⟩ := cz2 BK250
             go_wp2_with (first | ((with_reducible refine gate_callee (f := 55) rfl ?_); refine goesL_ (some 34) rfl rfl Try.func55 (by kernel_rfl) rfl #[.int .i64 ((rd_T58 l0_0 x27_2).f0)] rfl tM ?_; (with_reducible refine (impl_isArm.calls ((rd_T58 l0_0 x27_2).f0) false _ A21.out).mono ?_); rintro e w' ⟨rfl, ⟨nd, rfl⟩⟩; refine ⟨_, rfl, ?_⟩))
             go_meet
             case rel => exact ⟨_, (true), (by first | rfl | (simp; done) | (simp [wrap64]; done) | (simp [*]; done)), H', ⟨by have := HJ1.out; have := HK2.out; first | omega | exact Nat.le_refl _⟩, ⟨by (with_reducible repeat (first | apply Kd.R_alloc | apply Kd.R_drewN | apply Kd.R_drew)); exact Kd.R_mono (Kd.R_far (p := ⟨gb250, 1, none⟩) (Kd.R_far (p := ⟨gb250, 0, none⟩) (Kd.R_types HO_4.out BK250.out (by decide)) (fun _ hk => hk.2) (.int .i64 ((rd_T58 l0_0 x27_2).f0))) (fun _ hk => hk.2) (.int .i64 ((rd_T58 l0_0 x27_2).f1))) (fun _ hk => trivial)⟩, ⟨by (with_reducible repeat (first | refine blk_drewN ?_ _ | refine blk_drew ?_ | refine blk_alloc ?_ _)); refine blk_far ?_ NB239_250.out _; (with_reducible repeat (first | refine blk_drewN ?_ _ | refine blk_drew ?_ | refine blk_alloc ?_ _)); refine blk_far ?_ NB239_250.out _; (with_reducible repeat (first | refine blk_drewN ?_ _ | refine blk_drew ?_ | refine blk_alloc ?_ _)); exact BK239.out⟩, ⟨by (with_reducible repeat (first | refine blk_drewN ?_ _ | refine blk_drew ?_ | refine blk_alloc ?_ _)); refine blk_put (cs := #[.int .i64 ((rd_T58 l0_0 x27_2).f0), .int .i64 0]) ?_ 1 _ rfl; (with_reducible repeat (first | refine blk_drewN ?_ _ | refine blk_drew ?_ | refine blk_alloc ?_ _)); refine blk_put (cs := #[.int .i64 0, .int .i64 0]) ?_ 0 _ rfl; (with_reducible repeat (first | refine blk_drewN ?_ _ | refine blk_drew ?_ | refine blk_alloc ?_ _)); exact BK250.out⟩, ⟨tB HB.out⟩⟩
           case rest =>
            clear HC17
            try clear c1
            try clear c2
            try clear p2
            try clear q2
            try clear hx2
            try clear c5
            try clear c6
            try clear p6
            try clear c8
            try clear c9
            try clear c9b0
            try clear c9b1
            try clear c10
            try clear c10b0
            try clear c10b1
            try clear c14
            try clear c14b0
            try clear c15
            try clear c15b0
            try clear c16
            try clear c16b0
            try clear c18
            try clear c19
            try clear c22
            try clear c24
            try clear p24
            try clear q24
            try clear hx24
            try clear c26
            try clear hcz13_0
            try clear hcz13_1
            try clear hcz20_0
            try clear hcz20_1
            try clear hcz25_0
            try clear hcz25_1
            try clear hcz27_0
            try clear hcz27_1
            try clear hcz4_0
            try clear hcz4_1
            try clear hcz7_0
            try clear hcz7_1
            try clear hfz13_0
            try clear hfz13_1
            try clear hfz20_0
            try clear hfz20_1
            try clear hfz25_0
            try clear hfz25_1
            try clear hfz27_0
            try clear hfz27_1
            try clear hfz4_0
            try clear hfz4_1
            try clear hfz7_0
            try clear hfz7_1
            try clear hx249_0
            try clear hx249_1
            try clear p2
            try clear p249
            try clear p6
            try clear q249
            obtain ⟨kq, x41_16, rfl, HA, HJ16, HO_4, BK239, BK250, HB⟩ := hcut
            cases kq with
            | zero => exact absurd HA.out (by simp [impl_IsMobile.j2])
            | succ kj16 =>
             have H := HA.out
             clear HA
             simp only [impl_IsMobile.j2] at H
             by_cases c28 : x41_16 = true
             ·
              subst c28
              have H1 : (some false) = some r := by rw [if_pos rfl] at H; exact H
              clear H
              have H := H1
              clear H1
              obtain rfl := Option.some.inj H
              go_wp2
              go_ret
              exact ⟨by first | rfl | (simp [errW_none, errW_some] <;> rfl) | (simp [*, errW_none, errW_some] <;> rfl), tB HB.out⟩
             ·
              replace c28 := Bool.eq_false_iff.mpr c28
              subst c28
              have H1 : (if 0 ≤ x27_2 then (if x27_2 < (l0_1.length : Int) then (impl_IsMobile.l1 kj16 (l0_0.length : Int) x4_2 x27_2 l0_0 (l0_0.length : Int) x27_2 0 l0_0 l0_1 ((rd_T58 l0_1 x27_2).f0) ((rd_T58 l0_1 x27_2).f1)) else (none)) else (none)) = some r := by rw [if_neg (show ¬ (false = true) by decide)] at H; exact H
              clear H
              have H := H1
              clear H1
              by_cases c29 : 0 ≤ x27_2
              ·
               rw [if_pos c29] at H
               have c29b0 : decide (0 ≤ x27_2) = true := decide_eq_true c29
               clear c29
               by_cases c30 : x27_2 < (l0_1.length : Int)
               ·
                rw [if_pos c30] at H
                have c30b0 : decide (x27_2 < (l0_1.length : Int)) = true := decide_eq_true c30
                clear c30
                have H' := Aside0.mk H
                clear H
                have hnb31 := NB239_250.out
                have hnc31 := NB250_239.out
                obtain ⟨hcz32_0, hfz32_0, hcz32_1, hfz32_1⟩ := cz2 BK239
                have p253 : 0 ≤ (x27_2 : Int) := of_decide_eq_true (by first | (with_reducible assumption) | assumption)
                have q253 : x27_2 < (l0_1.length : Int) := of_decide_eq_true (by first | (with_reducible assumption) | assumption)
                obtain ⟨ad253, e253, hx253_0, hx253_1⟩ := at_T58 HR0_1.out x27_2 p253 q253
                cases e253
                replace hx253_0 := (HB.out.cell (World.block_lt_of_cell? w _ hx253_0)).trans hx253_0
                replace hx253_1 := (HB.out.cell (World.block_lt_of_cell? w _ hx253_1)).trans hx253_1
                replace p253 := eq_true p253
                replace q253 := eq_true q253
                go_wp2
                go_loopg [47] kj16 (fun kq v47 w' => ∃ (x4_4 : List Bool) (x47_4 : Int), v47 = .int .i64 x47_4 ∧ Aside0 (impl_IsMobile.l1 kq (l0_0.length : Int) x4_4 x27_2 l0_0 (l0_0.length : Int) x27_2 x47_4 l0_0 l0_1 ((rd_T58 l0_1 x27_2).f0) ((rd_T58 l0_1 x27_2).f1) = some r) ∧ Aside0 (kq ≤ kj16) ∧ Aside0 (Kd.R Kd.bool 4 w' w.heap.size (fun _ => True) v242 x4_4) ∧ Aside0 (w'.heap[gb239]? = some (.cells #[(.slice (some ad249) l0_0.length c0_0), (.slice (some ad253) l0_1.length c0_1)] 27 (0, 0))) ∧ Aside0 (w'.heap[gb250]? = some (.cells #[.int .i64 ((rd_T58 l0_0 x27_2).f0), .int .i64 ((rd_T58 l0_0 x27_2).f1)] 58 (0, 0))) ∧ Aside0 (Below w.heap.size w w'))
                case atStart => exact ⟨(x4_2), (0), (by first | rfl | (simp; done) | (simp [wrap64]; done) | (simp [*]; done)), H', ⟨Nat.le_refl _⟩, ⟨tR HO_4.out⟩, ⟨tK BK239.out⟩, ⟨tK BK250.out⟩, ⟨tB HB.out⟩⟩
                case round =>
                 clear H'
                 try clear c1
                 try clear c2
                 try clear p2
                 try clear q2
                 try clear hx2
                 try clear c3
                 try clear c5
                 try clear c6
                 try clear p6
                 try clear c8
                 try clear c9
                 try clear c9b0
                 try clear c9b1
                 try clear c10
                 try clear c10b0
                 try clear c10b1
                 try clear c14
                 try clear c14b0
                 try clear c15
                 try clear c15b0
                 try clear c16
                 try clear c16b0
                 try clear c18
                 try clear c19
                 try clear c22
                 try clear c24
                 try clear p24
                 try clear q24
                 try clear hx24
                 try clear p25
                 try clear q25
                 try clear hx25
                 try clear c26
                 try clear c28
                 try clear c29
                 try clear c29b0
                 try clear c30
                 try clear c30b0
                 try clear c31
                 try clear hcz13_0
                 try clear hcz13_1
                 try clear hcz20_0
                 try clear hcz20_1
                 try clear hcz25_0
                 try clear hcz25_1
                 try clear hcz27_0
                 try clear hcz27_1
                 try clear hcz32_0
                 try clear hcz32_1
                 try clear hcz4_0
                 try clear hcz4_1
                 try clear hcz7_0
                 try clear hcz7_1
                 try clear hfz13_0
                 try clear hfz13_1
                 try clear hfz20_0
                 try clear hfz20_1
                 try clear hfz25_0
                 try clear hfz25_1
                 try clear hfz27_0
                 try clear hfz27_1
                 try clear hfz32_0
                 try clear hfz32_1
                 try clear hfz4_0
                 try clear hfz4_1
                 try clear hfz7_0
                 try clear hfz7_1
                 try clear hx249_0
                 try clear hx249_1
                 try clear hx253_0
                 try clear hx253_1
                 try clear p2
                 try clear p24
                 try clear p249
                 try clear p253
                 try clear p6
                 try clear q2
                 try clear q24
                 try clear q249
                 try clear q253
                 obtain ⟨x4_4, x47_4, rfl, HA, HK4, HO_4, BK239, BK250, HB⟩ := hrel
                 cases gk with
                 | zero => exact absurd HA.out (by simp [impl_IsMobile.l1])
                 | succ k4 =>
                  have H := HA.out
                  clear HA
                  simp only [impl_IsMobile.l1] at H
                  by_cases c33 : x47_4 < 2
                  ·
                   rw [if_pos c33] at H
                   have c33b0 : decide (x47_4 < 2) = true := decide_eq_true c33
                   clear c33
                   by_cases c34 : x47_4 = 0
                   ·
                    subst c34
                    have H1 : ((impl_isWeight.f ((rd_T58 l0_1 x27_2).f0)).bind fun t254 => (if t254 = true then (impl_IsMobile.l1 k4 (l0_0.length : Int) x4_4 x27_2 l0_0 (l0_0.length : Int) x27_2 (wrap64 (0 + 1)) l0_0 l0_1 ((rd_T58 l0_1 x27_2).f0) ((rd_T58 l0_1 x27_2).f1)) else ((impl_within.f ((rd_T58 l0_1 x27_2).f0) (wrap64 (1 - (l0_0.length : Int))) (wrap64 ((wrap64 (-x27_2)) - 1))).bind fun t255 => (if t255 = true then (if 0 ≤ (wrap64 (-((rd_T58 l0_1 x27_2).f0))) then (if (wrap64 (-((rd_T58 l0_1 x27_2).f0))) < (x4_4.length : Int) then (if rdOf false x4_4 (wrap64 (-((rd_T58 l0_1 x27_2).f0))) = true then (some false) else (impl_IsMobile.l1 k4 (l0_0.length : Int) (x4_4.set ((wrap64 (-((rd_T58 l0_1 x27_2).f0))) : Int).toNat true) x27_2 l0_0 (l0_0.length : Int) x27_2 (wrap64 (0 + 1)) l0_0 l0_1 ((rd_T58 l0_1 x27_2).f0) ((rd_T58 l0_1 x27_2).f1))) else (none)) else (none)) else (some false))))) = some r := by rw [if_pos rfl] at H; exact H
                    clear H
                    have H := H1
                    clear H1
                    replace H := Option.bind_eq_some_iff.mp H
                    obtain ⟨t254, A350, H⟩ := H
                    replace H : (if t254 = true then (impl_IsMobile.l1 k4 (l0_0.length : Int) x4_4 x27_2 l0_0 (l0_0.length : Int) x27_2 (wrap64 (0 + 1)) l0_0 l0_1 ((rd_T58 l0_1 x27_2).f0) ((rd_T58 l0_1 x27_2).f1)) else ((impl_within.f ((rd_T58 l0_1 x27_2).f0) (wrap64 (1 - (l0_0.length : Int))) (wrap64 ((wrap64 (-x27_2)) - 1))).bind fun t255 => (if t255 = true then (if 0 ≤ (wrap64 (-((rd_T58 l0_1 x27_2).f0))) then (if (wrap64 (-((rd_T58 l0_1 x27_2).f0))) < (x4_4.length : Int) then (if rdOf false x4_4 (wrap64 (-((rd_T58 l0_1 x27_2).f0))) = true then (some false) else (impl_IsMobile.l1 k4 (l0_0.length : Int) (x4_4.set ((wrap64 (-((rd_T58 l0_1 x27_2).f0))) : Int).toNat true) x27_2 l0_0 (l0_0.length : Int) x27_2 (wrap64 (0 + 1)) l0_0 l0_1 ((rd_T58 l0_1 x27_2).f0) ((rd_T58 l0_1 x27_2).f1))) else (none)) else (none)) else (some false)))) = some r := H
                    have A35 := Aside0.mk A350
                    clear A350
                    by_cases c36 : t254 = true
                    ·
                     subst c36
                     have H1 : (impl_IsMobile.l1 k4 (l0_0.length : Int) x4_4 x27_2 l0_0 (l0_0.length : Int) x27_2 (wrap64 (0 + 1)) l0_0 l0_1 ((rd_T58 l0_1 x27_2).f0) ((rd_T58 l0_1 x27_2).f1)) = some r := by rw [if_pos rfl] at H; exact H
                     clear H
                     have H := H1
                     clear H1
                     have H' := Aside0.mk H
                     clear H
                     go_wp2_with (first | ((with_reducible refine gate_callee (f := 56) rfl ?_); refine goesL_ (some 51) rfl rfl Try.func56 (by kernel_rfl) rfl #[.int .i64 ((rd_T58 l0_1 x27_2).f0)] rfl tM ?_; (with_reducible refine (impl_isWeight.calls ((rd_T58 l0_1 x27_2).f0) true _ A35.out).mono ?_); rintro e w' ⟨rfl, ⟨nd, rfl⟩⟩; refine ⟨_, rfl, ?_⟩))
                     go_roundg k4
                     case measure => have := HJ1.out; have := HK2.out; have := HJ16.out; have := HK4.out; omega
                     case rel => exact ⟨(x4_4), (wrap64 (0 + 1)), (by first | rfl | (simp; done) | (simp [wrap64]; done) | (simp [*]; done)), H', ⟨by have := HJ1.out; have := HK2.out; have := HJ16.out; have := HK4.out; omega⟩, ⟨tR HO_4.out⟩, ⟨tK BK239.out⟩, ⟨tK BK250.out⟩, ⟨tB HB.out⟩⟩
                    ·
                     replace c36 := Bool.eq_false_iff.mpr c36
                     subst c36
                     have H1 : ((impl_within.f ((rd_T58 l0_1 x27_2).f0) (wrap64 (1 - (l0_0.length : Int))) (wrap64 ((wrap64 (-x27_2)) - 1))).bind fun t255 => (if t255 = true then (if 0 ≤ (wrap64 (-((rd_T58 l0_1 x27_2).f0))) then (if (wrap64 (-((rd_T58 l0_1 x27_2).f0))) < (x4_4.length : Int) then (if rdOf false x4_4 (wrap64 (-((rd_T58 l0_1 x27_2).f0))) = true then (some false) else (impl_IsMobile.l1 k4 (l0_0.length : Int) (x4_4.set ((wrap64 (-((rd_T58 l0_1 x27_2).f0))) : Int).toNat true) x27_2 l0_0 (l0_0.length : Int) x27_2 (wrap64 (0 + 1)) l0_0 l0_1 ((rd_T58 l0_1 x27_2).f0) ((rd_T58 l0_1 x27_2).f1))) else (none)) else (none)) else (some false))) = some r := by rw [if_neg (show ¬ (false = true) by decide)] at H; exact H
                     clear H
                     have H := H1
                     clear H1
                     replace H := Option.bind_eq_some_iff.mp H
                     obtain ⟨t255, A370, H⟩ := H
                     replace H : (if t255 = true then (if 0 ≤ (wrap64 (-((rd_T58 l0_1 x27_2).f0))) then (if (wrap64 (-((rd_T58 l0_1 x27_2).f0))) < (x4_4.length : Int) then (if rdOf false x4_4 (wrap64 (-((rd_T58 l0_1 x27_2).f0))) = true then (some false) else (impl_IsMobile.l1 k4 (l0_0.length : Int) (x4_4.set ((wrap64 (-((rd_T58 l0_1 x27_2).f0))) : Int).toNat true) x27_2 l0_0 (l0_0.length : Int) x27_2 (wrap64 (0 + 1)) l0_0 l0_1 ((rd_T58 l0_1 x27_2).f0) ((rd_T58 l0_1 x27_2).f1))) else (none)) else (none)) else (some false)) = some r := H
                     have A37 := Aside0.mk A370
                     clear A370
                     by_cases c38 : t255 = true
                     ·
                      subst c38
                      have H1 : (if 0 ≤ (wrap64 (-((rd_T58 l0_1 x27_2).f0))) then (if (wrap64 (-((rd_T58 l0_1 x27_2).f0))) < (x4_4.length : Int) then (if rdOf false x4_4 (wrap64 (-((rd_T58 l0_1 x27_2).f0))) = true then (some false) else (impl_IsMobile.l1 k4 (l0_0.length : Int) (x4_4.set ((wrap64 (-((rd_T58 l0_1 x27_2).f0))) : Int).toNat true) x27_2 l0_0 (l0_0.length : Int) x27_2 (wrap64 (0 + 1)) l0_0 l0_1 ((rd_T58 l0_1 x27_2).f0) ((rd_T58 l0_1 x27_2).f1))) else (none)) else (none)) = some r := by rw [if_pos rfl] at H; exact H
                      clear H
                      have H := H1
                      clear H1
                      obtain ⟨ji39, hji39⟩ : ∃ j_ : Int, (wrap64 (-((rd_T58 l0_1 x27_2).f0))) = j_ := ⟨_, rfl⟩
                      replace H : (if 0 ≤ (ji39) then (if (ji39) < (x4_4.length : Int) then (if rdOf false x4_4 (ji39) = true then (some false) else (impl_IsMobile.l1 k4 (l0_0.length : Int) (x4_4.set ((ji39) : Int).toNat true) x27_2 l0_0 (l0_0.length : Int) x27_2 (wrap64 (0 + 1)) l0_0 l0_1 ((rd_T58 l0_1 x27_2).f0) ((rd_T58 l0_1 x27_2).f1))) else (none)) else (none)) = some r := by first | (rw [hji39] at H; exact H) | (simp only [hji39] at H ⊢; exact H)
                      (try rw [hji39] at A35)
                      (try rw [hji39] at A37)
                      have hji39w : (IntKind.i64.wrap (-((rd_T58 l0_1 x27_2).f0))) = ji39 := (i64_w _).trans hji39
                      by_cases c40 : 0 ≤ (ji39)
                      ·
                       rw [if_pos c40] at H
                       have c40b0 : decide (0 ≤ (ji39)) = true := decide_eq_true c40
                       clear c40
                       by_cases c41 : (ji39) < (x4_4.length : Int)
                       ·
                        rw [if_pos c41] at H
                        have c41b0 : decide ((ji39) < (x4_4.length : Int)) = true := decide_eq_true c41
                        clear c41
                        obtain ⟨bq42, hbq42⟩ : ∃ b_ : Bool, b_ = (rdOf false x4_4 (ji39)) := ⟨_, rfl⟩
                        replace H : (if bq42 = true then (some false) else (impl_IsMobile.l1 k4 (l0_0.length : Int) (x4_4.set ((ji39) : Int).toNat true) x27_2 l0_0 (l0_0.length : Int) x27_2 (wrap64 (0 + 1)) l0_0 l0_1 ((rd_T58 l0_1 x27_2).f0) ((rd_T58 l0_1 x27_2).f1))) = some r := by rw [← hbq42] at H; exact H
                        have Nbq42 := Aside0.mk hbq42
                        clear hbq42
                        by_cases c43 : bq42 = true
                        ·
                         subst c43
                         have H1 : (some false) = some r := by rw [if_pos rfl] at H; exact H
                         clear H
                         have H := H1
                         clear H1
                         obtain rfl := Option.some.inj H
                         go_wp2_with (first | ((with_reducible refine gate_callee (f := 56) rfl ?_); refine goesL_ (some 51) rfl rfl Try.func56 (by kernel_rfl) rfl #[.int .i64 ((rd_T58 l0_1 x27_2).f0)] rfl tM ?_; (with_reducible refine (impl_isWeight.calls ((rd_T58 l0_1 x27_2).f0) false _ A35.out).mono ?_); rintro e w' ⟨rfl, ⟨nd, rfl⟩⟩; refine ⟨_, rfl, ?_⟩) | ((with_reducible refine gate_callee (f := 54) rfl ?_); refine goesL_ (some 58) rfl rfl Try.func54 (by kernel_rfl) rfl #[.int .i64 ((rd_T58 l0_1 x27_2).f0), .int .i64 (wrap64 (1 - (l0_0.length : Int))), .int .i64 (wrap64 ((wrap64 (-x27_2)) - 1))] rfl tM ?_; (with_reducible refine (impl_within.calls ((rd_T58 l0_1 x27_2).f0) (wrap64 (1 - (l0_0.length : Int))) (wrap64 ((wrap64 (-x27_2)) - 1)) true _ A37.out).mono ?_); rintro e w' ⟨rfl, ⟨nd, rfl⟩⟩; refine ⟨_, rfl, ?_⟩; obtain ⟨Ao44, co44, eo44⟩ := Kd.R_slice HO_4.out; subst eo44; have p256 : 0 ≤ ((ji39) : Int) := of_decide_eq_true (by first | (with_reducible assumption) | assumption); have q256 : (ji39) < (x4_4.length : Int) := of_decide_eq_true (by first | (with_reducible assumption) | assumption); obtain ⟨ad256, e256, hx256_0⟩ := Kd.at_bool (Kd.R_reads' HO_4.out).2.2 (ji39) p256 q256; (try rw [← Nbq42.out] at hx256_0); cases e256; replace p256 := eq_true p256; replace q256 := eq_true q256))
                         go_ret
                         exact ⟨by first | rfl | (simp [errW_none, errW_some] <;> rfl) | (simp only [← hji39]; first | rfl | (simp [errW_none, errW_some] <;> rfl)) | (simp [*, errW_none, errW_some] <;> rfl), tB HB.out⟩
                        ·
                         replace c43 := Bool.eq_false_iff.mpr c43
                         subst c43
                         have H1 : (impl_IsMobile.l1 k4 (l0_0.length : Int) (x4_4.set ((ji39) : Int).toNat true) x27_2 l0_0 (l0_0.length : Int) x27_2 (wrap64 (0 + 1)) l0_0 l0_1 ((rd_T58 l0_1 x27_2).f0) ((rd_T58 l0_1 x27_2).f1)) = some r := by rw [if_neg (show ¬ (false = true) by decide)] at H; exact H
                         clear H
                         have H := H1
                         clear H1
                         obtain ⟨y257, hy257⟩ : ∃ y_ : List Bool, y_ = (x4_4.set ((ji39) : Int).toNat true) := ⟨_, rfl⟩
                         replace H : (impl_IsMobile.l1 k4 (l0_0.length : Int) y257 x27_2 l0_0 (l0_0.length : Int) x27_2 (wrap64 (0 + 1)) l0_0 l0_1 ((rd_T58 l0_1 x27_2).f0) ((rd_T58 l0_1 x27_2).f1)) = some r := by first | (rw [hy257]; with_reducible exact H) | (have H2_ := (Option.bind_some _ _).symm.trans H; rw [hy257]; with_reducible exact H2_) | (have H2_ := (Option.bind_some _ _).symm.trans H; with_reducible exact H2_) | with_reducible exact H | (rw [hy257]; exact H) | exact H
                         have Ny257 := Aside0.mk hy257
                         clear hy257
                         have H' := Aside0.mk H
                         clear H
                         go_wp2_with (first | ((with_reducible refine gate_callee (f := 56) rfl ?_); refine goesL_ (some 51) rfl rfl Try.func56 (by kernel_rfl) rfl #[.int .i64 ((rd_T58 l0_1 x27_2).f0)] rfl tM ?_; (with_reducible refine (impl_isWeight.calls ((rd_T58 l0_1 x27_2).f0) false _ A35.out).mono ?_); rintro e w' ⟨rfl, ⟨nd, rfl⟩⟩; refine ⟨_, rfl, ?_⟩; (try (rw [drewN_self wr]; generalize hq_ : World.drewN wr _ = wr; have n0_ : Aside0 (Kd.R Kd.bool 4 wr w.heap.size (fun _ => True) v242 x4_4) := ⟨by rw [← hq_]; exact (tR HO_4.out)⟩; have n1_ : Aside0 (wr.heap[gb239]? = some (.cells #[.slice (some ad249) l0_0.length c0_0, .slice (some ad253) l0_1.length c0_1] 27 (0, 0))) := ⟨by rw [← hq_]; exact (tK BK239.out)⟩; have n2_ : Aside0 (wr.heap[gb250]? = some (.cells #[.int .i64 ((rd_T58 l0_0 x27_2).f0), .int .i64 ((rd_T58 l0_0 x27_2).f1)] 58 (0, 0))) := ⟨by rw [← hq_]; exact (tK BK250.out)⟩; have n3_ : Aside0 (Below w.heap.size w wr) := ⟨by rw [← hq_]; exact (tB HB.out)⟩; clear HO_4 BK239 BK250 HB hq_; have HO_4 := n0_; have BK239 := n1_; have BK250 := n2_; have HB := n3_; clear n0_ n1_ n2_ n3_))) | ((with_reducible refine gate_callee (f := 54) rfl ?_); refine goesL_ (some 58) rfl rfl Try.func54 (by kernel_rfl) rfl #[.int .i64 ((rd_T58 l0_1 x27_2).f0), .int .i64 (wrap64 (1 - (l0_0.length : Int))), .int .i64 (wrap64 ((wrap64 (-x27_2)) - 1))] rfl tM ?_; (with_reducible refine (impl_within.calls ((rd_T58 l0_1 x27_2).f0) (wrap64 (1 - (l0_0.length : Int))) (wrap64 ((wrap64 (-x27_2)) - 1)) true _ A37.out).mono ?_); rintro e w' ⟨rfl, ⟨nd, rfl⟩⟩; refine ⟨_, rfl, ?_⟩; (try (rw [drewN_self wr]; generalize hq_ : World.drewN wr _ = wr; have n0_ : Aside0 (Kd.R Kd.bool 4 wr w.heap.size (fun _ => True) v242 x4_4) := ⟨by rw [← hq_]; exact (tR HO_4.out)⟩; have n1_ : Aside0 (wr.heap[gb239]? = some (.cells #[.slice (some ad249) l0_0.length c0_0, .slice (some ad253) l0_1.length c0_1] 27 (0, 0))) := ⟨by rw [← hq_]; exact (tK BK239.out)⟩; have n2_ : Aside0 (wr.heap[gb250]? = some (.cells #[.int .i64 ((rd_T58 l0_0 x27_2).f0), .int .i64 ((rd_T58 l0_0 x27_2).f1)] 58 (0, 0))) := ⟨by rw [← hq_]; exact (tK BK250.out)⟩; have n3_ : Aside0 (Below w.heap.size w wr) := ⟨by rw [← hq_]; exact (tB HB.out)⟩; clear HO_4 BK239 BK250 HB hq_; have HO_4 := n0_; have BK239 := n1_; have BK250 := n2_; have HB := n3_; clear n0_ n1_ n2_ n3_)); obtain ⟨Ao46, co46, eo46⟩ := Kd.R_slice HO_4.out; subst eo46; have p256 : 0 ≤ ((ji39) : Int) := of_decide_eq_true (by first | (with_reducible assumption) | assumption); have q256 : (ji39) < (x4_4.length : Int) := of_decide_eq_true (by first | (with_reducible assumption) | assumption); obtain ⟨ad256, e256, hx256_0⟩ := Kd.at_bool (Kd.R_reads' HO_4.out).2.2 (ji39) p256 q256; (try rw [← Nbq42.out] at hx256_0); cases e256; replace p256 := eq_true p256; replace q256 := eq_true q256; have p45 : 0 ≤ ((ji39) : Int) := of_decide_eq_true (by first | (with_reducible assumption) | assumption); have q45 : ((ji39) : Int) < ((x4_4.length : Int) : Int) := of_decide_eq_true (by first | (with_reducible assumption) | assumption); obtain ⟨go45, co45, eo45, gb45, gl45, cl45, HG45⟩ := Kd.R_form HO_4.out (by omega); (first | cases eo45 | (injection eo45 with ea_ en_ ec_; (first | subst ea_ | (injection ea_ with ea_; subst ea_)); subst ec_; clear en_)); have GB45 := Aside0.mk gb45; have GG45 := Aside0.mk HG45; clear gb45 gl45 HG45; (first | simp only [add_plain] at hx256_0 | skip); obtain ⟨hx45_0, hf45_0⟩ := Kd.R_celln false HO_4.out ((ji39) : Int) p45 q45; replace p45 := eq_true p45; replace q45 := eq_true q45; obtain ⟨hy47_, hz47_⟩ := Kd.R_celln false HO_4.out ((ji39) : Int) (of_decide_eq_true (by first | (with_reducible assumption) | assumption)) (of_decide_eq_true (by first | (with_reducible assumption) | assumption)); have HP47 := Kd.R_putg HO_4.out ((ji39) : Int) true) | ((with_reducible refine gate_store (t := 4) (p := 70) rfl ?_); refine store_event (t := 4) (p := 70) (v := ?vo_w48) (w1 := (wr.setCell ⟨go45, ((ji39) : Int).toNat, none⟩ (.bool true))) ?hg ?ho ?hn ?hr ?_; (case ho => rfl); (case hg => rfl); (case hn => rfl); (case hr => first | (go_simp; done) | (go_simp; rfl)); intro w48 hw; have hg : wr.grownBy w48 (some go45) := (by rw [hw]; exact HP47.2); have hp_ : Kd.R Kd.bool 4 w48 w.heap.size (fun _ => True) (.slice (some ⟨go45, 0, none⟩) x4_4.length co46) y257 := (by rw [hw, Ny257.out]; exact HP47.1); clear HP47; replace BK239 := Aside0.mk (blk_grown (g := gb239) (o := .cells #[.slice (some ad249) l0_0.length c0_0, .slice (some ad253) l0_1.length c0_1] 27 (0, 0)) (tK BK239.out) hg (Kd.R_ne HO_4.out BK239.out (by decide))); replace BK250 := Aside0.mk (blk_grown (g := gb250) (o := .cells #[.int .i64 ((rd_T58 l0_0 x27_2).f0), .int .i64 ((rd_T58 l0_0 x27_2).f1)] 58 (0, 0)) (tK BK250.out) hg (Kd.R_ne HO_4.out BK250.out (by decide))); replace HO_4 := Aside0.mk (hp_); replace HB := Aside0.mk ((by rw [hw]; exact below_set (HB.out) GB45.out : Below w.heap.size w w48)); clear hg hw hp_))
                         go_roundg k4
                         case measure => have := HJ1.out; have := HK2.out; have := HJ16.out; have := HK4.out; omega
                         case rel => exact ⟨(y257), (wrap64 (0 + 1)), (by first | rfl | (simp; done) | (simp [wrap64]; done) | (simp [*]; done)), H', ⟨by have := HJ1.out; have := HK2.out; have := HJ16.out; have := HK4.out; omega⟩, ⟨tR HO_4.out⟩, ⟨tK BK239.out⟩, ⟨tK BK250.out⟩, ⟨tB HB.out⟩⟩
                       ·
                        rw [if_neg c41] at H
                        exact absurd H (by simp)
                      ·
                       rw [if_neg c40] at H
                       exact absurd H (by simp)
                     ·
                      replace c38 := Bool.eq_false_iff.mpr c38
                      subst c38
                      have H1 : (some false) = some r := by rw [if_neg (show ¬ (false = true) by decide)] at H; exact H
                      clear H
                      have H := H1
                      clear H1
                      obtain rfl := Option.some.inj H
                      go_wp2_with (first | ((with_reducible refine gate_callee (f := 56) rfl ?_); refine goesL_ (some 51) rfl rfl Try.func56 (by kernel_rfl) rfl #[.int .i64 ((rd_T58 l0_1 x27_2).f0)] rfl tM ?_; (with_reducible refine (impl_isWeight.calls ((rd_T58 l0_1 x27_2).f0) false _ A35.out).mono ?_); rintro e w' ⟨rfl, ⟨nd, rfl⟩⟩; refine ⟨_, rfl, ?_⟩) | ((with_reducible refine gate_callee (f := 54) rfl ?_); refine goesL_ (some 58) rfl rfl Try.func54 (by kernel_rfl) rfl #[.int .i64 ((rd_T58 l0_1 x27_2).f0), .int .i64 (wrap64 (1 - (l0_0.length : Int))), .int .i64 (wrap64 ((wrap64 (-x27_2)) - 1))] rfl tM ?_; (with_reducible refine (impl_within.calls ((rd_T58 l0_1 x27_2).f0) (wrap64 (1 - (l0_0.length : Int))) (wrap64 ((wrap64 (-x27_2)) - 1)) false _ A37.out).mono ?_); rintro e w' ⟨rfl, ⟨nd, rfl⟩⟩; refine ⟨_, rfl, ?_⟩))
                      go_ret
                      exact ⟨by first | rfl | (simp [errW_none, errW_some] <;> rfl) | (simp [*, errW_none, errW_some] <;> rfl), tB HB.out⟩
                   ·
                    rw [if_neg c34] at H
                    have c34b0 : (x47_4 == 0) = false := beq_eq_false_iff_ne.mpr c34
                    have c34b1 : (x47_4 != 0) = true := bne_iff_ne.mpr c34
                    by_cases c49 : x47_4 = 1
                    ·
                     subst c49
                     have H1 : ((impl_isWeight.f ((rd_T58 l0_1 x27_2).f1)).bind fun t258 => (if t258 = true then (impl_IsMobile.l1 k4 (l0_0.length : Int) x4_4 x27_2 l0_0 (l0_0.length : Int) x27_2 (wrap64 (1 + 1)) l0_0 l0_1 ((rd_T58 l0_1 x27_2).f0) ((rd_T58 l0_1 x27_2).f1)) else ((impl_within.f ((rd_T58 l0_1 x27_2).f1) (wrap64 (1 - (l0_0.length : Int))) (wrap64 ((wrap64 (-x27_2)) - 1))).bind fun t259 => (if t259 = true then (if 0 ≤ (wrap64 (-((rd_T58 l0_1 x27_2).f1))) then (if (wrap64 (-((rd_T58 l0_1 x27_2).f1))) < (x4_4.length : Int) then (if rdOf false x4_4 (wrap64 (-((rd_T58 l0_1 x27_2).f1))) = true then (some false) else (impl_IsMobile.l1 k4 (l0_0.length : Int) (x4_4.set ((wrap64 (-((rd_T58 l0_1 x27_2).f1))) : Int).toNat true) x27_2 l0_0 (l0_0.length : Int) x27_2 (wrap64 (1 + 1)) l0_0 l0_1 ((rd_T58 l0_1 x27_2).f0) ((rd_T58 l0_1 x27_2).f1))) else (none)) else (none)) else (some false))))) = some r := by rw [if_pos rfl] at H; exact H
                     clear H
                     have H := H1
                     clear H1
                     replace H := Option.bind_eq_some_iff.mp H
                     obtain ⟨t258, A500, H⟩ := H
                     replace H : (if t258 = true then (impl_IsMobile.l1 k4 (l0_0.length : Int) x4_4 x27_2 l0_0 (l0_0.length : Int) x27_2 (wrap64 (1 + 1)) l0_0 l0_1 ((rd_T58 l0_1 x27_2).f0) ((rd_T58 l0_1 x27_2).f1)) else ((impl_within.f ((rd_T58 l0_1 x27_2).f1) (wrap64 (1 - (l0_0.length : Int))) (wrap64 ((wrap64 (-x27_2)) - 1))).bind fun t259 => (if t259 = true then (if 0 ≤ (wrap64 (-((rd_T58 l0_1 x27_2).f1))) then (if (wrap64 (-((rd_T58 l0_1 x27_2).f1))) < (x4_4.length : Int) then (if rdOf false x4_4 (wrap64 (-((rd_T58 l0_1 x27_2).f1))) = true then (some false) else (impl_IsMobile.l1 k4 (l0_0.length : Int) (x4_4.set ((wrap64 (-((rd_T58 l0_1 x27_2).f1))) : Int).toNat true) x27_2 l0_0 (l0_0.length : Int) x27_2 (wrap64 (1 + 1)) l0_0 l0_1 ((rd_T58 l0_1 x27_2).f0) ((rd_T58 l0_1 x27_2).f1))) else (none)) else (none)) else (some false)))) = some r := H
                     have A50 := Aside0.mk A500
                     clear A500
                     by_cases c51 : t258 = true
                     ·
                      subst c51
                      have H1 : (impl_IsMobile.l1 k4 (l0_0.length : Int) x4_4 x27_2 l0_0 (l0_0.length : Int) x27_2 (wrap64 (1 + 1)) l0_0 l0_1 ((rd_T58 l0_1 x27_2).f0) ((rd_T58 l0_1 x27_2).f1)) = some r := by rw [if_pos rfl] at H; exact H
                      clear H
                      have H := H1
                      clear H1
                      have H' := Aside0.mk H
                      clear H
                      go_wp2_with (first | ((with_reducible refine gate_callee (f := 56) rfl ?_); refine goesL_ (some 51) rfl rfl Try.func56 (by kernel_rfl) rfl #[.int .i64 ((rd_T58 l0_1 x27_2).f1)] rfl tM ?_; (with_reducible refine (impl_isWeight.calls ((rd_T58 l0_1 x27_2).f1) true _ A50.out).mono ?_); rintro e w' ⟨rfl, ⟨nd, rfl⟩⟩; refine ⟨_, rfl, ?_⟩))
                      go_roundg k4
                      case measure => have := HJ1.out; have := HK2.out; have := HJ16.out; have := HK4.out; omega
                      case rel => exact ⟨(x4_4), (wrap64 (1 + 1)), (by first | rfl | (simp; done) | (simp [wrap64]; done) | (simp [*]; done)), H', ⟨by have := HJ1.out; have := HK2.out; have := HJ16.out; have := HK4.out; omega⟩, ⟨tR HO_4.out⟩, ⟨tK BK239.out⟩, ⟨tK BK250.out⟩, ⟨tB HB.out⟩⟩
                     ·
                      replace c51 := Bool.eq_false_iff.mpr c51
                      subst c51
                      have H1 : ((impl_within.f ((rd_T58 l0_1 x27_2).f1) (wrap64 (1 - (l0_0.length : Int))) (wrap64 ((wrap64 (-x27_2)) - 1))).bind fun t259 => (if t259 = true then (if 0 ≤ (wrap64 (-((rd_T58 l0_1 x27_2).f1))) then (if (wrap64 (-((rd_T58 l0_1 x27_2).f1))) < (x4_4.length : Int) then (if rdOf false x4_4 (wrap64 (-((rd_T58 l0_1 x27_2).f1))) = true then (some false) else (impl_IsMobile.l1 k4 (l0_0.length : Int) (x4_4.set ((wrap64 (-((rd_T58 l0_1 x27_2).f1))) : Int).toNat true) x27_2 l0_0 (l0_0.length : Int) x27_2 (wrap64 (1 + 1)) l0_0 l0_1 ((rd_T58 l0_1 x27_2).f0) ((rd_T58 l0_1 x27_2).f1))) else (none)) else (none)) else (some false))) = some r := by rw [if_neg (show ¬ (false = true) by decide)] at H; exact H
                      clear H
                      have H := H1
                      clear H1
                      replace H := Option.bind_eq_some_iff.mp H
                      obtain ⟨t259, A520, H⟩ := H
                      replace H : (if t259 = true then (if 0 ≤ (wrap64 (-((rd_T58 l0_1 x27_2).f1))) then (if (wrap64 (-((rd_T58 l0_1 x27_2).f1))) < (x4_4.length : Int) then (if rdOf false x4_4 (wrap64 (-((rd_T58 l0_1 x27_2).f1))) = true then (some false) else (impl_IsMobile.l1 k4 (l0_0.length : Int) (x4_4.set ((wrap64 (-((rd_T58 l0_1 x27_2).f1))) : Int).toNat true) x27_2 l0_0 (l0_0.length : Int) x27_2 (wrap64 (1 + 1)) l0_0 l0_1 ((rd_T58 l0_1 x27_2).f0) ((rd_T58 l0_1 x27_2).f1))) else (none)) else (none)) else (some false)) = some r := H
                      have A52 := Aside0.mk A520
                      clear A520
                      by_cases c53 : t259 = true
                      ·
                       subst c53
                       have H1 : (if 0 ≤ (wrap64 (-((rd_T58 l0_1 x27_2).f1))) then (if (wrap64 (-((rd_T58 l0_1 x27_2).f1))) < (x4_4.length : Int) then (if rdOf false x4_4 (wrap64 (-((rd_T58 l0_1 x27_2).f1))) = true then (some false) else (impl_IsMobile.l1 k4 (l0_0.length : Int) (x4_4.set ((wrap64 (-((rd_T58 l0_1 x27_2).f1))) : Int).toNat true) x27_2 l0_0 (l0_0.length : Int) x27_2 (wrap64 (1 + 1)) l0_0 l0_1 ((rd_T58 l0_1 x27_2).f0) ((rd_T58 l0_1 x27_2).f1))) else (none)) else (none)) = some r := by rw [if_pos rfl] at H; exact H
                       clear H
                       have H := H1
                       clear H1
                       obtain ⟨ji54, hji54⟩ : ∃ j_ : Int, (wrap64 (-((rd_T58 l0_1 x27_2).f1))) = j_ := ⟨_, rfl⟩
                       replace H : (if 0 ≤ (ji54) then (if (ji54) < (x4_4.length : Int) then (if rdOf false x4_4 (ji54) = true then (some false) else (impl_IsMobile.l1 k4 (l0_0.length : Int) (x4_4.set ((ji54) : Int).toNat true) x27_2 l0_0 (l0_0.length : Int) x27_2 (wrap64 (1 + 1)) l0_0 l0_1 ((rd_T58 l0_1 x27_2).f0) ((rd_T58 l0_1 x27_2).f1))) else (none)) else (none)) = some r := by first | (rw [hji54] at H; exact H) | (simp only [hji54] at H ⊢; exact H)
                       (try rw [hji54] at A50)
                       (try rw [hji54] at A52)
                       have hji54w : (IntKind.i64.wrap (-((rd_T58 l0_1 x27_2).f1))) = ji54 := (i64_w _).trans hji54
                       by_cases c55 : 0 ≤ (ji54)
                       ·
                        rw [if_pos c55] at H
                        have c55b0 : decide (0 ≤ (ji54)) = true := decide_eq_true c55
                        clear c55
                        by_cases c56 : (ji54) < (x4_4.length : Int)
                        ·
                         rw [if_pos c56] at H
                         have c56b0 : decide ((ji54) < (x4_4.length : Int)) = true := decide_eq_true c56
                         clear c56
                         obtain ⟨bq57, hbq57⟩ : ∃ b_ : Bool, b_ = (rdOf false x4_4 (ji54)) := ⟨_, rfl⟩
                         replace H : (if bq57 = true then (some false) else (impl_IsMobile.l1 k4 (l0_0.length : Int) (x4_4.set ((ji54) : Int).toNat true) x27_2 l0_0 (l0_0.length : Int) x27_2 (wrap64 (1 + 1)) l0_0 l0_1 ((rd_T58 l0_1 x27_2).f0) ((rd_T58 l0_1 x27_2).f1))) = some r := by rw [← hbq57] at H; exact H
                         have Nbq57 := Aside0.mk hbq57
                         clear hbq57
                         by_cases c58 : bq57 = true
                         ·
                          subst c58
                          have H1 : (some false) = some r := by rw [if_pos rfl] at H; exact H
                          clear H
                          have H := H1
                          clear H1
                          obtain rfl := Option.some.inj H
                          go_wp2_with (first | ((with_reducible refine gate_callee (f := 56) rfl ?_); refine goesL_ (some 51) rfl rfl Try.func56 (by kernel_rfl) rfl #[.int .i64 ((rd_T58 l0_1 x27_2).f1)] rfl tM ?_; (with_reducible refine (impl_isWeight.calls ((rd_T58 l0_1 x27_2).f1) false _ A50.out).mono ?_); rintro e w' ⟨rfl, ⟨nd, rfl⟩⟩; refine ⟨_, rfl, ?_⟩) | ((with_reducible refine gate_callee (f := 54) rfl ?_); refine goesL_ (some 58) rfl rfl Try.func54 (by kernel_rfl) rfl #[.int .i64 ((rd_T58 l0_1 x27_2).f1), .int .i64 (wrap64 (1 - (l0_0.length : Int))), .int .i64 (wrap64 ((wrap64 (-x27_2)) - 1))] rfl tM ?_; (with_reducible refine (impl_within.calls ((rd_T58 l0_1 x27_2).f1) (wrap64 (1 - (l0_0.length : Int))) (wrap64 ((wrap64 (-x27_2)) - 1)) true _ A52.out).mono ?_); rintro e w' ⟨rfl, ⟨nd, rfl⟩⟩; refine ⟨_, rfl, ?_⟩; obtain ⟨Ao59, co59, eo59⟩ := Kd.R_slice HO_4.out; subst eo59; have p260 : 0 ≤ ((ji54) : Int) := of_decide_eq_true (by first | (with_reducible assumption) | assumption); have q260 : (ji54) < (x4_4.length : Int) := of_decide_eq_true (by first | (with_reducible assumption) | assumption); obtain ⟨ad260, e260, hx260_0⟩ := Kd.at_bool (Kd.R_reads' HO_4.out).2.2 (ji54) p260 q260; (try rw [← Nbq57.out] at hx260_0); cases e260; replace p260 := eq_true p260; replace q260 := eq_true q260))
                          go_ret
                          exact ⟨by first | rfl | (simp [errW_none, errW_some] <;> rfl) | (simp only [← hji54]; first | rfl | (simp [errW_none, errW_some] <;> rfl)) | (simp [*, errW_none, errW_some] <;> rfl), tB HB.out⟩
                         ·
                          replace c58 := Bool.eq_false_iff.mpr c58
                          subst c58
                          have H1 : (impl_IsMobile.l1 k4 (l0_0.length : Int) (x4_4.set ((ji54) : Int).toNat true) x27_2 l0_0 (l0_0.length : Int) x27_2 (wrap64 (1 + 1)) l0_0 l0_1 ((rd_T58 l0_1 x27_2).f0) ((rd_T58 l0_1 x27_2).f1)) = some r := by rw [if_neg (show ¬ (false = true) by decide)] at H; exact H
                          clear H
                          have H := H1
                          clear H1
                          obtain ⟨y261, hy261⟩ : ∃ y_ : List Bool, y_ = (x4_4.set ((ji54) : Int).toNat true) := ⟨_, rfl⟩
                          replace H : (impl_IsMobile.l1 k4 (l0_0.length : Int) y261 x27_2 l0_0 (l0_0.length : Int) x27_2 (wrap64 (1 + 1)) l0_0 l0_1 ((rd_T58 l0_1 x27_2).f0) ((rd_T58 l0_1 x27_2).f1)) = some r := by first | (rw [hy261]; with_reducible exact H) | (have H2_ := (Option.bind_some _ _).symm.trans H; rw [hy261]; with_reducible exact H2_) | (have H2_ := (Option.bind_some _ _).symm.trans H; with_reducible exact H2_) | with_reducible exact H | (rw [hy261]; exact H) | exact H
                          have Ny261 := Aside0.mk hy261
                          clear hy261
                          have H' := Aside0.mk H
                          clear H
                          go_wp2_with (first | ((with_reducible refine gate_callee (f := 56) rfl ?_); refine goesL_ (some 51) rfl rfl Try.func56 (by kernel_rfl) rfl #[.int .i64 ((rd_T58 l0_1 x27_2).f1)] rfl tM ?_; (with_reducible refine (impl_isWeight.calls ((rd_T58 l0_1 x27_2).f1) false _ A50.out).mono ?_); rintro e w' ⟨rfl, ⟨nd, rfl⟩⟩; refine ⟨_, rfl, ?_⟩; (try (rw [drewN_self wr]; generalize hq_ : World.drewN wr _ = wr; have n0_ : Aside0 (Kd.R Kd.bool 4 wr w.heap.size (fun _ => True) v242 x4_4) := ⟨by rw [← hq_]; exact (tR HO_4.out)⟩; have n1_ : Aside0 (wr.heap[gb239]? = some (.cells #[.slice (some ad249) l0_0.length c0_0, .slice (some ad253) l0_1.length c0_1] 27 (0, 0))) := ⟨by rw [← hq_]; exact (tK BK239.out)⟩; have n2_ : Aside0 (wr.heap[gb250]? = some (.cells #[.int .i64 ((rd_T58 l0_0 x27_2).f0), .int .i64 ((rd_T58 l0_0 x27_2).f1)] 58 (0, 0))) := ⟨by rw [← hq_]; exact (tK BK250.out)⟩; have n3_ : Aside0 (Below w.heap.size w wr) := ⟨by rw [← hq_]; exact (tB HB.out)⟩; clear HO_4 BK239 BK250 HB hq_; have HO_4 := n0_; have BK239 := n1_; have BK250 := n2_; have HB := n3_; clear n0_ n1_ n2_ n3_))) | ((with_reducible refine gate_callee (f := 54) rfl ?_); refine goesL_ (some 58) rfl rfl Try.func54 (by kernel_rfl) rfl #[.int .i64 ((rd_T58 l0_1 x27_2).f1), .int .i64 (wrap64 (1 - (l0_0.length : Int))), .int .i64 (wrap64 ((wrap64 (-x27_2)) - 1))] rfl tM ?_; (with_reducible refine (impl_within.calls ((rd_T58 l0_1 x27_2).f1) (wrap64 (1 - (l0_0.length : Int))) (wrap64 ((wrap64 (-x27_2)) - 1)) true _ A52.out).mono ?_); rintro e w' ⟨rfl, ⟨nd, rfl⟩⟩; refine ⟨_, rfl, ?_⟩; (try (rw [drewN_self wr]; generalize hq_ : World.drewN wr _ = wr; have n0_ : Aside0 (Kd.R Kd.bool 4 wr w.heap.size (fun _ => True) v242 x4_4) := ⟨by rw [← hq_]; exact (tR HO_4.out)⟩; have n1_ : Aside0 (wr.heap[gb239]? = some (.cells #[.slice (some ad249) l0_0.length c0_0, .slice (some ad253) l0_1.length c0_1] 27 (0, 0))) := ⟨by rw [← hq_]; exact (tK BK239.out)⟩; have n2_ : Aside0 (wr.heap[gb250]? = some (.cells #[.int .i64 ((rd_T58 l0_0 x27_2).f0), .int .i64 ((rd_T58 l0_0 x27_2).f1)] 58 (0, 0))) := ⟨by rw [← hq_]; exact (tK BK250.out)⟩; have n3_ : Aside0 (Below w.heap.size w wr) := ⟨by rw [← hq_]; exact (tB HB.out)⟩; clear HO_4 BK239 BK250 HB hq_; have HO_4 := n0_; have BK239 := n1_; have BK250 := n2_; have HB := n3_; clear n0_ n1_ n2_ n3_)); obtain ⟨Ao61, co61, eo61⟩ := Kd.R_slice HO_4.out; subst eo61; have p260 : 0 ≤ ((ji54) : Int) := of_decide_eq_true (by first | (with_reducible assumption) | assumption); have q260 : (ji54) < (x4_4.length : Int) := of_decide_eq_true (by first | (with_reducible assumption) | assumption); obtain ⟨ad260, e260, hx260_0⟩ := Kd.at_bool (Kd.R_reads' HO_4.out).2.2 (ji54) p260 q260; (try rw [← Nbq57.out] at hx260_0); cases e260; replace p260 := eq_true p260; replace q260 := eq_true q260; have p60 : 0 ≤ ((ji54) : Int) := of_decide_eq_true (by first | (with_reducible assumption) | assumption); have q60 : ((ji54) : Int) < ((x4_4.length : Int) : Int) := of_decide_eq_true (by first | (with_reducible assumption) | assumption); obtain ⟨go60, co60, eo60, gb60, gl60, cl60, HG60⟩ := Kd.R_form HO_4.out (by omega); (first | cases eo60 | (injection eo60 with ea_ en_ ec_; (first | subst ea_ | (injection ea_ with ea_; subst ea_)); subst ec_; clear en_)); have GB60 := Aside0.mk gb60; have GG60 := Aside0.mk HG60; clear gb60 gl60 HG60; (first | simp only [add_plain] at hx260_0 | skip); obtain ⟨hx60_0, hf60_0⟩ := Kd.R_celln false HO_4.out ((ji54) : Int) p60 q60; replace p60 := eq_true p60; replace q60 := eq_true q60; obtain ⟨hy62_, hz62_⟩ := Kd.R_celln false HO_4.out ((ji54) : Int) (of_decide_eq_true (by first | (with_reducible assumption) | assumption)) (of_decide_eq_true (by first | (with_reducible assumption) | assumption)); have HP62 := Kd.R_putg HO_4.out ((ji54) : Int) true) | ((with_reducible refine gate_store (t := 4) (p := 70) rfl ?_); refine store_event (t := 4) (p := 70) (v := ?vo_w63) (w1 := (wr.setCell ⟨go60, ((ji54) : Int).toNat, none⟩ (.bool true))) ?hg ?ho ?hn ?hr ?_; (case ho => rfl); (case hg => rfl); (case hn => rfl); (case hr => first | (go_simp; done) | (go_simp; rfl)); intro w63 hw; have hg : wr.grownBy w63 (some go60) := (by rw [hw]; exact HP62.2); have hp_ : Kd.R Kd.bool 4 w63 w.heap.size (fun _ => True) (.slice (some ⟨go60, 0, none⟩) x4_4.length co61) y261 := (by rw [hw, Ny261.out]; exact HP62.1); clear HP62; replace BK239 := Aside0.mk (blk_grown (g := gb239) (o := .cells #[.slice (some ad249) l0_0.length c0_0, .slice (some ad253) l0_1.length c0_1] 27 (0, 0)) (tK BK239.out) hg (Kd.R_ne HO_4.out BK239.out (by decide))); replace BK250 := Aside0.mk (blk_grown (g := gb250) (o := .cells #[.int .i64 ((rd_T58 l0_0 x27_2).f0), .int .i64 ((rd_T58 l0_0 x27_2).f1)] 58 (0, 0)) (tK BK250.out) hg (Kd.R_ne HO_4.out BK250.out (by decide))); replace HO_4 := Aside0.mk (hp_); replace HB := Aside0.mk ((by rw [hw]; exact below_set (HB.out) GB60.out : Below w.heap.size w w63)); clear hg hw hp_))
                          go_roundg k4
                          case measure => have := HJ1.out; have := HK2.out; have := HJ16.out; have := HK4.out; omega
                          case rel => exact ⟨(y261), (wrap64 (1 + 1)), (by first | rfl | (simp; done) | (simp [wrap64]; done) | (simp [*]; done)), H', ⟨by have := HJ1.out; have := HK2.out; have := HJ16.out; have := HK4.out; omega⟩, ⟨tR HO_4.out⟩, ⟨tK BK239.out⟩, ⟨tK BK250.out⟩, ⟨tB HB.out⟩⟩
                        ·
                         rw [if_neg c56] at H
                         exact absurd H (by simp)
                       ·
                        rw [if_neg c55] at H
                        exact absurd H (by simp)
                      ·
                       replace c53 := Bool.eq_false_iff.mpr c53
                       subst c53
                       have H1 : (some false) = some r := by rw [if_neg (show ¬ (false = true) by decide)] at H; exact H
                       clear H
                       have H := H1
                       clear H1
                       obtain rfl := Option.some.inj H
                       go_wp2_with (first | ((with_reducible refine gate_callee (f := 56) rfl ?_); refine goesL_ (some 51) rfl rfl Try.func56 (by kernel_rfl) rfl #[.int .i64 ((rd_T58 l0_1 x27_2).f1)] rfl tM ?_; (with_reducible refine (impl_isWeight.calls ((rd_T58 l0_1 x27_2).f1) false _ A50.out).mono ?_); rintro e w' ⟨rfl, ⟨nd, rfl⟩⟩; refine ⟨_, rfl, ?_⟩) | ((with_reducible refine gate_callee (f := 54) rfl ?_); refine goesL_ (some 58) rfl rfl Try.func54 (by kernel_rfl) rfl #[.int .i64 ((rd_T58 l0_1 x27_2).f1), .int .i64 (wrap64 (1 - (l0_0.length : Int))), .int .i64 (wrap64 ((wrap64 (-x27_2)) - 1))] rfl tM ?_; (with_reducible refine (impl_within.calls ((rd_T58 l0_1 x27_2).f1) (wrap64 (1 - (l0_0.length : Int))) (wrap64 ((wrap64 (-x27_2)) - 1)) false _ A52.out).mono ?_); rintro e w' ⟨rfl, ⟨nd, rfl⟩⟩; refine ⟨_, rfl, ?_⟩))
                       go_ret
                       exact ⟨by first | rfl | (simp [errW_none, errW_some] <;> rfl) | (simp [*, errW_none, errW_some] <;> rfl), tB HB.out⟩
                    ·
                     rw [if_neg c49] at H
                     exact absurd H (by simp)
                  ·
                   rw [if_neg c33] at H
                   have c33b0 : decide (x47_4 < 2) = false := decide_eq_false c33
                   clear c33
                   have H' := Aside0.mk H
                   clear H
                   go_wp2
                   go_roundg k4
                   case measure => have := HJ1.out; have := HK2.out; have := HJ16.out; have := HK4.out; omega
                   case rel => exact ⟨(x4_4), (wrap64 (x27_2 + 1)), (by first | rfl | (simp; done) | (simp [wrap64]; done) | (simp [*]; done)), H', ⟨by have := HJ1.out; have := HK2.out; have := HJ16.out; have := HK4.out; omega⟩, ⟨tR HO_4.out⟩, ⟨tK BK239.out⟩, ⟨tB HB.out⟩⟩
               ·
                rw [if_neg c30] at H
                exact absurd H (by simp)
              ·
               rw [if_neg c29] at H
               exact absurd H (by simp)
          ·
           rw [if_neg c16] at H
           exact absurd H (by simp)
         ·
          rw [if_neg c15] at H
          exact absurd H (by simp)
        ·
         rw [if_neg c14] at H
         have c14b0 : decide (x27_2 < (l0_0.length : Int)) = false := decide_eq_false c14
         clear c14
         by_cases c64 : 1 ≤ (x4_2.length : Int)
         ·
          rw [if_pos c64] at H
          have c64b0 := eq_true c64
          have c64b1 : decide (1 ≤ (x4_2.length : Int)) = true := decide_eq_true c64
          clear c64
          obtain ⟨y244, hy244⟩ : ∃ y_ : List Bool, y_ = (x4_2.drop 1) := ⟨_, rfl⟩
          replace H : ((slices_Contains_bool_bool.f k2 y244 false).bind fun t248 => (some (!t248))) = some r := by first | (rw [hy244]; with_reducible exact H) | (have H2_ := (Option.bind_some _ _).symm.trans H; rw [hy244]; with_reducible exact H2_) | (have H2_ := (Option.bind_some _ _).symm.trans H; with_reducible exact H2_) | with_reducible exact H | (rw [hy244]; exact H) | exact H
          have Ny244 := Aside0.mk hy244
          clear hy244
          replace H := Option.bind_eq_some_iff.mp H
          obtain ⟨t248, A650, H⟩ := H
          replace H : (some (!t248)) = some r := H
          have A65 := Aside0.mk A650
          clear A650
          obtain rfl := Option.some.inj H
          obtain ⟨Ao67, co67, eo67⟩ := Kd.R_slice HO_4.out
          subst eo67
          have q66 : (1 : Int) ≤ ((x4_2.length : Int) : Int) := of_decide_eq_true (by first | (with_reducible assumption) | assumption)
          obtain ⟨i066, hi066, _, hsz66, _⟩ := info_parts info4
          have hroom66 : x4_2.length ≤ co67 := (Kd.R_reads' HO_4.out).2.1
          have hC66 : Kd.C Kd.bool _ Ao67 x4_2.length x4_2 := (Kd.R_reads' HO_4.out).2.2
          have hcut66 := cut_from (P := Try.prog) 57 4 .i64 Try.underlying57 hi066 1 hsz66 Ao67 x4_2.length co67 1 (by omega) q66
          have hr66 := Kd.C_drop (m := (1 : Int).toNat) (c := co67) hC66 (by omega) hroom66
          obtain ⟨A66, hA66⟩ : ∃ A1, A1 = (if co67 = (1 : Int).toNat then Ao67 else (Ao67 : Option Addr).map (·.add ((1 : Int).toNat * 1))) := ⟨_, rfl⟩
          obtain ⟨c66, hc66⟩ : ∃ c1, c1 = co67 - (1 : Int).toNat := ⟨_, rfl⟩
          have hy66 : y244.length = x4_2.length - (1 : Int).toNat := (by rw [Ny244.out, List.length_drop] <;> omega)
          rw [show (x4_2).drop (1 : Int).toNat = y244 from Ny244.out.symm] at hr66
          replace hr66 : Kd.C Kd.bool _ A66 y244.length y244 := (by rw [hA66]; exact hr66)
          rw [← hy66, ← hA66, ← hc66] at hcut66
          have HR247 := Aside0.mk hr66
          have HC247 := Aside0.mk (show y244.length ≤ c66 from by rw [hy66, hc66]; exact Nat.sub_le_sub_right hroom66 _)
          clear hr66 hC66 hroom66 hi066 hsz66 hc66
          have KY66 := Aside0.mk hy66
          have KA66 := Aside0.mk hA66
          clear hy66 hA66
          have KL66 := Aside0.mk (show 1 ≤ x4_2.length from by omega)
          replace q66 := eq_true q66
          go_wp2_with (first | ((with_reducible refine gate_callee (f := 57) rfl ?_); refine goesL_ (some 75) rfl rfl Try.func57 (by kernel_rfl) rfl #[.slice A66 y244.length c66, .bool false] rfl tM ?_; (with_reducible refine (slices_Contains_bool_bool.calls k2 _ _ y244 false t248 _ ?side1 ?side2 A65.out).mono ?_); (case side1 => exact tC (by repeat (first | (with_reducible exact HR247.out) | (with_reducible refine Kd.C_alloc ?_ _) | (with_reducible refine Kd.C_drewN ?_ _) | (with_reducible refine Kd.C_drew ?_) | exact HR247.out))); (case side2 => exact HC247.out); rintro e w' ⟨rfl, ⟨nd, rfl⟩⟩; refine ⟨_, rfl, ?_⟩))
          go_ret
          exact ⟨by first | rfl | (simp [errW_none, errW_some] <;> rfl) | (simp [*, errW_none, errW_some] <;> rfl), tB HB.out⟩
         ·
          rw [if_neg c64] at H
          exact absurd H (by simp)
     ·
      rw [if_neg c10] at H
      exact absurd H (by simp)
    ·
     rw [if_neg c9] at H
     exact absurd H (by simp)

end Go.Proofs.Ytbdajkfihbaapaa.PFnExactLevelWeights

/- Printed by the program print2.py over the translation: each function as a Lean function, and the proof that the call comes to its answer. -/
import Derived.Test.YtbdajkfihbaapaaPFnExactHangLeavesx0
import Derived.Test.YtbdajkfihbaapaaPFnExactHangLeavesx9
namespace Go.Proofs.Ytbdajkfihbaapaa.PFnExactHangLeaves
open Go.RowKit Go.Proofs.YtbdajkfihbaapaaW.PrintWords Go.Proofs.YtbdajkfihbaapaaW.PrintLast Go.Proofs.YtbdajkfihbaapaaW.PrintMore
attribute [local go_sem] max2_int min2_int max_two min_two max_three min_three max_four min_four   -- for this text's walks alone
set_option linter.unusedVariables false
set_option linter.unusedSimpArgs false

/-! ### impl_hungWith: function 84 -/
mutual
def impl_hungWith.l0 : Nat → List Int → Int → List (S58) → Int → Int → List (S58) → List (S58) → Option ((List (S58)) × (List (S58)))
 | 0, _, _, _, _, _, _, _ => none
 | k + 1, x1, x6, x14, x15, x16, x283000, x283001 => if x16 < x15 then (if 0 ≤ x16 then (if x16 < (x14.length : Int) then (impl_hungWith.l1 k x1 x6 x16 x14 x15 x16 0 x283000 x283001 ((rd_T58 x14 x16).f0) ((rd_T58 x14 x16).f1)) else (none)) else (none)) else (some (x283000, x283001))
def impl_hungWith.l1 : Nat → List Int → Int → Int → List (S58) → Int → Int → Int → List (S58) → List (S58) → Int → Int → Option ((List (S58)) × (List (S58)))
 | 0, _, _, _, _, _, _, _, _, _, _, _ => none
 | k + 1, x1, x6, x7, x14, x15, x16, x22, x283000, x283001, x10021000, x10021001 => if x22 < 2 then (if x22 = 0 then (if x10021000 > 0 then (if 0 ≤ x6 then (if x6 < (x1.length : Int) then (if 0 ≤ x7 then (if x7 < (x283001.length : Int) then (impl_hungWith.l1 k x1 (wrap64 (x6 + 1)) x7 x14 x15 x16 (wrap64 (x22 + 1)) x283000 (x283001.set (x7 : Int).toNat (⟨rd x1 x6, (rd_T58 x283001 x7).f1⟩ : S58)) x10021000 x10021001) else (none)) else (none)) else (none)) else (none)) else (impl_hungWith.l1 k x1 x6 x7 x14 x15 x16 (wrap64 (x22 + 1)) x283000 x283001 x10021000 x10021001)) else (if x22 = 1 then (if x10021001 > 0 then (if 0 ≤ x6 then (if x6 < (x1.length : Int) then (if 0 ≤ x7 then (if x7 < (x283001.length : Int) then (impl_hungWith.l1 k x1 (wrap64 (x6 + 1)) x7 x14 x15 x16 (wrap64 (x22 + 1)) x283000 (x283001.set (x7 : Int).toNat (⟨(rd_T58 x283001 x7).f0, rd x1 x6⟩ : S58)) x10021000 x10021001) else (none)) else (none)) else (none)) else (none)) else (impl_hungWith.l1 k x1 x6 x7 x14 x15 x16 (wrap64 (x22 + 1)) x283000 x283001 x10021000 x10021001)) else (none))) else (impl_hungWith.l0 k x1 x6 x14 x15 (wrap64 (x16 + 1)) x283000 x283001)
end
def impl_hungWith.f (k : Nat) (l0_0 : List (S58)) (l0_1 : List (S58)) (l1 : List Int) : Option ((List (S58)) × (List (S58))) := (impl_copyMobile.f l0_0 l0_1).bind fun bt276 => (impl_hungWith.l0 k l1 0 l0_1 (l0_1.length : Int) 0 bt276.1 bt276.2)
theorem impl_hungWith.mono_l : ∀ k, (∀ y0 y1 y2 y3 y4 y5 y6, LeO (impl_hungWith.l0 k y0 y1 y2 y3 y4 y5 y6) (impl_hungWith.l0 (k + 1) y0 y1 y2 y3 y4 y5 y6)) ∧ (∀ y0 y1 y2 y3 y4 y5 y6 y7 y8 y9 y10, LeO (impl_hungWith.l1 k y0 y1 y2 y3 y4 y5 y6 y7 y8 y9 y10) (impl_hungWith.l1 (k + 1) y0 y1 y2 y3 y4 y5 y6 y7 y8 y9 y10))
 | 0 => ⟨fun _ _ _ _ _ _ _ r h => by simp [impl_hungWith.l0] at h, fun _ _ _ _ _ _ _ _ _ _ _ r h => by simp [impl_hungWith.l1] at h⟩
 | k + 1 => by
  obtain ⟨ih0, ih1⟩ := impl_hungWith.mono_l k
  refine ⟨?_, ?_⟩
  ·
   intro y0 y1 y2 y3 y4 y5 y6
   unfold impl_hungWith.l0
   repeat' first
   | (with_reducible exact ih0 _ _ _ _ _ _ _)
   | (with_reducible exact ih1 _ _ _ _ _ _ _ _ _ _ _)
   | (with_reducible exact LeO.refl _)
   | (with_reducible exact LeO.none _)
   | (with_reducible refine LeO.ite ?_ ?_)
   | (with_reducible refine LeO.bind ?_ (fun _ => ?_))
   | exact ih0 _ _ _ _ _ _ _
   | exact ih1 _ _ _ _ _ _ _ _ _ _ _
   | exact LeO.none _
   | refine LeO.ite ?_ ?_
   | refine LeO.bind ?_ (fun _ => ?_)
  ·
   intro y0 y1 y2 y3 y4 y5 y6 y7 y8 y9 y10
   unfold impl_hungWith.l1
   repeat' first
   | (with_reducible exact ih0 _ _ _ _ _ _ _)
   | (with_reducible exact ih1 _ _ _ _ _ _ _ _ _ _ _)
   | (with_reducible exact LeO.refl _)
   | (with_reducible exact LeO.none _)
   | (with_reducible refine LeO.ite ?_ ?_)
   | (with_reducible refine LeO.bind ?_ (fun _ => ?_))
   | exact ih0 _ _ _ _ _ _ _
   | exact ih1 _ _ _ _ _ _ _ _ _ _ _
   | exact LeO.none _
   | refine LeO.ite ?_ ?_
   | refine LeO.bind ?_ (fun _ => ?_)
theorem impl_hungWith.mono : ∀ a0 a1 a2 k, LeO (impl_hungWith.f k a0 a1 a2) (impl_hungWith.f (k + 1) a0 a1 a2) := by
 intro a0 a1 a2 k
 obtain ⟨ih0, ih1⟩ := impl_hungWith.mono_l k
 unfold impl_hungWith.f
 repeat' first
   | (with_reducible exact ih0 _ _ _ _ _ _ _)
   | (with_reducible exact ih1 _ _ _ _ _ _ _ _ _ _ _)
   | (with_reducible exact LeO.refl _)
   | (with_reducible exact LeO.none _)
   | (with_reducible refine LeO.ite ?_ ?_)
   | (with_reducible refine LeO.bind ?_ (fun _ => ?_))
   | exact ih0 _ _ _ _ _ _ _
   | exact ih1 _ _ _ _ _ _ _ _ _ _ _
   | exact LeO.none _
   | refine LeO.ite ?_ ?_
   | refine LeO.bind ?_ (fun _ => ?_)
def impl_hungWith.T9 : Bool × List (List Nat × List Nat) := (true, [([], []), ([0], [0]), ([], []), ([], []), ([], []), ([], []), ([4, 5], [4, 5]), ([6], [6]), ([1, 2], [1, 2]), ([8, 3, 0, 1, 2, 3, 4, 5, 6, 7], [3, 8]), ([9, 7, 0, 1, 2, 3, 4, 5, 6, 7], [7, 9])])
def impl_hungWith.B9 : List Nat := [0, 1, 0, 0, 0, 0, 48, 112, 7, 511, 1023]
theorem impl_hungWith.tab9 : rtab .any (opsOf Try.f84 9) = impl_hungWith.T9 := by kernel_rfl
theorem impl_hungWith.bits9 : waitsOk impl_hungWith.T9.2 impl_hungWith.B9 = true := by kernel_rfl
set_option maxHeartbeats 8000000 in
set_option maxRecDepth 100000 in
theorem impl_hungWith.calls (k : Nat) (A0_0 : Option Addr) (c0_0 : Nat) (l0_0 : List (S58)) (A0_1 : Option Addr) (c0_1 : Nat) (l0_1 : List (S58)) (A1 : Option Addr) (c1 : Nat) (l1 : List Int) (r1 : List (S58)) (r2 : List (S58)) (w : World) (hr0_0 : Kd.C k58 w A0_0 l0_0.length l0_0) (hc0_0 : l0_0.length ≤ c0_0) (hr0_1 : Kd.C k58 w A0_1 l0_1.length l0_1) (hc0_1 : l0_1.length ≤ c0_1) (hr1 : Kd.C (Kd.int .i64) w A1 l1.length l1) (hc1 : l1.length ≤ c1) (h : impl_hungWith.f k l0_0 l0_1 l1 = some (r1, r2)) :
  Calls Try.prog 84 #[.agg #[.slice A0_0 l0_0.length c0_0, .slice A0_1 l0_1.length c0_1], .slice A1 l1.length c1] w fun e w' => ∃ v0_ v1_ : Value, e = .returned (.agg #[v0_, v1_]) ∧ Kd.R k58 58 w' w.heap.size (fun k_ => some k_ ≠ (v1_ : Value).ownBlock) v0_ r1 ∧ Kd.R k58 58 w' w.heap.size (fun k_ => some k_ ≠ (v0_ : Value).ownBlock) v1_ r2 ∧ Below w.heap.size w w' := by
 have hu27 := Try.underlying27
 have hu58 := Try.underlying58
 have hwz_ : wrap64 0 = 0 := by simp [wrap64]
 have hwo_ : wrap64 1 = 1 := by simp [wrap64]
 have hix58_0 : ∀ (e0_ e1_ : Value) (W_ : World), (Instr.index 58 (.agg #[e0_, e1_]) (.int .i64 0)).run Try.prog W_ = .ok e0_ W_ := fun _ _ _ => by kernel_rfl
 have hix58_1 : ∀ (e0_ e1_ : Value) (W_ : World), (Instr.index 58 (.agg #[e0_, e1_]) (.int .i64 1)).run Try.prog W_ = .ok e1_ W_ := fun _ _ _ => by kernel_rfl
 have HR0_0 := Aside0.mk hr0_0
 have HC0_0 := Aside0.mk hc0_0
 clear hr0_0 hc0_0
 have HR0_1 := Aside0.mk hr0_1
 have HC0_1 := Aside0.mk hc0_1
 clear hr0_1 hc0_1
 have HR1 := Aside0.mk hr1
 have HC1 := Aside0.mk hc1
 clear hr1 hc1
 have HB := Aside0.mk (Below.refl w.heap.size w)
 have H : ((impl_copyMobile.f l0_0 l0_1).bind fun bt276 => (impl_hungWith.l0 k l1 0 l0_1 (l0_1.length : Int) 0 bt276.1 bt276.2)) = some (r1, r2) := h
 clear h
 replace H := Option.bind_eq_some_iff.mp H
 obtain ⟨⟨t276, t279⟩, A30, H⟩ := H
 replace H : (impl_hungWith.l0 k l1 0 l0_1 (l0_1.length : Int) 0 t276 t279) = some (r1, r2) := H
 have A3 := Aside0.mk A30
 clear A30
 have H' := Aside0.mk H
 clear H
 go_enter Try.func84, Try.ntmps84
 go_wp2_with (first | ((with_reducible refine gate_dst (N := 2) rfl ?_); refine box_event ?hg (N := 2) ?hd (cs := #[.slice A0_0 l0_0.length c0_0, .slice A0_1 l0_1.length c0_1]) (t := 27) ?hr ?_; (case hd => rfl); (case hg => rfl); (case hr => first | (go_simp; done) | (go_simp; rfl)); intro gb274 hg w4 hbox hb; have BK274 := Aside0.mk (hbox); have GW274 := Aside0.mk (bS HB.out hg); have GE274 := Aside0.mk (bS HB.out hg); replace HB := Aside0.mk (below_step (tB HB.out) hb); clear hb hbox hg) | ((with_reducible refine gate_dst (N := 4) rfl ?_); refine box_event ?hg (N := 4) ?hd (cs := #[.slice none 0 0, .slice none 0 0]) (t := 27) ?hr ?_; (case hd => rfl); (case hg => rfl); (case hr => first | (go_simp; done) | (go_simp; rfl)); intro gb275 hg w5 hbox hb; have BK275 := Aside0.mk (hbox); have GW275 := Aside0.mk (bS HB.out hg); have GE275 := Aside0.mk (bS HB.out hg); replace HB := Aside0.mk (below_step (tB HB.out) hb); have NB274_275 := Aside0.mk (nL BK274.out hg); have NB275_274 := Aside0.mk (nG BK274.out hg); replace BK274 := bkB BK274 hb; clear hb hbox hg; have hnb6 := NB274_275.out; have hnc6 := NB275_274.out; obtain ⟨hcz7_0, hfz7_0, hcz7_1, hfz7_1⟩ := cz2 BK274) | ((with_reducible refine gate_callee (f := 74) rfl ?_); refine goesL_ (some 12) rfl rfl Try.func74 (by kernel_rfl) rfl #[.agg #[.slice A0_0 l0_0.length c0_0, .slice A0_1 l0_1.length c0_1]] rfl tM ?_; (with_reducible refine (impl_copyMobile.calls _ _ l0_0 _ _ l0_1 t276 t279 _ ?side1 ?side2 ?side3 ?side4 A3.out).mono ?_); (case side1 => exact tC (Kd.C_below HR0_0.out HB.out)); (case side2 => exact HC0_0.out); (case side3 => exact tC (Kd.C_below HR0_1.out HB.out)); (case side4 => exact HC0_1.out); rintro e w8 ⟨v277, v280, rfl, ho0, ho1, hb⟩; refine ⟨_, rfl, ?_⟩; have HO278 := Aside0.mk (Kd.R_lower ho0 (below_size (tB HB.out))); have HO281 := Aside0.mk (Kd.R_lower ho1 (below_size (tB HB.out))); replace BK274 := bkB BK274 hb; replace BK275 := bkB BK275 hb; replace HB := Aside0.mk (below_step (tB HB.out) hb); (try clear hb); (try clear hb2); (try clear hk); (try clear hi); (try clear ho0); (try clear ho1)) | ((with_reducible refine gate_dst (N := 5) rfl ?_); refine box_event ?hg (N := 5) ?hd (cs := #[.slice none 0 0, .slice none 0 0]) (t := 27) ?hr ?_; (case hd => rfl); (case hg => rfl); (case hr => first | (go_simp; done) | (go_simp; rfl)); intro gb282 hg w9 hbox hb; replace HO278 := Aside0.mk (Kd.R_below (tR HO278.out) hb); replace HO281 := Aside0.mk (Kd.R_below (tR HO281.out) hb); have BK282 := Aside0.mk (hbox); have GW282 := Aside0.mk (bS HB.out hg); have GE282 := Aside0.mk (bS HB.out hg); replace HB := Aside0.mk (below_step (tB HB.out) hb); have NB274_282 := Aside0.mk (nL BK274.out hg); have NB282_274 := Aside0.mk (nG BK274.out hg); replace BK274 := bkB BK274 hb; have NB275_282 := Aside0.mk (nL BK275.out hg); have NB282_275 := Aside0.mk (nG BK275.out hg); replace BK275 := bkB BK275 hb; clear hb hbox hg; obtain ⟨Ao10, co10, eo10⟩ := Kd.R_slice HO278.out; subst eo10; have hnb11 := NB282_274.out; have hnc11 := NB274_282.out; have hnb12 := NB282_275.out; have hnc12 := NB275_282.out; obtain ⟨hcz13_0, hfz13_0, hcz13_1, hfz13_1⟩ := cz2 BK282; obtain ⟨Ao14, co14, eo14⟩ := Kd.R_slice HO281.out; subst eo14; obtain ⟨hcz15_0, hfz15_0, hcz15_1, hfz15_1⟩ := cz2 BK274))
 go_loopg [6, 16] k (fun kq v6 v16 w' => ∃ (x6_1 : Int) (x16_1 : Int) (x283000_1 : List (S58)) (x283001_1 : List (S58)) (u283000 : Value) (u283001 : Value), v6 = .int .i64 x6_1 ∧ v16 = .int .i64 x16_1 ∧ Aside0 (impl_hungWith.l0 kq l1 x6_1 l0_1 (l0_1.length : Int) x16_1 x283000_1 x283001_1 = some (r1, r2)) ∧ Aside0 (kq ≤ k) ∧ Aside0 (Kd.R k58 58 w' w.heap.size (fun k_ => some k_ ≠ (u283001 : Value).ownBlock) u283000 x283000_1) ∧ Aside0 (Kd.R k58 58 w' w.heap.size (fun k_ => some k_ ≠ (u283000 : Value).ownBlock) u283001 x283001_1) ∧ Aside0 (w'.heap[gb274]? = some (.cells #[(.slice A0_0 l0_0.length c0_0), (.slice A0_1 l0_1.length c0_1)] 27 (0, 0))) ∧ Aside0 (w'.heap[gb275]? = some (.cells #[(.slice none 0 0), (.slice none 0 0)] 27 (0, 0))) ∧ Aside0 (w'.heap[gb282]? = some (.cells #[u283000, u283001] 27 (0, 0))) ∧ Aside0 (Below w.heap.size w w'))
 case atStart => exact ⟨(0), (0), (t276), (t279), (.slice Ao10 t276.length co10), (.slice Ao14 t279.length co14), (by first | rfl | (simp; done) | (simp [wrap64]; done) | (simp [*]; done)), (by first | rfl | (simp; done) | (simp [wrap64]; done) | (simp [*]; done)), H', ⟨Nat.le_refl _⟩, ⟨by (with_reducible repeat (first | apply Kd.R_alloc | apply Kd.R_drewN | apply Kd.R_drew)); exact Kd.R_mono (Kd.R_far (p := ⟨gb282, 1, none⟩) (Kd.R_far (p := ⟨gb282, 0, none⟩) (Kd.R_types HO278.out BK282.out (by decide)) (fun _ hk => hk.2) (.slice Ao10 t276.length co10)) (fun _ hk => hk.2) (.slice Ao14 t279.length co14)) (fun _ hk => hk.1)⟩, ⟨by (with_reducible repeat (first | apply Kd.R_alloc | apply Kd.R_drewN | apply Kd.R_drew)); exact Kd.R_mono (Kd.R_far (p := ⟨gb282, 1, none⟩) (Kd.R_far (p := ⟨gb282, 0, none⟩) (Kd.R_types HO281.out BK282.out (by decide)) (fun _ hk => hk.2) (.slice Ao10 t276.length co10)) (fun _ hk => hk.2) (.slice Ao14 t279.length co14)) (fun _ hk => hk.1)⟩, ⟨by (with_reducible repeat (first | refine blk_drewN ?_ _ | refine blk_drew ?_ | refine blk_alloc ?_ _)); refine blk_far ?_ NB274_282.out _; (with_reducible repeat (first | refine blk_drewN ?_ _ | refine blk_drew ?_ | refine blk_alloc ?_ _)); refine blk_far ?_ NB274_282.out _; (with_reducible repeat (first | refine blk_drewN ?_ _ | refine blk_drew ?_ | refine blk_alloc ?_ _)); exact BK274.out⟩, ⟨by (with_reducible repeat (first | refine blk_drewN ?_ _ | refine blk_drew ?_ | refine blk_alloc ?_ _)); refine blk_far ?_ NB275_282.out _; (with_reducible repeat (first | refine blk_drewN ?_ _ | refine blk_drew ?_ | refine blk_alloc ?_ _)); refine blk_far ?_ NB275_282.out _; (with_reducible repeat (first | refine blk_drewN ?_ _ | refine blk_drew ?_ | refine blk_alloc ?_ _)); exact BK275.out⟩, ⟨by (with_reducible repeat (first | refine blk_drewN ?_ _ | refine blk_drew ?_ | refine blk_alloc ?_ _)); refine blk_put (cs := #[.slice Ao10 t276.length co10, .slice none 0 0]) ?_ 1 _ rfl; (with_reducible repeat (first | refine blk_drewN ?_ _ | refine blk_drew ?_ | refine blk_alloc ?_ _)); refine blk_put (cs := #[.slice none 0 0, .slice none 0 0]) ?_ 0 _ rfl; (with_reducible repeat (first | refine blk_drewN ?_ _ | refine blk_drew ?_ | refine blk_alloc ?_ _)); exact BK282.out⟩, ⟨tB HB.out⟩⟩
 case round =>
  clear H'
  try clear c1
  try clear p2
  try clear c6
  try clear p6
  try clear c7
  try clear c8
  try clear c11
  try clear c12
  try clear hcz13_0
  try clear hcz13_1
  try clear hcz15_0
  try clear hcz15_1
  try clear hcz7_0
  try clear hcz7_1
  try clear hfz13_0
  try clear hfz13_1
  try clear hfz15_0
  try clear hfz15_1
  try clear hfz7_0
  try clear hfz7_1
  obtain ⟨x6_1, x16_1, x283000_1, x283001_1, u283000, u283001, rfl, rfl, HA, HK1, HO_283000, HO_283001, BK274, BK275, BK282, HB⟩ := hrel
  cases gk with
  | zero => exact absurd HA.out (by simp [impl_hungWith.l0])
  | succ k1 =>
   have H := HA.out
   clear HA
   simp only [impl_hungWith.l0] at H
   by_cases c16 : x16_1 < (l0_1.length : Int)
   ·
    rw [if_pos c16] at H
    have c16b0 : decide (x16_1 < (l0_1.length : Int)) = true := decide_eq_true c16
    clear c16
    by_cases c17 : 0 ≤ x16_1
    ·
     rw [if_pos c17] at H
     have c17b0 : decide (0 ≤ x16_1) = true := decide_eq_true c17
     clear c17
     by_cases c18 : x16_1 < (l0_1.length : Int)
     ·
      rw [if_pos c18] at H
      have c18b0 : decide (x16_1 < (l0_1.length : Int)) = true := decide_eq_true c18
      clear c18
      have H' := Aside0.mk H
      clear H
      have p283 : 0 ≤ (x16_1 : Int) := of_decide_eq_true (by first | (with_reducible assumption) | assumption)
      have q283 : x16_1 < (l0_1.length : Int) := of_decide_eq_true (by first | (with_reducible assumption) | assumption)
      obtain ⟨ad283, e283, hx283_0, hx283_1⟩ := at_T58 HR0_1.out x16_1 p283 q283
      cases e283
      replace hx283_0 := (HB.out.cell (World.block_lt_of_cell? w _ hx283_0)).trans hx283_0
      replace hx283_1 := (HB.out.cell (World.block_lt_of_cell? w _ hx283_1)).trans hx283_1
      replace p283 := eq_true p283
      replace q283 := eq_true q283
      go_wp2_with (first | ((with_reducible refine gate_dst (N := 8) rfl ?_); refine box_event ?hg (N := 8) ?hd (cs := #[.int .i64 0, .int .i64 0]) (t := 58) ?hr ?_; (case hd => rfl); (case hg => rfl); (case hr => first | (go_simp; done) | (go_simp; rfl)); intro gb284 hg w19 hbox hb; replace HO_283000 := Aside0.mk (Kd.R_below (Kd.R_elderB (tR HO_283000.out) gb284 (Nat.le_of_eq hg.symm)) hb); replace HO_283001 := Aside0.mk (Kd.R_below (Kd.R_elderB (tR HO_283001.out) gb284 (Nat.le_of_eq hg.symm)) hb); have BK284 := Aside0.mk (hbox); have GW284 := Aside0.mk (bS HB.out hg); have GE284 := Aside0.mk (bS HB.out hg); replace HB := Aside0.mk (below_step (tB HB.out) hb); have NB274_284 := Aside0.mk (nL BK274.out hg); have NB284_274 := Aside0.mk (nG BK274.out hg); replace BK274 := bkB BK274 hb; have NB275_284 := Aside0.mk (nL BK275.out hg); have NB284_275 := Aside0.mk (nG BK275.out hg); replace BK275 := bkB BK275 hb; have NB282_284 := Aside0.mk (nL BK282.out hg); have NB284_282 := Aside0.mk (nG BK282.out hg); replace BK282 := bkB BK282 hb; clear hb hbox hg; have hnb20 := NB284_274.out; have hnc20 := NB274_284.out; have hnb21 := NB284_275.out; have hnc21 := NB275_284.out; have hnb22 := NB284_282.out; have hnc22 := NB282_284.out; obtain ⟨hcz23_0, hfz23_0, hcz23_1, hfz23_1⟩ := cz2 BK284))
      go_loopg [6, 22] k1 (fun kq v6 v22 w' => ∃ (x6_2 : Int) (x22_2 : Int) (x283000_2 : List (S58)) (x283001_2 : List (S58)) (x285000_2 : Int) (x285001_2 : Int) (u283000 : Value) (u283001 : Value), v6 = .int .i64 x6_2 ∧ v22 = .int .i64 x22_2 ∧ Aside0 (impl_hungWith.l1 kq l1 x6_2 x16_1 l0_1 (l0_1.length : Int) x16_1 x22_2 x283000_2 x283001_2 ((rd_T58 l0_1 x16_1).f0) ((rd_T58 l0_1 x16_1).f1) = some (r1, r2)) ∧ Aside0 (kq ≤ k1) ∧ Aside0 (Kd.R k58 58 w' w.heap.size (fun k_ => some k_ ≠ (u283001 : Value).ownBlock ∧ k_ ≠ gb284) u283000 x283000_2) ∧ Aside0 (Kd.R k58 58 w' w.heap.size (fun k_ => some k_ ≠ (u283000 : Value).ownBlock ∧ k_ ≠ gb284) u283001 x283001_2) ∧ Aside0 (w'.heap[gb274]? = some (.cells #[(.slice A0_0 l0_0.length c0_0), (.slice (some ad283) l0_1.length c0_1)] 27 (0, 0))) ∧ Aside0 (w'.heap[gb275]? = some (.cells #[(.slice none 0 0), (.slice none 0 0)] 27 (0, 0))) ∧ Aside0 (w'.heap[gb282]? = some (.cells #[u283000, u283001] 27 (0, 0))) ∧ Aside0 (w'.heap[gb284]? = some (.cells #[.int .i64 x285000_2, .int .i64 x285001_2] 58 (0, 0))) ∧ Aside0 (Below w.heap.size w w'))
      case atStart => exact ⟨(x6_1), (0), (x283000_1), (x283001_1), ((rd_T58 l0_1 x16_1).f0), ((rd_T58 l0_1 x16_1).f1), (u283000), (u283001), (by first | rfl | (simp; done) | (simp [wrap64]; done) | (simp [*]; done)), (by first | rfl | (simp; done) | (simp [wrap64]; done) | (simp [*]; done)), H', ⟨Nat.le_refl _⟩, ⟨by (with_reducible repeat (first | apply Kd.R_alloc | apply Kd.R_drewN | apply Kd.R_drew)); exact Kd.R_mono (Kd.R_far (p := ⟨gb284, 1, none⟩) (Kd.R_far (p := ⟨gb284, 0, none⟩) (Kd.R_mono HO_283000.out (fun k_ hk => (⟨hk, hk.2⟩ : _ ∧ k_ ≠ gb284))) (fun _ hk => hk.2) (.int .i64 ((rd_T58 l0_1 x16_1).f0))) (fun _ hk => hk.2) (.int .i64 ((rd_T58 l0_1 x16_1).f1))) (fun _ hk => ⟨hk.1.1, hk.1.2⟩)⟩, ⟨by (with_reducible repeat (first | apply Kd.R_alloc | apply Kd.R_drewN | apply Kd.R_drew)); exact Kd.R_mono (Kd.R_far (p := ⟨gb284, 1, none⟩) (Kd.R_far (p := ⟨gb284, 0, none⟩) (Kd.R_mono HO_283001.out (fun k_ hk => (⟨hk, hk.2⟩ : _ ∧ k_ ≠ gb284))) (fun _ hk => hk.2) (.int .i64 ((rd_T58 l0_1 x16_1).f0))) (fun _ hk => hk.2) (.int .i64 ((rd_T58 l0_1 x16_1).f1))) (fun _ hk => ⟨hk.1.1, hk.1.2⟩)⟩, ⟨by (with_reducible repeat (first | refine blk_drewN ?_ _ | refine blk_drew ?_ | refine blk_alloc ?_ _)); refine blk_far ?_ NB274_284.out _; (with_reducible repeat (first | refine blk_drewN ?_ _ | refine blk_drew ?_ | refine blk_alloc ?_ _)); refine blk_far ?_ NB274_284.out _; (with_reducible repeat (first | refine blk_drewN ?_ _ | refine blk_drew ?_ | refine blk_alloc ?_ _)); exact BK274.out⟩, ⟨by (with_reducible repeat (first | refine blk_drewN ?_ _ | refine blk_drew ?_ | refine blk_alloc ?_ _)); refine blk_far ?_ NB275_284.out _; (with_reducible repeat (first | refine blk_drewN ?_ _ | refine blk_drew ?_ | refine blk_alloc ?_ _)); refine blk_far ?_ NB275_284.out _; (with_reducible repeat (first | refine blk_drewN ?_ _ | refine blk_drew ?_ | refine blk_alloc ?_ _)); exact BK275.out⟩, ⟨by (with_reducible repeat (first | refine blk_drewN ?_ _ | refine blk_drew ?_ | refine blk_alloc ?_ _)); refine blk_far ?_ NB282_284.out _; (with_reducible repeat (first | refine blk_drewN ?_ _ | refine blk_drew ?_ | refine blk_alloc ?_ _)); refine blk_far ?_ NB282_284.out _; (with_reducible repeat (first | refine blk_drewN ?_ _ | refine blk_drew ?_ | refine blk_alloc ?_ _)); exact BK282.out⟩, ⟨by (with_reducible repeat (first | refine blk_drewN ?_ _ | refine blk_drew ?_ | refine blk_alloc ?_ _)); refine blk_put (cs := #[.int .i64 ((rd_T58 l0_1 x16_1).f0), .int .i64 0]) ?_ 1 _ rfl; (with_reducible repeat (first | refine blk_drewN ?_ _ | refine blk_drew ?_ | refine blk_alloc ?_ _)); refine blk_put (cs := #[.int .i64 0, .int .i64 0]) ?_ 0 _ rfl; (with_reducible repeat (first | refine blk_drewN ?_ _ | refine blk_drew ?_ | refine blk_alloc ?_ _)); exact BK284.out⟩, ⟨tB HB.out⟩⟩
      case round =>
       clear H'
       try clear c1
       try clear c2
       try clear p2
       try clear q2
       try clear hx2
       try clear c6
       try clear p6
       try clear c7
       try clear c8
       try clear c11
       try clear c12
       try clear c16
       try clear c16b0
       try clear c17
       try clear c17b0
       try clear c18
       try clear c18b0
       try clear c20
       try clear c21
       try clear c22
       try clear hcz13_0
       try clear hcz13_1
       try clear hcz15_0
       try clear hcz15_1
       try clear hcz23_0
       try clear hcz23_1
       try clear hcz7_0
       try clear hcz7_1
       try clear hfz13_0
       try clear hfz13_1
       try clear hfz15_0
       try clear hfz15_1
       try clear hfz23_0
       try clear hfz23_1
       try clear hfz7_0
       try clear hfz7_1
       try clear hx283_0
       try clear hx283_1
       try clear p2
       try clear p283
       try clear p6
       try clear q283
       obtain ⟨x6_2, x22_2, x283000_2, x283001_2, x285000_2, x285001_2, u283000, u283001, rfl, rfl, HA, HK2, HO_283000, HO_283001, BK274, BK275, BK282, BK284, HB⟩ := hrel
       cases gk with
       | zero => exact absurd HA.out (by simp [impl_hungWith.l1])
       | succ k2 =>
        have H := HA.out
        clear HA
        simp only [impl_hungWith.l1] at H
        by_cases c24 : x22_2 < 2
        ·
         rw [if_pos c24] at H
         have c24b0 : decide (x22_2 < 2) = true := decide_eq_true c24
         clear c24
         by_cases c25 : x22_2 = 0
         ·
          subst c25
          have H1 : (if ((rd_T58 l0_1 x16_1).f0) > 0 then (if 0 ≤ x6_2 then (if x6_2 < (l1.length : Int) then (if 0 ≤ x16_1 then (if x16_1 < (x283001_2.length : Int) then (impl_hungWith.l1 k2 l1 (wrap64 (x6_2 + 1)) x16_1 l0_1 (l0_1.length : Int) x16_1 (wrap64 (0 + 1)) x283000_2 (x283001_2.set (x16_1 : Int).toNat (⟨rd l1 x6_2, (rd_T58 x283001_2 x16_1).f1⟩ : S58)) ((rd_T58 l0_1 x16_1).f0) ((rd_T58 l0_1 x16_1).f1)) else (none)) else (none)) else (none)) else (none)) else (impl_hungWith.l1 k2 l1 x6_2 x16_1 l0_1 (l0_1.length : Int) x16_1 (wrap64 (0 + 1)) x283000_2 x283001_2 ((rd_T58 l0_1 x16_1).f0) ((rd_T58 l0_1 x16_1).f1))) = some (r1, r2) := by rw [if_pos rfl] at H; exact H
          clear H
          have H := H1
          clear H1
          by_cases c26 : ((rd_T58 l0_1 x16_1).f0) > 0
          ·
           rw [if_pos c26] at H
           have c26b0 : decide (0 < ((rd_T58 l0_1 x16_1).f0)) = true := decide_eq_true c26
           clear c26
           by_cases c27 : 0 ≤ x6_2
           ·
            rw [if_pos c27] at H
            have c27b0 : decide (0 ≤ x6_2) = true := decide_eq_true c27
            clear c27
            by_cases c28 : x6_2 < (l1.length : Int)
            ·
             rw [if_pos c28] at H
             have c28b0 : decide (x6_2 < (l1.length : Int)) = true := decide_eq_true c28
             clear c28
             by_cases c29 : 0 ≤ x16_1
             ·
              rw [if_pos c29] at H
              have c29b0 : decide (0 ≤ x16_1) = true := decide_eq_true c29
              clear c29
              by_cases c30 : x16_1 < (x283001_2.length : Int)
              ·
               rw [if_pos c30] at H
               have c30b0 : decide (x16_1 < (x283001_2.length : Int)) = true := decide_eq_true c30
               clear c30
               obtain ⟨y286, hy286⟩ : ∃ y_ : List (S58), y_ = (x283001_2.set (x16_1 : Int).toNat (⟨rd l1 x6_2, (rd_T58 x283001_2 x16_1).f1⟩ : S58)) := ⟨_, rfl⟩
               replace H : (impl_hungWith.l1 k2 l1 (wrap64 (x6_2 + 1)) x16_1 l0_1 (l0_1.length : Int) x16_1 (wrap64 (0 + 1)) x283000_2 y286 ((rd_T58 l0_1 x16_1).f0) ((rd_T58 l0_1 x16_1).f1)) = some (r1, r2) := by first | (rw [hy286]; with_reducible exact H) | (have H2_ := (Option.bind_some _ _).symm.trans H; rw [hy286]; with_reducible exact H2_) | (have H2_ := (Option.bind_some _ _).symm.trans H; with_reducible exact H2_) | with_reducible exact H | (rw [hy286]; exact H) | exact H
               have Ny286 := Aside0.mk hy286
               clear hy286
               have H' := Aside0.mk H
               clear H
               try go_wp2
               replace HO_283000 := Aside0.mk (Kd.R_drew HO_283000.out)
               replace HO_283001 := Aside0.mk (Kd.R_drew HO_283001.out)
               replace BK274 := Aside0.mk (blk_drew BK274.out)
               replace BK275 := Aside0.mk (blk_drew BK275.out)
               replace BK282 := Aside0.mk (blk_drew BK282.out)
               replace BK284 := Aside0.mk (blk_drew BK284.out)
               replace HB := Aside0.mk (below_drew1 HB.out)
               have p285 : 0 ≤ (x6_2 : Int) := of_decide_eq_true (by first | (with_reducible assumption) | assumption)
               have q285 : x6_2 < (l1.length : Int) := of_decide_eq_true (by first | (with_reducible assumption) | assumption)
               obtain ⟨ad285, e285, hx285_0⟩ := Kd.at_int HR1.out x6_2 p285 q285
               have hw285_0 := hx285_0
               cases e285
               replace hx285_0 := (HB.out.cell (World.block_lt_of_cell? w _ hx285_0)).trans hx285_0
               replace p285 := eq_true p285
               replace q285 := eq_true q285
               have p31 : 0 ≤ (x16_1 : Int) := of_decide_eq_true (by first | (with_reducible assumption) | assumption)
               have q31 : (x16_1 : Int) < ((x283001_2.length : Int) : Int) := of_decide_eq_true (by first | (with_reducible assumption) | assumption)
               obtain ⟨go31, co31, eo31, gb31, gl31, cl31, HG31⟩ := Kd.R_form HO_283001.out (by omega)
               (first | cases eo31 | (injection eo31 with ea_ en_ ec_; (first | subst ea_ | (injection ea_ with ea_; subst ea_)); subst ec_; clear en_))
               have GB31 := Aside0.mk gb31
               have GG31 := Aside0.mk HG31
               clear gb31 gl31 HG31
               obtain ⟨ce31, hcl31, hM31, hcc31, hfr31⟩ := Kd.R_elem HO_283001.out z58 (x16_1 : Int) p31 q31
               obtain rfl := k58_openM hM31
               have hx31_0 : World.cell? _ ⟨go31, (x16_1 : Int).toNat * 2, none⟩ = some (.int .i64 ((rd_T58 x283001_2 x16_1).f0)) := hcc31 0 _ rfl
               have hx31_1 : World.cell? _ ⟨go31, (x16_1 : Int).toNat * 2 + 1, none⟩ = some (.int .i64 ((rd_T58 x283001_2 x16_1).f1)) := hcc31 1 _ rfl
               have hf31_0 : World.frozen? _ ⟨go31, (x16_1 : Int).toNat * 2, none⟩ = false := hfr31 0
               have hf31_1 : World.frozen? _ ⟨go31, (x16_1 : Int).toNat * 2 + 1, none⟩ = false := hfr31 1
               clear hcl31 hcc31 hfr31 hM31
               replace p31 := eq_true p31
               replace q31 := eq_true q31
               obtain ⟨ce33, hcl33, hM33, hcc33, hfr33⟩ := Kd.R_elem HO_283001.out z58 (x16_1 : Int) (of_decide_eq_true (by first | (with_reducible assumption) | assumption)) (by have h_ : (x16_1 : Int) < ((x283001_2.length : Int) : Int) := of_decide_eq_true (by first | (with_reducible assumption) | assumption); first | exact h_ | (have e_ := (Kd.R_reads' HO_283001.out).1; omega) | simpa using h_)
               obtain rfl := k58_openM hM33
               have HP33 := (Kd.R_seg HO_283001.out (x16_1 : Int) (of_decide_eq_true (by first | (with_reducible assumption) | assumption)) (by have h_ : (x16_1 : Int) < ((x283001_2.length : Int) : Int) := of_decide_eq_true (by first | (with_reducible assumption) | assumption); first | exact h_ | (have e_ := (Kd.R_reads' HO_283001.out).1; omega) | simpa using h_) (seg := [.int .i64 (rd l1 x6_2)]) (j := 0) hcl33 hcc33 (show 1 ≤ 2 from by decide) (x' := (⟨rd l1 x6_2, (rd_T58 x283001_2 x16_1).f1⟩ : S58)) (k58_mkM _ _ _ (⟨rd l1 x6_2, (rd_T58 x283001_2 x16_1).f1⟩ : S58) ) (fun _ hk => hk)).1
               rw [← Ny286.out] at HP33
               have HQ33 := Aside0.mk HP33
               clear hcl33 hcc33 hfr33 hM33 HP33
               refine start_ (n := 11) (S := fun w' => w'.cell? ⟨gb282, 0, none⟩ = some (u283000) ∧ w'.cell? ⟨gb282, 1, none⟩ = some (.slice (some ⟨go31, 0, none⟩) x283001_2.length co31) ∧ w'.cell? (ad285.add (x6_2).toNat) = some (.int .i64 (rd l1 x6_2))) (ds := [10]) #[false, false, false, false, false, false, false, false, false, false, false] (by kernel_rfl) rfl rfl ⟨(blk_cell BK282.out 0).trans rfl, (blk_cell BK282.out 1).trans rfl, ((HB.out.cell (World.block_lt_of_cell? w _ hw285_0)).trans hw285_0)⟩ (fun hHeld => ?_); refine with_tabW impl_hungWith.tab9 impl_hungWith.bits9 (fun HT_ HW_ => ?_)
               generalize wr.drew = w32 at HO_283000 HO_283001 BK274 BK275 BK282 BK284 HB GG31 HQ33 hf31_0 hf31_1 hx285_0 hx31_0 hx31_1 hHeld ⊢
               refine pure_ (i := 0) (N := some 28) (v := ?_) (a' := ?_) #[true, false, false, false, false, false, false, false, false, false, false] rfl rfl (any_of HT_.out (by kernel_rfl)) (fun _ _ _ h => h) (Or.inl ⟨by rfl, ?_⟩) ?_ ?_
               rotate_left
               ·
                intro w'
                go_simp
                with_reducible rfl
               rotate_left
               ·
                simp only [Act.put, List.setIfInBounds_toArray, List.set_cons_zero, List.set_cons_succ, i64_w, i32_w]
                rfl
               refine pure_ (i := 2) (N := some 30) (v := ?_) (a' := ?_) #[true, false, true, false, false, false, false, false, false, false, false] rfl rfl (any_of HT_.out (by kernel_rfl)) (fun _ _ _ h => h) (Or.inl ⟨by rfl, ?_⟩) ?_ ?_
               rotate_left
               ·
                intro w'
                go_simp
                with_reducible rfl
               rotate_left
               ·
                simp only [Act.put, List.setIfInBounds_toArray, List.set_cons_zero, List.set_cons_succ, i64_w, i32_w]
                rfl
               refine pure_ (i := 3) (N := some 31) (v := ?_) (a' := ?_) #[true, false, true, true, false, false, false, false, false, false, false] rfl rfl (any_of HT_.out (by kernel_rfl)) (fun _ _ _ h => h) (Or.inl ⟨by rfl, ?_⟩) ?_ ?_
               rotate_left
               ·
                intro w'
                go_simp
                with_reducible rfl
               rotate_left
               ·
                simp only [Act.put, List.setIfInBounds_toArray, List.set_cons_zero, List.set_cons_succ, i64_w, i32_w]
                rfl
               refine pure_ (i := 4) (N := some 32) (v := ?_) (a' := ?_) #[true, false, true, true, true, false, false, false, false, false, false] rfl rfl (any_of HT_.out (by kernel_rfl)) (fun _ _ _ h => h) (Or.inl ⟨by rfl, ?_⟩) ?_ ?_
               rotate_left
               ·
                intro w'
                go_simp
                with_reducible rfl
               rotate_left
               ·
                simp only [Act.put, List.setIfInBounds_toArray, List.set_cons_zero, List.set_cons_succ, i64_w, i32_w]
                rfl
               refine pure_ (i := 5) (N := some 33) (v := ?_) (a' := ?_) #[true, false, true, true, true, true, false, false, false, false, false] rfl rfl (any_of HT_.out (by kernel_rfl)) (fun _ _ _ h => h) (Or.inl ⟨by rfl, ?_⟩) ?_ ?_
               rotate_left
               ·
                intro w'
                go_simp
                with_reducible rfl
               rotate_left
               ·
                simp only [Act.put, List.setIfInBounds_toArray, List.set_cons_zero, List.set_cons_succ, i64_w, i32_w]
                rfl
               refine pure_ (i := 6) (N := some 34) (v := ?_) (a' := ?_) #[true, false, true, true, true, true, true, false, false, false, false] rfl rfl (any_of HT_.out (by kernel_rfl)) (fun _ _ _ h => h) (Or.inl ⟨by rfl, ?_⟩) ?_ ?_
               rotate_left
               ·
                intro w'
                go_simp
                with_reducible rfl
               rotate_left
               ·
                simp only [Act.put, List.setIfInBounds_toArray, List.set_cons_zero, List.set_cons_succ, i64_w, i32_w]
                rfl
               refine take_ (i := 1) (N := some 29) (v := ?_) (a' := ?_) #[true, true, true, true, true, true, true, false, false, false, false] rfl rfl (take_ofW HT_.out HW_.out (by kernel_rfl)) (fun _ _ _ h => h) (Or.inl ⟨by rfl, ?_⟩) hHeld ?_ ?_
               rotate_left
               ·
                rintro w' ⟨s0, s1, s2⟩
                go_simp
                with_reducible rfl
               rotate_left
               ·
                simp only [Act.put, List.setIfInBounds_toArray, List.set_cons_zero, List.set_cons_succ, i64_w, i32_w]
                rfl
               refine pure_ (i := 8) (N := some 36) (v := ?_) (a' := ?_) #[true, true, true, true, true, true, true, false, true, false, false] rfl rfl (any_of HT_.out (by kernel_rfl)) (fun _ _ _ h => h) (Or.inl ⟨by rfl, ?_⟩) ?_ ?_
               rotate_left
               ·
                intro w'
                go_simp
                with_reducible rfl
               rotate_left
               ·
                simp only [Act.put, List.setIfInBounds_toArray, List.set_cons_zero, List.set_cons_succ, i64_w, i32_w]
                rfl
               refine take_ (i := 7) (N := some 35) (v := ?_) (a' := ?_) #[true, true, true, true, true, true, true, true, true, false, false] rfl rfl (take_ofW HT_.out HW_.out (by kernel_rfl)) (fun _ _ _ h => h) (Or.inl ⟨by rfl, ?_⟩) hHeld ?_ ?_
               rotate_left
               ·
                rintro w' ⟨s0, s1, s2⟩
                go_simp
                with_reducible rfl
               rotate_left
               ·
                simp only [Act.put, List.setIfInBounds_toArray, List.set_cons_zero, List.set_cons_succ, i64_w, i32_w]
                rfl
               refine pure_ (i := 9) (N := some 37) (v := ?_) (a' := ?_) #[true, true, true, true, true, true, true, true, true, true, false] rfl rfl (any_of HT_.out (by kernel_rfl)) (fun _ _ _ h => h) (Or.inl ⟨by rfl, ?_⟩) ?_ ?_
               rotate_left
               ·
                intro w'
                go_simp
                with_reducible rfl
               rotate_left
               ·
                simp only [Act.put, List.setIfInBounds_toArray, List.set_cons_zero, List.set_cons_succ, i64_w, i32_w]
                rfl
               refine last_ (i := 10) (N := none) #[true, true, true, true, true, true, true, true, true, true, true] rfl rfl (one_of HT_.out (by kernel_rfl)) (by decide) (fun K hK => ?_)
               refine skip_ (w1 := ?_) (by rfl) rfl ?_ ?_
               rotate_left
               ·
                go_simp
                rfl
               refine hK.out _ _ ?_
               clear hK K
               refine done_ (done_of HT_.out (by kernel_rfl)) ?_
               try go_wp2
               go_roundg k2
               case measure => have := HK1.out; have := HK2.out; omega
               case rel => exact ⟨(wrap64 (x6_2 + 1)), (wrap64 (0 + 1)), (x283000_2), (y286), (x285000_2), (x285001_2), (u283000), (.slice (some ⟨go31, 0, none⟩) x283001_2.length co31), (by first | rfl | (simp; done) | (simp [wrap64]; done) | (simp [*]; done)), (by first | rfl | (simp; done) | (simp [wrap64]; done) | (simp [*]; done)), H', ⟨by have := HK1.out; have := HK2.out; omega⟩, ⟨by (with_reducible repeat (first | apply Kd.R_alloc | apply Kd.R_drewN | apply Kd.R_drew)); exact Kd.R_mono (Kd.R_far (p := ⟨go31, (x16_1 : Int).toNat * 2, none⟩) (Kd.R_mono HO_283000.out (fun k_ hk => (⟨hk, fun e_ => hk.1 (by rw [e_]; rfl)⟩ : _ ∧ k_ ≠ go31))) (fun _ hk => hk.2) (.int .i64 (rd l1 x6_2))) (fun _ hk => ⟨hk.1.1, hk.1.2⟩)⟩, ⟨tR HQ33.out⟩, ⟨by (with_reducible repeat (first | refine blk_drewN ?_ _ | refine blk_drew ?_ | refine blk_alloc ?_ _)); refine blk_far ?_ (by have h_ := Kd.R_ne HO_283001.out BK274.out (by decide); intro e_; exact h_ (by rw [e_]; rfl)) _; (with_reducible repeat (first | refine blk_drewN ?_ _ | refine blk_drew ?_ | refine blk_alloc ?_ _)); exact BK274.out⟩, ⟨by (with_reducible repeat (first | refine blk_drewN ?_ _ | refine blk_drew ?_ | refine blk_alloc ?_ _)); refine blk_far ?_ (by have h_ := Kd.R_ne HO_283001.out BK275.out (by decide); intro e_; exact h_ (by rw [e_]; rfl)) _; (with_reducible repeat (first | refine blk_drewN ?_ _ | refine blk_drew ?_ | refine blk_alloc ?_ _)); exact BK275.out⟩, ⟨by (with_reducible repeat (first | refine blk_drewN ?_ _ | refine blk_drew ?_ | refine blk_alloc ?_ _)); refine blk_far ?_ (by have h_ := Kd.R_ne HO_283001.out BK282.out (by decide); intro e_; exact h_ (by rw [e_]; rfl)) _; (with_reducible repeat (first | refine blk_drewN ?_ _ | refine blk_drew ?_ | refine blk_alloc ?_ _)); exact BK282.out⟩, ⟨by (with_reducible repeat (first | refine blk_drewN ?_ _ | refine blk_drew ?_ | refine blk_alloc ?_ _)); refine blk_far ?_ (by have h_ := Kd.R_away HO_283001.out (fun _ hk => hk.2); intro e_; exact h_ (by rw [e_]; rfl)) _; (with_reducible repeat (first | refine blk_drewN ?_ _ | refine blk_drew ?_ | refine blk_alloc ?_ _)); exact BK284.out⟩, ⟨tB HB.out⟩⟩
              ·
               rw [if_neg c30] at H
               exact absurd H (by simp)
             ·
              rw [if_neg c29] at H
              exact absurd H (by simp)
            ·
             rw [if_neg c28] at H
             exact absurd H (by simp)
           ·
            rw [if_neg c27] at H
            exact absurd H (by simp)
          ·
           rw [if_neg c26] at H
           have c26b0 : decide (0 < ((rd_T58 l0_1 x16_1).f0)) = false := decide_eq_false c26
           clear c26
           have H' := Aside0.mk H
           clear H
           go_wp2
           go_roundg k2
           case measure => have := HK1.out; have := HK2.out; omega
           case rel => exact ⟨(x6_2), (wrap64 (0 + 1)), (x283000_2), (x283001_2), (x285000_2), (x285001_2), (u283000), (u283001), (by first | rfl | (simp; done) | (simp [wrap64]; done) | (simp [*]; done)), (by first | rfl | (simp; done) | (simp [wrap64]; done) | (simp [*]; done)), H', ⟨by have := HK1.out; have := HK2.out; omega⟩, ⟨tR HO_283000.out⟩, ⟨tR HO_283001.out⟩, ⟨tK BK274.out⟩, ⟨tK BK275.out⟩, ⟨tK BK282.out⟩, ⟨tK BK284.out⟩, ⟨tB HB.out⟩⟩
         ·
          rw [if_neg c25] at H
          have c25b0 : (x22_2 == 0) = false := beq_eq_false_iff_ne.mpr c25
          have c25b1 : (x22_2 != 0) = true := bne_iff_ne.mpr c25
          by_cases c34 : x22_2 = 1
          ·
           subst c34
           have H1 : (if ((rd_T58 l0_1 x16_1).f1) > 0 then (if 0 ≤ x6_2 then (if x6_2 < (l1.length : Int) then (if 0 ≤ x16_1 then (if x16_1 < (x283001_2.length : Int) then (impl_hungWith.l1 k2 l1 (wrap64 (x6_2 + 1)) x16_1 l0_1 (l0_1.length : Int) x16_1 (wrap64 (1 + 1)) x283000_2 (x283001_2.set (x16_1 : Int).toNat (⟨(rd_T58 x283001_2 x16_1).f0, rd l1 x6_2⟩ : S58)) ((rd_T58 l0_1 x16_1).f0) ((rd_T58 l0_1 x16_1).f1)) else (none)) else (none)) else (none)) else (none)) else (impl_hungWith.l1 k2 l1 x6_2 x16_1 l0_1 (l0_1.length : Int) x16_1 (wrap64 (1 + 1)) x283000_2 x283001_2 ((rd_T58 l0_1 x16_1).f0) ((rd_T58 l0_1 x16_1).f1))) = some (r1, r2) := by rw [if_pos rfl] at H; exact H
           clear H
           have H := H1
           clear H1
           by_cases c35 : ((rd_T58 l0_1 x16_1).f1) > 0
           ·
            rw [if_pos c35] at H
            have c35b0 : decide (0 < ((rd_T58 l0_1 x16_1).f1)) = true := decide_eq_true c35
            clear c35
            by_cases c36 : 0 ≤ x6_2
            ·
             rw [if_pos c36] at H
             have c36b0 : decide (0 ≤ x6_2) = true := decide_eq_true c36
             clear c36
             by_cases c37 : x6_2 < (l1.length : Int)
             ·
              rw [if_pos c37] at H
              have c37b0 : decide (x6_2 < (l1.length : Int)) = true := decide_eq_true c37
              clear c37
              by_cases c38 : 0 ≤ x16_1
              ·
               rw [if_pos c38] at H
               have c38b0 : decide (0 ≤ x16_1) = true := decide_eq_true c38
               clear c38
               by_cases c39 : x16_1 < (x283001_2.length : Int)
               ·
                rw [if_pos c39] at H
                have c39b0 : decide (x16_1 < (x283001_2.length : Int)) = true := decide_eq_true c39
                clear c39
                obtain ⟨y288, hy288⟩ : ∃ y_ : List (S58), y_ = (x283001_2.set (x16_1 : Int).toNat (⟨(rd_T58 x283001_2 x16_1).f0, rd l1 x6_2⟩ : S58)) := ⟨_, rfl⟩
                replace H : (impl_hungWith.l1 k2 l1 (wrap64 (x6_2 + 1)) x16_1 l0_1 (l0_1.length : Int) x16_1 (wrap64 (1 + 1)) x283000_2 y288 ((rd_T58 l0_1 x16_1).f0) ((rd_T58 l0_1 x16_1).f1)) = some (r1, r2) := by first | (rw [hy288]; with_reducible exact H) | (have H2_ := (Option.bind_some _ _).symm.trans H; rw [hy288]; with_reducible exact H2_) | (have H2_ := (Option.bind_some _ _).symm.trans H; with_reducible exact H2_) | with_reducible exact H | (rw [hy288]; exact H) | exact H
                have Ny288 := Aside0.mk hy288
                clear hy288
                have H' := Aside0.mk H
                clear H
                try go_wp2
                replace HO_283000 := Aside0.mk (Kd.R_drew HO_283000.out)
                replace HO_283001 := Aside0.mk (Kd.R_drew HO_283001.out)
                replace BK274 := Aside0.mk (blk_drew BK274.out)
                replace BK275 := Aside0.mk (blk_drew BK275.out)
                replace BK282 := Aside0.mk (blk_drew BK282.out)
                replace BK284 := Aside0.mk (blk_drew BK284.out)
                replace HB := Aside0.mk (below_drew1 HB.out)
                have p287 : 0 ≤ (x6_2 : Int) := of_decide_eq_true (by first | (with_reducible assumption) | assumption)
                have q287 : x6_2 < (l1.length : Int) := of_decide_eq_true (by first | (with_reducible assumption) | assumption)
                obtain ⟨ad287, e287, hx287_0⟩ := Kd.at_int HR1.out x6_2 p287 q287
                have hw287_0 := hx287_0
                cases e287
                replace hx287_0 := (HB.out.cell (World.block_lt_of_cell? w _ hx287_0)).trans hx287_0
                replace p287 := eq_true p287
                replace q287 := eq_true q287
                have p40 : 0 ≤ (x16_1 : Int) := of_decide_eq_true (by first | (with_reducible assumption) | assumption)
                have q40 : (x16_1 : Int) < ((x283001_2.length : Int) : Int) := of_decide_eq_true (by first | (with_reducible assumption) | assumption)
                obtain ⟨go40, co40, eo40, gb40, gl40, cl40, HG40⟩ := Kd.R_form HO_283001.out (by omega)
                (first | cases eo40 | (injection eo40 with ea_ en_ ec_; (first | subst ea_ | (injection ea_ with ea_; subst ea_)); subst ec_; clear en_))
                have GB40 := Aside0.mk gb40
                have GG40 := Aside0.mk HG40
                clear gb40 gl40 HG40
                obtain ⟨ce40, hcl40, hM40, hcc40, hfr40⟩ := Kd.R_elem HO_283001.out z58 (x16_1 : Int) p40 q40
                obtain rfl := k58_openM hM40
                have hx40_0 : World.cell? _ ⟨go40, (x16_1 : Int).toNat * 2, none⟩ = some (.int .i64 ((rd_T58 x283001_2 x16_1).f0)) := hcc40 0 _ rfl
                have hx40_1 : World.cell? _ ⟨go40, (x16_1 : Int).toNat * 2 + 1, none⟩ = some (.int .i64 ((rd_T58 x283001_2 x16_1).f1)) := hcc40 1 _ rfl
                have hf40_0 : World.frozen? _ ⟨go40, (x16_1 : Int).toNat * 2, none⟩ = false := hfr40 0
                have hf40_1 : World.frozen? _ ⟨go40, (x16_1 : Int).toNat * 2 + 1, none⟩ = false := hfr40 1
                clear hcl40 hcc40 hfr40 hM40
                replace p40 := eq_true p40
                replace q40 := eq_true q40
                obtain ⟨ce42, hcl42, hM42, hcc42, hfr42⟩ := Kd.R_elem HO_283001.out z58 (x16_1 : Int) (of_decide_eq_true (by first | (with_reducible assumption) | assumption)) (by have h_ : (x16_1 : Int) < ((x283001_2.length : Int) : Int) := of_decide_eq_true (by first | (with_reducible assumption) | assumption); first | exact h_ | (have e_ := (Kd.R_reads' HO_283001.out).1; omega) | simpa using h_)
                obtain rfl := k58_openM hM42
                have HP42 := (Kd.R_seg HO_283001.out (x16_1 : Int) (of_decide_eq_true (by first | (with_reducible assumption) | assumption)) (by have h_ : (x16_1 : Int) < ((x283001_2.length : Int) : Int) := of_decide_eq_true (by first | (with_reducible assumption) | assumption); first | exact h_ | (have e_ := (Kd.R_reads' HO_283001.out).1; omega) | simpa using h_) (seg := [.int .i64 (rd l1 x6_2)]) (j := 1) hcl42 hcc42 (show 2 ≤ 2 from by decide) (x' := (⟨(rd_T58 x283001_2 x16_1).f0, rd l1 x6_2⟩ : S58)) (k58_mkM _ _ _ (⟨(rd_T58 x283001_2 x16_1).f0, rd l1 x6_2⟩ : S58) ) (fun _ hk => hk)).1
                rw [← Ny288.out] at HP42
                have HQ42 := Aside0.mk HP42
                clear hcl42 hcc42 hfr42 hM42 HP42
                refine start_ (n := 11) (S := fun w' => w'.cell? ⟨gb282, 0, none⟩ = some (u283000) ∧ w'.cell? ⟨gb282, 1, none⟩ = some (.slice (some ⟨go40, 0, none⟩) x283001_2.length co40) ∧ w'.cell? (ad287.add (x6_2).toNat) = some (.int .i64 (rd l1 x6_2))) (ds := [10]) #[false, false, false, false, false, false, false, false, false, false, false] (by kernel_rfl) rfl rfl ⟨(blk_cell BK282.out 0).trans rfl, (blk_cell BK282.out 1).trans rfl, ((HB.out.cell (World.block_lt_of_cell? w _ hw287_0)).trans hw287_0)⟩ (fun hHeld => ?_); refine with_tabW impl_hungWith.tab9 impl_hungWith.bits9 (fun HT_ HW_ => ?_)
                generalize wr.drew = w41 at HO_283000 HO_283001 BK274 BK275 BK282 BK284 HB GG40 HQ42 hf40_0 hf40_1 hx287_0 hx40_0 hx40_1 hHeld ⊢
                refine pure_ (i := 0) (N := some 28) (v := ?_) (a' := ?_) #[true, false, false, false, false, false, false, false, false, false, false] rfl rfl (any_of HT_.out (by kernel_rfl)) (fun _ _ _ h => h) (Or.inl ⟨by rfl, ?_⟩) ?_ ?_
                rotate_left
                ·
                 intro w'
                 go_simp
                 with_reducible rfl
                rotate_left
                ·
                 simp only [Act.put, List.setIfInBounds_toArray, List.set_cons_zero, List.set_cons_succ, i64_w, i32_w]
                 rfl
                refine pure_ (i := 2) (N := some 30) (v := ?_) (a' := ?_) #[true, false, true, false, false, false, false, false, false, false, false] rfl rfl (any_of HT_.out (by kernel_rfl)) (fun _ _ _ h => h) (Or.inl ⟨by rfl, ?_⟩) ?_ ?_
                rotate_left
                ·
                 intro w'
                 go_simp
                 with_reducible rfl
                rotate_left
                ·
                 simp only [Act.put, List.setIfInBounds_toArray, List.set_cons_zero, List.set_cons_succ, i64_w, i32_w]
                 rfl
                refine pure_ (i := 3) (N := some 31) (v := ?_) (a' := ?_) #[true, false, true, true, false, false, false, false, false, false, false] rfl rfl (any_of HT_.out (by kernel_rfl)) (fun _ _ _ h => h) (Or.inl ⟨by rfl, ?_⟩) ?_ ?_
                rotate_left
                ·
                 intro w'
                 go_simp
                 with_reducible rfl
                rotate_left
                ·
                 simp only [Act.put, List.setIfInBounds_toArray, List.set_cons_zero, List.set_cons_succ, i64_w, i32_w]
                 rfl
                refine pure_ (i := 4) (N := some 32) (v := ?_) (a' := ?_) #[true, false, true, true, true, false, false, false, false, false, false] rfl rfl (any_of HT_.out (by kernel_rfl)) (fun _ _ _ h => h) (Or.inl ⟨by rfl, ?_⟩) ?_ ?_
                rotate_left
                ·
                 intro w'
                 go_simp
                 with_reducible rfl
                rotate_left
                ·
                 simp only [Act.put, List.setIfInBounds_toArray, List.set_cons_zero, List.set_cons_succ, i64_w, i32_w]
                 rfl
                refine pure_ (i := 5) (N := some 33) (v := ?_) (a' := ?_) #[true, false, true, true, true, true, false, false, false, false, false] rfl rfl (any_of HT_.out (by kernel_rfl)) (fun _ _ _ h => h) (Or.inl ⟨by rfl, ?_⟩) ?_ ?_
                rotate_left
                ·
                 intro w'
                 go_simp
                 with_reducible rfl
                rotate_left
                ·
                 simp only [Act.put, List.setIfInBounds_toArray, List.set_cons_zero, List.set_cons_succ, i64_w, i32_w]
                 rfl
                refine pure_ (i := 6) (N := some 34) (v := ?_) (a' := ?_) #[true, false, true, true, true, true, true, false, false, false, false] rfl rfl (any_of HT_.out (by kernel_rfl)) (fun _ _ _ h => h) (Or.inl ⟨by rfl, ?_⟩) ?_ ?_
                rotate_left
                ·
                 intro w'
                 go_simp
                 with_reducible rfl
                rotate_left
                ·
                 simp only [Act.put, List.setIfInBounds_toArray, List.set_cons_zero, List.set_cons_succ, i64_w, i32_w]
                 rfl
                refine take_ (i := 1) (N := some 29) (v := ?_) (a' := ?_) #[true, true, true, true, true, true, true, false, false, false, false] rfl rfl (take_ofW HT_.out HW_.out (by kernel_rfl)) (fun _ _ _ h => h) (Or.inl ⟨by rfl, ?_⟩) hHeld ?_ ?_
                rotate_left
                ·
                 rintro w' ⟨s0, s1, s2⟩
                 go_simp
                 with_reducible rfl
                rotate_left
                ·
                 simp only [Act.put, List.setIfInBounds_toArray, List.set_cons_zero, List.set_cons_succ, i64_w, i32_w]
                 rfl
                refine pure_ (i := 8) (N := some 36) (v := ?_) (a' := ?_) #[true, true, true, true, true, true, true, false, true, false, false] rfl rfl (any_of HT_.out (by kernel_rfl)) (fun _ _ _ h => h) (Or.inl ⟨by rfl, ?_⟩) ?_ ?_
                rotate_left
                ·
                 intro w'
                 go_simp
                 with_reducible rfl
                rotate_left
                ·
                 simp only [Act.put, List.setIfInBounds_toArray, List.set_cons_zero, List.set_cons_succ, i64_w, i32_w]
                 rfl
                refine take_ (i := 7) (N := some 35) (v := ?_) (a' := ?_) #[true, true, true, true, true, true, true, true, true, false, false] rfl rfl (take_ofW HT_.out HW_.out (by kernel_rfl)) (fun _ _ _ h => h) (Or.inl ⟨by rfl, ?_⟩) hHeld ?_ ?_
                rotate_left
                ·
                 rintro w' ⟨s0, s1, s2⟩
                 go_simp
                 with_reducible rfl
                rotate_left
                ·
                 simp only [Act.put, List.setIfInBounds_toArray, List.set_cons_zero, List.set_cons_succ, i64_w, i32_w]
                 rfl
                refine pure_ (i := 9) (N := some 37) (v := ?_) (a' := ?_) #[true, true, true, true, true, true, true, true, true, true, false] rfl rfl (any_of HT_.out (by kernel_rfl)) (fun _ _ _ h => h) (Or.inl ⟨by rfl, ?_⟩) ?_ ?_
                rotate_left
                ·
                 intro w'
                 go_simp
                 with_reducible rfl
                rotate_left
                ·
                 simp only [Act.put, List.setIfInBounds_toArray, List.set_cons_zero, List.set_cons_succ, i64_w, i32_w]
                 rfl
                refine last_ (i := 10) (N := none) #[true, true, true, true, true, true, true, true, true, true, true] rfl rfl (one_of HT_.out (by kernel_rfl)) (by decide) (fun K hK => ?_)
                refine skip_ (w1 := ?_) (by rfl) rfl ?_ ?_
                rotate_left
                ·
                 go_simp
                 rfl
                refine hK.out _ _ ?_
                clear hK K
                refine done_ (done_of HT_.out (by kernel_rfl)) ?_
                try go_wp2
                go_roundg k2
                case measure => have := HK1.out; have := HK2.out; omega
                case rel => exact ⟨(wrap64 (x6_2 + 1)), (wrap64 (1 + 1)), (x283000_2), (y288), (x285000_2), (x285001_2), (u283000), (.slice (some ⟨go40, 0, none⟩) x283001_2.length co40), (by first | rfl | (simp; done) | (simp [wrap64]; done) | (simp [*]; done)), (by first | rfl | (simp; done) | (simp [wrap64]; done) | (simp [*]; done)), H', ⟨by have := HK1.out; have := HK2.out; omega⟩, ⟨by (with_reducible repeat (first | apply Kd.R_alloc | apply Kd.R_drewN | apply Kd.R_drew)); exact Kd.R_mono (Kd.R_far (p := ⟨go40, (x16_1 : Int).toNat * 2 + 1, none⟩) (Kd.R_mono HO_283000.out (fun k_ hk => (⟨hk, fun e_ => hk.1 (by rw [e_]; rfl)⟩ : _ ∧ k_ ≠ go40))) (fun _ hk => hk.2) (.int .i64 (rd l1 x6_2))) (fun _ hk => ⟨hk.1.1, hk.1.2⟩)⟩, ⟨tR HQ42.out⟩, ⟨by (with_reducible repeat (first | refine blk_drewN ?_ _ | refine blk_drew ?_ | refine blk_alloc ?_ _)); refine blk_far ?_ (by have h_ := Kd.R_ne HO_283001.out BK274.out (by decide); intro e_; exact h_ (by rw [e_]; rfl)) _; (with_reducible repeat (first | refine blk_drewN ?_ _ | refine blk_drew ?_ | refine blk_alloc ?_ _)); exact BK274.out⟩, ⟨by (with_reducible repeat (first | refine blk_drewN ?_ _ | refine blk_drew ?_ | refine blk_alloc ?_ _)); refine blk_far ?_ (by have h_ := Kd.R_ne HO_283001.out BK275.out (by decide); intro e_; exact h_ (by rw [e_]; rfl)) _; (with_reducible repeat (first | refine blk_drewN ?_ _ | refine blk_drew ?_ | refine blk_alloc ?_ _)); exact BK275.out⟩, ⟨by (with_reducible repeat (first | refine blk_drewN ?_ _ | refine blk_drew ?_ | refine blk_alloc ?_ _)); refine blk_far ?_ (by have h_ := Kd.R_ne HO_283001.out BK282.out (by decide); intro e_; exact h_ (by rw [e_]; rfl)) _; (with_reducible repeat (first | refine blk_drewN ?_ _ | refine blk_drew ?_ | refine blk_alloc ?_ _)); exact BK282.out⟩, ⟨by (with_reducible repeat (first | refine blk_drewN ?_ _ | refine blk_drew ?_ | refine blk_alloc ?_ _)); refine blk_far ?_ (by have h_ := Kd.R_away HO_283001.out (fun _ hk => hk.2); intro e_; exact h_ (by rw [e_]; rfl)) _; (with_reducible repeat (first | refine blk_drewN ?_ _ | refine blk_drew ?_ | refine blk_alloc ?_ _)); exact BK284.out⟩, ⟨tB HB.out⟩⟩
               ·
                rw [if_neg c39] at H
                exact absurd H (by simp)
              ·
               rw [if_neg c38] at H
               exact absurd H (by simp)
             ·
              rw [if_neg c37] at H
              exact absurd H (by simp)
            ·
             rw [if_neg c36] at H
             exact absurd H (by simp)
           ·
            rw [if_neg c35] at H
            have c35b0 : decide (0 < ((rd_T58 l0_1 x16_1).f1)) = false := decide_eq_false c35
            clear c35
            have H' := Aside0.mk H
            clear H
            go_wp2
            go_roundg k2
            case measure => have := HK1.out; have := HK2.out; omega
            case rel => exact ⟨(x6_2), (wrap64 (1 + 1)), (x283000_2), (x283001_2), (x285000_2), (x285001_2), (u283000), (u283001), (by first | rfl | (simp; done) | (simp [wrap64]; done) | (simp [*]; done)), (by first | rfl | (simp; done) | (simp [wrap64]; done) | (simp [*]; done)), H', ⟨by have := HK1.out; have := HK2.out; omega⟩, ⟨tR HO_283000.out⟩, ⟨tR HO_283001.out⟩, ⟨tK BK274.out⟩, ⟨tK BK275.out⟩, ⟨tK BK282.out⟩, ⟨tK BK284.out⟩, ⟨tB HB.out⟩⟩
          ·
           rw [if_neg c34] at H
           exact absurd H (by simp)
        ·
         rw [if_neg c24] at H
         have c24b0 : decide (x22_2 < 2) = false := decide_eq_false c24
         clear c24
         have H' := Aside0.mk H
         clear H
         go_wp2
         go_roundg k2
         case measure => have := HK1.out; have := HK2.out; omega
         case rel => exact ⟨(x6_2), (wrap64 (x16_1 + 1)), (x283000_2), (x283001_2), (u283000), (u283001), (by first | rfl | (simp; done) | (simp [wrap64]; done) | (simp [*]; done)), (by first | rfl | (simp; done) | (simp [wrap64]; done) | (simp [*]; done)), H', ⟨by have := HK1.out; have := HK2.out; omega⟩, ⟨by (with_reducible repeat (first | apply Kd.R_alloc | apply Kd.R_drewN | apply Kd.R_drew)); exact Kd.R_mono HO_283000.out (fun _ hk => hk.1)⟩, ⟨by (with_reducible repeat (first | apply Kd.R_alloc | apply Kd.R_drewN | apply Kd.R_drew)); exact Kd.R_mono HO_283001.out (fun _ hk => hk.1)⟩, ⟨tK BK274.out⟩, ⟨tK BK275.out⟩, ⟨tK BK282.out⟩, ⟨tB HB.out⟩⟩
     ·
      rw [if_neg c18] at H
      exact absurd H (by simp)
    ·
     rw [if_neg c17] at H
     exact absurd H (by simp)
   ·
    rw [if_neg c16] at H
    have c16b0 : decide (x16_1 < (l0_1.length : Int)) = false := decide_eq_false c16
    clear c16
    simp only [Option.some.injEq, Prod.mk.injEq] at H
    obtain ⟨rfl, rfl⟩ := H
    have hnb43 := NB282_274.out
    have hnc43 := NB274_282.out
    have hnb44 := NB282_275.out
    have hnc44 := NB275_282.out
    obtain ⟨hcz45_0, hfz45_0, hcz45_1, hfz45_1⟩ := cz2 BK282
    obtain ⟨Ao46, co46, eo46⟩ := Kd.R_slice HO_283000.out
    subst eo46
    have hnb47 := NB275_274.out
    have hnc47 := NB274_275.out
    obtain ⟨hcz48_0, hfz48_0, hcz48_1, hfz48_1⟩ := cz2 BK275
    obtain ⟨Ao49, co49, eo49⟩ := Kd.R_slice HO_283001.out
    subst eo49
    go_wp2
    refine bodyPost_ret (results_cell_row rfl _ _ gb275 27 #[.slice Ao46 x283000_1.length co46, .slice Ao49 x283001_1.length co49] (0, 0) _ rfl (by (with_reducible repeat (first | refine blk_drewN ?_ _ | refine blk_drew ?_ | refine blk_alloc ?_ _)); refine blk_put (cs := #[.slice Ao46 x283000_1.length co46, .slice none 0 0]) ?_ 1 _ rfl; (with_reducible repeat (first | refine blk_drewN ?_ _ | refine blk_drew ?_ | refine blk_alloc ?_ _)); refine blk_put (cs := #[.slice none 0 0, .slice none 0 0]) ?_ 0 _ rfl; (with_reducible repeat (first | refine blk_drewN ?_ _ | refine blk_drew ?_ | refine blk_alloc ?_ _)); exact BK275.out) Try.underlying27 rfl (by kernel_rfl)) rfl ?_
    exact ⟨_, _, by first | rfl | (simp [errW_none, errW_some] <;> rfl) | (simp [*, errW_none, errW_some] <;> rfl), by (with_reducible repeat (first | apply Kd.R_alloc | apply Kd.R_drewN | apply Kd.R_drew)); exact Kd.R_mono (Kd.R_far (p := ⟨gb275, 1, none⟩) (Kd.R_far (p := ⟨gb275, 0, none⟩) (Kd.R_types HO_283000.out BK275.out (by decide)) (fun _ hk => hk.2) (.slice Ao46 x283000_1.length co46)) (fun _ hk => hk.2) (.slice Ao49 x283001_1.length co49)) (fun _ hk => hk.1), by (with_reducible repeat (first | apply Kd.R_alloc | apply Kd.R_drewN | apply Kd.R_drew)); exact Kd.R_mono (Kd.R_far (p := ⟨gb275, 1, none⟩) (Kd.R_far (p := ⟨gb275, 0, none⟩) (Kd.R_types HO_283001.out BK275.out (by decide)) (fun _ hk => hk.2) (.slice Ao46 x283000_1.length co46)) (fun _ hk => hk.2) (.slice Ao49 x283001_1.length co49)) (fun _ hk => hk.1), tB HB.out⟩

end Go.Proofs.Ytbdajkfihbaapaa.PFnExactHangLeaves

import Derived.Test.YtnnpfekgapikfaaZFnPilesx0
import Derived.Test.YtnnpfekgapikfaaZFnPilesx4
import Derived.Test.YtnnpfekgapikfaaZFnPilesx5
namespace Go.Proofs.Ytnnpfekgapikfaa.PFnPiles
open Go.RowKit Go.Proofs.YtnnpfekgapikfaaW.PrintWords Go.Proofs.YtnnpfekgapikfaaW.PrintLast Go.Proofs.YtnnpfekgapikfaaW.PrintMore
attribute [local go_sem] max2_int min2_int max_two min_two max_three min_three max_four min_four
set_option linter.unusedVariables false
set_option linter.unusedSimpArgs false
def spec_l4Kept.f (k : Nat) (a0_0 : Int) (l0_1 : List Int) (l0_2 : List Int) : Option (Int × List Int × List Int × Bool) := (spec_l4Pile.f k a0_0 l0_1 l0_2).bind fun t327 => (if t327 = true then (some (a0_0, l0_1, l0_2, true)) else (some (0, ([] : List Int), ([] : List Int), false)))
set_option maxHeartbeats 8000000 in
set_option maxRecDepth 100000 in
theorem spec_l4Kept.calls (k : Nat) (a0_0 : Int) (P0_1_ : Nat → Prop) (u9000_ : Value) (l0_1 : List Int) (P0_2_ : Nat → Prop) (u9001_ : Value) (l0_2 : List Int) (r1 : Int) (r2 : List Int) (r3 : List Int) (r4 : Bool) (w0 w : World) (hB : Below w0.heap.size w0 w) (ho0_1 : Kd.R (Kd.int .i64) 3 w w0.heap.size P0_1_ u9000_ l0_1) (hp0_1_0_2 : ∀ k_, P0_1_ k_ → ¬ P0_2_ k_) (ho0_2 : Kd.R (Kd.int .i64) 3 w w0.heap.size P0_2_ u9001_ l0_2) (hp0_2_0_1 : ∀ k_, P0_2_ k_ → ¬ P0_1_ k_) (h : spec_l4Kept.f k a0_0 l0_1 l0_2 = some (r1, r2, r3, r4)) :
  Calls Try.prog 74 #[.agg #[.int .i64 a0_0, u9000_, u9001_]] w fun e w' => ∃ v1_ v2_ : Value, e = .returned (.tuple #[.agg #[.int .i64 r1, v1_, v2_], .bool r4]) ∧ Kd.R (Kd.int .i64) 3 w' w0.heap.size (fun k_ => ((P0_1_ k_ ∨ P0_2_ k_) ∨ w.heap.size ≤ k_) ∧ some k_ ≠ (v2_ : Value).ownBlock) v1_ r2 ∧ Kd.R (Kd.int .i64) 3 w' w0.heap.size (fun k_ => ((P0_1_ k_ ∨ P0_2_ k_) ∨ w.heap.size ≤ k_) ∧ some k_ ≠ (v1_ : Value).ownBlock) v2_ r3 ∧ Below w0.heap.size w0 w' ∧ Kept w w' (fun k_ => P0_1_ k_ ∨ P0_2_ k_) := by
 have hu27 := Try.underlying27
 have HO0_1 := Aside0.mk (show Kd.R (Kd.int .i64) 3 w w0.heap.size (fun k_ => ((P0_1_ k_ ∨ P0_2_ k_) ∨ w.heap.size ≤ k_) ∧ some k_ ≠ (u9001_ : Value).ownBlock) u9000_ l0_1 from Kd.R_mono ho0_1 (fun k_ hk => ⟨(.inl (.inl hk)), fun e_ => hp0_1_0_2 k_ hk (ho0_2.1 k_ e_.symm)⟩))
 have HO0_2 := Aside0.mk (show Kd.R (Kd.int .i64) 3 w w0.heap.size (fun k_ => ((P0_1_ k_ ∨ P0_2_ k_) ∨ w.heap.size ≤ k_) ∧ some k_ ≠ (u9000_ : Value).ownBlock) u9001_ l0_2 from Kd.R_mono ho0_2 (fun k_ hk => ⟨(.inl (.inr hk)), fun e_ => hp0_2_0_1 k_ hk (ho0_1.1 k_ e_.symm)⟩))
 have HK := Aside0.mk (Kept.refl w (fun k_ => P0_1_ k_ ∨ P0_2_ k_))
 have HW0 := Aside0.mk hB.size
 have HB := Aside0.mk hB
 clear hB
 have H : ((spec_l4Pile.f k a0_0 l0_1 l0_2).bind fun t327 => (if t327 = true then (some (a0_0, l0_1, l0_2, true)) else (some (0, ([] : List Int), ([] : List Int), false)))) = some (r1, r2, r3, r4) := h
 clear h
 replace H := Option.bind_eq_some_iff.mp H
 obtain ⟨t327, A20, H⟩ := H
 replace H : (if t327 = true then (some (a0_0, l0_1, l0_2, true)) else (some (0, ([] : List Int), ([] : List Int), false))) = some (r1, r2, r3, r4) := H
 have A2 := Aside0.mk A20
 clear A20
 by_cases c3 : t327 = true
 ·
  subst c3
  have H1 : (some (a0_0, l0_1, l0_2, true)) = some (r1, r2, r3, r4) := by rw [if_pos rfl] at H; exact H
  clear H
  have H := H1
  clear H1
  simp only [Option.some.injEq, Prod.mk.injEq] at H
  obtain ⟨rfl, rfl, rfl, rfl⟩ := H
  obtain ⟨Ao4, co4, eo4⟩ := Kd.R_slice HO0_1.out
  subst eo4
  obtain ⟨Ao5, co5, eo5⟩ := Kd.R_slice HO0_2.out
  subst eo5
  go_enter Try.func74, Try.ntmps74
  go_wp2_with (first | ((with_reducible refine gate_dst (N := 1) rfl ?_); refine bE 1 #[.int .i64 a0_0, .slice Ao4 l0_1.length co4, .slice Ao5 l0_2.length co5] 27 ?_; intro gb325 hg w6 hbox hb; replace HO0_1 := rB HO0_1 hb; replace HO0_2 := rB HO0_2 hb; have BK325 := Aside0.mk hbox; have GW325 := Aside0.mk ((by rw [hg]; exact (by first | exact HK.out.1 | exact (show Kept w _ (fun k_ => P0_1_ k_ ∨ P0_2_ k_) from by repeat (first | (with_reducible first | exact HK.out | apply Kept.alloc | apply Kept.drewN | apply Kept.drew) | exact HK.out)).1) : w.heap.size ≤ gb325)); replace HK := Aside0.mk (Kept.below (S := (fun k_ => P0_1_ k_ ∨ P0_2_ k_)) (by repeat (first | (with_reducible first | exact HK.out | apply Kept.alloc | apply Kept.drewN | apply Kept.drew) | exact HK.out)) hb); have GE325 := Aside0.mk ((by rw [hg]; exact (below_size (tB HB.out)) : w0.heap.size ≤ gb325)); replace HB := hB HB hb; clear hb hbox hg) | ((with_reducible refine gate_dst (N := 2) rfl ?_); refine bE 2 #[.int .i64 0, .slice none 0 0, .slice none 0 0] 27 ?_; intro gb326 hg w7 hbox hb; replace HO0_1 := rB HO0_1 hb; replace HO0_2 := rB HO0_2 hb; have BK326 := Aside0.mk hbox; have GW326 := Aside0.mk ((by rw [hg]; exact (by first | exact HK.out.1 | exact (show Kept w _ (fun k_ => P0_1_ k_ ∨ P0_2_ k_) from by repeat (first | (with_reducible first | exact HK.out | apply Kept.alloc | apply Kept.drewN | apply Kept.drew | refine Kept.setCell ?_ (.inr GW325.out) _) | exact HK.out)).1) : w.heap.size ≤ gb326)); replace HK := Aside0.mk (Kept.below (S := (fun k_ => P0_1_ k_ ∨ P0_2_ k_)) (by repeat (first | (with_reducible first | exact HK.out | apply Kept.alloc | apply Kept.drewN | apply Kept.drew | refine Kept.setCell ?_ (.inr GW325.out) _) | exact HK.out)) hb); have GE326 := Aside0.mk ((by rw [hg]; exact (below_size (tB HB.out)) : w0.heap.size ≤ gb326)); replace HB := hB HB hb; have NB325_326 := lN BK325 hg; have NB326_325 := gN NB325_326; replace BK325 := bkB BK325 hb; clear hb hbox hg; have hnb8 := NB325_326.out; have hnc8 := NB326_325.out; obtain ⟨hcz9_0, hfz9_0, hcz9_1, hfz9_1, hcz9_2, hfz9_2⟩ := cz3 BK325) | ((with_reducible refine gate_callee (f := 56) rfl ?_); refine goesL_ (some 5) rfl rfl Try.func56 (by kernel_rfl) rfl #[.agg #[.int .i64 a0_0, .slice Ao4 l0_1.length co4, .slice Ao5 l0_2.length co5]] rfl tM ?_; (with_reducible refine (spec_l4Pile.calls k a0_0 _ _ l0_1 _ _ l0_2 true _ ?side1 ?side2 ?side3 ?side4 A2.out).mono ?_); (case side1 => exact rC HO0_1); (case side2 => exact (Kd.R_reads' HO0_1.out).2.1); (case side3 => exact rC HO0_2); (case side4 => exact (Kd.R_reads' HO0_2.out).2.1); rintro e w10 ⟨rfl, hb⟩; refine ⟨_, rfl, ?_⟩; replace HO0_1 := rB HO0_1 hb; replace HO0_2 := rB HO0_2 hb; replace BK325 := bkB BK325 hb; replace BK326 := bkB BK326 hb; replace HK := Aside0.mk (Kept.below (S := (fun k_ => P0_1_ k_ ∨ P0_2_ k_)) (by repeat (first | (with_reducible first | exact HK.out | apply Kept.alloc | apply Kept.drewN | apply Kept.drew | refine Kept.setCell ?_ (.inr GW325.out) _ | refine Kept.setCell ?_ (.inr GW326.out) _) | exact HK.out)) hb); replace HB := hB HB hb; (try clear hb); obtain ⟨hcz11_0, hfz11_0, hcz11_1, hfz11_1, hcz11_2, hfz11_2⟩ := cz3 BK325; obtain ⟨hcz12_0, hfz12_0, hcz12_1, hfz12_1, hcz12_2, hfz12_2⟩ := cz3 BK326))
  refine bodyPost_ret (results_ct rfl _ _ gb326 27 #[.int .i64 a0_0, .slice Ao4 l0_1.length co4, .slice Ao5 l0_2.length co5] (0, 0) _ rfl (by (with_reducible repeat (first | refine blk_drewN ?_ _ | refine blk_drew ?_ | refine blk_alloc ?_ _)); exact bp3 BK326.out) Try.underlying27 rfl (by kernel_rfl)) rfl ?_
  exact ⟨_, _, by first | rfl | (simp [errW_none, errW_some] <;> rfl) | (simp [*, errW_none, errW_some] <;> rfl), by (with_reducible repeat (first | apply Kd.R_alloc | apply Kd.R_drewN | apply Kd.R_drew)); exact Kd.R_mono (Kd.R_far (p := ⟨gb326, 2, none⟩) (Kd.R_far (p := ⟨gb326, 1, none⟩) (Kd.R_far (p := ⟨gb326, 0, none⟩) (Kd.R_types HO0_1.out BK326.out (by decide)) (fun _ hk => hk.2) (.int .i64 a0_0)) (fun _ hk => hk.2) (.slice Ao4 l0_1.length co4)) (fun _ hk => hk.2) (.slice Ao5 l0_2.length co5)) (fun _ hk => ⟨hk.1.1, hk.1.2⟩), by (with_reducible repeat (first | apply Kd.R_alloc | apply Kd.R_drewN | apply Kd.R_drew)); exact Kd.R_mono (Kd.R_far (p := ⟨gb326, 2, none⟩) (Kd.R_far (p := ⟨gb326, 1, none⟩) (Kd.R_far (p := ⟨gb326, 0, none⟩) (Kd.R_types HO0_2.out BK326.out (by decide)) (fun _ hk => hk.2) (.int .i64 a0_0)) (fun _ hk => hk.2) (.slice Ao4 l0_1.length co4)) (fun _ hk => hk.2) (.slice Ao5 l0_2.length co5)) (fun _ hk => ⟨hk.1.1, hk.1.2⟩), tB HB.out, by repeat (first | (with_reducible first | exact HK.out | apply Kept.alloc | apply Kept.drewN | apply Kept.drew | refine Kept.setCell ?_ (.inr GW325.out) _ | refine Kept.setCell ?_ (.inr GW326.out) _) | exact HK.out)⟩
 ·
  replace c3 := Bool.eq_false_iff.mpr c3
  subst c3
  have H1 : (some (0, ([] : List Int), ([] : List Int), false)) = some (r1, r2, r3, r4) := by rw [if_neg (show ¬ (false = true) by decide)] at H; exact H
  clear H
  have H := H1
  clear H1
  simp only [Option.some.injEq, Prod.mk.injEq] at H
  obtain ⟨rfl, rfl, rfl, rfl⟩ := H
  obtain ⟨Ao13, co13, eo13⟩ := Kd.R_slice HO0_1.out
  subst eo13
  obtain ⟨Ao14, co14, eo14⟩ := Kd.R_slice HO0_2.out
  subst eo14
  go_enter Try.func74, Try.ntmps74
  go_wp2_with (first | ((with_reducible refine gate_dst (N := 1) rfl ?_); refine bE 1 #[.int .i64 a0_0, .slice Ao13 l0_1.length co13, .slice Ao14 l0_2.length co14] 27 ?_; intro gb325 hg w15 hbox hb; replace HO0_1 := rB HO0_1 hb; replace HO0_2 := rB HO0_2 hb; have BK325 := Aside0.mk hbox; have GW325 := Aside0.mk ((by rw [hg]; exact (by first | exact HK.out.1 | exact (show Kept w _ (fun k_ => P0_1_ k_ ∨ P0_2_ k_) from by repeat (first | (with_reducible first | exact HK.out | apply Kept.alloc | apply Kept.drewN | apply Kept.drew) | exact HK.out)).1) : w.heap.size ≤ gb325)); replace HK := Aside0.mk (Kept.below (S := (fun k_ => P0_1_ k_ ∨ P0_2_ k_)) (by repeat (first | (with_reducible first | exact HK.out | apply Kept.alloc | apply Kept.drewN | apply Kept.drew) | exact HK.out)) hb); have GE325 := Aside0.mk ((by rw [hg]; exact (below_size (tB HB.out)) : w0.heap.size ≤ gb325)); replace HB := hB HB hb; clear hb hbox hg) | ((with_reducible refine gate_dst (N := 2) rfl ?_); refine bE 2 #[.int .i64 0, .slice none 0 0, .slice none 0 0] 27 ?_; intro gb326 hg w16 hbox hb; replace HO0_1 := rB HO0_1 hb; replace HO0_2 := rB HO0_2 hb; have BK326 := Aside0.mk hbox; have GW326 := Aside0.mk ((by rw [hg]; exact (by first | exact HK.out.1 | exact (show Kept w _ (fun k_ => P0_1_ k_ ∨ P0_2_ k_) from by repeat (first | (with_reducible first | exact HK.out | apply Kept.alloc | apply Kept.drewN | apply Kept.drew | refine Kept.setCell ?_ (.inr GW325.out) _) | exact HK.out)).1) : w.heap.size ≤ gb326)); replace HK := Aside0.mk (Kept.below (S := (fun k_ => P0_1_ k_ ∨ P0_2_ k_)) (by repeat (first | (with_reducible first | exact HK.out | apply Kept.alloc | apply Kept.drewN | apply Kept.drew | refine Kept.setCell ?_ (.inr GW325.out) _) | exact HK.out)) hb); have GE326 := Aside0.mk ((by rw [hg]; exact (below_size (tB HB.out)) : w0.heap.size ≤ gb326)); replace HB := hB HB hb; have NB325_326 := lN BK325 hg; have NB326_325 := gN NB325_326; replace BK325 := bkB BK325 hb; clear hb hbox hg; have hnb17 := NB325_326.out; have hnc17 := NB326_325.out; obtain ⟨hcz18_0, hfz18_0, hcz18_1, hfz18_1, hcz18_2, hfz18_2⟩ := cz3 BK325) | ((with_reducible refine gate_callee (f := 56) rfl ?_); refine goesL_ (some 5) rfl rfl Try.func56 (by kernel_rfl) rfl #[.agg #[.int .i64 a0_0, .slice Ao13 l0_1.length co13, .slice Ao14 l0_2.length co14]] rfl tM ?_; (with_reducible refine (spec_l4Pile.calls k a0_0 _ _ l0_1 _ _ l0_2 false _ ?side1 ?side2 ?side3 ?side4 A2.out).mono ?_); (case side1 => exact rC HO0_1); (case side2 => exact (Kd.R_reads' HO0_1.out).2.1); (case side3 => exact rC HO0_2); (case side4 => exact (Kd.R_reads' HO0_2.out).2.1); rintro e w19 ⟨rfl, hb⟩; refine ⟨_, rfl, ?_⟩; replace HO0_1 := rB HO0_1 hb; replace HO0_2 := rB HO0_2 hb; replace BK325 := bkB BK325 hb; replace BK326 := bkB BK326 hb; replace HK := Aside0.mk (Kept.below (S := (fun k_ => P0_1_ k_ ∨ P0_2_ k_)) (by repeat (first | (with_reducible first | exact HK.out | apply Kept.alloc | apply Kept.drewN | apply Kept.drew | refine Kept.setCell ?_ (.inr GW325.out) _ | refine Kept.setCell ?_ (.inr GW326.out) _) | exact HK.out)) hb); replace HB := hB HB hb; (try clear hb); obtain ⟨hcz20_0, hfz20_0, hcz20_1, hfz20_1, hcz20_2, hfz20_2⟩ := cz3 BK326))
  refine bodyPost_ret (results_ct rfl _ _ gb326 27 #[.int .i64 0, .slice none 0 0, .slice none 0 0] (0, 0) _ rfl (by (with_reducible repeat (first | refine blk_drewN ?_ _ | refine blk_drew ?_ | refine blk_alloc ?_ _)); exact bp3 BK326.out) Try.underlying27 rfl (by kernel_rfl)) rfl ?_
  exact ⟨_, _, by first | rfl | (simp [errW_none, errW_some] <;> rfl) | (simp [*, errW_none, errW_some] <;> rfl), by first | exact Kd.R_nil _ _ _ _ _ | exact Kd.N_nil _ _ _ _ _ | exact Kd.V_nil _ _ _ _ _ | exact Kd.Q_nil _ _ _ _ _ | exact Kd.S_nil _ _ _ _ _, by first | exact Kd.R_nil _ _ _ _ _ | exact Kd.N_nil _ _ _ _ _ | exact Kd.V_nil _ _ _ _ _ | exact Kd.Q_nil _ _ _ _ _ | exact Kd.S_nil _ _ _ _ _, tB HB.out, by repeat (first | (with_reducible first | exact HK.out | apply Kept.alloc | apply Kept.drewN | apply Kept.drew | refine Kept.setCell ?_ (.inr GW325.out) _ | refine Kept.setCell ?_ (.inr GW326.out) _) | exact HK.out)⟩
def spec_MirrorPile.l0 : Nat → Int → Int → List Int → List Int → Int → List Int → List Int → Option (Int × List Int × List Int × Bool)
 | 0, _, _, _, _, _, _, _ => none
 | k + 1, x5, x329000, x329001, x329002, x338000, x338001, x338002 => if x5 < (x329001.length : Int) then (if 0 < (x329001.length : Int) then (if 0 ≤ x5 then (if x338001.length < 17592186044416 then (spec_MirrorPile.l0 k (wrap64 (x5 + 1)) x329000 x329001 x329002 x338000 (x338001 ++ [wrap64 ((wrap64 (2 * (rd x329001 0))) - (rd x329001 x5))]) x338002) else (none)) else (none)) else (none)) else ((spec_l4Kept.f k x338000 x338001 x338002).bind fun bt343 => (some (bt343.1, bt343.2.1, bt343.2.2.1, bt343.2.2.2)))
def spec_MirrorPile.f (k : Nat) (a0_0 : Int) (l0_1 : List Int) (l0_2 : List Int) : Option (Int × List Int × List Int × Bool) := (spec_l4Pile.f k a0_0 l0_1 l0_2).bind fun t330 => (if t330 = true then ((spec_l1Own.f l0_2).bind fun t334 => (spec_MirrorPile.l0 k 0 a0_0 l0_1 l0_2 a0_0 (([] : List Int)) t334)) else (some (0, ([] : List Int), ([] : List Int), false)))
def spec_MirrorPile.T3 : Bool × List (List Nat × List Nat) := (true, [([], []), ([0], [0]), ([], []), ([], []), ([3], [3]), ([4], [4]), ([1, 2, 5], [1, 2, 5]), ([], []), ([7, 6, 5, 0, 1, 2, 3, 4, 5, 6, 7], [6, 7])])
def spec_MirrorPile.B3 : List Nat := [0, 1, 0, 0, 8, 24, 63, 0, 255]
theorem spec_MirrorPile.tab3 : rtab .any (opsOf Try.f24 3) = spec_MirrorPile.T3 := by kernel_rfl
theorem spec_MirrorPile.bits3 : waitsOk spec_MirrorPile.T3.2 spec_MirrorPile.B3 = true := by kernel_rfl
def spec_MirrorPile.T7 : Bool × List (List Nat × List Nat) := (true, [([], []), ([0], [0]), ([], []), ([2], [2]), ([3], [3]), ([4], [4]), ([5], [5]), ([], []), ([7], [7]), ([], []), ([8, 9], [8, 9]), ([10], [10]), ([6, 11], [6, 11]), ([12], [12]), ([1, 13], [1, 13]), ([0, 1, 2, 3, 4, 5, 6, 7, 8, 9, 10, 11, 12, 13, 14], []), ([15, 14, 14, 0, 1, 2, 3, 4, 5, 6, 7, 8, 9, 10, 11, 12, 13, 14], [14, 15])])
def spec_MirrorPile.B7 : List Nat := [0, 1, 0, 4, 12, 28, 60, 0, 128, 0, 896, 1920, 4092, 8188, 16383, 32767, 65535]
theorem spec_MirrorPile.tab7 : rtab .any (opsOf Try.f24 7) = spec_MirrorPile.T7 := by kernel_rfl
theorem spec_MirrorPile.bits7 : waitsOk spec_MirrorPile.T7.2 spec_MirrorPile.B7 = true := by kernel_rfl
set_option maxHeartbeats 8000000 in
set_option maxRecDepth 100000 in
theorem spec_MirrorPile.calls (k : Nat) (a0_0 : Int) (A0_1 : Option Addr) (c0_1 : Nat) (l0_1 : List Int) (A0_2 : Option Addr) (c0_2 : Nat) (l0_2 : List Int) (r1 : Int) (r2 : List Int) (r3 : List Int) (r4 : Bool) (w : World) (hr0_1 : Kd.C (Kd.int .i64) w A0_1 l0_1.length l0_1) (hc0_1 : l0_1.length ≤ c0_1) (hr0_2 : Kd.C (Kd.int .i64) w A0_2 l0_2.length l0_2) (hc0_2 : l0_2.length ≤ c0_2) (h : spec_MirrorPile.f k a0_0 l0_1 l0_2 = some (r1, r2, r3, r4)) :
  Calls Try.prog 24 #[.agg #[.int .i64 a0_0, .slice A0_1 l0_1.length c0_1, .slice A0_2 l0_2.length c0_2]] w fun e w' => ∃ v1_ v2_ : Value, e = .returned (.tuple #[.agg #[.int .i64 r1, v1_, v2_], .bool r4]) ∧ Kd.R (Kd.int .i64) 3 w' w.heap.size (fun k_ => some k_ ≠ (v2_ : Value).ownBlock) v1_ r2 ∧ Kd.R (Kd.int .i64) 3 w' w.heap.size (fun k_ => some k_ ≠ (v1_ : Value).ownBlock) v2_ r3 ∧ Below w.heap.size w w' := by
 have hu27 := Try.underlying27
 have HR0_1 := Aside0.mk hr0_1
 have HC0_1 := Aside0.mk hc0_1
 clear hr0_1 hc0_1
 have HR0_2 := Aside0.mk hr0_2
 have HC0_2 := Aside0.mk hc0_2
 clear hr0_2 hc0_2
 have HB := Aside0.mk (Below.refl w.heap.size w)
 have H : ((spec_l4Pile.f k a0_0 l0_1 l0_2).bind fun t330 => (if t330 = true then ((spec_l1Own.f l0_2).bind fun t334 => (spec_MirrorPile.l0 k 0 a0_0 l0_1 l0_2 a0_0 (([] : List Int)) t334)) else (some (0, ([] : List Int), ([] : List Int), false)))) = some (r1, r2, r3, r4) := h
 clear h
 replace H := Option.bind_eq_some_iff.mp H
 obtain ⟨t330, A20, H⟩ := H
 replace H : (if t330 = true then ((spec_l1Own.f l0_2).bind fun t334 => (spec_MirrorPile.l0 k 0 a0_0 l0_1 l0_2 a0_0 (([] : List Int)) t334)) else (some (0, ([] : List Int), ([] : List Int), false))) = some (r1, r2, r3, r4) := H
 have A2 := Aside0.mk A20
 clear A20
 by_cases c3 : t330 = true
 ·
  subst c3
  have H1 : ((spec_l1Own.f l0_2).bind fun t334 => (spec_MirrorPile.l0 k 0 a0_0 l0_1 l0_2 a0_0 (([] : List Int)) t334)) = some (r1, r2, r3, r4) := by rw [if_pos rfl] at H; exact H
  clear H
  have H := H1
  clear H1
  obtain ⟨y331, hy331⟩ : ∃ y_ : List Int, y_ = (([] : List Int)) := ⟨_, rfl⟩
  replace H : ((spec_l1Own.f l0_2).bind fun t334 => (spec_MirrorPile.l0 k 0 a0_0 l0_1 l0_2 a0_0 y331 t334)) = some (r1, r2, r3, r4) := by first | (rw [hy331]; with_reducible exact H) | (have H2_ := (Option.bind_some _ _).symm.trans H; rw [hy331]; with_reducible exact H2_) | (have H2_ := (Option.bind_some _ _).symm.trans H; with_reducible exact H2_) | with_reducible exact H | (rw [hy331]; exact H) | exact H
  have Ny331 := Aside0.mk hy331
  clear hy331
  replace H := Option.bind_eq_some_iff.mp H
  obtain ⟨t334, A40, H⟩ := H
  replace H : (spec_MirrorPile.l0 k 0 a0_0 l0_1 l0_2 a0_0 y331 t334) = some (r1, r2, r3, r4) := H
  have A4 := Aside0.mk A40
  clear A40
  have H' := Aside0.mk H
  clear H
  go_enter Try.func24, Try.ntmps24
  try go_wp2_with (first | ((with_reducible refine gate_dst (N := 1) rfl ?_); refine bE 1 #[.int .i64 a0_0, .slice A0_1 l0_1.length c0_1, .slice A0_2 l0_2.length c0_2] 27 ?_; intro gb328 hg w5 hbox hb; have BK328 := Aside0.mk hbox; have GW328 := sB HB hg; have GE328 := GW328; replace HB := hB HB hb; clear hb hbox hg) | ((with_reducible refine gate_dst (N := 2) rfl ?_); refine bE 2 #[.int .i64 0, .slice none 0 0, .slice none 0 0] 27 ?_; intro gb329 hg w6 hbox hb; have BK329 := Aside0.mk hbox; have GW329 := sB HB hg; have GE329 := GW329; replace HB := hB HB hb; have NB328_329 := lN BK328 hg; have NB329_328 := gN NB328_329; replace BK328 := bkB BK328 hb; clear hb hbox hg; have hnb7 := NB328_329.out; have hnc7 := NB329_328.out; obtain ⟨hcz8_0, hfz8_0, hcz8_1, hfz8_1, hcz8_2, hfz8_2⟩ := cz3 BK328) | ((with_reducible refine gate_callee (f := 56) rfl ?_); refine goesL_ (some 7) rfl rfl Try.func56 (by kernel_rfl) rfl #[.agg #[.int .i64 a0_0, .slice A0_1 l0_1.length c0_1, .slice A0_2 l0_2.length c0_2]] rfl tM ?_; (with_reducible refine (spec_l4Pile.calls k a0_0 _ _ l0_1 _ _ l0_2 true _ ?side1 ?side2 ?side3 ?side4 A2.out).mono ?_); (case side1 => exact cB HR0_1 HB); (case side2 => exact HC0_1.out); (case side3 => exact cB HR0_2 HB); (case side4 => exact HC0_2.out); rintro e w9 ⟨rfl, hb⟩; refine ⟨_, rfl, ?_⟩; replace BK328 := bkB BK328 hb; replace BK329 := bkB BK329 hb; replace HB := hB HB hb; (try clear hb)))
  replace BK328 := Aside0.mk (blk_drew BK328.out)
  replace BK329 := Aside0.mk (blk_drew BK329.out)
  replace HB := Aside0.mk (below_drew1 HB.out)
  refine start_ (n := 9) (S := fun w' => w'.cell? ⟨gb328, 0, none⟩ = some (.int .i64 a0_0) ∧ w'.cell? ⟨gb328, 1, none⟩ = some (.slice A0_1 l0_1.length c0_1) ∧ w'.cell? ⟨gb328, 2, none⟩ = some (.slice A0_2 l0_2.length c0_2)) (ds := []) #[n_, n_, n_, n_, n_, n_, n_, n_, n_] (by kernel_rfl) rfl rfl ⟨(blk_cell BK328.out 0).trans rfl, (blk_cell BK328.out 1).trans rfl, (blk_cell BK328.out 2).trans rfl⟩ (fun hHeld => ?_); refine with_tabW spec_MirrorPile.tab3 spec_MirrorPile.bits3 (fun HT_ HW_ => ?_)
  generalize w9.drew = w10 at BK328 BK329 HB hHeld ⊢
  refine pu 0 (some 10) #[y_, n_, n_, n_, n_, n_, n_, n_, n_] (any_of HT_.out (by kernel_rfl)) ?_
  refine pu 3 (some 13) #[y_, n_, n_, y_, n_, n_, n_, n_, n_] (any_of HT_.out (by kernel_rfl)) ?_
  refine tk 1 (some 11) #[y_, y_, n_, y_, n_, n_, n_, n_, n_] rfl (take_ofW HT_.out HW_.out (by kernel_rfl)) hHeld (Or.inl ⟨by rfl, by rintro w' ⟨s0, s1, s2⟩; go_simp; with_reducible rfl⟩) ?_
  refine tk 4 (some 14) #[y_, y_, n_, y_, y_, n_, n_, n_, n_] rfl (take_ofW HT_.out HW_.out (by kernel_rfl)) hHeld (Or.inl ⟨by rfl, by rintro w' ⟨s0, s1, s2⟩; go_simp; with_reducible rfl⟩) ?_
  refine join_ (σ := Value × Value × Nat) 1 #[y_, y_, y_, y_, y_, y_, y_, y_, n_] (fun s_ => [(12, s_.1), (15, s_.2.1), (4, .pointer (some ⟨s_.2.2, 0, none⟩)), (16, .agg #[.int .i64 a0_0, s_.1, s_.2.1])]) (fun s_ w' => (w'.cell? ⟨gb328, 0, none⟩ = some (.int .i64 a0_0) ∧ w'.cell? ⟨gb328, 1, none⟩ = some (.slice A0_1 l0_1.length c0_1) ∧ w'.cell? ⟨gb328, 2, none⟩ = some (.slice A0_2 l0_2.length c0_2)) ∧ (Kd.R (Kd.int .i64) 3 w' w.heap.size (fun k_ => some k_ ≠ (s_.2.1 : Value).ownBlock) s_.1 y331) ∧ (Kd.R (Kd.int .i64) 3 w' w.heap.size (fun k_ => some k_ ≠ (s_.1 : Value).ownBlock) s_.2.1 t334) ∧ (w'.heap[gb328]? = some (.cells #[.int .i64 a0_0, .slice A0_1 l0_1.length c0_1, .slice A0_2 l0_2.length c0_2] 27 (0, 0))) ∧ (w'.heap[gb329]? = some (.cells #[.int .i64 0, .slice none 0 0, .slice none 0 0] 27 (0, 0))) ∧ (w'.heap[s_.2.2]? = some (.cells #[.int .i64 0, .slice none 0 0, .slice none 0 0] 27 (0, 0))) ∧ (w.heap.size ≤ s_.2.2) ∧ (w.heap.size ≤ s_.2.2) ∧ (gb328 ≠ s_.2.2) ∧ (s_.2.2 ≠ gb328) ∧ (gb329 ≠ s_.2.2) ∧ (s_.2.2 ≠ gb329) ∧ (Below w.heap.size w w')) ?_ ?_
  rotate_left
  ·
   intro hJ2_5_7
   refine join_ (σ := Value × Value) 2 #[y_, y_, y_, y_, y_, y_, y_, n_, n_] (fun s_ => [(12, s_.1), (15, s_.2), (16, .agg #[.int .i64 a0_0, s_.1, s_.2])]) (fun s_ w' => (w'.cell? ⟨gb328, 0, none⟩ = some (.int .i64 a0_0) ∧ w'.cell? ⟨gb328, 1, none⟩ = some (.slice A0_1 l0_1.length c0_1) ∧ w'.cell? ⟨gb328, 2, none⟩ = some (.slice A0_2 l0_2.length c0_2)) ∧ (Kd.R (Kd.int .i64) 3 w' w.heap.size (fun k_ => some k_ ≠ (s_.2 : Value).ownBlock) s_.1 y331) ∧ (Kd.R (Kd.int .i64) 3 w' w.heap.size (fun k_ => some k_ ≠ (s_.1 : Value).ownBlock) s_.2 t334) ∧ (w'.heap[gb328]? = some (.cells #[.int .i64 a0_0, .slice A0_1 l0_1.length c0_1, .slice A0_2 l0_2.length c0_2] 27 (0, 0))) ∧ (w'.heap[gb329]? = some (.cells #[.int .i64 0, .slice none 0 0, .slice none 0 0] 27 (0, 0))) ∧ (Below w.heap.size w w')) ?_ ?_
   rotate_left
   ·
    intro hJ2_5
    refine join_ (σ := Value × Nat) 3 #[y_, y_, y_, y_, y_, n_, n_, y_, n_] (fun s_ => [(12, s_.1), (4, .pointer (some ⟨s_.2, 0, none⟩))]) (fun s_ w' => (w'.cell? ⟨gb328, 0, none⟩ = some (.int .i64 a0_0) ∧ w'.cell? ⟨gb328, 1, none⟩ = some (.slice A0_1 l0_1.length c0_1) ∧ w'.cell? ⟨gb328, 2, none⟩ = some (.slice A0_2 l0_2.length c0_2)) ∧ (Kd.R (Kd.int .i64) 3 w' w.heap.size (fun _ => True) s_.1 y331) ∧ (w'.heap[gb328]? = some (.cells #[.int .i64 a0_0, .slice A0_1 l0_1.length c0_1, .slice A0_2 l0_2.length c0_2] 27 (0, 0))) ∧ (w'.heap[gb329]? = some (.cells #[.int .i64 0, .slice none 0 0, .slice none 0 0] 27 (0, 0))) ∧ (w'.heap[s_.2]? = some (.cells #[.int .i64 0, .slice none 0 0, .slice none 0 0] 27 (0, 0))) ∧ (w.heap.size ≤ s_.2) ∧ (w.heap.size ≤ s_.2) ∧ (gb328 ≠ s_.2) ∧ (s_.2 ≠ gb328) ∧ (gb329 ≠ s_.2) ∧ (s_.2 ≠ gb329) ∧ (Below w.heap.size w w')) ?_ ?_
    rotate_left
    ·
     intro hJ2_7
     refine join_ (σ := Value × Nat) 3 #[y_, y_, n_, y_, y_, y_, n_, y_, n_] (fun s_ => [(15, s_.1), (4, .pointer (some ⟨s_.2, 0, none⟩))]) (fun s_ w' => (w'.cell? ⟨gb328, 0, none⟩ = some (.int .i64 a0_0) ∧ w'.cell? ⟨gb328, 1, none⟩ = some (.slice A0_1 l0_1.length c0_1) ∧ w'.cell? ⟨gb328, 2, none⟩ = some (.slice A0_2 l0_2.length c0_2)) ∧ (Kd.R (Kd.int .i64) 3 w' w.heap.size (fun _ => True) s_.1 t334) ∧ (w'.heap[gb328]? = some (.cells #[.int .i64 a0_0, .slice A0_1 l0_1.length c0_1, .slice A0_2 l0_2.length c0_2] 27 (0, 0))) ∧ (w'.heap[gb329]? = some (.cells #[.int .i64 0, .slice none 0 0, .slice none 0 0] 27 (0, 0))) ∧ (w'.heap[s_.2]? = some (.cells #[.int .i64 0, .slice none 0 0, .slice none 0 0] 27 (0, 0))) ∧ (w.heap.size ≤ s_.2) ∧ (w.heap.size ≤ s_.2) ∧ (gb328 ≠ s_.2) ∧ (s_.2 ≠ gb328) ∧ (gb329 ≠ s_.2) ∧ (s_.2 ≠ gb329) ∧ (Below w.heap.size w w')) ?_ ?_
     rotate_left
     ·
      intro hJ5_7
      refine join_ (σ := Value) 4 #[y_, y_, y_, y_, y_, n_, n_, n_, n_] (fun s_ => [(12, s_)]) (fun s_ w' => (w'.cell? ⟨gb328, 0, none⟩ = some (.int .i64 a0_0) ∧ w'.cell? ⟨gb328, 1, none⟩ = some (.slice A0_1 l0_1.length c0_1) ∧ w'.cell? ⟨gb328, 2, none⟩ = some (.slice A0_2 l0_2.length c0_2)) ∧ (Kd.R (Kd.int .i64) 3 w' w.heap.size (fun _ => True) s_ y331) ∧ (w'.heap[gb328]? = some (.cells #[.int .i64 a0_0, .slice A0_1 l0_1.length c0_1, .slice A0_2 l0_2.length c0_2] 27 (0, 0))) ∧ (w'.heap[gb329]? = some (.cells #[.int .i64 0, .slice none 0 0, .slice none 0 0] 27 (0, 0))) ∧ (Below w.heap.size w w')) ?_ ?_
      rotate_left
      ·
       intro hJ2
       refine join_ (σ := Value) 4 #[y_, y_, n_, y_, y_, y_, n_, n_, n_] (fun s_ => [(15, s_)]) (fun s_ w' => (w'.cell? ⟨gb328, 0, none⟩ = some (.int .i64 a0_0) ∧ w'.cell? ⟨gb328, 1, none⟩ = some (.slice A0_1 l0_1.length c0_1) ∧ w'.cell? ⟨gb328, 2, none⟩ = some (.slice A0_2 l0_2.length c0_2)) ∧ (Kd.R (Kd.int .i64) 3 w' w.heap.size (fun _ => True) s_ t334) ∧ (w'.heap[gb328]? = some (.cells #[.int .i64 a0_0, .slice A0_1 l0_1.length c0_1, .slice A0_2 l0_2.length c0_2] 27 (0, 0))) ∧ (w'.heap[gb329]? = some (.cells #[.int .i64 0, .slice none 0 0, .slice none 0 0] 27 (0, 0))) ∧ (Below w.heap.size w w')) ?_ ?_
       rotate_left
       ·
        intro hJ5
        refine join_ (σ := Nat) 4 #[y_, y_, n_, y_, y_, n_, n_, y_, n_] (fun s_ => [(4, .pointer (some ⟨s_, 0, none⟩))]) (fun s_ w' => (w'.cell? ⟨gb328, 0, none⟩ = some (.int .i64 a0_0) ∧ w'.cell? ⟨gb328, 1, none⟩ = some (.slice A0_1 l0_1.length c0_1) ∧ w'.cell? ⟨gb328, 2, none⟩ = some (.slice A0_2 l0_2.length c0_2)) ∧ (w'.heap[gb328]? = some (.cells #[.int .i64 a0_0, .slice A0_1 l0_1.length c0_1, .slice A0_2 l0_2.length c0_2] 27 (0, 0))) ∧ (w'.heap[gb329]? = some (.cells #[.int .i64 0, .slice none 0 0, .slice none 0 0] 27 (0, 0))) ∧ (w'.heap[s_]? = some (.cells #[.int .i64 0, .slice none 0 0, .slice none 0 0] 27 (0, 0))) ∧ (w.heap.size ≤ s_) ∧ (w.heap.size ≤ s_) ∧ (gb328 ≠ s_) ∧ (s_ ≠ gb328) ∧ (gb329 ≠ s_) ∧ (s_ ≠ gb329) ∧ (Below w.heap.size w w')) ?_ ?_
        rotate_left
        ·
         intro hJ7
         refine three_ (i := 2) (j := 5) (k := 7) (Ni := some 12) (Nj := some 15) (Nk := some 4) #[y_, y_, y_, y_, y_, n_, n_, n_, n_] #[y_, y_, n_, y_, y_, y_, n_, n_, n_] #[y_, y_, n_, y_, y_, n_, n_, y_, n_] rfl rfl rfl rfl rfl rfl (three_of HT_.out (by kernel_rfl)) (by decide) (by decide) (by decide) (fun K hK => ?_) (fun K hK => ?_) (fun K hK => ?_)
         ·
          skip
          refine Kd.R_lit_step (Kd.int .i64) _ 3 ?hg (N := 12) ?hd (xs := ([] : List Int)) (inner := []) (ok := fun _ => True) (okp := fun _ => True) ?hr ?hp (fun _ hk => hk) trivial (Below.refl _ _) (Nat.le_refl _) (by simp) ?_; (case hd => rfl); (case hg => rfl); (case hr => first | (go_simp; done) | (go_simp; rfl)); (case hp => exact (Reps.none _ _))
          intro v332 w11 ho12 hb hg_ hnew_
          clear hg_ hnew_
          (first | rw [← Ny331.out] at ho12 | (simp only [Int.reduceToNat] at ho12; rw [← Ny331.out] at ho12))
          have HO333 := Aside0.mk (Kd.R_lower ho12 (below_size (tB HB.out)))
          replace BK328 := bkB BK328 hb
          replace BK329 := bkB BK329 hb
          replace HB := hB HB hb
          clear hb ho12
          refine hK.out _ _ ⟨(blk_cell BK328.out 0).trans rfl, (blk_cell BK328.out 1).trans rfl, (blk_cell BK328.out 2).trans rfl⟩ (fun hHeld => ?_)
          clear hK K
          refine norm_ (a' := ?_) ?_ ?_
          rotate_left
          ·
           show Act.put _ (some 12) _ = _
           simp only [Act.put, List.setIfInBounds_toArray, List.set_cons_zero, List.set_cons_succ, i64_w, i32_w]
           rfl
          exact norm_ (by first | (simp only [putAll, Act.put, List.setIfInBounds_toArray, List.set_cons_zero, List.set_cons_succ]; done) | (simp only [putAll, Act.put, List.setIfInBounds_toArray, List.set_cons_zero, List.set_cons_succ]; rfl)) (hJ2 (_) _ ⟨hHeld, (tR HO333.out), (tK BK328.out), (tK BK329.out), (tB HB.out)⟩)
         ·
          skip
          refine goes_ Try.func73 (by kernel_rfl) rfl #[.slice A0_2 l0_2.length c0_2] (by rfl) rfl rfl tM ?_
          with_reducible refine (spec_l1Own.calls _ _ l0_2 t334 _ ?side1 ?side2 A4.out).mono ?_
          (case side1 => exact cB HR0_2 HB)
          (case side2 => exact HC0_2.out)
          rintro e w11 ⟨v335, rfl, ho0, hb⟩
          refine ⟨_, rfl, ?_⟩
          have HO336 := Aside0.mk (Kd.R_lower ho0 (below_size (tB HB.out)))
          replace BK328 := bkB BK328 hb
          replace BK329 := bkB BK329 hb
          replace HB := hB HB hb
          (try clear hb); (try clear hb2); (try clear hk); (try clear hi); (try clear ho0)
          refine hK.out _ _ ⟨(blk_cell BK328.out 0).trans rfl, (blk_cell BK328.out 1).trans rfl, (blk_cell BK328.out 2).trans rfl⟩ (fun hHeld => ?_)
          clear hK K
          refine norm_ (a' := ?_) ?_ ?_
          rotate_left
          ·
           show Act.put _ (some 15) _ = _
           simp only [Act.put, List.setIfInBounds_toArray, List.set_cons_zero, List.set_cons_succ, i64_w, i32_w]
           rfl
          exact norm_ (by first | (simp only [putAll, Act.put, List.setIfInBounds_toArray, List.set_cons_zero, List.set_cons_succ]; done) | (simp only [putAll, Act.put, List.setIfInBounds_toArray, List.set_cons_zero, List.set_cons_succ]; rfl)) (hJ5 (_) _ ⟨hHeld, (tR HO336.out), (tK BK328.out), (tK BK329.out), (tB HB.out)⟩)
         ·
          skip
          refine box_step ?hg (N := 4) ?hd (cs := #[.int .i64 0, .slice none 0 0, .slice none 0 0]) (t := 27) ?hr ?_; (case hd => rfl); (case hg => rfl); (case hr => first | (go_simp; done) | (go_simp; rfl))
          intro gb337 hg w11 hbox hb
          have BK337 := Aside0.mk hbox
          have GW337 := Aside0.mk (bS HB.out hg)
          have GE337 := Aside0.mk (bS HB.out hg)
          replace HB := hB HB hb
          have NB328_337 := Aside0.mk (nL BK328.out hg)
          have NB337_328 := Aside0.mk (nG BK328.out hg)
          replace BK328 := bkB BK328 hb
          have NB329_337 := Aside0.mk (nL BK329.out hg)
          have NB337_329 := Aside0.mk (nG BK329.out hg)
          replace BK329 := bkB BK329 hb
          clear hb hbox hg
          refine hK.out _ _ ⟨(blk_cell BK328.out 0).trans rfl, (blk_cell BK328.out 1).trans rfl, (blk_cell BK328.out 2).trans rfl⟩ (fun hHeld => ?_)
          clear hK K
          refine norm_ (a' := ?_) ?_ ?_
          rotate_left
          ·
           show Act.put _ (some 4) _ = _
           simp only [Act.put, List.setIfInBounds_toArray, List.set_cons_zero, List.set_cons_succ, i64_w, i32_w]
           rfl
          exact norm_ (by first | (simp only [putAll, Act.put, List.setIfInBounds_toArray, List.set_cons_zero, List.set_cons_succ]; done) | (simp only [putAll, Act.put, List.setIfInBounds_toArray, List.set_cons_zero, List.set_cons_succ]; rfl)) (hJ7 (gb337) _ ⟨hHeld, (tK BK328.out), (tK BK329.out), (tK BK337.out), GW337.out, GE337.out, NB328_337.out, NB337_328.out, NB329_337.out, NB337_329.out, (tB HB.out)⟩)
        ·
         skip
         rintro gb337 w12 ⟨hS_, h0_, h1_, h2_, h3_, h4_, h5_, h6_, h7_, h8_, h9_⟩
         have n0_ : Aside0 (w12.heap[gb328]? = some (.cells #[.int .i64 a0_0, .slice A0_1 l0_1.length c0_1, .slice A0_2 l0_2.length c0_2] 27 (0, 0))) := ⟨h0_⟩
         have n1_ : Aside0 (w12.heap[gb329]? = some (.cells #[.int .i64 0, .slice none 0 0, .slice none 0 0] 27 (0, 0))) := ⟨h1_⟩
         have n2_ : Aside0 (w12.heap[gb337]? = some (.cells #[.int .i64 0, .slice none 0 0, .slice none 0 0] 27 (0, 0))) := ⟨h2_⟩
         have n3_ : Aside0 (w.heap.size ≤ gb337) := ⟨h3_⟩
         have n4_ : Aside0 (w.heap.size ≤ gb337) := ⟨h4_⟩
         have n5_ : Aside0 (gb328 ≠ gb337) := ⟨h5_⟩
         have n6_ : Aside0 (gb337 ≠ gb328) := ⟨h6_⟩
         have n7_ : Aside0 (gb329 ≠ gb337) := ⟨h7_⟩
         have n8_ : Aside0 (gb337 ≠ gb329) := ⟨h8_⟩
         have n9_ : Aside0 (Below w.heap.size w w12) := ⟨h9_⟩
         clear BK328
         clear BK329
         clear HB
         clear h0_ h1_ h2_ h3_ h4_ h5_ h6_ h7_ h8_ h9_
         have BK328 := n0_
         have BK329 := n1_
         have BK337 := n2_
         have GW337 := n3_
         have GE337 := n4_
         have NB328_337 := n5_
         have NB337_328 := n6_
         have NB329_337 := n7_
         have NB337_329 := n8_
         have HB := n9_
         clear n0_ n1_ n2_ n3_ n4_ n5_ n6_ n7_ n8_ n9_
         have hHeld : w12.cell? ⟨gb328, 0, none⟩ = some (.int .i64 a0_0) ∧ w12.cell? ⟨gb328, 1, none⟩ = some (.slice A0_1 l0_1.length c0_1) ∧ w12.cell? ⟨gb328, 2, none⟩ = some (.slice A0_2 l0_2.length c0_2) := hS_
         refine norm_ (a' := ?_) ?_ ?_
         rotate_left
         ·
          simp only [putAll, Act.put, List.setIfInBounds_toArray, List.set_cons_zero, List.set_cons_succ]
          rfl
         refine two_ (i := 2) (j := 5) (Ni := some 12) (Nj := some 15) #[y_, y_, y_, y_, y_, n_, n_, y_, n_] #[y_, y_, n_, y_, y_, y_, n_, y_, n_] rfl rfl rfl rfl (two_of HT_.out (by kernel_rfl)) (by decide) (by decide) (fun K hK => ?_) (fun K hK => ?_)
         ·
          skip
          refine Kd.R_lit_step (Kd.int .i64) _ 3 ?hg (N := 12) ?hd (xs := ([] : List Int)) (inner := []) (ok := fun _ => True) (okp := fun _ => True) ?hr ?hp (fun _ hk => hk) trivial (Below.refl _ _) (Nat.le_refl _) (by simp) ?_; (case hd => rfl); (case hg => rfl); (case hr => first | (go_simp; done) | (go_simp; rfl)); (case hp => exact (Reps.none _ _))
          intro v332 w13 ho14 hb hg_ hnew_
          clear hg_ hnew_
          (first | rw [← Ny331.out] at ho14 | (simp only [Int.reduceToNat] at ho14; rw [← Ny331.out] at ho14))
          have HO333 := Aside0.mk (Kd.R_lower ho14 (below_size (tB HB.out)))
          replace BK328 := bkB BK328 hb
          replace BK329 := bkB BK329 hb
          replace BK337 := bkB BK337 hb
          replace HB := hB HB hb
          clear hb ho14
          refine hK.out _ _ ⟨(blk_cell BK328.out 0).trans rfl, (blk_cell BK328.out 1).trans rfl, (blk_cell BK328.out 2).trans rfl⟩ (fun hHeld => ?_)
          clear hK K
          refine norm_ (a' := ?_) ?_ ?_
          rotate_left
          ·
           show Act.put _ (some 12) _ = _
           simp only [Act.put, List.setIfInBounds_toArray, List.set_cons_zero, List.set_cons_succ, i64_w, i32_w]
           rfl
          exact norm_ (by first | (simp only [putAll, Act.put, List.setIfInBounds_toArray, List.set_cons_zero, List.set_cons_succ]; done) | (simp only [putAll, Act.put, List.setIfInBounds_toArray, List.set_cons_zero, List.set_cons_succ]; rfl)) (hJ2_7 (_, gb337) _ ⟨hHeld, (tR HO333.out), (tK BK328.out), (tK BK329.out), (tK BK337.out), GW337.out, GE337.out, NB328_337.out, NB337_328.out, NB329_337.out, NB337_329.out, (tB HB.out)⟩)
         ·
          skip
          refine goes_ Try.func73 (by kernel_rfl) rfl #[.slice A0_2 l0_2.length c0_2] (by rfl) rfl rfl tM ?_
          with_reducible refine (spec_l1Own.calls _ _ l0_2 t334 _ ?side1 ?side2 A4.out).mono ?_
          (case side1 => exact cB HR0_2 HB)
          (case side2 => exact HC0_2.out)
          rintro e w13 ⟨v335, rfl, ho0, hb⟩
          refine ⟨_, rfl, ?_⟩
          have HO336 := Aside0.mk (Kd.R_lower ho0 (below_size (tB HB.out)))
          replace BK328 := bkB BK328 hb
          replace BK329 := bkB BK329 hb
          replace BK337 := bkB BK337 hb
          replace HB := hB HB hb
          (try clear hb); (try clear hb2); (try clear hk); (try clear hi); (try clear ho0)
          refine hK.out _ _ ⟨(blk_cell BK328.out 0).trans rfl, (blk_cell BK328.out 1).trans rfl, (blk_cell BK328.out 2).trans rfl⟩ (fun hHeld => ?_)
          clear hK K
          refine norm_ (a' := ?_) ?_ ?_
          rotate_left
          ·
           show Act.put _ (some 15) _ = _
           simp only [Act.put, List.setIfInBounds_toArray, List.set_cons_zero, List.set_cons_succ, i64_w, i32_w]
           rfl
          exact norm_ (by first | (simp only [putAll, Act.put, List.setIfInBounds_toArray, List.set_cons_zero, List.set_cons_succ]; done) | (simp only [putAll, Act.put, List.setIfInBounds_toArray, List.set_cons_zero, List.set_cons_succ]; rfl)) (hJ5_7 (_, gb337) _ ⟨hHeld, (tR HO336.out), (tK BK328.out), (tK BK329.out), (tK BK337.out), GW337.out, GE337.out, NB328_337.out, NB337_328.out, NB329_337.out, NB337_329.out, (tB HB.out)⟩)
       ·
        skip
        rintro v335 w12 ⟨hS_, h0_, h1_, h2_, h3_⟩
        have n0_ : Aside0 (Kd.R (Kd.int .i64) 3 w12 w.heap.size (fun _ => True) v335 t334) := ⟨h0_⟩
        have n1_ : Aside0 (w12.heap[gb328]? = some (.cells #[.int .i64 a0_0, .slice A0_1 l0_1.length c0_1, .slice A0_2 l0_2.length c0_2] 27 (0, 0))) := ⟨h1_⟩
        have n2_ : Aside0 (w12.heap[gb329]? = some (.cells #[.int .i64 0, .slice none 0 0, .slice none 0 0] 27 (0, 0))) := ⟨h2_⟩
        have n3_ : Aside0 (Below w.heap.size w w12) := ⟨h3_⟩
        clear BK328
        clear BK329
        clear HB
        clear h0_ h1_ h2_ h3_
        have HO336 := n0_
        have BK328 := n1_
        have BK329 := n2_
        have HB := n3_
        clear n0_ n1_ n2_ n3_
        have hHeld : w12.cell? ⟨gb328, 0, none⟩ = some (.int .i64 a0_0) ∧ w12.cell? ⟨gb328, 1, none⟩ = some (.slice A0_1 l0_1.length c0_1) ∧ w12.cell? ⟨gb328, 2, none⟩ = some (.slice A0_2 l0_2.length c0_2) := hS_
        refine norm_ (a' := ?_) ?_ ?_
        rotate_left
        ·
         simp only [putAll, Act.put, List.setIfInBounds_toArray, List.set_cons_zero, List.set_cons_succ]
         rfl
        refine two_ (i := 2) (j := 7) (Ni := some 12) (Nj := some 4) #[y_, y_, y_, y_, y_, y_, n_, n_, n_] #[y_, y_, n_, y_, y_, y_, n_, y_, n_] rfl rfl rfl rfl (two_of HT_.out (by kernel_rfl)) (by decide) (by decide) (fun K hK => ?_) (fun K hK => ?_)
        ·
         skip
         refine Kd.R_lit_step (Kd.int .i64) _ 3 ?hg (N := 12) ?hd (xs := ([] : List Int)) (inner := []) (ok := fun _ => True) (okp := fun _ => True) ?hr ?hp (fun _ hk => hk) trivial (Below.refl _ _) (Nat.le_refl _) (by simp) ?_; (case hd => rfl); (case hg => rfl); (case hr => first | (go_simp; done) | (go_simp; rfl)); (case hp => exact (Reps.none _ _))
         intro v332 w13 ho14 hb hg_ hnew_
         clear hg_ hnew_
         (first | rw [← Ny331.out] at ho14 | (simp only [Int.reduceToNat] at ho14; rw [← Ny331.out] at ho14))
         have HO333 := Aside0.mk (Kd.R_lower (Kd.R_new' ho14 (Kd.R_lt (tR HO336.out))) (below_size (tB HB.out)))
         replace HO336 := Aside0.mk (Kd.R_elder' (tR HO336.out) (Kd.R_base ho14) hb)
         replace BK328 := bkB BK328 hb
         replace BK329 := bkB BK329 hb
         replace HB := hB HB hb
         clear hb ho14
         obtain ⟨Ao15, co15, eo15⟩ := Kd.R_slice HO336.out
         (first | subst eo15 | (injection eo15 with f1_ f2_ f3_; have f4_ := f1_.symm; have f5_ := f3_.symm; clear f1_ f2_ f3_; subst f4_; subst f5_))
         obtain ⟨Ao16, co16, eo16⟩ := Kd.R_slice HO333.out
         (first | subst eo16 | (injection eo16 with f1_ f2_ f3_; have f4_ := f1_.symm; have f5_ := f3_.symm; clear f1_ f2_ f3_; subst f4_; subst f5_))
         refine hK.out _ _ ⟨(blk_cell BK328.out 0).trans rfl, (blk_cell BK328.out 1).trans rfl, (blk_cell BK328.out 2).trans rfl⟩ (fun hHeld => ?_)
         clear hK K
         refine norm_ (a' := ?_) ?_ ?_
         rotate_left
         ·
          show Act.put _ (some 12) _ = _
          simp only [Act.put, List.setIfInBounds_toArray, List.set_cons_zero, List.set_cons_succ, i64_w, i32_w]
          rfl
         refine pu 6 (some 16) #[y_, y_, y_, y_, y_, y_, y_, n_, n_] (any_of HT_.out (by kernel_rfl)) ?_
         exact norm_ (by first | (simp only [putAll, Act.put, List.setIfInBounds_toArray, List.set_cons_zero, List.set_cons_succ]; done) | (simp only [putAll, Act.put, List.setIfInBounds_toArray, List.set_cons_zero, List.set_cons_succ]; rfl)) (hJ2_5 (.slice Ao16 y331.length co16, .slice Ao15 t334.length co15) _ ⟨hHeld, (by (with_reducible repeat (first | apply Kd.R_alloc | apply Kd.R_drewN | apply Kd.R_drew)); exact Kd.R_mono HO333.out (fun _ hk => hk.2)), (by (with_reducible repeat (first | apply Kd.R_alloc | apply Kd.R_drewN | apply Kd.R_drew)); exact Kd.R_mono HO336.out (fun _ hk => hk.2)), (tK BK328.out), (tK BK329.out), (tB HB.out)⟩)
        ·
         skip
         refine box_step ?hg (N := 4) ?hd (cs := #[.int .i64 0, .slice none 0 0, .slice none 0 0]) (t := 27) ?hr ?_; (case hd => rfl); (case hg => rfl); (case hr => first | (go_simp; done) | (go_simp; rfl))
         intro gb337 hg w13 hbox hb
         replace HO336 := rB HO336 hb
         have BK337 := Aside0.mk hbox
         have GW337 := Aside0.mk (bS HB.out hg)
         have GE337 := Aside0.mk (bS HB.out hg)
         replace HB := hB HB hb
         have NB328_337 := Aside0.mk (nL BK328.out hg)
         have NB337_328 := Aside0.mk (nG BK328.out hg)
         replace BK328 := bkB BK328 hb
         have NB329_337 := Aside0.mk (nL BK329.out hg)
         have NB337_329 := Aside0.mk (nG BK329.out hg)
         replace BK329 := bkB BK329 hb
         clear hb hbox hg
         refine hK.out _ _ ⟨(blk_cell BK328.out 0).trans rfl, (blk_cell BK328.out 1).trans rfl, (blk_cell BK328.out 2).trans rfl⟩ (fun hHeld => ?_)
         clear hK K
         refine norm_ (a' := ?_) ?_ ?_
         rotate_left
         ·
          show Act.put _ (some 4) _ = _
          simp only [Act.put, List.setIfInBounds_toArray, List.set_cons_zero, List.set_cons_succ, i64_w, i32_w]
          rfl
         exact norm_ (by first | (simp only [putAll, Act.put, List.setIfInBounds_toArray, List.set_cons_zero, List.set_cons_succ]; done) | (simp only [putAll, Act.put, List.setIfInBounds_toArray, List.set_cons_zero, List.set_cons_succ]; rfl)) (hJ5_7 (_, gb337) _ ⟨hHeld, (tR HO336.out), (tK BK328.out), (tK BK329.out), (tK BK337.out), GW337.out, GE337.out, NB328_337.out, NB337_328.out, NB329_337.out, NB337_329.out, (tB HB.out)⟩)
      ·
       skip
       rintro v332 w13 ⟨hS_, h0_, h1_, h2_, h3_⟩
       have n0_ : Aside0 (Kd.R (Kd.int .i64) 3 w13 w.heap.size (fun _ => True) v332 y331) := ⟨h0_⟩
       have n1_ : Aside0 (w13.heap[gb328]? = some (.cells #[.int .i64 a0_0, .slice A0_1 l0_1.length c0_1, .slice A0_2 l0_2.length c0_2] 27 (0, 0))) := ⟨h1_⟩
       have n2_ : Aside0 (w13.heap[gb329]? = some (.cells #[.int .i64 0, .slice none 0 0, .slice none 0 0] 27 (0, 0))) := ⟨h2_⟩
       have n3_ : Aside0 (Below w.heap.size w w13) := ⟨h3_⟩
       clear BK328
       clear BK329
       clear HB
       clear h0_ h1_ h2_ h3_
       have HO333 := n0_
       have BK328 := n1_
       have BK329 := n2_
       have HB := n3_
       clear n0_ n1_ n2_ n3_
       have hHeld : w13.cell? ⟨gb328, 0, none⟩ = some (.int .i64 a0_0) ∧ w13.cell? ⟨gb328, 1, none⟩ = some (.slice A0_1 l0_1.length c0_1) ∧ w13.cell? ⟨gb328, 2, none⟩ = some (.slice A0_2 l0_2.length c0_2) := hS_
       refine norm_ (a' := ?_) ?_ ?_
       rotate_left
       ·
        simp only [putAll, Act.put, List.setIfInBounds_toArray, List.set_cons_zero, List.set_cons_succ]
        rfl
       refine two_ (i := 5) (j := 7) (Ni := some 15) (Nj := some 4) #[y_, y_, y_, y_, y_, y_, n_, n_, n_] #[y_, y_, y_, y_, y_, n_, n_, y_, n_] rfl rfl rfl rfl (two_of HT_.out (by kernel_rfl)) (by decide) (by decide) (fun K hK => ?_) (fun K hK => ?_)
       ·
        skip
        refine goes_ Try.func73 (by kernel_rfl) rfl #[.slice A0_2 l0_2.length c0_2] (by rfl) rfl rfl tM ?_
        with_reducible refine (spec_l1Own.calls _ _ l0_2 t334 _ ?side1 ?side2 A4.out).mono ?_
        (case side1 => exact cB HR0_2 HB)
        (case side2 => exact HC0_2.out)
        rintro e w14 ⟨v335, rfl, ho0, hb⟩
        refine ⟨_, rfl, ?_⟩
        have HO336 := Aside0.mk (Kd.R_lower (Kd.R_new' ho0 (Kd.R_lt (tR HO333.out))) (below_size (tB HB.out)))
        replace HO333 := Aside0.mk (Kd.R_elder' (tR HO333.out) (Kd.R_base ho0) hb)
        replace BK328 := bkB BK328 hb
        replace BK329 := bkB BK329 hb
        replace HB := hB HB hb
        (try clear hb); (try clear hb2); (try clear hk); (try clear hi); (try clear ho0)
        obtain ⟨Ao15, co15, eo15⟩ := Kd.R_slice HO336.out
        (first | subst eo15 | (injection eo15 with f1_ f2_ f3_; have f4_ := f1_.symm; have f5_ := f3_.symm; clear f1_ f2_ f3_; subst f4_; subst f5_))
        obtain ⟨Ao16, co16, eo16⟩ := Kd.R_slice HO333.out
        (first | subst eo16 | (injection eo16 with f1_ f2_ f3_; have f4_ := f1_.symm; have f5_ := f3_.symm; clear f1_ f2_ f3_; subst f4_; subst f5_))
        refine hK.out _ _ ⟨(blk_cell BK328.out 0).trans rfl, (blk_cell BK328.out 1).trans rfl, (blk_cell BK328.out 2).trans rfl⟩ (fun hHeld => ?_)
        clear hK K
        refine norm_ (a' := ?_) ?_ ?_
        rotate_left
        ·
         show Act.put _ (some 15) _ = _
         simp only [Act.put, List.setIfInBounds_toArray, List.set_cons_zero, List.set_cons_succ, i64_w, i32_w]
         rfl
        refine pu 6 (some 16) #[y_, y_, y_, y_, y_, y_, y_, n_, n_] (any_of HT_.out (by kernel_rfl)) ?_
        exact norm_ (by first | (simp only [putAll, Act.put, List.setIfInBounds_toArray, List.set_cons_zero, List.set_cons_succ]; done) | (simp only [putAll, Act.put, List.setIfInBounds_toArray, List.set_cons_zero, List.set_cons_succ]; rfl)) (hJ2_5 (.slice Ao16 y331.length co16, .slice Ao15 t334.length co15) _ ⟨hHeld, (by (with_reducible repeat (first | apply Kd.R_alloc | apply Kd.R_drewN | apply Kd.R_drew)); exact Kd.R_mono HO333.out (fun _ hk => hk.2)), (by (with_reducible repeat (first | apply Kd.R_alloc | apply Kd.R_drewN | apply Kd.R_drew)); exact Kd.R_mono HO336.out (fun _ hk => hk.2)), (tK BK328.out), (tK BK329.out), (tB HB.out)⟩)
       ·
        skip
        refine box_step ?hg (N := 4) ?hd (cs := #[.int .i64 0, .slice none 0 0, .slice none 0 0]) (t := 27) ?hr ?_; (case hd => rfl); (case hg => rfl); (case hr => first | (go_simp; done) | (go_simp; rfl))
        intro gb337 hg w14 hbox hb
        replace HO333 := rB HO333 hb
        have BK337 := Aside0.mk hbox
        have GW337 := Aside0.mk (bS HB.out hg)
        have GE337 := Aside0.mk (bS HB.out hg)
        replace HB := hB HB hb
        have NB328_337 := Aside0.mk (nL BK328.out hg)
        have NB337_328 := Aside0.mk (nG BK328.out hg)
        replace BK328 := bkB BK328 hb
        have NB329_337 := Aside0.mk (nL BK329.out hg)
        have NB337_329 := Aside0.mk (nG BK329.out hg)
        replace BK329 := bkB BK329 hb
        clear hb hbox hg
        refine hK.out _ _ ⟨(blk_cell BK328.out 0).trans rfl, (blk_cell BK328.out 1).trans rfl, (blk_cell BK328.out 2).trans rfl⟩ (fun hHeld => ?_)
        clear hK K
        refine norm_ (a' := ?_) ?_ ?_
        rotate_left
        ·
         show Act.put _ (some 4) _ = _
         simp only [Act.put, List.setIfInBounds_toArray, List.set_cons_zero, List.set_cons_succ, i64_w, i32_w]
         rfl
        exact norm_ (by first | (simp only [putAll, Act.put, List.setIfInBounds_toArray, List.set_cons_zero, List.set_cons_succ]; done) | (simp only [putAll, Act.put, List.setIfInBounds_toArray, List.set_cons_zero, List.set_cons_succ]; rfl)) (hJ2_7 (_, gb337) _ ⟨hHeld, (tR HO333.out), (tK BK328.out), (tK BK329.out), (tK BK337.out), GW337.out, GE337.out, NB328_337.out, NB337_328.out, NB329_337.out, NB337_329.out, (tB HB.out)⟩)
     ·
      skip
      rintro ⟨v335, gb337⟩ w13 ⟨hS_, h0_, h1_, h2_, h3_, h4_, h5_, h6_, h7_, h8_, h9_, h10_⟩
      have n0_ : Aside0 (Kd.R (Kd.int .i64) 3 w13 w.heap.size (fun _ => True) v335 t334) := ⟨h0_⟩
      have n1_ : Aside0 (w13.heap[gb328]? = some (.cells #[.int .i64 a0_0, .slice A0_1 l0_1.length c0_1, .slice A0_2 l0_2.length c0_2] 27 (0, 0))) := ⟨h1_⟩
      have n2_ : Aside0 (w13.heap[gb329]? = some (.cells #[.int .i64 0, .slice none 0 0, .slice none 0 0] 27 (0, 0))) := ⟨h2_⟩
      have n3_ : Aside0 (w13.heap[gb337]? = some (.cells #[.int .i64 0, .slice none 0 0, .slice none 0 0] 27 (0, 0))) := ⟨h3_⟩
      have n4_ : Aside0 (w.heap.size ≤ gb337) := ⟨h4_⟩
      have n5_ : Aside0 (w.heap.size ≤ gb337) := ⟨h5_⟩
      have n6_ : Aside0 (gb328 ≠ gb337) := ⟨h6_⟩
      have n7_ : Aside0 (gb337 ≠ gb328) := ⟨h7_⟩
      have n8_ : Aside0 (gb329 ≠ gb337) := ⟨h8_⟩
      have n9_ : Aside0 (gb337 ≠ gb329) := ⟨h9_⟩
      have n10_ : Aside0 (Below w.heap.size w w13) := ⟨h10_⟩
      clear BK328
      clear BK329
      clear HB
      clear h0_ h1_ h2_ h3_ h4_ h5_ h6_ h7_ h8_ h9_ h10_
      have HO336 := n0_
      have BK328 := n1_
      have BK329 := n2_
      have BK337 := n3_
      have GW337 := n4_
      have GE337 := n5_
      have NB328_337 := n6_
      have NB337_328 := n7_
      have NB329_337 := n8_
      have NB337_329 := n9_
      have HB := n10_
      clear n0_ n1_ n2_ n3_ n4_ n5_ n6_ n7_ n8_ n9_ n10_
      have hHeld : w13.cell? ⟨gb328, 0, none⟩ = some (.int .i64 a0_0) ∧ w13.cell? ⟨gb328, 1, none⟩ = some (.slice A0_1 l0_1.length c0_1) ∧ w13.cell? ⟨gb328, 2, none⟩ = some (.slice A0_2 l0_2.length c0_2) := hS_
      refine norm_ (a' := ?_) ?_ ?_
      rotate_left
      ·
       simp only [putAll, Act.put, List.setIfInBounds_toArray, List.set_cons_zero, List.set_cons_succ]
       rfl
      refine one_ (i := 2) (N := some 12) #[y_, y_, y_, y_, y_, y_, n_, y_, n_] rfl rfl (one_of HT_.out (by kernel_rfl)) (by decide) (fun K hK => ?_)
      refine Kd.R_lit_step (Kd.int .i64) _ 3 ?hg (N := 12) ?hd (xs := ([] : List Int)) (inner := []) (ok := fun _ => True) (okp := fun _ => True) ?hr ?hp (fun _ hk => hk) trivial (Below.refl _ _) (Nat.le_refl _) (by simp) ?_; (case hd => rfl); (case hg => rfl); (case hr => first | (go_simp; done) | (go_simp; rfl)); (case hp => exact (Reps.none _ _))
      intro v332 w14 ho15 hb hg_ hnew_
      clear hg_ hnew_
      (first | rw [← Ny331.out] at ho15 | (simp only [Int.reduceToNat] at ho15; rw [← Ny331.out] at ho15))
      have HO333 := Aside0.mk (Kd.R_lower (Kd.R_new' ho15 (Kd.R_lt (tR HO336.out))) (below_size (tB HB.out)))
      replace HO336 := Aside0.mk (Kd.R_elder' (tR HO336.out) (Kd.R_base ho15) hb)
      replace BK328 := bkB BK328 hb
      replace BK329 := bkB BK329 hb
      replace BK337 := bkB BK337 hb
      replace HB := hB HB hb
      clear hb ho15
      obtain ⟨Ao16, co16, eo16⟩ := Kd.R_slice HO336.out
      (first | subst eo16 | (injection eo16 with f1_ f2_ f3_; have f4_ := f1_.symm; have f5_ := f3_.symm; clear f1_ f2_ f3_; subst f4_; subst f5_))
      obtain ⟨Ao17, co17, eo17⟩ := Kd.R_slice HO333.out
      (first | subst eo17 | (injection eo17 with f1_ f2_ f3_; have f4_ := f1_.symm; have f5_ := f3_.symm; clear f1_ f2_ f3_; subst f4_; subst f5_))
      refine hK.out _ _ ⟨(blk_cell BK328.out 0).trans rfl, (blk_cell BK328.out 1).trans rfl, (blk_cell BK328.out 2).trans rfl⟩ (fun hHeld => ?_)
      clear hK K
      refine norm_ (a' := ?_) ?_ ?_
      rotate_left
      ·
       show Act.put _ (some 12) _ = _
       simp only [Act.put, List.setIfInBounds_toArray, List.set_cons_zero, List.set_cons_succ, i64_w, i32_w]
       rfl
      refine pu 6 (some 16) #[y_, y_, y_, y_, y_, y_, y_, y_, n_] (any_of HT_.out (by kernel_rfl)) ?_
      exact norm_ (by first | (simp only [putAll, Act.put, List.setIfInBounds_toArray, List.set_cons_zero, List.set_cons_succ]; done) | (simp only [putAll, Act.put, List.setIfInBounds_toArray, List.set_cons_zero, List.set_cons_succ]; rfl)) (hJ2_5_7 (.slice Ao17 y331.length co17, .slice Ao16 t334.length co16, gb337) _ ⟨hHeld, (by (with_reducible repeat (first | apply Kd.R_alloc | apply Kd.R_drewN | apply Kd.R_drew)); exact Kd.R_mono HO333.out (fun _ hk => hk.2)), (by (with_reducible repeat (first | apply Kd.R_alloc | apply Kd.R_drewN | apply Kd.R_drew)); exact Kd.R_mono HO336.out (fun _ hk => hk.2)), (tK BK328.out), (tK BK329.out), (tK BK337.out), GW337.out, GE337.out, NB328_337.out, NB337_328.out, NB329_337.out, NB337_329.out, (tB HB.out)⟩)
    ·
     skip
     rintro ⟨v332, gb337⟩ w14 ⟨hS_, h0_, h1_, h2_, h3_, h4_, h5_, h6_, h7_, h8_, h9_, h10_⟩
     have n0_ : Aside0 (Kd.R (Kd.int .i64) 3 w14 w.heap.size (fun _ => True) v332 y331) := ⟨h0_⟩
     have n1_ : Aside0 (w14.heap[gb328]? = some (.cells #[.int .i64 a0_0, .slice A0_1 l0_1.length c0_1, .slice A0_2 l0_2.length c0_2] 27 (0, 0))) := ⟨h1_⟩
     have n2_ : Aside0 (w14.heap[gb329]? = some (.cells #[.int .i64 0, .slice none 0 0, .slice none 0 0] 27 (0, 0))) := ⟨h2_⟩
     have n3_ : Aside0 (w14.heap[gb337]? = some (.cells #[.int .i64 0, .slice none 0 0, .slice none 0 0] 27 (0, 0))) := ⟨h3_⟩
     have n4_ : Aside0 (w.heap.size ≤ gb337) := ⟨h4_⟩
     have n5_ : Aside0 (w.heap.size ≤ gb337) := ⟨h5_⟩
     have n6_ : Aside0 (gb328 ≠ gb337) := ⟨h6_⟩
     have n7_ : Aside0 (gb337 ≠ gb328) := ⟨h7_⟩
     have n8_ : Aside0 (gb329 ≠ gb337) := ⟨h8_⟩
     have n9_ : Aside0 (gb337 ≠ gb329) := ⟨h9_⟩
     have n10_ : Aside0 (Below w.heap.size w w14) := ⟨h10_⟩
     clear BK328
     clear BK329
     clear HB
     clear h0_ h1_ h2_ h3_ h4_ h5_ h6_ h7_ h8_ h9_ h10_
     have HO333 := n0_
     have BK328 := n1_
     have BK329 := n2_
     have BK337 := n3_
     have GW337 := n4_
     have GE337 := n5_
     have NB328_337 := n6_
     have NB337_328 := n7_
     have NB329_337 := n8_
     have NB337_329 := n9_
     have HB := n10_
     clear n0_ n1_ n2_ n3_ n4_ n5_ n6_ n7_ n8_ n9_ n10_
     have hHeld : w14.cell? ⟨gb328, 0, none⟩ = some (.int .i64 a0_0) ∧ w14.cell? ⟨gb328, 1, none⟩ = some (.slice A0_1 l0_1.length c0_1) ∧ w14.cell? ⟨gb328, 2, none⟩ = some (.slice A0_2 l0_2.length c0_2) := hS_
     refine norm_ (a' := ?_) ?_ ?_
     rotate_left
     ·
      simp only [putAll, Act.put, List.setIfInBounds_toArray, List.set_cons_zero, List.set_cons_succ]
      rfl
     refine one_ (i := 5) (N := some 15) #[y_, y_, y_, y_, y_, y_, n_, y_, n_] rfl rfl (one_of HT_.out (by kernel_rfl)) (by decide) (fun K hK => ?_)
     refine goes_ Try.func73 (by kernel_rfl) rfl #[.slice A0_2 l0_2.length c0_2] (by rfl) rfl rfl tM ?_
     with_reducible refine (spec_l1Own.calls _ _ l0_2 t334 _ ?side1 ?side2 A4.out).mono ?_
     (case side1 => exact cB HR0_2 HB)
     (case side2 => exact HC0_2.out)
     rintro e w15 ⟨v335, rfl, ho0, hb⟩
     refine ⟨_, rfl, ?_⟩
     have HO336 := Aside0.mk (Kd.R_lower (Kd.R_new' ho0 (Kd.R_lt (tR HO333.out))) (below_size (tB HB.out)))
     replace HO333 := Aside0.mk (Kd.R_elder' (tR HO333.out) (Kd.R_base ho0) hb)
     replace BK328 := bkB BK328 hb
     replace BK329 := bkB BK329 hb
     replace BK337 := bkB BK337 hb
     replace HB := hB HB hb
     (try clear hb); (try clear hb2); (try clear hk); (try clear hi); (try clear ho0)
     obtain ⟨Ao16, co16, eo16⟩ := Kd.R_slice HO336.out
     (first | subst eo16 | (injection eo16 with f1_ f2_ f3_; have f4_ := f1_.symm; have f5_ := f3_.symm; clear f1_ f2_ f3_; subst f4_; subst f5_))
     obtain ⟨Ao17, co17, eo17⟩ := Kd.R_slice HO333.out
     (first | subst eo17 | (injection eo17 with f1_ f2_ f3_; have f4_ := f1_.symm; have f5_ := f3_.symm; clear f1_ f2_ f3_; subst f4_; subst f5_))
     refine hK.out _ _ ⟨(blk_cell BK328.out 0).trans rfl, (blk_cell BK328.out 1).trans rfl, (blk_cell BK328.out 2).trans rfl⟩ (fun hHeld => ?_)
     clear hK K
     refine norm_ (a' := ?_) ?_ ?_
     rotate_left
     ·
      show Act.put _ (some 15) _ = _
      simp only [Act.put, List.setIfInBounds_toArray, List.set_cons_zero, List.set_cons_succ, i64_w, i32_w]
      rfl
     refine pu 6 (some 16) #[y_, y_, y_, y_, y_, y_, y_, y_, n_] (any_of HT_.out (by kernel_rfl)) ?_
     exact norm_ (by first | (simp only [putAll, Act.put, List.setIfInBounds_toArray, List.set_cons_zero, List.set_cons_succ]; done) | (simp only [putAll, Act.put, List.setIfInBounds_toArray, List.set_cons_zero, List.set_cons_succ]; rfl)) (hJ2_5_7 (.slice Ao17 y331.length co17, .slice Ao16 t334.length co16, gb337) _ ⟨hHeld, (by (with_reducible repeat (first | apply Kd.R_alloc | apply Kd.R_drewN | apply Kd.R_drew)); exact Kd.R_mono HO333.out (fun _ hk => hk.2)), (by (with_reducible repeat (first | apply Kd.R_alloc | apply Kd.R_drewN | apply Kd.R_drew)); exact Kd.R_mono HO336.out (fun _ hk => hk.2)), (tK BK328.out), (tK BK329.out), (tK BK337.out), GW337.out, GE337.out, NB328_337.out, NB337_328.out, NB329_337.out, NB337_329.out, (tB HB.out)⟩)
   ·
    skip
    rintro ⟨v332, v335⟩ w16 ⟨hS_, h0_, h1_, h2_, h3_, h4_⟩
    have n0_ : Aside0 (Kd.R (Kd.int .i64) 3 w16 w.heap.size (fun k_ => some k_ ≠ (v335 : Value).ownBlock) v332 y331) := ⟨h0_⟩
    have n1_ : Aside0 (Kd.R (Kd.int .i64) 3 w16 w.heap.size (fun k_ => some k_ ≠ (v332 : Value).ownBlock) v335 t334) := ⟨h1_⟩
    have n2_ : Aside0 (w16.heap[gb328]? = some (.cells #[.int .i64 a0_0, .slice A0_1 l0_1.length c0_1, .slice A0_2 l0_2.length c0_2] 27 (0, 0))) := ⟨h2_⟩
    have n3_ : Aside0 (w16.heap[gb329]? = some (.cells #[.int .i64 0, .slice none 0 0, .slice none 0 0] 27 (0, 0))) := ⟨h3_⟩
    have n4_ : Aside0 (Below w.heap.size w w16) := ⟨h4_⟩
    clear BK328
    clear BK329
    clear HB
    clear h0_ h1_ h2_ h3_ h4_
    have HO333 := n0_
    have HO336 := n1_
    have BK328 := n2_
    have BK329 := n3_
    have HB := n4_
    clear n0_ n1_ n2_ n3_ n4_
    have hHeld : w16.cell? ⟨gb328, 0, none⟩ = some (.int .i64 a0_0) ∧ w16.cell? ⟨gb328, 1, none⟩ = some (.slice A0_1 l0_1.length c0_1) ∧ w16.cell? ⟨gb328, 2, none⟩ = some (.slice A0_2 l0_2.length c0_2) := hS_
    obtain ⟨Ao17, co17, eo17⟩ := Kd.R_slice HO336.out
    (first | subst eo17 | (injection eo17 with f1_ f2_ f3_; have f4_ := f1_.symm; have f5_ := f3_.symm; clear f1_ f2_ f3_; subst f4_; subst f5_))
    obtain ⟨Ao18, co18, eo18⟩ := Kd.R_slice HO333.out
    (first | subst eo18 | (injection eo18 with f1_ f2_ f3_; have f4_ := f1_.symm; have f5_ := f3_.symm; clear f1_ f2_ f3_; subst f4_; subst f5_))
    refine norm_ (a' := ?_) ?_ ?_
    rotate_left
    ·
     simp only [putAll, Act.put, List.setIfInBounds_toArray, List.set_cons_zero, List.set_cons_succ]
     rfl
    refine one_ (i := 7) (N := some 4) #[y_, y_, y_, y_, y_, y_, y_, y_, n_] rfl rfl (one_of HT_.out (by kernel_rfl)) (by decide) (fun K hK => ?_)
    refine box_step ?hg (N := 4) ?hd (cs := #[.int .i64 0, .slice none 0 0, .slice none 0 0]) (t := 27) ?hr ?_; (case hd => rfl); (case hg => rfl); (case hr => first | (go_simp; done) | (go_simp; rfl))
    intro gb337 hg w19 hbox hb
    replace HO333 := rB HO333 hb
    replace HO336 := rB HO336 hb
    have BK337 := Aside0.mk hbox
    have GW337 := Aside0.mk (bS HB.out hg)
    have GE337 := Aside0.mk (bS HB.out hg)
    replace HB := hB HB hb
    have NB328_337 := Aside0.mk (nL BK328.out hg)
    have NB337_328 := Aside0.mk (nG BK328.out hg)
    replace BK328 := bkB BK328 hb
    have NB329_337 := Aside0.mk (nL BK329.out hg)
    have NB337_329 := Aside0.mk (nG BK329.out hg)
    replace BK329 := bkB BK329 hb
    clear hb hbox hg
    refine hK.out _ _ ⟨(blk_cell BK328.out 0).trans rfl, (blk_cell BK328.out 1).trans rfl, (blk_cell BK328.out 2).trans rfl⟩ (fun hHeld => ?_)
    clear hK K
    refine norm_ (a' := ?_) ?_ ?_
    rotate_left
    ·
     show Act.put _ (some 4) _ = _
     simp only [Act.put, List.setIfInBounds_toArray, List.set_cons_zero, List.set_cons_succ, i64_w, i32_w]
     rfl
    exact norm_ (by first | (simp only [putAll, Act.put, List.setIfInBounds_toArray, List.set_cons_zero, List.set_cons_succ]; done) | (simp only [putAll, Act.put, List.setIfInBounds_toArray, List.set_cons_zero, List.set_cons_succ]; rfl)) (hJ2_5_7 (.slice Ao18 y331.length co18, .slice Ao17 t334.length co17, gb337) _ ⟨hHeld, (tR HO333.out), (tR HO336.out), (tK BK328.out), (tK BK329.out), (tK BK337.out), GW337.out, GE337.out, NB328_337.out, NB337_328.out, NB329_337.out, NB337_329.out, (tB HB.out)⟩)
  rintro ⟨v332, v335, gb337⟩ w17 ⟨hS_, h0_, h1_, h2_, h3_, h4_, h5_, h6_, h7_, h8_, h9_, h10_, h11_⟩
  have n0_ : Aside0 (Kd.R (Kd.int .i64) 3 w17 w.heap.size (fun k_ => some k_ ≠ (v335 : Value).ownBlock) v332 y331) := ⟨h0_⟩
  have n1_ : Aside0 (Kd.R (Kd.int .i64) 3 w17 w.heap.size (fun k_ => some k_ ≠ (v332 : Value).ownBlock) v335 t334) := ⟨h1_⟩
  have n2_ : Aside0 (w17.heap[gb328]? = some (.cells #[.int .i64 a0_0, .slice A0_1 l0_1.length c0_1, .slice A0_2 l0_2.length c0_2] 27 (0, 0))) := ⟨h2_⟩
  have n3_ : Aside0 (w17.heap[gb329]? = some (.cells #[.int .i64 0, .slice none 0 0, .slice none 0 0] 27 (0, 0))) := ⟨h3_⟩
  have n4_ : Aside0 (w17.heap[gb337]? = some (.cells #[.int .i64 0, .slice none 0 0, .slice none 0 0] 27 (0, 0))) := ⟨h4_⟩
  have n5_ : Aside0 (w.heap.size ≤ gb337) := ⟨h5_⟩
  have n6_ : Aside0 (w.heap.size ≤ gb337) := ⟨h6_⟩
  have n7_ : Aside0 (gb328 ≠ gb337) := ⟨h7_⟩
  have n8_ : Aside0 (gb337 ≠ gb328) := ⟨h8_⟩
  have n9_ : Aside0 (gb329 ≠ gb337) := ⟨h9_⟩
  have n10_ : Aside0 (gb337 ≠ gb329) := ⟨h10_⟩
  have n11_ : Aside0 (Below w.heap.size w w17) := ⟨h11_⟩
  clear BK328
  clear BK329
  clear HB
  clear h0_ h1_ h2_ h3_ h4_ h5_ h6_ h7_ h8_ h9_ h10_ h11_
  have HO333 := n0_
  have HO336 := n1_
  have BK328 := n2_
  have BK329 := n3_
  have BK337 := n4_
  have GW337 := n5_
  have GE337 := n6_
  have NB328_337 := n7_
  have NB337_328 := n8_
  have NB329_337 := n9_
  have NB337_329 := n10_
  have HB := n11_
  clear n0_ n1_ n2_ n3_ n4_ n5_ n6_ n7_ n8_ n9_ n10_ n11_
  have hHeld : w17.cell? ⟨gb328, 0, none⟩ = some (.int .i64 a0_0) ∧ w17.cell? ⟨gb328, 1, none⟩ = some (.slice A0_1 l0_1.length c0_1) ∧ w17.cell? ⟨gb328, 2, none⟩ = some (.slice A0_2 l0_2.length c0_2) := hS_
  obtain ⟨Ao18, co18, eo18⟩ := Kd.R_slice HO336.out
  (first | subst eo18 | (injection eo18 with f1_ f2_ f3_; have f4_ := f1_.symm; have f5_ := f3_.symm; clear f1_ f2_ f3_; subst f4_; subst f5_))
  obtain ⟨Ao19, co19, eo19⟩ := Kd.R_slice HO333.out
  (first | subst eo19 | (injection eo19 with f1_ f2_ f3_; have f4_ := f1_.symm; have f5_ := f3_.symm; clear f1_ f2_ f3_; subst f4_; subst f5_))
  refine norm_ (a' := ?_) ?_ ?_
  rotate_left
  ·
   simp only [putAll, Act.put, List.setIfInBounds_toArray, List.set_cons_zero, List.set_cons_succ]
   rfl
  refine one_ (i := 8) (N := none) #[y_, y_, y_, y_, y_, y_, y_, y_, y_] rfl rfl (one_of HT_.out (by kernel_rfl)) (by decide) (fun K hK => ?_)
  have hs20 : w17.cell? ⟨gb337, 0, none⟩ = some (.int .i64 0) := (blk_cell BK337.out 0).trans rfl
  have hfs20 := blk_frozen BK337.out 0
  have hns20_0 := NB328_337.out
  have hns20_1 := NB329_337.out
  have hms20_0 := NB337_328.out
  have hms20_1 := NB337_329.out
  have hs21 : w17.cell? ⟨gb337, 1, none⟩ = some (.slice none 0 0) := (blk_cell BK337.out 1).trans rfl
  have hfs21 := blk_frozen BK337.out 1
  have hns21_0 := NB328_337.out
  have hns21_1 := NB329_337.out
  have hms21_0 := NB337_328.out
  have hms21_1 := NB337_329.out
  have hs22 : w17.cell? ⟨gb337, 2, none⟩ = some (.slice none 0 0) := (blk_cell BK337.out 2).trans rfl
  have hfs22 := blk_frozen BK337.out 2
  have hns22_0 := NB328_337.out
  have hns22_1 := NB329_337.out
  have hms22_0 := NB337_328.out
  have hms22_1 := NB337_329.out
  refine skip_ (w1 := ?_) (by rfl) rfl ?_ ?_
  rotate_left
  ·
   go_simp
   rfl
  refine hK.out _ _ ⟨((cell_far (p := ⟨gb337, _, none⟩) NB328_337.out _).trans (((cell_far (p := ⟨gb337, _, none⟩) NB328_337.out _).trans (((cell_far (p := ⟨gb337, _, none⟩) NB328_337.out _).trans (hHeld.1)))))), ((cell_far (p := ⟨gb337, _, none⟩) NB328_337.out _).trans (((cell_far (p := ⟨gb337, _, none⟩) NB328_337.out _).trans (((cell_far (p := ⟨gb337, _, none⟩) NB328_337.out _).trans (hHeld.2.1)))))), ((cell_far (p := ⟨gb337, _, none⟩) NB328_337.out _).trans (((cell_far (p := ⟨gb337, _, none⟩) NB328_337.out _).trans (((cell_far (p := ⟨gb337, _, none⟩) NB328_337.out _).trans (hHeld.2.2))))))⟩ (fun hHeld => ?_)
  clear hK K
  refine done_ (done_of HT_.out (by kernel_rfl)) ?_
  try go_wp2
  go_loopg [5] k (fun kq v5 w' => ∃ (x5_1 : Int) (x338001_1 : List Int) (u338001 : Value), v5 = .int .i64 x5_1 ∧ Aside0 (spec_MirrorPile.l0 kq x5_1 a0_0 l0_1 l0_2 a0_0 x338001_1 t334 = some (r1, r2, r3, r4)) ∧ Aside0 (kq ≤ k) ∧ Aside0 (Kd.R (Kd.int .i64) 3 w' w.heap.size (fun k_ => some k_ ≠ ((.slice Ao18 t334.length co18) : Value).ownBlock) u338001 x338001_1) ∧ Aside0 (Kd.R (Kd.int .i64) 3 w' w.heap.size (fun k_ => some k_ ≠ (u338001 : Value).ownBlock) (.slice Ao18 t334.length co18) t334) ∧ Aside0 (w'.heap[gb328]? = some (.cells #[.int .i64 a0_0, (.slice A0_1 l0_1.length c0_1), (.slice A0_2 l0_2.length c0_2)] 27 (0, 0))) ∧ Aside0 (w'.heap[gb329]? = some (.cells #[.int .i64 0, (.slice none 0 0), (.slice none 0 0)] 27 (0, 0))) ∧ Aside0 (w'.heap[gb337]? = some (.cells #[.int .i64 a0_0, u338001, (.slice Ao18 t334.length co18)] 27 (0, 0))) ∧ Aside0 (Below w.heap.size w w'))
  case atStart => exact ⟨(0), (y331), (.slice Ao19 y331.length co19), (by first | rfl | (simp; done) | (simp [wrap64]; done) | (simp [*]; done)), H', ⟨Nat.le_refl _⟩, ⟨by (with_reducible repeat (first | apply Kd.R_alloc | apply Kd.R_drewN | apply Kd.R_drew)); exact rF3 HO333 BK337⟩, ⟨by (with_reducible repeat (first | apply Kd.R_alloc | apply Kd.R_drewN | apply Kd.R_drew)); exact rF3 HO336 BK337⟩, ⟨by (with_reducible repeat (first | refine blk_drewN ?_ _ | refine blk_drew ?_ | refine blk_alloc ?_ _)); refine blk_far ?_ NB328_337.out _; (with_reducible repeat (first | refine blk_drewN ?_ _ | refine blk_drew ?_ | refine blk_alloc ?_ _)); refine blk_far ?_ NB328_337.out _; (with_reducible repeat (first | refine blk_drewN ?_ _ | refine blk_drew ?_ | refine blk_alloc ?_ _)); refine blk_far ?_ NB328_337.out _; (with_reducible repeat (first | refine blk_drewN ?_ _ | refine blk_drew ?_ | refine blk_alloc ?_ _)); exact BK328.out⟩, ⟨by (with_reducible repeat (first | refine blk_drewN ?_ _ | refine blk_drew ?_ | refine blk_alloc ?_ _)); refine blk_far ?_ NB329_337.out _; (with_reducible repeat (first | refine blk_drewN ?_ _ | refine blk_drew ?_ | refine blk_alloc ?_ _)); refine blk_far ?_ NB329_337.out _; (with_reducible repeat (first | refine blk_drewN ?_ _ | refine blk_drew ?_ | refine blk_alloc ?_ _)); refine blk_far ?_ NB329_337.out _; (with_reducible repeat (first | refine blk_drewN ?_ _ | refine blk_drew ?_ | refine blk_alloc ?_ _)); exact BK329.out⟩, ⟨by (with_reducible repeat (first | refine blk_drewN ?_ _ | refine blk_drew ?_ | refine blk_alloc ?_ _)); exact bp3 BK337.out⟩, ⟨tB HB.out⟩⟩
  case round =>
   clear H'
   obtain ⟨x5_1, x338001_1, u338001, rfl, HA, HK1, HO_338001, HO_338002, BK328, BK329, BK337, HB⟩ := hrel
   cases gk with
   | zero => exact absurd HA.out (by simp [spec_MirrorPile.l0])
   | succ k1 =>
    have H := HA.out
    clear HA
    simp only [spec_MirrorPile.l0] at H
    by_cases c23 : x5_1 < (l0_1.length : Int)
    ·
     rw [if_pos c23] at H
     have c23b0 : decide (x5_1 < (l0_1.length : Int)) = true := decide_eq_true c23
     clear c23
     by_cases c24 : 0 < (l0_1.length : Int)
     ·
      rw [if_pos c24] at H
      have c24b0 : decide (0 < (l0_1.length : Int)) = true := decide_eq_true c24
      have c24b1 : decide (0 < l0_1.length) = true := decide_eq_true (by omega)
      clear c24
      by_cases c25 : 0 ≤ x5_1
      ·
       rw [if_pos c25] at H
       have c25b0 : decide (0 ≤ x5_1) = true := decide_eq_true c25
       clear c25
       by_cases c26 : x338001_1.length < 17592186044416
       ·
        rw [if_pos c26] at H
        have LMc26 := Aside0.mk c26
        clear c26
        obtain ⟨y340, hy340⟩ : ∃ y_ : List Int, y_ = (x338001_1 ++ [wrap64 ((wrap64 (2 * (rd l0_1 0))) - (rd l0_1 x5_1))]) := ⟨_, rfl⟩
        replace H : (spec_MirrorPile.l0 k1 (wrap64 (x5_1 + 1)) a0_0 l0_1 l0_2 a0_0 y340 t334) = some (r1, r2, r3, r4) := by first | (rw [hy340]; with_reducible exact H) | (have H2_ := (Option.bind_some _ _).symm.trans H; rw [hy340]; with_reducible exact H2_) | (have H2_ := (Option.bind_some _ _).symm.trans H; with_reducible exact H2_) | with_reducible exact H | (rw [hy340]; exact H) | exact H
        have Ny340 := Aside0.mk hy340
        clear hy340
        have H' := Aside0.mk H
        clear H
        have hnb27 := NB328_329.out
        have hnc27 := NB329_328.out
        have hnb28 := NB328_337.out
        have hnc28 := NB337_328.out
        obtain ⟨hcz29_0, hfz29_0, hcz29_1, hfz29_1, hcz29_2, hfz29_2⟩ := cz3 BK328
        try go_wp2
        replace HO_338001 := Aside0.mk (Kd.R_drew HO_338001.out)
        replace HO_338002 := Aside0.mk (Kd.R_drew HO_338002.out)
        replace BK328 := Aside0.mk (blk_drew BK328.out)
        replace BK329 := Aside0.mk (blk_drew BK329.out)
        replace BK337 := Aside0.mk (blk_drew BK337.out)
        replace HB := Aside0.mk (below_drew1 HB.out)
        have p338 : 0 ≤ (0 : Int) := (by omega)
        have q338 : 0 < (l0_1.length : Int) := of_decide_eq_true (by first | (with_reducible assumption) | assumption)
        obtain ⟨ad338, e338, hx338_0⟩ := Kd.at_int HR0_1.out 0 p338 q338
        have hw338_0 := hx338_0
        (try rw [show ((0 : Int)).toNat = 0 from rfl] at hw338_0)
        (try rw [show 0 * 1 = 0 from rfl] at hw338_0)
        (try rw [Addr.add_zero'] at hw338_0)
        cases e338
        have qi338 : (0 < l0_1.length) = True := eq_true (by omega)
        (try rw [show ((0 : Int)).toNat = 0 from rfl] at hx338_0)
        (try rw [Addr.add_zero'] at hx338_0)
        replace hx338_0 := hC HB hx338_0
        replace p338 := eq_true p338
        replace q338 := eq_true q338
        have p339 : 0 ≤ (x5_1 : Int) := of_decide_eq_true (by first | (with_reducible assumption) | assumption)
        have q339 : x5_1 < (l0_1.length : Int) := of_decide_eq_true (by first | (with_reducible assumption) | assumption)
        obtain ⟨ad339, e339, hx339_0⟩ := Kd.at_int HR0_1.out x5_1 p339 q339
        have hw339_0 := hx339_0
        obtain rfl : ad338 = ad339 := (by injection e339)
        replace hx339_0 := hC HB hx339_0
        replace p339 := eq_true p339
        replace q339 := eq_true q339
        refine start_ (n := 17) (S := fun w' => w'.cell? ⟨gb337, 0, none⟩ = some (.int .i64 a0_0) ∧ w'.cell? ⟨gb337, 1, none⟩ = some (u338001) ∧ w'.cell? ⟨gb337, 2, none⟩ = some (.slice Ao18 t334.length co18) ∧ w'.cell? ⟨gb328, 0, none⟩ = some (.int .i64 a0_0) ∧ w'.cell? ⟨gb328, 1, none⟩ = some (.slice (some ad338) l0_1.length c0_1) ∧ w'.cell? ⟨gb328, 2, none⟩ = some (.slice A0_2 l0_2.length c0_2) ∧ w'.cell? ad338 = some (.int .i64 (rd l0_1 0)) ∧ w'.cell? (ad338.add (x5_1).toNat) = some (.int .i64 (rd l0_1 x5_1))) (ds := [16]) #[n_, n_, n_, n_, n_, n_, n_, n_, n_, n_, n_, n_, n_, n_, n_, n_, n_] (by kernel_rfl) rfl rfl ⟨(blk_cell BK337.out 0).trans rfl, (blk_cell BK337.out 1).trans rfl, (blk_cell BK337.out 2).trans rfl, (blk_cell BK328.out 0).trans rfl, (blk_cell BK328.out 1).trans rfl, (blk_cell BK328.out 2).trans rfl, ((HB.out.cell (World.block_lt_of_cell? w _ hw338_0)).trans hw338_0), ((HB.out.cell (World.block_lt_of_cell? w _ hw339_0)).trans hw339_0)⟩ (fun hHeld => ?_); refine with_tabW spec_MirrorPile.tab7 spec_MirrorPile.bits7 (fun HT_ HW_ => ?_)
        generalize wr.drew = w30 at HO_338001 HO_338002 BK328 BK329 BK337 HB hx338_0 hx339_0 hHeld ⊢
        refine pu 0 (some 24) #[y_, n_, n_, n_, n_, n_, n_, n_, n_, n_, n_, n_, n_, n_, n_, n_, n_] (any_of HT_.out (by kernel_rfl)) ?_
        refine pu 2 (some 26) #[y_, n_, y_, n_, n_, n_, n_, n_, n_, n_, n_, n_, n_, n_, n_, n_, n_] (any_of HT_.out (by kernel_rfl)) ?_
        refine pu 7 (some 31) #[y_, n_, y_, n_, n_, n_, n_, y_, n_, n_, n_, n_, n_, n_, n_, n_, n_] (any_of HT_.out (by kernel_rfl)) ?_
        refine pu 9 (some 33) #[y_, n_, y_, n_, n_, n_, n_, y_, n_, y_, n_, n_, n_, n_, n_, n_, n_] (any_of HT_.out (by kernel_rfl)) ?_
        refine tk 1 (some 25) #[y_, y_, y_, n_, n_, n_, n_, y_, n_, y_, n_, n_, n_, n_, n_, n_, n_] rfl (take_ofW HT_.out HW_.out (by kernel_rfl)) hHeld (Or.inl ⟨by rfl, by rintro w' ⟨s0, s1, s2, s3, s4, s5, s6, s7⟩; go_simp; with_reducible rfl⟩) ?_
        refine tk 3 (some 27) #[y_, y_, y_, y_, n_, n_, n_, y_, n_, y_, n_, n_, n_, n_, n_, n_, n_] rfl (take_ofW HT_.out HW_.out (by kernel_rfl)) hHeld (Or.inl ⟨by rfl, by rintro w' ⟨s0, s1, s2, s3, s4, s5, s6, s7⟩; go_simp; with_reducible rfl⟩) ?_
        refine pu 4 (some 28) #[y_, y_, y_, y_, y_, n_, n_, y_, n_, y_, n_, n_, n_, n_, n_, n_, n_] (any_of HT_.out (by kernel_rfl)) ?_
        refine tk 5 (some 29) #[y_, y_, y_, y_, y_, y_, n_, y_, n_, y_, n_, n_, n_, n_, n_, n_, n_] rfl (take_ofW HT_.out HW_.out (by kernel_rfl)) hHeld (Or.inl ⟨by rfl, by rintro w' ⟨s0, s1, s2, s3, s4, s5, s6, s7⟩; go_simp; with_reducible rfl⟩) ?_
        refine pu 6 (some 30) #[y_, y_, y_, y_, y_, y_, y_, y_, n_, y_, n_, n_, n_, n_, n_, n_, n_] (any_of HT_.out (by kernel_rfl)) ?_
        refine tk 8 (some 32) #[y_, y_, y_, y_, y_, y_, y_, y_, y_, y_, n_, n_, n_, n_, n_, n_, n_] rfl (take_ofW HT_.out HW_.out (by kernel_rfl)) hHeld (Or.inl ⟨by rfl, by rintro w' ⟨s0, s1, s2, s3, s4, s5, s6, s7⟩; go_simp; with_reducible rfl⟩) ?_
        refine pu 10 (some 34) #[y_, y_, y_, y_, y_, y_, y_, y_, y_, y_, y_, n_, n_, n_, n_, n_, n_] (any_of HT_.out (by kernel_rfl)) ?_
        refine tk 11 (some 35) #[y_, y_, y_, y_, y_, y_, y_, y_, y_, y_, y_, y_, n_, n_, n_, n_, n_] rfl (take_ofW HT_.out HW_.out (by kernel_rfl)) hHeld (Or.inl ⟨by rfl, by rintro w' ⟨s0, s1, s2, s3, s4, s5, s6, s7⟩; go_simp; with_reducible rfl⟩) ?_
        refine pu 12 (some 36) #[y_, y_, y_, y_, y_, y_, y_, y_, y_, y_, y_, y_, y_, n_, n_, n_, n_] (any_of HT_.out (by kernel_rfl)) ?_
        refine one_ (i := 13) (N := some 37) #[y_, y_, y_, y_, y_, y_, y_, y_, y_, y_, y_, y_, y_, y_, n_, n_, n_] rfl rfl (one_of HT_.out (by kernel_rfl)) (by decide) (fun K hK => ?_)
        refine value_ (w1 := ?_) (v := ?_) (by rfl) rfl ?_ ?_
        rotate_left 2
        ·
         go_simp
         constructor
         ·
          rfl
         ·
          rfl
        refine hK.out _ _ ⟨(blk_cell (blk_alloc BK337.out _) 0).trans rfl, (blk_cell (blk_alloc BK337.out _) 1).trans rfl, (blk_cell (blk_alloc BK337.out _) 2).trans rfl, (blk_cell (blk_alloc BK328.out _) 0).trans rfl, (blk_cell (blk_alloc BK328.out _) 1).trans rfl, (blk_cell (blk_alloc BK328.out _) 2).trans rfl, (World.cell?_alloc_lt _ _ _ (World.block_lt_of_cell? _ _ (((HB.out.cell (World.block_lt_of_cell? w _ hw338_0)).trans hw338_0)))).trans (((HB.out.cell (World.block_lt_of_cell? w _ hw338_0)).trans hw338_0)), (World.cell?_alloc_lt _ _ _ (World.block_lt_of_cell? _ _ (((HB.out.cell (World.block_lt_of_cell? w _ hw339_0)).trans hw339_0)))).trans (((HB.out.cell (World.block_lt_of_cell? w _ hw339_0)).trans hw339_0))⟩ (fun hHeld => ?_)
        clear hK K
        refine norm_ (a' := ?_) ?_ ?_
        rotate_left
        ·
         show Act.put _ (some 37) _ = _
         simp only [Act.put, List.setIfInBounds_toArray, List.set_cons_zero, List.set_cons_succ, i64_w, i32_w]
         rfl
        refine one_ (i := 14) (N := some 38) #[y_, y_, y_, y_, y_, y_, y_, y_, y_, y_, y_, y_, y_, y_, y_, n_, n_] rfl rfl (one_of HT_.out (by kernel_rfl)) (by decide) (fun K hK => ?_)
        refine Kd.R_append_step (Kd.int .i64) (w0 := w) w.heap.size (by rfl) (.tmp 25) (.tmp 37) 25 3 (.int .i64 0) 8 rfl Try.underlying25 info3 rfl (by decide) (by omega) u338001 x338001_1 (wrap64 ((wrap64 (2 * (rd l0_1 0))) - (rd l0_1 x5_1))) [.int .i64 (wrap64 ((wrap64 (2 * (rd l0_1 0))) - (rd l0_1 x5_1)))] (fun k_ => some k_ ≠ (.slice Ao18 t334.length co18 : Value).ownBlock) (fun _ => False) rfl rfl ?aP (fun _ hk => hk.elim) ?aF ?aO ?aB ?aS ?aL ?_
        (case aP => exact rfl)
        (case aB => exact (tB HB.out))
        (case aF => exact (fun k_ hk => Kd.fresh' (Kd.R_lt (tR HO_338002.out)) k_ hk))
        (case aO => exact (tR HO_338001.out))
        (case aS => exact (below_size (tB HB.out)))
        (case aL => have := LMc26.out; omega)
        intro v341 w31 ho hb hg hat
        rw [← Ny340.out] at ho
        replace HO_338002 := Aside0.mk (Kd.R_after (ok := (fun _ => True)) (by (with_reducible repeat (first | apply Kd.R_alloc | apply Kd.R_drewN | apply Kd.R_drew)); exact Kd.R_mono HO_338002.out (fun _ hk => ⟨trivial, hk⟩)) hg hat)
        replace BK328 := Aside0.mk (blk_grown (g := gb328) (o := .cells #[.int .i64 a0_0, .slice (some ad338) l0_1.length c0_1, .slice A0_2 l0_2.length c0_2] 27 (0, 0)) (tK BK328.out) hg (Kd.R_ne HO_338001.out BK328.out (by decide)))
        replace BK329 := Aside0.mk (blk_grown (g := gb329) (o := .cells #[.int .i64 0, .slice none 0 0, .slice none 0 0] 27 (0, 0)) (tK BK329.out) hg (Kd.R_ne HO_338001.out BK329.out (by decide)))
        replace BK337 := Aside0.mk (blk_grown (g := gb337) (o := .cells #[.int .i64 a0_0, u338001, .slice Ao18 t334.length co18] 27 (0, 0)) (tK BK337.out) hg (Kd.R_ne HO_338001.out BK337.out (by decide)))
        replace HB := Aside0.mk (hb)
        have HO342 := Aside0.mk (ho)
        clear HO_338001
        clear ho hb hg hat
        obtain ⟨Ao32, co32, eo32⟩ := Kd.R_slice HO342.out
        (first | subst eo32 | (injection eo32 with f1_ f2_ f3_; have f4_ := f1_.symm; have f5_ := f3_.symm; clear f1_ f2_ f3_; subst f4_; subst f5_))
        refine hK.out _ _ ⟨(blk_cell BK337.out 0).trans rfl, (blk_cell BK337.out 1).trans rfl, (blk_cell BK337.out 2).trans rfl, (blk_cell BK328.out 0).trans rfl, (blk_cell BK328.out 1).trans rfl, (blk_cell BK328.out 2).trans rfl, ((HB.out.cell (World.block_lt_of_cell? w _ hw338_0)).trans hw338_0), ((HB.out.cell (World.block_lt_of_cell? w _ hw339_0)).trans hw339_0)⟩ (fun hHeld => ?_)
        clear hK K
        refine norm_ (a' := ?_) ?_ ?_
        rotate_left
        ·
         show Act.put _ (some 38) _ = _
         simp only [Act.put, List.setIfInBounds_toArray, List.set_cons_zero, List.set_cons_succ, i64_w, i32_w]
         rfl
        refine pu 15 (some 39) #[y_, y_, y_, y_, y_, y_, y_, y_, y_, y_, y_, y_, y_, y_, y_, y_, n_] (any_of HT_.out (by kernel_rfl)) ?_
        refine last_ (i := 16) (N := none) #[y_, y_, y_, y_, y_, y_, y_, y_, y_, y_, y_, y_, y_, y_, y_, y_, y_] rfl rfl (one_of HT_.out (by kernel_rfl)) (by decide) (fun K hK => ?_)
        have hs33 : w31.cell? ⟨gb337, 1, none⟩ = some (u338001) := (blk_cell BK337.out 1).trans rfl
        have hfs33 := blk_frozen BK337.out 1
        have hns33_0 := NB328_337.out
        have hns33_1 := NB329_337.out
        have hms33_0 := NB337_328.out
        have hms33_1 := NB337_329.out
        refine skip_ (w1 := ?_) (by rfl) rfl ?_ ?_
        rotate_left
        ·
         go_simp
         rfl
        refine hK.out _ _ ?_
        clear hK K
        refine done_ (done_of HT_.out (by kernel_rfl)) ?_
        try go_wp2
        go_roundg k1
        case measure => have := HK1.out; omega
        case rel => exact ⟨(wrap64 (x5_1 + 1)), (y340), (.slice Ao32 y340.length co32), (by first | rfl | (simp; done) | (simp [wrap64]; done) | (simp [*]; done)), H', ⟨by have := HK1.out; omega⟩, ⟨by (with_reducible repeat (first | apply Kd.R_alloc | apply Kd.R_drewN | apply Kd.R_drew)); exact Kd.R_mono (Kd.R_far (p := ⟨gb337, 1, none⟩) (Kd.R_types HO342.out BK337.out (by decide)) (fun _ hk => hk.2) (.slice Ao32 y340.length co32)) (fun _ hk => hk.1)⟩, ⟨by (with_reducible repeat (first | apply Kd.R_alloc | apply Kd.R_drewN | apply Kd.R_drew)); exact Kd.R_mono (Kd.R_far (p := ⟨gb337, 1, none⟩) (Kd.R_types HO_338002.out BK337.out (by decide)) (fun _ hk => hk.2) (.slice Ao32 y340.length co32)) (fun _ hk => hk.1.2)⟩, ⟨by (with_reducible repeat (first | refine blk_drewN ?_ _ | refine blk_drew ?_ | refine blk_alloc ?_ _)); refine blk_far ?_ NB328_337.out _; (with_reducible repeat (first | refine blk_drewN ?_ _ | refine blk_drew ?_ | refine blk_alloc ?_ _)); exact BK328.out⟩, ⟨by (with_reducible repeat (first | refine blk_drewN ?_ _ | refine blk_drew ?_ | refine blk_alloc ?_ _)); refine blk_far ?_ NB329_337.out _; (with_reducible repeat (first | refine blk_drewN ?_ _ | refine blk_drew ?_ | refine blk_alloc ?_ _)); exact BK329.out⟩, ⟨by (with_reducible repeat (first | refine blk_drewN ?_ _ | refine blk_drew ?_ | refine blk_alloc ?_ _)); refine blk_put (cs := #[.int .i64 a0_0, u338001, .slice Ao18 t334.length co18]) ?_ 1 _ rfl; (with_reducible repeat (first | refine blk_drewN ?_ _ | refine blk_drew ?_ | refine blk_alloc ?_ _)); exact BK337.out⟩, ⟨tB HB.out⟩⟩
       ·
        rw [if_neg c26] at H
        exact absurd H (by simp)
      ·
       rw [if_neg c25] at H
       exact absurd H (by simp)
     ·
      rw [if_neg c24] at H
      exact absurd H (by simp)
    ·
     rw [if_neg c23] at H
     have c23b0 : decide (x5_1 < (l0_1.length : Int)) = false := decide_eq_false c23
     clear c23
     replace H := Option.bind_eq_some_iff.mp H
     obtain ⟨⟨t343, t344, t347, t350⟩, A340, H⟩ := H
     replace H : (some (t343, t344, t347, t350)) = some (r1, r2, r3, r4) := H
     have A34 := Aside0.mk A340
     clear A340
     simp only [Option.some.injEq, Prod.mk.injEq] at H
     obtain ⟨rfl, rfl, rfl, rfl⟩ := H
     have hnb35 := NB328_329.out
     have hnc35 := NB329_328.out
     have hnb36 := NB328_337.out
     have hnc36 := NB337_328.out
     obtain ⟨hcz37_0, hfz37_0, hcz37_1, hfz37_1, hcz37_2, hfz37_2⟩ := cz3 BK328
     have hnb38 := NB337_329.out
     have hnc38 := NB329_337.out
     obtain ⟨hcz39_0, hfz39_0, hcz39_1, hfz39_1, hcz39_2, hfz39_2⟩ := cz3 BK337
     obtain ⟨Ao40, co40, eo40⟩ := Kd.R_slice HO_338001.out
     subst eo40
     go_wp2_with (first | ((with_reducible refine gate_callee (f := 74) rfl ?_); refine goesL_ (some 41) rfl rfl Try.func74 (by kernel_rfl) rfl #[.agg #[.int .i64 a0_0, .slice Ao40 x338001_1.length co40, .slice Ao18 t334.length co18]] rfl tM ?_; (with_reducible refine (spec_l4Kept.calls k1 a0_0 (fun k_ => some k_ = (.slice Ao40 x338001_1.length co40 : Value).ownBlock) (.slice Ao40 x338001_1.length co40) x338001_1 (fun k_ => some k_ = (.slice Ao18 t334.length co18 : Value).ownBlock) (.slice Ao18 t334.length co18) t334 t343 t344 t347 t350 w _ ?side1 ?side2 ?side3 ?side4 ?side5 A34.out).mono ?_); (case side1 => repeat (first | (with_reducible first | exact HB.out | apply below_alloc | apply pw_below_drewN | apply below_drew1 | refine below_set ?_ GE328.out | refine below_set ?_ GE329.out | refine below_set ?_ GE337.out) | exact HB.out)); (case side2 => exact Kd.R_tight rfl HO_338001.out); (case side3 => exact fun k_ e_ => (HO_338001.out.1 k_ e_.symm)); (case side4 => exact Kd.R_tight rfl HO_338002.out); (case side5 => exact fun k_ e_ => (HO_338002.out.1 k_ e_.symm)); rintro e w41 ⟨v345, v348, rfl, ho0, ho1, hb, hkp⟩; refine ⟨_, rfl, ?_⟩; replace BK328 := Aside0.mk (blk_kept (tK BK328.out) hkp (fun hs_ => Or.elim hs_ (fun e_ => (fun e_ => (Kd.R_ne HO_338001.out BK328.out (by decide)) e_) e_) (fun e_ => (fun e_ => (Kd.R_ne HO_338002.out BK328.out (by decide)) e_) e_))); replace BK329 := Aside0.mk (blk_kept (tK BK329.out) hkp (fun hs_ => Or.elim hs_ (fun e_ => (fun e_ => (Kd.R_ne HO_338001.out BK329.out (by decide)) e_) e_) (fun e_ => (fun e_ => (Kd.R_ne HO_338002.out BK329.out (by decide)) e_) e_))); replace BK337 := Aside0.mk (blk_kept (tK BK337.out) hkp (fun hs_ => Or.elim hs_ (fun e_ => (fun e_ => (Kd.R_ne HO_338001.out BK337.out (by decide)) e_) e_) (fun e_ => (fun e_ => (Kd.R_ne HO_338002.out BK337.out (by decide)) e_) e_))); have HO346 := Aside0.mk (Kd.R_mono (ok' := fun k_ => some k_ ≠ (v348 : Value).ownBlock) ho0 (fun k_ hk_ => hk_.2)); have HO349 := Aside0.mk (Kd.R_mono (ok' := fun k_ => some k_ ≠ (v345 : Value).ownBlock) ho1 (fun k_ hk_ => hk_.2)); replace HB := Aside0.mk (hb); clear HO_338001; clear HO_338002; (try clear hb); (try clear hkp); (try clear ho0); (try clear ho1); obtain ⟨hcz42_0, hfz42_0, hcz42_1, hfz42_1, hcz42_2, hfz42_2⟩ := cz3 BK329; obtain ⟨Ao43, co43, eo43⟩ := Kd.R_slice HO346.out; subst eo43; obtain ⟨Ao44, co44, eo44⟩ := Kd.R_slice HO349.out; subst eo44))
     refine bodyPost_ret (results_ct rfl _ _ gb329 27 #[.int .i64 t343, .slice Ao43 t344.length co43, .slice Ao44 t347.length co44] (0, 0) _ rfl (by (with_reducible repeat (first | refine blk_drewN ?_ _ | refine blk_drew ?_ | refine blk_alloc ?_ _)); exact bp3 BK329.out) Try.underlying27 rfl (by kernel_rfl)) rfl ?_
     exact ⟨_, _, by first | rfl | (simp [errW_none, errW_some] <;> rfl) | (simp [*, errW_none, errW_some] <;> rfl), by (with_reducible repeat (first | apply Kd.R_alloc | apply Kd.R_drewN | apply Kd.R_drew)); exact rF3 HO346 BK329, by (with_reducible repeat (first | apply Kd.R_alloc | apply Kd.R_drewN | apply Kd.R_drew)); exact rF3 HO349 BK329, tB HB.out⟩
 ·
  replace c3 := Bool.eq_false_iff.mpr c3
  subst c3
  have H1 : (some (0, ([] : List Int), ([] : List Int), false)) = some (r1, r2, r3, r4) := by rw [if_neg (show ¬ (false = true) by decide)] at H; exact H
  clear H
  have H := H1
  clear H1
  simp only [Option.some.injEq, Prod.mk.injEq] at H
  obtain ⟨rfl, rfl, rfl, rfl⟩ := H
  go_enter Try.func24, Try.ntmps24
  go_wp2_with (first | ((with_reducible refine gate_dst (N := 1) rfl ?_); refine bE 1 #[.int .i64 a0_0, .slice A0_1 l0_1.length c0_1, .slice A0_2 l0_2.length c0_2] 27 ?_; intro gb328 hg w45 hbox hb; have BK328 := Aside0.mk hbox; have GW328 := sB HB hg; have GE328 := GW328; replace HB := hB HB hb; clear hb hbox hg) | ((with_reducible refine gate_dst (N := 2) rfl ?_); refine bE 2 #[.int .i64 0, .slice none 0 0, .slice none 0 0] 27 ?_; intro gb329 hg w46 hbox hb; have BK329 := Aside0.mk hbox; have GW329 := sB HB hg; have GE329 := GW329; replace HB := hB HB hb; have NB328_329 := lN BK328 hg; have NB329_328 := gN NB328_329; replace BK328 := bkB BK328 hb; clear hb hbox hg; have hnb47 := NB328_329.out; have hnc47 := NB329_328.out; obtain ⟨hcz48_0, hfz48_0, hcz48_1, hfz48_1, hcz48_2, hfz48_2⟩ := cz3 BK328) | ((with_reducible refine gate_callee (f := 56) rfl ?_); refine goesL_ (some 7) rfl rfl Try.func56 (by kernel_rfl) rfl #[.agg #[.int .i64 a0_0, .slice A0_1 l0_1.length c0_1, .slice A0_2 l0_2.length c0_2]] rfl tM ?_; (with_reducible refine (spec_l4Pile.calls k a0_0 _ _ l0_1 _ _ l0_2 false _ ?side1 ?side2 ?side3 ?side4 A2.out).mono ?_); (case side1 => exact cB HR0_1 HB); (case side2 => exact HC0_1.out); (case side3 => exact cB HR0_2 HB); (case side4 => exact HC0_2.out); rintro e w49 ⟨rfl, hb⟩; refine ⟨_, rfl, ?_⟩; replace BK328 := bkB BK328 hb; replace BK329 := bkB BK329 hb; replace HB := hB HB hb; (try clear hb); obtain ⟨hcz50_0, hfz50_0, hcz50_1, hfz50_1, hcz50_2, hfz50_2⟩ := cz3 BK329))
  refine bodyPost_ret (results_ct rfl _ _ gb329 27 #[.int .i64 0, .slice none 0 0, .slice none 0 0] (0, 0) _ rfl (by (with_reducible repeat (first | refine blk_drewN ?_ _ | refine blk_drew ?_ | refine blk_alloc ?_ _)); exact bp3 BK329.out) Try.underlying27 rfl (by kernel_rfl)) rfl ?_
  exact ⟨_, _, by first | rfl | (simp [errW_none, errW_some] <;> rfl) | (simp [*, errW_none, errW_some] <;> rfl), by first | exact Kd.R_nil _ _ _ _ _ | exact Kd.N_nil _ _ _ _ _ | exact Kd.V_nil _ _ _ _ _ | exact Kd.Q_nil _ _ _ _ _ | exact Kd.S_nil _ _ _ _ _, by first | exact Kd.R_nil _ _ _ _ _ | exact Kd.N_nil _ _ _ _ _ | exact Kd.V_nil _ _ _ _ _ | exact Kd.Q_nil _ _ _ _ _ | exact Kd.S_nil _ _ _ _ _, tB HB.out⟩
end Go.Proofs.Ytnnpfekgapikfaa.PFnPiles

/- Printed by the program print2.py over the translation: each function as a Lean function, and the proof that the call comes to its answer. -/
import Derived.Test.YtnnpfekgapikfaaPFnExactEdgePilex0
import Derived.Test.YtnnpfekgapikfaaPFnExactEdgePilex2
import Derived.Test.YtnnpfekgapikfaaPFnExactEdgePilex3
namespace Go.Proofs.Ytnnpfekgapikfaa.PFnExactEdgePile
open Go.RowKit Go.Proofs.YtnnpfekgapikfaaW.PrintWords Go.Proofs.YtnnpfekgapikfaaW.PrintLast Go.Proofs.YtnnpfekgapikfaaW.PrintMore
attribute [local go_sem] max2_int min2_int max_two min_two max_three min_three max_four min_four   -- for this text's walks alone
set_option linter.unusedVariables false
set_option linter.unusedSimpArgs false

/-! ### impl_EdgePile: function 10 -/
mutual
def impl_EdgePile.l0 : Nat → Int → Int → Int → List Int → List Int → Option (Int × List Int × List Int × Bool)
 | 0, _, _, _, _, _ => none
 | k + 1, x0, x1, x205000, x205001, x205002 => if (x205001.length : Int) < x1 then (if x205002.length < 17592186044416 then (if 0 < (x205001.length : Int) then (impl_EdgePile.l1 k x0 x1 (wrap64 ((rd x205001 0) - x0)) x205000 x205001 (x205002 ++ [1])) else (none)) else (none)) else (if 0 < (x205001.length : Int) then (impl_EdgePile.l2 k (wrap64 (-(rd x205001 0))) x205000 x205001 x205002) else (none))
def impl_EdgePile.l1 : Nat → Int → Int → Int → Int → List Int → List Int → Option (Int × List Int × List Int × Bool)
 | 0, _, _, _, _, _, _ => none
 | k + 1, x0, x1, x7, x205000, x205001, x205002 => (slices_Concat_int_int.f k (([(([x7] : List Int)), x205001] : List (List Int)))).bind fun t215 => ((impl_Pile_holds.f k x0 t215 x205002 1).bind fun t219 => (if t219 = true then (impl_EdgePile.l0 k x0 x1 x0 t215 x205002) else (impl_EdgePile.l1 k x0 x1 (wrap64 (x7 + 1)) x205000 x205001 x205002)))
def impl_EdgePile.l2 : Nat → Int → Int → List Int → List Int → Option (Int × List Int × List Int × Bool)
 | 0, _, _, _, _ => none
 | k + 1, x9, x205000, x205001, x205002 => (impl_Pile_moved.f k x205000 x205001 x205002 x9).bind fun bt221 => ((impl_Pile_holds.f k bt221.1 bt221.2.1 bt221.2.2 0).bind fun t229 => (if t229 = true then ((impl_IsPile.f k bt221.1 bt221.2.1 bt221.2.2).bind fun t230 => (if t230 = true then (some (bt221.1, bt221.2.1, bt221.2.2, true)) else (some (0, ([] : List Int), ([] : List Int), false)))) else (impl_EdgePile.l2 k (wrap64 (x9 - 1)) x205000 x205001 x205002)))
end
def impl_EdgePile.f (k : Nat) (a0 : Int) (a1 : Int) : Option (Int × List Int × List Int × Bool) := (impl_isSize.f a0 a1).bind fun t197 => (if t197 = true then (impl_EdgePile.l0 k a0 a1 a0 (([0] : List Int)) (([1] : List Int))) else (some (0, ([] : List Int), ([] : List Int), false)))
def impl_EdgePile.T7 : Bool × List (List Nat × List Nat) := (true, [([], []), ([], []), ([1], [1]), ([], []), ([3], [3]), ([2, 4], [2, 4]), ([5], [5]), ([], []), ([7], [7]), ([0, 6, 8], [0, 6, 8]), ([], []), ([10, 9, 6, 0, 1, 2, 3, 4, 5, 6, 7, 8, 9, 10], [9, 10])])
def impl_EdgePile.B7 : List Nat := [0, 0, 2, 0, 8, 30, 62, 0, 128, 511, 0, 2047]
theorem impl_EdgePile.tab7 : rtab .any (opsOf Try.f10 7) = impl_EdgePile.T7 := by kernel_rfl
theorem impl_EdgePile.bits7 : waitsOk impl_EdgePile.T7.2 impl_EdgePile.B7 = true := by kernel_rfl
set_option maxHeartbeats 8000000 in
set_option maxRecDepth 100000 in
theorem impl_EdgePile.calls (k : Nat) (a0 : Int) (a1 : Int) (r1 : Int) (r2 : List Int) (r3 : List Int) (r4 : Bool) (w : World) (h : impl_EdgePile.f k a0 a1 = some (r1, r2, r3, r4)) :
  Calls Try.prog 10 #[.int .i64 a0, .int .i64 a1] w fun e w' => ∃ v1_ v2_ : Value, e = .returned (.tuple #[.agg #[.int .i64 r1, v1_, v2_], .bool r4]) ∧ Kd.R (Kd.int .i64) 3 w' w.heap.size (fun k_ => some k_ ≠ (v2_ : Value).ownBlock) v1_ r2 ∧ Kd.R (Kd.int .i64) 3 w' w.heap.size (fun k_ => some k_ ≠ (v1_ : Value).ownBlock) v2_ r3 ∧ Below w.heap.size w w' := by
 have hu27 := Try.underlying27
 have HB := Aside0.mk (Below.refl w.heap.size w)
 have H : ((impl_isSize.f a0 a1).bind fun t197 => (if t197 = true then (impl_EdgePile.l0 k a0 a1 a0 (([0] : List Int)) (([1] : List Int))) else (some (0, ([] : List Int), ([] : List Int), false)))) = some (r1, r2, r3, r4) := h
 clear h
 replace H := Option.bind_eq_some_iff.mp H
 obtain ⟨t197, A30, H⟩ := H
 replace H : (if t197 = true then (impl_EdgePile.l0 k a0 a1 a0 (([0] : List Int)) (([1] : List Int))) else (some (0, ([] : List Int), ([] : List Int), false))) = some (r1, r2, r3, r4) := H
 have A3 := Aside0.mk A30
 clear A30
 by_cases c4 : t197 = true
 ·
  subst c4
  have H1 : (impl_EdgePile.l0 k a0 a1 a0 (([0] : List Int)) (([1] : List Int))) = some (r1, r2, r3, r4) := by rw [if_pos rfl] at H; exact H
  clear H
  have H := H1
  clear H1
  obtain ⟨y198, hy198⟩ : ∃ y_ : List Int, y_ = (([0] : List Int)) := ⟨_, rfl⟩
  replace H : (impl_EdgePile.l0 k a0 a1 a0 y198 (([1] : List Int))) = some (r1, r2, r3, r4) := by first | (rw [hy198]; with_reducible exact H) | (have H2_ := (Option.bind_some _ _).symm.trans H; rw [hy198]; with_reducible exact H2_) | (have H2_ := (Option.bind_some _ _).symm.trans H; with_reducible exact H2_) | with_reducible exact H | (rw [hy198]; exact H) | exact H
  have Ny198 := Aside0.mk hy198
  clear hy198
  obtain ⟨y201, hy201⟩ : ∃ y_ : List Int, y_ = (([1] : List Int)) := ⟨_, rfl⟩
  replace H : (impl_EdgePile.l0 k a0 a1 a0 y198 y201) = some (r1, r2, r3, r4) := by first | (rw [hy201]; with_reducible exact H) | (have H2_ := (Option.bind_some _ _).symm.trans H; rw [hy201]; with_reducible exact H2_) | (have H2_ := (Option.bind_some _ _).symm.trans H; with_reducible exact H2_) | with_reducible exact H | (rw [hy201]; exact H) | exact H
  have Ny201 := Aside0.mk hy201
  clear hy201
  have H' := Aside0.mk H
  clear H
  go_enter Try.func10, Try.ntmps10
  go_wp2_with (first | ((with_reducible refine gate_dst (N := 4) rfl ?_); refine bE 4 #[.int .i64 0, .slice none 0 0, .slice none 0 0] 27 ?_; intro gb196 hg w5 hbox hb; have BK196 := Aside0.mk hbox; have GW196 := sB HB hg; have GE196 := GW196; replace HB := hB HB hb; clear hb hbox hg) | ((with_reducible refine gate_callee (f := 54) rfl ?_); refine goesL_ (some 13) rfl rfl Try.func54 (by kernel_rfl) rfl #[.int .i64 a0, .int .i64 a1] rfl tM ?_; (with_reducible refine (impl_isSize.calls a0 a1 true _ A3.out).mono ?_); rintro e w' ⟨rfl, ⟨nd, rfl⟩⟩; refine ⟨_, rfl, ?_⟩; (try (rw [drewN_self w5]; generalize hq_ : World.drewN w5 _ = w5; have n0_ : Aside0 (w5.heap[gb196]? = some (.cells #[.int .i64 0, .slice none 0 0, .slice none 0 0] 27 (0, 0))) := ⟨by rw [← hq_]; exact (tK BK196.out)⟩; have n1_ : Aside0 (Below w.heap.size w w5) := ⟨by rw [← hq_]; exact (tB HB.out)⟩; clear BK196 HB hq_; have BK196 := n0_; have HB := n1_; clear n0_ n1_))) | ((with_reducible refine gate_dst (N := 17) rfl ?_); refine Kd.R_lit (Kd.int .i64) _ 3 ?hg (N := 17) ?hd (xs := ([0] : List Int)) (inner := [.int .i64 0]) (ok := fun _ => True) (okp := fun _ => True) ?hr ?hp (fun _ hk => hk) trivial (Below.refl _ _) (Nat.le_refl _) (by simp) ?_; (case hd => rfl); (case hg => rfl); (case hr => first | (go_simp; done) | (go_simp; rfl)); (case hp => exact (Reps.one (show Kd.M (Kd.int .i64) _ _ _ 0 [.int .i64 0] from rfl) (Reps.none _ _))); intro v199 w6 ho7 hb hg_ hnew_; clear hg_ hnew_; (first | rw [← Ny198.out] at ho7 | (simp only [Int.reduceToNat] at ho7; rw [← Ny198.out] at ho7)); have HO200 := Aside0.mk (Kd.R_lower ho7 (below_size (tB HB.out))); replace BK196 := bkB BK196 hb; replace HB := hB HB hb; clear hb ho7) | ((with_reducible refine gate_dst (N := 18) rfl ?_); refine Kd.R_lit (Kd.int .i64) _ 3 ?hg (N := 18) ?hd (xs := ([1] : List Int)) (inner := [.int .i64 1]) (ok := fun _ => True) (okp := fun _ => True) ?hr ?hp (fun _ hk => hk) trivial (Below.refl _ _) (Nat.le_refl _) (by simp) ?_; (case hd => rfl); (case hg => rfl); (case hr => first | (go_simp; done) | (go_simp; rfl)); (case hp => exact (Reps.one (show Kd.M (Kd.int .i64) _ _ _ 1 [.int .i64 1] from rfl) (Reps.none _ _))); intro v202 w8 ho9 hb hg_ hnew_; clear hg_ hnew_; (first | rw [← Ny201.out] at ho9 | (simp only [Int.reduceToNat] at ho9; rw [← Ny201.out] at ho9)); have HO203 := Aside0.mk (Kd.R_lower (Kd.R_new' ho9 (Kd.R_lt (tR HO200.out))) (below_size (tB HB.out))); replace HO200 := Aside0.mk (Kd.R_elder' (tR HO200.out) (Kd.R_base ho9) hb); replace BK196 := bkB BK196 hb; replace HB := hB HB hb; clear hb ho9; obtain ⟨Ao10, co10, eo10⟩ := Kd.R_slice HO203.out; subst eo10; obtain ⟨Ao11, co11, eo11⟩ := Kd.R_slice HO200.out; subst eo11) | ((with_reducible refine gate_dst (N := 6) rfl ?_); refine bE 6 #[.int .i64 0, .slice none 0 0, .slice none 0 0] 27 ?_; intro gb204 hg w12 hbox hb; replace HO200 := rB HO200 hb; replace HO203 := rB HO203 hb; have BK204 := Aside0.mk hbox; have GW204 := sB HB hg; have GE204 := GW204; replace HB := hB HB hb; have NB196_204 := lN BK196 hg; have NB204_196 := gN NB196_204; replace BK196 := bkB BK196 hb; clear hb hbox hg; have hnb13 := NB204_196.out; have hnc13 := NB196_204.out; obtain ⟨hcz14_0, hfz14_0, hcz14_1, hfz14_1, hcz14_2, hfz14_2⟩ := cz3 BK204))
  go_loopg [] k (fun kq w' => ∃ (x205000_1 : Int) (x205001_1 : List Int) (x205002_1 : List Int) (u205001 : Value) (u205002 : Value), Aside0 (impl_EdgePile.l0 kq a0 a1 x205000_1 x205001_1 x205002_1 = some (r1, r2, r3, r4)) ∧ Aside0 (kq ≤ k) ∧ Aside0 (Kd.R (Kd.int .i64) 3 w' w.heap.size (fun k_ => some k_ ≠ (u205002 : Value).ownBlock) u205001 x205001_1) ∧ Aside0 (Kd.R (Kd.int .i64) 3 w' w.heap.size (fun k_ => some k_ ≠ (u205001 : Value).ownBlock) u205002 x205002_1) ∧ Aside0 (w'.heap[gb196]? = some (.cells #[.int .i64 0, (.slice none 0 0), (.slice none 0 0)] 27 (0, 0))) ∧ Aside0 (w'.heap[gb204]? = some (.cells #[.int .i64 x205000_1, u205001, u205002] 27 (0, 0))) ∧ Aside0 (Below w.heap.size w w'))
  case atStart => exact ⟨(a0), (y198), (y201), (.slice Ao11 y198.length co11), (.slice Ao10 y201.length co10), H', ⟨Nat.le_refl _⟩, ⟨by (with_reducible repeat (first | apply Kd.R_alloc | apply Kd.R_drewN | apply Kd.R_drew)); exact Kd.R_mono (Kd.R_far (p := ⟨gb204, 2, none⟩) (Kd.R_far (p := ⟨gb204, 1, none⟩) (Kd.R_far (p := ⟨gb204, 0, none⟩) (Kd.R_types HO200.out BK204.out (by decide)) (fun _ hk => hk.2) (.int .i64 a0)) (fun _ hk => hk.2) (.slice Ao11 y198.length co11)) (fun _ hk => hk.2) (.slice Ao10 y201.length co10)) (fun _ hk => hk.1.2)⟩, ⟨by (with_reducible repeat (first | apply Kd.R_alloc | apply Kd.R_drewN | apply Kd.R_drew)); exact Kd.R_mono (Kd.R_far (p := ⟨gb204, 2, none⟩) (Kd.R_far (p := ⟨gb204, 1, none⟩) (Kd.R_far (p := ⟨gb204, 0, none⟩) (Kd.R_types HO203.out BK204.out (by decide)) (fun _ hk => hk.2) (.int .i64 a0)) (fun _ hk => hk.2) (.slice Ao11 y198.length co11)) (fun _ hk => hk.2) (.slice Ao10 y201.length co10)) (fun _ hk => hk.1.2)⟩, ⟨by (with_reducible repeat (first | refine blk_drewN ?_ _ | refine blk_drew ?_ | refine blk_alloc ?_ _)); refine blk_far ?_ NB196_204.out _; (with_reducible repeat (first | refine blk_drewN ?_ _ | refine blk_drew ?_ | refine blk_alloc ?_ _)); refine blk_far ?_ NB196_204.out _; (with_reducible repeat (first | refine blk_drewN ?_ _ | refine blk_drew ?_ | refine blk_alloc ?_ _)); refine blk_far ?_ NB196_204.out _; (with_reducible repeat (first | refine blk_drewN ?_ _ | refine blk_drew ?_ | refine blk_alloc ?_ _)); exact BK196.out⟩, ⟨by (with_reducible repeat (first | refine blk_drewN ?_ _ | refine blk_drew ?_ | refine blk_alloc ?_ _)); exact bp3 BK204.out⟩, ⟨tB HB.out⟩⟩
  case round =>
   clear H'
   (try clear c4); (try clear hcz14_0); (try clear hcz14_1); (try clear hcz14_2); (try clear hfz14_0); (try clear hfz14_1); (try clear hfz14_2)
   obtain ⟨x205000_1, x205001_1, x205002_1, u205001, u205002, HA, HK1, HO_205001, HO_205002, BK196, BK204, HB⟩ := hrel
   cases gk with
   | zero => exact absurd HA.out (by simp [impl_EdgePile.l0])
   | succ k1 =>
    have H := HA.out
    clear HA
    simp only [impl_EdgePile.l0] at H
    by_cases c15 : (x205001_1.length : Int) < a1
    ·
     rw [if_pos c15] at H
     have c15b0 : decide ((x205001_1.length : Int) < a1) = true := decide_eq_true c15
     clear c15
     by_cases c16 : x205002_1.length < 17592186044416
     ·
      rw [if_pos c16] at H
      have LMc16 := Aside0.mk c16
      clear c16
      obtain ⟨y205, hy205⟩ : ∃ y_ : List Int, y_ = (x205002_1 ++ [1]) := ⟨_, rfl⟩
      replace H : (if 0 < (x205001_1.length : Int) then (impl_EdgePile.l1 k1 a0 a1 (wrap64 ((rd x205001_1 0) - a0)) x205000_1 x205001_1 y205) else (none)) = some (r1, r2, r3, r4) := by first | (rw [hy205]; with_reducible exact H) | (have H2_ := (Option.bind_some _ _).symm.trans H; rw [hy205]; with_reducible exact H2_) | (have H2_ := (Option.bind_some _ _).symm.trans H; with_reducible exact H2_) | with_reducible exact H | (rw [hy205]; exact H) | exact H
      have Ny205 := Aside0.mk hy205
      clear hy205
      by_cases c17 : 0 < (x205001_1.length : Int)
      ·
       rw [if_pos c17] at H
       have c17b0 : decide (0 < (x205001_1.length : Int)) = true := decide_eq_true c17
       have c17b1 : decide (0 < x205001_1.length) = true := decide_eq_true (by omega)
       clear c17
       have H' := Aside0.mk H
       clear H
       have hnb18 := NB204_196.out
       have hnc18 := NB196_204.out
       obtain ⟨hcz19_0, hfz19_0, hcz19_1, hfz19_1, hcz19_2, hfz19_2⟩ := cz3 BK204
       obtain ⟨Ao20, co20, eo20⟩ := Kd.R_slice HO_205001.out
       subst eo20
       go_wp2_with (first | ((with_reducible refine gate_builtin (b := .append) (xs := #[.tmp 26, .tmp 27]) rfl ?_); at_builtin; refine Kd.R_append (Kd.int .i64) (w0 := w) w.heap.size rfl (.tmp 26) (.tmp 27) 25 3 (.int .i64 0) 8 rfl Try.underlying25 info3 rfl (by decide) (by omega) u205002 x205002_1 1 [.int .i64 1] (fun k_ => some k_ ≠ (.slice Ao20 x205001_1.length co20 : Value).ownBlock) (fun _ => False) rfl rfl ?aP (fun _ hk => hk.elim) ?aF ?aO ?aB ?aS ?aL ?_; (case aP => exact rfl); (case aB => exact (tB HB.out)); (case aF => exact (fun k_ hk => Kd.fresh' (Kd.R_lt (tR HO_205001.out)) k_ hk)); (case aO => exact (tR HO_205002.out)); (case aS => exact (below_size (tB HB.out))); (case aL => have := LMc16.out; omega); intro v206 w21 ho hb hg hat; rw [← Ny205.out] at ho; replace HO_205001 := Aside0.mk (Kd.R_after (ok := (fun _ => True)) (by (with_reducible repeat (first | apply Kd.R_alloc | apply Kd.R_drewN | apply Kd.R_drew)); exact Kd.R_mono HO_205001.out (fun _ hk => ⟨trivial, hk⟩)) hg hat); replace BK196 := Aside0.mk (blk_grown (g := gb196) (o := .cells #[.int .i64 0, .slice none 0 0, .slice none 0 0] 27 (0, 0)) (tK BK196.out) hg (Kd.R_ne HO_205002.out BK196.out (by decide))); replace BK204 := Aside0.mk (blk_grown (g := gb204) (o := .cells #[.int .i64 x205000_1, .slice Ao20 x205001_1.length co20, u205002] 27 (0, 0)) (tK BK204.out) hg (Kd.R_ne HO_205002.out BK204.out (by decide))); replace HB := Aside0.mk (hb); have HO207 := Aside0.mk (ho); clear HO_205002; clear ho hb hg hat; obtain ⟨Ao22, co22, eo22⟩ := Kd.R_slice HO207.out; subst eo22; obtain ⟨hcz23_0, hfz23_0, hcz23_1, hfz23_1, hcz23_2, hfz23_2⟩ := cz3 BK204; have p208 : 0 ≤ (0 : Int) := (by omega); have q208 : 0 < (x205001_1.length : Int) := of_decide_eq_true (by first | (with_reducible assumption) | assumption); obtain ⟨ad208, e208, hx208_0⟩ := Kd.at_int (Kd.R_reads' HO_205001.out).2.2 0 p208 q208; cases e208; have qi208 : (0 < x205001_1.length) = True := eq_true (by omega); (try rw [show ((0 : Int)).toNat = 0 from rfl] at hx208_0); (try rw [Addr.add_zero'] at hx208_0); have hn208_0 : ad208.block ≠ gb204 := Kd.own_blk (Kd.R_ne HO_205001.out BK204.out (by decide)); replace hx208_0 := (cell_far (p := ⟨gb204, 2, none⟩) (by first | (rw [add_block]; exact hn208_0) | (show (Addr.add _ _).block ≠ _; rw [add_block]; exact hn208_0) | exact hn208_0) (.slice Ao22 y205.length co22)).trans hx208_0; clear hn208_0; replace p208 := eq_true p208; replace q208 := eq_true q208))
       go_loopg [7] k1 (fun kq v7 w' => ∃ (x7_2 : Int) (x205000_2 : Int) (x205001_2 : List Int) (x205002_2 : List Int) (u205001 : Value) (u205002 : Value), v7 = .int .i64 x7_2 ∧ Aside0 (impl_EdgePile.l1 kq a0 a1 x7_2 x205000_2 x205001_2 x205002_2 = some (r1, r2, r3, r4)) ∧ Aside0 (kq ≤ k1) ∧ Aside0 (Kd.R (Kd.int .i64) 3 w' w.heap.size (fun k_ => some k_ ≠ (u205002 : Value).ownBlock) u205001 x205001_2) ∧ Aside0 (Kd.R (Kd.int .i64) 3 w' w.heap.size (fun k_ => some k_ ≠ (u205001 : Value).ownBlock) u205002 x205002_2) ∧ Aside0 (w'.heap[gb196]? = some (.cells #[.int .i64 0, (.slice none 0 0), (.slice none 0 0)] 27 (0, 0))) ∧ Aside0 (w'.heap[gb204]? = some (.cells #[.int .i64 x205000_2, u205001, u205002] 27 (0, 0))) ∧ Aside0 (Below w.heap.size w w'))
       case atStart => exact ⟨(wrap64 ((rd x205001_1 0) - a0)), (x205000_1), (x205001_1), (y205), (.slice (some ad208) x205001_1.length co20), (.slice Ao22 y205.length co22), (by first | rfl | (simp; done) | (simp [wrap64]; done) | (simp [*]; done)), H', ⟨Nat.le_refl _⟩, ⟨by (with_reducible repeat (first | apply Kd.R_alloc | apply Kd.R_drewN | apply Kd.R_drew)); exact Kd.R_mono (Kd.R_far (p := ⟨gb204, 2, none⟩) (Kd.R_types HO_205001.out BK204.out (by decide)) (fun _ hk => hk.2) (.slice Ao22 y205.length co22)) (fun _ hk => hk.1.2)⟩, ⟨by (with_reducible repeat (first | apply Kd.R_alloc | apply Kd.R_drewN | apply Kd.R_drew)); exact Kd.R_mono (Kd.R_far (p := ⟨gb204, 2, none⟩) (Kd.R_types HO207.out BK204.out (by decide)) (fun _ hk => hk.2) (.slice Ao22 y205.length co22)) (fun _ hk => hk.1)⟩, ⟨by (with_reducible repeat (first | refine blk_drewN ?_ _ | refine blk_drew ?_ | refine blk_alloc ?_ _)); refine blk_far ?_ NB196_204.out _; (with_reducible repeat (first | refine blk_drewN ?_ _ | refine blk_drew ?_ | refine blk_alloc ?_ _)); exact BK196.out⟩, ⟨by (with_reducible repeat (first | refine blk_drewN ?_ _ | refine blk_drew ?_ | refine blk_alloc ?_ _)); refine blk_put (cs := #[.int .i64 x205000_1, .slice (some ad208) x205001_1.length co20, u205002]) ?_ 2 _ rfl; (with_reducible repeat (first | refine blk_drewN ?_ _ | refine blk_drew ?_ | refine blk_alloc ?_ _)); exact BK204.out⟩, ⟨tB HB.out⟩⟩
       case round =>
        clear H'
        (try clear c4); (try clear c15); (try clear c15b0); (try clear c16); (try clear c17); (try clear c17b0); (try clear c17b1); (try clear hcz14_0); (try clear hcz14_1); (try clear hcz14_2); (try clear hcz19_0); (try clear hcz19_1); (try clear hcz19_2); (try clear hcz23_0); (try clear hcz23_1); (try clear hcz23_2); (try clear hfz14_0); (try clear hfz14_1); (try clear hfz14_2); (try clear hfz19_0); (try clear hfz19_1); (try clear hfz19_2); (try clear hfz23_0); (try clear hfz23_1); (try clear hfz23_2); (try clear hx208_0); (try clear p208); (try clear q208)
        obtain ⟨x7_2, x205000_2, x205001_2, x205002_2, u205001, u205002, rfl, HA, HK2, HO_205001, HO_205002, BK196, BK204, HB⟩ := hrel
        cases gk with
        | zero => exact absurd HA.out (by simp [impl_EdgePile.l1])
        | succ k2 =>
         have H := HA.out
         clear HA
         simp only [impl_EdgePile.l1] at H
         obtain ⟨y209, hy209⟩ : ∃ y_ : List Int, y_ = (([x7_2] : List Int)) := ⟨_, rfl⟩
         replace H : ((slices_Concat_int_int.f k2 (([y209, x205001_2] : List (List Int)))).bind fun t215 => ((impl_Pile_holds.f k2 a0 t215 x205002_2 1).bind fun t219 => (if t219 = true then (impl_EdgePile.l0 k2 a0 a1 a0 t215 x205002_2) else (impl_EdgePile.l1 k2 a0 a1 (wrap64 (x7_2 + 1)) x205000_2 x205001_2 x205002_2)))) = some (r1, r2, r3, r4) := by first | (rw [hy209]; with_reducible exact H) | (have H2_ := (Option.bind_some _ _).symm.trans H; rw [hy209]; with_reducible exact H2_) | (have H2_ := (Option.bind_some _ _).symm.trans H; with_reducible exact H2_) | with_reducible exact H | (rw [hy209]; exact H) | exact H
         have Ny209 := Aside0.mk hy209
         clear hy209
         obtain ⟨y212, hy212⟩ : ∃ y_ : List (List Int), y_ = (([y209, x205001_2] : List (List Int))) := ⟨_, rfl⟩
         replace H : ((slices_Concat_int_int.f k2 y212).bind fun t215 => ((impl_Pile_holds.f k2 a0 t215 x205002_2 1).bind fun t219 => (if t219 = true then (impl_EdgePile.l0 k2 a0 a1 a0 t215 x205002_2) else (impl_EdgePile.l1 k2 a0 a1 (wrap64 (x7_2 + 1)) x205000_2 x205001_2 x205002_2)))) = some (r1, r2, r3, r4) := by first | (rw [hy212]; with_reducible exact H) | (have H2_ := (Option.bind_some _ _).symm.trans H; rw [hy212]; with_reducible exact H2_) | (have H2_ := (Option.bind_some _ _).symm.trans H; with_reducible exact H2_) | with_reducible exact H | (rw [hy212]; exact H) | exact H
         have Ny212 := Aside0.mk hy212
         clear hy212
         replace H := Option.bind_eq_some_iff.mp H
         obtain ⟨t215, A240, H⟩ := H
         replace H : ((impl_Pile_holds.f k2 a0 t215 x205002_2 1).bind fun t219 => (if t219 = true then (impl_EdgePile.l0 k2 a0 a1 a0 t215 x205002_2) else (impl_EdgePile.l1 k2 a0 a1 (wrap64 (x7_2 + 1)) x205000_2 x205001_2 x205002_2))) = some (r1, r2, r3, r4) := H
         have A24 := Aside0.mk A240
         clear A240
         replace H := Option.bind_eq_some_iff.mp H
         obtain ⟨t219, A250, H⟩ := H
         replace H : (if t219 = true then (impl_EdgePile.l0 k2 a0 a1 a0 t215 x205002_2) else (impl_EdgePile.l1 k2 a0 a1 (wrap64 (x7_2 + 1)) x205000_2 x205001_2 x205002_2)) = some (r1, r2, r3, r4) := H
         have A25 := Aside0.mk A250
         clear A250
         by_cases c26 : t219 = true
         ·
          subst c26
          have H1 : (impl_EdgePile.l0 k2 a0 a1 a0 t215 x205002_2) = some (r1, r2, r3, r4) := by rw [if_pos rfl] at H; exact H
          clear H
          have H := H1
          clear H1
          have H' := Aside0.mk H
          clear H
          try go_wp2
          replace HO_205001 := Aside0.mk (Kd.R_drew HO_205001.out)
          replace HO_205002 := Aside0.mk (Kd.R_drew HO_205002.out)
          replace BK196 := Aside0.mk (blk_drew BK196.out)
          replace BK204 := Aside0.mk (blk_drew BK204.out)
          replace HB := Aside0.mk (below_drew1 HB.out)
          obtain ⟨Ao31, co31, eo_⟩ := Kd.R_slice HO_205001.out; subst eo_
          obtain ⟨Ao36, co36, eo_⟩ := Kd.R_slice HO_205002.out; subst eo_
          refine start_ (n := 12) (S := fun w' => w'.cell? ⟨gb204, 0, none⟩ = some (.int .i64 x205000_2) ∧ w'.cell? ⟨gb204, 1, none⟩ = some ((.slice Ao31 x205001_2.length co31)) ∧ w'.cell? ⟨gb204, 2, none⟩ = some ((.slice Ao36 x205002_2.length co36))) (ds := []) #[n_, n_, n_, n_, n_, n_, n_, n_, n_, n_, n_, n_] (by kernel_rfl) rfl rfl ⟨(blk_cell BK204.out 0).trans rfl, (blk_cell BK204.out 1).trans rfl, (blk_cell BK204.out 2).trans rfl⟩ (fun hHeld => ?_); refine with_tabW impl_EdgePile.tab7 impl_EdgePile.bits7 (fun HT_ HW_ => ?_)
          generalize wr.drew = w27 at HO_205001 HO_205002 BK196 BK204 HB hHeld ⊢
          refine pu 0 (some 36) #[y_, n_, n_, n_, n_, n_, n_, n_, n_, n_, n_, n_] (any_of HT_.out (by kernel_rfl)) ?_
          refine pu 1 (some 37) #[y_, y_, n_, n_, n_, n_, n_, n_, n_, n_, n_, n_] (any_of HT_.out (by kernel_rfl)) ?_
          refine pu 3 (some 39) #[y_, y_, n_, y_, n_, n_, n_, n_, n_, n_, n_, n_] (any_of HT_.out (by kernel_rfl)) ?_
          refine pu 7 (some 43) #[y_, y_, n_, y_, n_, n_, n_, y_, n_, n_, n_, n_] (any_of HT_.out (by kernel_rfl)) ?_
          refine tk 4 (some 40) #[y_, y_, n_, y_, y_, n_, n_, y_, n_, n_, n_, n_] rfl (take_ofW HT_.out HW_.out (by kernel_rfl)) hHeld (Or.inl ⟨by rfl, by rintro w' ⟨s0, s1, s2⟩; go_simp; with_reducible rfl⟩) ?_
          refine tk 8 (some 44) #[y_, y_, n_, y_, y_, n_, n_, y_, y_, n_, n_, n_] rfl (take_ofW HT_.out HW_.out (by kernel_rfl)) hHeld (Or.inl ⟨by rfl, by rintro w' ⟨s0, s1, s2⟩; go_simp; with_reducible rfl⟩) ?_
          refine join_ (σ := Value × Value × Value × Nat) 1 #[y_, y_, y_, y_, y_, y_, y_, y_, y_, y_, y_, n_] (fun s_ => [(38, s_.1), (41, s_.2.1), (42, s_.2.2.1), (8, .pointer (some ⟨s_.2.2.2, 0, none⟩)), (45, .agg #[.int .i64 a0, s_.2.2.1, .slice Ao36 x205002_2.length co36])]) (fun s_ w' => (w'.cell? ⟨gb204, 0, none⟩ = some (.int .i64 x205000_2) ∧ w'.cell? ⟨gb204, 1, none⟩ = some ((.slice Ao31 x205001_2.length co31)) ∧ w'.cell? ⟨gb204, 2, none⟩ = some ((.slice Ao36 x205002_2.length co36))) ∧ (Kd.N (Kd.slice 3 (Kd.int .i64)) 25 w' w.heap.size (fun k_ => some k_ ≠ (s_.2.2.1 : Value).ownBlock ∧ some k_ ≠ (.slice Ao36 x205002_2.length co36 : Value).ownBlock ∧ k_ ≠ gb196 ∧ k_ ≠ gb204 ∧ k_ ≠ s_.2.2.2) s_.2.1 y212) ∧ (Kd.R (Kd.int .i64) 3 w' w.heap.size (fun k_ => some k_ ≠ (.slice Ao31 x205001_2.length co31 : Value).ownBlock ∧ some k_ ≠ (.slice Ao36 x205002_2.length co36 : Value).ownBlock) s_.2.2.1 t215) ∧ (Kd.R (Kd.int .i64) 3 w' w.heap.size (fun k_ => some k_ ≠ (s_.2.2.1 : Value).ownBlock ∧ some k_ ≠ (.slice Ao36 x205002_2.length co36 : Value).ownBlock) (.slice Ao31 x205001_2.length co31) x205001_2) ∧ (Kd.R (Kd.int .i64) 3 w' w.heap.size (fun k_ => some k_ ≠ (s_.2.2.1 : Value).ownBlock ∧ some k_ ≠ (.slice Ao31 x205001_2.length co31 : Value).ownBlock) (.slice Ao36 x205002_2.length co36) x205002_2) ∧ (w'.heap[gb196]? = some (.cells #[.int .i64 0, .slice none 0 0, .slice none 0 0] 27 (0, 0))) ∧ (w'.heap[gb204]? = some (.cells #[.int .i64 x205000_2, .slice Ao31 x205001_2.length co31, .slice Ao36 x205002_2.length co36] 27 (0, 0))) ∧ (w'.heap[s_.2.2.2]? = some (.cells #[.int .i64 0, .slice none 0 0, .slice none 0 0] 27 (0, 0))) ∧ (w.heap.size ≤ s_.2.2.2) ∧ (w.heap.size ≤ s_.2.2.2) ∧ (gb196 ≠ s_.2.2.2) ∧ (s_.2.2.2 ≠ gb196) ∧ (gb204 ≠ s_.2.2.2) ∧ (s_.2.2.2 ≠ gb204) ∧ (Below w.heap.size w w')) ?_ ?_
          rotate_left
          ·
           intro hCont
           refine two_ (i := 2) (j := 10) (Ni := some 38) (Nj := some 8) #[y_, y_, y_, y_, y_, n_, n_, y_, y_, n_, n_, n_] #[y_, y_, n_, y_, y_, n_, n_, y_, y_, n_, y_, n_] rfl rfl rfl rfl (two_of HT_.out (by kernel_rfl)) (by decide) (by decide) (fun K hK => ?_) (fun K hK => ?_)
           ·
            skip
            refine Kd.R_lit_step (Kd.int .i64) _ 3 ?hg (N := 38) ?hd (xs := ([x7_2] : List Int)) (inner := [.int .i64 x7_2]) (ok := fun _ => True) (okp := fun _ => True) ?hr ?hp (fun _ hk => hk) trivial (Below.refl _ _) (Nat.le_refl _) (by simp) ?_; (case hd => rfl); (case hg => rfl); (case hr => first | (go_simp; done) | (go_simp; rfl)); (case hp => exact (Reps.one (show Kd.M (Kd.int .i64) _ _ _ x7_2 [.int .i64 x7_2] from rfl) (Reps.none _ _)))
            intro v210 w28 ho29 hb hg_ hnew_
            clear hg_ hnew_
            (first | rw [← Ny209.out] at ho29 | (simp only [Int.reduceToNat] at ho29; rw [← Ny209.out] at ho29))
            have HO211 := Aside0.mk (Kd.R_lower (Kd.R_new' (Kd.R_new' ho29 (Kd.R_lt (tR HO_205001.out))) (Kd.R_lt (tR HO_205002.out))) (below_size (tB HB.out)))
            replace HO_205001 := Aside0.mk (Kd.R_elder' (tR HO_205001.out) (Kd.R_base ho29) hb)
            replace HO_205002 := Aside0.mk (Kd.R_elder' (tR HO_205002.out) (Kd.R_base ho29) hb)
            replace BK196 := bkB BK196 hb
            replace BK204 := bkB BK204 hb
            replace HB := hB HB hb
            clear hb ho29
            obtain ⟨Ao30, co30, eo30⟩ := Kd.R_slice HO211.out
            (first | subst eo30 | (injection eo30 with f1_ f2_ f3_; have f4_ := f1_.symm; have f5_ := f3_.symm; clear f1_ f2_ f3_; subst f4_; subst f5_))
            obtain ⟨Ao31, co31, eo31⟩ := Kd.R_slice HO_205001.out
            (first | subst eo31 | (injection eo31 with f1_ f2_ f3_; have f4_ := f1_.symm; have f5_ := f3_.symm; clear f1_ f2_ f3_; subst f4_; subst f5_))
            refine hK.out _ _ ⟨(blk_cell BK204.out 0).trans rfl, (blk_cell BK204.out 1).trans rfl, (blk_cell BK204.out 2).trans rfl⟩ (fun hHeld => ?_)
            clear hK K
            refine norm_ (a' := ?_) ?_ ?_
            rotate_left
            ·
             show Act.put _ (some 38) _ = _
             simp only [Act.put, List.setIfInBounds_toArray, List.set_cons_zero, List.set_cons_succ, i64_w, i32_w]
             rfl
            refine two_ (i := 5) (j := 10) (Ni := some 41) (Nj := some 8) #[y_, y_, y_, y_, y_, y_, n_, y_, y_, n_, n_, n_] #[y_, y_, y_, y_, y_, n_, n_, y_, y_, n_, y_, n_] rfl rfl rfl rfl (two_of HT_.out (by kernel_rfl)) (by decide) (by decide) (fun K hK => ?_) (fun K hK => ?_)
            ·
             skip
             refine Kd.N_lit_step (Kd.slice 3 (Kd.int .i64)) _ 25 ?hg (N' := 41) ?hd (xs := ([y209, x205001_2] : List (List Int))) (inner := [.slice Ao30 y209.length co30, .slice Ao31 x205001_2.length co31]) (ok := (fun k_ => some k_ ≠ ((.slice Ao36 x205002_2.length co36) : Value).ownBlock ∧ k_ ≠ gb196 ∧ k_ ≠ gb204)) (okp := (fun k_ => some k_ ≠ ((.slice Ao36 x205002_2.length co36) : Value).ownBlock ∧ k_ ≠ gb196 ∧ k_ ≠ gb204)) ?hr ?hp (fun _ hk => hk) ((show ∀ k_, w28.heap.size ≤ k_ → (fun k_ => some k_ ≠ ((.slice Ao36 x205002_2.length co36) : Value).ownBlock ∧ k_ ≠ gb196 ∧ k_ ≠ gb204) k_ from fun k_ hk => ⟨Kd.fresh' (Kd.R_lt (tR HO_205002.out)) k_ hk, Kd.freshB (g := gb196) (o := .cells #[.int .i64 0, .slice none 0 0, .slice none 0 0] 27 (0, 0)) (tK BK196.out) k_ hk, Kd.freshB (g := gb204) (o := .cells #[.int .i64 x205000_2, .slice Ao31 x205001_2.length co31, (.slice Ao36 x205002_2.length co36)] 27 (0, 0)) (tK BK204.out) k_ hk⟩) _ (Nat.le_refl _)) (Below.refl _ _) (Nat.le_refl _) (by simp) ?_; (case hd => rfl); (case hg => rfl); (case hr => first | (go_simp; done) | (go_simp; rfl)); (case hp => exact (Reps.one (show Kd.FK (Kd.slice 3 (Kd.int .i64)) _ _ y209 [.slice Ao30 y209.length co30] from (Kd.FK_slice_mk (Kd.R_reads' (Kd.R_mono (ok' := (fun k_ => some k_ ≠ ((.slice Ao36 x205002_2.length co36) : Value).ownBlock ∧ k_ ≠ gb196 ∧ k_ ≠ gb204)) (Kd.R_types (Kd.R_types (HO211.out) BK196.out (by decide)) BK204.out (by decide)) (fun k_ hk => ⟨hk.1.1.2, ⟨hk.1.2, hk.2⟩⟩))).2.1 (Kd.R_F (Kd.R_mono (ok' := (fun k_ => some k_ ≠ ((.slice Ao36 x205002_2.length co36) : Value).ownBlock ∧ k_ ≠ gb196 ∧ k_ ≠ gb204)) (Kd.R_types (Kd.R_types (HO211.out) BK196.out (by decide)) BK204.out (by decide)) (fun k_ hk => ⟨hk.1.1.2, ⟨hk.1.2, hk.2⟩⟩))))) (Reps.one (show Kd.FK (Kd.slice 3 (Kd.int .i64)) _ _ x205001_2 [.slice Ao31 x205001_2.length co31] from (Kd.FK_slice_mk (Kd.R_reads' (Kd.R_mono (ok' := (fun k_ => some k_ ≠ ((.slice Ao36 x205002_2.length co36) : Value).ownBlock ∧ k_ ≠ gb196 ∧ k_ ≠ gb204)) (Kd.R_types (Kd.R_types (HO_205001.out) BK196.out (by decide)) BK204.out (by decide)) (fun k_ hk => ⟨hk.1.1.1, ⟨hk.1.2, hk.2⟩⟩))).2.1 (Kd.R_F (Kd.R_mono (ok' := (fun k_ => some k_ ≠ ((.slice Ao36 x205002_2.length co36) : Value).ownBlock ∧ k_ ≠ gb196 ∧ k_ ≠ gb204)) (Kd.R_types (Kd.R_types (HO_205001.out) BK196.out (by decide)) BK204.out (by decide)) (fun k_ hk => ⟨hk.1.1.1, ⟨hk.1.2, hk.2⟩⟩))))) (Reps.none _ _))))
             intro v213 w32 ho33 hb hg_ hnew_
             clear hg_ hnew_
             (first | rw [← Ny212.out] at ho33 | (simp only [Int.reduceToNat] at ho33; rw [← Ny212.out] at ho33))
             replace HO_205001 := rB HO_205001 hb
             replace HO_205002 := rB HO_205002 hb
             have HO214 := Aside0.mk (Kd.N_lower ho33 (below_size (tB HB.out)))
             replace BK196 := bkB BK196 hb
             replace BK204 := bkB BK204 hb
             replace HB := hB HB hb
             clear HO211
             clear hb ho33
             obtain ⟨Ao34, co34, eo34⟩ := Kd.N_slice HO214.out
             (first | subst eo34 | (injection eo34 with f1_ f2_ f3_; have f4_ := f1_.symm; have f5_ := f3_.symm; clear f1_ f2_ f3_; subst f4_; subst f5_))
             refine hK.out _ _ ⟨(blk_cell BK204.out 0).trans rfl, (blk_cell BK204.out 1).trans rfl, (blk_cell BK204.out 2).trans rfl⟩ (fun hHeld => ?_)
             clear hK K
             refine norm_ (a' := ?_) ?_ ?_
             rotate_left
             ·
              show Act.put _ (some 41) _ = _
              simp only [Act.put, List.setIfInBounds_toArray, List.set_cons_zero, List.set_cons_succ, i64_w, i32_w]
              rfl
             refine two_ (i := 6) (j := 10) (Ni := some 42) (Nj := some 8) #[y_, y_, y_, y_, y_, y_, y_, y_, y_, n_, n_, n_] #[y_, y_, y_, y_, y_, y_, n_, y_, y_, n_, y_, n_] rfl rfl rfl rfl (two_of HT_.out (by kernel_rfl)) (by decide) (by decide) (fun K hK => ?_) (fun K hK => ?_)
             ·
              skip
              refine goes_ Try.func57 (by kernel_rfl) rfl #[.slice Ao34 y212.length co34] (by rfl) rfl rfl tM ?_
              with_reducible refine (slices_Concat_int_int.calls k2 _ _ y212 t215 _ ?side1 ?side2 A24.out).mono ?_
              (case side1 => exact tC (Kd.N_reads' HO214.out).2.2)
              (case side2 => exact (Kd.N_reads' HO214.out).2.1)
              rintro e w35 ⟨v216, rfl, ho0, hb⟩
              refine ⟨_, rfl, ?_⟩
              replace HO214 := Aside0.mk (Kd.N_elder' (by (with_reducible repeat (first | apply Kd.N_alloc | apply Kd.N_drewN | apply Kd.N_drew)); exact HO214.out) (Kd.R_base ho0) hb)
              have HO217 := Aside0.mk (Kd.R_lower (Kd.R_new' (Kd.R_new' ho0 (Kd.R_lt (tR HO_205001.out))) (Kd.R_lt (tR HO_205002.out))) (below_size (tB HB.out)))
              replace HO_205001 := Aside0.mk (Kd.R_elder' (tR HO_205001.out) (Kd.R_base ho0) hb)
              replace HO_205002 := Aside0.mk (Kd.R_elder' (tR HO_205002.out) (Kd.R_base ho0) hb)
              replace BK196 := bkB BK196 hb
              replace BK204 := bkB BK204 hb
              replace HB := hB HB hb
              (try clear hb); (try clear hk); (try clear ho0)
              obtain ⟨Ao36, co36, eo36⟩ := Kd.R_slice HO_205002.out
              (first | subst eo36 | (injection eo36 with f1_ f2_ f3_; have f4_ := f1_.symm; have f5_ := f3_.symm; clear f1_ f2_ f3_; subst f4_; subst f5_))
              obtain ⟨Ao37, co37, eo37⟩ := Kd.R_slice HO217.out
              (first | subst eo37 | (injection eo37 with f1_ f2_ f3_; have f4_ := f1_.symm; have f5_ := f3_.symm; clear f1_ f2_ f3_; subst f4_; subst f5_))
              refine hK.out _ _ ⟨(blk_cell BK204.out 0).trans rfl, (blk_cell BK204.out 1).trans rfl, (blk_cell BK204.out 2).trans rfl⟩ (fun hHeld => ?_)
              clear hK K
              refine norm_ (a' := ?_) ?_ ?_
              rotate_left
              ·
               show Act.put _ (some 42) _ = _
               simp only [Act.put, List.setIfInBounds_toArray, List.set_cons_zero, List.set_cons_succ, i64_w, i32_w]
               rfl
              refine pu 9 (some 45) #[y_, y_, y_, y_, y_, y_, y_, y_, y_, y_, n_, n_] (any_of HT_.out (by kernel_rfl)) ?_
              refine one_ (i := 10) (N := some 8) #[y_, y_, y_, y_, y_, y_, y_, y_, y_, y_, y_, n_] rfl rfl (one_of HT_.out (by kernel_rfl)) (by decide) (fun K hK => ?_)
              refine box_step ?hg (N := 8) ?hd (cs := #[.int .i64 0, .slice none 0 0, .slice none 0 0]) (t := 27) ?hr ?_; (case hd => rfl); (case hg => rfl); (case hr => first | (go_simp; done) | (go_simp; rfl))
              intro gb218 hg w38 hbox hb
              replace HO_205001 := rB HO_205001 hb
              replace HO_205002 := rB HO_205002 hb
              replace HO214 := Aside0.mk (Kd.N_below (Kd.N_elderB (by (with_reducible repeat (first | apply Kd.N_alloc | apply Kd.N_drewN | apply Kd.N_drew)); exact HO214.out) gb218 (Nat.le_of_eq hg.symm)) hb)
              replace HO217 := rB HO217 hb
              have BK218 := Aside0.mk hbox
              have GW218 := Aside0.mk (bS HB.out hg)
              have GE218 := Aside0.mk (bS HB.out hg)
              replace HB := hB HB hb
              have NB196_218 := Aside0.mk (nL BK196.out hg)
              have NB218_196 := Aside0.mk (nG BK196.out hg)
              replace BK196 := bkB BK196 hb
              have NB204_218 := Aside0.mk (nL BK204.out hg)
              have NB218_204 := Aside0.mk (nG BK204.out hg)
              replace BK204 := bkB BK204 hb
              clear hb hbox hg
              refine hK.out _ _ ⟨(blk_cell BK204.out 0).trans rfl, (blk_cell BK204.out 1).trans rfl, (blk_cell BK204.out 2).trans rfl⟩ (fun hHeld => ?_)
              clear hK K
              refine norm_ (a' := ?_) ?_ ?_
              rotate_left
              ·
               show Act.put _ (some 8) _ = _
               simp only [Act.put, List.setIfInBounds_toArray, List.set_cons_zero, List.set_cons_succ, i64_w, i32_w]
               rfl
              exact norm_ (by simp only [putAll, Act.put, List.setIfInBounds_toArray, List.set_cons_zero, List.set_cons_succ]) (hCont (.slice Ao30 y209.length co30, .slice Ao34 y212.length co34, .slice Ao37 t215.length co37, gb218) _ ⟨hHeld, (by (with_reducible repeat (first | apply Kd.N_alloc | apply Kd.N_drewN | apply Kd.N_drew)); exact Kd.N_mono HO214.out (fun _ hk => ⟨hk.1.2, ⟨hk.1.1.1, ⟨hk.1.1.2.1, ⟨hk.1.1.2.2, hk.2⟩⟩⟩⟩)), (by (with_reducible repeat (first | apply Kd.R_alloc | apply Kd.R_drewN | apply Kd.R_drew)); exact Kd.R_mono HO217.out (fun _ hk => ⟨hk.1.2, hk.2⟩)), (by (with_reducible repeat (first | apply Kd.R_alloc | apply Kd.R_drewN | apply Kd.R_drew)); exact Kd.R_mono HO_205001.out (fun _ hk => ⟨hk.2, hk.1.1⟩)), (by (with_reducible repeat (first | apply Kd.R_alloc | apply Kd.R_drewN | apply Kd.R_drew)); exact Kd.R_mono HO_205002.out (fun _ hk => ⟨hk.2, hk.1.1⟩)), (tK BK196.out), (tK BK204.out), (tK BK218.out), GW218.out, GE218.out, NB196_218.out, NB218_196.out, NB204_218.out, NB218_204.out, (tB HB.out)⟩)
             ·
              skip
              refine box_step ?hg (N := 8) ?hd (cs := #[.int .i64 0, .slice none 0 0, .slice none 0 0]) (t := 27) ?hr ?_; (case hd => rfl); (case hg => rfl); (case hr => first | (go_simp; done) | (go_simp; rfl))
              intro gb218 hg w34 hbox hb
              replace HO_205001 := rB HO_205001 hb
              replace HO_205002 := rB HO_205002 hb
              replace HO214 := Aside0.mk (Kd.N_below (Kd.N_elderB (by (with_reducible repeat (first | apply Kd.N_alloc | apply Kd.N_drewN | apply Kd.N_drew)); exact HO214.out) gb218 (Nat.le_of_eq hg.symm)) hb)
              have BK218 := Aside0.mk hbox
              have GW218 := Aside0.mk (bS HB.out hg)
              have GE218 := Aside0.mk (bS HB.out hg)
              replace HB := hB HB hb
              have NB196_218 := Aside0.mk (nL BK196.out hg)
              have NB218_196 := Aside0.mk (nG BK196.out hg)
              replace BK196 := bkB BK196 hb
              have NB204_218 := Aside0.mk (nL BK204.out hg)
              have NB218_204 := Aside0.mk (nG BK204.out hg)
              replace BK204 := bkB BK204 hb
              clear hb hbox hg
              obtain ⟨Ao35, co35, eo35⟩ := Kd.N_slice HO214.out
              (first | subst eo35 | (injection eo35 with f1_ f2_ f3_; have f4_ := f1_.symm; have f5_ := f3_.symm; clear f1_ f2_ f3_; subst f4_; subst f5_))
              refine hK.out _ _ ⟨(blk_cell BK204.out 0).trans rfl, (blk_cell BK204.out 1).trans rfl, (blk_cell BK204.out 2).trans rfl⟩ (fun hHeld => ?_)
              clear hK K
              refine norm_ (a' := ?_) ?_ ?_
              rotate_left
              ·
               show Act.put _ (some 8) _ = _
               simp only [Act.put, List.setIfInBounds_toArray, List.set_cons_zero, List.set_cons_succ, i64_w, i32_w]
               rfl
              refine one_ (i := 6) (N := some 42) #[y_, y_, y_, y_, y_, y_, y_, y_, y_, n_, y_, n_] rfl rfl (one_of HT_.out (by kernel_rfl)) (by decide) (fun K hK => ?_)
              refine goes_ Try.func57 (by kernel_rfl) rfl #[.slice Ao35 y212.length co35] (by rfl) rfl rfl tM ?_
              with_reducible refine (slices_Concat_int_int.calls k2 _ _ y212 t215 _ ?side1 ?side2 A24.out).mono ?_
              (case side1 => exact tC (Kd.N_reads' HO214.out).2.2)
              (case side2 => exact (Kd.N_reads' HO214.out).2.1)
              rintro e w36 ⟨v216, rfl, ho0, hb⟩
              refine ⟨_, rfl, ?_⟩
              replace HO214 := Aside0.mk (Kd.N_elder' (by (with_reducible repeat (first | apply Kd.N_alloc | apply Kd.N_drewN | apply Kd.N_drew)); exact HO214.out) (Kd.R_base ho0) hb)
              have HO217 := Aside0.mk (Kd.R_lower (Kd.R_new' (Kd.R_new' ho0 (Kd.R_lt (tR HO_205001.out))) (Kd.R_lt (tR HO_205002.out))) (below_size (tB HB.out)))
              replace HO_205001 := Aside0.mk (Kd.R_elder' (tR HO_205001.out) (Kd.R_base ho0) hb)
              replace HO_205002 := Aside0.mk (Kd.R_elder' (tR HO_205002.out) (Kd.R_base ho0) hb)
              replace BK196 := bkB BK196 hb
              replace BK204 := bkB BK204 hb
              replace BK218 := bkB BK218 hb
              replace HB := hB HB hb
              (try clear hb); (try clear hk); (try clear ho0)
              obtain ⟨Ao37, co37, eo37⟩ := Kd.R_slice HO_205002.out
              (first | subst eo37 | (injection eo37 with f1_ f2_ f3_; have f4_ := f1_.symm; have f5_ := f3_.symm; clear f1_ f2_ f3_; subst f4_; subst f5_))
              obtain ⟨Ao38, co38, eo38⟩ := Kd.R_slice HO217.out
              (first | subst eo38 | (injection eo38 with f1_ f2_ f3_; have f4_ := f1_.symm; have f5_ := f3_.symm; clear f1_ f2_ f3_; subst f4_; subst f5_))
              refine hK.out _ _ ⟨(blk_cell BK204.out 0).trans rfl, (blk_cell BK204.out 1).trans rfl, (blk_cell BK204.out 2).trans rfl⟩ (fun hHeld => ?_)
              clear hK K
              refine norm_ (a' := ?_) ?_ ?_
              rotate_left
              ·
               show Act.put _ (some 42) _ = _
               simp only [Act.put, List.setIfInBounds_toArray, List.set_cons_zero, List.set_cons_succ, i64_w, i32_w]
               rfl
              refine pu 9 (some 45) #[y_, y_, y_, y_, y_, y_, y_, y_, y_, y_, y_, n_] (any_of HT_.out (by kernel_rfl)) ?_
              exact norm_ (by simp only [putAll, Act.put, List.setIfInBounds_toArray, List.set_cons_zero, List.set_cons_succ]) (hCont (.slice Ao30 y209.length co30, .slice Ao35 y212.length co35, .slice Ao38 t215.length co38, gb218) _ ⟨hHeld, (by (with_reducible repeat (first | apply Kd.N_alloc | apply Kd.N_drewN | apply Kd.N_drew)); exact Kd.N_mono HO214.out (fun _ hk => ⟨hk.2, ⟨hk.1.1.1, ⟨hk.1.1.2.1, ⟨hk.1.1.2.2, hk.1.2⟩⟩⟩⟩)), (by (with_reducible repeat (first | apply Kd.R_alloc | apply Kd.R_drewN | apply Kd.R_drew)); exact Kd.R_mono HO217.out (fun _ hk => ⟨hk.1.2, hk.2⟩)), (by (with_reducible repeat (first | apply Kd.R_alloc | apply Kd.R_drewN | apply Kd.R_drew)); exact Kd.R_mono HO_205001.out (fun _ hk => ⟨hk.2, hk.1.1⟩)), (by (with_reducible repeat (first | apply Kd.R_alloc | apply Kd.R_drewN | apply Kd.R_drew)); exact Kd.R_mono HO_205002.out (fun _ hk => ⟨hk.2, hk.1.1⟩)), (tK BK196.out), (tK BK204.out), (tK BK218.out), GW218.out, GE218.out, NB196_218.out, NB218_196.out, NB204_218.out, NB218_204.out, (tB HB.out)⟩)
            ·
             skip
             refine box_step ?hg (N := 8) ?hd (cs := #[.int .i64 0, .slice none 0 0, .slice none 0 0]) (t := 27) ?hr ?_; (case hd => rfl); (case hg => rfl); (case hr => first | (go_simp; done) | (go_simp; rfl))
             intro gb218 hg w30 hbox hb
             replace HO_205001 := rB HO_205001 hb
             replace HO_205002 := rB HO_205002 hb
             replace HO211 := rB HO211 hb
             have BK218 := Aside0.mk hbox
             have GW218 := Aside0.mk (bS HB.out hg)
             have GE218 := Aside0.mk (bS HB.out hg)
             replace HB := hB HB hb
             have NB196_218 := Aside0.mk (nL BK196.out hg)
             have NB218_196 := Aside0.mk (nG BK196.out hg)
             replace BK196 := bkB BK196 hb
             have NB204_218 := Aside0.mk (nL BK204.out hg)
             have NB218_204 := Aside0.mk (nG BK204.out hg)
             replace BK204 := bkB BK204 hb
             clear hb hbox hg
             obtain ⟨Ao31, co31, eo31⟩ := Kd.R_slice HO211.out
             (first | subst eo31 | (injection eo31 with f1_ f2_ f3_; have f4_ := f1_.symm; have f5_ := f3_.symm; clear f1_ f2_ f3_; subst f4_; subst f5_))
             obtain ⟨Ao32, co32, eo32⟩ := Kd.R_slice HO_205001.out
             (first | subst eo32 | (injection eo32 with f1_ f2_ f3_; have f4_ := f1_.symm; have f5_ := f3_.symm; clear f1_ f2_ f3_; subst f4_; subst f5_))
             refine hK.out _ _ ⟨(blk_cell BK204.out 0).trans rfl, (blk_cell BK204.out 1).trans rfl, (blk_cell BK204.out 2).trans rfl⟩ (fun hHeld => ?_)
             clear hK K
             refine norm_ (a' := ?_) ?_ ?_
             rotate_left
             ·
              show Act.put _ (some 8) _ = _
              simp only [Act.put, List.setIfInBounds_toArray, List.set_cons_zero, List.set_cons_succ, i64_w, i32_w]
              rfl
             refine one_ (i := 5) (N := some 41) #[y_, y_, y_, y_, y_, y_, n_, y_, y_, n_, y_, n_] rfl rfl (one_of HT_.out (by kernel_rfl)) (by decide) (fun K hK => ?_)
             refine Kd.N_lit_step (Kd.slice 3 (Kd.int .i64)) _ 25 ?hg (N' := 41) ?hd (xs := ([y209, x205001_2] : List (List Int))) (inner := [.slice Ao31 y209.length co31, .slice Ao32 x205001_2.length co32]) (ok := (fun k_ => some k_ ≠ ((.slice Ao36 x205002_2.length co36) : Value).ownBlock ∧ k_ ≠ gb196 ∧ k_ ≠ gb204 ∧ k_ ≠ gb218)) (okp := (fun k_ => some k_ ≠ ((.slice Ao36 x205002_2.length co36) : Value).ownBlock ∧ k_ ≠ gb196 ∧ k_ ≠ gb204 ∧ k_ ≠ gb218)) ?hr ?hp (fun _ hk => hk) ((show ∀ k_, w30.heap.size ≤ k_ → (fun k_ => some k_ ≠ ((.slice Ao36 x205002_2.length co36) : Value).ownBlock ∧ k_ ≠ gb196 ∧ k_ ≠ gb204 ∧ k_ ≠ gb218) k_ from fun k_ hk => ⟨Kd.fresh' (Kd.R_lt (tR HO_205002.out)) k_ hk, Kd.freshB (g := gb196) (o := .cells #[.int .i64 0, .slice none 0 0, .slice none 0 0] 27 (0, 0)) (tK BK196.out) k_ hk, Kd.freshB (g := gb204) (o := .cells #[.int .i64 x205000_2, .slice Ao32 x205001_2.length co32, (.slice Ao36 x205002_2.length co36)] 27 (0, 0)) (tK BK204.out) k_ hk, Kd.freshB (g := gb218) (o := .cells #[.int .i64 0, .slice none 0 0, .slice none 0 0] 27 (0, 0)) (tK BK218.out) k_ hk⟩) _ (Nat.le_refl _)) (Below.refl _ _) (Nat.le_refl _) (by simp) ?_; (case hd => rfl); (case hg => rfl); (case hr => first | (go_simp; done) | (go_simp; rfl)); (case hp => exact (Reps.one (show Kd.FK (Kd.slice 3 (Kd.int .i64)) _ _ y209 [.slice Ao31 y209.length co31] from (Kd.FK_slice_mk (Kd.R_reads' (Kd.R_mono (ok' := (fun k_ => some k_ ≠ ((.slice Ao36 x205002_2.length co36) : Value).ownBlock ∧ k_ ≠ gb196 ∧ k_ ≠ gb204 ∧ k_ ≠ gb218)) (Kd.R_types (Kd.R_types (Kd.R_types (HO211.out) BK196.out (by decide)) BK204.out (by decide)) BK218.out (by decide)) (fun k_ hk => ⟨hk.1.1.1.2, ⟨hk.1.1.2, ⟨hk.1.2, hk.2⟩⟩⟩))).2.1 (Kd.R_F (Kd.R_mono (ok' := (fun k_ => some k_ ≠ ((.slice Ao36 x205002_2.length co36) : Value).ownBlock ∧ k_ ≠ gb196 ∧ k_ ≠ gb204 ∧ k_ ≠ gb218)) (Kd.R_types (Kd.R_types (Kd.R_types (HO211.out) BK196.out (by decide)) BK204.out (by decide)) BK218.out (by decide)) (fun k_ hk => ⟨hk.1.1.1.2, ⟨hk.1.1.2, ⟨hk.1.2, hk.2⟩⟩⟩))))) (Reps.one (show Kd.FK (Kd.slice 3 (Kd.int .i64)) _ _ x205001_2 [.slice Ao32 x205001_2.length co32] from (Kd.FK_slice_mk (Kd.R_reads' (Kd.R_mono (ok' := (fun k_ => some k_ ≠ ((.slice Ao36 x205002_2.length co36) : Value).ownBlock ∧ k_ ≠ gb196 ∧ k_ ≠ gb204 ∧ k_ ≠ gb218)) (Kd.R_types (Kd.R_types (Kd.R_types (HO_205001.out) BK196.out (by decide)) BK204.out (by decide)) BK218.out (by decide)) (fun k_ hk => ⟨hk.1.1.1.1, ⟨hk.1.1.2, ⟨hk.1.2, hk.2⟩⟩⟩))).2.1 (Kd.R_F (Kd.R_mono (ok' := (fun k_ => some k_ ≠ ((.slice Ao36 x205002_2.length co36) : Value).ownBlock ∧ k_ ≠ gb196 ∧ k_ ≠ gb204 ∧ k_ ≠ gb218)) (Kd.R_types (Kd.R_types (Kd.R_types (HO_205001.out) BK196.out (by decide)) BK204.out (by decide)) BK218.out (by decide)) (fun k_ hk => ⟨hk.1.1.1.1, ⟨hk.1.1.2, ⟨hk.1.2, hk.2⟩⟩⟩))))) (Reps.none _ _))))
             intro v213 w33 ho34 hb hg_ hnew_
             clear hg_ hnew_
             (first | rw [← Ny212.out] at ho34 | (simp only [Int.reduceToNat] at ho34; rw [← Ny212.out] at ho34))
             replace HO_205001 := rB HO_205001 hb
             replace HO_205002 := rB HO_205002 hb
             have HO214 := Aside0.mk (Kd.N_lower ho34 (below_size (tB HB.out)))
             replace BK196 := bkB BK196 hb
             replace BK204 := bkB BK204 hb
             replace BK218 := bkB BK218 hb
             replace HB := hB HB hb
             clear HO211
             clear hb ho34
             obtain ⟨Ao35, co35, eo35⟩ := Kd.N_slice HO214.out
             (first | subst eo35 | (injection eo35 with f1_ f2_ f3_; have f4_ := f1_.symm; have f5_ := f3_.symm; clear f1_ f2_ f3_; subst f4_; subst f5_))
             refine hK.out _ _ ⟨(blk_cell BK204.out 0).trans rfl, (blk_cell BK204.out 1).trans rfl, (blk_cell BK204.out 2).trans rfl⟩ (fun hHeld => ?_)
             clear hK K
             refine norm_ (a' := ?_) ?_ ?_
             rotate_left
             ·
              show Act.put _ (some 41) _ = _
              simp only [Act.put, List.setIfInBounds_toArray, List.set_cons_zero, List.set_cons_succ, i64_w, i32_w]
              rfl
             refine one_ (i := 6) (N := some 42) #[y_, y_, y_, y_, y_, y_, y_, y_, y_, n_, y_, n_] rfl rfl (one_of HT_.out (by kernel_rfl)) (by decide) (fun K hK => ?_)
             refine goes_ Try.func57 (by kernel_rfl) rfl #[.slice Ao35 y212.length co35] (by rfl) rfl rfl tM ?_
             with_reducible refine (slices_Concat_int_int.calls k2 _ _ y212 t215 _ ?side1 ?side2 A24.out).mono ?_
             (case side1 => exact tC (Kd.N_reads' HO214.out).2.2)
             (case side2 => exact (Kd.N_reads' HO214.out).2.1)
             rintro e w36 ⟨v216, rfl, ho0, hb⟩
             refine ⟨_, rfl, ?_⟩
             replace HO214 := Aside0.mk (Kd.N_elder' (by (with_reducible repeat (first | apply Kd.N_alloc | apply Kd.N_drewN | apply Kd.N_drew)); exact HO214.out) (Kd.R_base ho0) hb)
             have HO217 := Aside0.mk (Kd.R_lower (Kd.R_new' (Kd.R_new' ho0 (Kd.R_lt (tR HO_205001.out))) (Kd.R_lt (tR HO_205002.out))) (below_size (tB HB.out)))
             replace HO_205001 := Aside0.mk (Kd.R_elder' (tR HO_205001.out) (Kd.R_base ho0) hb)
             replace HO_205002 := Aside0.mk (Kd.R_elder' (tR HO_205002.out) (Kd.R_base ho0) hb)
             replace BK196 := bkB BK196 hb
             replace BK204 := bkB BK204 hb
             replace BK218 := bkB BK218 hb
             replace HB := hB HB hb
             (try clear hb); (try clear hk); (try clear ho0)
             obtain ⟨Ao37, co37, eo37⟩ := Kd.R_slice HO_205002.out
             (first | subst eo37 | (injection eo37 with f1_ f2_ f3_; have f4_ := f1_.symm; have f5_ := f3_.symm; clear f1_ f2_ f3_; subst f4_; subst f5_))
             obtain ⟨Ao38, co38, eo38⟩ := Kd.R_slice HO217.out
             (first | subst eo38 | (injection eo38 with f1_ f2_ f3_; have f4_ := f1_.symm; have f5_ := f3_.symm; clear f1_ f2_ f3_; subst f4_; subst f5_))
             refine hK.out _ _ ⟨(blk_cell BK204.out 0).trans rfl, (blk_cell BK204.out 1).trans rfl, (blk_cell BK204.out 2).trans rfl⟩ (fun hHeld => ?_)
             clear hK K
             refine norm_ (a' := ?_) ?_ ?_
             rotate_left
             ·
              show Act.put _ (some 42) _ = _
              simp only [Act.put, List.setIfInBounds_toArray, List.set_cons_zero, List.set_cons_succ, i64_w, i32_w]
              rfl
             refine pu 9 (some 45) #[y_, y_, y_, y_, y_, y_, y_, y_, y_, y_, y_, n_] (any_of HT_.out (by kernel_rfl)) ?_
             exact norm_ (by simp only [putAll, Act.put, List.setIfInBounds_toArray, List.set_cons_zero, List.set_cons_succ]) (hCont (.slice Ao31 y209.length co31, .slice Ao35 y212.length co35, .slice Ao38 t215.length co38, gb218) _ ⟨hHeld, (by (with_reducible repeat (first | apply Kd.N_alloc | apply Kd.N_drewN | apply Kd.N_drew)); exact Kd.N_mono HO214.out (fun _ hk => ⟨hk.2, ⟨hk.1.1, ⟨hk.1.2.1, ⟨hk.1.2.2.1, hk.1.2.2.2⟩⟩⟩⟩)), (by (with_reducible repeat (first | apply Kd.R_alloc | apply Kd.R_drewN | apply Kd.R_drew)); exact Kd.R_mono HO217.out (fun _ hk => ⟨hk.1.2, hk.2⟩)), (by (with_reducible repeat (first | apply Kd.R_alloc | apply Kd.R_drewN | apply Kd.R_drew)); exact Kd.R_mono HO_205001.out (fun _ hk => ⟨hk.2, hk.1.1⟩)), (by (with_reducible repeat (first | apply Kd.R_alloc | apply Kd.R_drewN | apply Kd.R_drew)); exact Kd.R_mono HO_205002.out (fun _ hk => ⟨hk.2, hk.1.1⟩)), (tK BK196.out), (tK BK204.out), (tK BK218.out), GW218.out, GE218.out, NB196_218.out, NB218_196.out, NB204_218.out, NB218_204.out, (tB HB.out)⟩)
           ·
            skip
            refine box_step ?hg (N := 8) ?hd (cs := #[.int .i64 0, .slice none 0 0, .slice none 0 0]) (t := 27) ?hr ?_; (case hd => rfl); (case hg => rfl); (case hr => first | (go_simp; done) | (go_simp; rfl))
            intro gb218 hg w28 hbox hb
            replace HO_205001 := rB HO_205001 hb
            replace HO_205002 := rB HO_205002 hb
            have BK218 := Aside0.mk hbox
            have GW218 := Aside0.mk (bS HB.out hg)
            have GE218 := Aside0.mk (bS HB.out hg)
            replace HB := hB HB hb
            have NB196_218 := Aside0.mk (nL BK196.out hg)
            have NB218_196 := Aside0.mk (nG BK196.out hg)
            replace BK196 := bkB BK196 hb
            have NB204_218 := Aside0.mk (nL BK204.out hg)
            have NB218_204 := Aside0.mk (nG BK204.out hg)
            replace BK204 := bkB BK204 hb
            clear hb hbox hg
            refine hK.out _ _ ⟨(blk_cell BK204.out 0).trans rfl, (blk_cell BK204.out 1).trans rfl, (blk_cell BK204.out 2).trans rfl⟩ (fun hHeld => ?_)
            clear hK K
            refine norm_ (a' := ?_) ?_ ?_
            rotate_left
            ·
             show Act.put _ (some 8) _ = _
             simp only [Act.put, List.setIfInBounds_toArray, List.set_cons_zero, List.set_cons_succ, i64_w, i32_w]
             rfl
            refine one_ (i := 2) (N := some 38) #[y_, y_, y_, y_, y_, n_, n_, y_, y_, n_, y_, n_] rfl rfl (one_of HT_.out (by kernel_rfl)) (by decide) (fun K hK => ?_)
            refine Kd.R_lit_step (Kd.int .i64) _ 3 ?hg (N := 38) ?hd (xs := ([x7_2] : List Int)) (inner := [.int .i64 x7_2]) (ok := fun _ => True) (okp := fun _ => True) ?hr ?hp (fun _ hk => hk) trivial (Below.refl _ _) (Nat.le_refl _) (by simp) ?_; (case hd => rfl); (case hg => rfl); (case hr => first | (go_simp; done) | (go_simp; rfl)); (case hp => exact (Reps.one (show Kd.M (Kd.int .i64) _ _ _ x7_2 [.int .i64 x7_2] from rfl) (Reps.none _ _)))
            intro v210 w29 ho30 hb hg_ hnew_
            clear hg_ hnew_
            (first | rw [← Ny209.out] at ho30 | (simp only [Int.reduceToNat] at ho30; rw [← Ny209.out] at ho30))
            have HO211 := Aside0.mk (Kd.R_lower (Kd.R_new' (Kd.R_new' ho30 (Kd.R_lt (tR HO_205001.out))) (Kd.R_lt (tR HO_205002.out))) (below_size (tB HB.out)))
            replace HO_205001 := Aside0.mk (Kd.R_elder' (tR HO_205001.out) (Kd.R_base ho30) hb)
            replace HO_205002 := Aside0.mk (Kd.R_elder' (tR HO_205002.out) (Kd.R_base ho30) hb)
            replace BK196 := bkB BK196 hb
            replace BK204 := bkB BK204 hb
            replace BK218 := bkB BK218 hb
            replace HB := hB HB hb
            clear hb ho30
            obtain ⟨Ao31, co31, eo31⟩ := Kd.R_slice HO211.out
            (first | subst eo31 | (injection eo31 with f1_ f2_ f3_; have f4_ := f1_.symm; have f5_ := f3_.symm; clear f1_ f2_ f3_; subst f4_; subst f5_))
            obtain ⟨Ao32, co32, eo32⟩ := Kd.R_slice HO_205001.out
            (first | subst eo32 | (injection eo32 with f1_ f2_ f3_; have f4_ := f1_.symm; have f5_ := f3_.symm; clear f1_ f2_ f3_; subst f4_; subst f5_))
            refine hK.out _ _ ⟨(blk_cell BK204.out 0).trans rfl, (blk_cell BK204.out 1).trans rfl, (blk_cell BK204.out 2).trans rfl⟩ (fun hHeld => ?_)
            clear hK K
            refine norm_ (a' := ?_) ?_ ?_
            rotate_left
            ·
             show Act.put _ (some 38) _ = _
             simp only [Act.put, List.setIfInBounds_toArray, List.set_cons_zero, List.set_cons_succ, i64_w, i32_w]
             rfl
            refine one_ (i := 5) (N := some 41) #[y_, y_, y_, y_, y_, y_, n_, y_, y_, n_, y_, n_] rfl rfl (one_of HT_.out (by kernel_rfl)) (by decide) (fun K hK => ?_)
            refine Kd.N_lit_step (Kd.slice 3 (Kd.int .i64)) _ 25 ?hg (N' := 41) ?hd (xs := ([y209, x205001_2] : List (List Int))) (inner := [.slice Ao31 y209.length co31, .slice Ao32 x205001_2.length co32]) (ok := (fun k_ => some k_ ≠ ((.slice Ao36 x205002_2.length co36) : Value).ownBlock ∧ k_ ≠ gb196 ∧ k_ ≠ gb204 ∧ k_ ≠ gb218)) (okp := (fun k_ => some k_ ≠ ((.slice Ao36 x205002_2.length co36) : Value).ownBlock ∧ k_ ≠ gb196 ∧ k_ ≠ gb204 ∧ k_ ≠ gb218)) ?hr ?hp (fun _ hk => hk) ((show ∀ k_, w29.heap.size ≤ k_ → (fun k_ => some k_ ≠ ((.slice Ao36 x205002_2.length co36) : Value).ownBlock ∧ k_ ≠ gb196 ∧ k_ ≠ gb204 ∧ k_ ≠ gb218) k_ from fun k_ hk => ⟨Kd.fresh' (Kd.R_lt (tR HO_205002.out)) k_ hk, Kd.freshB (g := gb196) (o := .cells #[.int .i64 0, .slice none 0 0, .slice none 0 0] 27 (0, 0)) (tK BK196.out) k_ hk, Kd.freshB (g := gb204) (o := .cells #[.int .i64 x205000_2, .slice Ao32 x205001_2.length co32, (.slice Ao36 x205002_2.length co36)] 27 (0, 0)) (tK BK204.out) k_ hk, Kd.freshB (g := gb218) (o := .cells #[.int .i64 0, .slice none 0 0, .slice none 0 0] 27 (0, 0)) (tK BK218.out) k_ hk⟩) _ (Nat.le_refl _)) (Below.refl _ _) (Nat.le_refl _) (by simp) ?_; (case hd => rfl); (case hg => rfl); (case hr => first | (go_simp; done) | (go_simp; rfl)); (case hp => exact (Reps.one (show Kd.FK (Kd.slice 3 (Kd.int .i64)) _ _ y209 [.slice Ao31 y209.length co31] from (Kd.FK_slice_mk (Kd.R_reads' (Kd.R_mono (ok' := (fun k_ => some k_ ≠ ((.slice Ao36 x205002_2.length co36) : Value).ownBlock ∧ k_ ≠ gb196 ∧ k_ ≠ gb204 ∧ k_ ≠ gb218)) (Kd.R_types (Kd.R_types (Kd.R_types (HO211.out) BK196.out (by decide)) BK204.out (by decide)) BK218.out (by decide)) (fun k_ hk => ⟨hk.1.1.1.2, ⟨hk.1.1.2, ⟨hk.1.2, hk.2⟩⟩⟩))).2.1 (Kd.R_F (Kd.R_mono (ok' := (fun k_ => some k_ ≠ ((.slice Ao36 x205002_2.length co36) : Value).ownBlock ∧ k_ ≠ gb196 ∧ k_ ≠ gb204 ∧ k_ ≠ gb218)) (Kd.R_types (Kd.R_types (Kd.R_types (HO211.out) BK196.out (by decide)) BK204.out (by decide)) BK218.out (by decide)) (fun k_ hk => ⟨hk.1.1.1.2, ⟨hk.1.1.2, ⟨hk.1.2, hk.2⟩⟩⟩))))) (Reps.one (show Kd.FK (Kd.slice 3 (Kd.int .i64)) _ _ x205001_2 [.slice Ao32 x205001_2.length co32] from (Kd.FK_slice_mk (Kd.R_reads' (Kd.R_mono (ok' := (fun k_ => some k_ ≠ ((.slice Ao36 x205002_2.length co36) : Value).ownBlock ∧ k_ ≠ gb196 ∧ k_ ≠ gb204 ∧ k_ ≠ gb218)) (Kd.R_types (Kd.R_types (Kd.R_types (HO_205001.out) BK196.out (by decide)) BK204.out (by decide)) BK218.out (by decide)) (fun k_ hk => ⟨hk.1.1.1.1, ⟨hk.1.1.2, ⟨hk.1.2, hk.2⟩⟩⟩))).2.1 (Kd.R_F (Kd.R_mono (ok' := (fun k_ => some k_ ≠ ((.slice Ao36 x205002_2.length co36) : Value).ownBlock ∧ k_ ≠ gb196 ∧ k_ ≠ gb204 ∧ k_ ≠ gb218)) (Kd.R_types (Kd.R_types (Kd.R_types (HO_205001.out) BK196.out (by decide)) BK204.out (by decide)) BK218.out (by decide)) (fun k_ hk => ⟨hk.1.1.1.1, ⟨hk.1.1.2, ⟨hk.1.2, hk.2⟩⟩⟩))))) (Reps.none _ _))))
            intro v213 w33 ho34 hb hg_ hnew_
            clear hg_ hnew_
            (first | rw [← Ny212.out] at ho34 | (simp only [Int.reduceToNat] at ho34; rw [← Ny212.out] at ho34))
            replace HO_205001 := rB HO_205001 hb
            replace HO_205002 := rB HO_205002 hb
            have HO214 := Aside0.mk (Kd.N_lower ho34 (below_size (tB HB.out)))
            replace BK196 := bkB BK196 hb
            replace BK204 := bkB BK204 hb
            replace BK218 := bkB BK218 hb
            replace HB := hB HB hb
            clear HO211
            clear hb ho34
            obtain ⟨Ao35, co35, eo35⟩ := Kd.N_slice HO214.out
            (first | subst eo35 | (injection eo35 with f1_ f2_ f3_; have f4_ := f1_.symm; have f5_ := f3_.symm; clear f1_ f2_ f3_; subst f4_; subst f5_))
            refine hK.out _ _ ⟨(blk_cell BK204.out 0).trans rfl, (blk_cell BK204.out 1).trans rfl, (blk_cell BK204.out 2).trans rfl⟩ (fun hHeld => ?_)
            clear hK K
            refine norm_ (a' := ?_) ?_ ?_
            rotate_left
            ·
             show Act.put _ (some 41) _ = _
             simp only [Act.put, List.setIfInBounds_toArray, List.set_cons_zero, List.set_cons_succ, i64_w, i32_w]
             rfl
            refine one_ (i := 6) (N := some 42) #[y_, y_, y_, y_, y_, y_, y_, y_, y_, n_, y_, n_] rfl rfl (one_of HT_.out (by kernel_rfl)) (by decide) (fun K hK => ?_)
            refine goes_ Try.func57 (by kernel_rfl) rfl #[.slice Ao35 y212.length co35] (by rfl) rfl rfl tM ?_
            with_reducible refine (slices_Concat_int_int.calls k2 _ _ y212 t215 _ ?side1 ?side2 A24.out).mono ?_
            (case side1 => exact tC (Kd.N_reads' HO214.out).2.2)
            (case side2 => exact (Kd.N_reads' HO214.out).2.1)
            rintro e w36 ⟨v216, rfl, ho0, hb⟩
            refine ⟨_, rfl, ?_⟩
            replace HO214 := Aside0.mk (Kd.N_elder' (by (with_reducible repeat (first | apply Kd.N_alloc | apply Kd.N_drewN | apply Kd.N_drew)); exact HO214.out) (Kd.R_base ho0) hb)
            have HO217 := Aside0.mk (Kd.R_lower (Kd.R_new' (Kd.R_new' ho0 (Kd.R_lt (tR HO_205001.out))) (Kd.R_lt (tR HO_205002.out))) (below_size (tB HB.out)))
            replace HO_205001 := Aside0.mk (Kd.R_elder' (tR HO_205001.out) (Kd.R_base ho0) hb)
            replace HO_205002 := Aside0.mk (Kd.R_elder' (tR HO_205002.out) (Kd.R_base ho0) hb)
            replace BK196 := bkB BK196 hb
            replace BK204 := bkB BK204 hb
            replace BK218 := bkB BK218 hb
            replace HB := hB HB hb
            (try clear hb); (try clear hk); (try clear ho0)
            obtain ⟨Ao37, co37, eo37⟩ := Kd.R_slice HO_205002.out
            (first | subst eo37 | (injection eo37 with f1_ f2_ f3_; have f4_ := f1_.symm; have f5_ := f3_.symm; clear f1_ f2_ f3_; subst f4_; subst f5_))
            obtain ⟨Ao38, co38, eo38⟩ := Kd.R_slice HO217.out
            (first | subst eo38 | (injection eo38 with f1_ f2_ f3_; have f4_ := f1_.symm; have f5_ := f3_.symm; clear f1_ f2_ f3_; subst f4_; subst f5_))
            refine hK.out _ _ ⟨(blk_cell BK204.out 0).trans rfl, (blk_cell BK204.out 1).trans rfl, (blk_cell BK204.out 2).trans rfl⟩ (fun hHeld => ?_)
            clear hK K
            refine norm_ (a' := ?_) ?_ ?_
            rotate_left
            ·
             show Act.put _ (some 42) _ = _
             simp only [Act.put, List.setIfInBounds_toArray, List.set_cons_zero, List.set_cons_succ, i64_w, i32_w]
             rfl
            refine pu 9 (some 45) #[y_, y_, y_, y_, y_, y_, y_, y_, y_, y_, y_, n_] (any_of HT_.out (by kernel_rfl)) ?_
            exact norm_ (by simp only [putAll, Act.put, List.setIfInBounds_toArray, List.set_cons_zero, List.set_cons_succ]) (hCont (.slice Ao31 y209.length co31, .slice Ao35 y212.length co35, .slice Ao38 t215.length co38, gb218) _ ⟨hHeld, (by (with_reducible repeat (first | apply Kd.N_alloc | apply Kd.N_drewN | apply Kd.N_drew)); exact Kd.N_mono HO214.out (fun _ hk => ⟨hk.2, ⟨hk.1.1, ⟨hk.1.2.1, ⟨hk.1.2.2.1, hk.1.2.2.2⟩⟩⟩⟩)), (by (with_reducible repeat (first | apply Kd.R_alloc | apply Kd.R_drewN | apply Kd.R_drew)); exact Kd.R_mono HO217.out (fun _ hk => ⟨hk.1.2, hk.2⟩)), (by (with_reducible repeat (first | apply Kd.R_alloc | apply Kd.R_drewN | apply Kd.R_drew)); exact Kd.R_mono HO_205001.out (fun _ hk => ⟨hk.2, hk.1.1⟩)), (by (with_reducible repeat (first | apply Kd.R_alloc | apply Kd.R_drewN | apply Kd.R_drew)); exact Kd.R_mono HO_205002.out (fun _ hk => ⟨hk.2, hk.1.1⟩)), (tK BK196.out), (tK BK204.out), (tK BK218.out), GW218.out, GE218.out, NB196_218.out, NB218_196.out, NB204_218.out, NB218_204.out, (tB HB.out)⟩)
          rintro ⟨v210, v213, v216, gb218⟩ w39 ⟨hS_, h0_, h1_, h2_, h3_, h4_, h5_, h6_, h7_, h8_, h9_, h10_, h11_, h12_, h13_⟩
          have n0_ : Aside0 (Kd.N (Kd.slice 3 (Kd.int .i64)) 25 w39 w.heap.size (fun k_ => some k_ ≠ (v216 : Value).ownBlock ∧ some k_ ≠ (.slice Ao36 x205002_2.length co36 : Value).ownBlock ∧ k_ ≠ gb196 ∧ k_ ≠ gb204 ∧ k_ ≠ gb218) v213 y212) := ⟨h0_⟩
          have n1_ : Aside0 (Kd.R (Kd.int .i64) 3 w39 w.heap.size (fun k_ => some k_ ≠ (.slice Ao31 x205001_2.length co31 : Value).ownBlock ∧ some k_ ≠ (.slice Ao36 x205002_2.length co36 : Value).ownBlock) v216 t215) := ⟨h1_⟩
          have n2_ : Aside0 (Kd.R (Kd.int .i64) 3 w39 w.heap.size (fun k_ => some k_ ≠ (v216 : Value).ownBlock ∧ some k_ ≠ (.slice Ao36 x205002_2.length co36 : Value).ownBlock) (.slice Ao31 x205001_2.length co31) x205001_2) := ⟨h2_⟩
          have n3_ : Aside0 (Kd.R (Kd.int .i64) 3 w39 w.heap.size (fun k_ => some k_ ≠ (v216 : Value).ownBlock ∧ some k_ ≠ (.slice Ao31 x205001_2.length co31 : Value).ownBlock) (.slice Ao36 x205002_2.length co36) x205002_2) := ⟨h3_⟩
          have n4_ : Aside0 (w39.heap[gb196]? = some (.cells #[.int .i64 0, .slice none 0 0, .slice none 0 0] 27 (0, 0))) := ⟨h4_⟩
          have n5_ : Aside0 (w39.heap[gb204]? = some (.cells #[.int .i64 x205000_2, .slice Ao31 x205001_2.length co31, .slice Ao36 x205002_2.length co36] 27 (0, 0))) := ⟨h5_⟩
          have n6_ : Aside0 (w39.heap[gb218]? = some (.cells #[.int .i64 0, .slice none 0 0, .slice none 0 0] 27 (0, 0))) := ⟨h6_⟩
          have n7_ : Aside0 (w.heap.size ≤ gb218) := ⟨h7_⟩
          have n8_ : Aside0 (w.heap.size ≤ gb218) := ⟨h8_⟩
          have n9_ : Aside0 (gb196 ≠ gb218) := ⟨h9_⟩
          have n10_ : Aside0 (gb218 ≠ gb196) := ⟨h10_⟩
          have n11_ : Aside0 (gb204 ≠ gb218) := ⟨h11_⟩
          have n12_ : Aside0 (gb218 ≠ gb204) := ⟨h12_⟩
          have n13_ : Aside0 (Below w.heap.size w w39) := ⟨h13_⟩
          clear HO_205001
          clear HO_205002
          clear BK196
          clear BK204
          clear HB
          clear h0_ h1_ h2_ h3_ h4_ h5_ h6_ h7_ h8_ h9_ h10_ h11_ h12_ h13_
          have HO214 := n0_
          have HO217 := n1_
          have HO_205001 := n2_
          have HO_205002 := n3_
          have BK196 := n4_
          have BK204 := n5_
          have BK218 := n6_
          have GW218 := n7_
          have GE218 := n8_
          have NB196_218 := n9_
          have NB218_196 := n10_
          have NB204_218 := n11_
          have NB218_204 := n12_
          have HB := n13_
          clear n0_ n1_ n2_ n3_ n4_ n5_ n6_ n7_ n8_ n9_ n10_ n11_ n12_ n13_
          have hHeld : w39.cell? ⟨gb204, 0, none⟩ = some (.int .i64 x205000_2) ∧ w39.cell? ⟨gb204, 1, none⟩ = some ((.slice Ao31 x205001_2.length co31)) ∧ w39.cell? ⟨gb204, 2, none⟩ = some ((.slice Ao36 x205002_2.length co36)) := hS_
          obtain ⟨Ao40, co40, eo40⟩ := Kd.R_slice HO217.out
          (first | subst eo40 | (injection eo40 with f1_ f2_ f3_; have f4_ := f1_.symm; have f5_ := f3_.symm; clear f1_ f2_ f3_; subst f4_; subst f5_))
          refine norm_ (a' := ?_) ?_ ?_
          rotate_left
          ·
           simp only [putAll, Act.put, List.setIfInBounds_toArray, List.set_cons_zero, List.set_cons_succ]
           rfl
          refine one_ (i := 11) (N := none) #[y_, y_, y_, y_, y_, y_, y_, y_, y_, y_, y_, y_] rfl rfl (one_of HT_.out (by kernel_rfl)) (by decide) (fun K hK => ?_)
          have hs41 : w39.cell? ⟨gb218, 0, none⟩ = some (.int .i64 0) := (blk_cell BK218.out 0).trans rfl
          have hfs41 := blk_frozen BK218.out 0
          have hns41_0 := NB196_218.out
          have hns41_1 := NB204_218.out
          have hms41_0 := NB218_196.out
          have hms41_1 := NB218_204.out
          have hs42 : w39.cell? ⟨gb218, 1, none⟩ = some (.slice none 0 0) := (blk_cell BK218.out 1).trans rfl
          have hfs42 := blk_frozen BK218.out 1
          have hns42_0 := NB196_218.out
          have hns42_1 := NB204_218.out
          have hms42_0 := NB218_196.out
          have hms42_1 := NB218_204.out
          have hs43 : w39.cell? ⟨gb218, 2, none⟩ = some (.slice none 0 0) := (blk_cell BK218.out 2).trans rfl
          have hfs43 := blk_frozen BK218.out 2
          have hns43_0 := NB196_218.out
          have hns43_1 := NB204_218.out
          have hms43_0 := NB218_196.out
          have hms43_1 := NB218_204.out
          refine skip_ (w1 := ?_) (by rfl) rfl ?_ ?_
          rotate_left
          ·
           go_simp
           rfl
          refine hK.out _ _ ⟨((cell_far (p := ⟨gb218, _, none⟩) NB204_218.out _).trans (((cell_far (p := ⟨gb218, _, none⟩) NB204_218.out _).trans (((cell_far (p := ⟨gb218, _, none⟩) NB204_218.out _).trans (hHeld.1)))))), ((cell_far (p := ⟨gb218, _, none⟩) NB204_218.out _).trans (((cell_far (p := ⟨gb218, _, none⟩) NB204_218.out _).trans (((cell_far (p := ⟨gb218, _, none⟩) NB204_218.out _).trans (hHeld.2.1)))))), ((cell_far (p := ⟨gb218, _, none⟩) NB204_218.out _).trans (((cell_far (p := ⟨gb218, _, none⟩) NB204_218.out _).trans (((cell_far (p := ⟨gb218, _, none⟩) NB204_218.out _).trans (hHeld.2.2))))))⟩ (fun hHeld => ?_)
          clear hK K
          refine done_ (done_of HT_.out (by kernel_rfl)) ?_
          have hnb44 := NB218_196.out
          have hnc44 := NB196_218.out
          have hnb45 := NB218_204.out
          have hnc45 := NB204_218.out
          obtain ⟨hcz46_0, hfz46_0, hcz46_1, hfz46_1, hcz46_2, hfz46_2⟩ := cz3 BK218
          try go_wp2_with (first | ((with_reducible refine gate_callee (f := 58) rfl ?_); refine goesL_ (some 47) rfl rfl Try.func58 (by kernel_rfl) rfl #[.agg #[.int .i64 a0, .slice Ao40 t215.length co40, .slice Ao36 x205002_2.length co36], .int .i64 1] rfl tM ?_; (with_reducible refine (impl_Pile_holds.calls k2 a0 _ _ t215 _ _ x205002_2 1 true _ ?side1 ?side2 ?side3 ?side4 A25.out).mono ?_); (case side1 => refine (Kd.R_reads' (e := 3) (base := w.heap.size) (ok := fun k_ => (some k_ ≠ (.slice Ao31 x205001_2.length co31 : Value).ownBlock ∧ some k_ ≠ (.slice Ao36 x205002_2.length co36 : Value).ownBlock)) (n := t215.length) (c := co40) ?_).2.2; exact (by (with_reducible repeat (first | apply Kd.R_alloc | apply Kd.R_drewN | apply Kd.R_drew)); exact (rF3 HO217 BK218))); (case side2 => exact (Kd.R_reads' HO217.out).2.1); (case side3 => refine (Kd.R_reads' (e := 3) (base := w.heap.size) (ok := fun k_ => (some k_ ≠ (.slice Ao40 t215.length co40 : Value).ownBlock ∧ some k_ ≠ (.slice Ao31 x205001_2.length co31 : Value).ownBlock)) (n := x205002_2.length) (c := co36) ?_).2.2; exact (by (with_reducible repeat (first | apply Kd.R_alloc | apply Kd.R_drewN | apply Kd.R_drew)); exact (rF3 HO_205002 BK218))); (case side4 => exact (Kd.R_reads' HO_205002.out).2.1); rintro e w47 ⟨rfl, hb⟩; refine ⟨_, rfl, ?_⟩; replace HO_205001 := Aside0.mk (Kd.R_below (by (with_reducible repeat (first | apply Kd.R_alloc | apply Kd.R_drewN | apply Kd.R_drew)); exact (rF3 HO_205001 BK218)) hb); replace HO_205002 := Aside0.mk (Kd.R_below (by (with_reducible repeat (first | apply Kd.R_alloc | apply Kd.R_drewN | apply Kd.R_drew)); exact (rF3 HO_205002 BK218)) hb); replace HO214 := Aside0.mk (Kd.N_below (by (with_reducible repeat (first | apply Kd.N_alloc | apply Kd.N_drewN | apply Kd.N_drew)); exact (Kd.N_mono (Kd.N_far (p := ⟨gb218, 2, none⟩) (Kd.N_far (p := ⟨gb218, 1, none⟩) (Kd.N_far (p := ⟨gb218, 0, none⟩) (Kd.N_mono HO214.out (fun k_ hk => (⟨hk, hk.2.2.2.2⟩ : _ ∧ k_ ≠ gb218))) (fun _ hk => hk.2) (.int .i64 a0)) (fun _ hk => hk.2) (.slice Ao40 t215.length co40)) (fun _ hk => hk.2) (.slice Ao36 x205002_2.length co36)) (fun _ h_ => h_.1))) hb); replace HO217 := Aside0.mk (Kd.R_below (by (with_reducible repeat (first | apply Kd.R_alloc | apply Kd.R_drewN | apply Kd.R_drew)); exact (rF3 HO217 BK218)) hb); replace BK196 := fB BK196 hb; replace BK204 := fB BK204 hb; replace BK218 := Aside0.mk (blk_below (g := gb218) (o := .cells #[.int .i64 a0, .slice Ao40 t215.length co40, .slice Ao36 x205002_2.length co36] 27 (0, 0)) (by (with_reducible repeat (first | refine blk_drewN ?_ _ | refine blk_drew ?_ | refine blk_alloc ?_ _)); exact bp3 BK218.out) hb); replace HB := hB HB hb; (try clear hb); obtain ⟨hcz48_0, hfz48_0, hcz48_1, hfz48_1, hcz48_2, hfz48_2⟩ := cz3 BK218; have hnb49 := NB204_196.out; have hnc49 := NB196_204.out; obtain ⟨hcz50_0, hfz50_0, hcz50_1, hfz50_1, hcz50_2, hfz50_2⟩ := cz3 BK204))
          go_roundg k2
          case measure => have := HK1.out; have := HK2.out; omega
          case rel => exact ⟨(a0), (t215), (x205002_2), (.slice Ao40 t215.length co40), (.slice Ao36 x205002_2.length co36), H', ⟨by have := HK1.out; have := HK2.out; omega⟩, ⟨by (with_reducible repeat (first | apply Kd.R_alloc | apply Kd.R_drewN | apply Kd.R_drew)); exact Kd.R_mono (Kd.R_far (p := ⟨gb204, 2, none⟩) (Kd.R_far (p := ⟨gb204, 1, none⟩) (Kd.R_far (p := ⟨gb204, 0, none⟩) (Kd.R_types HO217.out BK204.out (by decide)) (fun _ hk => hk.2) (.int .i64 a0)) (fun _ hk => hk.2) (.slice Ao40 t215.length co40)) (fun _ hk => hk.2) (.slice Ao36 x205002_2.length co36)) (fun _ hk => hk.1.2)⟩, ⟨by (with_reducible repeat (first | apply Kd.R_alloc | apply Kd.R_drewN | apply Kd.R_drew)); exact Kd.R_mono (Kd.R_far (p := ⟨gb204, 2, none⟩) (Kd.R_far (p := ⟨gb204, 1, none⟩) (Kd.R_far (p := ⟨gb204, 0, none⟩) (Kd.R_types HO_205002.out BK204.out (by decide)) (fun _ hk => hk.2) (.int .i64 a0)) (fun _ hk => hk.2) (.slice Ao40 t215.length co40)) (fun _ hk => hk.2) (.slice Ao36 x205002_2.length co36)) (fun _ hk => hk.1.1)⟩, ⟨by (with_reducible repeat (first | refine blk_drewN ?_ _ | refine blk_drew ?_ | refine blk_alloc ?_ _)); refine blk_far ?_ NB196_204.out _; (with_reducible repeat (first | refine blk_drewN ?_ _ | refine blk_drew ?_ | refine blk_alloc ?_ _)); refine blk_far ?_ NB196_204.out _; (with_reducible repeat (first | refine blk_drewN ?_ _ | refine blk_drew ?_ | refine blk_alloc ?_ _)); refine blk_far ?_ NB196_204.out _; (with_reducible repeat (first | refine blk_drewN ?_ _ | refine blk_drew ?_ | refine blk_alloc ?_ _)); exact BK196.out⟩, ⟨by (with_reducible repeat (first | refine blk_drewN ?_ _ | refine blk_drew ?_ | refine blk_alloc ?_ _)); exact bp3 BK204.out⟩, ⟨tB HB.out⟩⟩
         ·
          replace c26 := Bool.eq_false_iff.mpr c26
          subst c26
          have H1 : (impl_EdgePile.l1 k2 a0 a1 (wrap64 (x7_2 + 1)) x205000_2 x205001_2 x205002_2) = some (r1, r2, r3, r4) := by rw [if_neg (show ¬ (false = true) by decide)] at H; exact H
          clear H
          have H := H1
          clear H1
          have H' := Aside0.mk H
          clear H
          try go_wp2
          replace HO_205001 := Aside0.mk (Kd.R_drew HO_205001.out)
          replace HO_205002 := Aside0.mk (Kd.R_drew HO_205002.out)
          replace BK196 := Aside0.mk (blk_drew BK196.out)
          replace BK204 := Aside0.mk (blk_drew BK204.out)
          replace HB := Aside0.mk (below_drew1 HB.out)
          obtain ⟨Ao55, co55, eo_⟩ := Kd.R_slice HO_205001.out; subst eo_
          obtain ⟨Ao60, co60, eo_⟩ := Kd.R_slice HO_205002.out; subst eo_
          refine start_ (n := 12) (S := fun w' => w'.cell? ⟨gb204, 0, none⟩ = some (.int .i64 x205000_2) ∧ w'.cell? ⟨gb204, 1, none⟩ = some ((.slice Ao55 x205001_2.length co55)) ∧ w'.cell? ⟨gb204, 2, none⟩ = some ((.slice Ao60 x205002_2.length co60))) (ds := []) #[n_, n_, n_, n_, n_, n_, n_, n_, n_, n_, n_, n_] (by kernel_rfl) rfl rfl ⟨(blk_cell BK204.out 0).trans rfl, (blk_cell BK204.out 1).trans rfl, (blk_cell BK204.out 2).trans rfl⟩ (fun hHeld => ?_); refine with_tabW impl_EdgePile.tab7 impl_EdgePile.bits7 (fun HT_ HW_ => ?_)
          generalize wr.drew = w51 at HO_205001 HO_205002 BK196 BK204 HB hHeld ⊢
          refine pu 0 (some 36) #[y_, n_, n_, n_, n_, n_, n_, n_, n_, n_, n_, n_] (any_of HT_.out (by kernel_rfl)) ?_
          refine pu 1 (some 37) #[y_, y_, n_, n_, n_, n_, n_, n_, n_, n_, n_, n_] (any_of HT_.out (by kernel_rfl)) ?_
          refine pu 3 (some 39) #[y_, y_, n_, y_, n_, n_, n_, n_, n_, n_, n_, n_] (any_of HT_.out (by kernel_rfl)) ?_
          refine pu 7 (some 43) #[y_, y_, n_, y_, n_, n_, n_, y_, n_, n_, n_, n_] (any_of HT_.out (by kernel_rfl)) ?_
          refine tk 4 (some 40) #[y_, y_, n_, y_, y_, n_, n_, y_, n_, n_, n_, n_] rfl (take_ofW HT_.out HW_.out (by kernel_rfl)) hHeld (Or.inl ⟨by rfl, by rintro w' ⟨s0, s1, s2⟩; go_simp; with_reducible rfl⟩) ?_
          refine tk 8 (some 44) #[y_, y_, n_, y_, y_, n_, n_, y_, y_, n_, n_, n_] rfl (take_ofW HT_.out HW_.out (by kernel_rfl)) hHeld (Or.inl ⟨by rfl, by rintro w' ⟨s0, s1, s2⟩; go_simp; with_reducible rfl⟩) ?_
          refine join_ (σ := Value × Value × Value × Nat) 1 #[y_, y_, y_, y_, y_, y_, y_, y_, y_, y_, y_, n_] (fun s_ => [(38, s_.1), (41, s_.2.1), (42, s_.2.2.1), (8, .pointer (some ⟨s_.2.2.2, 0, none⟩)), (45, .agg #[.int .i64 a0, s_.2.2.1, .slice Ao60 x205002_2.length co60])]) (fun s_ w' => (w'.cell? ⟨gb204, 0, none⟩ = some (.int .i64 x205000_2) ∧ w'.cell? ⟨gb204, 1, none⟩ = some ((.slice Ao55 x205001_2.length co55)) ∧ w'.cell? ⟨gb204, 2, none⟩ = some ((.slice Ao60 x205002_2.length co60))) ∧ (Kd.N (Kd.slice 3 (Kd.int .i64)) 25 w' w.heap.size (fun k_ => some k_ ≠ (s_.2.2.1 : Value).ownBlock ∧ some k_ ≠ (.slice Ao60 x205002_2.length co60 : Value).ownBlock ∧ k_ ≠ gb196 ∧ k_ ≠ gb204 ∧ k_ ≠ s_.2.2.2) s_.2.1 y212) ∧ (Kd.R (Kd.int .i64) 3 w' w.heap.size (fun k_ => some k_ ≠ (.slice Ao55 x205001_2.length co55 : Value).ownBlock ∧ some k_ ≠ (.slice Ao60 x205002_2.length co60 : Value).ownBlock) s_.2.2.1 t215) ∧ (Kd.R (Kd.int .i64) 3 w' w.heap.size (fun k_ => some k_ ≠ (s_.2.2.1 : Value).ownBlock ∧ some k_ ≠ (.slice Ao60 x205002_2.length co60 : Value).ownBlock) (.slice Ao55 x205001_2.length co55) x205001_2) ∧ (Kd.R (Kd.int .i64) 3 w' w.heap.size (fun k_ => some k_ ≠ (s_.2.2.1 : Value).ownBlock ∧ some k_ ≠ (.slice Ao55 x205001_2.length co55 : Value).ownBlock) (.slice Ao60 x205002_2.length co60) x205002_2) ∧ (w'.heap[gb196]? = some (.cells #[.int .i64 0, .slice none 0 0, .slice none 0 0] 27 (0, 0))) ∧ (w'.heap[gb204]? = some (.cells #[.int .i64 x205000_2, .slice Ao55 x205001_2.length co55, .slice Ao60 x205002_2.length co60] 27 (0, 0))) ∧ (w'.heap[s_.2.2.2]? = some (.cells #[.int .i64 0, .slice none 0 0, .slice none 0 0] 27 (0, 0))) ∧ (w.heap.size ≤ s_.2.2.2) ∧ (w.heap.size ≤ s_.2.2.2) ∧ (gb196 ≠ s_.2.2.2) ∧ (s_.2.2.2 ≠ gb196) ∧ (gb204 ≠ s_.2.2.2) ∧ (s_.2.2.2 ≠ gb204) ∧ (Below w.heap.size w w')) ?_ ?_
          rotate_left
          ·
           intro hCont
           refine two_ (i := 2) (j := 10) (Ni := some 38) (Nj := some 8) #[y_, y_, y_, y_, y_, n_, n_, y_, y_, n_, n_, n_] #[y_, y_, n_, y_, y_, n_, n_, y_, y_, n_, y_, n_] rfl rfl rfl rfl (two_of HT_.out (by kernel_rfl)) (by decide) (by decide) (fun K hK => ?_) (fun K hK => ?_)
           ·
            skip
            refine Kd.R_lit_step (Kd.int .i64) _ 3 ?hg (N := 38) ?hd (xs := ([x7_2] : List Int)) (inner := [.int .i64 x7_2]) (ok := fun _ => True) (okp := fun _ => True) ?hr ?hp (fun _ hk => hk) trivial (Below.refl _ _) (Nat.le_refl _) (by simp) ?_; (case hd => rfl); (case hg => rfl); (case hr => first | (go_simp; done) | (go_simp; rfl)); (case hp => exact (Reps.one (show Kd.M (Kd.int .i64) _ _ _ x7_2 [.int .i64 x7_2] from rfl) (Reps.none _ _)))
            intro v210 w52 ho53 hb hg_ hnew_
            clear hg_ hnew_
            (first | rw [← Ny209.out] at ho53 | (simp only [Int.reduceToNat] at ho53; rw [← Ny209.out] at ho53))
            have HO211 := Aside0.mk (Kd.R_lower (Kd.R_new' (Kd.R_new' ho53 (Kd.R_lt (tR HO_205001.out))) (Kd.R_lt (tR HO_205002.out))) (below_size (tB HB.out)))
            replace HO_205001 := Aside0.mk (Kd.R_elder' (tR HO_205001.out) (Kd.R_base ho53) hb)
            replace HO_205002 := Aside0.mk (Kd.R_elder' (tR HO_205002.out) (Kd.R_base ho53) hb)
            replace BK196 := bkB BK196 hb
            replace BK204 := bkB BK204 hb
            replace HB := hB HB hb
            clear hb ho53
            obtain ⟨Ao54, co54, eo54⟩ := Kd.R_slice HO211.out
            (first | subst eo54 | (injection eo54 with f1_ f2_ f3_; have f4_ := f1_.symm; have f5_ := f3_.symm; clear f1_ f2_ f3_; subst f4_; subst f5_))
            obtain ⟨Ao55, co55, eo55⟩ := Kd.R_slice HO_205001.out
            (first | subst eo55 | (injection eo55 with f1_ f2_ f3_; have f4_ := f1_.symm; have f5_ := f3_.symm; clear f1_ f2_ f3_; subst f4_; subst f5_))
            refine hK.out _ _ ⟨(blk_cell BK204.out 0).trans rfl, (blk_cell BK204.out 1).trans rfl, (blk_cell BK204.out 2).trans rfl⟩ (fun hHeld => ?_)
            clear hK K
            refine norm_ (a' := ?_) ?_ ?_
            rotate_left
            ·
             show Act.put _ (some 38) _ = _
             simp only [Act.put, List.setIfInBounds_toArray, List.set_cons_zero, List.set_cons_succ, i64_w, i32_w]
             rfl
            refine two_ (i := 5) (j := 10) (Ni := some 41) (Nj := some 8) #[y_, y_, y_, y_, y_, y_, n_, y_, y_, n_, n_, n_] #[y_, y_, y_, y_, y_, n_, n_, y_, y_, n_, y_, n_] rfl rfl rfl rfl (two_of HT_.out (by kernel_rfl)) (by decide) (by decide) (fun K hK => ?_) (fun K hK => ?_)
            ·
             skip
             refine Kd.N_lit_step (Kd.slice 3 (Kd.int .i64)) _ 25 ?hg (N' := 41) ?hd (xs := ([y209, x205001_2] : List (List Int))) (inner := [.slice Ao54 y209.length co54, .slice Ao55 x205001_2.length co55]) (ok := (fun k_ => some k_ ≠ ((.slice Ao60 x205002_2.length co60) : Value).ownBlock ∧ k_ ≠ gb196 ∧ k_ ≠ gb204)) (okp := (fun k_ => some k_ ≠ ((.slice Ao60 x205002_2.length co60) : Value).ownBlock ∧ k_ ≠ gb196 ∧ k_ ≠ gb204)) ?hr ?hp (fun _ hk => hk) ((show ∀ k_, w52.heap.size ≤ k_ → (fun k_ => some k_ ≠ ((.slice Ao60 x205002_2.length co60) : Value).ownBlock ∧ k_ ≠ gb196 ∧ k_ ≠ gb204) k_ from fun k_ hk => ⟨Kd.fresh' (Kd.R_lt (tR HO_205002.out)) k_ hk, Kd.freshB (g := gb196) (o := .cells #[.int .i64 0, .slice none 0 0, .slice none 0 0] 27 (0, 0)) (tK BK196.out) k_ hk, Kd.freshB (g := gb204) (o := .cells #[.int .i64 x205000_2, .slice Ao55 x205001_2.length co55, (.slice Ao60 x205002_2.length co60)] 27 (0, 0)) (tK BK204.out) k_ hk⟩) _ (Nat.le_refl _)) (Below.refl _ _) (Nat.le_refl _) (by simp) ?_; (case hd => rfl); (case hg => rfl); (case hr => first | (go_simp; done) | (go_simp; rfl)); (case hp => exact (Reps.one (show Kd.FK (Kd.slice 3 (Kd.int .i64)) _ _ y209 [.slice Ao54 y209.length co54] from (Kd.FK_slice_mk (Kd.R_reads' (Kd.R_mono (ok' := (fun k_ => some k_ ≠ ((.slice Ao60 x205002_2.length co60) : Value).ownBlock ∧ k_ ≠ gb196 ∧ k_ ≠ gb204)) (Kd.R_types (Kd.R_types (HO211.out) BK196.out (by decide)) BK204.out (by decide)) (fun k_ hk => ⟨hk.1.1.2, ⟨hk.1.2, hk.2⟩⟩))).2.1 (Kd.R_F (Kd.R_mono (ok' := (fun k_ => some k_ ≠ ((.slice Ao60 x205002_2.length co60) : Value).ownBlock ∧ k_ ≠ gb196 ∧ k_ ≠ gb204)) (Kd.R_types (Kd.R_types (HO211.out) BK196.out (by decide)) BK204.out (by decide)) (fun k_ hk => ⟨hk.1.1.2, ⟨hk.1.2, hk.2⟩⟩))))) (Reps.one (show Kd.FK (Kd.slice 3 (Kd.int .i64)) _ _ x205001_2 [.slice Ao55 x205001_2.length co55] from (Kd.FK_slice_mk (Kd.R_reads' (Kd.R_mono (ok' := (fun k_ => some k_ ≠ ((.slice Ao60 x205002_2.length co60) : Value).ownBlock ∧ k_ ≠ gb196 ∧ k_ ≠ gb204)) (Kd.R_types (Kd.R_types (HO_205001.out) BK196.out (by decide)) BK204.out (by decide)) (fun k_ hk => ⟨hk.1.1.1, ⟨hk.1.2, hk.2⟩⟩))).2.1 (Kd.R_F (Kd.R_mono (ok' := (fun k_ => some k_ ≠ ((.slice Ao60 x205002_2.length co60) : Value).ownBlock ∧ k_ ≠ gb196 ∧ k_ ≠ gb204)) (Kd.R_types (Kd.R_types (HO_205001.out) BK196.out (by decide)) BK204.out (by decide)) (fun k_ hk => ⟨hk.1.1.1, ⟨hk.1.2, hk.2⟩⟩))))) (Reps.none _ _))))
             intro v213 w56 ho57 hb hg_ hnew_
             clear hg_ hnew_
             (first | rw [← Ny212.out] at ho57 | (simp only [Int.reduceToNat] at ho57; rw [← Ny212.out] at ho57))
             replace HO_205001 := rB HO_205001 hb
             replace HO_205002 := rB HO_205002 hb
             have HO214 := Aside0.mk (Kd.N_lower ho57 (below_size (tB HB.out)))
             replace BK196 := bkB BK196 hb
             replace BK204 := bkB BK204 hb
             replace HB := hB HB hb
             clear HO211
             clear hb ho57
             obtain ⟨Ao58, co58, eo58⟩ := Kd.N_slice HO214.out
             (first | subst eo58 | (injection eo58 with f1_ f2_ f3_; have f4_ := f1_.symm; have f5_ := f3_.symm; clear f1_ f2_ f3_; subst f4_; subst f5_))
             refine hK.out _ _ ⟨(blk_cell BK204.out 0).trans rfl, (blk_cell BK204.out 1).trans rfl, (blk_cell BK204.out 2).trans rfl⟩ (fun hHeld => ?_)
             clear hK K
             refine norm_ (a' := ?_) ?_ ?_
             rotate_left
             ·
              show Act.put _ (some 41) _ = _
              simp only [Act.put, List.setIfInBounds_toArray, List.set_cons_zero, List.set_cons_succ, i64_w, i32_w]
              rfl
             refine two_ (i := 6) (j := 10) (Ni := some 42) (Nj := some 8) #[y_, y_, y_, y_, y_, y_, y_, y_, y_, n_, n_, n_] #[y_, y_, y_, y_, y_, y_, n_, y_, y_, n_, y_, n_] rfl rfl rfl rfl (two_of HT_.out (by kernel_rfl)) (by decide) (by decide) (fun K hK => ?_) (fun K hK => ?_)
             ·
              skip
              refine goes_ Try.func57 (by kernel_rfl) rfl #[.slice Ao58 y212.length co58] (by rfl) rfl rfl tM ?_
              with_reducible refine (slices_Concat_int_int.calls k2 _ _ y212 t215 _ ?side1 ?side2 A24.out).mono ?_
              (case side1 => exact tC (Kd.N_reads' HO214.out).2.2)
              (case side2 => exact (Kd.N_reads' HO214.out).2.1)
              rintro e w59 ⟨v216, rfl, ho0, hb⟩
              refine ⟨_, rfl, ?_⟩
              replace HO214 := Aside0.mk (Kd.N_elder' (by (with_reducible repeat (first | apply Kd.N_alloc | apply Kd.N_drewN | apply Kd.N_drew)); exact HO214.out) (Kd.R_base ho0) hb)
              have HO217 := Aside0.mk (Kd.R_lower (Kd.R_new' (Kd.R_new' ho0 (Kd.R_lt (tR HO_205001.out))) (Kd.R_lt (tR HO_205002.out))) (below_size (tB HB.out)))
              replace HO_205001 := Aside0.mk (Kd.R_elder' (tR HO_205001.out) (Kd.R_base ho0) hb)
              replace HO_205002 := Aside0.mk (Kd.R_elder' (tR HO_205002.out) (Kd.R_base ho0) hb)
              replace BK196 := bkB BK196 hb
              replace BK204 := bkB BK204 hb
              replace HB := hB HB hb
              (try clear hb); (try clear hk); (try clear ho0)
              obtain ⟨Ao60, co60, eo60⟩ := Kd.R_slice HO_205002.out
              (first | subst eo60 | (injection eo60 with f1_ f2_ f3_; have f4_ := f1_.symm; have f5_ := f3_.symm; clear f1_ f2_ f3_; subst f4_; subst f5_))
              obtain ⟨Ao61, co61, eo61⟩ := Kd.R_slice HO217.out
              (first | subst eo61 | (injection eo61 with f1_ f2_ f3_; have f4_ := f1_.symm; have f5_ := f3_.symm; clear f1_ f2_ f3_; subst f4_; subst f5_))
              refine hK.out _ _ ⟨(blk_cell BK204.out 0).trans rfl, (blk_cell BK204.out 1).trans rfl, (blk_cell BK204.out 2).trans rfl⟩ (fun hHeld => ?_)
              clear hK K
              refine norm_ (a' := ?_) ?_ ?_
              rotate_left
              ·
               show Act.put _ (some 42) _ = _
               simp only [Act.put, List.setIfInBounds_toArray, List.set_cons_zero, List.set_cons_succ, i64_w, i32_w]
               rfl
              refine pu 9 (some 45) #[y_, y_, y_, y_, y_, y_, y_, y_, y_, y_, n_, n_] (any_of HT_.out (by kernel_rfl)) ?_
              refine one_ (i := 10) (N := some 8) #[y_, y_, y_, y_, y_, y_, y_, y_, y_, y_, y_, n_] rfl rfl (one_of HT_.out (by kernel_rfl)) (by decide) (fun K hK => ?_)
              refine box_step ?hg (N := 8) ?hd (cs := #[.int .i64 0, .slice none 0 0, .slice none 0 0]) (t := 27) ?hr ?_; (case hd => rfl); (case hg => rfl); (case hr => first | (go_simp; done) | (go_simp; rfl))
              intro gb218 hg w62 hbox hb
              replace HO_205001 := rB HO_205001 hb
              replace HO_205002 := rB HO_205002 hb
              replace HO214 := Aside0.mk (Kd.N_below (Kd.N_elderB (by (with_reducible repeat (first | apply Kd.N_alloc | apply Kd.N_drewN | apply Kd.N_drew)); exact HO214.out) gb218 (Nat.le_of_eq hg.symm)) hb)
              replace HO217 := rB HO217 hb
              have BK218 := Aside0.mk hbox
              have GW218 := Aside0.mk (bS HB.out hg)
              have GE218 := Aside0.mk (bS HB.out hg)
              replace HB := hB HB hb
              have NB196_218 := Aside0.mk (nL BK196.out hg)
              have NB218_196 := Aside0.mk (nG BK196.out hg)
              replace BK196 := bkB BK196 hb
              have NB204_218 := Aside0.mk (nL BK204.out hg)
              have NB218_204 := Aside0.mk (nG BK204.out hg)
              replace BK204 := bkB BK204 hb
              clear hb hbox hg
              refine hK.out _ _ ⟨(blk_cell BK204.out 0).trans rfl, (blk_cell BK204.out 1).trans rfl, (blk_cell BK204.out 2).trans rfl⟩ (fun hHeld => ?_)
              clear hK K
              refine norm_ (a' := ?_) ?_ ?_
              rotate_left
              ·
               show Act.put _ (some 8) _ = _
               simp only [Act.put, List.setIfInBounds_toArray, List.set_cons_zero, List.set_cons_succ, i64_w, i32_w]
               rfl
              exact norm_ (by simp only [putAll, Act.put, List.setIfInBounds_toArray, List.set_cons_zero, List.set_cons_succ]) (hCont (.slice Ao54 y209.length co54, .slice Ao58 y212.length co58, .slice Ao61 t215.length co61, gb218) _ ⟨hHeld, (by (with_reducible repeat (first | apply Kd.N_alloc | apply Kd.N_drewN | apply Kd.N_drew)); exact Kd.N_mono HO214.out (fun _ hk => ⟨hk.1.2, ⟨hk.1.1.1, ⟨hk.1.1.2.1, ⟨hk.1.1.2.2, hk.2⟩⟩⟩⟩)), (by (with_reducible repeat (first | apply Kd.R_alloc | apply Kd.R_drewN | apply Kd.R_drew)); exact Kd.R_mono HO217.out (fun _ hk => ⟨hk.1.2, hk.2⟩)), (by (with_reducible repeat (first | apply Kd.R_alloc | apply Kd.R_drewN | apply Kd.R_drew)); exact Kd.R_mono HO_205001.out (fun _ hk => ⟨hk.2, hk.1.1⟩)), (by (with_reducible repeat (first | apply Kd.R_alloc | apply Kd.R_drewN | apply Kd.R_drew)); exact Kd.R_mono HO_205002.out (fun _ hk => ⟨hk.2, hk.1.1⟩)), (tK BK196.out), (tK BK204.out), (tK BK218.out), GW218.out, GE218.out, NB196_218.out, NB218_196.out, NB204_218.out, NB218_204.out, (tB HB.out)⟩)
             ·
              skip
              refine box_step ?hg (N := 8) ?hd (cs := #[.int .i64 0, .slice none 0 0, .slice none 0 0]) (t := 27) ?hr ?_; (case hd => rfl); (case hg => rfl); (case hr => first | (go_simp; done) | (go_simp; rfl))
              intro gb218 hg w58 hbox hb
              replace HO_205001 := rB HO_205001 hb
              replace HO_205002 := rB HO_205002 hb
              replace HO214 := Aside0.mk (Kd.N_below (Kd.N_elderB (by (with_reducible repeat (first | apply Kd.N_alloc | apply Kd.N_drewN | apply Kd.N_drew)); exact HO214.out) gb218 (Nat.le_of_eq hg.symm)) hb)
              have BK218 := Aside0.mk hbox
              have GW218 := Aside0.mk (bS HB.out hg)
              have GE218 := Aside0.mk (bS HB.out hg)
              replace HB := hB HB hb
              have NB196_218 := Aside0.mk (nL BK196.out hg)
              have NB218_196 := Aside0.mk (nG BK196.out hg)
              replace BK196 := bkB BK196 hb
              have NB204_218 := Aside0.mk (nL BK204.out hg)
              have NB218_204 := Aside0.mk (nG BK204.out hg)
              replace BK204 := bkB BK204 hb
              clear hb hbox hg
              obtain ⟨Ao59, co59, eo59⟩ := Kd.N_slice HO214.out
              (first | subst eo59 | (injection eo59 with f1_ f2_ f3_; have f4_ := f1_.symm; have f5_ := f3_.symm; clear f1_ f2_ f3_; subst f4_; subst f5_))
              refine hK.out _ _ ⟨(blk_cell BK204.out 0).trans rfl, (blk_cell BK204.out 1).trans rfl, (blk_cell BK204.out 2).trans rfl⟩ (fun hHeld => ?_)
              clear hK K
              refine norm_ (a' := ?_) ?_ ?_
              rotate_left
              ·
               show Act.put _ (some 8) _ = _
               simp only [Act.put, List.setIfInBounds_toArray, List.set_cons_zero, List.set_cons_succ, i64_w, i32_w]
               rfl
              refine one_ (i := 6) (N := some 42) #[y_, y_, y_, y_, y_, y_, y_, y_, y_, n_, y_, n_] rfl rfl (one_of HT_.out (by kernel_rfl)) (by decide) (fun K hK => ?_)
              refine goes_ Try.func57 (by kernel_rfl) rfl #[.slice Ao59 y212.length co59] (by rfl) rfl rfl tM ?_
              with_reducible refine (slices_Concat_int_int.calls k2 _ _ y212 t215 _ ?side1 ?side2 A24.out).mono ?_
              (case side1 => exact tC (Kd.N_reads' HO214.out).2.2)
              (case side2 => exact (Kd.N_reads' HO214.out).2.1)
              rintro e w60 ⟨v216, rfl, ho0, hb⟩
              refine ⟨_, rfl, ?_⟩
              replace HO214 := Aside0.mk (Kd.N_elder' (by (with_reducible repeat (first | apply Kd.N_alloc | apply Kd.N_drewN | apply Kd.N_drew)); exact HO214.out) (Kd.R_base ho0) hb)
              have HO217 := Aside0.mk (Kd.R_lower (Kd.R_new' (Kd.R_new' ho0 (Kd.R_lt (tR HO_205001.out))) (Kd.R_lt (tR HO_205002.out))) (below_size (tB HB.out)))
              replace HO_205001 := Aside0.mk (Kd.R_elder' (tR HO_205001.out) (Kd.R_base ho0) hb)
              replace HO_205002 := Aside0.mk (Kd.R_elder' (tR HO_205002.out) (Kd.R_base ho0) hb)
              replace BK196 := bkB BK196 hb
              replace BK204 := bkB BK204 hb
              replace BK218 := bkB BK218 hb
              replace HB := hB HB hb
              (try clear hb); (try clear hk); (try clear ho0)
              obtain ⟨Ao61, co61, eo61⟩ := Kd.R_slice HO_205002.out
              (first | subst eo61 | (injection eo61 with f1_ f2_ f3_; have f4_ := f1_.symm; have f5_ := f3_.symm; clear f1_ f2_ f3_; subst f4_; subst f5_))
              obtain ⟨Ao62, co62, eo62⟩ := Kd.R_slice HO217.out
              (first | subst eo62 | (injection eo62 with f1_ f2_ f3_; have f4_ := f1_.symm; have f5_ := f3_.symm; clear f1_ f2_ f3_; subst f4_; subst f5_))
              refine hK.out _ _ ⟨(blk_cell BK204.out 0).trans rfl, (blk_cell BK204.out 1).trans rfl, (blk_cell BK204.out 2).trans rfl⟩ (fun hHeld => ?_)
              clear hK K
              refine norm_ (a' := ?_) ?_ ?_
              rotate_left
              ·
               show Act.put _ (some 42) _ = _
               simp only [Act.put, List.setIfInBounds_toArray, List.set_cons_zero, List.set_cons_succ, i64_w, i32_w]
               rfl
              refine pu 9 (some 45) #[y_, y_, y_, y_, y_, y_, y_, y_, y_, y_, y_, n_] (any_of HT_.out (by kernel_rfl)) ?_
              exact norm_ (by simp only [putAll, Act.put, List.setIfInBounds_toArray, List.set_cons_zero, List.set_cons_succ]) (hCont (.slice Ao54 y209.length co54, .slice Ao59 y212.length co59, .slice Ao62 t215.length co62, gb218) _ ⟨hHeld, (by (with_reducible repeat (first | apply Kd.N_alloc | apply Kd.N_drewN | apply Kd.N_drew)); exact Kd.N_mono HO214.out (fun _ hk => ⟨hk.2, ⟨hk.1.1.1, ⟨hk.1.1.2.1, ⟨hk.1.1.2.2, hk.1.2⟩⟩⟩⟩)), (by (with_reducible repeat (first | apply Kd.R_alloc | apply Kd.R_drewN | apply Kd.R_drew)); exact Kd.R_mono HO217.out (fun _ hk => ⟨hk.1.2, hk.2⟩)), (by (with_reducible repeat (first | apply Kd.R_alloc | apply Kd.R_drewN | apply Kd.R_drew)); exact Kd.R_mono HO_205001.out (fun _ hk => ⟨hk.2, hk.1.1⟩)), (by (with_reducible repeat (first | apply Kd.R_alloc | apply Kd.R_drewN | apply Kd.R_drew)); exact Kd.R_mono HO_205002.out (fun _ hk => ⟨hk.2, hk.1.1⟩)), (tK BK196.out), (tK BK204.out), (tK BK218.out), GW218.out, GE218.out, NB196_218.out, NB218_196.out, NB204_218.out, NB218_204.out, (tB HB.out)⟩)
            ·
             skip
             refine box_step ?hg (N := 8) ?hd (cs := #[.int .i64 0, .slice none 0 0, .slice none 0 0]) (t := 27) ?hr ?_; (case hd => rfl); (case hg => rfl); (case hr => first | (go_simp; done) | (go_simp; rfl))
             intro gb218 hg w54 hbox hb
             replace HO_205001 := rB HO_205001 hb
             replace HO_205002 := rB HO_205002 hb
             replace HO211 := rB HO211 hb
             have BK218 := Aside0.mk hbox
             have GW218 := Aside0.mk (bS HB.out hg)
             have GE218 := Aside0.mk (bS HB.out hg)
             replace HB := hB HB hb
             have NB196_218 := Aside0.mk (nL BK196.out hg)
             have NB218_196 := Aside0.mk (nG BK196.out hg)
             replace BK196 := bkB BK196 hb
             have NB204_218 := Aside0.mk (nL BK204.out hg)
             have NB218_204 := Aside0.mk (nG BK204.out hg)
             replace BK204 := bkB BK204 hb
             clear hb hbox hg
             obtain ⟨Ao55, co55, eo55⟩ := Kd.R_slice HO211.out
             (first | subst eo55 | (injection eo55 with f1_ f2_ f3_; have f4_ := f1_.symm; have f5_ := f3_.symm; clear f1_ f2_ f3_; subst f4_; subst f5_))
             obtain ⟨Ao56, co56, eo56⟩ := Kd.R_slice HO_205001.out
             (first | subst eo56 | (injection eo56 with f1_ f2_ f3_; have f4_ := f1_.symm; have f5_ := f3_.symm; clear f1_ f2_ f3_; subst f4_; subst f5_))
             refine hK.out _ _ ⟨(blk_cell BK204.out 0).trans rfl, (blk_cell BK204.out 1).trans rfl, (blk_cell BK204.out 2).trans rfl⟩ (fun hHeld => ?_)
             clear hK K
             refine norm_ (a' := ?_) ?_ ?_
             rotate_left
             ·
              show Act.put _ (some 8) _ = _
              simp only [Act.put, List.setIfInBounds_toArray, List.set_cons_zero, List.set_cons_succ, i64_w, i32_w]
              rfl
             refine one_ (i := 5) (N := some 41) #[y_, y_, y_, y_, y_, y_, n_, y_, y_, n_, y_, n_] rfl rfl (one_of HT_.out (by kernel_rfl)) (by decide) (fun K hK => ?_)
             refine Kd.N_lit_step (Kd.slice 3 (Kd.int .i64)) _ 25 ?hg (N' := 41) ?hd (xs := ([y209, x205001_2] : List (List Int))) (inner := [.slice Ao55 y209.length co55, .slice Ao56 x205001_2.length co56]) (ok := (fun k_ => some k_ ≠ ((.slice Ao60 x205002_2.length co60) : Value).ownBlock ∧ k_ ≠ gb196 ∧ k_ ≠ gb204 ∧ k_ ≠ gb218)) (okp := (fun k_ => some k_ ≠ ((.slice Ao60 x205002_2.length co60) : Value).ownBlock ∧ k_ ≠ gb196 ∧ k_ ≠ gb204 ∧ k_ ≠ gb218)) ?hr ?hp (fun _ hk => hk) ((show ∀ k_, w54.heap.size ≤ k_ → (fun k_ => some k_ ≠ ((.slice Ao60 x205002_2.length co60) : Value).ownBlock ∧ k_ ≠ gb196 ∧ k_ ≠ gb204 ∧ k_ ≠ gb218) k_ from fun k_ hk => ⟨Kd.fresh' (Kd.R_lt (tR HO_205002.out)) k_ hk, Kd.freshB (g := gb196) (o := .cells #[.int .i64 0, .slice none 0 0, .slice none 0 0] 27 (0, 0)) (tK BK196.out) k_ hk, Kd.freshB (g := gb204) (o := .cells #[.int .i64 x205000_2, .slice Ao56 x205001_2.length co56, (.slice Ao60 x205002_2.length co60)] 27 (0, 0)) (tK BK204.out) k_ hk, Kd.freshB (g := gb218) (o := .cells #[.int .i64 0, .slice none 0 0, .slice none 0 0] 27 (0, 0)) (tK BK218.out) k_ hk⟩) _ (Nat.le_refl _)) (Below.refl _ _) (Nat.le_refl _) (by simp) ?_; (case hd => rfl); (case hg => rfl); (case hr => first | (go_simp; done) | (go_simp; rfl)); (case hp => exact (Reps.one (show Kd.FK (Kd.slice 3 (Kd.int .i64)) _ _ y209 [.slice Ao55 y209.length co55] from (Kd.FK_slice_mk (Kd.R_reads' (Kd.R_mono (ok' := (fun k_ => some k_ ≠ ((.slice Ao60 x205002_2.length co60) : Value).ownBlock ∧ k_ ≠ gb196 ∧ k_ ≠ gb204 ∧ k_ ≠ gb218)) (Kd.R_types (Kd.R_types (Kd.R_types (HO211.out) BK196.out (by decide)) BK204.out (by decide)) BK218.out (by decide)) (fun k_ hk => ⟨hk.1.1.1.2, ⟨hk.1.1.2, ⟨hk.1.2, hk.2⟩⟩⟩))).2.1 (Kd.R_F (Kd.R_mono (ok' := (fun k_ => some k_ ≠ ((.slice Ao60 x205002_2.length co60) : Value).ownBlock ∧ k_ ≠ gb196 ∧ k_ ≠ gb204 ∧ k_ ≠ gb218)) (Kd.R_types (Kd.R_types (Kd.R_types (HO211.out) BK196.out (by decide)) BK204.out (by decide)) BK218.out (by decide)) (fun k_ hk => ⟨hk.1.1.1.2, ⟨hk.1.1.2, ⟨hk.1.2, hk.2⟩⟩⟩))))) (Reps.one (show Kd.FK (Kd.slice 3 (Kd.int .i64)) _ _ x205001_2 [.slice Ao56 x205001_2.length co56] from (Kd.FK_slice_mk (Kd.R_reads' (Kd.R_mono (ok' := (fun k_ => some k_ ≠ ((.slice Ao60 x205002_2.length co60) : Value).ownBlock ∧ k_ ≠ gb196 ∧ k_ ≠ gb204 ∧ k_ ≠ gb218)) (Kd.R_types (Kd.R_types (Kd.R_types (HO_205001.out) BK196.out (by decide)) BK204.out (by decide)) BK218.out (by decide)) (fun k_ hk => ⟨hk.1.1.1.1, ⟨hk.1.1.2, ⟨hk.1.2, hk.2⟩⟩⟩))).2.1 (Kd.R_F (Kd.R_mono (ok' := (fun k_ => some k_ ≠ ((.slice Ao60 x205002_2.length co60) : Value).ownBlock ∧ k_ ≠ gb196 ∧ k_ ≠ gb204 ∧ k_ ≠ gb218)) (Kd.R_types (Kd.R_types (Kd.R_types (HO_205001.out) BK196.out (by decide)) BK204.out (by decide)) BK218.out (by decide)) (fun k_ hk => ⟨hk.1.1.1.1, ⟨hk.1.1.2, ⟨hk.1.2, hk.2⟩⟩⟩))))) (Reps.none _ _))))
             intro v213 w57 ho58 hb hg_ hnew_
             clear hg_ hnew_
             (first | rw [← Ny212.out] at ho58 | (simp only [Int.reduceToNat] at ho58; rw [← Ny212.out] at ho58))
             replace HO_205001 := rB HO_205001 hb
             replace HO_205002 := rB HO_205002 hb
             have HO214 := Aside0.mk (Kd.N_lower ho58 (below_size (tB HB.out)))
             replace BK196 := bkB BK196 hb
             replace BK204 := bkB BK204 hb
             replace BK218 := bkB BK218 hb
             replace HB := hB HB hb
             clear HO211
             clear hb ho58
             obtain ⟨Ao59, co59, eo59⟩ := Kd.N_slice HO214.out
             (first | subst eo59 | (injection eo59 with f1_ f2_ f3_; have f4_ := f1_.symm; have f5_ := f3_.symm; clear f1_ f2_ f3_; subst f4_; subst f5_))
             refine hK.out _ _ ⟨(blk_cell BK204.out 0).trans rfl, (blk_cell BK204.out 1).trans rfl, (blk_cell BK204.out 2).trans rfl⟩ (fun hHeld => ?_)
             clear hK K
             refine norm_ (a' := ?_) ?_ ?_
             rotate_left
             ·
              show Act.put _ (some 41) _ = _
              simp only [Act.put, List.setIfInBounds_toArray, List.set_cons_zero, List.set_cons_succ, i64_w, i32_w]
              rfl
             refine one_ (i := 6) (N := some 42) #[y_, y_, y_, y_, y_, y_, y_, y_, y_, n_, y_, n_] rfl rfl (one_of HT_.out (by kernel_rfl)) (by decide) (fun K hK => ?_)
             refine goes_ Try.func57 (by kernel_rfl) rfl #[.slice Ao59 y212.length co59] (by rfl) rfl rfl tM ?_
             with_reducible refine (slices_Concat_int_int.calls k2 _ _ y212 t215 _ ?side1 ?side2 A24.out).mono ?_
             (case side1 => exact tC (Kd.N_reads' HO214.out).2.2)
             (case side2 => exact (Kd.N_reads' HO214.out).2.1)
             rintro e w60 ⟨v216, rfl, ho0, hb⟩
             refine ⟨_, rfl, ?_⟩
             replace HO214 := Aside0.mk (Kd.N_elder' (by (with_reducible repeat (first | apply Kd.N_alloc | apply Kd.N_drewN | apply Kd.N_drew)); exact HO214.out) (Kd.R_base ho0) hb)
             have HO217 := Aside0.mk (Kd.R_lower (Kd.R_new' (Kd.R_new' ho0 (Kd.R_lt (tR HO_205001.out))) (Kd.R_lt (tR HO_205002.out))) (below_size (tB HB.out)))
             replace HO_205001 := Aside0.mk (Kd.R_elder' (tR HO_205001.out) (Kd.R_base ho0) hb)
             replace HO_205002 := Aside0.mk (Kd.R_elder' (tR HO_205002.out) (Kd.R_base ho0) hb)
             replace BK196 := bkB BK196 hb
             replace BK204 := bkB BK204 hb
             replace BK218 := bkB BK218 hb
             replace HB := hB HB hb
             (try clear hb); (try clear hk); (try clear ho0)
             obtain ⟨Ao61, co61, eo61⟩ := Kd.R_slice HO_205002.out
             (first | subst eo61 | (injection eo61 with f1_ f2_ f3_; have f4_ := f1_.symm; have f5_ := f3_.symm; clear f1_ f2_ f3_; subst f4_; subst f5_))
             obtain ⟨Ao62, co62, eo62⟩ := Kd.R_slice HO217.out
             (first | subst eo62 | (injection eo62 with f1_ f2_ f3_; have f4_ := f1_.symm; have f5_ := f3_.symm; clear f1_ f2_ f3_; subst f4_; subst f5_))
             refine hK.out _ _ ⟨(blk_cell BK204.out 0).trans rfl, (blk_cell BK204.out 1).trans rfl, (blk_cell BK204.out 2).trans rfl⟩ (fun hHeld => ?_)
             clear hK K
             refine norm_ (a' := ?_) ?_ ?_
             rotate_left
             ·
              show Act.put _ (some 42) _ = _
              simp only [Act.put, List.setIfInBounds_toArray, List.set_cons_zero, List.set_cons_succ, i64_w, i32_w]
              rfl
             refine pu 9 (some 45) #[y_, y_, y_, y_, y_, y_, y_, y_, y_, y_, y_, n_] (any_of HT_.out (by kernel_rfl)) ?_
             exact norm_ (by simp only [putAll, Act.put, List.setIfInBounds_toArray, List.set_cons_zero, List.set_cons_succ]) (hCont (.slice Ao55 y209.length co55, .slice Ao59 y212.length co59, .slice Ao62 t215.length co62, gb218) _ ⟨hHeld, (by (with_reducible repeat (first | apply Kd.N_alloc | apply Kd.N_drewN | apply Kd.N_drew)); exact Kd.N_mono HO214.out (fun _ hk => ⟨hk.2, ⟨hk.1.1, ⟨hk.1.2.1, ⟨hk.1.2.2.1, hk.1.2.2.2⟩⟩⟩⟩)), (by (with_reducible repeat (first | apply Kd.R_alloc | apply Kd.R_drewN | apply Kd.R_drew)); exact Kd.R_mono HO217.out (fun _ hk => ⟨hk.1.2, hk.2⟩)), (by (with_reducible repeat (first | apply Kd.R_alloc | apply Kd.R_drewN | apply Kd.R_drew)); exact Kd.R_mono HO_205001.out (fun _ hk => ⟨hk.2, hk.1.1⟩)), (by (with_reducible repeat (first | apply Kd.R_alloc | apply Kd.R_drewN | apply Kd.R_drew)); exact Kd.R_mono HO_205002.out (fun _ hk => ⟨hk.2, hk.1.1⟩)), (tK BK196.out), (tK BK204.out), (tK BK218.out), GW218.out, GE218.out, NB196_218.out, NB218_196.out, NB204_218.out, NB218_204.out, (tB HB.out)⟩)
           ·
            skip
            refine box_step ?hg (N := 8) ?hd (cs := #[.int .i64 0, .slice none 0 0, .slice none 0 0]) (t := 27) ?hr ?_; (case hd => rfl); (case hg => rfl); (case hr => first | (go_simp; done) | (go_simp; rfl))
            intro gb218 hg w52 hbox hb
            replace HO_205001 := rB HO_205001 hb
            replace HO_205002 := rB HO_205002 hb
            have BK218 := Aside0.mk hbox
            have GW218 := Aside0.mk (bS HB.out hg)
            have GE218 := Aside0.mk (bS HB.out hg)
            replace HB := hB HB hb
            have NB196_218 := Aside0.mk (nL BK196.out hg)
            have NB218_196 := Aside0.mk (nG BK196.out hg)
            replace BK196 := bkB BK196 hb
            have NB204_218 := Aside0.mk (nL BK204.out hg)
            have NB218_204 := Aside0.mk (nG BK204.out hg)
            replace BK204 := bkB BK204 hb
            clear hb hbox hg
            refine hK.out _ _ ⟨(blk_cell BK204.out 0).trans rfl, (blk_cell BK204.out 1).trans rfl, (blk_cell BK204.out 2).trans rfl⟩ (fun hHeld => ?_)
            clear hK K
            refine norm_ (a' := ?_) ?_ ?_
            rotate_left
            ·
             show Act.put _ (some 8) _ = _
             simp only [Act.put, List.setIfInBounds_toArray, List.set_cons_zero, List.set_cons_succ, i64_w, i32_w]
             rfl
            refine one_ (i := 2) (N := some 38) #[y_, y_, y_, y_, y_, n_, n_, y_, y_, n_, y_, n_] rfl rfl (one_of HT_.out (by kernel_rfl)) (by decide) (fun K hK => ?_)
            refine Kd.R_lit_step (Kd.int .i64) _ 3 ?hg (N := 38) ?hd (xs := ([x7_2] : List Int)) (inner := [.int .i64 x7_2]) (ok := fun _ => True) (okp := fun _ => True) ?hr ?hp (fun _ hk => hk) trivial (Below.refl _ _) (Nat.le_refl _) (by simp) ?_; (case hd => rfl); (case hg => rfl); (case hr => first | (go_simp; done) | (go_simp; rfl)); (case hp => exact (Reps.one (show Kd.M (Kd.int .i64) _ _ _ x7_2 [.int .i64 x7_2] from rfl) (Reps.none _ _)))
            intro v210 w53 ho54 hb hg_ hnew_
            clear hg_ hnew_
            (first | rw [← Ny209.out] at ho54 | (simp only [Int.reduceToNat] at ho54; rw [← Ny209.out] at ho54))
            have HO211 := Aside0.mk (Kd.R_lower (Kd.R_new' (Kd.R_new' ho54 (Kd.R_lt (tR HO_205001.out))) (Kd.R_lt (tR HO_205002.out))) (below_size (tB HB.out)))
            replace HO_205001 := Aside0.mk (Kd.R_elder' (tR HO_205001.out) (Kd.R_base ho54) hb)
            replace HO_205002 := Aside0.mk (Kd.R_elder' (tR HO_205002.out) (Kd.R_base ho54) hb)
            replace BK196 := bkB BK196 hb
            replace BK204 := bkB BK204 hb
            replace BK218 := bkB BK218 hb
            replace HB := hB HB hb
            clear hb ho54
            obtain ⟨Ao55, co55, eo55⟩ := Kd.R_slice HO211.out
            (first | subst eo55 | (injection eo55 with f1_ f2_ f3_; have f4_ := f1_.symm; have f5_ := f3_.symm; clear f1_ f2_ f3_; subst f4_; subst f5_))
            obtain ⟨Ao56, co56, eo56⟩ := Kd.R_slice HO_205001.out
            (first | subst eo56 | (injection eo56 with f1_ f2_ f3_; have f4_ := f1_.symm; have f5_ := f3_.symm; clear f1_ f2_ f3_; subst f4_; subst f5_))
            refine hK.out _ _ ⟨(blk_cell BK204.out 0).trans rfl, (blk_cell BK204.out 1).trans rfl, (blk_cell BK204.out 2).trans rfl⟩ (fun hHeld => ?_)
            clear hK K
            refine norm_ (a' := ?_) ?_ ?_
            rotate_left
            ·
             show Act.put _ (some 38) _ = _
             simp only [Act.put, List.setIfInBounds_toArray, List.set_cons_zero, List.set_cons_succ, i64_w, i32_w]
             rfl
            refine one_ (i := 5) (N := some 41) #[y_, y_, y_, y_, y_, y_, n_, y_, y_, n_, y_, n_] rfl rfl (one_of HT_.out (by kernel_rfl)) (by decide) (fun K hK => ?_)
            refine Kd.N_lit_step (Kd.slice 3 (Kd.int .i64)) _ 25 ?hg (N' := 41) ?hd (xs := ([y209, x205001_2] : List (List Int))) (inner := [.slice Ao55 y209.length co55, .slice Ao56 x205001_2.length co56]) (ok := (fun k_ => some k_ ≠ ((.slice Ao60 x205002_2.length co60) : Value).ownBlock ∧ k_ ≠ gb196 ∧ k_ ≠ gb204 ∧ k_ ≠ gb218)) (okp := (fun k_ => some k_ ≠ ((.slice Ao60 x205002_2.length co60) : Value).ownBlock ∧ k_ ≠ gb196 ∧ k_ ≠ gb204 ∧ k_ ≠ gb218)) ?hr ?hp (fun _ hk => hk) ((show ∀ k_, w53.heap.size ≤ k_ → (fun k_ => some k_ ≠ ((.slice Ao60 x205002_2.length co60) : Value).ownBlock ∧ k_ ≠ gb196 ∧ k_ ≠ gb204 ∧ k_ ≠ gb218) k_ from fun k_ hk => ⟨Kd.fresh' (Kd.R_lt (tR HO_205002.out)) k_ hk, Kd.freshB (g := gb196) (o := .cells #[.int .i64 0, .slice none 0 0, .slice none 0 0] 27 (0, 0)) (tK BK196.out) k_ hk, Kd.freshB (g := gb204) (o := .cells #[.int .i64 x205000_2, .slice Ao56 x205001_2.length co56, (.slice Ao60 x205002_2.length co60)] 27 (0, 0)) (tK BK204.out) k_ hk, Kd.freshB (g := gb218) (o := .cells #[.int .i64 0, .slice none 0 0, .slice none 0 0] 27 (0, 0)) (tK BK218.out) k_ hk⟩) _ (Nat.le_refl _)) (Below.refl _ _) (Nat.le_refl _) (by simp) ?_; (case hd => rfl); (case hg => rfl); (case hr => first | (go_simp; done) | (go_simp; rfl)); (case hp => exact (Reps.one (show Kd.FK (Kd.slice 3 (Kd.int .i64)) _ _ y209 [.slice Ao55 y209.length co55] from (Kd.FK_slice_mk (Kd.R_reads' (Kd.R_mono (ok' := (fun k_ => some k_ ≠ ((.slice Ao60 x205002_2.length co60) : Value).ownBlock ∧ k_ ≠ gb196 ∧ k_ ≠ gb204 ∧ k_ ≠ gb218)) (Kd.R_types (Kd.R_types (Kd.R_types (HO211.out) BK196.out (by decide)) BK204.out (by decide)) BK218.out (by decide)) (fun k_ hk => ⟨hk.1.1.1.2, ⟨hk.1.1.2, ⟨hk.1.2, hk.2⟩⟩⟩))).2.1 (Kd.R_F (Kd.R_mono (ok' := (fun k_ => some k_ ≠ ((.slice Ao60 x205002_2.length co60) : Value).ownBlock ∧ k_ ≠ gb196 ∧ k_ ≠ gb204 ∧ k_ ≠ gb218)) (Kd.R_types (Kd.R_types (Kd.R_types (HO211.out) BK196.out (by decide)) BK204.out (by decide)) BK218.out (by decide)) (fun k_ hk => ⟨hk.1.1.1.2, ⟨hk.1.1.2, ⟨hk.1.2, hk.2⟩⟩⟩))))) (Reps.one (show Kd.FK (Kd.slice 3 (Kd.int .i64)) _ _ x205001_2 [.slice Ao56 x205001_2.length co56] from (Kd.FK_slice_mk (Kd.R_reads' (Kd.R_mono (ok' := (fun k_ => some k_ ≠ ((.slice Ao60 x205002_2.length co60) : Value).ownBlock ∧ k_ ≠ gb196 ∧ k_ ≠ gb204 ∧ k_ ≠ gb218)) (Kd.R_types (Kd.R_types (Kd.R_types (HO_205001.out) BK196.out (by decide)) BK204.out (by decide)) BK218.out (by decide)) (fun k_ hk => ⟨hk.1.1.1.1, ⟨hk.1.1.2, ⟨hk.1.2, hk.2⟩⟩⟩))).2.1 (Kd.R_F (Kd.R_mono (ok' := (fun k_ => some k_ ≠ ((.slice Ao60 x205002_2.length co60) : Value).ownBlock ∧ k_ ≠ gb196 ∧ k_ ≠ gb204 ∧ k_ ≠ gb218)) (Kd.R_types (Kd.R_types (Kd.R_types (HO_205001.out) BK196.out (by decide)) BK204.out (by decide)) BK218.out (by decide)) (fun k_ hk => ⟨hk.1.1.1.1, ⟨hk.1.1.2, ⟨hk.1.2, hk.2⟩⟩⟩))))) (Reps.none _ _))))
            intro v213 w57 ho58 hb hg_ hnew_
            clear hg_ hnew_
            (first | rw [← Ny212.out] at ho58 | (simp only [Int.reduceToNat] at ho58; rw [← Ny212.out] at ho58))
            replace HO_205001 := rB HO_205001 hb
            replace HO_205002 := rB HO_205002 hb
            have HO214 := Aside0.mk (Kd.N_lower ho58 (below_size (tB HB.out)))
            replace BK196 := bkB BK196 hb
            replace BK204 := bkB BK204 hb
            replace BK218 := bkB BK218 hb
            replace HB := hB HB hb
            clear HO211
            clear hb ho58
            obtain ⟨Ao59, co59, eo59⟩ := Kd.N_slice HO214.out
            (first | subst eo59 | (injection eo59 with f1_ f2_ f3_; have f4_ := f1_.symm; have f5_ := f3_.symm; clear f1_ f2_ f3_; subst f4_; subst f5_))
            refine hK.out _ _ ⟨(blk_cell BK204.out 0).trans rfl, (blk_cell BK204.out 1).trans rfl, (blk_cell BK204.out 2).trans rfl⟩ (fun hHeld => ?_)
            clear hK K
            refine norm_ (a' := ?_) ?_ ?_
            rotate_left
            ·
             show Act.put _ (some 41) _ = _
             simp only [Act.put, List.setIfInBounds_toArray, List.set_cons_zero, List.set_cons_succ, i64_w, i32_w]
             rfl
            refine one_ (i := 6) (N := some 42) #[y_, y_, y_, y_, y_, y_, y_, y_, y_, n_, y_, n_] rfl rfl (one_of HT_.out (by kernel_rfl)) (by decide) (fun K hK => ?_)
            refine goes_ Try.func57 (by kernel_rfl) rfl #[.slice Ao59 y212.length co59] (by rfl) rfl rfl tM ?_
            with_reducible refine (slices_Concat_int_int.calls k2 _ _ y212 t215 _ ?side1 ?side2 A24.out).mono ?_
            (case side1 => exact tC (Kd.N_reads' HO214.out).2.2)
            (case side2 => exact (Kd.N_reads' HO214.out).2.1)
            rintro e w60 ⟨v216, rfl, ho0, hb⟩
            refine ⟨_, rfl, ?_⟩
            replace HO214 := Aside0.mk (Kd.N_elder' (by (with_reducible repeat (first | apply Kd.N_alloc | apply Kd.N_drewN | apply Kd.N_drew)); exact HO214.out) (Kd.R_base ho0) hb)
            have HO217 := Aside0.mk (Kd.R_lower (Kd.R_new' (Kd.R_new' ho0 (Kd.R_lt (tR HO_205001.out))) (Kd.R_lt (tR HO_205002.out))) (below_size (tB HB.out)))
            replace HO_205001 := Aside0.mk (Kd.R_elder' (tR HO_205001.out) (Kd.R_base ho0) hb)
            replace HO_205002 := Aside0.mk (Kd.R_elder' (tR HO_205002.out) (Kd.R_base ho0) hb)
            replace BK196 := bkB BK196 hb
            replace BK204 := bkB BK204 hb
            replace BK218 := bkB BK218 hb
            replace HB := hB HB hb
            (try clear hb); (try clear hk); (try clear ho0)
            obtain ⟨Ao61, co61, eo61⟩ := Kd.R_slice HO_205002.out
            (first | subst eo61 | (injection eo61 with f1_ f2_ f3_; have f4_ := f1_.symm; have f5_ := f3_.symm; clear f1_ f2_ f3_; subst f4_; subst f5_))
            obtain ⟨Ao62, co62, eo62⟩ := Kd.R_slice HO217.out
            (first | subst eo62 | (injection eo62 with f1_ f2_ f3_; have f4_ := f1_.symm; have f5_ := f3_.symm; clear f1_ f2_ f3_; subst f4_; subst f5_))
            refine hK.out _ _ ⟨(blk_cell BK204.out 0).trans rfl, (blk_cell BK204.out 1).trans rfl, (blk_cell BK204.out 2).trans rfl⟩ (fun hHeld => ?_)
            clear hK K
            refine norm_ (a' := ?_) ?_ ?_
            rotate_left
            ·
             show Act.put _ (some 42) _ = _
             simp only [Act.put, List.setIfInBounds_toArray, List.set_cons_zero, List.set_cons_succ, i64_w, i32_w]
             rfl
            refine pu 9 (some 45) #[y_, y_, y_, y_, y_, y_, y_, y_, y_, y_, y_, n_] (any_of HT_.out (by kernel_rfl)) ?_
            exact norm_ (by simp only [putAll, Act.put, List.setIfInBounds_toArray, List.set_cons_zero, List.set_cons_succ]) (hCont (.slice Ao55 y209.length co55, .slice Ao59 y212.length co59, .slice Ao62 t215.length co62, gb218) _ ⟨hHeld, (by (with_reducible repeat (first | apply Kd.N_alloc | apply Kd.N_drewN | apply Kd.N_drew)); exact Kd.N_mono HO214.out (fun _ hk => ⟨hk.2, ⟨hk.1.1, ⟨hk.1.2.1, ⟨hk.1.2.2.1, hk.1.2.2.2⟩⟩⟩⟩)), (by (with_reducible repeat (first | apply Kd.R_alloc | apply Kd.R_drewN | apply Kd.R_drew)); exact Kd.R_mono HO217.out (fun _ hk => ⟨hk.1.2, hk.2⟩)), (by (with_reducible repeat (first | apply Kd.R_alloc | apply Kd.R_drewN | apply Kd.R_drew)); exact Kd.R_mono HO_205001.out (fun _ hk => ⟨hk.2, hk.1.1⟩)), (by (with_reducible repeat (first | apply Kd.R_alloc | apply Kd.R_drewN | apply Kd.R_drew)); exact Kd.R_mono HO_205002.out (fun _ hk => ⟨hk.2, hk.1.1⟩)), (tK BK196.out), (tK BK204.out), (tK BK218.out), GW218.out, GE218.out, NB196_218.out, NB218_196.out, NB204_218.out, NB218_204.out, (tB HB.out)⟩)
          rintro ⟨v210, v213, v216, gb218⟩ w63 ⟨hS_, h0_, h1_, h2_, h3_, h4_, h5_, h6_, h7_, h8_, h9_, h10_, h11_, h12_, h13_⟩
          have n0_ : Aside0 (Kd.N (Kd.slice 3 (Kd.int .i64)) 25 w63 w.heap.size (fun k_ => some k_ ≠ (v216 : Value).ownBlock ∧ some k_ ≠ (.slice Ao60 x205002_2.length co60 : Value).ownBlock ∧ k_ ≠ gb196 ∧ k_ ≠ gb204 ∧ k_ ≠ gb218) v213 y212) := ⟨h0_⟩
          have n1_ : Aside0 (Kd.R (Kd.int .i64) 3 w63 w.heap.size (fun k_ => some k_ ≠ (.slice Ao55 x205001_2.length co55 : Value).ownBlock ∧ some k_ ≠ (.slice Ao60 x205002_2.length co60 : Value).ownBlock) v216 t215) := ⟨h1_⟩
          have n2_ : Aside0 (Kd.R (Kd.int .i64) 3 w63 w.heap.size (fun k_ => some k_ ≠ (v216 : Value).ownBlock ∧ some k_ ≠ (.slice Ao60 x205002_2.length co60 : Value).ownBlock) (.slice Ao55 x205001_2.length co55) x205001_2) := ⟨h2_⟩
          have n3_ : Aside0 (Kd.R (Kd.int .i64) 3 w63 w.heap.size (fun k_ => some k_ ≠ (v216 : Value).ownBlock ∧ some k_ ≠ (.slice Ao55 x205001_2.length co55 : Value).ownBlock) (.slice Ao60 x205002_2.length co60) x205002_2) := ⟨h3_⟩
          have n4_ : Aside0 (w63.heap[gb196]? = some (.cells #[.int .i64 0, .slice none 0 0, .slice none 0 0] 27 (0, 0))) := ⟨h4_⟩
          have n5_ : Aside0 (w63.heap[gb204]? = some (.cells #[.int .i64 x205000_2, .slice Ao55 x205001_2.length co55, .slice Ao60 x205002_2.length co60] 27 (0, 0))) := ⟨h5_⟩
          have n6_ : Aside0 (w63.heap[gb218]? = some (.cells #[.int .i64 0, .slice none 0 0, .slice none 0 0] 27 (0, 0))) := ⟨h6_⟩
          have n7_ : Aside0 (w.heap.size ≤ gb218) := ⟨h7_⟩
          have n8_ : Aside0 (w.heap.size ≤ gb218) := ⟨h8_⟩
          have n9_ : Aside0 (gb196 ≠ gb218) := ⟨h9_⟩
          have n10_ : Aside0 (gb218 ≠ gb196) := ⟨h10_⟩
          have n11_ : Aside0 (gb204 ≠ gb218) := ⟨h11_⟩
          have n12_ : Aside0 (gb218 ≠ gb204) := ⟨h12_⟩
          have n13_ : Aside0 (Below w.heap.size w w63) := ⟨h13_⟩
          clear HO_205001
          clear HO_205002
          clear BK196
          clear BK204
          clear HB
          clear h0_ h1_ h2_ h3_ h4_ h5_ h6_ h7_ h8_ h9_ h10_ h11_ h12_ h13_
          have HO214 := n0_
          have HO217 := n1_
          have HO_205001 := n2_
          have HO_205002 := n3_
          have BK196 := n4_
          have BK204 := n5_
          have BK218 := n6_
          have GW218 := n7_
          have GE218 := n8_
          have NB196_218 := n9_
          have NB218_196 := n10_
          have NB204_218 := n11_
          have NB218_204 := n12_
          have HB := n13_
          clear n0_ n1_ n2_ n3_ n4_ n5_ n6_ n7_ n8_ n9_ n10_ n11_ n12_ n13_
          have hHeld : w63.cell? ⟨gb204, 0, none⟩ = some (.int .i64 x205000_2) ∧ w63.cell? ⟨gb204, 1, none⟩ = some ((.slice Ao55 x205001_2.length co55)) ∧ w63.cell? ⟨gb204, 2, none⟩ = some ((.slice Ao60 x205002_2.length co60)) := hS_
          obtain ⟨Ao64, co64, eo64⟩ := Kd.R_slice HO217.out
          (first | subst eo64 | (injection eo64 with f1_ f2_ f3_; have f4_ := f1_.symm; have f5_ := f3_.symm; clear f1_ f2_ f3_; subst f4_; subst f5_))
          refine norm_ (a' := ?_) ?_ ?_
          rotate_left
          ·
           simp only [putAll, Act.put, List.setIfInBounds_toArray, List.set_cons_zero, List.set_cons_succ]
           rfl
          refine one_ (i := 11) (N := none) #[y_, y_, y_, y_, y_, y_, y_, y_, y_, y_, y_, y_] rfl rfl (one_of HT_.out (by kernel_rfl)) (by decide) (fun K hK => ?_)
          have hs65 : w63.cell? ⟨gb218, 0, none⟩ = some (.int .i64 0) := (blk_cell BK218.out 0).trans rfl
          have hfs65 := blk_frozen BK218.out 0
          have hns65_0 := NB196_218.out
          have hns65_1 := NB204_218.out
          have hms65_0 := NB218_196.out
          have hms65_1 := NB218_204.out
          have hs66 : w63.cell? ⟨gb218, 1, none⟩ = some (.slice none 0 0) := (blk_cell BK218.out 1).trans rfl
          have hfs66 := blk_frozen BK218.out 1
          have hns66_0 := NB196_218.out
          have hns66_1 := NB204_218.out
          have hms66_0 := NB218_196.out
          have hms66_1 := NB218_204.out
          have hs67 : w63.cell? ⟨gb218, 2, none⟩ = some (.slice none 0 0) := (blk_cell BK218.out 2).trans rfl
          have hfs67 := blk_frozen BK218.out 2
          have hns67_0 := NB196_218.out
          have hns67_1 := NB204_218.out
          have hms67_0 := NB218_196.out
          have hms67_1 := NB218_204.out
          refine skip_ (w1 := ?_) (by rfl) rfl ?_ ?_
          rotate_left
          ·
           go_simp
           rfl
          refine hK.out _ _ ⟨((cell_far (p := ⟨gb218, _, none⟩) NB204_218.out _).trans (((cell_far (p := ⟨gb218, _, none⟩) NB204_218.out _).trans (((cell_far (p := ⟨gb218, _, none⟩) NB204_218.out _).trans (hHeld.1)))))), ((cell_far (p := ⟨gb218, _, none⟩) NB204_218.out _).trans (((cell_far (p := ⟨gb218, _, none⟩) NB204_218.out _).trans (((cell_far (p := ⟨gb218, _, none⟩) NB204_218.out _).trans (hHeld.2.1)))))), ((cell_far (p := ⟨gb218, _, none⟩) NB204_218.out _).trans (((cell_far (p := ⟨gb218, _, none⟩) NB204_218.out _).trans (((cell_far (p := ⟨gb218, _, none⟩) NB204_218.out _).trans (hHeld.2.2))))))⟩ (fun hHeld => ?_)
          clear hK K
          refine done_ (done_of HT_.out (by kernel_rfl)) ?_
          have hnb68 := NB218_196.out
          have hnc68 := NB196_218.out
          have hnb69 := NB218_204.out
          have hnc69 := NB204_218.out
          obtain ⟨hcz70_0, hfz70_0, hcz70_1, hfz70_1, hcz70_2, hfz70_2⟩ := cz3 BK218
          try go_wp2_with (first | ((with_reducible refine gate_callee (f := 58) rfl ?_); refine goesL_ (some 47) rfl rfl Try.func58 (by kernel_rfl) rfl #[.agg #[.int .i64 a0, .slice Ao64 t215.length co64, .slice Ao60 x205002_2.length co60], .int .i64 1] rfl tM ?_; (with_reducible refine (impl_Pile_holds.calls k2 a0 _ _ t215 _ _ x205002_2 1 false _ ?side1 ?side2 ?side3 ?side4 A25.out).mono ?_); (case side1 => refine (Kd.R_reads' (e := 3) (base := w.heap.size) (ok := fun k_ => (some k_ ≠ (.slice Ao55 x205001_2.length co55 : Value).ownBlock ∧ some k_ ≠ (.slice Ao60 x205002_2.length co60 : Value).ownBlock)) (n := t215.length) (c := co64) ?_).2.2; exact (by (with_reducible repeat (first | apply Kd.R_alloc | apply Kd.R_drewN | apply Kd.R_drew)); exact (rF3 HO217 BK218))); (case side2 => exact (Kd.R_reads' HO217.out).2.1); (case side3 => refine (Kd.R_reads' (e := 3) (base := w.heap.size) (ok := fun k_ => (some k_ ≠ (.slice Ao64 t215.length co64 : Value).ownBlock ∧ some k_ ≠ (.slice Ao55 x205001_2.length co55 : Value).ownBlock)) (n := x205002_2.length) (c := co60) ?_).2.2; exact (by (with_reducible repeat (first | apply Kd.R_alloc | apply Kd.R_drewN | apply Kd.R_drew)); exact (rF3 HO_205002 BK218))); (case side4 => exact (Kd.R_reads' HO_205002.out).2.1); rintro e w71 ⟨rfl, hb⟩; refine ⟨_, rfl, ?_⟩; replace HO_205001 := Aside0.mk (Kd.R_below (by (with_reducible repeat (first | apply Kd.R_alloc | apply Kd.R_drewN | apply Kd.R_drew)); exact (rF3 HO_205001 BK218)) hb); replace HO_205002 := Aside0.mk (Kd.R_below (by (with_reducible repeat (first | apply Kd.R_alloc | apply Kd.R_drewN | apply Kd.R_drew)); exact (rF3 HO_205002 BK218)) hb); replace HO214 := Aside0.mk (Kd.N_below (by (with_reducible repeat (first | apply Kd.N_alloc | apply Kd.N_drewN | apply Kd.N_drew)); exact (Kd.N_mono (Kd.N_far (p := ⟨gb218, 2, none⟩) (Kd.N_far (p := ⟨gb218, 1, none⟩) (Kd.N_far (p := ⟨gb218, 0, none⟩) (Kd.N_mono HO214.out (fun k_ hk => (⟨hk, hk.2.2.2.2⟩ : _ ∧ k_ ≠ gb218))) (fun _ hk => hk.2) (.int .i64 a0)) (fun _ hk => hk.2) (.slice Ao64 t215.length co64)) (fun _ hk => hk.2) (.slice Ao60 x205002_2.length co60)) (fun _ h_ => h_.1))) hb); replace HO217 := Aside0.mk (Kd.R_below (by (with_reducible repeat (first | apply Kd.R_alloc | apply Kd.R_drewN | apply Kd.R_drew)); exact (rF3 HO217 BK218)) hb); replace BK196 := fB BK196 hb; replace BK204 := fB BK204 hb; replace BK218 := Aside0.mk (blk_below (g := gb218) (o := .cells #[.int .i64 a0, .slice Ao64 t215.length co64, .slice Ao60 x205002_2.length co60] 27 (0, 0)) (by (with_reducible repeat (first | refine blk_drewN ?_ _ | refine blk_drew ?_ | refine blk_alloc ?_ _)); exact bp3 BK218.out) hb); replace HB := hB HB hb; (try clear hb)))
          go_roundg k2
          case measure => have := HK1.out; have := HK2.out; omega
          case rel => exact ⟨(wrap64 (x7_2 + 1)), (x205000_2), (x205001_2), (x205002_2), (.slice Ao55 x205001_2.length co55), (.slice Ao60 x205002_2.length co60), (by first | rfl | (simp; done) | (simp [wrap64]; done) | (simp [*]; done)), H', ⟨by have := HK1.out; have := HK2.out; omega⟩, ⟨by (with_reducible repeat (first | apply Kd.R_alloc | apply Kd.R_drewN | apply Kd.R_drew)); exact Kd.R_mono HO_205001.out (fun _ hk => hk.2)⟩, ⟨by (with_reducible repeat (first | apply Kd.R_alloc | apply Kd.R_drewN | apply Kd.R_drew)); exact Kd.R_mono HO_205002.out (fun _ hk => hk.2)⟩, ⟨tK BK196.out⟩, ⟨tK BK204.out⟩, ⟨tB HB.out⟩⟩
      ·
       rw [if_neg c17] at H
       exact absurd H (by simp)
     ·
      rw [if_neg c16] at H
      exact absurd H (by simp)
    ·
     rw [if_neg c15] at H
     have c15b0 : decide ((x205001_1.length : Int) < a1) = false := decide_eq_false c15
     clear c15
     by_cases c72 : 0 < (x205001_1.length : Int)
     ·
      rw [if_pos c72] at H
      have c72b0 : decide (0 < (x205001_1.length : Int)) = true := decide_eq_true c72
      have c72b1 : decide (0 < x205001_1.length) = true := decide_eq_true (by omega)
      clear c72
      have H' := Aside0.mk H
      clear H
      have hnb73 := NB204_196.out
      have hnc73 := NB196_204.out
      obtain ⟨hcz74_0, hfz74_0, hcz74_1, hfz74_1, hcz74_2, hfz74_2⟩ := cz3 BK204
      obtain ⟨Ao75, co75, eo75⟩ := Kd.R_slice HO_205001.out
      subst eo75
      have p220 : 0 ≤ (0 : Int) := (by omega)
      have q220 : 0 < (x205001_1.length : Int) := of_decide_eq_true (by first | (with_reducible assumption) | assumption)
      obtain ⟨ad220, e220, hx220_0⟩ := Kd.at_int (Kd.R_reads' HO_205001.out).2.2 0 p220 q220
      cases e220
      have qi220 : (0 < x205001_1.length) = True := eq_true (by omega)
      (try rw [show ((0 : Int)).toNat = 0 from rfl] at hx220_0)
      (try rw [Addr.add_zero'] at hx220_0)
      replace p220 := eq_true p220
      replace q220 := eq_true q220
      go_wp2
      go_loopg [9] k1 (fun kq v9 w' => ∃ (x9_2 : Int) (x205000_2 : Int) (x205001_2 : List Int) (x205002_2 : List Int) (u205001 : Value) (u205002 : Value), v9 = .int .i64 x9_2 ∧ Aside0 (impl_EdgePile.l2 kq x9_2 x205000_2 x205001_2 x205002_2 = some (r1, r2, r3, r4)) ∧ Aside0 (kq ≤ k1) ∧ Aside0 (Kd.R (Kd.int .i64) 3 w' w.heap.size (fun k_ => some k_ ≠ (u205002 : Value).ownBlock) u205001 x205001_2) ∧ Aside0 (Kd.R (Kd.int .i64) 3 w' w.heap.size (fun k_ => some k_ ≠ (u205001 : Value).ownBlock) u205002 x205002_2) ∧ Aside0 (w'.heap[gb196]? = some (.cells #[.int .i64 0, (.slice none 0 0), (.slice none 0 0)] 27 (0, 0))) ∧ Aside0 (w'.heap[gb204]? = some (.cells #[.int .i64 x205000_2, u205001, u205002] 27 (0, 0))) ∧ Aside0 (Below w.heap.size w w'))
      case atStart => exact ⟨(wrap64 (-(rd x205001_1 0))), (x205000_1), (x205001_1), (x205002_1), (.slice (some ad220) x205001_1.length co75), (u205002), (by first | rfl | (simp; done) | (simp [wrap64]; done) | (simp [*]; done)), H', ⟨Nat.le_refl _⟩, ⟨tR HO_205001.out⟩, ⟨tR HO_205002.out⟩, ⟨tK BK196.out⟩, ⟨tK BK204.out⟩, ⟨tB HB.out⟩⟩
      case round =>
       clear H'
       (try clear c4); (try clear c15); (try clear c15b0); (try clear c72); (try clear c72b0); (try clear c72b1); (try clear hcz74_0); (try clear hcz74_1); (try clear hcz74_2); (try clear hfz74_0); (try clear hfz74_1); (try clear hfz74_2); (try clear hx220_0); (try clear p220); (try clear q220)
       obtain ⟨x9_2, x205000_2, x205001_2, x205002_2, u205001, u205002, rfl, HA, HK2, HO_205001, HO_205002, BK196, BK204, HB⟩ := hrel
       cases gk with
       | zero => exact absurd HA.out (by simp [impl_EdgePile.l2])
       | succ k2 =>
        have H := HA.out
        clear HA
        simp only [impl_EdgePile.l2] at H
        replace H := Option.bind_eq_some_iff.mp H
        obtain ⟨⟨t221, t222, t225⟩, A760, H⟩ := H
        replace H : ((impl_Pile_holds.f k2 t221 t222 t225 0).bind fun t229 => (if t229 = true then ((impl_IsPile.f k2 t221 t222 t225).bind fun t230 => (if t230 = true then (some (t221, t222, t225, true)) else (some (0, ([] : List Int), ([] : List Int), false)))) else (impl_EdgePile.l2 k2 (wrap64 (x9_2 - 1)) x205000_2 x205001_2 x205002_2))) = some (r1, r2, r3, r4) := H
        have A76 := Aside0.mk A760
        clear A760
        replace H := Option.bind_eq_some_iff.mp H
        obtain ⟨t229, A770, H⟩ := H
        replace H : (if t229 = true then ((impl_IsPile.f k2 t221 t222 t225).bind fun t230 => (if t230 = true then (some (t221, t222, t225, true)) else (some (0, ([] : List Int), ([] : List Int), false)))) else (impl_EdgePile.l2 k2 (wrap64 (x9_2 - 1)) x205000_2 x205001_2 x205002_2)) = some (r1, r2, r3, r4) := H
        have A77 := Aside0.mk A770
        clear A770
        by_cases c78 : t229 = true
        ·
         subst c78
         have H1 : ((impl_IsPile.f k2 t221 t222 t225).bind fun t230 => (if t230 = true then (some (t221, t222, t225, true)) else (some (0, ([] : List Int), ([] : List Int), false)))) = some (r1, r2, r3, r4) := by rw [if_pos rfl] at H; exact H
         clear H
         have H := H1
         clear H1
         replace H := Option.bind_eq_some_iff.mp H
         obtain ⟨t230, A790, H⟩ := H
         replace H : (if t230 = true then (some (t221, t222, t225, true)) else (some (0, ([] : List Int), ([] : List Int), false))) = some (r1, r2, r3, r4) := H
         have A79 := Aside0.mk A790
         clear A790
         by_cases c80 : t230 = true
         ·
          subst c80
          have H1 : (some (t221, t222, t225, true)) = some (r1, r2, r3, r4) := by rw [if_pos rfl] at H; exact H
          clear H
          have H := H1
          clear H1
          simp only [Option.some.injEq, Prod.mk.injEq] at H
          obtain ⟨rfl, rfl, rfl, rfl⟩ := H
          have hnb81 := NB204_196.out
          have hnc81 := NB196_204.out
          obtain ⟨hcz82_0, hfz82_0, hcz82_1, hfz82_1, hcz82_2, hfz82_2⟩ := cz3 BK204
          obtain ⟨Ao83, co83, eo83⟩ := Kd.R_slice HO_205001.out
          subst eo83
          obtain ⟨Ao84, co84, eo84⟩ := Kd.R_slice HO_205002.out
          subst eo84
          go_wp2_with (first | ((with_reducible refine gate_callee (f := 59) rfl ?_); refine goesL_ (some 60) rfl rfl Try.func59 (by kernel_rfl) rfl #[.agg #[.int .i64 x205000_2, .slice Ao83 x205001_2.length co83, .slice Ao84 x205002_2.length co84], .int .i64 x9_2] rfl tM ?_; (with_reducible refine (impl_Pile_moved.calls k2 x205000_2 _ _ x205001_2 _ _ x205002_2 x9_2 t221 t222 t225 _ ?side1 ?side2 ?side3 ?side4 A76.out).mono ?_); (case side1 => exact rC HO_205001); (case side2 => exact (Kd.R_reads' HO_205001.out).2.1); (case side3 => exact rC HO_205002); (case side4 => exact (Kd.R_reads' HO_205002.out).2.1); rintro e w85 ⟨v223, v226, rfl, ho0, ho1, hb⟩; refine ⟨_, rfl, ?_⟩; have HO224 := Aside0.mk (Kd.R_lower (Kd.R_new' (Kd.R_new' ho0 (Kd.R_lt (tR HO_205001.out))) (Kd.R_lt (tR HO_205002.out))) (below_size (tB HB.out))); have HO227 := Aside0.mk (Kd.R_lower (Kd.R_new' (Kd.R_new' ho1 (Kd.R_lt (tR HO_205001.out))) (Kd.R_lt (tR HO_205002.out))) (below_size (tB HB.out))); replace HO_205001 := Aside0.mk (Kd.R_mono (Kd.R_told (Kd.R_told (Kd.R_old (tR HO_205001.out) hb) (Kd.R_base ho0)) (Kd.R_base ho1)) (fun _ h_ => h_.1)); replace HO_205002 := Aside0.mk (Kd.R_mono (Kd.R_told (Kd.R_told (Kd.R_old (tR HO_205002.out) hb) (Kd.R_base ho0)) (Kd.R_base ho1)) (fun _ h_ => h_.1)); replace BK196 := bkB BK196 hb; replace BK204 := bkB BK204 hb; replace HB := hB HB hb; (try clear hb); (try clear ho0); (try clear ho1)) | ((with_reducible refine gate_dst (N := 10) rfl ?_); refine bE 10 #[.int .i64 0, .slice none 0 0, .slice none 0 0] 27 ?_; intro gb228 hg w86 hbox hb; replace HO_205001 := rB HO_205001 hb; replace HO_205002 := rB HO_205002 hb; replace HO224 := rB HO224 hb; replace HO227 := rB HO227 hb; have BK228 := Aside0.mk hbox; have GW228 := sB HB hg; have GE228 := GW228; replace HB := hB HB hb; have NB196_228 := lN BK196 hg; have NB228_196 := gN NB196_228; replace BK196 := bkB BK196 hb; have NB204_228 := lN BK204 hg; have NB228_204 := gN NB204_228; replace BK204 := bkB BK204 hb; clear hb hbox hg; have hnb87 := NB228_196.out; have hnc87 := NB196_228.out; have hnb88 := NB228_204.out; have hnc88 := NB204_228.out; obtain ⟨hcz89_0, hfz89_0, hcz89_1, hfz89_1, hcz89_2, hfz89_2⟩ := cz3 BK228; obtain ⟨Ao90, co90, eo90⟩ := Kd.R_slice HO224.out; subst eo90; obtain ⟨Ao91, co91, eo91⟩ := Kd.R_slice HO227.out; subst eo91) | ((with_reducible refine gate_callee (f := 58) rfl ?_); refine goesL_ (some 62) rfl rfl Try.func58 (by kernel_rfl) rfl #[.agg #[.int .i64 t221, .slice Ao90 t222.length co90, .slice Ao91 t225.length co91], .int .i64 0] rfl tM ?_; (with_reducible refine (impl_Pile_holds.calls k2 t221 _ _ t222 _ _ t225 0 true _ ?side1 ?side2 ?side3 ?side4 A77.out).mono ?_); (case side1 => refine (Kd.R_reads' (e := 3) (base := w.heap.size) (ok := fun k_ => ((some k_ ≠ (.slice Ao91 t225.length co91 : Value).ownBlock ∧ some k_ ≠ (.slice Ao83 x205001_2.length co83 : Value).ownBlock) ∧ some k_ ≠ (.slice Ao84 x205002_2.length co84 : Value).ownBlock)) (n := t222.length) (c := co90) ?_).2.2; exact (by (with_reducible repeat (first | apply Kd.R_alloc | apply Kd.R_drewN | apply Kd.R_drew)); exact (rF3 HO224 BK228))); (case side2 => exact (Kd.R_reads' HO224.out).2.1); (case side3 => refine (Kd.R_reads' (e := 3) (base := w.heap.size) (ok := fun k_ => ((some k_ ≠ (.slice Ao90 t222.length co90 : Value).ownBlock ∧ some k_ ≠ (.slice Ao83 x205001_2.length co83 : Value).ownBlock) ∧ some k_ ≠ (.slice Ao84 x205002_2.length co84 : Value).ownBlock)) (n := t225.length) (c := co91) ?_).2.2; exact (by (with_reducible repeat (first | apply Kd.R_alloc | apply Kd.R_drewN | apply Kd.R_drew)); exact (rF3 HO227 BK228))); (case side4 => exact (Kd.R_reads' HO227.out).2.1); rintro e w92 ⟨rfl, hb⟩; refine ⟨_, rfl, ?_⟩; replace HO_205001 := Aside0.mk (Kd.R_below (by (with_reducible repeat (first | apply Kd.R_alloc | apply Kd.R_drewN | apply Kd.R_drew)); exact (rF3 HO_205001 BK228)) hb); replace HO_205002 := Aside0.mk (Kd.R_below (by (with_reducible repeat (first | apply Kd.R_alloc | apply Kd.R_drewN | apply Kd.R_drew)); exact (rF3 HO_205002 BK228)) hb); replace HO224 := Aside0.mk (Kd.R_below (by (with_reducible repeat (first | apply Kd.R_alloc | apply Kd.R_drewN | apply Kd.R_drew)); exact (rF3 HO224 BK228)) hb); replace HO227 := Aside0.mk (Kd.R_below (by (with_reducible repeat (first | apply Kd.R_alloc | apply Kd.R_drewN | apply Kd.R_drew)); exact (rF3 HO227 BK228)) hb); replace BK196 := fB BK196 hb; replace BK204 := fB BK204 hb; replace BK228 := Aside0.mk (blk_below (g := gb228) (o := .cells #[.int .i64 t221, .slice Ao90 t222.length co90, .slice Ao91 t225.length co91] 27 (0, 0)) (by (with_reducible repeat (first | refine blk_drewN ?_ _ | refine blk_drew ?_ | refine blk_alloc ?_ _)); exact bp3 BK228.out) hb); replace HB := hB HB hb; (try clear hb); obtain ⟨hcz93_0, hfz93_0, hcz93_1, hfz93_1, hcz93_2, hfz93_2⟩ := cz3 BK228; obtain ⟨hcz94_0, hfz94_0, hcz94_1, hfz94_1, hcz94_2, hfz94_2⟩ := cz3 BK204) | ((with_reducible refine gate_callee (f := 18) rfl ?_); refine goesL_ (some 65) rfl rfl Try.func18 (by kernel_rfl) rfl #[.agg #[.int .i64 t221, .slice Ao90 t222.length co90, .slice Ao91 t225.length co91]] rfl tM ?_; (with_reducible refine (impl_IsPile.calls k2 t221 _ _ t222 _ _ t225 true _ ?side1 ?side2 ?side3 ?side4 A79.out).mono ?_); (case side1 => refine (Kd.R_reads' (e := 3) (base := w.heap.size) (ok := fun k_ => ((some k_ ≠ (.slice Ao91 t225.length co91 : Value).ownBlock ∧ some k_ ≠ (.slice Ao83 x205001_2.length co83 : Value).ownBlock) ∧ some k_ ≠ (.slice Ao84 x205002_2.length co84 : Value).ownBlock)) (n := t222.length) (c := co90) ?_).2.2; exact (by (with_reducible repeat (first | apply Kd.R_alloc | apply Kd.R_drewN | apply Kd.R_drew)); exact (rF3 HO224 BK204))); (case side2 => exact (Kd.R_reads' HO224.out).2.1); (case side3 => refine (Kd.R_reads' (e := 3) (base := w.heap.size) (ok := fun k_ => ((some k_ ≠ (.slice Ao90 t222.length co90 : Value).ownBlock ∧ some k_ ≠ (.slice Ao83 x205001_2.length co83 : Value).ownBlock) ∧ some k_ ≠ (.slice Ao84 x205002_2.length co84 : Value).ownBlock)) (n := t225.length) (c := co91) ?_).2.2; exact (by (with_reducible repeat (first | apply Kd.R_alloc | apply Kd.R_drewN | apply Kd.R_drew)); exact (rF3 HO227 BK204))); (case side4 => exact (Kd.R_reads' HO227.out).2.1); rintro e w95 ⟨rfl, hb⟩; refine ⟨_, rfl, ?_⟩; replace HO_205001 := Aside0.mk (Kd.R_below (by (with_reducible repeat (first | apply Kd.R_alloc | apply Kd.R_drewN | apply Kd.R_drew)); exact (rF3 HO_205001 BK204)) hb); replace HO_205002 := Aside0.mk (Kd.R_below (by (with_reducible repeat (first | apply Kd.R_alloc | apply Kd.R_drewN | apply Kd.R_drew)); exact (rF3 HO_205002 BK204)) hb); replace HO224 := Aside0.mk (Kd.R_below (by (with_reducible repeat (first | apply Kd.R_alloc | apply Kd.R_drewN | apply Kd.R_drew)); exact (rF3 HO224 BK204)) hb); replace HO227 := Aside0.mk (Kd.R_below (by (with_reducible repeat (first | apply Kd.R_alloc | apply Kd.R_drewN | apply Kd.R_drew)); exact (rF3 HO227 BK204)) hb); replace BK196 := fB BK196 hb; replace BK204 := Aside0.mk (blk_below (g := gb204) (o := .cells #[.int .i64 t221, .slice Ao90 t222.length co90, .slice Ao91 t225.length co91] 27 (0, 0)) (by (with_reducible repeat (first | refine blk_drewN ?_ _ | refine blk_drew ?_ | refine blk_alloc ?_ _)); exact bp3 BK204.out) hb); replace BK228 := fB BK228 hb; replace HB := hB HB hb; (try clear hb); obtain ⟨hcz96_0, hfz96_0, hcz96_1, hfz96_1, hcz96_2, hfz96_2⟩ := cz3 BK204; obtain ⟨hcz97_0, hfz97_0, hcz97_1, hfz97_1, hcz97_2, hfz97_2⟩ := cz3 BK196))
          refine bodyPost_ret (results_ct rfl _ _ gb196 27 #[.int .i64 t221, .slice Ao90 t222.length co90, .slice Ao91 t225.length co91] (0, 0) _ rfl (by (with_reducible repeat (first | refine blk_drewN ?_ _ | refine blk_drew ?_ | refine blk_alloc ?_ _)); exact bp3 BK196.out) Try.underlying27 rfl (by kernel_rfl)) rfl ?_
          exact ⟨_, _, by first | rfl | (simp [errW_none, errW_some] <;> rfl) | (simp [*, errW_none, errW_some] <;> rfl), by (with_reducible repeat (first | apply Kd.R_alloc | apply Kd.R_drewN | apply Kd.R_drew)); exact Kd.R_mono (Kd.R_far (p := ⟨gb196, 2, none⟩) (Kd.R_far (p := ⟨gb196, 1, none⟩) (Kd.R_far (p := ⟨gb196, 0, none⟩) (Kd.R_types HO224.out BK196.out (by decide)) (fun _ hk => hk.2) (.int .i64 t221)) (fun _ hk => hk.2) (.slice Ao90 t222.length co90)) (fun _ hk => hk.2) (.slice Ao91 t225.length co91)) (fun _ hk => hk.1.1.1), by (with_reducible repeat (first | apply Kd.R_alloc | apply Kd.R_drewN | apply Kd.R_drew)); exact Kd.R_mono (Kd.R_far (p := ⟨gb196, 2, none⟩) (Kd.R_far (p := ⟨gb196, 1, none⟩) (Kd.R_far (p := ⟨gb196, 0, none⟩) (Kd.R_types HO227.out BK196.out (by decide)) (fun _ hk => hk.2) (.int .i64 t221)) (fun _ hk => hk.2) (.slice Ao90 t222.length co90)) (fun _ hk => hk.2) (.slice Ao91 t225.length co91)) (fun _ hk => hk.1.1.1), tB HB.out⟩
         ·
          replace c80 := Bool.eq_false_iff.mpr c80
          subst c80
          have H1 : (some (0, ([] : List Int), ([] : List Int), false)) = some (r1, r2, r3, r4) := by rw [if_neg (show ¬ (false = true) by decide)] at H; exact H
          clear H
          have H := H1
          clear H1
          simp only [Option.some.injEq, Prod.mk.injEq] at H
          obtain ⟨rfl, rfl, rfl, rfl⟩ := H
          have hnb98 := NB204_196.out
          have hnc98 := NB196_204.out
          obtain ⟨hcz99_0, hfz99_0, hcz99_1, hfz99_1, hcz99_2, hfz99_2⟩ := cz3 BK204
          obtain ⟨Ao100, co100, eo100⟩ := Kd.R_slice HO_205001.out
          subst eo100
          obtain ⟨Ao101, co101, eo101⟩ := Kd.R_slice HO_205002.out
          subst eo101
          go_wp2_with (first | ((with_reducible refine gate_callee (f := 59) rfl ?_); refine goesL_ (some 60) rfl rfl Try.func59 (by kernel_rfl) rfl #[.agg #[.int .i64 x205000_2, .slice Ao100 x205001_2.length co100, .slice Ao101 x205002_2.length co101], .int .i64 x9_2] rfl tM ?_; (with_reducible refine (impl_Pile_moved.calls k2 x205000_2 _ _ x205001_2 _ _ x205002_2 x9_2 t221 t222 t225 _ ?side1 ?side2 ?side3 ?side4 A76.out).mono ?_); (case side1 => exact rC HO_205001); (case side2 => exact (Kd.R_reads' HO_205001.out).2.1); (case side3 => exact rC HO_205002); (case side4 => exact (Kd.R_reads' HO_205002.out).2.1); rintro e w102 ⟨v223, v226, rfl, ho0, ho1, hb⟩; refine ⟨_, rfl, ?_⟩; have HO224 := Aside0.mk (Kd.R_lower (Kd.R_new' (Kd.R_new' ho0 (Kd.R_lt (tR HO_205001.out))) (Kd.R_lt (tR HO_205002.out))) (below_size (tB HB.out))); have HO227 := Aside0.mk (Kd.R_lower (Kd.R_new' (Kd.R_new' ho1 (Kd.R_lt (tR HO_205001.out))) (Kd.R_lt (tR HO_205002.out))) (below_size (tB HB.out))); replace HO_205001 := Aside0.mk (Kd.R_mono (Kd.R_told (Kd.R_told (Kd.R_old (tR HO_205001.out) hb) (Kd.R_base ho0)) (Kd.R_base ho1)) (fun _ h_ => h_.1)); replace HO_205002 := Aside0.mk (Kd.R_mono (Kd.R_told (Kd.R_told (Kd.R_old (tR HO_205002.out) hb) (Kd.R_base ho0)) (Kd.R_base ho1)) (fun _ h_ => h_.1)); replace BK196 := bkB BK196 hb; replace BK204 := bkB BK204 hb; replace HB := hB HB hb; (try clear hb); (try clear ho0); (try clear ho1)) | ((with_reducible refine gate_dst (N := 10) rfl ?_); refine bE 10 #[.int .i64 0, .slice none 0 0, .slice none 0 0] 27 ?_; intro gb228 hg w103 hbox hb; replace HO_205001 := rB HO_205001 hb; replace HO_205002 := rB HO_205002 hb; replace HO224 := rB HO224 hb; replace HO227 := rB HO227 hb; have BK228 := Aside0.mk hbox; have GW228 := sB HB hg; have GE228 := GW228; replace HB := hB HB hb; have NB196_228 := lN BK196 hg; have NB228_196 := gN NB196_228; replace BK196 := bkB BK196 hb; have NB204_228 := lN BK204 hg; have NB228_204 := gN NB204_228; replace BK204 := bkB BK204 hb; clear hb hbox hg; have hnb104 := NB228_196.out; have hnc104 := NB196_228.out; have hnb105 := NB228_204.out; have hnc105 := NB204_228.out; obtain ⟨hcz106_0, hfz106_0, hcz106_1, hfz106_1, hcz106_2, hfz106_2⟩ := cz3 BK228; obtain ⟨Ao107, co107, eo107⟩ := Kd.R_slice HO224.out; subst eo107; obtain ⟨Ao108, co108, eo108⟩ := Kd.R_slice HO227.out; subst eo108) | ((with_reducible refine gate_callee (f := 58) rfl ?_); refine goesL_ (some 62) rfl rfl Try.func58 (by kernel_rfl) rfl #[.agg #[.int .i64 t221, .slice Ao107 t222.length co107, .slice Ao108 t225.length co108], .int .i64 0] rfl tM ?_; (with_reducible refine (impl_Pile_holds.calls k2 t221 _ _ t222 _ _ t225 0 true _ ?side1 ?side2 ?side3 ?side4 A77.out).mono ?_); (case side1 => refine (Kd.R_reads' (e := 3) (base := w.heap.size) (ok := fun k_ => ((some k_ ≠ (.slice Ao108 t225.length co108 : Value).ownBlock ∧ some k_ ≠ (.slice Ao100 x205001_2.length co100 : Value).ownBlock) ∧ some k_ ≠ (.slice Ao101 x205002_2.length co101 : Value).ownBlock)) (n := t222.length) (c := co107) ?_).2.2; exact (by (with_reducible repeat (first | apply Kd.R_alloc | apply Kd.R_drewN | apply Kd.R_drew)); exact (rF3 HO224 BK228))); (case side2 => exact (Kd.R_reads' HO224.out).2.1); (case side3 => refine (Kd.R_reads' (e := 3) (base := w.heap.size) (ok := fun k_ => ((some k_ ≠ (.slice Ao107 t222.length co107 : Value).ownBlock ∧ some k_ ≠ (.slice Ao100 x205001_2.length co100 : Value).ownBlock) ∧ some k_ ≠ (.slice Ao101 x205002_2.length co101 : Value).ownBlock)) (n := t225.length) (c := co108) ?_).2.2; exact (by (with_reducible repeat (first | apply Kd.R_alloc | apply Kd.R_drewN | apply Kd.R_drew)); exact (rF3 HO227 BK228))); (case side4 => exact (Kd.R_reads' HO227.out).2.1); rintro e w109 ⟨rfl, hb⟩; refine ⟨_, rfl, ?_⟩; replace HO_205001 := Aside0.mk (Kd.R_below (by (with_reducible repeat (first | apply Kd.R_alloc | apply Kd.R_drewN | apply Kd.R_drew)); exact (rF3 HO_205001 BK228)) hb); replace HO_205002 := Aside0.mk (Kd.R_below (by (with_reducible repeat (first | apply Kd.R_alloc | apply Kd.R_drewN | apply Kd.R_drew)); exact (rF3 HO_205002 BK228)) hb); replace HO224 := Aside0.mk (Kd.R_below (by (with_reducible repeat (first | apply Kd.R_alloc | apply Kd.R_drewN | apply Kd.R_drew)); exact (rF3 HO224 BK228)) hb); replace HO227 := Aside0.mk (Kd.R_below (by (with_reducible repeat (first | apply Kd.R_alloc | apply Kd.R_drewN | apply Kd.R_drew)); exact (rF3 HO227 BK228)) hb); replace BK196 := fB BK196 hb; replace BK204 := fB BK204 hb; replace BK228 := Aside0.mk (blk_below (g := gb228) (o := .cells #[.int .i64 t221, .slice Ao107 t222.length co107, .slice Ao108 t225.length co108] 27 (0, 0)) (by (with_reducible repeat (first | refine blk_drewN ?_ _ | refine blk_drew ?_ | refine blk_alloc ?_ _)); exact bp3 BK228.out) hb); replace HB := hB HB hb; (try clear hb); obtain ⟨hcz110_0, hfz110_0, hcz110_1, hfz110_1, hcz110_2, hfz110_2⟩ := cz3 BK228; obtain ⟨hcz111_0, hfz111_0, hcz111_1, hfz111_1, hcz111_2, hfz111_2⟩ := cz3 BK204) | ((with_reducible refine gate_callee (f := 18) rfl ?_); refine goesL_ (some 65) rfl rfl Try.func18 (by kernel_rfl) rfl #[.agg #[.int .i64 t221, .slice Ao107 t222.length co107, .slice Ao108 t225.length co108]] rfl tM ?_; (with_reducible refine (impl_IsPile.calls k2 t221 _ _ t222 _ _ t225 false _ ?side1 ?side2 ?side3 ?side4 A79.out).mono ?_); (case side1 => refine (Kd.R_reads' (e := 3) (base := w.heap.size) (ok := fun k_ => ((some k_ ≠ (.slice Ao108 t225.length co108 : Value).ownBlock ∧ some k_ ≠ (.slice Ao100 x205001_2.length co100 : Value).ownBlock) ∧ some k_ ≠ (.slice Ao101 x205002_2.length co101 : Value).ownBlock)) (n := t222.length) (c := co107) ?_).2.2; exact (by (with_reducible repeat (first | apply Kd.R_alloc | apply Kd.R_drewN | apply Kd.R_drew)); exact (rF3 HO224 BK204))); (case side2 => exact (Kd.R_reads' HO224.out).2.1); (case side3 => refine (Kd.R_reads' (e := 3) (base := w.heap.size) (ok := fun k_ => ((some k_ ≠ (.slice Ao107 t222.length co107 : Value).ownBlock ∧ some k_ ≠ (.slice Ao100 x205001_2.length co100 : Value).ownBlock) ∧ some k_ ≠ (.slice Ao101 x205002_2.length co101 : Value).ownBlock)) (n := t225.length) (c := co108) ?_).2.2; exact (by (with_reducible repeat (first | apply Kd.R_alloc | apply Kd.R_drewN | apply Kd.R_drew)); exact (rF3 HO227 BK204))); (case side4 => exact (Kd.R_reads' HO227.out).2.1); rintro e w112 ⟨rfl, hb⟩; refine ⟨_, rfl, ?_⟩; replace HO_205001 := Aside0.mk (Kd.R_below (by (with_reducible repeat (first | apply Kd.R_alloc | apply Kd.R_drewN | apply Kd.R_drew)); exact (rF3 HO_205001 BK204)) hb); replace HO_205002 := Aside0.mk (Kd.R_below (by (with_reducible repeat (first | apply Kd.R_alloc | apply Kd.R_drewN | apply Kd.R_drew)); exact (rF3 HO_205002 BK204)) hb); replace HO224 := Aside0.mk (Kd.R_below (by (with_reducible repeat (first | apply Kd.R_alloc | apply Kd.R_drewN | apply Kd.R_drew)); exact (rF3 HO224 BK204)) hb); replace HO227 := Aside0.mk (Kd.R_below (by (with_reducible repeat (first | apply Kd.R_alloc | apply Kd.R_drewN | apply Kd.R_drew)); exact (rF3 HO227 BK204)) hb); replace BK196 := fB BK196 hb; replace BK204 := Aside0.mk (blk_below (g := gb204) (o := .cells #[.int .i64 t221, .slice Ao107 t222.length co107, .slice Ao108 t225.length co108] 27 (0, 0)) (by (with_reducible repeat (first | refine blk_drewN ?_ _ | refine blk_drew ?_ | refine blk_alloc ?_ _)); exact bp3 BK204.out) hb); replace BK228 := fB BK228 hb; replace HB := hB HB hb; (try clear hb); obtain ⟨hcz113_0, hfz113_0, hcz113_1, hfz113_1, hcz113_2, hfz113_2⟩ := cz3 BK196))
          refine bodyPost_ret (results_ct rfl _ _ gb196 27 #[.int .i64 0, .slice none 0 0, .slice none 0 0] (0, 0) _ rfl (by (with_reducible repeat (first | refine blk_drewN ?_ _ | refine blk_drew ?_ | refine blk_alloc ?_ _)); exact bp3 BK196.out) Try.underlying27 rfl (by kernel_rfl)) rfl ?_
          exact ⟨_, _, by first | rfl | (simp [errW_none, errW_some] <;> rfl) | (simp [*, errW_none, errW_some] <;> rfl), by first | exact Kd.R_nil _ _ _ _ _ | exact Kd.N_nil _ _ _ _ _ | exact Kd.V_nil _ _ _ _ _ | exact Kd.Q_nil _ _ _ _ _ | exact Kd.S_nil _ _ _ _ _, by first | exact Kd.R_nil _ _ _ _ _ | exact Kd.N_nil _ _ _ _ _ | exact Kd.V_nil _ _ _ _ _ | exact Kd.Q_nil _ _ _ _ _ | exact Kd.S_nil _ _ _ _ _, tB HB.out⟩
        ·
         replace c78 := Bool.eq_false_iff.mpr c78
         subst c78
         have H1 : (impl_EdgePile.l2 k2 (wrap64 (x9_2 - 1)) x205000_2 x205001_2 x205002_2) = some (r1, r2, r3, r4) := by rw [if_neg (show ¬ (false = true) by decide)] at H; exact H
         clear H
         have H := H1
         clear H1
         have H' := Aside0.mk H
         clear H
         have hnb114 := NB204_196.out
         have hnc114 := NB196_204.out
         obtain ⟨hcz115_0, hfz115_0, hcz115_1, hfz115_1, hcz115_2, hfz115_2⟩ := cz3 BK204
         obtain ⟨Ao116, co116, eo116⟩ := Kd.R_slice HO_205001.out
         subst eo116
         obtain ⟨Ao117, co117, eo117⟩ := Kd.R_slice HO_205002.out
         subst eo117
         go_wp2_with (first | ((with_reducible refine gate_callee (f := 59) rfl ?_); refine goesL_ (some 60) rfl rfl Try.func59 (by kernel_rfl) rfl #[.agg #[.int .i64 x205000_2, .slice Ao116 x205001_2.length co116, .slice Ao117 x205002_2.length co117], .int .i64 x9_2] rfl tM ?_; (with_reducible refine (impl_Pile_moved.calls k2 x205000_2 _ _ x205001_2 _ _ x205002_2 x9_2 t221 t222 t225 _ ?side1 ?side2 ?side3 ?side4 A76.out).mono ?_); (case side1 => exact rC HO_205001); (case side2 => exact (Kd.R_reads' HO_205001.out).2.1); (case side3 => exact rC HO_205002); (case side4 => exact (Kd.R_reads' HO_205002.out).2.1); rintro e w118 ⟨v223, v226, rfl, ho0, ho1, hb⟩; refine ⟨_, rfl, ?_⟩; have HO224 := Aside0.mk (Kd.R_lower (Kd.R_new' (Kd.R_new' ho0 (Kd.R_lt (tR HO_205001.out))) (Kd.R_lt (tR HO_205002.out))) (below_size (tB HB.out))); have HO227 := Aside0.mk (Kd.R_lower (Kd.R_new' (Kd.R_new' ho1 (Kd.R_lt (tR HO_205001.out))) (Kd.R_lt (tR HO_205002.out))) (below_size (tB HB.out))); replace HO_205001 := Aside0.mk (Kd.R_mono (Kd.R_told (Kd.R_told (Kd.R_old (tR HO_205001.out) hb) (Kd.R_base ho0)) (Kd.R_base ho1)) (fun _ h_ => h_.1)); replace HO_205002 := Aside0.mk (Kd.R_mono (Kd.R_told (Kd.R_told (Kd.R_old (tR HO_205002.out) hb) (Kd.R_base ho0)) (Kd.R_base ho1)) (fun _ h_ => h_.1)); replace BK196 := bkB BK196 hb; replace BK204 := bkB BK204 hb; replace HB := hB HB hb; (try clear hb); (try clear ho0); (try clear ho1)) | ((with_reducible refine gate_dst (N := 10) rfl ?_); refine bE 10 #[.int .i64 0, .slice none 0 0, .slice none 0 0] 27 ?_; intro gb228 hg w119 hbox hb; replace HO_205001 := rB HO_205001 hb; replace HO_205002 := rB HO_205002 hb; replace HO224 := rB HO224 hb; replace HO227 := rB HO227 hb; have BK228 := Aside0.mk hbox; have GW228 := sB HB hg; have GE228 := GW228; replace HB := hB HB hb; have NB196_228 := lN BK196 hg; have NB228_196 := gN NB196_228; replace BK196 := bkB BK196 hb; have NB204_228 := lN BK204 hg; have NB228_204 := gN NB204_228; replace BK204 := bkB BK204 hb; clear hb hbox hg; have hnb120 := NB228_196.out; have hnc120 := NB196_228.out; have hnb121 := NB228_204.out; have hnc121 := NB204_228.out; obtain ⟨hcz122_0, hfz122_0, hcz122_1, hfz122_1, hcz122_2, hfz122_2⟩ := cz3 BK228; obtain ⟨Ao123, co123, eo123⟩ := Kd.R_slice HO224.out; subst eo123; obtain ⟨Ao124, co124, eo124⟩ := Kd.R_slice HO227.out; subst eo124) | ((with_reducible refine gate_callee (f := 58) rfl ?_); refine goesL_ (some 62) rfl rfl Try.func58 (by kernel_rfl) rfl #[.agg #[.int .i64 t221, .slice Ao123 t222.length co123, .slice Ao124 t225.length co124], .int .i64 0] rfl tM ?_; (with_reducible refine (impl_Pile_holds.calls k2 t221 _ _ t222 _ _ t225 0 false _ ?side1 ?side2 ?side3 ?side4 A77.out).mono ?_); (case side1 => refine (Kd.R_reads' (e := 3) (base := w.heap.size) (ok := fun k_ => ((some k_ ≠ (.slice Ao124 t225.length co124 : Value).ownBlock ∧ some k_ ≠ (.slice Ao116 x205001_2.length co116 : Value).ownBlock) ∧ some k_ ≠ (.slice Ao117 x205002_2.length co117 : Value).ownBlock)) (n := t222.length) (c := co123) ?_).2.2; exact (by (with_reducible repeat (first | apply Kd.R_alloc | apply Kd.R_drewN | apply Kd.R_drew)); exact (rF3 HO224 BK228))); (case side2 => exact (Kd.R_reads' HO224.out).2.1); (case side3 => refine (Kd.R_reads' (e := 3) (base := w.heap.size) (ok := fun k_ => ((some k_ ≠ (.slice Ao123 t222.length co123 : Value).ownBlock ∧ some k_ ≠ (.slice Ao116 x205001_2.length co116 : Value).ownBlock) ∧ some k_ ≠ (.slice Ao117 x205002_2.length co117 : Value).ownBlock)) (n := t225.length) (c := co124) ?_).2.2; exact (by (with_reducible repeat (first | apply Kd.R_alloc | apply Kd.R_drewN | apply Kd.R_drew)); exact (rF3 HO227 BK228))); (case side4 => exact (Kd.R_reads' HO227.out).2.1); rintro e w125 ⟨rfl, hb⟩; refine ⟨_, rfl, ?_⟩; replace HO_205001 := Aside0.mk (Kd.R_below (by (with_reducible repeat (first | apply Kd.R_alloc | apply Kd.R_drewN | apply Kd.R_drew)); exact (rF3 HO_205001 BK228)) hb); replace HO_205002 := Aside0.mk (Kd.R_below (by (with_reducible repeat (first | apply Kd.R_alloc | apply Kd.R_drewN | apply Kd.R_drew)); exact (rF3 HO_205002 BK228)) hb); replace HO224 := Aside0.mk (Kd.R_below (by (with_reducible repeat (first | apply Kd.R_alloc | apply Kd.R_drewN | apply Kd.R_drew)); exact (rF3 HO224 BK228)) hb); replace HO227 := Aside0.mk (Kd.R_below (by (with_reducible repeat (first | apply Kd.R_alloc | apply Kd.R_drewN | apply Kd.R_drew)); exact (rF3 HO227 BK228)) hb); replace BK196 := fB BK196 hb; replace BK204 := fB BK204 hb; replace BK228 := Aside0.mk (blk_below (g := gb228) (o := .cells #[.int .i64 t221, .slice Ao123 t222.length co123, .slice Ao124 t225.length co124] 27 (0, 0)) (by (with_reducible repeat (first | refine blk_drewN ?_ _ | refine blk_drew ?_ | refine blk_alloc ?_ _)); exact bp3 BK228.out) hb); replace HB := hB HB hb; (try clear hb)))
         go_roundg k2
         case measure => have := HK1.out; have := HK2.out; omega
         case rel => exact ⟨(wrap64 (x9_2 - 1)), (x205000_2), (x205001_2), (x205002_2), (.slice Ao116 x205001_2.length co116), (.slice Ao117 x205002_2.length co117), (by first | rfl | (simp; done) | (simp [wrap64]; done) | (simp [*]; done)), H', ⟨by have := HK1.out; have := HK2.out; omega⟩, ⟨by (with_reducible repeat (first | apply Kd.R_alloc | apply Kd.R_drewN | apply Kd.R_drew)); exact Kd.R_mono HO_205001.out (fun _ hk => hk.1.1)⟩, ⟨by (with_reducible repeat (first | apply Kd.R_alloc | apply Kd.R_drewN | apply Kd.R_drew)); exact Kd.R_mono HO_205002.out (fun _ hk => hk.1.1)⟩, ⟨tK BK196.out⟩, ⟨tK BK204.out⟩, ⟨tB HB.out⟩⟩
     ·
      rw [if_neg c72] at H
      exact absurd H (by simp)
 ·
  replace c4 := Bool.eq_false_iff.mpr c4
  subst c4
  have H1 : (some (0, ([] : List Int), ([] : List Int), false)) = some (r1, r2, r3, r4) := by rw [if_neg (show ¬ (false = true) by decide)] at H; exact H
  clear H
  have H := H1
  clear H1
  simp only [Option.some.injEq, Prod.mk.injEq] at H
  obtain ⟨rfl, rfl, rfl, rfl⟩ := H
  go_enter Try.func10, Try.ntmps10
  go_wp2_with (first | ((with_reducible refine gate_dst (N := 4) rfl ?_); refine bE 4 #[.int .i64 0, .slice none 0 0, .slice none 0 0] 27 ?_; intro gb196 hg w126 hbox hb; have BK196 := Aside0.mk hbox; have GW196 := sB HB hg; have GE196 := GW196; replace HB := hB HB hb; clear hb hbox hg) | ((with_reducible refine gate_callee (f := 54) rfl ?_); refine goesL_ (some 13) rfl rfl Try.func54 (by kernel_rfl) rfl #[.int .i64 a0, .int .i64 a1] rfl tM ?_; (with_reducible refine (impl_isSize.calls a0 a1 false _ A3.out).mono ?_); rintro e w' ⟨rfl, ⟨nd, rfl⟩⟩; refine ⟨_, rfl, ?_⟩; (try (rw [drewN_self w126]; generalize hq_ : World.drewN w126 _ = w126; have n0_ : Aside0 (w126.heap[gb196]? = some (.cells #[.int .i64 0, .slice none 0 0, .slice none 0 0] 27 (0, 0))) := ⟨by rw [← hq_]; exact (tK BK196.out)⟩; have n1_ : Aside0 (Below w.heap.size w w126) := ⟨by rw [← hq_]; exact (tB HB.out)⟩; clear BK196 HB hq_; have BK196 := n0_; have HB := n1_; clear n0_ n1_)); obtain ⟨hcz127_0, hfz127_0, hcz127_1, hfz127_1, hcz127_2, hfz127_2⟩ := cz3 BK196))
  refine bodyPost_ret (results_ct rfl _ _ gb196 27 #[.int .i64 0, .slice none 0 0, .slice none 0 0] (0, 0) _ rfl (by (with_reducible repeat (first | refine blk_drewN ?_ _ | refine blk_drew ?_ | refine blk_alloc ?_ _)); exact bp3 BK196.out) Try.underlying27 rfl (by kernel_rfl)) rfl ?_
  exact ⟨_, _, by first | rfl | (simp [errW_none, errW_some] <;> rfl) | (simp [*, errW_none, errW_some] <;> rfl), by first | exact Kd.R_nil _ _ _ _ _ | exact Kd.N_nil _ _ _ _ _ | exact Kd.V_nil _ _ _ _ _ | exact Kd.Q_nil _ _ _ _ _ | exact Kd.S_nil _ _ _ _ _, by first | exact Kd.R_nil _ _ _ _ _ | exact Kd.N_nil _ _ _ _ _ | exact Kd.V_nil _ _ _ _ _ | exact Kd.Q_nil _ _ _ _ _ | exact Kd.S_nil _ _ _ _ _, tB HB.out⟩

end Go.Proofs.Ytnnpfekgapikfaa.PFnExactEdgePile

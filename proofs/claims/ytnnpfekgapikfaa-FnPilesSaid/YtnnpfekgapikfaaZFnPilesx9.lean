import Derived.Test.YtnnpfekgapikfaaZFnPilesx0
import Derived.Test.YtnnpfekgapikfaaZFnPilesx3
import Derived.Test.YtnnpfekgapikfaaZFnPilesx4
import Derived.Test.YtnnpfekgapikfaaZFnPilesx5
import Derived.Test.YtnnpfekgapikfaaZFnPilesx6
namespace Go.Proofs.Ytnnpfekgapikfaa.PFnPiles
open Go.RowKit Go.Proofs.YtnnpfekgapikfaaW.PrintWords Go.Proofs.YtnnpfekgapikfaaW.PrintLast Go.Proofs.YtnnpfekgapikfaaW.PrintMore
attribute [local go_sem] max2_int min2_int max_two min_two max_three min_three max_four min_four
set_option linter.unusedVariables false
set_option linter.unusedSimpArgs false
def spec_l4Moved.l0 : Nat → Int → Int → Int → List Int → List Int → Int → List Int → List Int → Option (Int × List Int × List Int)
 | 0, _, _, _, _, _, _, _, _ => none
 | k + 1, x1, x6, x481000, x481001, x481002, x489000, x489001, x489002 => if x6 < (x481001.length : Int) then (if 0 ≤ x6 then (if x489001.length < 17592186044416 then (spec_l4Moved.l0 k x1 (wrap64 (x6 + 1)) x481000 x481001 x481002 x489000 (x489001 ++ [wrap64 ((rd x481001 x6) + x1)]) x489002) else (none)) else (none)) else (some (x489000, x489001, x489002))
def spec_l4Moved.f (k : Nat) (a0_0 : Int) (l0_1 : List Int) (l0_2 : List Int) (a1 : Int) : Option (Int × List Int × List Int) := (spec_l1Own.f l0_2).bind fun t485 => (spec_l4Moved.l0 k a1 0 a0_0 l0_1 l0_2 a0_0 (([] : List Int)) t485)
def spec_l4Moved.T1 : Bool × List (List Nat × List Nat) := (true, [([], []), ([0], [0]), ([], []), ([], []), ([3], [3]), ([4], [4]), ([1, 2, 5], [1, 2, 5]), ([], []), ([7, 6, 5, 0, 1, 2, 3, 4, 5, 6, 7], [6, 7])])
def spec_l4Moved.B1 : List Nat := [0, 1, 0, 0, 8, 24, 63, 0, 255]
theorem spec_l4Moved.tab1 : rtab .any (opsOf Try.f88 1) = spec_l4Moved.T1 := by kernel_rfl
theorem spec_l4Moved.bits1 : waitsOk spec_l4Moved.T1.2 spec_l4Moved.B1 = true := by kernel_rfl
def spec_l4Moved.T5 : Bool × List (List Nat × List Nat) := (true, [([], []), ([0], [0]), ([], []), ([2], [2]), ([], []), ([3, 4], [3, 4]), ([5], [5]), ([], []), ([6, 7], [6, 7]), ([8], [8]), ([1, 9], [1, 9]), ([0, 1, 2, 3, 4, 5, 6, 7, 8, 9, 10], []), ([11, 10, 10, 0, 1, 2, 3, 4, 5, 6, 7, 8, 9, 10], [10, 11])])
def spec_l4Moved.B5 : List Nat := [0, 1, 0, 4, 0, 28, 60, 0, 252, 508, 1023, 2047, 4095]
theorem spec_l4Moved.tab5 : rtab .any (opsOf Try.f88 5) = spec_l4Moved.T5 := by kernel_rfl
theorem spec_l4Moved.bits5 : waitsOk spec_l4Moved.T5.2 spec_l4Moved.B5 = true := by kernel_rfl
set_option maxHeartbeats 8000000 in
set_option maxRecDepth 100000 in
theorem spec_l4Moved.calls (k : Nat) (a0_0 : Int) (A0_1 : Option Addr) (c0_1 : Nat) (l0_1 : List Int) (A0_2 : Option Addr) (c0_2 : Nat) (l0_2 : List Int) (a1 : Int) (r1 : Int) (r2 : List Int) (r3 : List Int) (w : World) (hr0_1 : Kd.C (Kd.int .i64) w A0_1 l0_1.length l0_1) (hc0_1 : l0_1.length ≤ c0_1) (hr0_2 : Kd.C (Kd.int .i64) w A0_2 l0_2.length l0_2) (hc0_2 : l0_2.length ≤ c0_2) (h : spec_l4Moved.f k a0_0 l0_1 l0_2 a1 = some (r1, r2, r3)) :
  Calls Try.prog 88 #[.agg #[.int .i64 a0_0, .slice A0_1 l0_1.length c0_1, .slice A0_2 l0_2.length c0_2], .int .i64 a1] w fun e w' => ∃ v1_ v2_ : Value, e = .returned (.agg #[.int .i64 r1, v1_, v2_]) ∧ Kd.R (Kd.int .i64) 3 w' w.heap.size (fun k_ => some k_ ≠ (v2_ : Value).ownBlock) v1_ r2 ∧ Kd.R (Kd.int .i64) 3 w' w.heap.size (fun k_ => some k_ ≠ (v1_ : Value).ownBlock) v2_ r3 ∧ Below w.heap.size w w' := by
 have hu27 := Try.underlying27
 have HR0_1 := Aside0.mk hr0_1
 have HC0_1 := Aside0.mk hc0_1
 clear hr0_1 hc0_1
 have HR0_2 := Aside0.mk hr0_2
 have HC0_2 := Aside0.mk hc0_2
 clear hr0_2 hc0_2
 have HB := Aside0.mk (Below.refl w.heap.size w)
 have H : ((spec_l1Own.f l0_2).bind fun t485 => (spec_l4Moved.l0 k a1 0 a0_0 l0_1 l0_2 a0_0 (([] : List Int)) t485)) = some (r1, r2, r3) := h
 clear h
 obtain ⟨y482, hy482⟩ : ∃ y_ : List Int, y_ = (([] : List Int)) := ⟨_, rfl⟩
 replace H : ((spec_l1Own.f l0_2).bind fun t485 => (spec_l4Moved.l0 k a1 0 a0_0 l0_1 l0_2 a0_0 y482 t485)) = some (r1, r2, r3) := by first | (rw [hy482]; with_reducible exact H) | (have H2_ := (Option.bind_some _ _).symm.trans H; rw [hy482]; with_reducible exact H2_) | (have H2_ := (Option.bind_some _ _).symm.trans H; with_reducible exact H2_) | with_reducible exact H | (rw [hy482]; exact H) | exact H
 have Ny482 := Aside0.mk hy482
 clear hy482
 replace H := Option.bind_eq_some_iff.mp H
 obtain ⟨t485, A30, H⟩ := H
 replace H : (spec_l4Moved.l0 k a1 0 a0_0 l0_1 l0_2 a0_0 y482 t485) = some (r1, r2, r3) := H
 have A3 := Aside0.mk A30
 clear A30
 have H' := Aside0.mk H
 clear H
 go_enter Try.func88, Try.ntmps88
 try go_wp2_with (first | ((with_reducible refine gate_dst (N := 2) rfl ?_); refine bE 2 #[.int .i64 a0_0, .slice A0_1 l0_1.length c0_1, .slice A0_2 l0_2.length c0_2] 27 ?_; intro gb480 hg w4 hbox hb; have BK480 := Aside0.mk hbox; have GW480 := sB HB hg; have GE480 := GW480; replace HB := hB HB hb; clear hb hbox hg) | ((with_reducible refine gate_dst (N := 4) rfl ?_); refine bE 4 #[.int .i64 0, .slice none 0 0, .slice none 0 0] 27 ?_; intro gb481 hg w5 hbox hb; have BK481 := Aside0.mk hbox; have GW481 := sB HB hg; have GE481 := GW481; replace HB := hB HB hb; have NB480_481 := lN BK480 hg; have NB481_480 := gN NB480_481; replace BK480 := bkB BK480 hb; clear hb hbox hg))
 replace BK480 := Aside0.mk (blk_drew BK480.out)
 replace BK481 := Aside0.mk (blk_drew BK481.out)
 replace HB := Aside0.mk (below_drew1 HB.out)
 refine start_ (n := 9) (S := fun w' => w'.cell? ⟨gb480, 0, none⟩ = some (.int .i64 a0_0) ∧ w'.cell? ⟨gb480, 1, none⟩ = some (.slice A0_1 l0_1.length c0_1) ∧ w'.cell? ⟨gb480, 2, none⟩ = some (.slice A0_2 l0_2.length c0_2)) (ds := []) #[n_, n_, n_, n_, n_, n_, n_, n_, n_] (by kernel_rfl) rfl rfl ⟨(blk_cell BK480.out 0).trans rfl, (blk_cell BK480.out 1).trans rfl, (blk_cell BK480.out 2).trans rfl⟩ (fun hHeld => ?_); refine with_tabW spec_l4Moved.tab1 spec_l4Moved.bits1 (fun HT_ HW_ => ?_)
 generalize w5.drew = w6 at BK480 BK481 HB hHeld ⊢
 refine pu 0 (some 7) #[y_, n_, n_, n_, n_, n_, n_, n_, n_] (any_of HT_.out (by kernel_rfl)) ?_
 refine pu 3 (some 10) #[y_, n_, n_, y_, n_, n_, n_, n_, n_] (any_of HT_.out (by kernel_rfl)) ?_
 refine tk 1 (some 8) #[y_, y_, n_, y_, n_, n_, n_, n_, n_] rfl (take_ofW HT_.out HW_.out (by kernel_rfl)) hHeld (Or.inl ⟨by rfl, by rintro w' ⟨s0, s1, s2⟩; go_simp; with_reducible rfl⟩) ?_
 refine tk 4 (some 11) #[y_, y_, n_, y_, y_, n_, n_, n_, n_] rfl (take_ofW HT_.out HW_.out (by kernel_rfl)) hHeld (Or.inl ⟨by rfl, by rintro w' ⟨s0, s1, s2⟩; go_simp; with_reducible rfl⟩) ?_
 refine join_ (σ := Value × Value × Nat) 1 #[y_, y_, y_, y_, y_, y_, y_, y_, n_] (fun s_ => [(9, s_.1), (12, s_.2.1), (5, .pointer (some ⟨s_.2.2, 0, none⟩)), (13, .agg #[.int .i64 a0_0, s_.1, s_.2.1])]) (fun s_ w' => (w'.cell? ⟨gb480, 0, none⟩ = some (.int .i64 a0_0) ∧ w'.cell? ⟨gb480, 1, none⟩ = some (.slice A0_1 l0_1.length c0_1) ∧ w'.cell? ⟨gb480, 2, none⟩ = some (.slice A0_2 l0_2.length c0_2)) ∧ (Kd.R (Kd.int .i64) 3 w' w.heap.size (fun k_ => some k_ ≠ (s_.2.1 : Value).ownBlock) s_.1 y482) ∧ (Kd.R (Kd.int .i64) 3 w' w.heap.size (fun k_ => some k_ ≠ (s_.1 : Value).ownBlock) s_.2.1 t485) ∧ (w'.heap[gb480]? = some (.cells #[.int .i64 a0_0, .slice A0_1 l0_1.length c0_1, .slice A0_2 l0_2.length c0_2] 27 (0, 0))) ∧ (w'.heap[gb481]? = some (.cells #[.int .i64 0, .slice none 0 0, .slice none 0 0] 27 (0, 0))) ∧ (w'.heap[s_.2.2]? = some (.cells #[.int .i64 0, .slice none 0 0, .slice none 0 0] 27 (0, 0))) ∧ (w.heap.size ≤ s_.2.2) ∧ (w.heap.size ≤ s_.2.2) ∧ (gb480 ≠ s_.2.2) ∧ (s_.2.2 ≠ gb480) ∧ (gb481 ≠ s_.2.2) ∧ (s_.2.2 ≠ gb481) ∧ (Below w.heap.size w w')) ?_ ?_
 rotate_left
 ·
  intro hJ2_5_7
  refine join_ (σ := Value × Value) 2 #[y_, y_, y_, y_, y_, y_, y_, n_, n_] (fun s_ => [(9, s_.1), (12, s_.2), (13, .agg #[.int .i64 a0_0, s_.1, s_.2])]) (fun s_ w' => (w'.cell? ⟨gb480, 0, none⟩ = some (.int .i64 a0_0) ∧ w'.cell? ⟨gb480, 1, none⟩ = some (.slice A0_1 l0_1.length c0_1) ∧ w'.cell? ⟨gb480, 2, none⟩ = some (.slice A0_2 l0_2.length c0_2)) ∧ (Kd.R (Kd.int .i64) 3 w' w.heap.size (fun k_ => some k_ ≠ (s_.2 : Value).ownBlock) s_.1 y482) ∧ (Kd.R (Kd.int .i64) 3 w' w.heap.size (fun k_ => some k_ ≠ (s_.1 : Value).ownBlock) s_.2 t485) ∧ (w'.heap[gb480]? = some (.cells #[.int .i64 a0_0, .slice A0_1 l0_1.length c0_1, .slice A0_2 l0_2.length c0_2] 27 (0, 0))) ∧ (w'.heap[gb481]? = some (.cells #[.int .i64 0, .slice none 0 0, .slice none 0 0] 27 (0, 0))) ∧ (Below w.heap.size w w')) ?_ ?_
  rotate_left
  ·
   intro hJ2_5
   refine join_ (σ := Value × Nat) 3 #[y_, y_, y_, y_, y_, n_, n_, y_, n_] (fun s_ => [(9, s_.1), (5, .pointer (some ⟨s_.2, 0, none⟩))]) (fun s_ w' => (w'.cell? ⟨gb480, 0, none⟩ = some (.int .i64 a0_0) ∧ w'.cell? ⟨gb480, 1, none⟩ = some (.slice A0_1 l0_1.length c0_1) ∧ w'.cell? ⟨gb480, 2, none⟩ = some (.slice A0_2 l0_2.length c0_2)) ∧ (Kd.R (Kd.int .i64) 3 w' w.heap.size (fun _ => True) s_.1 y482) ∧ (w'.heap[gb480]? = some (.cells #[.int .i64 a0_0, .slice A0_1 l0_1.length c0_1, .slice A0_2 l0_2.length c0_2] 27 (0, 0))) ∧ (w'.heap[gb481]? = some (.cells #[.int .i64 0, .slice none 0 0, .slice none 0 0] 27 (0, 0))) ∧ (w'.heap[s_.2]? = some (.cells #[.int .i64 0, .slice none 0 0, .slice none 0 0] 27 (0, 0))) ∧ (w.heap.size ≤ s_.2) ∧ (w.heap.size ≤ s_.2) ∧ (gb480 ≠ s_.2) ∧ (s_.2 ≠ gb480) ∧ (gb481 ≠ s_.2) ∧ (s_.2 ≠ gb481) ∧ (Below w.heap.size w w')) ?_ ?_
   rotate_left
   ·
    intro hJ2_7
    refine join_ (σ := Value × Nat) 3 #[y_, y_, n_, y_, y_, y_, n_, y_, n_] (fun s_ => [(12, s_.1), (5, .pointer (some ⟨s_.2, 0, none⟩))]) (fun s_ w' => (w'.cell? ⟨gb480, 0, none⟩ = some (.int .i64 a0_0) ∧ w'.cell? ⟨gb480, 1, none⟩ = some (.slice A0_1 l0_1.length c0_1) ∧ w'.cell? ⟨gb480, 2, none⟩ = some (.slice A0_2 l0_2.length c0_2)) ∧ (Kd.R (Kd.int .i64) 3 w' w.heap.size (fun _ => True) s_.1 t485) ∧ (w'.heap[gb480]? = some (.cells #[.int .i64 a0_0, .slice A0_1 l0_1.length c0_1, .slice A0_2 l0_2.length c0_2] 27 (0, 0))) ∧ (w'.heap[gb481]? = some (.cells #[.int .i64 0, .slice none 0 0, .slice none 0 0] 27 (0, 0))) ∧ (w'.heap[s_.2]? = some (.cells #[.int .i64 0, .slice none 0 0, .slice none 0 0] 27 (0, 0))) ∧ (w.heap.size ≤ s_.2) ∧ (w.heap.size ≤ s_.2) ∧ (gb480 ≠ s_.2) ∧ (s_.2 ≠ gb480) ∧ (gb481 ≠ s_.2) ∧ (s_.2 ≠ gb481) ∧ (Below w.heap.size w w')) ?_ ?_
    rotate_left
    ·
     intro hJ5_7
     refine join_ (σ := Value) 4 #[y_, y_, y_, y_, y_, n_, n_, n_, n_] (fun s_ => [(9, s_)]) (fun s_ w' => (w'.cell? ⟨gb480, 0, none⟩ = some (.int .i64 a0_0) ∧ w'.cell? ⟨gb480, 1, none⟩ = some (.slice A0_1 l0_1.length c0_1) ∧ w'.cell? ⟨gb480, 2, none⟩ = some (.slice A0_2 l0_2.length c0_2)) ∧ (Kd.R (Kd.int .i64) 3 w' w.heap.size (fun _ => True) s_ y482) ∧ (w'.heap[gb480]? = some (.cells #[.int .i64 a0_0, .slice A0_1 l0_1.length c0_1, .slice A0_2 l0_2.length c0_2] 27 (0, 0))) ∧ (w'.heap[gb481]? = some (.cells #[.int .i64 0, .slice none 0 0, .slice none 0 0] 27 (0, 0))) ∧ (Below w.heap.size w w')) ?_ ?_
     rotate_left
     ·
      intro hJ2
      refine join_ (σ := Value) 4 #[y_, y_, n_, y_, y_, y_, n_, n_, n_] (fun s_ => [(12, s_)]) (fun s_ w' => (w'.cell? ⟨gb480, 0, none⟩ = some (.int .i64 a0_0) ∧ w'.cell? ⟨gb480, 1, none⟩ = some (.slice A0_1 l0_1.length c0_1) ∧ w'.cell? ⟨gb480, 2, none⟩ = some (.slice A0_2 l0_2.length c0_2)) ∧ (Kd.R (Kd.int .i64) 3 w' w.heap.size (fun _ => True) s_ t485) ∧ (w'.heap[gb480]? = some (.cells #[.int .i64 a0_0, .slice A0_1 l0_1.length c0_1, .slice A0_2 l0_2.length c0_2] 27 (0, 0))) ∧ (w'.heap[gb481]? = some (.cells #[.int .i64 0, .slice none 0 0, .slice none 0 0] 27 (0, 0))) ∧ (Below w.heap.size w w')) ?_ ?_
      rotate_left
      ·
       intro hJ5
       refine join_ (σ := Nat) 4 #[y_, y_, n_, y_, y_, n_, n_, y_, n_] (fun s_ => [(5, .pointer (some ⟨s_, 0, none⟩))]) (fun s_ w' => (w'.cell? ⟨gb480, 0, none⟩ = some (.int .i64 a0_0) ∧ w'.cell? ⟨gb480, 1, none⟩ = some (.slice A0_1 l0_1.length c0_1) ∧ w'.cell? ⟨gb480, 2, none⟩ = some (.slice A0_2 l0_2.length c0_2)) ∧ (w'.heap[gb480]? = some (.cells #[.int .i64 a0_0, .slice A0_1 l0_1.length c0_1, .slice A0_2 l0_2.length c0_2] 27 (0, 0))) ∧ (w'.heap[gb481]? = some (.cells #[.int .i64 0, .slice none 0 0, .slice none 0 0] 27 (0, 0))) ∧ (w'.heap[s_]? = some (.cells #[.int .i64 0, .slice none 0 0, .slice none 0 0] 27 (0, 0))) ∧ (w.heap.size ≤ s_) ∧ (w.heap.size ≤ s_) ∧ (gb480 ≠ s_) ∧ (s_ ≠ gb480) ∧ (gb481 ≠ s_) ∧ (s_ ≠ gb481) ∧ (Below w.heap.size w w')) ?_ ?_
       rotate_left
       ·
        intro hJ7
        refine three_ (i := 2) (j := 5) (k := 7) (Ni := some 9) (Nj := some 12) (Nk := some 5) #[y_, y_, y_, y_, y_, n_, n_, n_, n_] #[y_, y_, n_, y_, y_, y_, n_, n_, n_] #[y_, y_, n_, y_, y_, n_, n_, y_, n_] rfl rfl rfl rfl rfl rfl (three_of HT_.out (by kernel_rfl)) (by decide) (by decide) (by decide) (fun K hK => ?_) (fun K hK => ?_) (fun K hK => ?_)
        ·
         skip
         refine Kd.R_lit_step (Kd.int .i64) _ 3 ?hg (N := 9) ?hd (xs := ([] : List Int)) (inner := []) (ok := fun _ => True) (okp := fun _ => True) ?hr ?hp (fun _ hk => hk) trivial (Below.refl _ _) (Nat.le_refl _) (by simp) ?_; (case hd => rfl); (case hg => rfl); (case hr => first | (go_simp; done) | (go_simp; rfl)); (case hp => exact (Reps.none _ _))
         intro v483 w7 ho8 hb hg_ hnew_
         clear hg_ hnew_
         (first | rw [← Ny482.out] at ho8 | (simp only [Int.reduceToNat] at ho8; rw [← Ny482.out] at ho8))
         have HO484 := Aside0.mk (Kd.R_lower ho8 (below_size (tB HB.out)))
         replace BK480 := bkB BK480 hb
         replace BK481 := bkB BK481 hb
         replace HB := hB HB hb
         clear hb ho8
         refine hK.out _ _ ⟨(blk_cell BK480.out 0).trans rfl, (blk_cell BK480.out 1).trans rfl, (blk_cell BK480.out 2).trans rfl⟩ (fun hHeld => ?_)
         clear hK K
         refine norm_ (a' := ?_) ?_ ?_
         rotate_left
         ·
          show Act.put _ (some 9) _ = _
          simp only [Act.put, List.setIfInBounds_toArray, List.set_cons_zero, List.set_cons_succ, i64_w, i32_w]
          rfl
         exact norm_ (by first | (simp only [putAll, Act.put, List.setIfInBounds_toArray, List.set_cons_zero, List.set_cons_succ]; done) | (simp only [putAll, Act.put, List.setIfInBounds_toArray, List.set_cons_zero, List.set_cons_succ]; rfl)) (hJ2 (_) _ ⟨hHeld, (tR HO484.out), (tK BK480.out), (tK BK481.out), (tB HB.out)⟩)
        ·
         skip
         refine goes_ Try.func73 (by kernel_rfl) rfl #[.slice A0_2 l0_2.length c0_2] (by rfl) rfl rfl tM ?_
         with_reducible refine (spec_l1Own.calls _ _ l0_2 t485 _ ?side1 ?side2 A3.out).mono ?_
         (case side1 => exact cB HR0_2 HB)
         (case side2 => exact HC0_2.out)
         rintro e w7 ⟨v486, rfl, ho0, hb⟩
         refine ⟨_, rfl, ?_⟩
         have HO487 := Aside0.mk (Kd.R_lower ho0 (below_size (tB HB.out)))
         replace BK480 := bkB BK480 hb
         replace BK481 := bkB BK481 hb
         replace HB := hB HB hb
         (try clear hb); (try clear ho0)
         refine hK.out _ _ ⟨(blk_cell BK480.out 0).trans rfl, (blk_cell BK480.out 1).trans rfl, (blk_cell BK480.out 2).trans rfl⟩ (fun hHeld => ?_)
         clear hK K
         refine norm_ (a' := ?_) ?_ ?_
         rotate_left
         ·
          show Act.put _ (some 12) _ = _
          simp only [Act.put, List.setIfInBounds_toArray, List.set_cons_zero, List.set_cons_succ, i64_w, i32_w]
          rfl
         exact norm_ (by first | (simp only [putAll, Act.put, List.setIfInBounds_toArray, List.set_cons_zero, List.set_cons_succ]; done) | (simp only [putAll, Act.put, List.setIfInBounds_toArray, List.set_cons_zero, List.set_cons_succ]; rfl)) (hJ5 (_) _ ⟨hHeld, (tR HO487.out), (tK BK480.out), (tK BK481.out), (tB HB.out)⟩)
        ·
         skip
         refine box_step ?hg (N := 5) ?hd (cs := #[.int .i64 0, .slice none 0 0, .slice none 0 0]) (t := 27) ?hr ?_; (case hd => rfl); (case hg => rfl); (case hr => first | (go_simp; done) | (go_simp; rfl))
         intro gb488 hg w7 hbox hb
         have BK488 := Aside0.mk hbox
         have GW488 := Aside0.mk (bS HB.out hg)
         have GE488 := Aside0.mk (bS HB.out hg)
         replace HB := hB HB hb
         have NB480_488 := Aside0.mk (nL BK480.out hg)
         have NB488_480 := Aside0.mk (nG BK480.out hg)
         replace BK480 := bkB BK480 hb
         have NB481_488 := Aside0.mk (nL BK481.out hg)
         have NB488_481 := Aside0.mk (nG BK481.out hg)
         replace BK481 := bkB BK481 hb
         clear hb hbox hg
         refine hK.out _ _ ⟨(blk_cell BK480.out 0).trans rfl, (blk_cell BK480.out 1).trans rfl, (blk_cell BK480.out 2).trans rfl⟩ (fun hHeld => ?_)
         clear hK K
         refine norm_ (a' := ?_) ?_ ?_
         rotate_left
         ·
          show Act.put _ (some 5) _ = _
          simp only [Act.put, List.setIfInBounds_toArray, List.set_cons_zero, List.set_cons_succ, i64_w, i32_w]
          rfl
         exact norm_ (by first | (simp only [putAll, Act.put, List.setIfInBounds_toArray, List.set_cons_zero, List.set_cons_succ]; done) | (simp only [putAll, Act.put, List.setIfInBounds_toArray, List.set_cons_zero, List.set_cons_succ]; rfl)) (hJ7 (gb488) _ ⟨hHeld, (tK BK480.out), (tK BK481.out), (tK BK488.out), GW488.out, GE488.out, NB480_488.out, NB488_480.out, NB481_488.out, NB488_481.out, (tB HB.out)⟩)
       ·
        skip
        rintro gb488 w8 ⟨hS_, h0_, h1_, h2_, h3_, h4_, h5_, h6_, h7_, h8_, h9_⟩
        have n0_ : Aside0 (w8.heap[gb480]? = some (.cells #[.int .i64 a0_0, .slice A0_1 l0_1.length c0_1, .slice A0_2 l0_2.length c0_2] 27 (0, 0))) := ⟨h0_⟩
        have n1_ : Aside0 (w8.heap[gb481]? = some (.cells #[.int .i64 0, .slice none 0 0, .slice none 0 0] 27 (0, 0))) := ⟨h1_⟩
        have n2_ : Aside0 (w8.heap[gb488]? = some (.cells #[.int .i64 0, .slice none 0 0, .slice none 0 0] 27 (0, 0))) := ⟨h2_⟩
        have n3_ : Aside0 (w.heap.size ≤ gb488) := ⟨h3_⟩
        have n4_ : Aside0 (w.heap.size ≤ gb488) := ⟨h4_⟩
        have n5_ : Aside0 (gb480 ≠ gb488) := ⟨h5_⟩
        have n6_ : Aside0 (gb488 ≠ gb480) := ⟨h6_⟩
        have n7_ : Aside0 (gb481 ≠ gb488) := ⟨h7_⟩
        have n8_ : Aside0 (gb488 ≠ gb481) := ⟨h8_⟩
        have n9_ : Aside0 (Below w.heap.size w w8) := ⟨h9_⟩
        clear BK480
        clear BK481
        clear HB
        clear h0_ h1_ h2_ h3_ h4_ h5_ h6_ h7_ h8_ h9_
        have BK480 := n0_
        have BK481 := n1_
        have BK488 := n2_
        have GW488 := n3_
        have GE488 := n4_
        have NB480_488 := n5_
        have NB488_480 := n6_
        have NB481_488 := n7_
        have NB488_481 := n8_
        have HB := n9_
        clear n0_ n1_ n2_ n3_ n4_ n5_ n6_ n7_ n8_ n9_
        have hHeld : w8.cell? ⟨gb480, 0, none⟩ = some (.int .i64 a0_0) ∧ w8.cell? ⟨gb480, 1, none⟩ = some (.slice A0_1 l0_1.length c0_1) ∧ w8.cell? ⟨gb480, 2, none⟩ = some (.slice A0_2 l0_2.length c0_2) := hS_
        refine norm_ (a' := ?_) ?_ ?_
        rotate_left
        ·
         simp only [putAll, Act.put, List.setIfInBounds_toArray, List.set_cons_zero, List.set_cons_succ]
         rfl
        refine two_ (i := 2) (j := 5) (Ni := some 9) (Nj := some 12) #[y_, y_, y_, y_, y_, n_, n_, y_, n_] #[y_, y_, n_, y_, y_, y_, n_, y_, n_] rfl rfl rfl rfl (two_of HT_.out (by kernel_rfl)) (by decide) (by decide) (fun K hK => ?_) (fun K hK => ?_)
        ·
         skip
         refine Kd.R_lit_step (Kd.int .i64) _ 3 ?hg (N := 9) ?hd (xs := ([] : List Int)) (inner := []) (ok := fun _ => True) (okp := fun _ => True) ?hr ?hp (fun _ hk => hk) trivial (Below.refl _ _) (Nat.le_refl _) (by simp) ?_; (case hd => rfl); (case hg => rfl); (case hr => first | (go_simp; done) | (go_simp; rfl)); (case hp => exact (Reps.none _ _))
         intro v483 w9 ho10 hb hg_ hnew_
         clear hg_ hnew_
         (first | rw [← Ny482.out] at ho10 | (simp only [Int.reduceToNat] at ho10; rw [← Ny482.out] at ho10))
         have HO484 := Aside0.mk (Kd.R_lower ho10 (below_size (tB HB.out)))
         replace BK480 := bkB BK480 hb
         replace BK481 := bkB BK481 hb
         replace BK488 := bkB BK488 hb
         replace HB := hB HB hb
         clear hb ho10
         refine hK.out _ _ ⟨(blk_cell BK480.out 0).trans rfl, (blk_cell BK480.out 1).trans rfl, (blk_cell BK480.out 2).trans rfl⟩ (fun hHeld => ?_)
         clear hK K
         refine norm_ (a' := ?_) ?_ ?_
         rotate_left
         ·
          show Act.put _ (some 9) _ = _
          simp only [Act.put, List.setIfInBounds_toArray, List.set_cons_zero, List.set_cons_succ, i64_w, i32_w]
          rfl
         exact norm_ (by first | (simp only [putAll, Act.put, List.setIfInBounds_toArray, List.set_cons_zero, List.set_cons_succ]; done) | (simp only [putAll, Act.put, List.setIfInBounds_toArray, List.set_cons_zero, List.set_cons_succ]; rfl)) (hJ2_7 (_, gb488) _ ⟨hHeld, (tR HO484.out), (tK BK480.out), (tK BK481.out), (tK BK488.out), GW488.out, GE488.out, NB480_488.out, NB488_480.out, NB481_488.out, NB488_481.out, (tB HB.out)⟩)
        ·
         skip
         refine goes_ Try.func73 (by kernel_rfl) rfl #[.slice A0_2 l0_2.length c0_2] (by rfl) rfl rfl tM ?_
         with_reducible refine (spec_l1Own.calls _ _ l0_2 t485 _ ?side1 ?side2 A3.out).mono ?_
         (case side1 => exact cB HR0_2 HB)
         (case side2 => exact HC0_2.out)
         rintro e w9 ⟨v486, rfl, ho0, hb⟩
         refine ⟨_, rfl, ?_⟩
         have HO487 := Aside0.mk (Kd.R_lower ho0 (below_size (tB HB.out)))
         replace BK480 := bkB BK480 hb
         replace BK481 := bkB BK481 hb
         replace BK488 := bkB BK488 hb
         replace HB := hB HB hb
         (try clear hb); (try clear ho0)
         refine hK.out _ _ ⟨(blk_cell BK480.out 0).trans rfl, (blk_cell BK480.out 1).trans rfl, (blk_cell BK480.out 2).trans rfl⟩ (fun hHeld => ?_)
         clear hK K
         refine norm_ (a' := ?_) ?_ ?_
         rotate_left
         ·
          show Act.put _ (some 12) _ = _
          simp only [Act.put, List.setIfInBounds_toArray, List.set_cons_zero, List.set_cons_succ, i64_w, i32_w]
          rfl
         exact norm_ (by first | (simp only [putAll, Act.put, List.setIfInBounds_toArray, List.set_cons_zero, List.set_cons_succ]; done) | (simp only [putAll, Act.put, List.setIfInBounds_toArray, List.set_cons_zero, List.set_cons_succ]; rfl)) (hJ5_7 (_, gb488) _ ⟨hHeld, (tR HO487.out), (tK BK480.out), (tK BK481.out), (tK BK488.out), GW488.out, GE488.out, NB480_488.out, NB488_480.out, NB481_488.out, NB488_481.out, (tB HB.out)⟩)
      ·
       skip
       rintro v486 w8 ⟨hS_, h0_, h1_, h2_, h3_⟩
       have n0_ : Aside0 (Kd.R (Kd.int .i64) 3 w8 w.heap.size (fun _ => True) v486 t485) := ⟨h0_⟩
       have n1_ : Aside0 (w8.heap[gb480]? = some (.cells #[.int .i64 a0_0, .slice A0_1 l0_1.length c0_1, .slice A0_2 l0_2.length c0_2] 27 (0, 0))) := ⟨h1_⟩
       have n2_ : Aside0 (w8.heap[gb481]? = some (.cells #[.int .i64 0, .slice none 0 0, .slice none 0 0] 27 (0, 0))) := ⟨h2_⟩
       have n3_ : Aside0 (Below w.heap.size w w8) := ⟨h3_⟩
       clear BK480
       clear BK481
       clear HB
       clear h0_ h1_ h2_ h3_
       have HO487 := n0_
       have BK480 := n1_
       have BK481 := n2_
       have HB := n3_
       clear n0_ n1_ n2_ n3_
       have hHeld : w8.cell? ⟨gb480, 0, none⟩ = some (.int .i64 a0_0) ∧ w8.cell? ⟨gb480, 1, none⟩ = some (.slice A0_1 l0_1.length c0_1) ∧ w8.cell? ⟨gb480, 2, none⟩ = some (.slice A0_2 l0_2.length c0_2) := hS_
       refine norm_ (a' := ?_) ?_ ?_
       rotate_left
       ·
        simp only [putAll, Act.put, List.setIfInBounds_toArray, List.set_cons_zero, List.set_cons_succ]
        rfl
       refine two_ (i := 2) (j := 7) (Ni := some 9) (Nj := some 5) #[y_, y_, y_, y_, y_, y_, n_, n_, n_] #[y_, y_, n_, y_, y_, y_, n_, y_, n_] rfl rfl rfl rfl (two_of HT_.out (by kernel_rfl)) (by decide) (by decide) (fun K hK => ?_) (fun K hK => ?_)
       ·
        skip
        refine Kd.R_lit_step (Kd.int .i64) _ 3 ?hg (N := 9) ?hd (xs := ([] : List Int)) (inner := []) (ok := fun _ => True) (okp := fun _ => True) ?hr ?hp (fun _ hk => hk) trivial (Below.refl _ _) (Nat.le_refl _) (by simp) ?_; (case hd => rfl); (case hg => rfl); (case hr => first | (go_simp; done) | (go_simp; rfl)); (case hp => exact (Reps.none _ _))
        intro v483 w9 ho10 hb hg_ hnew_
        clear hg_ hnew_
        (first | rw [← Ny482.out] at ho10 | (simp only [Int.reduceToNat] at ho10; rw [← Ny482.out] at ho10))
        have HO484 := Aside0.mk (Kd.R_lower (Kd.R_new' ho10 (Kd.R_lt (tR HO487.out))) (below_size (tB HB.out)))
        replace HO487 := Aside0.mk (Kd.R_elder' (tR HO487.out) (Kd.R_base ho10) hb)
        replace BK480 := bkB BK480 hb
        replace BK481 := bkB BK481 hb
        replace HB := hB HB hb
        clear hb ho10
        obtain ⟨Ao11, co11, eo11⟩ := Kd.R_slice HO487.out
        (first | subst eo11 | (injection eo11 with f1_ f2_ f3_; have f4_ := f1_.symm; have f5_ := f3_.symm; clear f1_ f2_ f3_; subst f4_; subst f5_))
        obtain ⟨Ao12, co12, eo12⟩ := Kd.R_slice HO484.out
        (first | subst eo12 | (injection eo12 with f1_ f2_ f3_; have f4_ := f1_.symm; have f5_ := f3_.symm; clear f1_ f2_ f3_; subst f4_; subst f5_))
        refine hK.out _ _ ⟨(blk_cell BK480.out 0).trans rfl, (blk_cell BK480.out 1).trans rfl, (blk_cell BK480.out 2).trans rfl⟩ (fun hHeld => ?_)
        clear hK K
        refine norm_ (a' := ?_) ?_ ?_
        rotate_left
        ·
         show Act.put _ (some 9) _ = _
         simp only [Act.put, List.setIfInBounds_toArray, List.set_cons_zero, List.set_cons_succ, i64_w, i32_w]
         rfl
        refine pu 6 (some 13) #[y_, y_, y_, y_, y_, y_, y_, n_, n_] (any_of HT_.out (by kernel_rfl)) ?_
        exact norm_ (by first | (simp only [putAll, Act.put, List.setIfInBounds_toArray, List.set_cons_zero, List.set_cons_succ]; done) | (simp only [putAll, Act.put, List.setIfInBounds_toArray, List.set_cons_zero, List.set_cons_succ]; rfl)) (hJ2_5 (.slice Ao12 y482.length co12, .slice Ao11 t485.length co11) _ ⟨hHeld, (by (with_reducible repeat (first | apply Kd.R_alloc | apply Kd.R_drewN | apply Kd.R_drew)); exact Kd.R_mono HO484.out (fun _ hk => hk.2)), (by (with_reducible repeat (first | apply Kd.R_alloc | apply Kd.R_drewN | apply Kd.R_drew)); exact Kd.R_mono HO487.out (fun _ hk => hk.2)), (tK BK480.out), (tK BK481.out), (tB HB.out)⟩)
       ·
        skip
        refine box_step ?hg (N := 5) ?hd (cs := #[.int .i64 0, .slice none 0 0, .slice none 0 0]) (t := 27) ?hr ?_; (case hd => rfl); (case hg => rfl); (case hr => first | (go_simp; done) | (go_simp; rfl))
        intro gb488 hg w9 hbox hb
        replace HO487 := rB HO487 hb
        have BK488 := Aside0.mk hbox
        have GW488 := Aside0.mk (bS HB.out hg)
        have GE488 := Aside0.mk (bS HB.out hg)
        replace HB := hB HB hb
        have NB480_488 := Aside0.mk (nL BK480.out hg)
        have NB488_480 := Aside0.mk (nG BK480.out hg)
        replace BK480 := bkB BK480 hb
        have NB481_488 := Aside0.mk (nL BK481.out hg)
        have NB488_481 := Aside0.mk (nG BK481.out hg)
        replace BK481 := bkB BK481 hb
        clear hb hbox hg
        refine hK.out _ _ ⟨(blk_cell BK480.out 0).trans rfl, (blk_cell BK480.out 1).trans rfl, (blk_cell BK480.out 2).trans rfl⟩ (fun hHeld => ?_)
        clear hK K
        refine norm_ (a' := ?_) ?_ ?_
        rotate_left
        ·
         show Act.put _ (some 5) _ = _
         simp only [Act.put, List.setIfInBounds_toArray, List.set_cons_zero, List.set_cons_succ, i64_w, i32_w]
         rfl
        exact norm_ (by first | (simp only [putAll, Act.put, List.setIfInBounds_toArray, List.set_cons_zero, List.set_cons_succ]; done) | (simp only [putAll, Act.put, List.setIfInBounds_toArray, List.set_cons_zero, List.set_cons_succ]; rfl)) (hJ5_7 (_, gb488) _ ⟨hHeld, (tR HO487.out), (tK BK480.out), (tK BK481.out), (tK BK488.out), GW488.out, GE488.out, NB480_488.out, NB488_480.out, NB481_488.out, NB488_481.out, (tB HB.out)⟩)
     ·
      skip
      rintro v483 w9 ⟨hS_, h0_, h1_, h2_, h3_⟩
      have n0_ : Aside0 (Kd.R (Kd.int .i64) 3 w9 w.heap.size (fun _ => True) v483 y482) := ⟨h0_⟩
      have n1_ : Aside0 (w9.heap[gb480]? = some (.cells #[.int .i64 a0_0, .slice A0_1 l0_1.length c0_1, .slice A0_2 l0_2.length c0_2] 27 (0, 0))) := ⟨h1_⟩
      have n2_ : Aside0 (w9.heap[gb481]? = some (.cells #[.int .i64 0, .slice none 0 0, .slice none 0 0] 27 (0, 0))) := ⟨h2_⟩
      have n3_ : Aside0 (Below w.heap.size w w9) := ⟨h3_⟩
      clear BK480
      clear BK481
      clear HB
      clear h0_ h1_ h2_ h3_
      have HO484 := n0_
      have BK480 := n1_
      have BK481 := n2_
      have HB := n3_
      clear n0_ n1_ n2_ n3_
      have hHeld : w9.cell? ⟨gb480, 0, none⟩ = some (.int .i64 a0_0) ∧ w9.cell? ⟨gb480, 1, none⟩ = some (.slice A0_1 l0_1.length c0_1) ∧ w9.cell? ⟨gb480, 2, none⟩ = some (.slice A0_2 l0_2.length c0_2) := hS_
      refine norm_ (a' := ?_) ?_ ?_
      rotate_left
      ·
       simp only [putAll, Act.put, List.setIfInBounds_toArray, List.set_cons_zero, List.set_cons_succ]
       rfl
      refine two_ (i := 5) (j := 7) (Ni := some 12) (Nj := some 5) #[y_, y_, y_, y_, y_, y_, n_, n_, n_] #[y_, y_, y_, y_, y_, n_, n_, y_, n_] rfl rfl rfl rfl (two_of HT_.out (by kernel_rfl)) (by decide) (by decide) (fun K hK => ?_) (fun K hK => ?_)
      ·
       skip
       refine goes_ Try.func73 (by kernel_rfl) rfl #[.slice A0_2 l0_2.length c0_2] (by rfl) rfl rfl tM ?_
       with_reducible refine (spec_l1Own.calls _ _ l0_2 t485 _ ?side1 ?side2 A3.out).mono ?_
       (case side1 => exact cB HR0_2 HB)
       (case side2 => exact HC0_2.out)
       rintro e w10 ⟨v486, rfl, ho0, hb⟩
       refine ⟨_, rfl, ?_⟩
       have HO487 := Aside0.mk (Kd.R_lower (Kd.R_new' ho0 (Kd.R_lt (tR HO484.out))) (below_size (tB HB.out)))
       replace HO484 := Aside0.mk (Kd.R_elder' (tR HO484.out) (Kd.R_base ho0) hb)
       replace BK480 := bkB BK480 hb
       replace BK481 := bkB BK481 hb
       replace HB := hB HB hb
       (try clear hb); (try clear ho0)
       obtain ⟨Ao11, co11, eo11⟩ := Kd.R_slice HO487.out
       (first | subst eo11 | (injection eo11 with f1_ f2_ f3_; have f4_ := f1_.symm; have f5_ := f3_.symm; clear f1_ f2_ f3_; subst f4_; subst f5_))
       obtain ⟨Ao12, co12, eo12⟩ := Kd.R_slice HO484.out
       (first | subst eo12 | (injection eo12 with f1_ f2_ f3_; have f4_ := f1_.symm; have f5_ := f3_.symm; clear f1_ f2_ f3_; subst f4_; subst f5_))
       refine hK.out _ _ ⟨(blk_cell BK480.out 0).trans rfl, (blk_cell BK480.out 1).trans rfl, (blk_cell BK480.out 2).trans rfl⟩ (fun hHeld => ?_)
       clear hK K
       refine norm_ (a' := ?_) ?_ ?_
       rotate_left
       ·
        show Act.put _ (some 12) _ = _
        simp only [Act.put, List.setIfInBounds_toArray, List.set_cons_zero, List.set_cons_succ, i64_w, i32_w]
        rfl
       refine pu 6 (some 13) #[y_, y_, y_, y_, y_, y_, y_, n_, n_] (any_of HT_.out (by kernel_rfl)) ?_
       exact norm_ (by first | (simp only [putAll, Act.put, List.setIfInBounds_toArray, List.set_cons_zero, List.set_cons_succ]; done) | (simp only [putAll, Act.put, List.setIfInBounds_toArray, List.set_cons_zero, List.set_cons_succ]; rfl)) (hJ2_5 (.slice Ao12 y482.length co12, .slice Ao11 t485.length co11) _ ⟨hHeld, (by (with_reducible repeat (first | apply Kd.R_alloc | apply Kd.R_drewN | apply Kd.R_drew)); exact Kd.R_mono HO484.out (fun _ hk => hk.2)), (by (with_reducible repeat (first | apply Kd.R_alloc | apply Kd.R_drewN | apply Kd.R_drew)); exact Kd.R_mono HO487.out (fun _ hk => hk.2)), (tK BK480.out), (tK BK481.out), (tB HB.out)⟩)
      ·
       skip
       refine box_step ?hg (N := 5) ?hd (cs := #[.int .i64 0, .slice none 0 0, .slice none 0 0]) (t := 27) ?hr ?_; (case hd => rfl); (case hg => rfl); (case hr => first | (go_simp; done) | (go_simp; rfl))
       intro gb488 hg w10 hbox hb
       replace HO484 := rB HO484 hb
       have BK488 := Aside0.mk hbox
       have GW488 := Aside0.mk (bS HB.out hg)
       have GE488 := Aside0.mk (bS HB.out hg)
       replace HB := hB HB hb
       have NB480_488 := Aside0.mk (nL BK480.out hg)
       have NB488_480 := Aside0.mk (nG BK480.out hg)
       replace BK480 := bkB BK480 hb
       have NB481_488 := Aside0.mk (nL BK481.out hg)
       have NB488_481 := Aside0.mk (nG BK481.out hg)
       replace BK481 := bkB BK481 hb
       clear hb hbox hg
       refine hK.out _ _ ⟨(blk_cell BK480.out 0).trans rfl, (blk_cell BK480.out 1).trans rfl, (blk_cell BK480.out 2).trans rfl⟩ (fun hHeld => ?_)
       clear hK K
       refine norm_ (a' := ?_) ?_ ?_
       rotate_left
       ·
        show Act.put _ (some 5) _ = _
        simp only [Act.put, List.setIfInBounds_toArray, List.set_cons_zero, List.set_cons_succ, i64_w, i32_w]
        rfl
       exact norm_ (by first | (simp only [putAll, Act.put, List.setIfInBounds_toArray, List.set_cons_zero, List.set_cons_succ]; done) | (simp only [putAll, Act.put, List.setIfInBounds_toArray, List.set_cons_zero, List.set_cons_succ]; rfl)) (hJ2_7 (_, gb488) _ ⟨hHeld, (tR HO484.out), (tK BK480.out), (tK BK481.out), (tK BK488.out), GW488.out, GE488.out, NB480_488.out, NB488_480.out, NB481_488.out, NB488_481.out, (tB HB.out)⟩)
    ·
     skip
     rintro ⟨v486, gb488⟩ w9 ⟨hS_, h0_, h1_, h2_, h3_, h4_, h5_, h6_, h7_, h8_, h9_, h10_⟩
     have n0_ : Aside0 (Kd.R (Kd.int .i64) 3 w9 w.heap.size (fun _ => True) v486 t485) := ⟨h0_⟩
     have n1_ : Aside0 (w9.heap[gb480]? = some (.cells #[.int .i64 a0_0, .slice A0_1 l0_1.length c0_1, .slice A0_2 l0_2.length c0_2] 27 (0, 0))) := ⟨h1_⟩
     have n2_ : Aside0 (w9.heap[gb481]? = some (.cells #[.int .i64 0, .slice none 0 0, .slice none 0 0] 27 (0, 0))) := ⟨h2_⟩
     have n3_ : Aside0 (w9.heap[gb488]? = some (.cells #[.int .i64 0, .slice none 0 0, .slice none 0 0] 27 (0, 0))) := ⟨h3_⟩
     have n4_ : Aside0 (w.heap.size ≤ gb488) := ⟨h4_⟩
     have n5_ : Aside0 (w.heap.size ≤ gb488) := ⟨h5_⟩
     have n6_ : Aside0 (gb480 ≠ gb488) := ⟨h6_⟩
     have n7_ : Aside0 (gb488 ≠ gb480) := ⟨h7_⟩
     have n8_ : Aside0 (gb481 ≠ gb488) := ⟨h8_⟩
     have n9_ : Aside0 (gb488 ≠ gb481) := ⟨h9_⟩
     have n10_ : Aside0 (Below w.heap.size w w9) := ⟨h10_⟩
     clear BK480
     clear BK481
     clear HB
     clear h0_ h1_ h2_ h3_ h4_ h5_ h6_ h7_ h8_ h9_ h10_
     have HO487 := n0_
     have BK480 := n1_
     have BK481 := n2_
     have BK488 := n3_
     have GW488 := n4_
     have GE488 := n5_
     have NB480_488 := n6_
     have NB488_480 := n7_
     have NB481_488 := n8_
     have NB488_481 := n9_
     have HB := n10_
     clear n0_ n1_ n2_ n3_ n4_ n5_ n6_ n7_ n8_ n9_ n10_
     have hHeld : w9.cell? ⟨gb480, 0, none⟩ = some (.int .i64 a0_0) ∧ w9.cell? ⟨gb480, 1, none⟩ = some (.slice A0_1 l0_1.length c0_1) ∧ w9.cell? ⟨gb480, 2, none⟩ = some (.slice A0_2 l0_2.length c0_2) := hS_
     refine norm_ (a' := ?_) ?_ ?_
     rotate_left
     ·
      simp only [putAll, Act.put, List.setIfInBounds_toArray, List.set_cons_zero, List.set_cons_succ]
      rfl
     refine one_ (i := 2) (N := some 9) #[y_, y_, y_, y_, y_, y_, n_, y_, n_] rfl rfl (one_of HT_.out (by kernel_rfl)) (by decide) (fun K hK => ?_)
     refine Kd.R_lit_step (Kd.int .i64) _ 3 ?hg (N := 9) ?hd (xs := ([] : List Int)) (inner := []) (ok := fun _ => True) (okp := fun _ => True) ?hr ?hp (fun _ hk => hk) trivial (Below.refl _ _) (Nat.le_refl _) (by simp) ?_; (case hd => rfl); (case hg => rfl); (case hr => first | (go_simp; done) | (go_simp; rfl)); (case hp => exact (Reps.none _ _))
     intro v483 w10 ho11 hb hg_ hnew_
     clear hg_ hnew_
     (first | rw [← Ny482.out] at ho11 | (simp only [Int.reduceToNat] at ho11; rw [← Ny482.out] at ho11))
     have HO484 := Aside0.mk (Kd.R_lower (Kd.R_new' ho11 (Kd.R_lt (tR HO487.out))) (below_size (tB HB.out)))
     replace HO487 := Aside0.mk (Kd.R_elder' (tR HO487.out) (Kd.R_base ho11) hb)
     replace BK480 := bkB BK480 hb
     replace BK481 := bkB BK481 hb
     replace BK488 := bkB BK488 hb
     replace HB := hB HB hb
     clear hb ho11
     obtain ⟨Ao12, co12, eo12⟩ := Kd.R_slice HO487.out
     (first | subst eo12 | (injection eo12 with f1_ f2_ f3_; have f4_ := f1_.symm; have f5_ := f3_.symm; clear f1_ f2_ f3_; subst f4_; subst f5_))
     obtain ⟨Ao13, co13, eo13⟩ := Kd.R_slice HO484.out
     (first | subst eo13 | (injection eo13 with f1_ f2_ f3_; have f4_ := f1_.symm; have f5_ := f3_.symm; clear f1_ f2_ f3_; subst f4_; subst f5_))
     refine hK.out _ _ ⟨(blk_cell BK480.out 0).trans rfl, (blk_cell BK480.out 1).trans rfl, (blk_cell BK480.out 2).trans rfl⟩ (fun hHeld => ?_)
     clear hK K
     refine norm_ (a' := ?_) ?_ ?_
     rotate_left
     ·
      show Act.put _ (some 9) _ = _
      simp only [Act.put, List.setIfInBounds_toArray, List.set_cons_zero, List.set_cons_succ, i64_w, i32_w]
      rfl
     refine pu 6 (some 13) #[y_, y_, y_, y_, y_, y_, y_, y_, n_] (any_of HT_.out (by kernel_rfl)) ?_
     exact norm_ (by first | (simp only [putAll, Act.put, List.setIfInBounds_toArray, List.set_cons_zero, List.set_cons_succ]; done) | (simp only [putAll, Act.put, List.setIfInBounds_toArray, List.set_cons_zero, List.set_cons_succ]; rfl)) (hJ2_5_7 (.slice Ao13 y482.length co13, .slice Ao12 t485.length co12, gb488) _ ⟨hHeld, (by (with_reducible repeat (first | apply Kd.R_alloc | apply Kd.R_drewN | apply Kd.R_drew)); exact Kd.R_mono HO484.out (fun _ hk => hk.2)), (by (with_reducible repeat (first | apply Kd.R_alloc | apply Kd.R_drewN | apply Kd.R_drew)); exact Kd.R_mono HO487.out (fun _ hk => hk.2)), (tK BK480.out), (tK BK481.out), (tK BK488.out), GW488.out, GE488.out, NB480_488.out, NB488_480.out, NB481_488.out, NB488_481.out, (tB HB.out)⟩)
   ·
    skip
    rintro ⟨v483, gb488⟩ w10 ⟨hS_, h0_, h1_, h2_, h3_, h4_, h5_, h6_, h7_, h8_, h9_, h10_⟩
    have n0_ : Aside0 (Kd.R (Kd.int .i64) 3 w10 w.heap.size (fun _ => True) v483 y482) := ⟨h0_⟩
    have n1_ : Aside0 (w10.heap[gb480]? = some (.cells #[.int .i64 a0_0, .slice A0_1 l0_1.length c0_1, .slice A0_2 l0_2.length c0_2] 27 (0, 0))) := ⟨h1_⟩
    have n2_ : Aside0 (w10.heap[gb481]? = some (.cells #[.int .i64 0, .slice none 0 0, .slice none 0 0] 27 (0, 0))) := ⟨h2_⟩
    have n3_ : Aside0 (w10.heap[gb488]? = some (.cells #[.int .i64 0, .slice none 0 0, .slice none 0 0] 27 (0, 0))) := ⟨h3_⟩
    have n4_ : Aside0 (w.heap.size ≤ gb488) := ⟨h4_⟩
    have n5_ : Aside0 (w.heap.size ≤ gb488) := ⟨h5_⟩
    have n6_ : Aside0 (gb480 ≠ gb488) := ⟨h6_⟩
    have n7_ : Aside0 (gb488 ≠ gb480) := ⟨h7_⟩
    have n8_ : Aside0 (gb481 ≠ gb488) := ⟨h8_⟩
    have n9_ : Aside0 (gb488 ≠ gb481) := ⟨h9_⟩
    have n10_ : Aside0 (Below w.heap.size w w10) := ⟨h10_⟩
    clear BK480
    clear BK481
    clear HB
    clear h0_ h1_ h2_ h3_ h4_ h5_ h6_ h7_ h8_ h9_ h10_
    have HO484 := n0_
    have BK480 := n1_
    have BK481 := n2_
    have BK488 := n3_
    have GW488 := n4_
    have GE488 := n5_
    have NB480_488 := n6_
    have NB488_480 := n7_
    have NB481_488 := n8_
    have NB488_481 := n9_
    have HB := n10_
    clear n0_ n1_ n2_ n3_ n4_ n5_ n6_ n7_ n8_ n9_ n10_
    have hHeld : w10.cell? ⟨gb480, 0, none⟩ = some (.int .i64 a0_0) ∧ w10.cell? ⟨gb480, 1, none⟩ = some (.slice A0_1 l0_1.length c0_1) ∧ w10.cell? ⟨gb480, 2, none⟩ = some (.slice A0_2 l0_2.length c0_2) := hS_
    refine norm_ (a' := ?_) ?_ ?_
    rotate_left
    ·
     simp only [putAll, Act.put, List.setIfInBounds_toArray, List.set_cons_zero, List.set_cons_succ]
     rfl
    refine one_ (i := 5) (N := some 12) #[y_, y_, y_, y_, y_, y_, n_, y_, n_] rfl rfl (one_of HT_.out (by kernel_rfl)) (by decide) (fun K hK => ?_)
    refine goes_ Try.func73 (by kernel_rfl) rfl #[.slice A0_2 l0_2.length c0_2] (by rfl) rfl rfl tM ?_
    with_reducible refine (spec_l1Own.calls _ _ l0_2 t485 _ ?side1 ?side2 A3.out).mono ?_
    (case side1 => exact cB HR0_2 HB)
    (case side2 => exact HC0_2.out)
    rintro e w11 ⟨v486, rfl, ho0, hb⟩
    refine ⟨_, rfl, ?_⟩
    have HO487 := Aside0.mk (Kd.R_lower (Kd.R_new' ho0 (Kd.R_lt (tR HO484.out))) (below_size (tB HB.out)))
    replace HO484 := Aside0.mk (Kd.R_elder' (tR HO484.out) (Kd.R_base ho0) hb)
    replace BK480 := bkB BK480 hb
    replace BK481 := bkB BK481 hb
    replace BK488 := bkB BK488 hb
    replace HB := hB HB hb
    (try clear hb); (try clear ho0)
    obtain ⟨Ao12, co12, eo12⟩ := Kd.R_slice HO487.out
    (first | subst eo12 | (injection eo12 with f1_ f2_ f3_; have f4_ := f1_.symm; have f5_ := f3_.symm; clear f1_ f2_ f3_; subst f4_; subst f5_))
    obtain ⟨Ao13, co13, eo13⟩ := Kd.R_slice HO484.out
    (first | subst eo13 | (injection eo13 with f1_ f2_ f3_; have f4_ := f1_.symm; have f5_ := f3_.symm; clear f1_ f2_ f3_; subst f4_; subst f5_))
    refine hK.out _ _ ⟨(blk_cell BK480.out 0).trans rfl, (blk_cell BK480.out 1).trans rfl, (blk_cell BK480.out 2).trans rfl⟩ (fun hHeld => ?_)
    clear hK K
    refine norm_ (a' := ?_) ?_ ?_
    rotate_left
    ·
     show Act.put _ (some 12) _ = _
     simp only [Act.put, List.setIfInBounds_toArray, List.set_cons_zero, List.set_cons_succ, i64_w, i32_w]
     rfl
    refine pu 6 (some 13) #[y_, y_, y_, y_, y_, y_, y_, y_, n_] (any_of HT_.out (by kernel_rfl)) ?_
    exact norm_ (by first | (simp only [putAll, Act.put, List.setIfInBounds_toArray, List.set_cons_zero, List.set_cons_succ]; done) | (simp only [putAll, Act.put, List.setIfInBounds_toArray, List.set_cons_zero, List.set_cons_succ]; rfl)) (hJ2_5_7 (.slice Ao13 y482.length co13, .slice Ao12 t485.length co12, gb488) _ ⟨hHeld, (by (with_reducible repeat (first | apply Kd.R_alloc | apply Kd.R_drewN | apply Kd.R_drew)); exact Kd.R_mono HO484.out (fun _ hk => hk.2)), (by (with_reducible repeat (first | apply Kd.R_alloc | apply Kd.R_drewN | apply Kd.R_drew)); exact Kd.R_mono HO487.out (fun _ hk => hk.2)), (tK BK480.out), (tK BK481.out), (tK BK488.out), GW488.out, GE488.out, NB480_488.out, NB488_480.out, NB481_488.out, NB488_481.out, (tB HB.out)⟩)
  ·
   skip
   rintro ⟨v483, v486⟩ w12 ⟨hS_, h0_, h1_, h2_, h3_, h4_⟩
   have n0_ : Aside0 (Kd.R (Kd.int .i64) 3 w12 w.heap.size (fun k_ => some k_ ≠ (v486 : Value).ownBlock) v483 y482) := ⟨h0_⟩
   have n1_ : Aside0 (Kd.R (Kd.int .i64) 3 w12 w.heap.size (fun k_ => some k_ ≠ (v483 : Value).ownBlock) v486 t485) := ⟨h1_⟩
   have n2_ : Aside0 (w12.heap[gb480]? = some (.cells #[.int .i64 a0_0, .slice A0_1 l0_1.length c0_1, .slice A0_2 l0_2.length c0_2] 27 (0, 0))) := ⟨h2_⟩
   have n3_ : Aside0 (w12.heap[gb481]? = some (.cells #[.int .i64 0, .slice none 0 0, .slice none 0 0] 27 (0, 0))) := ⟨h3_⟩
   have n4_ : Aside0 (Below w.heap.size w w12) := ⟨h4_⟩
   clear BK480
   clear BK481
   clear HB
   clear h0_ h1_ h2_ h3_ h4_
   have HO484 := n0_
   have HO487 := n1_
   have BK480 := n2_
   have BK481 := n3_
   have HB := n4_
   clear n0_ n1_ n2_ n3_ n4_
   have hHeld : w12.cell? ⟨gb480, 0, none⟩ = some (.int .i64 a0_0) ∧ w12.cell? ⟨gb480, 1, none⟩ = some (.slice A0_1 l0_1.length c0_1) ∧ w12.cell? ⟨gb480, 2, none⟩ = some (.slice A0_2 l0_2.length c0_2) := hS_
   obtain ⟨Ao13, co13, eo13⟩ := Kd.R_slice HO487.out
   (first | subst eo13 | (injection eo13 with f1_ f2_ f3_; have f4_ := f1_.symm; have f5_ := f3_.symm; clear f1_ f2_ f3_; subst f4_; subst f5_))
   obtain ⟨Ao14, co14, eo14⟩ := Kd.R_slice HO484.out
   (first | subst eo14 | (injection eo14 with f1_ f2_ f3_; have f4_ := f1_.symm; have f5_ := f3_.symm; clear f1_ f2_ f3_; subst f4_; subst f5_))
   refine norm_ (a' := ?_) ?_ ?_
   rotate_left
   ·
    simp only [putAll, Act.put, List.setIfInBounds_toArray, List.set_cons_zero, List.set_cons_succ]
    rfl
   refine one_ (i := 7) (N := some 5) #[y_, y_, y_, y_, y_, y_, y_, y_, n_] rfl rfl (one_of HT_.out (by kernel_rfl)) (by decide) (fun K hK => ?_)
   refine box_step ?hg (N := 5) ?hd (cs := #[.int .i64 0, .slice none 0 0, .slice none 0 0]) (t := 27) ?hr ?_; (case hd => rfl); (case hg => rfl); (case hr => first | (go_simp; done) | (go_simp; rfl))
   intro gb488 hg w15 hbox hb
   replace HO484 := rB HO484 hb
   replace HO487 := rB HO487 hb
   have BK488 := Aside0.mk hbox
   have GW488 := Aside0.mk (bS HB.out hg)
   have GE488 := Aside0.mk (bS HB.out hg)
   replace HB := hB HB hb
   have NB480_488 := Aside0.mk (nL BK480.out hg)
   have NB488_480 := Aside0.mk (nG BK480.out hg)
   replace BK480 := bkB BK480 hb
   have NB481_488 := Aside0.mk (nL BK481.out hg)
   have NB488_481 := Aside0.mk (nG BK481.out hg)
   replace BK481 := bkB BK481 hb
   clear hb hbox hg
   refine hK.out _ _ ⟨(blk_cell BK480.out 0).trans rfl, (blk_cell BK480.out 1).trans rfl, (blk_cell BK480.out 2).trans rfl⟩ (fun hHeld => ?_)
   clear hK K
   refine norm_ (a' := ?_) ?_ ?_
   rotate_left
   ·
    show Act.put _ (some 5) _ = _
    simp only [Act.put, List.setIfInBounds_toArray, List.set_cons_zero, List.set_cons_succ, i64_w, i32_w]
    rfl
   exact norm_ (by first | (simp only [putAll, Act.put, List.setIfInBounds_toArray, List.set_cons_zero, List.set_cons_succ]; done) | (simp only [putAll, Act.put, List.setIfInBounds_toArray, List.set_cons_zero, List.set_cons_succ]; rfl)) (hJ2_5_7 (.slice Ao14 y482.length co14, .slice Ao13 t485.length co13, gb488) _ ⟨hHeld, (tR HO484.out), (tR HO487.out), (tK BK480.out), (tK BK481.out), (tK BK488.out), GW488.out, GE488.out, NB480_488.out, NB488_480.out, NB481_488.out, NB488_481.out, (tB HB.out)⟩)
 rintro ⟨v483, v486, gb488⟩ w13 ⟨hS_, h0_, h1_, h2_, h3_, h4_, h5_, h6_, h7_, h8_, h9_, h10_, h11_⟩
 have n0_ : Aside0 (Kd.R (Kd.int .i64) 3 w13 w.heap.size (fun k_ => some k_ ≠ (v486 : Value).ownBlock) v483 y482) := ⟨h0_⟩
 have n1_ : Aside0 (Kd.R (Kd.int .i64) 3 w13 w.heap.size (fun k_ => some k_ ≠ (v483 : Value).ownBlock) v486 t485) := ⟨h1_⟩
 have n2_ : Aside0 (w13.heap[gb480]? = some (.cells #[.int .i64 a0_0, .slice A0_1 l0_1.length c0_1, .slice A0_2 l0_2.length c0_2] 27 (0, 0))) := ⟨h2_⟩
 have n3_ : Aside0 (w13.heap[gb481]? = some (.cells #[.int .i64 0, .slice none 0 0, .slice none 0 0] 27 (0, 0))) := ⟨h3_⟩
 have n4_ : Aside0 (w13.heap[gb488]? = some (.cells #[.int .i64 0, .slice none 0 0, .slice none 0 0] 27 (0, 0))) := ⟨h4_⟩
 have n5_ : Aside0 (w.heap.size ≤ gb488) := ⟨h5_⟩
 have n6_ : Aside0 (w.heap.size ≤ gb488) := ⟨h6_⟩
 have n7_ : Aside0 (gb480 ≠ gb488) := ⟨h7_⟩
 have n8_ : Aside0 (gb488 ≠ gb480) := ⟨h8_⟩
 have n9_ : Aside0 (gb481 ≠ gb488) := ⟨h9_⟩
 have n10_ : Aside0 (gb488 ≠ gb481) := ⟨h10_⟩
 have n11_ : Aside0 (Below w.heap.size w w13) := ⟨h11_⟩
 clear BK480
 clear BK481
 clear HB
 clear h0_ h1_ h2_ h3_ h4_ h5_ h6_ h7_ h8_ h9_ h10_ h11_
 have HO484 := n0_
 have HO487 := n1_
 have BK480 := n2_
 have BK481 := n3_
 have BK488 := n4_
 have GW488 := n5_
 have GE488 := n6_
 have NB480_488 := n7_
 have NB488_480 := n8_
 have NB481_488 := n9_
 have NB488_481 := n10_
 have HB := n11_
 clear n0_ n1_ n2_ n3_ n4_ n5_ n6_ n7_ n8_ n9_ n10_ n11_
 have hHeld : w13.cell? ⟨gb480, 0, none⟩ = some (.int .i64 a0_0) ∧ w13.cell? ⟨gb480, 1, none⟩ = some (.slice A0_1 l0_1.length c0_1) ∧ w13.cell? ⟨gb480, 2, none⟩ = some (.slice A0_2 l0_2.length c0_2) := hS_
 obtain ⟨Ao14, co14, eo14⟩ := Kd.R_slice HO487.out
 (first | subst eo14 | (injection eo14 with f1_ f2_ f3_; have f4_ := f1_.symm; have f5_ := f3_.symm; clear f1_ f2_ f3_; subst f4_; subst f5_))
 obtain ⟨Ao15, co15, eo15⟩ := Kd.R_slice HO484.out
 (first | subst eo15 | (injection eo15 with f1_ f2_ f3_; have f4_ := f1_.symm; have f5_ := f3_.symm; clear f1_ f2_ f3_; subst f4_; subst f5_))
 refine norm_ (a' := ?_) ?_ ?_
 rotate_left
 ·
  simp only [putAll, Act.put, List.setIfInBounds_toArray, List.set_cons_zero, List.set_cons_succ]
  rfl
 refine one_ (i := 8) (N := none) #[y_, y_, y_, y_, y_, y_, y_, y_, y_] rfl rfl (one_of HT_.out (by kernel_rfl)) (by decide) (fun K hK => ?_)
 have hs16 : w13.cell? ⟨gb488, 0, none⟩ = some (.int .i64 0) := (blk_cell BK488.out 0).trans rfl
 have hfs16 := blk_frozen BK488.out 0
 have hns16_0 := NB480_488.out
 have hns16_1 := NB481_488.out
 have hms16_0 := NB488_480.out
 have hms16_1 := NB488_481.out
 have hs17 : w13.cell? ⟨gb488, 1, none⟩ = some (.slice none 0 0) := (blk_cell BK488.out 1).trans rfl
 have hfs17 := blk_frozen BK488.out 1
 have hns17_0 := NB480_488.out
 have hns17_1 := NB481_488.out
 have hms17_0 := NB488_480.out
 have hms17_1 := NB488_481.out
 have hs18 : w13.cell? ⟨gb488, 2, none⟩ = some (.slice none 0 0) := (blk_cell BK488.out 2).trans rfl
 have hfs18 := blk_frozen BK488.out 2
 have hns18_0 := NB480_488.out
 have hns18_1 := NB481_488.out
 have hms18_0 := NB488_480.out
 have hms18_1 := NB488_481.out
 refine skip_ (w1 := ?_) (by rfl) rfl ?_ ?_
 rotate_left
 ·
  go_simp
  rfl
 refine hK.out _ _ ⟨((cell_far (p := ⟨gb488, _, none⟩) NB480_488.out _).trans (((cell_far (p := ⟨gb488, _, none⟩) NB480_488.out _).trans (((cell_far (p := ⟨gb488, _, none⟩) NB480_488.out _).trans (hHeld.1)))))), ((cell_far (p := ⟨gb488, _, none⟩) NB480_488.out _).trans (((cell_far (p := ⟨gb488, _, none⟩) NB480_488.out _).trans (((cell_far (p := ⟨gb488, _, none⟩) NB480_488.out _).trans (hHeld.2.1)))))), ((cell_far (p := ⟨gb488, _, none⟩) NB480_488.out _).trans (((cell_far (p := ⟨gb488, _, none⟩) NB480_488.out _).trans (((cell_far (p := ⟨gb488, _, none⟩) NB480_488.out _).trans (hHeld.2.2))))))⟩ (fun hHeld => ?_)
 clear hK K
 refine done_ (done_of HT_.out (by kernel_rfl)) ?_
 try go_wp2
 go_loopg [6] k (fun kq v6 w' => ∃ (x6_1 : Int) (x489001_1 : List Int) (u489001 : Value), v6 = .int .i64 x6_1 ∧ Aside0 (spec_l4Moved.l0 kq a1 x6_1 a0_0 l0_1 l0_2 a0_0 x489001_1 t485 = some (r1, r2, r3)) ∧ Aside0 (kq ≤ k) ∧ Aside0 (Kd.R (Kd.int .i64) 3 w' w.heap.size (fun k_ => some k_ ≠ ((.slice Ao14 t485.length co14) : Value).ownBlock) u489001 x489001_1) ∧ Aside0 (Kd.R (Kd.int .i64) 3 w' w.heap.size (fun k_ => some k_ ≠ (u489001 : Value).ownBlock) (.slice Ao14 t485.length co14) t485) ∧ Aside0 (w'.heap[gb480]? = some (.cells #[.int .i64 a0_0, (.slice A0_1 l0_1.length c0_1), (.slice A0_2 l0_2.length c0_2)] 27 (0, 0))) ∧ Aside0 (w'.heap[gb481]? = some (.cells #[.int .i64 0, (.slice none 0 0), (.slice none 0 0)] 27 (0, 0))) ∧ Aside0 (w'.heap[gb488]? = some (.cells #[.int .i64 a0_0, u489001, (.slice Ao14 t485.length co14)] 27 (0, 0))) ∧ Aside0 (Below w.heap.size w w'))
 case atStart => exact ⟨(0), (y482), (.slice Ao15 y482.length co15), (by first | rfl | (simp; done) | (simp [wrap64]; done) | (simp [*]; done)), H', ⟨Nat.le_refl _⟩, ⟨by (with_reducible repeat (first | apply Kd.R_alloc | apply Kd.R_drewN | apply Kd.R_drew)); exact rF3 HO484 BK488⟩, ⟨by (with_reducible repeat (first | apply Kd.R_alloc | apply Kd.R_drewN | apply Kd.R_drew)); exact rF3 HO487 BK488⟩, ⟨by (with_reducible repeat (first | refine blk_drewN ?_ _ | refine blk_drew ?_ | refine blk_alloc ?_ _)); refine blk_far ?_ NB480_488.out _; (with_reducible repeat (first | refine blk_drewN ?_ _ | refine blk_drew ?_ | refine blk_alloc ?_ _)); refine blk_far ?_ NB480_488.out _; (with_reducible repeat (first | refine blk_drewN ?_ _ | refine blk_drew ?_ | refine blk_alloc ?_ _)); refine blk_far ?_ NB480_488.out _; (with_reducible repeat (first | refine blk_drewN ?_ _ | refine blk_drew ?_ | refine blk_alloc ?_ _)); exact BK480.out⟩, ⟨by (with_reducible repeat (first | refine blk_drewN ?_ _ | refine blk_drew ?_ | refine blk_alloc ?_ _)); refine blk_far ?_ NB481_488.out _; (with_reducible repeat (first | refine blk_drewN ?_ _ | refine blk_drew ?_ | refine blk_alloc ?_ _)); refine blk_far ?_ NB481_488.out _; (with_reducible repeat (first | refine blk_drewN ?_ _ | refine blk_drew ?_ | refine blk_alloc ?_ _)); refine blk_far ?_ NB481_488.out _; (with_reducible repeat (first | refine blk_drewN ?_ _ | refine blk_drew ?_ | refine blk_alloc ?_ _)); exact BK481.out⟩, ⟨by (with_reducible repeat (first | refine blk_drewN ?_ _ | refine blk_drew ?_ | refine blk_alloc ?_ _)); exact bp3 BK488.out⟩, ⟨tB HB.out⟩⟩
 case round =>
  clear H'
  obtain ⟨x6_1, x489001_1, u489001, rfl, HA, HK1, HO_489001, HO_489002, BK480, BK481, BK488, HB⟩ := hrel
  cases gk with
  | zero => exact absurd HA.out (by simp [spec_l4Moved.l0])
  | succ k1 =>
   have H := HA.out
   clear HA
   simp only [spec_l4Moved.l0] at H
   by_cases c19 : x6_1 < (l0_1.length : Int)
   ·
    rw [if_pos c19] at H
    have c19b0 : decide (x6_1 < (l0_1.length : Int)) = true := decide_eq_true c19
    clear c19
    by_cases c20 : 0 ≤ x6_1
    ·
     rw [if_pos c20] at H
     have c20b0 : decide (0 ≤ x6_1) = true := decide_eq_true c20
     clear c20
     by_cases c21 : x489001_1.length < 17592186044416
     ·
      rw [if_pos c21] at H
      have LMc21 := Aside0.mk c21
      clear c21
      obtain ⟨y490, hy490⟩ : ∃ y_ : List Int, y_ = (x489001_1 ++ [wrap64 ((rd l0_1 x6_1) + a1)]) := ⟨_, rfl⟩
      replace H : (spec_l4Moved.l0 k1 a1 (wrap64 (x6_1 + 1)) a0_0 l0_1 l0_2 a0_0 y490 t485) = some (r1, r2, r3) := by first | (rw [hy490]; with_reducible exact H) | (have H2_ := (Option.bind_some _ _).symm.trans H; rw [hy490]; with_reducible exact H2_) | (have H2_ := (Option.bind_some _ _).symm.trans H; with_reducible exact H2_) | with_reducible exact H | (rw [hy490]; exact H) | exact H
      have Ny490 := Aside0.mk hy490
      clear hy490
      have H' := Aside0.mk H
      clear H
      have hnb22 := NB480_481.out
      have hnc22 := NB481_480.out
      have hnb23 := NB480_488.out
      have hnc23 := NB488_480.out
      obtain ⟨hcz24_0, hfz24_0, hcz24_1, hfz24_1, hcz24_2, hfz24_2⟩ := cz3 BK480
      try go_wp2
      replace HO_489001 := Aside0.mk (Kd.R_drew HO_489001.out)
      replace HO_489002 := Aside0.mk (Kd.R_drew HO_489002.out)
      replace BK480 := Aside0.mk (blk_drew BK480.out)
      replace BK481 := Aside0.mk (blk_drew BK481.out)
      replace BK488 := Aside0.mk (blk_drew BK488.out)
      replace HB := Aside0.mk (below_drew1 HB.out)
      have p489 : 0 ≤ (x6_1 : Int) := of_decide_eq_true (by first | (with_reducible assumption) | assumption)
      have q489 : x6_1 < (l0_1.length : Int) := of_decide_eq_true (by first | (with_reducible assumption) | assumption)
      obtain ⟨ad489, e489, hx489_0⟩ := Kd.at_int HR0_1.out x6_1 p489 q489
      have hw489_0 := hx489_0
      cases e489
      replace hx489_0 := hC HB hx489_0
      replace p489 := eq_true p489
      replace q489 := eq_true q489
      refine start_ (n := 13) (S := fun w' => w'.cell? ⟨gb488, 0, none⟩ = some (.int .i64 a0_0) ∧ w'.cell? ⟨gb488, 1, none⟩ = some (u489001) ∧ w'.cell? ⟨gb488, 2, none⟩ = some (.slice Ao14 t485.length co14) ∧ w'.cell? ⟨gb480, 0, none⟩ = some (.int .i64 a0_0) ∧ w'.cell? ⟨gb480, 1, none⟩ = some (.slice (some ad489) l0_1.length c0_1) ∧ w'.cell? ⟨gb480, 2, none⟩ = some (.slice A0_2 l0_2.length c0_2) ∧ w'.cell? (ad489.add (x6_1).toNat) = some (.int .i64 (rd l0_1 x6_1))) (ds := [12]) #[n_, n_, n_, n_, n_, n_, n_, n_, n_, n_, n_, n_, n_] (by kernel_rfl) rfl rfl ⟨(blk_cell BK488.out 0).trans rfl, (blk_cell BK488.out 1).trans rfl, (blk_cell BK488.out 2).trans rfl, (blk_cell BK480.out 0).trans rfl, (blk_cell BK480.out 1).trans rfl, (blk_cell BK480.out 2).trans rfl, ((HB.out.cell (World.block_lt_of_cell? w _ hw489_0)).trans hw489_0)⟩ (fun hHeld => ?_); refine with_tabW spec_l4Moved.tab5 spec_l4Moved.bits5 (fun HT_ HW_ => ?_)
      generalize wr.drew = w25 at HO_489001 HO_489002 BK480 BK481 BK488 HB hx489_0 hHeld ⊢
      refine pu 0 (some 21) #[y_, n_, n_, n_, n_, n_, n_, n_, n_, n_, n_, n_, n_] (any_of HT_.out (by kernel_rfl)) ?_
      refine pu 2 (some 23) #[y_, n_, y_, n_, n_, n_, n_, n_, n_, n_, n_, n_, n_] (any_of HT_.out (by kernel_rfl)) ?_
      refine pu 4 (some 25) #[y_, n_, y_, n_, y_, n_, n_, n_, n_, n_, n_, n_, n_] (any_of HT_.out (by kernel_rfl)) ?_
      refine pu 7 (some 28) #[y_, n_, y_, n_, y_, n_, n_, y_, n_, n_, n_, n_, n_] (any_of HT_.out (by kernel_rfl)) ?_
      refine tk 1 (some 22) #[y_, y_, y_, n_, y_, n_, n_, y_, n_, n_, n_, n_, n_] rfl (take_ofW HT_.out HW_.out (by kernel_rfl)) hHeld (Or.inl ⟨by rfl, by rintro w' ⟨s0, s1, s2, s3, s4, s5, s6⟩; go_simp; with_reducible rfl⟩) ?_
      refine tk 3 (some 24) #[y_, y_, y_, y_, y_, n_, n_, y_, n_, n_, n_, n_, n_] rfl (take_ofW HT_.out HW_.out (by kernel_rfl)) hHeld (Or.inl ⟨by rfl, by rintro w' ⟨s0, s1, s2, s3, s4, s5, s6⟩; go_simp; with_reducible rfl⟩) ?_
      refine pu 5 (some 26) #[y_, y_, y_, y_, y_, y_, n_, y_, n_, n_, n_, n_, n_] (any_of HT_.out (by kernel_rfl)) ?_
      refine tk 6 (some 27) #[y_, y_, y_, y_, y_, y_, y_, y_, n_, n_, n_, n_, n_] rfl (take_ofW HT_.out HW_.out (by kernel_rfl)) hHeld (Or.inl ⟨by rfl, by rintro w' ⟨s0, s1, s2, s3, s4, s5, s6⟩; go_simp; with_reducible rfl⟩) ?_
      refine pu 8 (some 29) #[y_, y_, y_, y_, y_, y_, y_, y_, y_, n_, n_, n_, n_] (any_of HT_.out (by kernel_rfl)) ?_
      refine one_ (i := 9) (N := some 30) #[y_, y_, y_, y_, y_, y_, y_, y_, y_, y_, n_, n_, n_] rfl rfl (one_of HT_.out (by kernel_rfl)) (by decide) (fun K hK => ?_)
      refine value_ (w1 := ?_) (v := ?_) (by rfl) rfl ?_ ?_
      rotate_left 2
      ·
       go_simp
       constructor
       ·
        rfl
       ·
        rfl
      refine hK.out _ _ ⟨(blk_cell (blk_alloc BK488.out _) 0).trans rfl, (blk_cell (blk_alloc BK488.out _) 1).trans rfl, (blk_cell (blk_alloc BK488.out _) 2).trans rfl, (blk_cell (blk_alloc BK480.out _) 0).trans rfl, (blk_cell (blk_alloc BK480.out _) 1).trans rfl, (blk_cell (blk_alloc BK480.out _) 2).trans rfl, (World.cell?_alloc_lt _ _ _ (World.block_lt_of_cell? _ _ (((HB.out.cell (World.block_lt_of_cell? w _ hw489_0)).trans hw489_0)))).trans (((HB.out.cell (World.block_lt_of_cell? w _ hw489_0)).trans hw489_0))⟩ (fun hHeld => ?_)
      clear hK K
      refine norm_ (a' := ?_) ?_ ?_
      rotate_left
      ·
       show Act.put _ (some 30) _ = _
       simp only [Act.put, List.setIfInBounds_toArray, List.set_cons_zero, List.set_cons_succ, i64_w, i32_w]
       rfl
      refine one_ (i := 10) (N := some 31) #[y_, y_, y_, y_, y_, y_, y_, y_, y_, y_, y_, n_, n_] rfl rfl (one_of HT_.out (by kernel_rfl)) (by decide) (fun K hK => ?_)
      refine Kd.R_append_step (Kd.int .i64) (w0 := w) w.heap.size (by rfl) (.tmp 22) (.tmp 30) 25 3 (.int .i64 0) 8 rfl Try.underlying25 info3 rfl (by decide) (by omega) u489001 x489001_1 (wrap64 ((rd l0_1 x6_1) + a1)) [.int .i64 (wrap64 ((rd l0_1 x6_1) + a1))] (fun k_ => some k_ ≠ (.slice Ao14 t485.length co14 : Value).ownBlock) (fun _ => False) rfl rfl ?aP (fun _ hk => hk.elim) ?aF ?aO ?aB ?aS ?aL ?_
      (case aP => exact rfl)
      (case aB => exact (tB HB.out))
      (case aF => exact (fun k_ hk => Kd.fresh' (Kd.R_lt (tR HO_489002.out)) k_ hk))
      (case aO => exact (tR HO_489001.out))
      (case aS => exact (below_size (tB HB.out)))
      (case aL => have := LMc21.out; omega)
      intro v491 w26 ho hb hg hat
      rw [← Ny490.out] at ho
      replace HO_489002 := Aside0.mk (Kd.R_after (ok := (fun _ => True)) (by (with_reducible repeat (first | apply Kd.R_alloc | apply Kd.R_drewN | apply Kd.R_drew)); exact Kd.R_mono HO_489002.out (fun _ hk => ⟨trivial, hk⟩)) hg hat)
      replace BK480 := Aside0.mk (blk_grown (g := gb480) (o := .cells #[.int .i64 a0_0, .slice (some ad489) l0_1.length c0_1, .slice A0_2 l0_2.length c0_2] 27 (0, 0)) (tK BK480.out) hg (Kd.R_ne HO_489001.out BK480.out (by decide)))
      replace BK481 := Aside0.mk (blk_grown (g := gb481) (o := .cells #[.int .i64 0, .slice none 0 0, .slice none 0 0] 27 (0, 0)) (tK BK481.out) hg (Kd.R_ne HO_489001.out BK481.out (by decide)))
      replace BK488 := Aside0.mk (blk_grown (g := gb488) (o := .cells #[.int .i64 a0_0, u489001, .slice Ao14 t485.length co14] 27 (0, 0)) (tK BK488.out) hg (Kd.R_ne HO_489001.out BK488.out (by decide)))
      replace HB := Aside0.mk (hb)
      have HO492 := Aside0.mk (ho)
      clear HO_489001
      clear ho hb hg hat
      obtain ⟨Ao27, co27, eo27⟩ := Kd.R_slice HO492.out
      (first | subst eo27 | (injection eo27 with f1_ f2_ f3_; have f4_ := f1_.symm; have f5_ := f3_.symm; clear f1_ f2_ f3_; subst f4_; subst f5_))
      refine hK.out _ _ ⟨(blk_cell BK488.out 0).trans rfl, (blk_cell BK488.out 1).trans rfl, (blk_cell BK488.out 2).trans rfl, (blk_cell BK480.out 0).trans rfl, (blk_cell BK480.out 1).trans rfl, (blk_cell BK480.out 2).trans rfl, ((HB.out.cell (World.block_lt_of_cell? w _ hw489_0)).trans hw489_0)⟩ (fun hHeld => ?_)
      clear hK K
      refine norm_ (a' := ?_) ?_ ?_
      rotate_left
      ·
       show Act.put _ (some 31) _ = _
       simp only [Act.put, List.setIfInBounds_toArray, List.set_cons_zero, List.set_cons_succ, i64_w, i32_w]
       rfl
      refine pu 11 (some 32) #[y_, y_, y_, y_, y_, y_, y_, y_, y_, y_, y_, y_, n_] (any_of HT_.out (by kernel_rfl)) ?_
      refine last_ (i := 12) (N := none) #[y_, y_, y_, y_, y_, y_, y_, y_, y_, y_, y_, y_, y_] rfl rfl (one_of HT_.out (by kernel_rfl)) (by decide) (fun K hK => ?_)
      have hs28 : w26.cell? ⟨gb488, 1, none⟩ = some (u489001) := (blk_cell BK488.out 1).trans rfl
      have hfs28 := blk_frozen BK488.out 1
      have hns28_0 := NB480_488.out
      have hns28_1 := NB481_488.out
      have hms28_0 := NB488_480.out
      have hms28_1 := NB488_481.out
      refine skip_ (w1 := ?_) (by rfl) rfl ?_ ?_
      rotate_left
      ·
       go_simp
       rfl
      refine hK.out _ _ ?_
      clear hK K
      refine done_ (done_of HT_.out (by kernel_rfl)) ?_
      try go_wp2
      go_roundg k1
      case measure => have := HK1.out; omega
      case rel => exact ⟨(wrap64 (x6_1 + 1)), (y490), (.slice Ao27 y490.length co27), (by first | rfl | (simp; done) | (simp [wrap64]; done) | (simp [*]; done)), H', ⟨by have := HK1.out; omega⟩, ⟨by (with_reducible repeat (first | apply Kd.R_alloc | apply Kd.R_drewN | apply Kd.R_drew)); exact Kd.R_mono (Kd.R_far (p := ⟨gb488, 1, none⟩) (Kd.R_types HO492.out BK488.out (by decide)) (fun _ hk => hk.2) (.slice Ao27 y490.length co27)) (fun _ hk => hk.1)⟩, ⟨by (with_reducible repeat (first | apply Kd.R_alloc | apply Kd.R_drewN | apply Kd.R_drew)); exact Kd.R_mono (Kd.R_far (p := ⟨gb488, 1, none⟩) (Kd.R_types HO_489002.out BK488.out (by decide)) (fun _ hk => hk.2) (.slice Ao27 y490.length co27)) (fun _ hk => hk.1.2)⟩, ⟨by (with_reducible repeat (first | refine blk_drewN ?_ _ | refine blk_drew ?_ | refine blk_alloc ?_ _)); refine blk_far ?_ NB480_488.out _; (with_reducible repeat (first | refine blk_drewN ?_ _ | refine blk_drew ?_ | refine blk_alloc ?_ _)); exact BK480.out⟩, ⟨by (with_reducible repeat (first | refine blk_drewN ?_ _ | refine blk_drew ?_ | refine blk_alloc ?_ _)); refine blk_far ?_ NB481_488.out _; (with_reducible repeat (first | refine blk_drewN ?_ _ | refine blk_drew ?_ | refine blk_alloc ?_ _)); exact BK481.out⟩, ⟨by (with_reducible repeat (first | refine blk_drewN ?_ _ | refine blk_drew ?_ | refine blk_alloc ?_ _)); refine blk_put (cs := #[.int .i64 a0_0, u489001, .slice Ao14 t485.length co14]) ?_ 1 _ rfl; (with_reducible repeat (first | refine blk_drewN ?_ _ | refine blk_drew ?_ | refine blk_alloc ?_ _)); exact BK488.out⟩, ⟨tB HB.out⟩⟩
     ·
      rw [if_neg c21] at H
      exact absurd H (by simp)
    ·
     rw [if_neg c20] at H
     exact absurd H (by simp)
   ·
    rw [if_neg c19] at H
    have c19b0 : decide (x6_1 < (l0_1.length : Int)) = false := decide_eq_false c19
    clear c19
    simp only [Option.some.injEq, Prod.mk.injEq] at H
    obtain ⟨rfl, rfl, rfl⟩ := H
    have hnb29 := NB480_481.out
    have hnc29 := NB481_480.out
    have hnb30 := NB480_488.out
    have hnc30 := NB488_480.out
    obtain ⟨hcz31_0, hfz31_0, hcz31_1, hfz31_1, hcz31_2, hfz31_2⟩ := cz3 BK480
    have hnb32 := NB488_481.out
    have hnc32 := NB481_488.out
    obtain ⟨hcz33_0, hfz33_0, hcz33_1, hfz33_1, hcz33_2, hfz33_2⟩ := cz3 BK488
    obtain ⟨hcz34_0, hfz34_0, hcz34_1, hfz34_1, hcz34_2, hfz34_2⟩ := cz3 BK481
    obtain ⟨Ao35, co35, eo35⟩ := Kd.R_slice HO_489001.out
    subst eo35
    go_wp2
    refine bodyPost_ret (results_cell_row rfl _ _ gb481 27 #[.int .i64 a0_0, .slice Ao35 x489001_1.length co35, .slice Ao14 t485.length co14] (0, 0) _ rfl (by (with_reducible repeat (first | refine blk_drewN ?_ _ | refine blk_drew ?_ | refine blk_alloc ?_ _)); exact bp3 BK481.out) Try.underlying27 rfl (by kernel_rfl)) rfl ?_
    exact ⟨_, _, by first | rfl | (simp [errW_none, errW_some] <;> rfl) | (simp [*, errW_none, errW_some] <;> rfl), by (with_reducible repeat (first | apply Kd.R_alloc | apply Kd.R_drewN | apply Kd.R_drew)); exact rF3 HO_489001 BK481, by (with_reducible repeat (first | apply Kd.R_alloc | apply Kd.R_drewN | apply Kd.R_drew)); exact rF3 HO_489002 BK481, tB HB.out⟩
def spec_ShiftPile.j0 : Nat → Int → Bool → Int → List Int → List Int → Option (Int × List Int × List Int × Bool)
 | 0, _, _, _, _, _ => none
 | k + 1, x1, x13, x494000, x494001, x494002 => if x13 = true then (some (0, ([] : List Int), ([] : List Int), false)) else ((spec_l4Moved.f k x494000 x494001 x494002 x1).bind fun bt497 => ((spec_l4Kept.f k bt497.1 bt497.2.1 bt497.2.2).bind fun bt504 => (some (bt504.1, bt504.2.1, bt504.2.2.1, bt504.2.2.2))))
def spec_ShiftPile.f (k : Nat) (a0_0 : Int) (l0_1 : List Int) (l0_2 : List Int) (a1 : Int) : Option (Int × List Int × List Int × Bool) := (spec_l4Pile.f k a0_0 l0_1 l0_2).bind fun t495 => (if t495 = true then ((spec_l1In.f a1 (-99) 99).bind fun t496 => (spec_ShiftPile.j0 k a1 (!t496) a0_0 l0_1 l0_2)) else (spec_ShiftPile.j0 k a1 true a0_0 l0_1 l0_2))
set_option maxHeartbeats 8000000 in
set_option maxRecDepth 100000 in
theorem spec_ShiftPile.calls (k : Nat) (a0_0 : Int) (A0_1 : Option Addr) (c0_1 : Nat) (l0_1 : List Int) (A0_2 : Option Addr) (c0_2 : Nat) (l0_2 : List Int) (a1 : Int) (r1 : Int) (r2 : List Int) (r3 : List Int) (r4 : Bool) (w : World) (hr0_1 : Kd.C (Kd.int .i64) w A0_1 l0_1.length l0_1) (hc0_1 : l0_1.length ≤ c0_1) (hr0_2 : Kd.C (Kd.int .i64) w A0_2 l0_2.length l0_2) (hc0_2 : l0_2.length ≤ c0_2) (h : spec_ShiftPile.f k a0_0 l0_1 l0_2 a1 = some (r1, r2, r3, r4)) :
  Calls Try.prog 35 #[.agg #[.int .i64 a0_0, .slice A0_1 l0_1.length c0_1, .slice A0_2 l0_2.length c0_2], .int .i64 a1] w fun e w' => ∃ v1_ v2_ : Value, e = .returned (.tuple #[.agg #[.int .i64 r1, v1_, v2_], .bool r4]) ∧ Kd.R (Kd.int .i64) 3 w' w.heap.size (fun k_ => some k_ ≠ (v2_ : Value).ownBlock) v1_ r2 ∧ Kd.R (Kd.int .i64) 3 w' w.heap.size (fun k_ => some k_ ≠ (v1_ : Value).ownBlock) v2_ r3 ∧ Below w.heap.size w w' := by
 have hu27 := Try.underlying27
 have HR0_1 := Aside0.mk hr0_1
 have HC0_1 := Aside0.mk hc0_1
 clear hr0_1 hc0_1
 have HR0_2 := Aside0.mk hr0_2
 have HC0_2 := Aside0.mk hc0_2
 clear hr0_2 hc0_2
 have HB := Aside0.mk (Below.refl w.heap.size w)
 have H : ((spec_l4Pile.f k a0_0 l0_1 l0_2).bind fun t495 => (if t495 = true then ((spec_l1In.f a1 (-99) 99).bind fun t496 => (spec_ShiftPile.j0 k a1 (!t496) a0_0 l0_1 l0_2)) else (spec_ShiftPile.j0 k a1 true a0_0 l0_1 l0_2))) = some (r1, r2, r3, r4) := h
 clear h
 have HC3 := Aside0.mk H
 clear H
 go_enter Try.func35, Try.ntmps35
 go_upto_region 1 with (first | ((with_reducible refine gate_dst (N := 2) rfl ?_); refine bE 2 #[.int .i64 a0_0, .slice A0_1 l0_1.length c0_1, .slice A0_2 l0_2.length c0_2] 27 ?_; intro gb493 hg w4 hbox hb; have BK493 := Aside0.mk hbox; have GW493 := sB HB hg; have GE493 := GW493; replace HB := hB HB hb; clear hb hbox hg) | ((with_reducible refine gate_dst (N := 4) rfl ?_); refine bE 4 #[.int .i64 0, .slice none 0 0, .slice none 0 0] 27 ?_; intro gb494 hg w5 hbox hb; have BK494 := Aside0.mk hbox; have GW494 := sB HB hg; have GE494 := GW494; replace HB := hB HB hb; have NB493_494 := lN BK493 hg; have NB494_493 := gN NB493_494; replace BK493 := bkB BK493 hb; clear hb hbox hg))
 (try simp only [Act.put, List.setIfInBounds_toArray, List.set_cons_zero, List.set_cons_succ])
 go_cut [13] (fun v13 wc => ∃ (kq : Nat) (x13_2 : Bool), v13 = .bool x13_2 ∧ Aside0 (spec_ShiftPile.j0 kq a1 x13_2 a0_0 l0_1 l0_2 = some (r1, r2, r3, r4)) ∧ Aside0 (kq ≤ k) ∧ Aside0 (wc.heap[gb493]? = some (.cells #[.int .i64 a0_0, (.slice A0_1 l0_1.length c0_1), (.slice A0_2 l0_2.length c0_2)] 27 (0, 0))) ∧ Aside0 (wc.heap[gb494]? = some (.cells #[.int .i64 0, (.slice none 0 0), (.slice none 0 0)] 27 (0, 0))) ∧ Aside0 (Below w.heap.size w wc))
 case first =>
  have H := HC3.out
  clear HC3
  replace H := Option.bind_eq_some_iff.mp H
  obtain ⟨t495, A60, H⟩ := H
  replace H : (if t495 = true then ((spec_l1In.f a1 (-99) 99).bind fun t496 => (spec_ShiftPile.j0 k a1 (!t496) a0_0 l0_1 l0_2)) else (spec_ShiftPile.j0 k a1 true a0_0 l0_1 l0_2)) = some (r1, r2, r3, r4) := H
  have A6 := Aside0.mk A60
  clear A60
  by_cases c7 : t495 = true
  ·
   subst c7
   have H1 : ((spec_l1In.f a1 (-99) 99).bind fun t496 => (spec_ShiftPile.j0 k a1 (!t496) a0_0 l0_1 l0_2)) = some (r1, r2, r3, r4) := by rw [if_pos rfl] at H; exact H
   clear H
   have H := H1
   clear H1
   replace H := Option.bind_eq_some_iff.mp H
   obtain ⟨t496, A80, H⟩ := H
   replace H : (spec_ShiftPile.j0 k a1 (!t496) a0_0 l0_1 l0_2) = some (r1, r2, r3, r4) := H
   have A8 := Aside0.mk A80
   clear A80
   have H' := Aside0.mk H
   clear H
   have hnb9 := NB493_494.out
   have hnc9 := NB494_493.out
   obtain ⟨hcz10_0, hfz10_0, hcz10_1, hfz10_1, hcz10_2, hfz10_2⟩ := cz3 BK493
   go_wp2_with (first | ((with_reducible refine gate_callee (f := 56) rfl ?_); refine goesL_ (some 7) rfl rfl Try.func56 (by kernel_rfl) rfl #[.agg #[.int .i64 a0_0, .slice A0_1 l0_1.length c0_1, .slice A0_2 l0_2.length c0_2]] rfl tM ?_; (with_reducible refine (spec_l4Pile.calls k a0_0 _ _ l0_1 _ _ l0_2 true _ ?side1 ?side2 ?side3 ?side4 A6.out).mono ?_); (case side1 => exact cB HR0_1 HB); (case side2 => exact HC0_1.out); (case side3 => exact cB HR0_2 HB); (case side4 => exact HC0_2.out); rintro e w11 ⟨rfl, hb⟩; refine ⟨_, rfl, ?_⟩; replace BK493 := bkB BK493 hb; replace BK494 := bkB BK494 hb; replace HB := hB HB hb; (try clear hb)) | (go_at_call 87; (with_reducible refine (spec_l1In.calls a1 (-99) 99 t496 _ A8.out).mono ?_); rintro e w' ⟨rfl, ⟨nd, rfl⟩⟩))
   go_meet
   case rel => exact ⟨_, (!t496), (by first | rfl | (simp; done) | (simp [wrap64]; done) | (simp [*]; done)), H', ⟨by first | omega | exact Nat.le_refl _⟩, ⟨tK BK493.out⟩, ⟨tK BK494.out⟩, ⟨tB HB.out⟩⟩
  ·
   replace c7 := Bool.eq_false_iff.mpr c7
   subst c7
   have H1 : (spec_ShiftPile.j0 k a1 true a0_0 l0_1 l0_2) = some (r1, r2, r3, r4) := by rw [if_neg (show ¬ (false = true) by decide)] at H; exact H
   clear H
   have H := H1
   clear H1
   have H' := Aside0.mk H
   clear H
   have hnb12 := NB493_494.out
   have hnc12 := NB494_493.out
   obtain ⟨hcz13_0, hfz13_0, hcz13_1, hfz13_1, hcz13_2, hfz13_2⟩ := cz3 BK493
   go_wp2_with (first | ((with_reducible refine gate_callee (f := 56) rfl ?_); refine goesL_ (some 7) rfl rfl Try.func56 (by kernel_rfl) rfl #[.agg #[.int .i64 a0_0, .slice A0_1 l0_1.length c0_1, .slice A0_2 l0_2.length c0_2]] rfl tM ?_; (with_reducible refine (spec_l4Pile.calls k a0_0 _ _ l0_1 _ _ l0_2 false _ ?side1 ?side2 ?side3 ?side4 A6.out).mono ?_); (case side1 => exact cB HR0_1 HB); (case side2 => exact HC0_1.out); (case side3 => exact cB HR0_2 HB); (case side4 => exact HC0_2.out); rintro e w14 ⟨rfl, hb⟩; refine ⟨_, rfl, ?_⟩; replace BK493 := bkB BK493 hb; replace BK494 := bkB BK494 hb; replace HB := hB HB hb; (try clear hb)))
   go_meet
   case rel => exact ⟨_, (true), (by first | rfl | (simp; done) | (simp [wrap64]; done) | (simp [*]; done)), H', ⟨by first | omega | exact Nat.le_refl _⟩, ⟨tK BK493.out⟩, ⟨tK BK494.out⟩, ⟨tB HB.out⟩⟩
 case rest =>
  clear HC3
  obtain ⟨kq, x13_2, rfl, HA, HJ2, BK493, BK494, HB⟩ := hcut
  cases kq with
  | zero => exact absurd HA.out (by simp [spec_ShiftPile.j0])
  | succ kj2 =>
   have H := HA.out
   clear HA
   simp only [spec_ShiftPile.j0] at H
   by_cases c15 : x13_2 = true
   ·
    subst c15
    have H1 : (some (0, ([] : List Int), ([] : List Int), false)) = some (r1, r2, r3, r4) := by rw [if_pos rfl] at H; exact H
    clear H
    have H := H1
    clear H1
    simp only [Option.some.injEq, Prod.mk.injEq] at H
    obtain ⟨rfl, rfl, rfl, rfl⟩ := H
    have hnb16 := NB494_493.out
    have hnc16 := NB493_494.out
    obtain ⟨hcz17_0, hfz17_0, hcz17_1, hfz17_1, hcz17_2, hfz17_2⟩ := cz3 BK494
    go_wp2
    refine bodyPost_ret (results_ct rfl _ _ gb494 27 #[.int .i64 0, .slice none 0 0, .slice none 0 0] (0, 0) _ rfl (by (with_reducible repeat (first | refine blk_drewN ?_ _ | refine blk_drew ?_ | refine blk_alloc ?_ _)); exact bp3 BK494.out) Try.underlying27 rfl (by kernel_rfl)) rfl ?_
    exact ⟨_, _, by first | rfl | (simp [errW_none, errW_some] <;> rfl) | (simp [*, errW_none, errW_some] <;> rfl), by first | exact Kd.R_nil _ _ _ _ _ | exact Kd.N_nil _ _ _ _ _ | exact Kd.V_nil _ _ _ _ _ | exact Kd.Q_nil _ _ _ _ _ | exact Kd.S_nil _ _ _ _ _, by first | exact Kd.R_nil _ _ _ _ _ | exact Kd.N_nil _ _ _ _ _ | exact Kd.V_nil _ _ _ _ _ | exact Kd.Q_nil _ _ _ _ _ | exact Kd.S_nil _ _ _ _ _, tB HB.out⟩
   ·
    replace c15 := Bool.eq_false_iff.mpr c15
    subst c15
    have H1 : ((spec_l4Moved.f kj2 a0_0 l0_1 l0_2 a1).bind fun bt497 => ((spec_l4Kept.f kj2 bt497.1 bt497.2.1 bt497.2.2).bind fun bt504 => (some (bt504.1, bt504.2.1, bt504.2.2.1, bt504.2.2.2)))) = some (r1, r2, r3, r4) := by rw [if_neg (show ¬ (false = true) by decide)] at H; exact H
    clear H
    have H := H1
    clear H1
    replace H := Option.bind_eq_some_iff.mp H
    obtain ⟨⟨t497, t498, t501⟩, A180, H⟩ := H
    replace H : ((spec_l4Kept.f kj2 t497 t498 t501).bind fun bt504 => (some (bt504.1, bt504.2.1, bt504.2.2.1, bt504.2.2.2))) = some (r1, r2, r3, r4) := H
    have A18 := Aside0.mk A180
    clear A180
    replace H := Option.bind_eq_some_iff.mp H
    obtain ⟨⟨t504, t505, t508, t511⟩, A190, H⟩ := H
    replace H : (some (t504, t505, t508, t511)) = some (r1, r2, r3, r4) := H
    have A19 := Aside0.mk A190
    clear A190
    simp only [Option.some.injEq, Prod.mk.injEq] at H
    obtain ⟨rfl, rfl, rfl, rfl⟩ := H
    have hnb20 := NB493_494.out
    have hnc20 := NB494_493.out
    obtain ⟨hcz21_0, hfz21_0, hcz21_1, hfz21_1, hcz21_2, hfz21_2⟩ := cz3 BK493
    go_wp2_with (first | ((with_reducible refine gate_callee (f := 88) rfl ?_); refine goesL_ (some 17) rfl rfl Try.func88 (by kernel_rfl) rfl #[.agg #[.int .i64 a0_0, .slice A0_1 l0_1.length c0_1, .slice A0_2 l0_2.length c0_2], .int .i64 a1] rfl tM ?_; (with_reducible refine (spec_l4Moved.calls kj2 a0_0 _ _ l0_1 _ _ l0_2 a1 t497 t498 t501 _ ?side1 ?side2 ?side3 ?side4 A18.out).mono ?_); (case side1 => exact cB HR0_1 HB); (case side2 => exact HC0_1.out); (case side3 => exact cB HR0_2 HB); (case side4 => exact HC0_2.out); rintro e w22 ⟨v499, v502, rfl, ho0, ho1, hb⟩; refine ⟨_, rfl, ?_⟩; have HO500 := Aside0.mk (Kd.R_lower ho0 (below_size (tB HB.out))); have HO503 := Aside0.mk (Kd.R_lower ho1 (below_size (tB HB.out))); replace BK493 := bkB BK493 hb; replace BK494 := bkB BK494 hb; replace HB := hB HB hb; (try clear hb); (try clear ho0); (try clear ho1); obtain ⟨Ao23, co23, eo23⟩ := Kd.R_slice HO500.out; subst eo23; obtain ⟨Ao24, co24, eo24⟩ := Kd.R_slice HO503.out; subst eo24) | ((with_reducible refine gate_callee (f := 74) rfl ?_); refine goesL_ (some 18) rfl rfl Try.func74 (by kernel_rfl) rfl #[.agg #[.int .i64 t497, .slice Ao23 t498.length co23, .slice Ao24 t501.length co24]] rfl tM ?_; (with_reducible refine (spec_l4Kept.calls kj2 t497 (fun k_ => some k_ = (.slice Ao23 t498.length co23 : Value).ownBlock) (.slice Ao23 t498.length co23) t498 (fun k_ => some k_ = (.slice Ao24 t501.length co24 : Value).ownBlock) (.slice Ao24 t501.length co24) t501 t504 t505 t508 t511 w _ ?side1 ?side2 ?side3 ?side4 ?side5 A19.out).mono ?_); (case side1 => repeat (first | (with_reducible first | exact HB.out | apply below_alloc | apply pw_below_drewN | apply below_drew1 | refine below_set ?_ GE493.out | refine below_set ?_ GE494.out) | exact HB.out)); (case side2 => exact Kd.R_tight rfl HO500.out); (case side3 => exact fun k_ e_ => (HO500.out.1 k_ e_.symm)); (case side4 => exact Kd.R_tight rfl HO503.out); (case side5 => exact fun k_ e_ => (HO503.out.1 k_ e_.symm)); rintro e w25 ⟨v506, v509, rfl, ho0, ho1, hb, hkp⟩; refine ⟨_, rfl, ?_⟩; replace BK493 := Aside0.mk (blk_kept (tK BK493.out) hkp (fun hs_ => Or.elim hs_ (fun e_ => (fun e_ => (Kd.R_ne HO500.out BK493.out (by decide)) e_) e_) (fun e_ => (fun e_ => (Kd.R_ne HO503.out BK493.out (by decide)) e_) e_))); replace BK494 := Aside0.mk (blk_kept (tK BK494.out) hkp (fun hs_ => Or.elim hs_ (fun e_ => (fun e_ => (Kd.R_ne HO500.out BK494.out (by decide)) e_) e_) (fun e_ => (fun e_ => (Kd.R_ne HO503.out BK494.out (by decide)) e_) e_))); have HO507 := Aside0.mk (Kd.R_mono (ok' := fun k_ => some k_ ≠ (v509 : Value).ownBlock) ho0 (fun k_ hk_ => hk_.2)); have HO510 := Aside0.mk (Kd.R_mono (ok' := fun k_ => some k_ ≠ (v506 : Value).ownBlock) ho1 (fun k_ hk_ => hk_.2)); replace HB := Aside0.mk (hb); clear HO500; clear HO503; (try clear hb); (try clear hkp); (try clear ho0); (try clear ho1); obtain ⟨hcz26_0, hfz26_0, hcz26_1, hfz26_1, hcz26_2, hfz26_2⟩ := cz3 BK494; obtain ⟨Ao27, co27, eo27⟩ := Kd.R_slice HO507.out; subst eo27; obtain ⟨Ao28, co28, eo28⟩ := Kd.R_slice HO510.out; subst eo28))
    refine bodyPost_ret (results_ct rfl _ _ gb494 27 #[.int .i64 t504, .slice Ao27 t505.length co27, .slice Ao28 t508.length co28] (0, 0) _ rfl (by (with_reducible repeat (first | refine blk_drewN ?_ _ | refine blk_drew ?_ | refine blk_alloc ?_ _)); exact bp3 BK494.out) Try.underlying27 rfl (by kernel_rfl)) rfl ?_
    exact ⟨_, _, by first | rfl | (simp [errW_none, errW_some] <;> rfl) | (simp [*, errW_none, errW_some] <;> rfl), by (with_reducible repeat (first | apply Kd.R_alloc | apply Kd.R_drewN | apply Kd.R_drew)); exact rF3 HO507 BK494, by (with_reducible repeat (first | apply Kd.R_alloc | apply Kd.R_drewN | apply Kd.R_drew)); exact rF3 HO510 BK494, tB HB.out⟩
end Go.Proofs.Ytnnpfekgapikfaa.PFnPiles

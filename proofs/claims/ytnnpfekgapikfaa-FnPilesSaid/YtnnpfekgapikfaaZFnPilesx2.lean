import Derived.Test.YtnnpfekgapikfaaZFnPilesx0
import Derived.Test.YtnnpfekgapikfaaZFnPilesx1
namespace Go.Proofs.Ytnnpfekgapikfaa.PFnPiles
open Go.RowKit Go.Proofs.YtnnpfekgapikfaaW.PrintWords Go.Proofs.YtnnpfekgapikfaaW.PrintLast Go.Proofs.YtnnpfekgapikfaaW.PrintMore
attribute [local go_sem] max2_int min2_int max_two min_two max_three min_three max_four min_four
set_option linter.unusedVariables false
set_option linter.unusedSimpArgs false
mutual
def spec_l1Cur_pile.l0 : Nat → Int → Bool → Int → Int → List Int → Int → Int → Int → List Int → List Int → Option (Int × List Int × List Int × Int × Int)
 | 0, _, _, _, _, _, _, _, _, _, _ => none
 | k + 1, x4, x5, x6, x7, x1000, x1001, x1002, x123000, x123001, x123002 => if x7 < x4 then (if x123001.length < 17592186044416 then ((some (x123001 ++ [x6] : List Int)).bind fun y135 => ((spec_l1Cur_among.f x1000 x1001 x1002 (([1, 1, 4, 20] : List Int))).bind fun bt141 => ((spec_l1Cur_pick.f x1000 bt141.2.1 bt141.2.2 bt141.1).bind fun bt144 => (if x123002.length < 17592186044416 then ((some (x123002 ++ [wrap64 (1 + bt144.1)] : List Int)).bind fun y147 => (if x5 = true then ((spec_l1Cur_pick.f x1000 bt144.2.1 bt144.2.2 3).bind fun bt150 => (spec_l1Cur_pile.l0 k x4 x5 (wrap64 ((wrap64 (x6 + bt150.1)) - 1)) (wrap64 (x7 + 1)) x1000 bt150.2.1 bt150.2.2 x123000 y135 y147)) else ((spec_l1Cur_pick.f x1000 bt144.2.1 bt144.2.2 (wrap64 ((wrap64 (2 * x123000)) + 3))).bind fun bt153 => (spec_l1Cur_pile.l0 k x4 x5 (wrap64 ((wrap64 ((wrap64 (x6 + bt153.1)) - x123000)) - 1)) (wrap64 (x7 + 1)) x1000 bt153.2.1 bt153.2.2 x123000 y135 y147)))) else (none))))) else (none)) else ((spec_l1Cur_pick.f x1000 x1001 x1002 50).bind fun bt156 => (if bt156.1 = 0 then ((spec_l1Cur_among.f x1000 bt156.2.1 bt156.2.2 (([0, 25, (-1)] : List Int))).bind fun bt162 => (some (bt162.1, x123001, x123002, bt162.2.1, bt162.2.2))) else (if bt156.1 = 1 then ((spec_l1Cur_pick.f x1000 bt156.2.1 bt156.2.2 x4).bind fun bt165 => ((spec_l1Cur_among.f x1000 bt165.2.1 bt165.2.2 (([99, 100, (-100), 4611686018427387904] : List Int))).bind fun bt171 => (if 0 ≤ bt165.1 then (if bt165.1 < (x123001.length : Int) then (some (x123000, (x123001.set (bt165.1 : Int).toNat bt171.1), x123002, bt171.2.1, bt171.2.2)) else (none)) else (none)))) else (if bt156.1 = 2 then ((spec_l1Cur_pick.f x1000 bt156.2.1 bt156.2.2 x4).bind fun bt175 => ((spec_l1Cur_among.f x1000 bt175.2.1 bt175.2.2 (([0, 99, 100, (-1)] : List Int))).bind fun bt181 => (if 0 ≤ bt175.1 then (if bt175.1 < (x123002.length : Int) then (some (x123000, x123001, (x123002.set (bt175.1 : Int).toNat bt181.1), bt181.2.1, bt181.2.2)) else (none)) else (none)))) else (if bt156.1 = 3 then (if x123002.length < 17592186044416 then (some (x123000, x123001, (x123002 ++ [1]), bt156.2.1, bt156.2.2)) else (none)) else (if bt156.1 = 4 then (spec_l1Cur_pile.l1 k x6 x1000 bt156.2.1 bt156.2.2 x123000 x123001 x123002) else (some (x123000, x123001, x123002, bt156.2.1, bt156.2.2))))))))
def spec_l1Cur_pile.l1 : Nat → Int → List Int → Int → Int → Int → List Int → List Int → Option (Int × List Int × List Int × Int × Int)
 | 0, _, _, _, _, _, _, _ => none
 | k + 1, x6, x1000, x1001, x1002, x123000, x123001, x123002 => if (x123001.length : Int) < 9 then (if x123001.length < 17592186044416 then (if x123002.length < 17592186044416 then (spec_l1Cur_pile.l1 k x6 x1000 x1001 x1002 x123000 (x123001 ++ [x6]) (x123002 ++ [1])) else (none)) else (none)) else (some (x123000, x123001, x123002, x1001, x1002))
end
def spec_l1Cur_pile.f (k : Nat) (s0_0 : List Int) (s0_1 : Int) (s0_2 : Int) : Option (Int × List Int × List Int × Int × Int) := (spec_l1Cur_among.f s0_0 s0_1 s0_2 (([4, 6, 8, 3, 1, 2, 12, 24] : List Int))).bind fun bt119 => ((spec_l1Cur_among.f s0_0 bt119.2.1 bt119.2.2 (([3, 2, 4, 1, 5, 8] : List Int))).bind fun bt126 => ((spec_l1Cur_one.f s0_0 bt126.2.1 bt126.2.2 3).bind fun bt129 => ((spec_l1Cur_pick.f s0_0 bt129.2.1 bt129.2.2 (wrap64 ((wrap64 (Int.tdiv bt119.1 2)) + 1))).bind fun bt132 => (spec_l1Cur_pile.l0 k bt126.1 (!bt129.1) (wrap64 ((wrap64 (-bt119.1)) + bt132.1)) 0 s0_0 bt132.2.1 bt132.2.2 bt119.1 ([] : List Int) ([] : List Int)))))
def spec_l1Cur_pile.T3 : Bool × List (List Nat × List Nat) := (true, [([], []), ([0], [0]), ([1], [1]), ([], []), ([], []), ([4], [4]), ([5], [5]), ([6], [6]), ([3, 7], [3, 7]), ([2, 8], [2, 8]), ([9, 8, 0, 1, 2, 3, 4, 5, 6, 7, 8, 9], [9])])
def spec_l1Cur_pile.B3 : List Nat := [0, 1, 3, 0, 0, 16, 48, 112, 248, 511, 1023]
theorem spec_l1Cur_pile.tab3 : rtab .any (opsOf Try.f85 3) = spec_l1Cur_pile.T3 := by kernel_rfl
theorem spec_l1Cur_pile.bits3 : waitsOk spec_l1Cur_pile.T3.2 spec_l1Cur_pile.B3 = true := by kernel_rfl
def spec_l1Cur_pile.T8 : Bool × List (List Nat × List Nat) := (true, [([], []), ([0], [0]), ([], []), ([], []), ([], []), ([3, 4], [3, 4]), ([2, 5, 5], [2, 5]), ([6], [6]), ([7], [7]), ([1, 8, 6], [1, 8]), ([0, 1, 2, 3, 4, 5, 6, 7, 8, 9], []), ([10, 9, 9, 0, 1, 2, 3, 4, 5, 6, 7, 8, 9], [9, 10])])
def spec_l1Cur_pile.B8 : List Nat := [0, 1, 0, 0, 0, 24, 60, 124, 252, 511, 1023, 2047]
theorem spec_l1Cur_pile.tab8 : rtab .any (opsOf Try.f85 8) = spec_l1Cur_pile.T8 := by kernel_rfl
theorem spec_l1Cur_pile.bits8 : waitsOk spec_l1Cur_pile.T8.2 spec_l1Cur_pile.B8 = true := by kernel_rfl
def spec_l1Cur_pile.T11 : Bool × List (List Nat × List Nat) := (true, [([], []), ([], []), ([], []), ([2], [2]), ([3], [3]), ([4], [4]), ([1, 5], [1, 5]), ([0, 6], [0, 6]), ([], []), ([8], [8]), ([7, 9], [7, 9]), ([10], [10]), ([11, 6, 0, 1, 2, 3, 4, 5, 6, 7, 8, 9, 10, 11], [0, 11])])
def spec_l1Cur_pile.B11 : List Nat := [0, 0, 0, 4, 12, 28, 62, 127, 0, 256, 1023, 2047, 4095]
theorem spec_l1Cur_pile.tab11 : rtab .any (opsOf Try.f85 11) = spec_l1Cur_pile.T11 := by kernel_rfl
theorem spec_l1Cur_pile.bits11 : waitsOk spec_l1Cur_pile.T11.2 spec_l1Cur_pile.B11 = true := by kernel_rfl
def spec_l1Cur_pile.T16 : Bool × List (List Nat × List Nat) := (true, [([], []), ([0], [0]), ([], []), ([], []), ([2, 3], [2, 3]), ([], []), ([], []), ([5, 6, 4], [5, 6]), ([1, 4, 0, 1, 2, 3, 4, 5, 6, 7], [1, 4]), ([8, 7, 7, 0, 1, 2, 3, 4, 5, 6, 7], [7, 8])])
def spec_l1Cur_pile.B16 : List Nat := [0, 1, 0, 0, 12, 0, 0, 124, 255, 511]
theorem spec_l1Cur_pile.tab16 : rtab .any (opsOf Try.f85 16) = spec_l1Cur_pile.T16 := by kernel_rfl
theorem spec_l1Cur_pile.bits16 : waitsOk spec_l1Cur_pile.T16.2 spec_l1Cur_pile.B16 = true := by kernel_rfl
def spec_l1Cur_pile.T18 : Bool × List (List Nat × List Nat) := (true, [([], []), ([0], [0]), ([], []), ([], []), ([2, 3], [2, 3]), ([], []), ([], []), ([5, 6, 4], [5, 6]), ([1, 4, 0, 1, 2, 3, 4, 5, 6, 7], [1, 4]), ([8, 7, 7, 0, 1, 2, 3, 4, 5, 6, 7], [7, 8])])
def spec_l1Cur_pile.B18 : List Nat := [0, 1, 0, 0, 12, 0, 0, 124, 255, 511]
theorem spec_l1Cur_pile.tab18 : rtab .any (opsOf Try.f85 18) = spec_l1Cur_pile.T18 := by kernel_rfl
theorem spec_l1Cur_pile.bits18 : waitsOk spec_l1Cur_pile.T18.2 spec_l1Cur_pile.B18 = true := by kernel_rfl
set_option maxHeartbeats 8000000 in
set_option maxRecDepth 100000 in
theorem spec_l1Cur_pile.calls (k : Nat) (g : Nat) (s0_0 : List Int) (s0_1 : Int) (s0_2 : Int) (r1 : Int) (r2 : List Int) (r3 : List Int) (r4 : Int) (r5 : Int) (w0 w : World) (hI : IsS75 w0 w g s0_0 s0_1 s0_2) (hB : Below w0.heap.size w0 w) (h : spec_l1Cur_pile.f k s0_0 s0_1 s0_2 = some (r1, r2, r3, r4, r5)) :
  Calls Try.prog 85 #[.pointer (some ⟨g, 0, none⟩)] w fun e w' => ∃ v1_ v2_ : Value, e = .returned (.agg #[.int .i64 r1, v1_, v2_]) ∧ Kd.R (Kd.int .i64) 3 w' w.heap.size (fun k_ => some k_ ≠ (v2_ : Value).ownBlock) v1_ r2 ∧ Kd.R (Kd.int .i64) 3 w' w.heap.size (fun k_ => some k_ ≠ (v1_ : Value).ownBlock) v2_ r3 ∧ IsS75 w0 w' g s0_0 r4 r5 ∧ Below w0.heap.size w0 w' ∧ KeepBut w w' g none := by
 have hu27 := Try.underlying27
 have HI0 := Aside0.mk hI
 have HK := Aside0.mk (KeepBut.refl w g none)
 have HL := Aside0.mk hB.size
 clear hI
 have HW0 := Aside0.mk hB.size
 have HB := Aside0.mk hB
 clear hB
 have H : ((spec_l1Cur_among.f s0_0 s0_1 s0_2 (([4, 6, 8, 3, 1, 2, 12, 24] : List Int))).bind fun bt119 => ((spec_l1Cur_among.f s0_0 bt119.2.1 bt119.2.2 (([3, 2, 4, 1, 5, 8] : List Int))).bind fun bt126 => ((spec_l1Cur_one.f s0_0 bt126.2.1 bt126.2.2 3).bind fun bt129 => ((spec_l1Cur_pick.f s0_0 bt129.2.1 bt129.2.2 (wrap64 ((wrap64 (Int.tdiv bt119.1 2)) + 1))).bind fun bt132 => (spec_l1Cur_pile.l0 k bt126.1 (!bt129.1) (wrap64 ((wrap64 (-bt119.1)) + bt132.1)) 0 s0_0 bt132.2.1 bt132.2.2 bt119.1 ([] : List Int) ([] : List Int)))))) = some (r1, r2, r3, r4, r5) := h
 clear h
 obtain ⟨y116, hy116⟩ : ∃ y_ : List Int, y_ = (([4, 6, 8, 3, 1, 2, 12, 24] : List Int)) := ⟨_, rfl⟩
 replace H : ((spec_l1Cur_among.f s0_0 s0_1 s0_2 y116).bind fun bt119 => ((spec_l1Cur_among.f s0_0 bt119.2.1 bt119.2.2 (([3, 2, 4, 1, 5, 8] : List Int))).bind fun bt126 => ((spec_l1Cur_one.f s0_0 bt126.2.1 bt126.2.2 3).bind fun bt129 => ((spec_l1Cur_pick.f s0_0 bt129.2.1 bt129.2.2 (wrap64 ((wrap64 (Int.tdiv bt119.1 2)) + 1))).bind fun bt132 => (spec_l1Cur_pile.l0 k bt126.1 (!bt129.1) (wrap64 ((wrap64 (-bt119.1)) + bt132.1)) 0 s0_0 bt132.2.1 bt132.2.2 bt119.1 ([] : List Int) ([] : List Int)))))) = some (r1, r2, r3, r4, r5) := by first | (rw [hy116]; with_reducible exact H) | (have H2_ := (Option.bind_some _ _).symm.trans H; rw [hy116]; with_reducible exact H2_) | (have H2_ := (Option.bind_some _ _).symm.trans H; with_reducible exact H2_) | with_reducible exact H | (rw [hy116]; exact H) | exact H
 have Ny116 := Aside0.mk hy116
 clear hy116
 replace H := Option.bind_eq_some_iff.mp H
 obtain ⟨⟨t119, t120, t121⟩, A20, H⟩ := H
 replace H : ((spec_l1Cur_among.f s0_0 t120 t121 (([3, 2, 4, 1, 5, 8] : List Int))).bind fun bt126 => ((spec_l1Cur_one.f s0_0 bt126.2.1 bt126.2.2 3).bind fun bt129 => ((spec_l1Cur_pick.f s0_0 bt129.2.1 bt129.2.2 (wrap64 ((wrap64 (Int.tdiv t119 2)) + 1))).bind fun bt132 => (spec_l1Cur_pile.l0 k bt126.1 (!bt129.1) (wrap64 ((wrap64 (-t119)) + bt132.1)) 0 s0_0 bt132.2.1 bt132.2.2 t119 ([] : List Int) ([] : List Int))))) = some (r1, r2, r3, r4, r5) := H
 have A2 := Aside0.mk A20
 clear A20
 obtain ⟨y123, hy123⟩ : ∃ y_ : List Int, y_ = (([3, 2, 4, 1, 5, 8] : List Int)) := ⟨_, rfl⟩
 replace H : ((spec_l1Cur_among.f s0_0 t120 t121 y123).bind fun bt126 => ((spec_l1Cur_one.f s0_0 bt126.2.1 bt126.2.2 3).bind fun bt129 => ((spec_l1Cur_pick.f s0_0 bt129.2.1 bt129.2.2 (wrap64 ((wrap64 (Int.tdiv t119 2)) + 1))).bind fun bt132 => (spec_l1Cur_pile.l0 k bt126.1 (!bt129.1) (wrap64 ((wrap64 (-t119)) + bt132.1)) 0 s0_0 bt132.2.1 bt132.2.2 t119 ([] : List Int) ([] : List Int))))) = some (r1, r2, r3, r4, r5) := by first | (rw [hy123]; with_reducible exact H) | (have H2_ := (Option.bind_some _ _).symm.trans H; rw [hy123]; with_reducible exact H2_) | (have H2_ := (Option.bind_some _ _).symm.trans H; with_reducible exact H2_) | with_reducible exact H | (rw [hy123]; exact H) | exact H
 have Ny123 := Aside0.mk hy123
 clear hy123
 replace H := Option.bind_eq_some_iff.mp H
 obtain ⟨⟨t126, t127, t128⟩, A30, H⟩ := H
 replace H : ((spec_l1Cur_one.f s0_0 t127 t128 3).bind fun bt129 => ((spec_l1Cur_pick.f s0_0 bt129.2.1 bt129.2.2 (wrap64 ((wrap64 (Int.tdiv t119 2)) + 1))).bind fun bt132 => (spec_l1Cur_pile.l0 k t126 (!bt129.1) (wrap64 ((wrap64 (-t119)) + bt132.1)) 0 s0_0 bt132.2.1 bt132.2.2 t119 ([] : List Int) ([] : List Int)))) = some (r1, r2, r3, r4, r5) := H
 have A3 := Aside0.mk A30
 clear A30
 replace H := Option.bind_eq_some_iff.mp H
 obtain ⟨⟨t129, t130, t131⟩, A40, H⟩ := H
 replace H : ((spec_l1Cur_pick.f s0_0 t130 t131 (wrap64 ((wrap64 (Int.tdiv t119 2)) + 1))).bind fun bt132 => (spec_l1Cur_pile.l0 k t126 (!t129) (wrap64 ((wrap64 (-t119)) + bt132.1)) 0 s0_0 bt132.2.1 bt132.2.2 t119 ([] : List Int) ([] : List Int))) = some (r1, r2, r3, r4, r5) := H
 have A4 := Aside0.mk A40
 clear A40
 replace H := Option.bind_eq_some_iff.mp H
 obtain ⟨⟨t132, t133, t134⟩, A50, H⟩ := H
 replace H : (spec_l1Cur_pile.l0 k t126 (!t129) (wrap64 ((wrap64 (-t119)) + t132)) 0 s0_0 t133 t134 t119 ([] : List Int) ([] : List Int)) = some (r1, r2, r3, r4, r5) := H
 have A5 := Aside0.mk A50
 clear A50
 have H' := Aside0.mk H
 clear H
 go_enter Try.func85, Try.ntmps85
 try go_wp2_with (first | ((with_reducible refine gate_dst (N := 2) rfl ?_); refine bE 2 #[.int .i64 0, .slice none 0 0, .slice none 0 0] 27 ?_; intro gb115 hg w6 hbox hb; replace HB := Aside0.mk (below_step (by repeat (first | (with_reducible first | exact HB.out | apply below_alloc | apply pw_below_drewN | apply below_drew1 | refine below_set ?_ (IsS75.ge HI0.out)) | exact HB.out)) hb); have BK115 := Aside0.mk hbox; have GW115 := Aside0.mk ((by rw [hg]; exact (keep_size (w := w) (g := g) (row := none) (by repeat (first | (with_reducible first | exact HK.out | apply KeepBut.set_ | apply keep_drewN | apply keep_drew | apply keep_alloc) | exact HK.out))) : w.heap.size ≤ gb115)); have GE115 := Aside0.mk ((Nat.le_trans HW0.out (by rw [hg]; exact (keep_size (w := w) (g := g) (row := none) (by repeat (first | (with_reducible first | exact HK.out | apply KeepBut.set_ | apply keep_drewN | apply keep_drew | apply keep_alloc) | exact HK.out))) : w.heap.size ≤ gb115) : w0.heap.size ≤ gb115)); replace HK := Aside0.mk (KeepBut.trans (by repeat (first | (with_reducible first | exact HK.out | apply KeepBut.set_ | apply keep_drewN | apply keep_drew | apply keep_alloc) | exact HK.out)) (KeepBut.of_below hb g none) (.inl rfl)); have NB0_115 := Aside0.mk ((by rw [hg]; exact Nat.ne_of_lt (IsS75.lt (show IsS75 w0 _ g s0_0 s0_1 s0_2 from by repeat (first | (with_reducible first | exact HI0.out | apply IsS75.alloc | apply IsS75.drewN | apply IsS75.drew | apply IsS75.set_1 | apply IsS75.set_2) | exact HI0.out))) : g ≠ gb115)); have NB115_0 := Aside0.mk ((by rw [hg]; exact Nat.ne_of_gt (IsS75.lt (show IsS75 w0 _ g s0_0 s0_1 s0_2 from by repeat (first | (with_reducible first | exact HI0.out | apply IsS75.alloc | apply IsS75.drewN | apply IsS75.drew | apply IsS75.set_1 | apply IsS75.set_2) | exact HI0.out))) : gb115 ≠ g)); replace HI0 := Aside0.mk (IsS75.below (by repeat (first | (with_reducible first | exact HI0.out | apply IsS75.alloc | apply IsS75.drewN | apply IsS75.drew | apply IsS75.set_1 | apply IsS75.set_2) | exact HI0.out)) hb); clear hb hbox hg) | ((with_reducible refine gate_dst (N := 9) rfl ?_); refine Kd.R_lit (Kd.int .i64) _ 3 ?hg (N := 9) ?hd (xs := ([4, 6, 8, 3, 1, 2, 12, 24] : List Int)) (inner := [.int .i64 4, .int .i64 6, .int .i64 8, .int .i64 3, .int .i64 1, .int .i64 2, .int .i64 12, .int .i64 24]) (ok := fun _ => True) (okp := fun _ => True) ?hr ?hp (fun _ hk => hk) trivial (Below.refl _ _) (Nat.le_refl _) (by simp) ?_; (case hd => rfl); (case hg => rfl); (case hr => first | (go_simp; done) | (go_simp; rfl)); (case hp => exact (Reps.one (show Kd.M (Kd.int .i64) _ _ _ 4 [.int .i64 4] from rfl) (Reps.one (show Kd.M (Kd.int .i64) _ _ _ 6 [.int .i64 6] from rfl) (Reps.one (show Kd.M (Kd.int .i64) _ _ _ 8 [.int .i64 8] from rfl) (Reps.one (show Kd.M (Kd.int .i64) _ _ _ 3 [.int .i64 3] from rfl) (Reps.one (show Kd.M (Kd.int .i64) _ _ _ 1 [.int .i64 1] from rfl) (Reps.one (show Kd.M (Kd.int .i64) _ _ _ 2 [.int .i64 2] from rfl) (Reps.one (show Kd.M (Kd.int .i64) _ _ _ 12 [.int .i64 12] from rfl) (Reps.one (show Kd.M (Kd.int .i64) _ _ _ 24 [.int .i64 24] from rfl) (Reps.none _ _)))))))))); intro v117 w7 ho8 hb hg_ hnew_; clear hg_ hnew_; (first | rw [← Ny116.out] at ho8 | (simp only [Int.reduceToNat] at ho8; rw [← Ny116.out] at ho8)); have HO118 := Aside0.mk (Kd.R_lower ho8 (keep_size (w := w) (g := g) (row := none) (by repeat (first | (with_reducible first | exact HK.out | apply KeepBut.set_ | apply keep_drewN | apply keep_drew | apply keep_alloc | refine keep_far ?_ GW115.out _) | exact HK.out)))); replace BK115 := bkB BK115 hb; replace HK := Aside0.mk (KeepBut.trans (by repeat (first | (with_reducible first | exact HK.out | apply KeepBut.set_ | apply keep_drewN | apply keep_drew | apply keep_alloc | refine keep_far ?_ GW115.out _) | exact HK.out)) (KeepBut.of_below hb g none) (.inl rfl)); replace HB := Aside0.mk (below_step (by repeat (first | (with_reducible first | exact HB.out | apply below_alloc | apply pw_below_drewN | apply below_drew1 | refine below_set ?_ (IsS75.ge HI0.out) | refine below_set ?_ GE115.out) | exact HB.out)) hb); replace HI0 := Aside0.mk (IsS75.below (by repeat (first | (with_reducible first | exact HI0.out | apply IsS75.alloc | apply IsS75.drewN | apply IsS75.drew | apply IsS75.set_1 | apply IsS75.set_2 | refine IsS75.far ?_ NB0_115.out _) | exact HI0.out)) hb); clear hb ho8; obtain ⟨Ao9, co9, eo9⟩ := Kd.R_slice HO118.out; subst eo9) | ((with_reducible refine gate_callee (f := 86) rfl ?_); refine goesL_ (some 10) rfl rfl Try.func86 (by kernel_rfl) rfl #[.pointer (some ⟨g, 0, none⟩), .slice Ao9 y116.length co9] rfl tM ?_; (with_reducible refine (spec_l1Cur_among.calls g s0_0 s0_1 s0_2 _ _ y116 t119 t120 t121 w0 _ ?side1 ?side2 ?side3 ?side4 ?side5 A2.out).mono ?_); (case side1 => repeat (first | (with_reducible first | exact HI0.out | apply IsS75.alloc | apply IsS75.drewN | apply IsS75.drew | apply IsS75.set_1 | apply IsS75.set_2 | refine IsS75.far ?_ NB0_115.out _) | exact HI0.out)); (case side2 => repeat (first | (with_reducible first | exact HB.out | apply below_alloc | apply pw_below_drewN | apply below_drew1 | refine below_set ?_ (IsS75.ge HI0.out) | refine below_set ?_ GE115.out) | exact HB.out)); (case side3 => exact rC HO118); (case side4 => exact (Kd.R_reads' HO118.out).2.1); (case side5 => exact far_slice (IsS75.own_ne HI0.out HO118.out (by decide))); rintro e w10 ⟨rfl, hi, hb, hk⟩; refine ⟨_, rfl, ?_⟩; replace BK115 := Aside0.mk (KeepBut.blk hk (g' := gb115) (o := .cells #[.int .i64 0, .slice none 0 0, .slice none 0 0] 27 (0, 0)) (tK BK115.out) NB115_0.out (by simp)); replace HO118 := Aside0.mk (Kd.R_mono (Kd.R_keep (IsS75.apart (show IsS75 w0 _ g s0_0 s0_1 s0_2 from by repeat (first | (with_reducible first | exact HI0.out | apply IsS75.alloc | apply IsS75.drewN | apply IsS75.drew | apply IsS75.set_1 | apply IsS75.set_2 | refine IsS75.far ?_ NB0_115.out _) | exact HI0.out)) (tR HO118.out) (by decide)) hk (fun _ h => h.2)) (fun _ h => h.1)); replace HK := Aside0.mk (KeepBut.trans (by repeat (first | (with_reducible first | exact HK.out | apply KeepBut.set_ | apply keep_drewN | apply keep_drew | apply keep_alloc | refine keep_far ?_ GW115.out _) | exact HK.out)) hk (.inl rfl)); replace HB := Aside0.mk (hb); replace HI0 := Aside0.mk (hi); (try clear hb); (try clear hk); (try clear hi)) | ((with_reducible refine gate_dst (N := 3) rfl ?_); refine bE 3 #[.int .i64 0, .slice none 0 0, .slice none 0 0] 27 ?_; intro gb122 hg w11 hbox hb; replace HO118 := rB HO118 hb; replace HB := Aside0.mk (below_step (by repeat (first | (with_reducible first | exact HB.out | apply below_alloc | apply pw_below_drewN | apply below_drew1 | refine below_set ?_ (IsS75.ge HI0.out) | refine below_set ?_ GE115.out) | exact HB.out)) hb); have BK122 := Aside0.mk hbox; have GW122 := Aside0.mk ((by rw [hg]; exact (keep_size (w := w) (g := g) (row := none) (by repeat (first | (with_reducible first | exact HK.out | apply KeepBut.set_ | apply keep_drewN | apply keep_drew | apply keep_alloc | refine keep_far ?_ GW115.out _) | exact HK.out))) : w.heap.size ≤ gb122)); have GE122 := Aside0.mk ((Nat.le_trans HW0.out (by rw [hg]; exact (keep_size (w := w) (g := g) (row := none) (by repeat (first | (with_reducible first | exact HK.out | apply KeepBut.set_ | apply keep_drewN | apply keep_drew | apply keep_alloc | refine keep_far ?_ GW115.out _) | exact HK.out))) : w.heap.size ≤ gb122) : w0.heap.size ≤ gb122)); replace HK := Aside0.mk (KeepBut.trans (by repeat (first | (with_reducible first | exact HK.out | apply KeepBut.set_ | apply keep_drewN | apply keep_drew | apply keep_alloc | refine keep_far ?_ GW115.out _) | exact HK.out)) (KeepBut.of_below hb g none) (.inl rfl)); have NB115_122 := lN BK115 hg; have NB122_115 := gN NB115_122; replace BK115 := bkB BK115 hb; have NB0_122 := Aside0.mk ((by rw [hg]; exact Nat.ne_of_lt (IsS75.lt (show IsS75 w0 _ g s0_0 t120 t121 from by repeat (first | (with_reducible first | exact HI0.out | apply IsS75.alloc | apply IsS75.drewN | apply IsS75.drew | apply IsS75.set_1 | apply IsS75.set_2 | refine IsS75.far ?_ NB0_115.out _) | exact HI0.out))) : g ≠ gb122)); have NB122_0 := Aside0.mk ((by rw [hg]; exact Nat.ne_of_gt (IsS75.lt (show IsS75 w0 _ g s0_0 t120 t121 from by repeat (first | (with_reducible first | exact HI0.out | apply IsS75.alloc | apply IsS75.drewN | apply IsS75.drew | apply IsS75.set_1 | apply IsS75.set_2 | refine IsS75.far ?_ NB0_115.out _) | exact HI0.out))) : gb122 ≠ g)); replace HI0 := Aside0.mk (IsS75.below (by repeat (first | (with_reducible first | exact HI0.out | apply IsS75.alloc | apply IsS75.drewN | apply IsS75.drew | apply IsS75.set_1 | apply IsS75.set_2 | refine IsS75.far ?_ NB0_115.out _) | exact HI0.out)) hb); clear hb hbox hg; have hnb12 := NB122_115.out; have hnc12 := NB115_122.out; have hnb13 := NB122_0.out; have hnc13 := NB0_122.out; obtain ⟨hcz14_0, hfz14_0, hcz14_1, hfz14_1, hcz14_2, hfz14_2⟩ := cz3 BK122) | ((with_reducible refine gate_dst (N := 13) rfl ?_); refine Kd.R_lit (Kd.int .i64) _ 3 ?hg (N := 13) ?hd (xs := ([3, 2, 4, 1, 5, 8] : List Int)) (inner := [.int .i64 3, .int .i64 2, .int .i64 4, .int .i64 1, .int .i64 5, .int .i64 8]) (ok := fun _ => True) (okp := fun _ => True) ?hr ?hp (fun _ hk => hk) trivial (Below.refl _ _) (Nat.le_refl _) (by simp) ?_; (case hd => rfl); (case hg => rfl); (case hr => first | (go_simp; done) | (go_simp; rfl)); (case hp => exact (Reps.one (show Kd.M (Kd.int .i64) _ _ _ 3 [.int .i64 3] from rfl) (Reps.one (show Kd.M (Kd.int .i64) _ _ _ 2 [.int .i64 2] from rfl) (Reps.one (show Kd.M (Kd.int .i64) _ _ _ 4 [.int .i64 4] from rfl) (Reps.one (show Kd.M (Kd.int .i64) _ _ _ 1 [.int .i64 1] from rfl) (Reps.one (show Kd.M (Kd.int .i64) _ _ _ 5 [.int .i64 5] from rfl) (Reps.one (show Kd.M (Kd.int .i64) _ _ _ 8 [.int .i64 8] from rfl) (Reps.none _ _)))))))); intro v124 w15 ho16 hb hg_ hnew_; clear hg_ hnew_; (first | rw [← Ny123.out] at ho16 | (simp only [Int.reduceToNat] at ho16; rw [← Ny123.out] at ho16)); have HO125 := Aside0.mk (Kd.R_lower (Kd.R_new' ho16 (Kd.R_lt (by (with_reducible repeat (first | apply Kd.R_alloc | apply Kd.R_drewN | apply Kd.R_drew)); exact (rF3 HO118 BK122)))) (keep_size (w := w) (g := g) (row := none) (by repeat (first | (with_reducible first | exact HK.out | apply KeepBut.set_ | apply keep_drewN | apply keep_drew | apply keep_alloc | refine keep_far ?_ GW115.out _ | refine keep_far ?_ GW122.out _) | exact HK.out)))); replace HO118 := Aside0.mk (Kd.R_elder' (by (with_reducible repeat (first | apply Kd.R_alloc | apply Kd.R_drewN | apply Kd.R_drew)); exact (rF3 HO118 BK122)) (Kd.R_base ho16) hb); replace BK115 := fB BK115 hb; replace BK122 := Aside0.mk (blk_below (g := gb122) (o := .cells #[.int .i64 t119, .slice none 0 0, .slice none 0 0] 27 (0, 0)) (by (with_reducible repeat (first | refine blk_drewN ?_ _ | refine blk_drew ?_ | refine blk_alloc ?_ _)); exact bp3 BK122.out) hb); replace HK := Aside0.mk (KeepBut.trans (by repeat (first | (with_reducible first | exact HK.out | apply KeepBut.set_ | apply keep_drewN | apply keep_drew | apply keep_alloc | refine keep_far ?_ GW115.out _ | refine keep_far ?_ GW122.out _) | exact HK.out)) (KeepBut.of_below hb g none) (.inl rfl)); replace HB := Aside0.mk (below_step (by repeat (first | (with_reducible first | exact HB.out | apply below_alloc | apply pw_below_drewN | apply below_drew1 | refine below_set ?_ (IsS75.ge HI0.out) | refine below_set ?_ GE115.out | refine below_set ?_ GE122.out) | exact HB.out)) hb); replace HI0 := Aside0.mk (IsS75.below (show IsS75 w0 (((w11.setCell ⟨gb122, 0, none⟩ (.int .i64 t119)).setCell ⟨gb122, 1, none⟩ (.slice none 0 0)).setCell ⟨gb122, 2, none⟩ (.slice none 0 0)) g s0_0 t120 t121 from by repeat (first | (with_reducible first | exact HI0.out | apply IsS75.alloc | apply IsS75.drewN | apply IsS75.drew | apply IsS75.set_1 | apply IsS75.set_2 | refine IsS75.far ?_ NB0_115.out _ | refine IsS75.far ?_ NB0_122.out _) | exact HI0.out)) hb); clear hb ho16; obtain ⟨Ao17, co17, eo17⟩ := Kd.R_slice HO125.out; subst eo17) | ((with_reducible refine gate_callee (f := 86) rfl ?_); refine goesL_ (some 14) rfl rfl Try.func86 (by kernel_rfl) rfl #[.pointer (some ⟨g, 0, none⟩), .slice Ao17 y123.length co17] rfl tM ?_; (with_reducible refine (spec_l1Cur_among.calls g s0_0 t120 t121 _ _ y123 t126 t127 t128 w0 _ ?side1 ?side2 ?side3 ?side4 ?side5 A3.out).mono ?_); (case side1 => repeat (first | (with_reducible first | exact HI0.out | apply IsS75.alloc | apply IsS75.drewN | apply IsS75.drew | apply IsS75.set_1 | apply IsS75.set_2 | refine IsS75.far ?_ NB0_115.out _ | refine IsS75.far ?_ NB0_122.out _) | exact HI0.out)); (case side2 => repeat (first | (with_reducible first | exact HB.out | apply below_alloc | apply pw_below_drewN | apply below_drew1 | refine below_set ?_ (IsS75.ge HI0.out) | refine below_set ?_ GE115.out | refine below_set ?_ GE122.out) | exact HB.out)); (case side3 => exact rC HO125); (case side4 => exact (Kd.R_reads' HO125.out).2.1); (case side5 => exact far_slice (IsS75.own_ne HI0.out HO125.out (by decide))); rintro e w18 ⟨rfl, hi, hb, hk⟩; refine ⟨_, rfl, ?_⟩; replace BK115 := Aside0.mk (KeepBut.blk hk (g' := gb115) (o := .cells #[.int .i64 0, .slice none 0 0, .slice none 0 0] 27 (0, 0)) (tK BK115.out) NB115_0.out (by simp)); replace HO118 := Aside0.mk (Kd.R_mono (Kd.R_keep (IsS75.apart (show IsS75 w0 _ g s0_0 t120 t121 from by repeat (first | (with_reducible first | exact HI0.out | apply IsS75.alloc | apply IsS75.drewN | apply IsS75.drew | apply IsS75.set_1 | apply IsS75.set_2 | refine IsS75.far ?_ NB0_115.out _ | refine IsS75.far ?_ NB0_122.out _) | exact HI0.out)) (tR HO118.out) (by decide)) hk (fun _ h => h.2)) (fun _ h => h.1)); replace BK122 := Aside0.mk (KeepBut.blk hk (g' := gb122) (o := .cells #[.int .i64 t119, .slice none 0 0, .slice none 0 0] 27 (0, 0)) (tK BK122.out) NB122_0.out (by simp)); replace HO125 := Aside0.mk (Kd.R_mono (Kd.R_keep (IsS75.apart (show IsS75 w0 _ g s0_0 t120 t121 from by repeat (first | (with_reducible first | exact HI0.out | apply IsS75.alloc | apply IsS75.drewN | apply IsS75.drew | apply IsS75.set_1 | apply IsS75.set_2 | refine IsS75.far ?_ NB0_115.out _ | refine IsS75.far ?_ NB0_122.out _) | exact HI0.out)) (tR HO125.out) (by decide)) hk (fun _ h => h.2)) (fun _ h => h.1)); replace HK := Aside0.mk (KeepBut.trans (by repeat (first | (with_reducible first | exact HK.out | apply KeepBut.set_ | apply keep_drewN | apply keep_drew | apply keep_alloc | refine keep_far ?_ GW115.out _ | refine keep_far ?_ GW122.out _) | exact HK.out)) hk (.inl rfl)); replace HB := Aside0.mk (hb); replace HI0 := Aside0.mk (hi); (try clear hb); (try clear hk); (try clear hi)) | ((with_reducible refine gate_callee (f := 96) rfl ?_); refine goesL_ (some 16) rfl rfl Try.func96 (by kernel_rfl) rfl #[.pointer (some ⟨g, 0, none⟩), .int .i64 3] rfl tM ?_; (with_reducible refine (spec_l1Cur_one.calls g s0_0 t127 t128 3 t129 t130 t131 w0 _ ?side1 ?side2 A4.out).mono ?_); (case side1 => repeat (first | (with_reducible first | exact HI0.out | apply IsS75.alloc | apply IsS75.drewN | apply IsS75.drew | apply IsS75.set_1 | apply IsS75.set_2 | refine IsS75.far ?_ NB0_115.out _ | refine IsS75.far ?_ NB0_122.out _) | exact HI0.out)); (case side2 => repeat (first | (with_reducible first | exact HB.out | apply below_alloc | apply pw_below_drewN | apply below_drew1 | refine below_set ?_ (IsS75.ge HI0.out) | refine below_set ?_ GE115.out | refine below_set ?_ GE122.out) | exact HB.out)); rintro e w19 ⟨rfl, hi, hb, hk⟩; refine ⟨_, rfl, ?_⟩; replace BK115 := Aside0.mk (KeepBut.blk hk (g' := gb115) (o := .cells #[.int .i64 0, .slice none 0 0, .slice none 0 0] 27 (0, 0)) (tK BK115.out) NB115_0.out (by simp)); replace HO118 := Aside0.mk (Kd.R_mono (Kd.R_keep (IsS75.apart (show IsS75 w0 _ g s0_0 t127 t128 from by repeat (first | (with_reducible first | exact HI0.out | apply IsS75.alloc | apply IsS75.drewN | apply IsS75.drew | apply IsS75.set_1 | apply IsS75.set_2 | refine IsS75.far ?_ NB0_115.out _ | refine IsS75.far ?_ NB0_122.out _) | exact HI0.out)) (tR HO118.out) (by decide)) hk (fun _ h => h.2)) (fun _ h => h.1)); replace BK122 := Aside0.mk (KeepBut.blk hk (g' := gb122) (o := .cells #[.int .i64 t119, .slice none 0 0, .slice none 0 0] 27 (0, 0)) (tK BK122.out) NB122_0.out (by simp)); replace HO125 := Aside0.mk (Kd.R_mono (Kd.R_keep (IsS75.apart (show IsS75 w0 _ g s0_0 t127 t128 from by repeat (first | (with_reducible first | exact HI0.out | apply IsS75.alloc | apply IsS75.drewN | apply IsS75.drew | apply IsS75.set_1 | apply IsS75.set_2 | refine IsS75.far ?_ NB0_115.out _ | refine IsS75.far ?_ NB0_122.out _) | exact HI0.out)) (tR HO125.out) (by decide)) hk (fun _ h => h.2)) (fun _ h => h.1)); replace HK := Aside0.mk (KeepBut.trans (by repeat (first | (with_reducible first | exact HK.out | apply KeepBut.set_ | apply keep_drewN | apply keep_drew | apply keep_alloc | refine keep_far ?_ GW115.out _ | refine keep_far ?_ GW122.out _) | exact HK.out)) hk (.inl rfl)); replace HB := Aside0.mk (hb); replace HI0 := Aside0.mk (hi); (try clear hb); (try clear hk); (try clear hi)))
 replace HO118 := Aside0.mk (Kd.R_drew HO118.out)
 replace HO125 := Aside0.mk (Kd.R_drew HO125.out)
 replace BK115 := Aside0.mk (blk_drew BK115.out)
 replace BK122 := Aside0.mk (blk_drew BK122.out)
 replace HI0 := Aside0.mk (IsS75.drew HI0.out)
 replace HK := Aside0.mk (keep_drew HK.out)
 replace HB := Aside0.mk (below_drew1 HB.out)
 refine start_ (n := 11) (S := fun w' => w'.cell? ⟨gb122, 0, none⟩ = some (.int .i64 t119) ∧ w'.cell? ⟨gb122, 1, none⟩ = some (.slice none 0 0) ∧ w'.cell? ⟨gb122, 2, none⟩ = some (.slice none 0 0)) (ds := []) #[n_, n_, n_, n_, n_, n_, n_, n_, n_, n_, n_] (by kernel_rfl) rfl rfl ⟨(blk_cell BK122.out 0).trans rfl, (blk_cell BK122.out 1).trans rfl, (blk_cell BK122.out 2).trans rfl⟩ (fun hHeld => ?_); refine with_tabW spec_l1Cur_pile.tab3 spec_l1Cur_pile.bits3 (fun HT_ HW_ => ?_)
 generalize w19.drew = w20 at HO118 HO125 BK115 BK122 HI0 HK HB hHeld ⊢
 refine pu 0 (some 18) #[y_, n_, n_, n_, n_, n_, n_, n_, n_, n_, n_] (any_of HT_.out (by kernel_rfl)) ?_
 refine pu 3 (some 21) #[y_, n_, n_, y_, n_, n_, n_, n_, n_, n_, n_] (any_of HT_.out (by kernel_rfl)) ?_
 refine pu 4 (some 22) #[y_, n_, n_, y_, y_, n_, n_, n_, n_, n_, n_] (any_of HT_.out (by kernel_rfl)) ?_
 refine tk 1 (some 19) #[y_, y_, n_, y_, y_, n_, n_, n_, n_, n_, n_] rfl (take_ofW HT_.out HW_.out (by kernel_rfl)) hHeld (Or.inl ⟨by rfl, by rintro w' ⟨s0, s1, s2⟩; go_simp; with_reducible rfl⟩) ?_
 refine pu 2 (some 20) #[y_, y_, y_, y_, y_, n_, n_, n_, n_, n_, n_] (any_of HT_.out (by kernel_rfl)) ?_
 refine tk 5 (some 23) #[y_, y_, y_, y_, y_, y_, n_, n_, n_, n_, n_] rfl (take_ofW HT_.out HW_.out (by kernel_rfl)) hHeld (Or.inl ⟨by rfl, by rintro w' ⟨s0, s1, s2⟩; go_simp; with_reducible rfl⟩) ?_
 refine pu 6 (some 24) #[y_, y_, y_, y_, y_, y_, y_, n_, n_, n_, n_] (any_of HT_.out (by kernel_rfl)) ?_
 refine pu 7 (some 25) #[y_, y_, y_, y_, y_, y_, y_, y_, n_, n_, n_] (any_of HT_.out (by kernel_rfl)) ?_
 refine one_ (i := 8) (N := some 26) #[y_, y_, y_, y_, y_, y_, y_, y_, y_, n_, n_] rfl rfl (one_of HT_.out (by kernel_rfl)) (by decide) (fun K hK => ?_)
 refine goes_ Try.func91 (by kernel_rfl) rfl #[.pointer (some ⟨g, 0, none⟩), .int .i64 (wrap64 ((wrap64 (Int.tdiv t119 2)) + 1))] (by rfl) rfl rfl tM ?_
 with_reducible refine (spec_l1Cur_pick.calls g s0_0 t130 t131 (wrap64 ((wrap64 (Int.tdiv t119 2)) + 1)) t132 t133 t134 w0 _ ?side1 ?side2 A5.out).mono ?_
 (case side1 => repeat (first | (with_reducible first | exact HI0.out | apply IsS75.alloc | apply IsS75.drewN | apply IsS75.drew | apply IsS75.set_1 | apply IsS75.set_2 | refine IsS75.far ?_ NB0_115.out _ | refine IsS75.far ?_ NB0_122.out _) | exact HI0.out))
 (case side2 => repeat (first | (with_reducible first | exact HB.out | apply below_alloc | apply pw_below_drewN | apply below_drew1 | refine below_set ?_ (IsS75.ge HI0.out) | refine below_set ?_ GE115.out | refine below_set ?_ GE122.out) | exact HB.out))
 rintro e w21 ⟨rfl, hi, hb, hk⟩
 refine ⟨_, rfl, ?_⟩
 replace BK115 := Aside0.mk (KeepBut.blk hk (g' := gb115) (o := .cells #[.int .i64 0, .slice none 0 0, .slice none 0 0] 27 (0, 0)) (tK BK115.out) NB115_0.out (by simp))
 replace HO118 := Aside0.mk (Kd.R_mono (Kd.R_keep (IsS75.apart (show IsS75 w0 _ g s0_0 t130 t131 from by repeat (first | (with_reducible first | exact HI0.out | apply IsS75.alloc | apply IsS75.drewN | apply IsS75.drew | apply IsS75.set_1 | apply IsS75.set_2 | refine IsS75.far ?_ NB0_115.out _ | refine IsS75.far ?_ NB0_122.out _) | exact HI0.out)) (tR HO118.out) (by decide)) hk (fun _ h => h.2)) (fun _ h => h.1))
 replace BK122 := Aside0.mk (KeepBut.blk hk (g' := gb122) (o := .cells #[.int .i64 t119, .slice none 0 0, .slice none 0 0] 27 (0, 0)) (tK BK122.out) NB122_0.out (by simp))
 replace HO125 := Aside0.mk (Kd.R_mono (Kd.R_keep (IsS75.apart (show IsS75 w0 _ g s0_0 t130 t131 from by repeat (first | (with_reducible first | exact HI0.out | apply IsS75.alloc | apply IsS75.drewN | apply IsS75.drew | apply IsS75.set_1 | apply IsS75.set_2 | refine IsS75.far ?_ NB0_115.out _ | refine IsS75.far ?_ NB0_122.out _) | exact HI0.out)) (tR HO125.out) (by decide)) hk (fun _ h => h.2)) (fun _ h => h.1))
 replace HK := Aside0.mk (KeepBut.trans (by repeat (first | (with_reducible first | exact HK.out | apply KeepBut.set_ | apply keep_drewN | apply keep_drew | apply keep_alloc | refine keep_far ?_ GW115.out _ | refine keep_far ?_ GW122.out _) | exact HK.out)) hk (.inl rfl))
 replace HB := Aside0.mk (hb)
 replace HI0 := Aside0.mk (hi)
 (try clear hb); (try clear hb2); (try clear hk); (try clear hi)
 refine hK.out _ _ ⟨(blk_cell BK122.out 0).trans rfl, (blk_cell BK122.out 1).trans rfl, (blk_cell BK122.out 2).trans rfl⟩ (fun hHeld => ?_)
 clear hK K
 refine norm_ (a' := ?_) ?_ ?_
 rotate_left
 ·
  show Act.put _ (some 26) _ = _
  simp only [Act.put, List.setIfInBounds_toArray, List.set_cons_zero, List.set_cons_succ, i64_w, i32_w]
  rfl
 refine pu 9 (some 27) #[y_, y_, y_, y_, y_, y_, y_, y_, y_, y_, n_] (any_of HT_.out (by kernel_rfl)) ?_
 refine pu 10 (some 6) #[y_, y_, y_, y_, y_, y_, y_, y_, y_, y_, y_] (any_of HT_.out (by kernel_rfl)) ?_
 refine done_ (done_of HT_.out (by kernel_rfl)) ?_
 try go_wp2
 go_loopg [6, 7] k (fun kq v6 v7 w' => ∃ (x6_1 : Int) (x7_1 : Int) (x1001_1 : Int) (x1002_1 : Int) (x123001_1 : List Int) (x123002_1 : List Int) (u123001 : Value) (u123002 : Value), v6 = .int .i64 x6_1 ∧ v7 = .int .i64 x7_1 ∧ Aside0 (spec_l1Cur_pile.l0 kq t126 (!t129) x6_1 x7_1 s0_0 x1001_1 x1002_1 t119 x123001_1 x123002_1 = some (r1, r2, r3, r4, r5)) ∧ Aside0 (kq ≤ k) ∧ Aside0 (Kd.R (Kd.int .i64) 3 w' w.heap.size (fun k_ => some k_ ≠ (u123002 : Value).ownBlock) u123001 x123001_1) ∧ Aside0 (Kd.R (Kd.int .i64) 3 w' w.heap.size (fun k_ => some k_ ≠ (u123001 : Value).ownBlock) u123002 x123002_1) ∧ Aside0 (w'.heap[gb115]? = some (.cells #[.int .i64 0, (.slice none 0 0), (.slice none 0 0)] 27 (0, 0))) ∧ Aside0 (w'.heap[gb122]? = some (.cells #[.int .i64 t119, u123001, u123002] 27 (0, 0))) ∧ Aside0 (IsS75 w0 w' g s0_0 x1001_1 x1002_1) ∧ Aside0 (KeepBut w w' g none) ∧ Aside0 (Below w0.heap.size w0 w'))
 case atStart => exact ⟨(wrap64 ((wrap64 (-t119)) + t132)), (0), (t133), (t134), (([] : List Int)), (([] : List Int)), (.slice none 0 0), (.slice none 0 0), (by first | rfl | (simp; done) | (simp [wrap64]; done) | (simp [*]; done)), (by first | rfl | (simp; done) | (simp [wrap64]; done) | (simp [*]; done)), H', ⟨Nat.le_refl _⟩, ⟨by first | exact Kd.R_nil _ _ _ _ _ | exact Kd.N_nil _ _ _ _ _ | exact Kd.V_nil _ _ _ _ _ | exact Kd.Q_nil _ _ _ _ _ | exact Kd.S_nil _ _ _ _ _⟩, ⟨by first | exact Kd.R_nil _ _ _ _ _ | exact Kd.N_nil _ _ _ _ _ | exact Kd.V_nil _ _ _ _ _ | exact Kd.Q_nil _ _ _ _ _ | exact Kd.S_nil _ _ _ _ _⟩, ⟨tK BK115.out⟩, ⟨tK BK122.out⟩, ⟨by repeat (first | (with_reducible first | exact HI0.out | apply IsS75.alloc | apply IsS75.drewN | apply IsS75.drew | apply IsS75.set_1 | apply IsS75.set_2 | refine IsS75.far ?_ NB0_115.out _ | refine IsS75.far ?_ NB0_122.out _) | exact HI0.out)⟩, ⟨by repeat (first | (with_reducible first | exact HK.out | apply KeepBut.set_ | apply keep_drewN | apply keep_drew | apply keep_alloc | refine keep_far ?_ GW115.out _ | refine keep_far ?_ GW122.out _) | exact HK.out)⟩, ⟨by repeat (first | (with_reducible first | exact HB.out | apply below_alloc | apply pw_below_drewN | apply below_drew1 | refine below_set ?_ (IsS75.ge HI0.out) | refine below_set ?_ GE115.out | refine below_set ?_ GE122.out) | exact HB.out)⟩⟩
 case round =>
  clear H'
  (try clear hcz14_0); (try clear hcz14_1); (try clear hcz14_2); (try clear hfz14_0); (try clear hfz14_1); (try clear hfz14_2)
  obtain ⟨x6_1, x7_1, x1001_1, x1002_1, x123001_1, x123002_1, u123001, u123002, rfl, rfl, HA, HK1, HO_123001, HO_123002, BK115, BK122, HI0, HK, HB⟩ := hrel
  cases gk with
  | zero => exact absurd HA.out (by simp [spec_l1Cur_pile.l0])
  | succ k1 =>
   have H := HA.out
   clear HA
   simp only [spec_l1Cur_pile.l0] at H
   by_cases c22 : x7_1 < t126
   ·
    rw [if_pos c22] at H
    have c22b0 : decide (x7_1 < t126) = true := decide_eq_true c22
    clear c22
    by_cases c23 : x123001_1.length < 17592186044416
    ·
     rw [if_pos c23] at H
     have LMc23 := Aside0.mk c23
     clear c23
     obtain ⟨y135, hy135⟩ : ∃ y_ : List Int, y_ = (x123001_1 ++ [x6_1]) := ⟨_, rfl⟩
     replace H : ((spec_l1Cur_among.f s0_0 x1001_1 x1002_1 (([1, 1, 4, 20] : List Int))).bind fun bt141 => ((spec_l1Cur_pick.f s0_0 bt141.2.1 bt141.2.2 bt141.1).bind fun bt144 => (if x123002_1.length < 17592186044416 then ((some (x123002_1 ++ [wrap64 (1 + bt144.1)] : List Int)).bind fun y147 => (if (!t129) = true then ((spec_l1Cur_pick.f s0_0 bt144.2.1 bt144.2.2 3).bind fun bt150 => (spec_l1Cur_pile.l0 k1 t126 (!t129) (wrap64 ((wrap64 (x6_1 + bt150.1)) - 1)) (wrap64 (x7_1 + 1)) s0_0 bt150.2.1 bt150.2.2 t119 y135 y147)) else ((spec_l1Cur_pick.f s0_0 bt144.2.1 bt144.2.2 (wrap64 ((wrap64 (2 * t119)) + 3))).bind fun bt153 => (spec_l1Cur_pile.l0 k1 t126 (!t129) (wrap64 ((wrap64 ((wrap64 (x6_1 + bt153.1)) - t119)) - 1)) (wrap64 (x7_1 + 1)) s0_0 bt153.2.1 bt153.2.2 t119 y135 y147)))) else (none)))) = some (r1, r2, r3, r4, r5) := by first | (rw [hy135]; with_reducible exact H) | (have H2_ := (Option.bind_some _ _).symm.trans H; rw [hy135]; with_reducible exact H2_) | (have H2_ := (Option.bind_some _ _).symm.trans H; with_reducible exact H2_) | with_reducible exact H | (rw [hy135]; exact H) | exact H
     have Ny135 := Aside0.mk hy135
     clear hy135
     obtain ⟨y138, hy138⟩ : ∃ y_ : List Int, y_ = (([1, 1, 4, 20] : List Int)) := ⟨_, rfl⟩
     replace H : ((spec_l1Cur_among.f s0_0 x1001_1 x1002_1 y138).bind fun bt141 => ((spec_l1Cur_pick.f s0_0 bt141.2.1 bt141.2.2 bt141.1).bind fun bt144 => (if x123002_1.length < 17592186044416 then ((some (x123002_1 ++ [wrap64 (1 + bt144.1)] : List Int)).bind fun y147 => (if (!t129) = true then ((spec_l1Cur_pick.f s0_0 bt144.2.1 bt144.2.2 3).bind fun bt150 => (spec_l1Cur_pile.l0 k1 t126 (!t129) (wrap64 ((wrap64 (x6_1 + bt150.1)) - 1)) (wrap64 (x7_1 + 1)) s0_0 bt150.2.1 bt150.2.2 t119 y135 y147)) else ((spec_l1Cur_pick.f s0_0 bt144.2.1 bt144.2.2 (wrap64 ((wrap64 (2 * t119)) + 3))).bind fun bt153 => (spec_l1Cur_pile.l0 k1 t126 (!t129) (wrap64 ((wrap64 ((wrap64 (x6_1 + bt153.1)) - t119)) - 1)) (wrap64 (x7_1 + 1)) s0_0 bt153.2.1 bt153.2.2 t119 y135 y147)))) else (none)))) = some (r1, r2, r3, r4, r5) := by first | (rw [hy138]; with_reducible exact H) | (have H2_ := (Option.bind_some _ _).symm.trans H; rw [hy138]; with_reducible exact H2_) | (have H2_ := (Option.bind_some _ _).symm.trans H; with_reducible exact H2_) | with_reducible exact H | (rw [hy138]; exact H) | exact H
     have Ny138 := Aside0.mk hy138
     clear hy138
     replace H := Option.bind_eq_some_iff.mp H
     obtain ⟨⟨t141, t142, t143⟩, A240, H⟩ := H
     replace H : ((spec_l1Cur_pick.f s0_0 t142 t143 t141).bind fun bt144 => (if x123002_1.length < 17592186044416 then ((some (x123002_1 ++ [wrap64 (1 + bt144.1)] : List Int)).bind fun y147 => (if (!t129) = true then ((spec_l1Cur_pick.f s0_0 bt144.2.1 bt144.2.2 3).bind fun bt150 => (spec_l1Cur_pile.l0 k1 t126 (!t129) (wrap64 ((wrap64 (x6_1 + bt150.1)) - 1)) (wrap64 (x7_1 + 1)) s0_0 bt150.2.1 bt150.2.2 t119 y135 y147)) else ((spec_l1Cur_pick.f s0_0 bt144.2.1 bt144.2.2 (wrap64 ((wrap64 (2 * t119)) + 3))).bind fun bt153 => (spec_l1Cur_pile.l0 k1 t126 (!t129) (wrap64 ((wrap64 ((wrap64 (x6_1 + bt153.1)) - t119)) - 1)) (wrap64 (x7_1 + 1)) s0_0 bt153.2.1 bt153.2.2 t119 y135 y147)))) else (none))) = some (r1, r2, r3, r4, r5) := H
     have A24 := Aside0.mk A240
     clear A240
     replace H := Option.bind_eq_some_iff.mp H
     obtain ⟨⟨t144, t145, t146⟩, A250, H⟩ := H
     replace H : (if x123002_1.length < 17592186044416 then ((some (x123002_1 ++ [wrap64 (1 + t144)] : List Int)).bind fun y147 => (if (!t129) = true then ((spec_l1Cur_pick.f s0_0 t145 t146 3).bind fun bt150 => (spec_l1Cur_pile.l0 k1 t126 (!t129) (wrap64 ((wrap64 (x6_1 + bt150.1)) - 1)) (wrap64 (x7_1 + 1)) s0_0 bt150.2.1 bt150.2.2 t119 y135 y147)) else ((spec_l1Cur_pick.f s0_0 t145 t146 (wrap64 ((wrap64 (2 * t119)) + 3))).bind fun bt153 => (spec_l1Cur_pile.l0 k1 t126 (!t129) (wrap64 ((wrap64 ((wrap64 (x6_1 + bt153.1)) - t119)) - 1)) (wrap64 (x7_1 + 1)) s0_0 bt153.2.1 bt153.2.2 t119 y135 y147)))) else (none)) = some (r1, r2, r3, r4, r5) := H
     have A25 := Aside0.mk A250
     clear A250
     by_cases c26 : x123002_1.length < 17592186044416
     ·
      rw [if_pos c26] at H
      have LMc26 := Aside0.mk c26
      clear c26
      obtain ⟨y147, hy147⟩ : ∃ y_ : List Int, y_ = (x123002_1 ++ [wrap64 (1 + t144)]) := ⟨_, rfl⟩
      replace H : (if (!t129) = true then ((spec_l1Cur_pick.f s0_0 t145 t146 3).bind fun bt150 => (spec_l1Cur_pile.l0 k1 t126 (!t129) (wrap64 ((wrap64 (x6_1 + bt150.1)) - 1)) (wrap64 (x7_1 + 1)) s0_0 bt150.2.1 bt150.2.2 t119 y135 y147)) else ((spec_l1Cur_pick.f s0_0 t145 t146 (wrap64 ((wrap64 (2 * t119)) + 3))).bind fun bt153 => (spec_l1Cur_pile.l0 k1 t126 (!t129) (wrap64 ((wrap64 ((wrap64 (x6_1 + bt153.1)) - t119)) - 1)) (wrap64 (x7_1 + 1)) s0_0 bt153.2.1 bt153.2.2 t119 y135 y147))) = some (r1, r2, r3, r4, r5) := by first | (rw [hy147]; with_reducible exact H) | (have H2_ := (Option.bind_some _ _).symm.trans H; rw [hy147]; with_reducible exact H2_) | (have H2_ := (Option.bind_some _ _).symm.trans H; with_reducible exact H2_) | with_reducible exact H | (rw [hy147]; exact H) | exact H
      have Ny147 := Aside0.mk hy147
      clear hy147
      by_cases c27 : (!t129) = true
      ·
       rw [if_pos c27] at H
       have c27b0 : (!t129) = true := c27
       clear c27
       have ng_t129 : t129 = false := by simpa using c27b0
       replace H := Option.bind_eq_some_iff.mp H
       obtain ⟨⟨t150, t151, t152⟩, A280, H⟩ := H
       replace H : (spec_l1Cur_pile.l0 k1 t126 (!t129) (wrap64 ((wrap64 (x6_1 + t150)) - 1)) (wrap64 (x7_1 + 1)) s0_0 t151 t152 t119 y135 y147) = some (r1, r2, r3, r4, r5) := H
       have A28 := Aside0.mk A280
       clear A280
       have H' := Aside0.mk H
       clear H
       have hnb29 := NB122_115.out
       have hnc29 := NB115_122.out
       have hnb30 := NB122_0.out
       have hnc30 := NB0_122.out
       obtain ⟨hcz31_0, hfz31_0, hcz31_1, hfz31_1, hcz31_2, hfz31_2⟩ := cz3 BK122
       try go_wp2_with (first | ((with_reducible refine gate_builtin (b := .append) (xs := #[.tmp 34, .tmp 36]) rfl ?_); at_builtin; refine Kd.R_append (Kd.int .i64) w.heap.size rfl (.tmp 34) (.tmp 36) 25 3 (.int .i64 0) 8 rfl Try.underlying25 info3 rfl (by decide) (by omega) u123001 x123001_1 x6_1 [.int .i64 x6_1] (fun k_ => some k_ ≠ (u123002 : Value).ownBlock) (fun _ => False) rfl rfl ?aP (fun _ hk => hk.elim) ?aF ?aO (Below.refl _ _) ?aS ?aL ?_; (case aP => exact rfl); (case aF => exact (fun k_ hk => Kd.fresh' (Kd.R_lt (tR HO_123002.out)) k_ hk)); (case aO => exact (tR HO_123001.out)); (case aS => exact (keep_size (w := w) (g := g) (row := none) (by repeat (first | (with_reducible first | exact HK.out | apply KeepBut.set_ | apply keep_drewN | apply keep_drew | apply keep_alloc | refine keep_far ?_ GW115.out _ | refine keep_far ?_ GW122.out _) | exact HK.out)))); (case aL => have := LMc23.out; omega); intro v136 w32 ho hb hg hat; rw [← Ny135.out] at ho; replace HO_123002 := Aside0.mk (Kd.R_after (ok := (fun _ => True)) (by (with_reducible repeat (first | apply Kd.R_alloc | apply Kd.R_drewN | apply Kd.R_drew)); exact Kd.R_mono HO_123002.out (fun _ hk => ⟨trivial, hk⟩)) hg hat); replace BK115 := Aside0.mk (blk_grown (g := gb115) (o := .cells #[.int .i64 0, .slice none 0 0, .slice none 0 0] 27 (0, 0)) (tK BK115.out) hg (Kd.R_ne HO_123001.out BK115.out (by decide))); replace BK122 := Aside0.mk (blk_grown (g := gb122) (o := .cells #[.int .i64 t119, u123001, u123002] 27 (0, 0)) (tK BK122.out) hg (Kd.R_ne HO_123001.out BK122.out (by decide))); replace HB := Aside0.mk (below_weaken (by repeat (first | (with_reducible first | exact HB.out | apply below_alloc | apply pw_below_drewN | apply below_drew1 | refine below_set ?_ (IsS75.ge HI0.out) | refine below_set ?_ GE115.out | refine below_set ?_ GE122.out) | exact HB.out)) HL.out hb); replace HI0 := Aside0.mk (IsS75.grown (show IsS75 w0 _ g s0_0 x1001_1 x1002_1 from by repeat (first | (with_reducible first | exact HI0.out | apply IsS75.alloc | apply IsS75.drewN | apply IsS75.drew | apply IsS75.set_1 | apply IsS75.set_2 | refine IsS75.far ?_ NB0_115.out _ | refine IsS75.far ?_ NB0_122.out _) | exact HI0.out)) hg (IsS75.own_ne HI0.out HO_123001.out (by decide))); replace HK := Aside0.mk (KeepBut.trans (by repeat (first | (with_reducible first | exact HK.out | apply KeepBut.set_ | apply keep_drewN | apply keep_drew | apply keep_alloc | refine keep_far ?_ GW115.out _ | refine keep_far ?_ GW122.out _) | exact HK.out)) (KeepBut.of_grown hg g) (Kd.R_base2 HO_123001.out)); have HO137 := Aside0.mk (ho); clear HO_123001; clear ho hb hg hat; obtain ⟨Ao33, co33, eo33⟩ := Kd.R_slice HO137.out; subst eo33; obtain ⟨hcz34_0, hfz34_0, hcz34_1, hfz34_1, hcz34_2, hfz34_2⟩ := cz3 BK122))
       have n0_ : Aside0 (Kd.R (Kd.int .i64) 3 (w32.setCell ⟨gb122, 1, none⟩ (.slice Ao33 y135.length co33)) w.heap.size (fun k_ => some k_ ≠ (.slice Ao33 y135.length co33 : Value).ownBlock) u123002 x123002_1) := ⟨by (with_reducible repeat (first | apply Kd.R_alloc | apply Kd.R_drewN | apply Kd.R_drew)); exact Kd.R_mono (Kd.R_far (p := ⟨gb122, 1, none⟩) (Kd.R_types HO_123002.out BK122.out (by decide)) (fun _ hk => hk.2) (.slice Ao33 y135.length co33)) (fun _ hk => hk.1.2)⟩
       have n1_ : Aside0 (Kd.R (Kd.int .i64) 3 (w32.setCell ⟨gb122, 1, none⟩ (.slice Ao33 y135.length co33)) w.heap.size (fun k_ => some k_ ≠ (u123002 : Value).ownBlock) (.slice Ao33 y135.length co33) y135) := ⟨by (with_reducible repeat (first | apply Kd.R_alloc | apply Kd.R_drewN | apply Kd.R_drew)); exact Kd.R_mono (Kd.R_far (p := ⟨gb122, 1, none⟩) (Kd.R_types HO137.out BK122.out (by decide)) (fun _ hk => hk.2) (.slice Ao33 y135.length co33)) (fun _ hk => hk.1)⟩
       have n2_ : Aside0 ((w32.setCell ⟨gb122, 1, none⟩ (.slice Ao33 y135.length co33)).heap[gb115]? = some (.cells #[.int .i64 0, .slice none 0 0, .slice none 0 0] 27 (0, 0))) := ⟨by (with_reducible repeat (first | refine blk_drewN ?_ _ | refine blk_drew ?_ | refine blk_alloc ?_ _)); refine blk_far ?_ NB115_122.out _; (with_reducible repeat (first | refine blk_drewN ?_ _ | refine blk_drew ?_ | refine blk_alloc ?_ _)); exact BK115.out⟩
       have n3_ : Aside0 ((w32.setCell ⟨gb122, 1, none⟩ (.slice Ao33 y135.length co33)).heap[gb122]? = some (.cells #[.int .i64 t119, .slice Ao33 y135.length co33, u123002] 27 (0, 0))) := ⟨by (with_reducible repeat (first | refine blk_drewN ?_ _ | refine blk_drew ?_ | refine blk_alloc ?_ _)); refine blk_put (cs := #[.int .i64 t119, u123001, u123002]) ?_ 1 _ rfl; (with_reducible repeat (first | refine blk_drewN ?_ _ | refine blk_drew ?_ | refine blk_alloc ?_ _)); exact BK122.out⟩
       have n4_ : Aside0 (IsS75 w0 (w32.setCell ⟨gb122, 1, none⟩ (.slice Ao33 y135.length co33)) g s0_0 x1001_1 x1002_1) := ⟨by repeat (first | (with_reducible first | exact HI0.out | apply IsS75.alloc | apply IsS75.drewN | apply IsS75.drew | apply IsS75.set_1 | apply IsS75.set_2 | refine IsS75.far ?_ NB0_115.out _ | refine IsS75.far ?_ NB0_122.out _) | exact HI0.out)⟩
       have n5_ : Aside0 (KeepBut w (w32.setCell ⟨gb122, 1, none⟩ (.slice Ao33 y135.length co33)) g none) := ⟨by repeat (first | (with_reducible first | exact HK.out | apply KeepBut.set_ | apply keep_drewN | apply keep_drew | apply keep_alloc | refine keep_far ?_ GW115.out _ | refine keep_far ?_ GW122.out _) | exact HK.out)⟩
       have n6_ : Aside0 (Below w0.heap.size w0 (w32.setCell ⟨gb122, 1, none⟩ (.slice Ao33 y135.length co33))) := ⟨by repeat (first | (with_reducible first | exact HB.out | apply below_alloc | apply pw_below_drewN | apply below_drew1 | refine below_set ?_ (IsS75.ge HI0.out) | refine below_set ?_ GE115.out | refine below_set ?_ GE122.out) | exact HB.out)⟩
       (try clear HO_123002); (try clear HO137); (try clear BK115); (try clear BK122); (try clear HI0); (try clear HK); (try clear HB)
       generalize (w32.setCell ⟨gb122, 1, none⟩ (.slice Ao33 y135.length co33)) = w35 at n0_ n1_ n2_ n3_ n4_ n5_ n6_ ⊢
       have HO_123002 := n0_
       have HO137 := n1_
       have BK115 := n2_
       have BK122 := n3_
       have HI0 := n4_
       have HK := n5_
       have HB := n6_
       clear n0_ n1_ n2_ n3_ n4_ n5_ n6_
       replace HO_123002 := Aside0.mk (Kd.R_drew HO_123002.out)
       replace HO137 := Aside0.mk (Kd.R_drew HO137.out)
       replace BK115 := Aside0.mk (blk_drew BK115.out)
       replace BK122 := Aside0.mk (blk_drew BK122.out)
       replace HI0 := Aside0.mk (IsS75.drew HI0.out)
       replace HK := Aside0.mk (keep_drew HK.out)
       replace HB := Aside0.mk (below_drew1 HB.out)
       refine start_ (n := 12) (S := fun w' => w'.cell? ⟨gb122, 0, none⟩ = some (.int .i64 t119) ∧ w'.cell? ⟨gb122, 1, none⟩ = some (.slice Ao33 y135.length co33) ∧ w'.cell? ⟨gb122, 2, none⟩ = some (u123002)) (ds := [11]) #[n_, n_, n_, n_, n_, n_, n_, n_, n_, n_, n_, n_] (by kernel_rfl) rfl rfl ⟨(blk_cell BK122.out 0).trans rfl, (blk_cell BK122.out 1).trans rfl, (blk_cell BK122.out 2).trans rfl⟩ (fun hHeld => ?_); refine with_tabW spec_l1Cur_pile.tab8 spec_l1Cur_pile.bits8 (fun HT_ HW_ => ?_)
       generalize w35.drew = w36 at HO_123002 HO137 BK115 BK122 HI0 HK HB HO137 hHeld ⊢
       refine pu 0 (some 39) #[y_, n_, n_, n_, n_, n_, n_, n_, n_, n_, n_, n_] (any_of HT_.out (by kernel_rfl)) ?_
       refine pu 2 (some 41) #[y_, n_, y_, n_, n_, n_, n_, n_, n_, n_, n_, n_] (any_of HT_.out (by kernel_rfl)) ?_
       refine pu 3 (some 42) #[y_, n_, y_, y_, n_, n_, n_, n_, n_, n_, n_, n_] (any_of HT_.out (by kernel_rfl)) ?_
       refine tk 1 (some 40) #[y_, y_, y_, y_, n_, n_, n_, n_, n_, n_, n_, n_] rfl (take_ofW HT_.out HW_.out (by kernel_rfl)) hHeld (Or.inl ⟨by rfl, by rintro w' ⟨s0, s1, s2⟩; go_simp; with_reducible rfl⟩) ?_
       refine one_ (i := 4) (N := some 43) #[y_, y_, y_, y_, y_, n_, n_, n_, n_, n_, n_, n_] rfl rfl (one_of HT_.out (by kernel_rfl)) (by decide) (fun K hK => ?_)
       refine Kd.R_lit_step (Kd.int .i64) _ 3 ?hg (N := 43) ?hd (xs := ([1, 1, 4, 20] : List Int)) (inner := [.int .i64 1, .int .i64 1, .int .i64 4, .int .i64 20]) (ok := fun _ => True) (okp := fun _ => True) ?hr ?hp (fun _ hk => hk) trivial (Below.refl _ _) (Nat.le_refl _) (by simp) ?_; (case hd => rfl); (case hg => rfl); (case hr => first | (go_simp; done) | (go_simp; rfl)); (case hp => exact (Reps.one (show Kd.M (Kd.int .i64) _ _ _ 1 [.int .i64 1] from rfl) (Reps.one (show Kd.M (Kd.int .i64) _ _ _ 1 [.int .i64 1] from rfl) (Reps.one (show Kd.M (Kd.int .i64) _ _ _ 4 [.int .i64 4] from rfl) (Reps.one (show Kd.M (Kd.int .i64) _ _ _ 20 [.int .i64 20] from rfl) (Reps.none _ _))))))
       intro v139 w37 ho38 hb hg_ hnew_
       clear hg_ hnew_
       (first | rw [← Ny138.out] at ho38 | (simp only [Int.reduceToNat] at ho38; rw [← Ny138.out] at ho38))
       have HO140 := Aside0.mk (Kd.R_lower (Kd.R_new' (Kd.R_new' ho38 (Kd.R_lt (tR HO_123002.out))) (Kd.R_lt (tR HO137.out))) (keep_size (w := w) (g := g) (row := none) (by repeat (first | (with_reducible first | exact HK.out | apply KeepBut.set_ | apply keep_drewN | apply keep_drew | apply keep_alloc | refine keep_far ?_ GW115.out _ | refine keep_far ?_ GW122.out _) | exact HK.out))))
       replace HO_123002 := Aside0.mk (Kd.R_elder' (tR HO_123002.out) (Kd.R_base ho38) hb)
       replace HO137 := Aside0.mk (Kd.R_elder' (tR HO137.out) (Kd.R_base ho38) hb)
       replace BK115 := bkB BK115 hb
       replace BK122 := bkB BK122 hb
       replace HK := Aside0.mk (KeepBut.trans (by repeat (first | (with_reducible first | exact HK.out | apply KeepBut.set_ | apply keep_drewN | apply keep_drew | apply keep_alloc | refine keep_far ?_ GW115.out _ | refine keep_far ?_ GW122.out _) | exact HK.out)) (KeepBut.of_below hb g none) (.inl rfl))
       replace HB := Aside0.mk (below_step (by repeat (first | (with_reducible first | exact HB.out | apply below_alloc | apply pw_below_drewN | apply below_drew1 | refine below_set ?_ (IsS75.ge HI0.out) | refine below_set ?_ GE115.out | refine below_set ?_ GE122.out) | exact HB.out)) hb)
       replace HI0 := Aside0.mk (IsS75.below (by repeat (first | (with_reducible first | exact HI0.out | apply IsS75.alloc | apply IsS75.drewN | apply IsS75.drew | apply IsS75.set_1 | apply IsS75.set_2 | refine IsS75.far ?_ NB0_115.out _ | refine IsS75.far ?_ NB0_122.out _) | exact HI0.out)) hb)
       clear hb ho38
       obtain ⟨Ao39, co39, eo39⟩ := Kd.R_slice HO140.out
       (first | subst eo39 | (injection eo39 with f1_ f2_ f3_; have f4_ := f1_.symm; have f5_ := f3_.symm; clear f1_ f2_ f3_; subst f4_; subst f5_))
       refine hK.out _ _ ⟨(blk_cell BK122.out 0).trans rfl, (blk_cell BK122.out 1).trans rfl, (blk_cell BK122.out 2).trans rfl⟩ (fun hHeld => ?_)
       clear hK K
       refine norm_ (a' := ?_) ?_ ?_
       rotate_left
       ·
        show Act.put _ (some 43) _ = _
        simp only [Act.put, List.setIfInBounds_toArray, List.set_cons_zero, List.set_cons_succ, i64_w, i32_w]
        rfl
       refine one_ (i := 5) (N := some 44) #[y_, y_, y_, y_, y_, y_, n_, n_, n_, n_, n_, n_] rfl rfl (one_of HT_.out (by kernel_rfl)) (by decide) (fun K hK => ?_)
       refine goes_ Try.func86 (by kernel_rfl) rfl #[.pointer (some ⟨g, 0, none⟩), .slice Ao39 y138.length co39] (by rfl) rfl rfl tM ?_
       with_reducible refine (spec_l1Cur_among.calls g s0_0 x1001_1 x1002_1 _ _ y138 t141 t142 t143 w0 _ ?side1 ?side2 ?side3 ?side4 ?side5 A24.out).mono ?_
       (case side1 => repeat (first | (with_reducible first | exact HI0.out | apply IsS75.alloc | apply IsS75.drewN | apply IsS75.drew | apply IsS75.set_1 | apply IsS75.set_2 | refine IsS75.far ?_ NB0_115.out _ | refine IsS75.far ?_ NB0_122.out _) | exact HI0.out))
       (case side2 => repeat (first | (with_reducible first | exact HB.out | apply below_alloc | apply pw_below_drewN | apply below_drew1 | refine below_set ?_ (IsS75.ge HI0.out) | refine below_set ?_ GE115.out | refine below_set ?_ GE122.out) | exact HB.out))
       (case side3 => exact rC HO140)
       (case side4 => exact (Kd.R_reads' HO140.out).2.1)
       (case side5 => exact far_slice (IsS75.own_ne HI0.out HO140.out (by decide)))
       rintro e w40 ⟨rfl, hi, hb, hk⟩
       refine ⟨_, rfl, ?_⟩
       replace HO_123002 := Aside0.mk (Kd.R_mono (Kd.R_keep (IsS75.apart (show IsS75 w0 _ g s0_0 x1001_1 x1002_1 from by repeat (first | (with_reducible first | exact HI0.out | apply IsS75.alloc | apply IsS75.drewN | apply IsS75.drew | apply IsS75.set_1 | apply IsS75.set_2 | refine IsS75.far ?_ NB0_115.out _ | refine IsS75.far ?_ NB0_122.out _) | exact HI0.out)) (tR HO_123002.out) (by decide)) hk (fun _ h => h.2)) (fun _ h => h.1))
       replace BK115 := Aside0.mk (KeepBut.blk hk (g' := gb115) (o := .cells #[.int .i64 0, .slice none 0 0, .slice none 0 0] 27 (0, 0)) (tK BK115.out) NB115_0.out (by simp))
       replace BK122 := Aside0.mk (KeepBut.blk hk (g' := gb122) (o := .cells #[.int .i64 t119, .slice Ao33 y135.length co33, u123002] 27 (0, 0)) (tK BK122.out) NB122_0.out (by simp))
       replace HO137 := Aside0.mk (Kd.R_mono (Kd.R_keep (IsS75.apart (show IsS75 w0 _ g s0_0 x1001_1 x1002_1 from by repeat (first | (with_reducible first | exact HI0.out | apply IsS75.alloc | apply IsS75.drewN | apply IsS75.drew | apply IsS75.set_1 | apply IsS75.set_2 | refine IsS75.far ?_ NB0_115.out _ | refine IsS75.far ?_ NB0_122.out _) | exact HI0.out)) (tR HO137.out) (by decide)) hk (fun _ h => h.2)) (fun _ h => h.1))
       replace HO140 := Aside0.mk (Kd.R_mono (Kd.R_keep (IsS75.apart (show IsS75 w0 _ g s0_0 x1001_1 x1002_1 from by repeat (first | (with_reducible first | exact HI0.out | apply IsS75.alloc | apply IsS75.drewN | apply IsS75.drew | apply IsS75.set_1 | apply IsS75.set_2 | refine IsS75.far ?_ NB0_115.out _ | refine IsS75.far ?_ NB0_122.out _) | exact HI0.out)) (tR HO140.out) (by decide)) hk (fun _ h => h.2)) (fun _ h => h.1))
       replace HK := Aside0.mk (KeepBut.trans (by repeat (first | (with_reducible first | exact HK.out | apply KeepBut.set_ | apply keep_drewN | apply keep_drew | apply keep_alloc | refine keep_far ?_ GW115.out _ | refine keep_far ?_ GW122.out _) | exact HK.out)) hk (.inl rfl))
       replace HB := Aside0.mk (hb)
       replace HI0 := Aside0.mk (hi)
       (try clear hb); (try clear hb2); (try clear hk); (try clear hi)
       refine hK.out _ _ ⟨(blk_cell BK122.out 0).trans rfl, (blk_cell BK122.out 1).trans rfl, (blk_cell BK122.out 2).trans rfl⟩ (fun hHeld => ?_)
       clear hK K
       refine norm_ (a' := ?_) ?_ ?_
       rotate_left
       ·
        show Act.put _ (some 44) _ = _
        simp only [Act.put, List.setIfInBounds_toArray, List.set_cons_zero, List.set_cons_succ, i64_w, i32_w]
        rfl
       refine one_ (i := 6) (N := some 45) #[y_, y_, y_, y_, y_, y_, y_, n_, n_, n_, n_, n_] rfl rfl (one_of HT_.out (by kernel_rfl)) (by decide) (fun K hK => ?_)
       refine goes_ Try.func91 (by kernel_rfl) rfl #[.pointer (some ⟨g, 0, none⟩), .int .i64 t141] (by rfl) rfl rfl tM ?_
       with_reducible refine (spec_l1Cur_pick.calls g s0_0 t142 t143 t141 t144 t145 t146 w0 _ ?side1 ?side2 A25.out).mono ?_
       (case side1 => repeat (first | (with_reducible first | exact HI0.out | apply IsS75.alloc | apply IsS75.drewN | apply IsS75.drew | apply IsS75.set_1 | apply IsS75.set_2 | refine IsS75.far ?_ NB0_115.out _ | refine IsS75.far ?_ NB0_122.out _) | exact HI0.out))
       (case side2 => repeat (first | (with_reducible first | exact HB.out | apply below_alloc | apply pw_below_drewN | apply below_drew1 | refine below_set ?_ (IsS75.ge HI0.out) | refine below_set ?_ GE115.out | refine below_set ?_ GE122.out) | exact HB.out))
       rintro e w41 ⟨rfl, hi, hb, hk⟩
       refine ⟨_, rfl, ?_⟩
       replace HO_123002 := Aside0.mk (Kd.R_mono (Kd.R_keep (IsS75.apart (show IsS75 w0 _ g s0_0 t142 t143 from by repeat (first | (with_reducible first | exact HI0.out | apply IsS75.alloc | apply IsS75.drewN | apply IsS75.drew | apply IsS75.set_1 | apply IsS75.set_2 | refine IsS75.far ?_ NB0_115.out _ | refine IsS75.far ?_ NB0_122.out _) | exact HI0.out)) (tR HO_123002.out) (by decide)) hk (fun _ h => h.2)) (fun _ h => h.1))
       replace BK115 := Aside0.mk (KeepBut.blk hk (g' := gb115) (o := .cells #[.int .i64 0, .slice none 0 0, .slice none 0 0] 27 (0, 0)) (tK BK115.out) NB115_0.out (by simp))
       replace BK122 := Aside0.mk (KeepBut.blk hk (g' := gb122) (o := .cells #[.int .i64 t119, .slice Ao33 y135.length co33, u123002] 27 (0, 0)) (tK BK122.out) NB122_0.out (by simp))
       replace HO137 := Aside0.mk (Kd.R_mono (Kd.R_keep (IsS75.apart (show IsS75 w0 _ g s0_0 t142 t143 from by repeat (first | (with_reducible first | exact HI0.out | apply IsS75.alloc | apply IsS75.drewN | apply IsS75.drew | apply IsS75.set_1 | apply IsS75.set_2 | refine IsS75.far ?_ NB0_115.out _ | refine IsS75.far ?_ NB0_122.out _) | exact HI0.out)) (tR HO137.out) (by decide)) hk (fun _ h => h.2)) (fun _ h => h.1))
       replace HO140 := Aside0.mk (Kd.R_mono (Kd.R_keep (IsS75.apart (show IsS75 w0 _ g s0_0 t142 t143 from by repeat (first | (with_reducible first | exact HI0.out | apply IsS75.alloc | apply IsS75.drewN | apply IsS75.drew | apply IsS75.set_1 | apply IsS75.set_2 | refine IsS75.far ?_ NB0_115.out _ | refine IsS75.far ?_ NB0_122.out _) | exact HI0.out)) (tR HO140.out) (by decide)) hk (fun _ h => h.2)) (fun _ h => h.1))
       replace HK := Aside0.mk (KeepBut.trans (by repeat (first | (with_reducible first | exact HK.out | apply KeepBut.set_ | apply keep_drewN | apply keep_drew | apply keep_alloc | refine keep_far ?_ GW115.out _ | refine keep_far ?_ GW122.out _) | exact HK.out)) hk (.inl rfl))
       replace HB := Aside0.mk (hb)
       replace HI0 := Aside0.mk (hi)
       (try clear hb); (try clear hb2); (try clear hk); (try clear hi)
       refine hK.out _ _ ⟨(blk_cell BK122.out 0).trans rfl, (blk_cell BK122.out 1).trans rfl, (blk_cell BK122.out 2).trans rfl⟩ (fun hHeld => ?_)
       clear hK K
       refine norm_ (a' := ?_) ?_ ?_
       rotate_left
       ·
        show Act.put _ (some 45) _ = _
        simp only [Act.put, List.setIfInBounds_toArray, List.set_cons_zero, List.set_cons_succ, i64_w, i32_w]
        rfl
       refine pu 7 (some 46) #[y_, y_, y_, y_, y_, y_, y_, y_, n_, n_, n_, n_] (any_of HT_.out (by kernel_rfl)) ?_
       refine one_ (i := 8) (N := some 47) #[y_, y_, y_, y_, y_, y_, y_, y_, y_, n_, n_, n_] rfl rfl (one_of HT_.out (by kernel_rfl)) (by decide) (fun K hK => ?_)
       refine value_ (w1 := ?_) (v := ?_) (by rfl) rfl ?_ ?_
       rotate_left 2
       ·
        go_simp
        constructor
        ·
         rfl
        ·
         rfl
       refine hK.out _ _ ⟨(blk_cell (blk_alloc BK122.out _) 0).trans rfl, (blk_cell (blk_alloc BK122.out _) 1).trans rfl, (blk_cell (blk_alloc BK122.out _) 2).trans rfl⟩ (fun hHeld => ?_)
       clear hK K
       refine norm_ (a' := ?_) ?_ ?_
       rotate_left
       ·
        show Act.put _ (some 47) _ = _
        simp only [Act.put, List.setIfInBounds_toArray, List.set_cons_zero, List.set_cons_succ, i64_w, i32_w]
        rfl
       refine one_ (i := 9) (N := some 48) #[y_, y_, y_, y_, y_, y_, y_, y_, y_, y_, n_, n_] rfl rfl (one_of HT_.out (by kernel_rfl)) (by decide) (fun K hK => ?_)
       refine Kd.R_append_step (Kd.int .i64) w.heap.size (by rfl) (.tmp 40) (.tmp 47) 25 3 (.int .i64 0) 8 rfl Try.underlying25 info3 rfl (by decide) (by omega) u123002 x123002_1 (wrap64 (1 + t144)) [.int .i64 (wrap64 (1 + t144))] (fun k_ => some k_ ≠ (.slice Ao33 y135.length co33 : Value).ownBlock ∧ some k_ ≠ (.slice Ao39 y138.length co39 : Value).ownBlock) (fun _ => False) rfl rfl ?aP (fun _ hk => hk.elim) ?aF ?aO (Below.refl _ _) ?aS ?aL ?_
       (case aP => exact rfl)
       (case aF => exact (fun k_ hk => ⟨Kd.fresh' (Kd.R_lt (tR HO137.out)) k_ hk, Kd.fresh' (Kd.R_lt (tR HO140.out)) k_ hk⟩))
       (case aO => exact (tR HO_123002.out))
       (case aS => exact (keep_size (w := w) (g := g) (row := none) (by repeat (first | (with_reducible first | exact HK.out | apply KeepBut.set_ | apply keep_drewN | apply keep_drew | apply keep_alloc | refine keep_far ?_ GW115.out _ | refine keep_far ?_ GW122.out _) | exact HK.out))))
       (case aL => have := LMc26.out; omega)
       intro v148 w42 ho hb hg hat
       rw [← Ny147.out] at ho
       replace BK115 := Aside0.mk (blk_grown (g := gb115) (o := .cells #[.int .i64 0, .slice none 0 0, .slice none 0 0] 27 (0, 0)) (tK BK115.out) hg (Kd.R_ne HO_123002.out BK115.out (by decide)))
       replace BK122 := Aside0.mk (blk_grown (g := gb122) (o := .cells #[.int .i64 t119, .slice Ao33 y135.length co33, u123002] 27 (0, 0)) (tK BK122.out) hg (Kd.R_ne HO_123002.out BK122.out (by decide)))
       replace HO137 := Aside0.mk (Kd.R_after (ok := (fun k_ => some k_ ≠ (.slice Ao39 y138.length co39 : Value).ownBlock)) (by (with_reducible repeat (first | apply Kd.R_alloc | apply Kd.R_drewN | apply Kd.R_drew)); exact Kd.R_mono HO137.out (fun _ hk => ⟨hk.2, hk.1⟩)) hg hat)
       replace HO140 := Aside0.mk (Kd.R_after (ok := (fun k_ => some k_ ≠ (.slice Ao33 y135.length co33 : Value).ownBlock)) (by (with_reducible repeat (first | apply Kd.R_alloc | apply Kd.R_drewN | apply Kd.R_drew)); exact Kd.R_mono HO140.out (fun _ hk => ⟨hk.2, hk.1.2⟩)) hg hat)
       replace HB := Aside0.mk (below_weaken (by repeat (first | (with_reducible first | exact HB.out | apply below_alloc | apply pw_below_drewN | apply below_drew1 | refine below_set ?_ (IsS75.ge HI0.out) | refine below_set ?_ GE115.out | refine below_set ?_ GE122.out) | exact HB.out)) HL.out hb)
       replace HI0 := Aside0.mk (IsS75.grown (show IsS75 w0 _ g s0_0 t145 t146 from by repeat (first | (with_reducible first | exact HI0.out | apply IsS75.alloc | apply IsS75.drewN | apply IsS75.drew | apply IsS75.set_1 | apply IsS75.set_2 | refine IsS75.far ?_ NB0_115.out _ | refine IsS75.far ?_ NB0_122.out _) | exact HI0.out)) hg (IsS75.own_ne HI0.out HO_123002.out (by decide)))
       replace HK := Aside0.mk (KeepBut.trans (by repeat (first | (with_reducible first | exact HK.out | apply KeepBut.set_ | apply keep_drewN | apply keep_drew | apply keep_alloc | refine keep_far ?_ GW115.out _ | refine keep_far ?_ GW122.out _) | exact HK.out)) (KeepBut.of_grown hg g) (Kd.R_base2 HO_123002.out))
       have HO149 := Aside0.mk (ho)
       clear HO_123002
       clear ho hb hg hat
       obtain ⟨Ao43, co43, eo43⟩ := Kd.R_slice HO149.out
       (first | subst eo43 | (injection eo43 with f1_ f2_ f3_; have f4_ := f1_.symm; have f5_ := f3_.symm; clear f1_ f2_ f3_; subst f4_; subst f5_))
       refine hK.out _ _ ⟨(blk_cell BK122.out 0).trans rfl, (blk_cell BK122.out 1).trans rfl, (blk_cell BK122.out 2).trans rfl⟩ (fun hHeld => ?_)
       clear hK K
       refine norm_ (a' := ?_) ?_ ?_
       rotate_left
       ·
        show Act.put _ (some 48) _ = _
        simp only [Act.put, List.setIfInBounds_toArray, List.set_cons_zero, List.set_cons_succ, i64_w, i32_w]
        rfl
       refine pu 10 (some 49) #[y_, y_, y_, y_, y_, y_, y_, y_, y_, y_, y_, n_] (any_of HT_.out (by kernel_rfl)) ?_
       refine last_ (i := 11) (N := none) #[y_, y_, y_, y_, y_, y_, y_, y_, y_, y_, y_, y_] rfl rfl (one_of HT_.out (by kernel_rfl)) (by decide) (fun K hK => ?_)
       have hs44 : w42.cell? ⟨gb122, 2, none⟩ = some (u123002) := (blk_cell BK122.out 2).trans rfl
       have hfs44 := blk_frozen BK122.out 2
       have hns44_0 := NB115_122.out
       have hms44_0 := NB122_115.out
       refine skip_ (w1 := ?_) (by rfl) rfl ?_ ?_
       rotate_left
       ·
        go_simp
        rfl
       refine hK.out _ _ ?_
       clear hK K
       refine done_ (done_of HT_.out (by kernel_rfl)) ?_
       try go_wp2_with (first | ((with_reducible refine gate_callee (f := 91) rfl ?_); refine goesL_ (some 53) rfl rfl Try.func91 (by kernel_rfl) rfl #[.pointer (some ⟨g, 0, none⟩), .int .i64 3] rfl tM ?_; (with_reducible refine (spec_l1Cur_pick.calls g s0_0 t145 t146 3 t150 t151 t152 w0 _ ?side1 ?side2 A28.out).mono ?_); (case side1 => repeat (first | (with_reducible first | exact HI0.out | apply IsS75.alloc | apply IsS75.drewN | apply IsS75.drew | apply IsS75.set_1 | apply IsS75.set_2 | refine IsS75.far ?_ NB0_115.out _ | refine IsS75.far ?_ NB0_122.out _) | exact HI0.out)); (case side2 => repeat (first | (with_reducible first | exact HB.out | apply below_alloc | apply pw_below_drewN | apply below_drew1 | refine below_set ?_ (IsS75.ge HI0.out) | refine below_set ?_ GE115.out | refine below_set ?_ GE122.out) | exact HB.out)); rintro e w45 ⟨rfl, hi, hb, hk⟩; refine ⟨_, rfl, ?_⟩; replace BK115 := Aside0.mk (KeepBut.blk hk (g' := gb115) (o := .cells #[.int .i64 0, .slice none 0 0, .slice none 0 0] 27 (0, 0)) (tF BK115.out) NB115_0.out (by simp)); replace HO137 := Aside0.mk (Kd.R_mono (Kd.R_keep (IsS75.apart (show IsS75 w0 _ g s0_0 t145 t146 from by repeat (first | (with_reducible first | exact HI0.out | apply IsS75.alloc | apply IsS75.drewN | apply IsS75.drew | apply IsS75.set_1 | apply IsS75.set_2 | refine IsS75.far ?_ NB0_115.out _ | refine IsS75.far ?_ NB0_122.out _) | exact HI0.out)) (by (with_reducible repeat (first | apply Kd.R_alloc | apply Kd.R_drewN | apply Kd.R_drew)); exact (Kd.R_mono (Kd.R_far (p := ⟨gb122, 2, none⟩) (Kd.R_types HO137.out BK122.out (by decide)) (fun _ hk => hk.2) (.slice Ao43 y147.length co43)) (fun _ h_ => h_.1))) (by decide)) hk (fun _ h => h.2)) (fun _ h => h.1)); replace HO140 := Aside0.mk (Kd.R_mono (Kd.R_keep (IsS75.apart (show IsS75 w0 _ g s0_0 t145 t146 from by repeat (first | (with_reducible first | exact HI0.out | apply IsS75.alloc | apply IsS75.drewN | apply IsS75.drew | apply IsS75.set_1 | apply IsS75.set_2 | refine IsS75.far ?_ NB0_115.out _ | refine IsS75.far ?_ NB0_122.out _) | exact HI0.out)) (by (with_reducible repeat (first | apply Kd.R_alloc | apply Kd.R_drewN | apply Kd.R_drew)); exact (Kd.R_mono (Kd.R_far (p := ⟨gb122, 2, none⟩) (Kd.R_types HO140.out BK122.out (by decide)) (fun _ hk => hk.2) (.slice Ao43 y147.length co43)) (fun _ h_ => h_.1))) (by decide)) hk (fun _ h => h.2)) (fun _ h => h.1)); replace HO149 := Aside0.mk (Kd.R_mono (Kd.R_keep (IsS75.apart (show IsS75 w0 _ g s0_0 t145 t146 from by repeat (first | (with_reducible first | exact HI0.out | apply IsS75.alloc | apply IsS75.drewN | apply IsS75.drew | apply IsS75.set_1 | apply IsS75.set_2 | refine IsS75.far ?_ NB0_115.out _ | refine IsS75.far ?_ NB0_122.out _) | exact HI0.out)) (by (with_reducible repeat (first | apply Kd.R_alloc | apply Kd.R_drewN | apply Kd.R_drew)); exact (Kd.R_mono (Kd.R_far (p := ⟨gb122, 2, none⟩) (Kd.R_types HO149.out BK122.out (by decide)) (fun _ hk => hk.2) (.slice Ao43 y147.length co43)) (fun _ h_ => h_.1))) (by decide)) hk (fun _ h => h.2)) (fun _ h => h.1)); replace BK122 := Aside0.mk (KeepBut.blk hk (g' := gb122) (o := .cells #[.int .i64 t119, .slice Ao33 y135.length co33, .slice Ao43 y147.length co43] 27 (0, 0)) (by (with_reducible repeat (first | refine blk_drewN ?_ _ | refine blk_drew ?_ | refine blk_alloc ?_ _)); refine blk_put (cs := #[.int .i64 t119, .slice Ao33 y135.length co33, u123002]) ?_ 2 _ rfl; (with_reducible repeat (first | refine blk_drewN ?_ _ | refine blk_drew ?_ | refine blk_alloc ?_ _)); exact BK122.out) NB122_0.out (by simp)); replace HK := Aside0.mk (KeepBut.trans (by repeat (first | (with_reducible first | exact HK.out | apply KeepBut.set_ | apply keep_drewN | apply keep_drew | apply keep_alloc | refine keep_far ?_ GW115.out _ | refine keep_far ?_ GW122.out _) | exact HK.out)) hk (.inl rfl)); replace HB := Aside0.mk (hb); replace HI0 := Aside0.mk (hi); (try clear hb); (try clear hk); (try clear hi)))
       (try subst ng_t129)
       go_roundg k1
       case measure => have := HK1.out; omega
       case rel => exact ⟨(wrap64 ((wrap64 (x6_1 + t150)) - 1)), (wrap64 (x7_1 + 1)), (t151), (t152), (y135), (y147), (.slice Ao33 y135.length co33), (.slice Ao43 y147.length co43), (by first | rfl | (simp; done) | (simp [wrap64]; done) | (simp [*]; done)), (by first | rfl | (simp; done) | (simp [wrap64]; done) | (simp [*]; done)), H', ⟨by have := HK1.out; omega⟩, ⟨by (with_reducible repeat (first | apply Kd.R_alloc | apply Kd.R_drewN | apply Kd.R_drew)); exact Kd.R_mono HO137.out (fun _ hk => hk.2)⟩, ⟨by (with_reducible repeat (first | apply Kd.R_alloc | apply Kd.R_drewN | apply Kd.R_drew)); exact Kd.R_mono HO149.out (fun _ hk => hk.1)⟩, ⟨tK BK115.out⟩, ⟨tK BK122.out⟩, ⟨by repeat (first | (with_reducible first | exact HI0.out | apply IsS75.alloc | apply IsS75.drewN | apply IsS75.drew | apply IsS75.set_1 | apply IsS75.set_2 | refine IsS75.far ?_ NB0_115.out _ | refine IsS75.far ?_ NB0_122.out _) | exact HI0.out)⟩, ⟨by repeat (first | (with_reducible first | exact HK.out | apply KeepBut.set_ | apply keep_drewN | apply keep_drew | apply keep_alloc | refine keep_far ?_ GW115.out _ | refine keep_far ?_ GW122.out _) | exact HK.out)⟩, ⟨by repeat (first | (with_reducible first | exact HB.out | apply below_alloc | apply pw_below_drewN | apply below_drew1 | refine below_set ?_ (IsS75.ge HI0.out) | refine below_set ?_ GE115.out | refine below_set ?_ GE122.out) | exact HB.out)⟩⟩
      ·
       rw [if_neg c27] at H
       have c27b0 : (!t129) = false := by simpa using c27
       clear c27
       have ng_t129 : t129 = true := by simpa using c27b0
       replace H := Option.bind_eq_some_iff.mp H
       obtain ⟨⟨t153, t154, t155⟩, A460, H⟩ := H
       replace H : (spec_l1Cur_pile.l0 k1 t126 (!t129) (wrap64 ((wrap64 ((wrap64 (x6_1 + t153)) - t119)) - 1)) (wrap64 (x7_1 + 1)) s0_0 t154 t155 t119 y135 y147) = some (r1, r2, r3, r4, r5) := H
       have A46 := Aside0.mk A460
       clear A460
       have H' := Aside0.mk H
       clear H
       have hnb47 := NB122_115.out
       have hnc47 := NB115_122.out
       have hnb48 := NB122_0.out
       have hnc48 := NB0_122.out
       obtain ⟨hcz49_0, hfz49_0, hcz49_1, hfz49_1, hcz49_2, hfz49_2⟩ := cz3 BK122
       try go_wp2_with (first | ((with_reducible refine gate_builtin (b := .append) (xs := #[.tmp 34, .tmp 36]) rfl ?_); at_builtin; refine Kd.R_append (Kd.int .i64) w.heap.size rfl (.tmp 34) (.tmp 36) 25 3 (.int .i64 0) 8 rfl Try.underlying25 info3 rfl (by decide) (by omega) u123001 x123001_1 x6_1 [.int .i64 x6_1] (fun k_ => some k_ ≠ (u123002 : Value).ownBlock) (fun _ => False) rfl rfl ?aP (fun _ hk => hk.elim) ?aF ?aO (Below.refl _ _) ?aS ?aL ?_; (case aP => exact rfl); (case aF => exact (fun k_ hk => Kd.fresh' (Kd.R_lt (tR HO_123002.out)) k_ hk)); (case aO => exact (tR HO_123001.out)); (case aS => exact (keep_size (w := w) (g := g) (row := none) (by repeat (first | (with_reducible first | exact HK.out | apply KeepBut.set_ | apply keep_drewN | apply keep_drew | apply keep_alloc | refine keep_far ?_ GW115.out _ | refine keep_far ?_ GW122.out _) | exact HK.out)))); (case aL => have := LMc23.out; omega); intro v136 w50 ho hb hg hat; rw [← Ny135.out] at ho; replace HO_123002 := Aside0.mk (Kd.R_after (ok := (fun _ => True)) (by (with_reducible repeat (first | apply Kd.R_alloc | apply Kd.R_drewN | apply Kd.R_drew)); exact Kd.R_mono HO_123002.out (fun _ hk => ⟨trivial, hk⟩)) hg hat); replace BK115 := Aside0.mk (blk_grown (g := gb115) (o := .cells #[.int .i64 0, .slice none 0 0, .slice none 0 0] 27 (0, 0)) (tK BK115.out) hg (Kd.R_ne HO_123001.out BK115.out (by decide))); replace BK122 := Aside0.mk (blk_grown (g := gb122) (o := .cells #[.int .i64 t119, u123001, u123002] 27 (0, 0)) (tK BK122.out) hg (Kd.R_ne HO_123001.out BK122.out (by decide))); replace HB := Aside0.mk (below_weaken (by repeat (first | (with_reducible first | exact HB.out | apply below_alloc | apply pw_below_drewN | apply below_drew1 | refine below_set ?_ (IsS75.ge HI0.out) | refine below_set ?_ GE115.out | refine below_set ?_ GE122.out) | exact HB.out)) HL.out hb); replace HI0 := Aside0.mk (IsS75.grown (show IsS75 w0 _ g s0_0 x1001_1 x1002_1 from by repeat (first | (with_reducible first | exact HI0.out | apply IsS75.alloc | apply IsS75.drewN | apply IsS75.drew | apply IsS75.set_1 | apply IsS75.set_2 | refine IsS75.far ?_ NB0_115.out _ | refine IsS75.far ?_ NB0_122.out _) | exact HI0.out)) hg (IsS75.own_ne HI0.out HO_123001.out (by decide))); replace HK := Aside0.mk (KeepBut.trans (by repeat (first | (with_reducible first | exact HK.out | apply KeepBut.set_ | apply keep_drewN | apply keep_drew | apply keep_alloc | refine keep_far ?_ GW115.out _ | refine keep_far ?_ GW122.out _) | exact HK.out)) (KeepBut.of_grown hg g) (Kd.R_base2 HO_123001.out)); have HO137 := Aside0.mk (ho); clear HO_123001; clear ho hb hg hat; obtain ⟨Ao51, co51, eo51⟩ := Kd.R_slice HO137.out; subst eo51; obtain ⟨hcz52_0, hfz52_0, hcz52_1, hfz52_1, hcz52_2, hfz52_2⟩ := cz3 BK122))
       have n0_ : Aside0 (Kd.R (Kd.int .i64) 3 (w50.setCell ⟨gb122, 1, none⟩ (.slice Ao51 y135.length co51)) w.heap.size (fun k_ => some k_ ≠ (.slice Ao51 y135.length co51 : Value).ownBlock) u123002 x123002_1) := ⟨by (with_reducible repeat (first | apply Kd.R_alloc | apply Kd.R_drewN | apply Kd.R_drew)); exact Kd.R_mono (Kd.R_far (p := ⟨gb122, 1, none⟩) (Kd.R_types HO_123002.out BK122.out (by decide)) (fun _ hk => hk.2) (.slice Ao51 y135.length co51)) (fun _ hk => hk.1.2)⟩
       have n1_ : Aside0 (Kd.R (Kd.int .i64) 3 (w50.setCell ⟨gb122, 1, none⟩ (.slice Ao51 y135.length co51)) w.heap.size (fun k_ => some k_ ≠ (u123002 : Value).ownBlock) (.slice Ao51 y135.length co51) y135) := ⟨by (with_reducible repeat (first | apply Kd.R_alloc | apply Kd.R_drewN | apply Kd.R_drew)); exact Kd.R_mono (Kd.R_far (p := ⟨gb122, 1, none⟩) (Kd.R_types HO137.out BK122.out (by decide)) (fun _ hk => hk.2) (.slice Ao51 y135.length co51)) (fun _ hk => hk.1)⟩
       have n2_ : Aside0 ((w50.setCell ⟨gb122, 1, none⟩ (.slice Ao51 y135.length co51)).heap[gb115]? = some (.cells #[.int .i64 0, .slice none 0 0, .slice none 0 0] 27 (0, 0))) := ⟨by (with_reducible repeat (first | refine blk_drewN ?_ _ | refine blk_drew ?_ | refine blk_alloc ?_ _)); refine blk_far ?_ NB115_122.out _; (with_reducible repeat (first | refine blk_drewN ?_ _ | refine blk_drew ?_ | refine blk_alloc ?_ _)); exact BK115.out⟩
       have n3_ : Aside0 ((w50.setCell ⟨gb122, 1, none⟩ (.slice Ao51 y135.length co51)).heap[gb122]? = some (.cells #[.int .i64 t119, .slice Ao51 y135.length co51, u123002] 27 (0, 0))) := ⟨by (with_reducible repeat (first | refine blk_drewN ?_ _ | refine blk_drew ?_ | refine blk_alloc ?_ _)); refine blk_put (cs := #[.int .i64 t119, u123001, u123002]) ?_ 1 _ rfl; (with_reducible repeat (first | refine blk_drewN ?_ _ | refine blk_drew ?_ | refine blk_alloc ?_ _)); exact BK122.out⟩
       have n4_ : Aside0 (IsS75 w0 (w50.setCell ⟨gb122, 1, none⟩ (.slice Ao51 y135.length co51)) g s0_0 x1001_1 x1002_1) := ⟨by repeat (first | (with_reducible first | exact HI0.out | apply IsS75.alloc | apply IsS75.drewN | apply IsS75.drew | apply IsS75.set_1 | apply IsS75.set_2 | refine IsS75.far ?_ NB0_115.out _ | refine IsS75.far ?_ NB0_122.out _) | exact HI0.out)⟩
       have n5_ : Aside0 (KeepBut w (w50.setCell ⟨gb122, 1, none⟩ (.slice Ao51 y135.length co51)) g none) := ⟨by repeat (first | (with_reducible first | exact HK.out | apply KeepBut.set_ | apply keep_drewN | apply keep_drew | apply keep_alloc | refine keep_far ?_ GW115.out _ | refine keep_far ?_ GW122.out _) | exact HK.out)⟩
       have n6_ : Aside0 (Below w0.heap.size w0 (w50.setCell ⟨gb122, 1, none⟩ (.slice Ao51 y135.length co51))) := ⟨by repeat (first | (with_reducible first | exact HB.out | apply below_alloc | apply pw_below_drewN | apply below_drew1 | refine below_set ?_ (IsS75.ge HI0.out) | refine below_set ?_ GE115.out | refine below_set ?_ GE122.out) | exact HB.out)⟩
       (try clear HO_123002); (try clear HO137); (try clear BK115); (try clear BK122); (try clear HI0); (try clear HK); (try clear HB)
       generalize (w50.setCell ⟨gb122, 1, none⟩ (.slice Ao51 y135.length co51)) = w53 at n0_ n1_ n2_ n3_ n4_ n5_ n6_ ⊢
       have HO_123002 := n0_
       have HO137 := n1_
       have BK115 := n2_
       have BK122 := n3_
       have HI0 := n4_
       have HK := n5_
       have HB := n6_
       clear n0_ n1_ n2_ n3_ n4_ n5_ n6_
       replace HO_123002 := Aside0.mk (Kd.R_drew HO_123002.out)
       replace HO137 := Aside0.mk (Kd.R_drew HO137.out)
       replace BK115 := Aside0.mk (blk_drew BK115.out)
       replace BK122 := Aside0.mk (blk_drew BK122.out)
       replace HI0 := Aside0.mk (IsS75.drew HI0.out)
       replace HK := Aside0.mk (keep_drew HK.out)
       replace HB := Aside0.mk (below_drew1 HB.out)
       refine start_ (n := 12) (S := fun w' => w'.cell? ⟨gb122, 0, none⟩ = some (.int .i64 t119) ∧ w'.cell? ⟨gb122, 1, none⟩ = some (.slice Ao51 y135.length co51) ∧ w'.cell? ⟨gb122, 2, none⟩ = some (u123002)) (ds := [11]) #[n_, n_, n_, n_, n_, n_, n_, n_, n_, n_, n_, n_] (by kernel_rfl) rfl rfl ⟨(blk_cell BK122.out 0).trans rfl, (blk_cell BK122.out 1).trans rfl, (blk_cell BK122.out 2).trans rfl⟩ (fun hHeld => ?_); refine with_tabW spec_l1Cur_pile.tab8 spec_l1Cur_pile.bits8 (fun HT_ HW_ => ?_)
       generalize w53.drew = w54 at HO_123002 HO137 BK115 BK122 HI0 HK HB HO137 hHeld ⊢
       refine pu 0 (some 39) #[y_, n_, n_, n_, n_, n_, n_, n_, n_, n_, n_, n_] (any_of HT_.out (by kernel_rfl)) ?_
       refine pu 2 (some 41) #[y_, n_, y_, n_, n_, n_, n_, n_, n_, n_, n_, n_] (any_of HT_.out (by kernel_rfl)) ?_
       refine pu 3 (some 42) #[y_, n_, y_, y_, n_, n_, n_, n_, n_, n_, n_, n_] (any_of HT_.out (by kernel_rfl)) ?_
       refine tk 1 (some 40) #[y_, y_, y_, y_, n_, n_, n_, n_, n_, n_, n_, n_] rfl (take_ofW HT_.out HW_.out (by kernel_rfl)) hHeld (Or.inl ⟨by rfl, by rintro w' ⟨s0, s1, s2⟩; go_simp; with_reducible rfl⟩) ?_
       refine one_ (i := 4) (N := some 43) #[y_, y_, y_, y_, y_, n_, n_, n_, n_, n_, n_, n_] rfl rfl (one_of HT_.out (by kernel_rfl)) (by decide) (fun K hK => ?_)
       refine Kd.R_lit_step (Kd.int .i64) _ 3 ?hg (N := 43) ?hd (xs := ([1, 1, 4, 20] : List Int)) (inner := [.int .i64 1, .int .i64 1, .int .i64 4, .int .i64 20]) (ok := fun _ => True) (okp := fun _ => True) ?hr ?hp (fun _ hk => hk) trivial (Below.refl _ _) (Nat.le_refl _) (by simp) ?_; (case hd => rfl); (case hg => rfl); (case hr => first | (go_simp; done) | (go_simp; rfl)); (case hp => exact (Reps.one (show Kd.M (Kd.int .i64) _ _ _ 1 [.int .i64 1] from rfl) (Reps.one (show Kd.M (Kd.int .i64) _ _ _ 1 [.int .i64 1] from rfl) (Reps.one (show Kd.M (Kd.int .i64) _ _ _ 4 [.int .i64 4] from rfl) (Reps.one (show Kd.M (Kd.int .i64) _ _ _ 20 [.int .i64 20] from rfl) (Reps.none _ _))))))
       intro v139 w55 ho56 hb hg_ hnew_
       clear hg_ hnew_
       (first | rw [← Ny138.out] at ho56 | (simp only [Int.reduceToNat] at ho56; rw [← Ny138.out] at ho56))
       have HO140 := Aside0.mk (Kd.R_lower (Kd.R_new' (Kd.R_new' ho56 (Kd.R_lt (tR HO_123002.out))) (Kd.R_lt (tR HO137.out))) (keep_size (w := w) (g := g) (row := none) (by repeat (first | (with_reducible first | exact HK.out | apply KeepBut.set_ | apply keep_drewN | apply keep_drew | apply keep_alloc | refine keep_far ?_ GW115.out _ | refine keep_far ?_ GW122.out _) | exact HK.out))))
       replace HO_123002 := Aside0.mk (Kd.R_elder' (tR HO_123002.out) (Kd.R_base ho56) hb)
       replace HO137 := Aside0.mk (Kd.R_elder' (tR HO137.out) (Kd.R_base ho56) hb)
       replace BK115 := bkB BK115 hb
       replace BK122 := bkB BK122 hb
       replace HK := Aside0.mk (KeepBut.trans (by repeat (first | (with_reducible first | exact HK.out | apply KeepBut.set_ | apply keep_drewN | apply keep_drew | apply keep_alloc | refine keep_far ?_ GW115.out _ | refine keep_far ?_ GW122.out _) | exact HK.out)) (KeepBut.of_below hb g none) (.inl rfl))
       replace HB := Aside0.mk (below_step (by repeat (first | (with_reducible first | exact HB.out | apply below_alloc | apply pw_below_drewN | apply below_drew1 | refine below_set ?_ (IsS75.ge HI0.out) | refine below_set ?_ GE115.out | refine below_set ?_ GE122.out) | exact HB.out)) hb)
       replace HI0 := Aside0.mk (IsS75.below (by repeat (first | (with_reducible first | exact HI0.out | apply IsS75.alloc | apply IsS75.drewN | apply IsS75.drew | apply IsS75.set_1 | apply IsS75.set_2 | refine IsS75.far ?_ NB0_115.out _ | refine IsS75.far ?_ NB0_122.out _) | exact HI0.out)) hb)
       clear hb ho56
       obtain ⟨Ao57, co57, eo57⟩ := Kd.R_slice HO140.out
       (first | subst eo57 | (injection eo57 with f1_ f2_ f3_; have f4_ := f1_.symm; have f5_ := f3_.symm; clear f1_ f2_ f3_; subst f4_; subst f5_))
       refine hK.out _ _ ⟨(blk_cell BK122.out 0).trans rfl, (blk_cell BK122.out 1).trans rfl, (blk_cell BK122.out 2).trans rfl⟩ (fun hHeld => ?_)
       clear hK K
       refine norm_ (a' := ?_) ?_ ?_
       rotate_left
       ·
        show Act.put _ (some 43) _ = _
        simp only [Act.put, List.setIfInBounds_toArray, List.set_cons_zero, List.set_cons_succ, i64_w, i32_w]
        rfl
       refine one_ (i := 5) (N := some 44) #[y_, y_, y_, y_, y_, y_, n_, n_, n_, n_, n_, n_] rfl rfl (one_of HT_.out (by kernel_rfl)) (by decide) (fun K hK => ?_)
       refine goes_ Try.func86 (by kernel_rfl) rfl #[.pointer (some ⟨g, 0, none⟩), .slice Ao57 y138.length co57] (by rfl) rfl rfl tM ?_
       with_reducible refine (spec_l1Cur_among.calls g s0_0 x1001_1 x1002_1 _ _ y138 t141 t142 t143 w0 _ ?side1 ?side2 ?side3 ?side4 ?side5 A24.out).mono ?_
       (case side1 => repeat (first | (with_reducible first | exact HI0.out | apply IsS75.alloc | apply IsS75.drewN | apply IsS75.drew | apply IsS75.set_1 | apply IsS75.set_2 | refine IsS75.far ?_ NB0_115.out _ | refine IsS75.far ?_ NB0_122.out _) | exact HI0.out))
       (case side2 => repeat (first | (with_reducible first | exact HB.out | apply below_alloc | apply pw_below_drewN | apply below_drew1 | refine below_set ?_ (IsS75.ge HI0.out) | refine below_set ?_ GE115.out | refine below_set ?_ GE122.out) | exact HB.out))
       (case side3 => exact rC HO140)
       (case side4 => exact (Kd.R_reads' HO140.out).2.1)
       (case side5 => exact far_slice (IsS75.own_ne HI0.out HO140.out (by decide)))
       rintro e w58 ⟨rfl, hi, hb, hk⟩
       refine ⟨_, rfl, ?_⟩
       replace HO_123002 := Aside0.mk (Kd.R_mono (Kd.R_keep (IsS75.apart (show IsS75 w0 _ g s0_0 x1001_1 x1002_1 from by repeat (first | (with_reducible first | exact HI0.out | apply IsS75.alloc | apply IsS75.drewN | apply IsS75.drew | apply IsS75.set_1 | apply IsS75.set_2 | refine IsS75.far ?_ NB0_115.out _ | refine IsS75.far ?_ NB0_122.out _) | exact HI0.out)) (tR HO_123002.out) (by decide)) hk (fun _ h => h.2)) (fun _ h => h.1))
       replace BK115 := Aside0.mk (KeepBut.blk hk (g' := gb115) (o := .cells #[.int .i64 0, .slice none 0 0, .slice none 0 0] 27 (0, 0)) (tK BK115.out) NB115_0.out (by simp))
       replace BK122 := Aside0.mk (KeepBut.blk hk (g' := gb122) (o := .cells #[.int .i64 t119, .slice Ao51 y135.length co51, u123002] 27 (0, 0)) (tK BK122.out) NB122_0.out (by simp))
       replace HO137 := Aside0.mk (Kd.R_mono (Kd.R_keep (IsS75.apart (show IsS75 w0 _ g s0_0 x1001_1 x1002_1 from by repeat (first | (with_reducible first | exact HI0.out | apply IsS75.alloc | apply IsS75.drewN | apply IsS75.drew | apply IsS75.set_1 | apply IsS75.set_2 | refine IsS75.far ?_ NB0_115.out _ | refine IsS75.far ?_ NB0_122.out _) | exact HI0.out)) (tR HO137.out) (by decide)) hk (fun _ h => h.2)) (fun _ h => h.1))
       replace HO140 := Aside0.mk (Kd.R_mono (Kd.R_keep (IsS75.apart (show IsS75 w0 _ g s0_0 x1001_1 x1002_1 from by repeat (first | (with_reducible first | exact HI0.out | apply IsS75.alloc | apply IsS75.drewN | apply IsS75.drew | apply IsS75.set_1 | apply IsS75.set_2 | refine IsS75.far ?_ NB0_115.out _ | refine IsS75.far ?_ NB0_122.out _) | exact HI0.out)) (tR HO140.out) (by decide)) hk (fun _ h => h.2)) (fun _ h => h.1))
       replace HK := Aside0.mk (KeepBut.trans (by repeat (first | (with_reducible first | exact HK.out | apply KeepBut.set_ | apply keep_drewN | apply keep_drew | apply keep_alloc | refine keep_far ?_ GW115.out _ | refine keep_far ?_ GW122.out _) | exact HK.out)) hk (.inl rfl))
       replace HB := Aside0.mk (hb)
       replace HI0 := Aside0.mk (hi)
       (try clear hb); (try clear hb2); (try clear hk); (try clear hi)
       refine hK.out _ _ ⟨(blk_cell BK122.out 0).trans rfl, (blk_cell BK122.out 1).trans rfl, (blk_cell BK122.out 2).trans rfl⟩ (fun hHeld => ?_)
       clear hK K
       refine norm_ (a' := ?_) ?_ ?_
       rotate_left
       ·
        show Act.put _ (some 44) _ = _
        simp only [Act.put, List.setIfInBounds_toArray, List.set_cons_zero, List.set_cons_succ, i64_w, i32_w]
        rfl
       refine one_ (i := 6) (N := some 45) #[y_, y_, y_, y_, y_, y_, y_, n_, n_, n_, n_, n_] rfl rfl (one_of HT_.out (by kernel_rfl)) (by decide) (fun K hK => ?_)
       refine goes_ Try.func91 (by kernel_rfl) rfl #[.pointer (some ⟨g, 0, none⟩), .int .i64 t141] (by rfl) rfl rfl tM ?_
       with_reducible refine (spec_l1Cur_pick.calls g s0_0 t142 t143 t141 t144 t145 t146 w0 _ ?side1 ?side2 A25.out).mono ?_
       (case side1 => repeat (first | (with_reducible first | exact HI0.out | apply IsS75.alloc | apply IsS75.drewN | apply IsS75.drew | apply IsS75.set_1 | apply IsS75.set_2 | refine IsS75.far ?_ NB0_115.out _ | refine IsS75.far ?_ NB0_122.out _) | exact HI0.out))
       (case side2 => repeat (first | (with_reducible first | exact HB.out | apply below_alloc | apply pw_below_drewN | apply below_drew1 | refine below_set ?_ (IsS75.ge HI0.out) | refine below_set ?_ GE115.out | refine below_set ?_ GE122.out) | exact HB.out))
       rintro e w59 ⟨rfl, hi, hb, hk⟩
       refine ⟨_, rfl, ?_⟩
       replace HO_123002 := Aside0.mk (Kd.R_mono (Kd.R_keep (IsS75.apart (show IsS75 w0 _ g s0_0 t142 t143 from by repeat (first | (with_reducible first | exact HI0.out | apply IsS75.alloc | apply IsS75.drewN | apply IsS75.drew | apply IsS75.set_1 | apply IsS75.set_2 | refine IsS75.far ?_ NB0_115.out _ | refine IsS75.far ?_ NB0_122.out _) | exact HI0.out)) (tR HO_123002.out) (by decide)) hk (fun _ h => h.2)) (fun _ h => h.1))
       replace BK115 := Aside0.mk (KeepBut.blk hk (g' := gb115) (o := .cells #[.int .i64 0, .slice none 0 0, .slice none 0 0] 27 (0, 0)) (tK BK115.out) NB115_0.out (by simp))
       replace BK122 := Aside0.mk (KeepBut.blk hk (g' := gb122) (o := .cells #[.int .i64 t119, .slice Ao51 y135.length co51, u123002] 27 (0, 0)) (tK BK122.out) NB122_0.out (by simp))
       replace HO137 := Aside0.mk (Kd.R_mono (Kd.R_keep (IsS75.apart (show IsS75 w0 _ g s0_0 t142 t143 from by repeat (first | (with_reducible first | exact HI0.out | apply IsS75.alloc | apply IsS75.drewN | apply IsS75.drew | apply IsS75.set_1 | apply IsS75.set_2 | refine IsS75.far ?_ NB0_115.out _ | refine IsS75.far ?_ NB0_122.out _) | exact HI0.out)) (tR HO137.out) (by decide)) hk (fun _ h => h.2)) (fun _ h => h.1))
       replace HO140 := Aside0.mk (Kd.R_mono (Kd.R_keep (IsS75.apart (show IsS75 w0 _ g s0_0 t142 t143 from by repeat (first | (with_reducible first | exact HI0.out | apply IsS75.alloc | apply IsS75.drewN | apply IsS75.drew | apply IsS75.set_1 | apply IsS75.set_2 | refine IsS75.far ?_ NB0_115.out _ | refine IsS75.far ?_ NB0_122.out _) | exact HI0.out)) (tR HO140.out) (by decide)) hk (fun _ h => h.2)) (fun _ h => h.1))
       replace HK := Aside0.mk (KeepBut.trans (by repeat (first | (with_reducible first | exact HK.out | apply KeepBut.set_ | apply keep_drewN | apply keep_drew | apply keep_alloc | refine keep_far ?_ GW115.out _ | refine keep_far ?_ GW122.out _) | exact HK.out)) hk (.inl rfl))
       replace HB := Aside0.mk (hb)
       replace HI0 := Aside0.mk (hi)
       (try clear hb); (try clear hb2); (try clear hk); (try clear hi)
       refine hK.out _ _ ⟨(blk_cell BK122.out 0).trans rfl, (blk_cell BK122.out 1).trans rfl, (blk_cell BK122.out 2).trans rfl⟩ (fun hHeld => ?_)
       clear hK K
       refine norm_ (a' := ?_) ?_ ?_
       rotate_left
       ·
        show Act.put _ (some 45) _ = _
        simp only [Act.put, List.setIfInBounds_toArray, List.set_cons_zero, List.set_cons_succ, i64_w, i32_w]
        rfl
       refine pu 7 (some 46) #[y_, y_, y_, y_, y_, y_, y_, y_, n_, n_, n_, n_] (any_of HT_.out (by kernel_rfl)) ?_
       refine one_ (i := 8) (N := some 47) #[y_, y_, y_, y_, y_, y_, y_, y_, y_, n_, n_, n_] rfl rfl (one_of HT_.out (by kernel_rfl)) (by decide) (fun K hK => ?_)
       refine value_ (w1 := ?_) (v := ?_) (by rfl) rfl ?_ ?_
       rotate_left 2
       ·
        go_simp
        constructor
        ·
         rfl
        ·
         rfl
       refine hK.out _ _ ⟨(blk_cell (blk_alloc BK122.out _) 0).trans rfl, (blk_cell (blk_alloc BK122.out _) 1).trans rfl, (blk_cell (blk_alloc BK122.out _) 2).trans rfl⟩ (fun hHeld => ?_)
       clear hK K
       refine norm_ (a' := ?_) ?_ ?_
       rotate_left
       ·
        show Act.put _ (some 47) _ = _
        simp only [Act.put, List.setIfInBounds_toArray, List.set_cons_zero, List.set_cons_succ, i64_w, i32_w]
        rfl
       refine one_ (i := 9) (N := some 48) #[y_, y_, y_, y_, y_, y_, y_, y_, y_, y_, n_, n_] rfl rfl (one_of HT_.out (by kernel_rfl)) (by decide) (fun K hK => ?_)
       refine Kd.R_append_step (Kd.int .i64) w.heap.size (by rfl) (.tmp 40) (.tmp 47) 25 3 (.int .i64 0) 8 rfl Try.underlying25 info3 rfl (by decide) (by omega) u123002 x123002_1 (wrap64 (1 + t144)) [.int .i64 (wrap64 (1 + t144))] (fun k_ => some k_ ≠ (.slice Ao51 y135.length co51 : Value).ownBlock ∧ some k_ ≠ (.slice Ao57 y138.length co57 : Value).ownBlock) (fun _ => False) rfl rfl ?aP (fun _ hk => hk.elim) ?aF ?aO (Below.refl _ _) ?aS ?aL ?_
       (case aP => exact rfl)
       (case aF => exact (fun k_ hk => ⟨Kd.fresh' (Kd.R_lt (tR HO137.out)) k_ hk, Kd.fresh' (Kd.R_lt (tR HO140.out)) k_ hk⟩))
       (case aO => exact (tR HO_123002.out))
       (case aS => exact (keep_size (w := w) (g := g) (row := none) (by repeat (first | (with_reducible first | exact HK.out | apply KeepBut.set_ | apply keep_drewN | apply keep_drew | apply keep_alloc | refine keep_far ?_ GW115.out _ | refine keep_far ?_ GW122.out _) | exact HK.out))))
       (case aL => have := LMc26.out; omega)
       intro v148 w60 ho hb hg hat
       rw [← Ny147.out] at ho
       replace BK115 := Aside0.mk (blk_grown (g := gb115) (o := .cells #[.int .i64 0, .slice none 0 0, .slice none 0 0] 27 (0, 0)) (tK BK115.out) hg (Kd.R_ne HO_123002.out BK115.out (by decide)))
       replace BK122 := Aside0.mk (blk_grown (g := gb122) (o := .cells #[.int .i64 t119, .slice Ao51 y135.length co51, u123002] 27 (0, 0)) (tK BK122.out) hg (Kd.R_ne HO_123002.out BK122.out (by decide)))
       replace HO137 := Aside0.mk (Kd.R_after (ok := (fun k_ => some k_ ≠ (.slice Ao57 y138.length co57 : Value).ownBlock)) (by (with_reducible repeat (first | apply Kd.R_alloc | apply Kd.R_drewN | apply Kd.R_drew)); exact Kd.R_mono HO137.out (fun _ hk => ⟨hk.2, hk.1⟩)) hg hat)
       replace HO140 := Aside0.mk (Kd.R_after (ok := (fun k_ => some k_ ≠ (.slice Ao51 y135.length co51 : Value).ownBlock)) (by (with_reducible repeat (first | apply Kd.R_alloc | apply Kd.R_drewN | apply Kd.R_drew)); exact Kd.R_mono HO140.out (fun _ hk => ⟨hk.2, hk.1.2⟩)) hg hat)
       replace HB := Aside0.mk (below_weaken (by repeat (first | (with_reducible first | exact HB.out | apply below_alloc | apply pw_below_drewN | apply below_drew1 | refine below_set ?_ (IsS75.ge HI0.out) | refine below_set ?_ GE115.out | refine below_set ?_ GE122.out) | exact HB.out)) HL.out hb)
       replace HI0 := Aside0.mk (IsS75.grown (show IsS75 w0 _ g s0_0 t145 t146 from by repeat (first | (with_reducible first | exact HI0.out | apply IsS75.alloc | apply IsS75.drewN | apply IsS75.drew | apply IsS75.set_1 | apply IsS75.set_2 | refine IsS75.far ?_ NB0_115.out _ | refine IsS75.far ?_ NB0_122.out _) | exact HI0.out)) hg (IsS75.own_ne HI0.out HO_123002.out (by decide)))
       replace HK := Aside0.mk (KeepBut.trans (by repeat (first | (with_reducible first | exact HK.out | apply KeepBut.set_ | apply keep_drewN | apply keep_drew | apply keep_alloc | refine keep_far ?_ GW115.out _ | refine keep_far ?_ GW122.out _) | exact HK.out)) (KeepBut.of_grown hg g) (Kd.R_base2 HO_123002.out))
       have HO149 := Aside0.mk (ho)
       clear HO_123002
       clear ho hb hg hat
       obtain ⟨Ao61, co61, eo61⟩ := Kd.R_slice HO149.out
       (first | subst eo61 | (injection eo61 with f1_ f2_ f3_; have f4_ := f1_.symm; have f5_ := f3_.symm; clear f1_ f2_ f3_; subst f4_; subst f5_))
       refine hK.out _ _ ⟨(blk_cell BK122.out 0).trans rfl, (blk_cell BK122.out 1).trans rfl, (blk_cell BK122.out 2).trans rfl⟩ (fun hHeld => ?_)
       clear hK K
       refine norm_ (a' := ?_) ?_ ?_
       rotate_left
       ·
        show Act.put _ (some 48) _ = _
        simp only [Act.put, List.setIfInBounds_toArray, List.set_cons_zero, List.set_cons_succ, i64_w, i32_w]
        rfl
       refine pu 10 (some 49) #[y_, y_, y_, y_, y_, y_, y_, y_, y_, y_, y_, n_] (any_of HT_.out (by kernel_rfl)) ?_
       refine last_ (i := 11) (N := none) #[y_, y_, y_, y_, y_, y_, y_, y_, y_, y_, y_, y_] rfl rfl (one_of HT_.out (by kernel_rfl)) (by decide) (fun K hK => ?_)
       have hs62 : w60.cell? ⟨gb122, 2, none⟩ = some (u123002) := (blk_cell BK122.out 2).trans rfl
       have hfs62 := blk_frozen BK122.out 2
       have hns62_0 := NB115_122.out
       have hms62_0 := NB122_115.out
       refine skip_ (w1 := ?_) (by rfl) rfl ?_ ?_
       rotate_left
       ·
        go_simp
        rfl
       refine hK.out _ _ ?_
       clear hK K
       refine done_ (done_of HT_.out (by kernel_rfl)) ?_
       try go_wp2
       have n0_ : Aside0 (Kd.R (Kd.int .i64) 3 (w60.setCell ⟨gb122, 2, none⟩ (.slice Ao61 y147.length co61)) w.heap.size (fun k_ => some k_ ≠ (.slice Ao57 y138.length co57 : Value).ownBlock ∧ some k_ ≠ (.slice Ao61 y147.length co61 : Value).ownBlock) (.slice Ao51 y135.length co51) y135) := ⟨by (with_reducible repeat (first | apply Kd.R_alloc | apply Kd.R_drewN | apply Kd.R_drew)); exact Kd.R_mono (Kd.R_far (p := ⟨gb122, 2, none⟩) (Kd.R_types HO137.out BK122.out (by decide)) (fun _ hk => hk.2) (.slice Ao61 y147.length co61)) (fun _ hk => ⟨hk.1.1, hk.1.2⟩)⟩
       have n1_ : Aside0 (Kd.R (Kd.int .i64) 3 (w60.setCell ⟨gb122, 2, none⟩ (.slice Ao61 y147.length co61)) w.heap.size (fun k_ => some k_ ≠ (.slice Ao51 y135.length co51 : Value).ownBlock ∧ some k_ ≠ (.slice Ao61 y147.length co61 : Value).ownBlock) (.slice Ao57 y138.length co57) y138) := ⟨by (with_reducible repeat (first | apply Kd.R_alloc | apply Kd.R_drewN | apply Kd.R_drew)); exact Kd.R_mono (Kd.R_far (p := ⟨gb122, 2, none⟩) (Kd.R_types HO140.out BK122.out (by decide)) (fun _ hk => hk.2) (.slice Ao61 y147.length co61)) (fun _ hk => ⟨hk.1.1, hk.1.2⟩)⟩
       have n2_ : Aside0 (Kd.R (Kd.int .i64) 3 (w60.setCell ⟨gb122, 2, none⟩ (.slice Ao61 y147.length co61)) w.heap.size (fun k_ => some k_ ≠ (.slice Ao51 y135.length co51 : Value).ownBlock ∧ some k_ ≠ (.slice Ao57 y138.length co57 : Value).ownBlock) (.slice Ao61 y147.length co61) y147) := ⟨by (with_reducible repeat (first | apply Kd.R_alloc | apply Kd.R_drewN | apply Kd.R_drew)); exact Kd.R_mono (Kd.R_far (p := ⟨gb122, 2, none⟩) (Kd.R_types HO149.out BK122.out (by decide)) (fun _ hk => hk.2) (.slice Ao61 y147.length co61)) (fun _ hk => ⟨hk.1.1, hk.1.2⟩)⟩
       have n3_ : Aside0 ((w60.setCell ⟨gb122, 2, none⟩ (.slice Ao61 y147.length co61)).heap[gb115]? = some (.cells #[.int .i64 0, .slice none 0 0, .slice none 0 0] 27 (0, 0))) := ⟨by (with_reducible repeat (first | refine blk_drewN ?_ _ | refine blk_drew ?_ | refine blk_alloc ?_ _)); refine blk_far ?_ NB115_122.out _; (with_reducible repeat (first | refine blk_drewN ?_ _ | refine blk_drew ?_ | refine blk_alloc ?_ _)); exact BK115.out⟩
       have n4_ : Aside0 ((w60.setCell ⟨gb122, 2, none⟩ (.slice Ao61 y147.length co61)).heap[gb122]? = some (.cells #[.int .i64 t119, .slice Ao51 y135.length co51, .slice Ao61 y147.length co61] 27 (0, 0))) := ⟨by (with_reducible repeat (first | refine blk_drewN ?_ _ | refine blk_drew ?_ | refine blk_alloc ?_ _)); refine blk_put (cs := #[.int .i64 t119, .slice Ao51 y135.length co51, u123002]) ?_ 2 _ rfl; (with_reducible repeat (first | refine blk_drewN ?_ _ | refine blk_drew ?_ | refine blk_alloc ?_ _)); exact BK122.out⟩
       have n5_ : Aside0 (IsS75 w0 (w60.setCell ⟨gb122, 2, none⟩ (.slice Ao61 y147.length co61)) g s0_0 t145 t146) := ⟨by repeat (first | (with_reducible first | exact HI0.out | apply IsS75.alloc | apply IsS75.drewN | apply IsS75.drew | apply IsS75.set_1 | apply IsS75.set_2 | refine IsS75.far ?_ NB0_115.out _ | refine IsS75.far ?_ NB0_122.out _) | exact HI0.out)⟩
       have n6_ : Aside0 (KeepBut w (w60.setCell ⟨gb122, 2, none⟩ (.slice Ao61 y147.length co61)) g none) := ⟨by repeat (first | (with_reducible first | exact HK.out | apply KeepBut.set_ | apply keep_drewN | apply keep_drew | apply keep_alloc | refine keep_far ?_ GW115.out _ | refine keep_far ?_ GW122.out _) | exact HK.out)⟩
       have n7_ : Aside0 (Below w0.heap.size w0 (w60.setCell ⟨gb122, 2, none⟩ (.slice Ao61 y147.length co61))) := ⟨by repeat (first | (with_reducible first | exact HB.out | apply below_alloc | apply pw_below_drewN | apply below_drew1 | refine below_set ?_ (IsS75.ge HI0.out) | refine below_set ?_ GE115.out | refine below_set ?_ GE122.out) | exact HB.out)⟩
       (try clear HO137); (try clear HO140); (try clear HO149); (try clear BK115); (try clear BK122); (try clear HI0); (try clear HK); (try clear HB)
       generalize (w60.setCell ⟨gb122, 2, none⟩ (.slice Ao61 y147.length co61)) = w63 at n0_ n1_ n2_ n3_ n4_ n5_ n6_ n7_ ⊢
       have HO137 := n0_
       have HO140 := n1_
       have HO149 := n2_
       have BK115 := n3_
       have BK122 := n4_
       have HI0 := n5_
       have HK := n6_
       have HB := n7_
       clear n0_ n1_ n2_ n3_ n4_ n5_ n6_ n7_
       replace HO137 := Aside0.mk (Kd.R_drew HO137.out)
       replace HO140 := Aside0.mk (Kd.R_drew HO140.out)
       replace HO149 := Aside0.mk (Kd.R_drew HO149.out)
       replace BK115 := Aside0.mk (blk_drew BK115.out)
       replace BK122 := Aside0.mk (blk_drew BK122.out)
       replace HI0 := Aside0.mk (IsS75.drew HI0.out)
       replace HK := Aside0.mk (keep_drew HK.out)
       replace HB := Aside0.mk (below_drew1 HB.out)
       refine start_ (n := 13) (S := fun w' => w'.cell? ⟨gb122, 0, none⟩ = some (.int .i64 t119) ∧ w'.cell? ⟨gb122, 1, none⟩ = some (.slice Ao51 y135.length co51) ∧ w'.cell? ⟨gb122, 2, none⟩ = some (.slice Ao61 y147.length co61)) (ds := []) #[n_, n_, n_, n_, n_, n_, n_, n_, n_, n_, n_, n_, n_] (by kernel_rfl) rfl rfl ⟨(blk_cell BK122.out 0).trans rfl, (blk_cell BK122.out 1).trans rfl, (blk_cell BK122.out 2).trans rfl⟩ (fun hHeld => ?_); refine with_tabW spec_l1Cur_pile.tab11 spec_l1Cur_pile.bits11 (fun HT_ HW_ => ?_)
       generalize w63.drew = w64 at HO137 HO140 HO149 BK115 BK122 HI0 HK HB HO137 HO140 HO149 hHeld ⊢
       refine pu 0 (some 56) #[y_, n_, n_, n_, n_, n_, n_, n_, n_, n_, n_, n_, n_] (any_of HT_.out (by kernel_rfl)) ?_
       refine pu 1 (some 57) #[y_, y_, n_, n_, n_, n_, n_, n_, n_, n_, n_, n_, n_] (any_of HT_.out (by kernel_rfl)) ?_
       refine pu 2 (some 58) #[y_, y_, y_, n_, n_, n_, n_, n_, n_, n_, n_, n_, n_] (any_of HT_.out (by kernel_rfl)) ?_
       refine pu 8 (some 64) #[y_, y_, y_, n_, n_, n_, n_, n_, y_, n_, n_, n_, n_] (any_of HT_.out (by kernel_rfl)) ?_
       refine tk 3 (some 59) #[y_, y_, y_, y_, n_, n_, n_, n_, y_, n_, n_, n_, n_] rfl (take_ofW HT_.out HW_.out (by kernel_rfl)) hHeld (Or.inl ⟨by rfl, by rintro w' ⟨s0, s1, s2⟩; go_simp; with_reducible rfl⟩) ?_
       refine pu 4 (some 60) #[y_, y_, y_, y_, y_, n_, n_, n_, y_, n_, n_, n_, n_] (any_of HT_.out (by kernel_rfl)) ?_
       refine pu 5 (some 61) #[y_, y_, y_, y_, y_, y_, n_, n_, y_, n_, n_, n_, n_] (any_of HT_.out (by kernel_rfl)) ?_
       refine tk 9 (some 65) #[y_, y_, y_, y_, y_, y_, n_, n_, y_, y_, n_, n_, n_] rfl (take_ofW HT_.out HW_.out (by kernel_rfl)) hHeld (Or.inl ⟨by rfl, by rintro w' ⟨s0, s1, s2⟩; go_simp; with_reducible rfl⟩) ?_
       refine one_ (i := 6) (N := some 62) #[y_, y_, y_, y_, y_, y_, y_, n_, y_, y_, n_, n_, n_] rfl rfl (one_of HT_.out (by kernel_rfl)) (by decide) (fun K hK => ?_)
       refine goes_ Try.func91 (by kernel_rfl) rfl #[.pointer (some ⟨g, 0, none⟩), .int .i64 (wrap64 ((wrap64 (2 * t119)) + 3))] (by rfl) rfl rfl tM ?_
       with_reducible refine (spec_l1Cur_pick.calls g s0_0 t145 t146 (wrap64 ((wrap64 (2 * t119)) + 3)) t153 t154 t155 w0 _ ?side1 ?side2 A46.out).mono ?_
       (case side1 => repeat (first | (with_reducible first | exact HI0.out | apply IsS75.alloc | apply IsS75.drewN | apply IsS75.drew | apply IsS75.set_1 | apply IsS75.set_2 | refine IsS75.far ?_ NB0_115.out _ | refine IsS75.far ?_ NB0_122.out _) | exact HI0.out))
       (case side2 => repeat (first | (with_reducible first | exact HB.out | apply below_alloc | apply pw_below_drewN | apply below_drew1 | refine below_set ?_ (IsS75.ge HI0.out) | refine below_set ?_ GE115.out | refine below_set ?_ GE122.out) | exact HB.out))
       rintro e w65 ⟨rfl, hi, hb, hk⟩
       refine ⟨_, rfl, ?_⟩
       replace BK115 := Aside0.mk (KeepBut.blk hk (g' := gb115) (o := .cells #[.int .i64 0, .slice none 0 0, .slice none 0 0] 27 (0, 0)) (tK BK115.out) NB115_0.out (by simp))
       replace BK122 := Aside0.mk (KeepBut.blk hk (g' := gb122) (o := .cells #[.int .i64 t119, .slice Ao51 y135.length co51, .slice Ao61 y147.length co61] 27 (0, 0)) (tK BK122.out) NB122_0.out (by simp))
       replace HO137 := Aside0.mk (Kd.R_mono (Kd.R_keep (IsS75.apart (show IsS75 w0 _ g s0_0 t145 t146 from by repeat (first | (with_reducible first | exact HI0.out | apply IsS75.alloc | apply IsS75.drewN | apply IsS75.drew | apply IsS75.set_1 | apply IsS75.set_2 | refine IsS75.far ?_ NB0_115.out _ | refine IsS75.far ?_ NB0_122.out _) | exact HI0.out)) (tR HO137.out) (by decide)) hk (fun _ h => h.2)) (fun _ h => h.1))
       replace HO140 := Aside0.mk (Kd.R_mono (Kd.R_keep (IsS75.apart (show IsS75 w0 _ g s0_0 t145 t146 from by repeat (first | (with_reducible first | exact HI0.out | apply IsS75.alloc | apply IsS75.drewN | apply IsS75.drew | apply IsS75.set_1 | apply IsS75.set_2 | refine IsS75.far ?_ NB0_115.out _ | refine IsS75.far ?_ NB0_122.out _) | exact HI0.out)) (tR HO140.out) (by decide)) hk (fun _ h => h.2)) (fun _ h => h.1))
       replace HO149 := Aside0.mk (Kd.R_mono (Kd.R_keep (IsS75.apart (show IsS75 w0 _ g s0_0 t145 t146 from by repeat (first | (with_reducible first | exact HI0.out | apply IsS75.alloc | apply IsS75.drewN | apply IsS75.drew | apply IsS75.set_1 | apply IsS75.set_2 | refine IsS75.far ?_ NB0_115.out _ | refine IsS75.far ?_ NB0_122.out _) | exact HI0.out)) (tR HO149.out) (by decide)) hk (fun _ h => h.2)) (fun _ h => h.1))
       replace HK := Aside0.mk (KeepBut.trans (by repeat (first | (with_reducible first | exact HK.out | apply KeepBut.set_ | apply keep_drewN | apply keep_drew | apply keep_alloc | refine keep_far ?_ GW115.out _ | refine keep_far ?_ GW122.out _) | exact HK.out)) hk (.inl rfl))
       replace HB := Aside0.mk (hb)
       replace HI0 := Aside0.mk (hi)
       (try clear hb); (try clear hb2); (try clear hk); (try clear hi)
       refine hK.out _ _ ⟨(blk_cell BK122.out 0).trans rfl, (blk_cell BK122.out 1).trans rfl, (blk_cell BK122.out 2).trans rfl⟩ (fun hHeld => ?_)
       clear hK K
       refine norm_ (a' := ?_) ?_ ?_
       rotate_left
       ·
        show Act.put _ (some 62) _ = _
        simp only [Act.put, List.setIfInBounds_toArray, List.set_cons_zero, List.set_cons_succ, i64_w, i32_w]
        rfl
       refine pu 7 (some 63) #[y_, y_, y_, y_, y_, y_, y_, y_, y_, y_, n_, n_, n_] (any_of HT_.out (by kernel_rfl)) ?_
       refine pu 10 (some 66) #[y_, y_, y_, y_, y_, y_, y_, y_, y_, y_, y_, n_, n_] (any_of HT_.out (by kernel_rfl)) ?_
       refine pu 11 (some 67) #[y_, y_, y_, y_, y_, y_, y_, y_, y_, y_, y_, y_, n_] (any_of HT_.out (by kernel_rfl)) ?_
       refine pu 12 (some 6) #[y_, y_, y_, y_, y_, y_, y_, y_, y_, y_, y_, y_, y_] (any_of HT_.out (by kernel_rfl)) ?_
       refine done_ (done_of HT_.out (by kernel_rfl)) ?_
       try go_wp2
       (try subst ng_t129)
       go_roundg k1
       case measure => have := HK1.out; omega
       case rel => exact ⟨(wrap64 ((wrap64 ((wrap64 (x6_1 + t153)) - t119)) - 1)), (wrap64 (x7_1 + 1)), (t154), (t155), (y135), (y147), (.slice Ao51 y135.length co51), (.slice Ao61 y147.length co61), (by first | rfl | (simp; done) | (simp [wrap64]; done) | (simp [*]; done)), (by first | rfl | (simp; done) | (simp [wrap64]; done) | (simp [*]; done)), H', ⟨by have := HK1.out; omega⟩, ⟨by (with_reducible repeat (first | apply Kd.R_alloc | apply Kd.R_drewN | apply Kd.R_drew)); exact Kd.R_mono HO137.out (fun _ hk => hk.2)⟩, ⟨by (with_reducible repeat (first | apply Kd.R_alloc | apply Kd.R_drewN | apply Kd.R_drew)); exact Kd.R_mono HO149.out (fun _ hk => hk.1)⟩, ⟨tK BK115.out⟩, ⟨tK BK122.out⟩, ⟨by repeat (first | (with_reducible first | exact HI0.out | apply IsS75.alloc | apply IsS75.drewN | apply IsS75.drew | apply IsS75.set_1 | apply IsS75.set_2 | refine IsS75.far ?_ NB0_115.out _ | refine IsS75.far ?_ NB0_122.out _) | exact HI0.out)⟩, ⟨by repeat (first | (with_reducible first | exact HK.out | apply KeepBut.set_ | apply keep_drewN | apply keep_drew | apply keep_alloc | refine keep_far ?_ GW115.out _ | refine keep_far ?_ GW122.out _) | exact HK.out)⟩, ⟨by repeat (first | (with_reducible first | exact HB.out | apply below_alloc | apply pw_below_drewN | apply below_drew1 | refine below_set ?_ (IsS75.ge HI0.out) | refine below_set ?_ GE115.out | refine below_set ?_ GE122.out) | exact HB.out)⟩⟩
     ·
      rw [if_neg c26] at H
      exact absurd H (by simp)
    ·
     rw [if_neg c23] at H
     exact absurd H (by simp)
   ·
    rw [if_neg c22] at H
    have c22b0 : decide (x7_1 < t126) = false := decide_eq_false c22
    clear c22
    replace H := Option.bind_eq_some_iff.mp H
    obtain ⟨⟨t156, t157, t158⟩, A660, H⟩ := H
    replace H : (if t156 = 0 then ((spec_l1Cur_among.f s0_0 t157 t158 (([0, 25, (-1)] : List Int))).bind fun bt162 => (some (bt162.1, x123001_1, x123002_1, bt162.2.1, bt162.2.2))) else (if t156 = 1 then ((spec_l1Cur_pick.f s0_0 t157 t158 t126).bind fun bt165 => ((spec_l1Cur_among.f s0_0 bt165.2.1 bt165.2.2 (([99, 100, (-100), 4611686018427387904] : List Int))).bind fun bt171 => (if 0 ≤ bt165.1 then (if bt165.1 < (x123001_1.length : Int) then (some (t119, (x123001_1.set (bt165.1 : Int).toNat bt171.1), x123002_1, bt171.2.1, bt171.2.2)) else (none)) else (none)))) else (if t156 = 2 then ((spec_l1Cur_pick.f s0_0 t157 t158 t126).bind fun bt175 => ((spec_l1Cur_among.f s0_0 bt175.2.1 bt175.2.2 (([0, 99, 100, (-1)] : List Int))).bind fun bt181 => (if 0 ≤ bt175.1 then (if bt175.1 < (x123002_1.length : Int) then (some (t119, x123001_1, (x123002_1.set (bt175.1 : Int).toNat bt181.1), bt181.2.1, bt181.2.2)) else (none)) else (none)))) else (if t156 = 3 then (if x123002_1.length < 17592186044416 then (some (t119, x123001_1, (x123002_1 ++ [1]), t157, t158)) else (none)) else (if t156 = 4 then (spec_l1Cur_pile.l1 k1 x6_1 s0_0 t157 t158 t119 x123001_1 x123002_1) else (some (t119, x123001_1, x123002_1, t157, t158))))))) = some (r1, r2, r3, r4, r5) := H
    have A66 := Aside0.mk A660
    clear A660
    by_cases c67 : t156 = 0
    ·
     rw [if_pos c67] at H
     have c67b0 : (t156 == 0) = true := beq_iff_eq.mpr c67
     have c67b1 : (t156 != 0) = false := bne_eq_false_iff_eq.mpr c67
     clear c67
     obtain ⟨y159, hy159⟩ : ∃ y_ : List Int, y_ = (([0, 25, (-1)] : List Int)) := ⟨_, rfl⟩
     replace H : ((spec_l1Cur_among.f s0_0 t157 t158 y159).bind fun bt162 => (some (bt162.1, x123001_1, x123002_1, bt162.2.1, bt162.2.2))) = some (r1, r2, r3, r4, r5) := by first | (rw [hy159]; with_reducible exact H) | (have H2_ := (Option.bind_some _ _).symm.trans H; rw [hy159]; with_reducible exact H2_) | (have H2_ := (Option.bind_some _ _).symm.trans H; with_reducible exact H2_) | with_reducible exact H | (rw [hy159]; exact H) | exact H
     have Ny159 := Aside0.mk hy159
     clear hy159
     replace H := Option.bind_eq_some_iff.mp H
     obtain ⟨⟨t162, t163, t164⟩, A680, H⟩ := H
     replace H : (some (t162, x123001_1, x123002_1, t163, t164)) = some (r1, r2, r3, r4, r5) := H
     have A68 := Aside0.mk A680
     clear A680
     simp only [Option.some.injEq, Prod.mk.injEq] at H
     obtain ⟨rfl, rfl, rfl, rfl, rfl⟩ := H
     go_wp2_with (first | ((with_reducible refine gate_callee (f := 91) rfl ?_); refine goesL_ (some 69) rfl rfl Try.func91 (by kernel_rfl) rfl #[.pointer (some ⟨g, 0, none⟩), .int .i64 50] rfl tM ?_; (with_reducible refine (spec_l1Cur_pick.calls g s0_0 x1001_1 x1002_1 50 t156 t157 t158 w0 _ ?side1 ?side2 A66.out).mono ?_); (case side1 => repeat (first | (with_reducible first | exact HI0.out | apply IsS75.alloc | apply IsS75.drewN | apply IsS75.drew | apply IsS75.set_1 | apply IsS75.set_2 | refine IsS75.far ?_ NB0_115.out _ | refine IsS75.far ?_ NB0_122.out _) | exact HI0.out)); (case side2 => repeat (first | (with_reducible first | exact HB.out | apply below_alloc | apply pw_below_drewN | apply below_drew1 | refine below_set ?_ (IsS75.ge HI0.out) | refine below_set ?_ GE115.out | refine below_set ?_ GE122.out) | exact HB.out)); rintro e w69 ⟨rfl, hi, hb, hk⟩; refine ⟨_, rfl, ?_⟩; replace HO_123001 := Aside0.mk (Kd.R_mono (Kd.R_keep (IsS75.apart (show IsS75 w0 _ g s0_0 x1001_1 x1002_1 from by repeat (first | (with_reducible first | exact HI0.out | apply IsS75.alloc | apply IsS75.drewN | apply IsS75.drew | apply IsS75.set_1 | apply IsS75.set_2 | refine IsS75.far ?_ NB0_115.out _ | refine IsS75.far ?_ NB0_122.out _) | exact HI0.out)) (tR HO_123001.out) (by decide)) hk (fun _ h => h.2)) (fun _ h => h.1)); replace HO_123002 := Aside0.mk (Kd.R_mono (Kd.R_keep (IsS75.apart (show IsS75 w0 _ g s0_0 x1001_1 x1002_1 from by repeat (first | (with_reducible first | exact HI0.out | apply IsS75.alloc | apply IsS75.drewN | apply IsS75.drew | apply IsS75.set_1 | apply IsS75.set_2 | refine IsS75.far ?_ NB0_115.out _ | refine IsS75.far ?_ NB0_122.out _) | exact HI0.out)) (tR HO_123002.out) (by decide)) hk (fun _ h => h.2)) (fun _ h => h.1)); replace BK115 := Aside0.mk (KeepBut.blk hk (g' := gb115) (o := .cells #[.int .i64 0, .slice none 0 0, .slice none 0 0] 27 (0, 0)) (tK BK115.out) NB115_0.out (by simp)); replace BK122 := Aside0.mk (KeepBut.blk hk (g' := gb122) (o := .cells #[.int .i64 t119, u123001, u123002] 27 (0, 0)) (tK BK122.out) NB122_0.out (by simp)); replace HK := Aside0.mk (KeepBut.trans (by repeat (first | (with_reducible first | exact HK.out | apply KeepBut.set_ | apply keep_drewN | apply keep_drew | apply keep_alloc | refine keep_far ?_ GW115.out _ | refine keep_far ?_ GW122.out _) | exact HK.out)) hk (.inl rfl)); replace HB := Aside0.mk (hb); replace HI0 := Aside0.mk (hi); (try clear hb); (try clear hk); (try clear hi)) | ((with_reducible refine gate_dst (N := 73) rfl ?_); refine Kd.R_lit (Kd.int .i64) _ 3 ?hg (N := 73) ?hd (xs := ([0, 25, (-1)] : List Int)) (inner := [.int .i64 0, .int .i64 25, .int .i64 (-1)]) (ok := fun _ => True) (okp := fun _ => True) ?hr ?hp (fun _ hk => hk) trivial (Below.refl _ _) (Nat.le_refl _) (by simp) ?_; (case hd => rfl); (case hg => rfl); (case hr => first | (go_simp; done) | (go_simp; rfl)); (case hp => exact (Reps.one (show Kd.M (Kd.int .i64) _ _ _ 0 [.int .i64 0] from rfl) (Reps.one (show Kd.M (Kd.int .i64) _ _ _ 25 [.int .i64 25] from rfl) (Reps.one (show Kd.M (Kd.int .i64) _ _ _ (-1) [.int .i64 (-1)] from rfl) (Reps.none _ _))))); intro v160 w70 ho71 hb hg_ hnew_; clear hg_ hnew_; (first | rw [← Ny159.out] at ho71 | (simp only [Int.reduceToNat] at ho71; rw [← Ny159.out] at ho71)); have HO161 := Aside0.mk (Kd.R_lower (Kd.R_new' (Kd.R_new' ho71 (Kd.R_lt (tR HO_123001.out))) (Kd.R_lt (tR HO_123002.out))) (keep_size (w := w) (g := g) (row := none) (by repeat (first | (with_reducible first | exact HK.out | apply KeepBut.set_ | apply keep_drewN | apply keep_drew | apply keep_alloc | refine keep_far ?_ GW115.out _ | refine keep_far ?_ GW122.out _) | exact HK.out)))); replace HO_123001 := Aside0.mk (Kd.R_elder' (tR HO_123001.out) (Kd.R_base ho71) hb); replace HO_123002 := Aside0.mk (Kd.R_elder' (tR HO_123002.out) (Kd.R_base ho71) hb); replace BK115 := bkB BK115 hb; replace BK122 := bkB BK122 hb; replace HK := Aside0.mk (KeepBut.trans (by repeat (first | (with_reducible first | exact HK.out | apply KeepBut.set_ | apply keep_drewN | apply keep_drew | apply keep_alloc | refine keep_far ?_ GW115.out _ | refine keep_far ?_ GW122.out _) | exact HK.out)) (KeepBut.of_below hb g none) (.inl rfl)); replace HB := Aside0.mk (below_step (by repeat (first | (with_reducible first | exact HB.out | apply below_alloc | apply pw_below_drewN | apply below_drew1 | refine below_set ?_ (IsS75.ge HI0.out) | refine below_set ?_ GE115.out | refine below_set ?_ GE122.out) | exact HB.out)) hb); replace HI0 := Aside0.mk (IsS75.below (by repeat (first | (with_reducible first | exact HI0.out | apply IsS75.alloc | apply IsS75.drewN | apply IsS75.drew | apply IsS75.set_1 | apply IsS75.set_2 | refine IsS75.far ?_ NB0_115.out _ | refine IsS75.far ?_ NB0_122.out _) | exact HI0.out)) hb); clear hb ho71; obtain ⟨Ao72, co72, eo72⟩ := Kd.R_slice HO161.out; subst eo72) | ((with_reducible refine gate_callee (f := 86) rfl ?_); refine goesL_ (some 74) rfl rfl Try.func86 (by kernel_rfl) rfl #[.pointer (some ⟨g, 0, none⟩), .slice Ao72 y159.length co72] rfl tM ?_; (with_reducible refine (spec_l1Cur_among.calls g s0_0 t157 t158 _ _ y159 t162 t163 t164 w0 _ ?side1 ?side2 ?side3 ?side4 ?side5 A68.out).mono ?_); (case side1 => repeat (first | (with_reducible first | exact HI0.out | apply IsS75.alloc | apply IsS75.drewN | apply IsS75.drew | apply IsS75.set_1 | apply IsS75.set_2 | refine IsS75.far ?_ NB0_115.out _ | refine IsS75.far ?_ NB0_122.out _) | exact HI0.out)); (case side2 => repeat (first | (with_reducible first | exact HB.out | apply below_alloc | apply pw_below_drewN | apply below_drew1 | refine below_set ?_ (IsS75.ge HI0.out) | refine below_set ?_ GE115.out | refine below_set ?_ GE122.out) | exact HB.out)); (case side3 => exact rC HO161); (case side4 => exact (Kd.R_reads' HO161.out).2.1); (case side5 => exact far_slice (IsS75.own_ne HI0.out HO161.out (by decide))); rintro e w73 ⟨rfl, hi, hb, hk⟩; refine ⟨_, rfl, ?_⟩; replace HO_123001 := Aside0.mk (Kd.R_mono (Kd.R_keep (IsS75.apart (show IsS75 w0 _ g s0_0 t157 t158 from by repeat (first | (with_reducible first | exact HI0.out | apply IsS75.alloc | apply IsS75.drewN | apply IsS75.drew | apply IsS75.set_1 | apply IsS75.set_2 | refine IsS75.far ?_ NB0_115.out _ | refine IsS75.far ?_ NB0_122.out _) | exact HI0.out)) (tR HO_123001.out) (by decide)) hk (fun _ h => h.2)) (fun _ h => h.1)); replace HO_123002 := Aside0.mk (Kd.R_mono (Kd.R_keep (IsS75.apart (show IsS75 w0 _ g s0_0 t157 t158 from by repeat (first | (with_reducible first | exact HI0.out | apply IsS75.alloc | apply IsS75.drewN | apply IsS75.drew | apply IsS75.set_1 | apply IsS75.set_2 | refine IsS75.far ?_ NB0_115.out _ | refine IsS75.far ?_ NB0_122.out _) | exact HI0.out)) (tR HO_123002.out) (by decide)) hk (fun _ h => h.2)) (fun _ h => h.1)); replace BK115 := Aside0.mk (KeepBut.blk hk (g' := gb115) (o := .cells #[.int .i64 0, .slice none 0 0, .slice none 0 0] 27 (0, 0)) (tK BK115.out) NB115_0.out (by simp)); replace BK122 := Aside0.mk (KeepBut.blk hk (g' := gb122) (o := .cells #[.int .i64 t119, u123001, u123002] 27 (0, 0)) (tK BK122.out) NB122_0.out (by simp)); replace HO161 := Aside0.mk (Kd.R_mono (Kd.R_keep (IsS75.apart (show IsS75 w0 _ g s0_0 t157 t158 from by repeat (first | (with_reducible first | exact HI0.out | apply IsS75.alloc | apply IsS75.drewN | apply IsS75.drew | apply IsS75.set_1 | apply IsS75.set_2 | refine IsS75.far ?_ NB0_115.out _ | refine IsS75.far ?_ NB0_122.out _) | exact HI0.out)) (tR HO161.out) (by decide)) hk (fun _ h => h.2)) (fun _ h => h.1)); replace HK := Aside0.mk (KeepBut.trans (by repeat (first | (with_reducible first | exact HK.out | apply KeepBut.set_ | apply keep_drewN | apply keep_drew | apply keep_alloc | refine keep_far ?_ GW115.out _ | refine keep_far ?_ GW122.out _) | exact HK.out)) hk (.inl rfl)); replace HB := Aside0.mk (hb); replace HI0 := Aside0.mk (hi); (try clear hb); (try clear hk); (try clear hi); have hnb74 := NB122_115.out; have hnc74 := NB115_122.out; have hnb75 := NB122_0.out; have hnc75 := NB0_122.out; obtain ⟨hcz76_0, hfz76_0, hcz76_1, hfz76_1, hcz76_2, hfz76_2⟩ := cz3 BK122; have hnb77 := NB115_0.out; have hnc77 := NB0_115.out; obtain ⟨hcz78_0, hfz78_0, hcz78_1, hfz78_1, hcz78_2, hfz78_2⟩ := cz3 BK115; obtain ⟨Ao79, co79, eo79⟩ := Kd.R_slice HO_123001.out; subst eo79; obtain ⟨Ao80, co80, eo80⟩ := Kd.R_slice HO_123002.out; subst eo80))
     refine bodyPost_ret (results_cell_row rfl _ _ gb115 27 #[.int .i64 t162, .slice Ao79 x123001_1.length co79, .slice Ao80 x123002_1.length co80] (0, 0) _ rfl (by (with_reducible repeat (first | refine blk_drewN ?_ _ | refine blk_drew ?_ | refine blk_alloc ?_ _)); refine blk_put (cs := #[.int .i64 t162, .slice Ao79 x123001_1.length co79, .slice none 0 0]) ?_ 2 _ rfl; (with_reducible repeat (first | refine blk_drewN ?_ _ | refine blk_drew ?_ | refine blk_alloc ?_ _)); refine blk_put (cs := #[.int .i64 t162, .slice none 0 0, .slice none 0 0]) ?_ 1 _ rfl; (with_reducible repeat (first | refine blk_drewN ?_ _ | refine blk_drew ?_ | refine blk_alloc ?_ _)); refine blk_put (cs := #[.int .i64 0, .slice none 0 0, .slice none 0 0]) ?_ 0 _ rfl; (with_reducible repeat (first | refine blk_drewN ?_ _ | refine blk_drew ?_ | refine blk_alloc ?_ _)); refine blk_far ?_ NB115_122.out _; (with_reducible repeat (first | refine blk_drewN ?_ _ | refine blk_drew ?_ | refine blk_alloc ?_ _)); exact BK115.out) Try.underlying27 rfl (by kernel_rfl)) rfl ?_
     exact ⟨_, _, by first | rfl | (simp [errW_none, errW_some] <;> rfl) | (simp [*, errW_none, errW_some] <;> rfl), by (with_reducible repeat (first | apply Kd.R_alloc | apply Kd.R_drewN | apply Kd.R_drew)); exact Kd.R_mono (Kd.R_far (p := ⟨gb115, 2, none⟩) (Kd.R_far (p := ⟨gb115, 1, none⟩) (Kd.R_far (p := ⟨gb115, 0, none⟩) (Kd.R_far (p := ⟨gb122, 0, none⟩) (Kd.R_types (Kd.R_types HO_123001.out BK122.out (by decide)) BK115.out (by decide)) (fun _ hk => hk.1.2) (.int .i64 t162)) (fun _ hk => hk.2) (.int .i64 t162)) (fun _ hk => hk.2) (.slice Ao79 x123001_1.length co79)) (fun _ hk => hk.2) (.slice Ao80 x123002_1.length co80)) (fun _ hk => hk.1.1.1), by (with_reducible repeat (first | apply Kd.R_alloc | apply Kd.R_drewN | apply Kd.R_drew)); exact Kd.R_mono (Kd.R_far (p := ⟨gb115, 2, none⟩) (Kd.R_far (p := ⟨gb115, 1, none⟩) (Kd.R_far (p := ⟨gb115, 0, none⟩) (Kd.R_far (p := ⟨gb122, 0, none⟩) (Kd.R_types (Kd.R_types HO_123002.out BK122.out (by decide)) BK115.out (by decide)) (fun _ hk => hk.1.2) (.int .i64 t162)) (fun _ hk => hk.2) (.int .i64 t162)) (fun _ hk => hk.2) (.slice Ao79 x123001_1.length co79)) (fun _ hk => hk.2) (.slice Ao80 x123002_1.length co80)) (fun _ hk => hk.1.1.1), by repeat (first | (with_reducible first | exact HI0.out | apply IsS75.alloc | apply IsS75.drewN | apply IsS75.drew | apply IsS75.set_1 | apply IsS75.set_2 | refine IsS75.far ?_ NB0_115.out _ | refine IsS75.far ?_ NB0_122.out _) | exact HI0.out), by repeat (first | (with_reducible first | exact HB.out | apply below_alloc | apply pw_below_drewN | apply below_drew1 | refine below_set ?_ (IsS75.ge HI0.out) | refine below_set ?_ GE115.out | refine below_set ?_ GE122.out) | exact HB.out), by repeat (first | (with_reducible first | exact HK.out | apply KeepBut.set_ | apply keep_drewN | apply keep_drew | apply keep_alloc | refine keep_far ?_ GW115.out _ | refine keep_far ?_ GW122.out _) | exact HK.out)⟩
    ·
     rw [if_neg c67] at H
     have c67b0 : (t156 == 0) = false := beq_eq_false_iff_ne.mpr c67
     have c67b1 : (t156 != 0) = true := bne_iff_ne.mpr c67
     by_cases c81 : t156 = 1
     ·
      rw [if_pos c81] at H
      have c81b0 : (t156 == 1) = true := beq_iff_eq.mpr c81
      have c81b1 : (t156 != 1) = false := bne_eq_false_iff_eq.mpr c81
      clear c81
      replace H := Option.bind_eq_some_iff.mp H
      obtain ⟨⟨t165, t166, t167⟩, A820, H⟩ := H
      replace H : ((spec_l1Cur_among.f s0_0 t166 t167 (([99, 100, (-100), 4611686018427387904] : List Int))).bind fun bt171 => (if 0 ≤ t165 then (if t165 < (x123001_1.length : Int) then (some (t119, (x123001_1.set (t165 : Int).toNat bt171.1), x123002_1, bt171.2.1, bt171.2.2)) else (none)) else (none))) = some (r1, r2, r3, r4, r5) := H
      have A82 := Aside0.mk A820
      clear A820
      obtain ⟨y168, hy168⟩ : ∃ y_ : List Int, y_ = (([99, 100, (-100), 4611686018427387904] : List Int)) := ⟨_, rfl⟩
      replace H : ((spec_l1Cur_among.f s0_0 t166 t167 y168).bind fun bt171 => (if 0 ≤ t165 then (if t165 < (x123001_1.length : Int) then (some (t119, (x123001_1.set (t165 : Int).toNat bt171.1), x123002_1, bt171.2.1, bt171.2.2)) else (none)) else (none))) = some (r1, r2, r3, r4, r5) := by first | (rw [hy168]; with_reducible exact H) | (have H2_ := (Option.bind_some _ _).symm.trans H; rw [hy168]; with_reducible exact H2_) | (have H2_ := (Option.bind_some _ _).symm.trans H; with_reducible exact H2_) | with_reducible exact H | (rw [hy168]; exact H) | exact H
      have Ny168 := Aside0.mk hy168
      clear hy168
      replace H := Option.bind_eq_some_iff.mp H
      obtain ⟨⟨t171, t172, t173⟩, A830, H⟩ := H
      replace H : (if 0 ≤ t165 then (if t165 < (x123001_1.length : Int) then (some (t119, (x123001_1.set (t165 : Int).toNat t171), x123002_1, t172, t173)) else (none)) else (none)) = some (r1, r2, r3, r4, r5) := H
      have A83 := Aside0.mk A830
      clear A830
      by_cases c84 : 0 ≤ t165
      ·
       rw [if_pos c84] at H
       have c84b0 : decide (0 ≤ t165) = true := decide_eq_true c84
       clear c84
       by_cases c85 : t165 < (x123001_1.length : Int)
       ·
        rw [if_pos c85] at H
        have c85b0 : decide (t165 < (x123001_1.length : Int)) = true := decide_eq_true c85
        clear c85
        obtain ⟨y174, hy174⟩ : ∃ y_ : List Int, y_ = (x123001_1.set (t165 : Int).toNat t171) := ⟨_, rfl⟩
        replace H : (some (t119, y174, x123002_1, t172, t173)) = some (r1, r2, r3, r4, r5) := by first | (rw [hy174]; with_reducible exact H) | (have H2_ := (Option.bind_some _ _).symm.trans H; rw [hy174]; with_reducible exact H2_) | (have H2_ := (Option.bind_some _ _).symm.trans H; with_reducible exact H2_) | with_reducible exact H | (rw [hy174]; exact H) | exact H
        have Ny174 := Aside0.mk hy174
        clear hy174
        simp only [Option.some.injEq, Prod.mk.injEq] at H
        obtain ⟨rfl, rfl, rfl, rfl, rfl⟩ := H
        try go_wp2_with (first | ((with_reducible refine gate_callee (f := 91) rfl ?_); refine goesL_ (some 69) rfl rfl Try.func91 (by kernel_rfl) rfl #[.pointer (some ⟨g, 0, none⟩), .int .i64 50] rfl tM ?_; (with_reducible refine (spec_l1Cur_pick.calls g s0_0 x1001_1 x1002_1 50 t156 t157 t158 w0 _ ?side1 ?side2 A66.out).mono ?_); (case side1 => repeat (first | (with_reducible first | exact HI0.out | apply IsS75.alloc | apply IsS75.drewN | apply IsS75.drew | apply IsS75.set_1 | apply IsS75.set_2 | refine IsS75.far ?_ NB0_115.out _ | refine IsS75.far ?_ NB0_122.out _) | exact HI0.out)); (case side2 => repeat (first | (with_reducible first | exact HB.out | apply below_alloc | apply pw_below_drewN | apply below_drew1 | refine below_set ?_ (IsS75.ge HI0.out) | refine below_set ?_ GE115.out | refine below_set ?_ GE122.out) | exact HB.out)); rintro e w87 ⟨rfl, hi, hb, hk⟩; refine ⟨_, rfl, ?_⟩; replace HO_123001 := Aside0.mk (Kd.R_mono (Kd.R_keep (IsS75.apart (show IsS75 w0 _ g s0_0 x1001_1 x1002_1 from by repeat (first | (with_reducible first | exact HI0.out | apply IsS75.alloc | apply IsS75.drewN | apply IsS75.drew | apply IsS75.set_1 | apply IsS75.set_2 | refine IsS75.far ?_ NB0_115.out _ | refine IsS75.far ?_ NB0_122.out _) | exact HI0.out)) (tR HO_123001.out) (by decide)) hk (fun _ h => h.2)) (fun _ h => h.1)); replace HO_123002 := Aside0.mk (Kd.R_mono (Kd.R_keep (IsS75.apart (show IsS75 w0 _ g s0_0 x1001_1 x1002_1 from by repeat (first | (with_reducible first | exact HI0.out | apply IsS75.alloc | apply IsS75.drewN | apply IsS75.drew | apply IsS75.set_1 | apply IsS75.set_2 | refine IsS75.far ?_ NB0_115.out _ | refine IsS75.far ?_ NB0_122.out _) | exact HI0.out)) (tR HO_123002.out) (by decide)) hk (fun _ h => h.2)) (fun _ h => h.1)); replace BK115 := Aside0.mk (KeepBut.blk hk (g' := gb115) (o := .cells #[.int .i64 0, .slice none 0 0, .slice none 0 0] 27 (0, 0)) (tK BK115.out) NB115_0.out (by simp)); replace BK122 := Aside0.mk (KeepBut.blk hk (g' := gb122) (o := .cells #[.int .i64 t119, u123001, u123002] 27 (0, 0)) (tK BK122.out) NB122_0.out (by simp)); replace HK := Aside0.mk (KeepBut.trans (by repeat (first | (with_reducible first | exact HK.out | apply KeepBut.set_ | apply keep_drewN | apply keep_drew | apply keep_alloc | refine keep_far ?_ GW115.out _ | refine keep_far ?_ GW122.out _) | exact HK.out)) hk (.inl rfl)); replace HB := Aside0.mk (hb); replace HI0 := Aside0.mk (hi); (try clear hb); (try clear hk); (try clear hi)))
        replace HO_123001 := Aside0.mk (Kd.R_drew HO_123001.out)
        replace HO_123002 := Aside0.mk (Kd.R_drew HO_123002.out)
        replace BK115 := Aside0.mk (blk_drew BK115.out)
        replace BK122 := Aside0.mk (blk_drew BK122.out)
        replace HI0 := Aside0.mk (IsS75.drew HI0.out)
        replace HK := Aside0.mk (keep_drew HK.out)
        replace HB := Aside0.mk (below_drew1 HB.out)
        refine start_ (n := 10) (S := fun w' => w'.cell? ⟨gb122, 0, none⟩ = some (.int .i64 t119) ∧ w'.cell? ⟨gb122, 1, none⟩ = some (u123001) ∧ w'.cell? ⟨gb122, 2, none⟩ = some (u123002)) (ds := [9]) #[n_, n_, n_, n_, n_, n_, n_, n_, n_, n_] (by kernel_rfl) rfl rfl ⟨(blk_cell BK122.out 0).trans rfl, (blk_cell BK122.out 1).trans rfl, (blk_cell BK122.out 2).trans rfl⟩ (fun hHeld => ?_); refine with_tabW spec_l1Cur_pile.tab16 spec_l1Cur_pile.bits16 (fun HT_ HW_ => ?_)
        generalize w87.drew = w88 at HO_123001 HO_123002 BK115 BK122 HI0 HK HB hHeld ⊢
        refine pu 0 (some 78) #[y_, n_, n_, n_, n_, n_, n_, n_, n_, n_] (any_of HT_.out (by kernel_rfl)) ?_
        refine pu 2 (some 80) #[y_, n_, y_, n_, n_, n_, n_, n_, n_, n_] (any_of HT_.out (by kernel_rfl)) ?_
        refine pu 3 (some 81) #[y_, n_, y_, y_, n_, n_, n_, n_, n_, n_] (any_of HT_.out (by kernel_rfl)) ?_
        refine pu 5 (some 83) #[y_, n_, y_, y_, n_, y_, n_, n_, n_, n_] (any_of HT_.out (by kernel_rfl)) ?_
        refine tk 1 (some 79) #[y_, y_, y_, y_, n_, y_, n_, n_, n_, n_] rfl (take_ofW HT_.out HW_.out (by kernel_rfl)) hHeld (Or.inl ⟨by rfl, by rintro w' ⟨s0, s1, s2⟩; go_simp; with_reducible rfl⟩) ?_
        refine join_ (σ := Value) 3 #[y_, y_, y_, y_, y_, y_, y_, n_, n_, n_] (fun s_ => [(82, .int .i64 t165), (84, s_)]) (fun s_ w' => (w'.cell? ⟨gb122, 0, none⟩ = some (.int .i64 t119) ∧ w'.cell? ⟨gb122, 1, none⟩ = some (u123001) ∧ w'.cell? ⟨gb122, 2, none⟩ = some (u123002)) ∧ (Kd.R (Kd.int .i64) 3 w' w.heap.size (fun k_ => some k_ ≠ (u123001 : Value).ownBlock ∧ some k_ ≠ (u123002 : Value).ownBlock) s_ y168) ∧ (Kd.R (Kd.int .i64) 3 w' w.heap.size (fun k_ => some k_ ≠ (s_ : Value).ownBlock ∧ some k_ ≠ (u123002 : Value).ownBlock) u123001 x123001_1) ∧ (Kd.R (Kd.int .i64) 3 w' w.heap.size (fun k_ => some k_ ≠ (s_ : Value).ownBlock ∧ some k_ ≠ (u123001 : Value).ownBlock) u123002 x123002_1) ∧ (w'.heap[gb115]? = some (.cells #[.int .i64 0, .slice none 0 0, .slice none 0 0] 27 (0, 0))) ∧ (w'.heap[gb122]? = some (.cells #[.int .i64 t119, u123001, u123002] 27 (0, 0))) ∧ (IsS75 w0 w' g s0_0 t166 t167) ∧ (KeepBut w w' g none) ∧ (Below w0.heap.size w0 w')) ?_ ?_
        rotate_left
        ·
         intro hCont
         refine two_ (i := 4) (j := 6) (Ni := some 82) (Nj := some 84) #[y_, y_, y_, y_, y_, y_, n_, n_, n_, n_] #[y_, y_, y_, y_, n_, y_, y_, n_, n_, n_] rfl rfl rfl rfl (two_of HT_.out (by kernel_rfl)) (by decide) (by decide) (fun K hK => ?_) (fun K hK => ?_)
         ·
          skip
          refine goes_ Try.func91 (by kernel_rfl) rfl #[.pointer (some ⟨g, 0, none⟩), .int .i64 t126] (by rfl) rfl rfl tM ?_
          with_reducible refine (spec_l1Cur_pick.calls g s0_0 t157 t158 t126 t165 t166 t167 w0 _ ?side1 ?side2 A82.out).mono ?_
          (case side1 => repeat (first | (with_reducible first | exact HI0.out | apply IsS75.alloc | apply IsS75.drewN | apply IsS75.drew | apply IsS75.set_1 | apply IsS75.set_2 | refine IsS75.far ?_ NB0_115.out _ | refine IsS75.far ?_ NB0_122.out _) | exact HI0.out))
          (case side2 => repeat (first | (with_reducible first | exact HB.out | apply below_alloc | apply pw_below_drewN | apply below_drew1 | refine below_set ?_ (IsS75.ge HI0.out) | refine below_set ?_ GE115.out | refine below_set ?_ GE122.out) | exact HB.out))
          rintro e w89 ⟨rfl, hi, hb, hk⟩
          refine ⟨_, rfl, ?_⟩
          replace HO_123001 := Aside0.mk (Kd.R_mono (Kd.R_keep (IsS75.apart (show IsS75 w0 _ g s0_0 t157 t158 from by repeat (first | (with_reducible first | exact HI0.out | apply IsS75.alloc | apply IsS75.drewN | apply IsS75.drew | apply IsS75.set_1 | apply IsS75.set_2 | refine IsS75.far ?_ NB0_115.out _ | refine IsS75.far ?_ NB0_122.out _) | exact HI0.out)) (tR HO_123001.out) (by decide)) hk (fun _ h => h.2)) (fun _ h => h.1))
          replace HO_123002 := Aside0.mk (Kd.R_mono (Kd.R_keep (IsS75.apart (show IsS75 w0 _ g s0_0 t157 t158 from by repeat (first | (with_reducible first | exact HI0.out | apply IsS75.alloc | apply IsS75.drewN | apply IsS75.drew | apply IsS75.set_1 | apply IsS75.set_2 | refine IsS75.far ?_ NB0_115.out _ | refine IsS75.far ?_ NB0_122.out _) | exact HI0.out)) (tR HO_123002.out) (by decide)) hk (fun _ h => h.2)) (fun _ h => h.1))
          replace BK115 := Aside0.mk (KeepBut.blk hk (g' := gb115) (o := .cells #[.int .i64 0, .slice none 0 0, .slice none 0 0] 27 (0, 0)) (tK BK115.out) NB115_0.out (by simp))
          replace BK122 := Aside0.mk (KeepBut.blk hk (g' := gb122) (o := .cells #[.int .i64 t119, u123001, u123002] 27 (0, 0)) (tK BK122.out) NB122_0.out (by simp))
          replace HK := Aside0.mk (KeepBut.trans (by repeat (first | (with_reducible first | exact HK.out | apply KeepBut.set_ | apply keep_drewN | apply keep_drew | apply keep_alloc | refine keep_far ?_ GW115.out _ | refine keep_far ?_ GW122.out _) | exact HK.out)) hk (.inl rfl))
          replace HB := Aside0.mk (hb)
          replace HI0 := Aside0.mk (hi)
          (try clear hb); (try clear hb2); (try clear hk); (try clear hi)
          refine hK.out _ _ ⟨(blk_cell BK122.out 0).trans rfl, (blk_cell BK122.out 1).trans rfl, (blk_cell BK122.out 2).trans rfl⟩ (fun hHeld => ?_)
          clear hK K
          refine norm_ (a' := ?_) ?_ ?_
          rotate_left
          ·
           show Act.put _ (some 82) _ = _
           simp only [Act.put, List.setIfInBounds_toArray, List.set_cons_zero, List.set_cons_succ, i64_w, i32_w]
           rfl
          refine one_ (i := 6) (N := some 84) #[y_, y_, y_, y_, y_, y_, y_, n_, n_, n_] rfl rfl (one_of HT_.out (by kernel_rfl)) (by decide) (fun K hK => ?_)
          refine Kd.R_lit_step (Kd.int .i64) _ 3 ?hg (N := 84) ?hd (xs := ([99, 100, (-100), 4611686018427387904] : List Int)) (inner := [.int .i64 99, .int .i64 100, .int .i64 (-100), .int .i64 4611686018427387904]) (ok := fun _ => True) (okp := fun _ => True) ?hr ?hp (fun _ hk => hk) trivial (Below.refl _ _) (Nat.le_refl _) (by simp) ?_; (case hd => rfl); (case hg => rfl); (case hr => first | (go_simp; done) | (go_simp; rfl)); (case hp => exact (Reps.one (show Kd.M (Kd.int .i64) _ _ _ 99 [.int .i64 99] from rfl) (Reps.one (show Kd.M (Kd.int .i64) _ _ _ 100 [.int .i64 100] from rfl) (Reps.one (show Kd.M (Kd.int .i64) _ _ _ (-100) [.int .i64 (-100)] from rfl) (Reps.one (show Kd.M (Kd.int .i64) _ _ _ 4611686018427387904 [.int .i64 4611686018427387904] from rfl) (Reps.none _ _))))))
          intro v169 w90 ho91 hb hg_ hnew_
          clear hg_ hnew_
          (first | rw [← Ny168.out] at ho91 | (simp only [Int.reduceToNat] at ho91; rw [← Ny168.out] at ho91))
          have HO170 := Aside0.mk (Kd.R_lower (Kd.R_new' (Kd.R_new' ho91 (Kd.R_lt (tR HO_123001.out))) (Kd.R_lt (tR HO_123002.out))) (keep_size (w := w) (g := g) (row := none) (by repeat (first | (with_reducible first | exact HK.out | apply KeepBut.set_ | apply keep_drewN | apply keep_drew | apply keep_alloc | refine keep_far ?_ GW115.out _ | refine keep_far ?_ GW122.out _) | exact HK.out))))
          replace HO_123001 := Aside0.mk (Kd.R_elder' (tR HO_123001.out) (Kd.R_base ho91) hb)
          replace HO_123002 := Aside0.mk (Kd.R_elder' (tR HO_123002.out) (Kd.R_base ho91) hb)
          replace BK115 := bkB BK115 hb
          replace BK122 := bkB BK122 hb
          replace HK := Aside0.mk (KeepBut.trans (by repeat (first | (with_reducible first | exact HK.out | apply KeepBut.set_ | apply keep_drewN | apply keep_drew | apply keep_alloc | refine keep_far ?_ GW115.out _ | refine keep_far ?_ GW122.out _) | exact HK.out)) (KeepBut.of_below hb g none) (.inl rfl))
          replace HB := Aside0.mk (below_step (by repeat (first | (with_reducible first | exact HB.out | apply below_alloc | apply pw_below_drewN | apply below_drew1 | refine below_set ?_ (IsS75.ge HI0.out) | refine below_set ?_ GE115.out | refine below_set ?_ GE122.out) | exact HB.out)) hb)
          replace HI0 := Aside0.mk (IsS75.below (by repeat (first | (with_reducible first | exact HI0.out | apply IsS75.alloc | apply IsS75.drewN | apply IsS75.drew | apply IsS75.set_1 | apply IsS75.set_2 | refine IsS75.far ?_ NB0_115.out _ | refine IsS75.far ?_ NB0_122.out _) | exact HI0.out)) hb)
          clear hb ho91
          refine hK.out _ _ ⟨(blk_cell BK122.out 0).trans rfl, (blk_cell BK122.out 1).trans rfl, (blk_cell BK122.out 2).trans rfl⟩ (fun hHeld => ?_)
          clear hK K
          refine norm_ (a' := ?_) ?_ ?_
          rotate_left
          ·
           show Act.put _ (some 84) _ = _
           simp only [Act.put, List.setIfInBounds_toArray, List.set_cons_zero, List.set_cons_succ, i64_w, i32_w]
           rfl
          exact norm_ (by simp only [putAll, Act.put, List.setIfInBounds_toArray, List.set_cons_zero, List.set_cons_succ]) (hCont (v169) _ ⟨hHeld, (by (with_reducible repeat (first | apply Kd.R_alloc | apply Kd.R_drewN | apply Kd.R_drew)); exact Kd.R_mono HO170.out (fun _ hk => ⟨hk.1.2, hk.2⟩)), (by (with_reducible repeat (first | apply Kd.R_alloc | apply Kd.R_drewN | apply Kd.R_drew)); exact Kd.R_mono HO_123001.out (fun _ hk => ⟨hk.2, hk.1⟩)), (by (with_reducible repeat (first | apply Kd.R_alloc | apply Kd.R_drewN | apply Kd.R_drew)); exact Kd.R_mono HO_123002.out (fun _ hk => ⟨hk.2, hk.1⟩)), (tK BK115.out), (tK BK122.out), (by repeat (first | (with_reducible first | exact HI0.out | apply IsS75.alloc | apply IsS75.drewN | apply IsS75.drew | apply IsS75.set_1 | apply IsS75.set_2 | refine IsS75.far ?_ NB0_115.out _ | refine IsS75.far ?_ NB0_122.out _) | exact HI0.out)), (by repeat (first | (with_reducible first | exact HK.out | apply KeepBut.set_ | apply keep_drewN | apply keep_drew | apply keep_alloc | refine keep_far ?_ GW115.out _ | refine keep_far ?_ GW122.out _) | exact HK.out)), (by repeat (first | (with_reducible first | exact HB.out | apply below_alloc | apply pw_below_drewN | apply below_drew1 | refine below_set ?_ (IsS75.ge HI0.out) | refine below_set ?_ GE115.out | refine below_set ?_ GE122.out) | exact HB.out))⟩)
         ·
          skip
          refine Kd.R_lit_step (Kd.int .i64) _ 3 ?hg (N := 84) ?hd (xs := ([99, 100, (-100), 4611686018427387904] : List Int)) (inner := [.int .i64 99, .int .i64 100, .int .i64 (-100), .int .i64 4611686018427387904]) (ok := fun _ => True) (okp := fun _ => True) ?hr ?hp (fun _ hk => hk) trivial (Below.refl _ _) (Nat.le_refl _) (by simp) ?_; (case hd => rfl); (case hg => rfl); (case hr => first | (go_simp; done) | (go_simp; rfl)); (case hp => exact (Reps.one (show Kd.M (Kd.int .i64) _ _ _ 99 [.int .i64 99] from rfl) (Reps.one (show Kd.M (Kd.int .i64) _ _ _ 100 [.int .i64 100] from rfl) (Reps.one (show Kd.M (Kd.int .i64) _ _ _ (-100) [.int .i64 (-100)] from rfl) (Reps.one (show Kd.M (Kd.int .i64) _ _ _ 4611686018427387904 [.int .i64 4611686018427387904] from rfl) (Reps.none _ _))))))
          intro v169 w89 ho90 hb hg_ hnew_
          clear hg_ hnew_
          (first | rw [← Ny168.out] at ho90 | (simp only [Int.reduceToNat] at ho90; rw [← Ny168.out] at ho90))
          have HO170 := Aside0.mk (Kd.R_lower (Kd.R_new' (Kd.R_new' ho90 (Kd.R_lt (tR HO_123001.out))) (Kd.R_lt (tR HO_123002.out))) (keep_size (w := w) (g := g) (row := none) (by repeat (first | (with_reducible first | exact HK.out | apply KeepBut.set_ | apply keep_drewN | apply keep_drew | apply keep_alloc | refine keep_far ?_ GW115.out _ | refine keep_far ?_ GW122.out _) | exact HK.out))))
          replace HO_123001 := Aside0.mk (Kd.R_elder' (tR HO_123001.out) (Kd.R_base ho90) hb)
          replace HO_123002 := Aside0.mk (Kd.R_elder' (tR HO_123002.out) (Kd.R_base ho90) hb)
          replace BK115 := bkB BK115 hb
          replace BK122 := bkB BK122 hb
          replace HK := Aside0.mk (KeepBut.trans (by repeat (first | (with_reducible first | exact HK.out | apply KeepBut.set_ | apply keep_drewN | apply keep_drew | apply keep_alloc | refine keep_far ?_ GW115.out _ | refine keep_far ?_ GW122.out _) | exact HK.out)) (KeepBut.of_below hb g none) (.inl rfl))
          replace HB := Aside0.mk (below_step (by repeat (first | (with_reducible first | exact HB.out | apply below_alloc | apply pw_below_drewN | apply below_drew1 | refine below_set ?_ (IsS75.ge HI0.out) | refine below_set ?_ GE115.out | refine below_set ?_ GE122.out) | exact HB.out)) hb)
          replace HI0 := Aside0.mk (IsS75.below (by repeat (first | (with_reducible first | exact HI0.out | apply IsS75.alloc | apply IsS75.drewN | apply IsS75.drew | apply IsS75.set_1 | apply IsS75.set_2 | refine IsS75.far ?_ NB0_115.out _ | refine IsS75.far ?_ NB0_122.out _) | exact HI0.out)) hb)
          clear hb ho90
          refine hK.out _ _ ⟨(blk_cell BK122.out 0).trans rfl, (blk_cell BK122.out 1).trans rfl, (blk_cell BK122.out 2).trans rfl⟩ (fun hHeld => ?_)
          clear hK K
          refine norm_ (a' := ?_) ?_ ?_
          rotate_left
          ·
           show Act.put _ (some 84) _ = _
           simp only [Act.put, List.setIfInBounds_toArray, List.set_cons_zero, List.set_cons_succ, i64_w, i32_w]
           rfl
          refine one_ (i := 4) (N := some 82) #[y_, y_, y_, y_, y_, y_, y_, n_, n_, n_] rfl rfl (one_of HT_.out (by kernel_rfl)) (by decide) (fun K hK => ?_)
          refine goes_ Try.func91 (by kernel_rfl) rfl #[.pointer (some ⟨g, 0, none⟩), .int .i64 t126] (by rfl) rfl rfl tM ?_
          with_reducible refine (spec_l1Cur_pick.calls g s0_0 t157 t158 t126 t165 t166 t167 w0 _ ?side1 ?side2 A82.out).mono ?_
          (case side1 => repeat (first | (with_reducible first | exact HI0.out | apply IsS75.alloc | apply IsS75.drewN | apply IsS75.drew | apply IsS75.set_1 | apply IsS75.set_2 | refine IsS75.far ?_ NB0_115.out _ | refine IsS75.far ?_ NB0_122.out _) | exact HI0.out))
          (case side2 => repeat (first | (with_reducible first | exact HB.out | apply below_alloc | apply pw_below_drewN | apply below_drew1 | refine below_set ?_ (IsS75.ge HI0.out) | refine below_set ?_ GE115.out | refine below_set ?_ GE122.out) | exact HB.out))
          rintro e w91 ⟨rfl, hi, hb, hk⟩
          refine ⟨_, rfl, ?_⟩
          replace HO_123001 := Aside0.mk (Kd.R_mono (Kd.R_keep (IsS75.apart (show IsS75 w0 _ g s0_0 t157 t158 from by repeat (first | (with_reducible first | exact HI0.out | apply IsS75.alloc | apply IsS75.drewN | apply IsS75.drew | apply IsS75.set_1 | apply IsS75.set_2 | refine IsS75.far ?_ NB0_115.out _ | refine IsS75.far ?_ NB0_122.out _) | exact HI0.out)) (tR HO_123001.out) (by decide)) hk (fun _ h => h.2)) (fun _ h => h.1))
          replace HO_123002 := Aside0.mk (Kd.R_mono (Kd.R_keep (IsS75.apart (show IsS75 w0 _ g s0_0 t157 t158 from by repeat (first | (with_reducible first | exact HI0.out | apply IsS75.alloc | apply IsS75.drewN | apply IsS75.drew | apply IsS75.set_1 | apply IsS75.set_2 | refine IsS75.far ?_ NB0_115.out _ | refine IsS75.far ?_ NB0_122.out _) | exact HI0.out)) (tR HO_123002.out) (by decide)) hk (fun _ h => h.2)) (fun _ h => h.1))
          replace BK115 := Aside0.mk (KeepBut.blk hk (g' := gb115) (o := .cells #[.int .i64 0, .slice none 0 0, .slice none 0 0] 27 (0, 0)) (tK BK115.out) NB115_0.out (by simp))
          replace BK122 := Aside0.mk (KeepBut.blk hk (g' := gb122) (o := .cells #[.int .i64 t119, u123001, u123002] 27 (0, 0)) (tK BK122.out) NB122_0.out (by simp))
          replace HO170 := Aside0.mk (Kd.R_mono (Kd.R_keep (IsS75.apart (show IsS75 w0 _ g s0_0 t157 t158 from by repeat (first | (with_reducible first | exact HI0.out | apply IsS75.alloc | apply IsS75.drewN | apply IsS75.drew | apply IsS75.set_1 | apply IsS75.set_2 | refine IsS75.far ?_ NB0_115.out _ | refine IsS75.far ?_ NB0_122.out _) | exact HI0.out)) (tR HO170.out) (by decide)) hk (fun _ h => h.2)) (fun _ h => h.1))
          replace HK := Aside0.mk (KeepBut.trans (by repeat (first | (with_reducible first | exact HK.out | apply KeepBut.set_ | apply keep_drewN | apply keep_drew | apply keep_alloc | refine keep_far ?_ GW115.out _ | refine keep_far ?_ GW122.out _) | exact HK.out)) hk (.inl rfl))
          replace HB := Aside0.mk (hb)
          replace HI0 := Aside0.mk (hi)
          (try clear hb); (try clear hb2); (try clear hk); (try clear hi)
          refine hK.out _ _ ⟨(blk_cell BK122.out 0).trans rfl, (blk_cell BK122.out 1).trans rfl, (blk_cell BK122.out 2).trans rfl⟩ (fun hHeld => ?_)
          clear hK K
          refine norm_ (a' := ?_) ?_ ?_
          rotate_left
          ·
           show Act.put _ (some 82) _ = _
           simp only [Act.put, List.setIfInBounds_toArray, List.set_cons_zero, List.set_cons_succ, i64_w, i32_w]
           rfl
          exact norm_ (by simp only [putAll, Act.put, List.setIfInBounds_toArray, List.set_cons_zero, List.set_cons_succ]) (hCont (v169) _ ⟨hHeld, (by (with_reducible repeat (first | apply Kd.R_alloc | apply Kd.R_drewN | apply Kd.R_drew)); exact Kd.R_mono HO170.out (fun _ hk => ⟨hk.1.2, hk.2⟩)), (by (with_reducible repeat (first | apply Kd.R_alloc | apply Kd.R_drewN | apply Kd.R_drew)); exact Kd.R_mono HO_123001.out (fun _ hk => ⟨hk.2, hk.1⟩)), (by (with_reducible repeat (first | apply Kd.R_alloc | apply Kd.R_drewN | apply Kd.R_drew)); exact Kd.R_mono HO_123002.out (fun _ hk => ⟨hk.2, hk.1⟩)), (tK BK115.out), (tK BK122.out), (by repeat (first | (with_reducible first | exact HI0.out | apply IsS75.alloc | apply IsS75.drewN | apply IsS75.drew | apply IsS75.set_1 | apply IsS75.set_2 | refine IsS75.far ?_ NB0_115.out _ | refine IsS75.far ?_ NB0_122.out _) | exact HI0.out)), (by repeat (first | (with_reducible first | exact HK.out | apply KeepBut.set_ | apply keep_drewN | apply keep_drew | apply keep_alloc | refine keep_far ?_ GW115.out _ | refine keep_far ?_ GW122.out _) | exact HK.out)), (by repeat (first | (with_reducible first | exact HB.out | apply below_alloc | apply pw_below_drewN | apply below_drew1 | refine below_set ?_ (IsS75.ge HI0.out) | refine below_set ?_ GE115.out | refine below_set ?_ GE122.out) | exact HB.out))⟩)
        rintro v169 w92 ⟨hS_, h0_, h1_, h2_, h3_, h4_, h5_, h6_, h7_⟩
        have n0_ : Aside0 (Kd.R (Kd.int .i64) 3 w92 w.heap.size (fun k_ => some k_ ≠ (u123001 : Value).ownBlock ∧ some k_ ≠ (u123002 : Value).ownBlock) v169 y168) := ⟨h0_⟩
        have n1_ : Aside0 (Kd.R (Kd.int .i64) 3 w92 w.heap.size (fun k_ => some k_ ≠ (v169 : Value).ownBlock ∧ some k_ ≠ (u123002 : Value).ownBlock) u123001 x123001_1) := ⟨h1_⟩
        have n2_ : Aside0 (Kd.R (Kd.int .i64) 3 w92 w.heap.size (fun k_ => some k_ ≠ (v169 : Value).ownBlock ∧ some k_ ≠ (u123001 : Value).ownBlock) u123002 x123002_1) := ⟨h2_⟩
        have n3_ : Aside0 (w92.heap[gb115]? = some (.cells #[.int .i64 0, .slice none 0 0, .slice none 0 0] 27 (0, 0))) := ⟨h3_⟩
        have n4_ : Aside0 (w92.heap[gb122]? = some (.cells #[.int .i64 t119, u123001, u123002] 27 (0, 0))) := ⟨h4_⟩
        have n5_ : Aside0 (IsS75 w0 w92 g s0_0 t166 t167) := ⟨h5_⟩
        have n6_ : Aside0 (KeepBut w w92 g none) := ⟨h6_⟩
        have n7_ : Aside0 (Below w0.heap.size w0 w92) := ⟨h7_⟩
        clear HO_123001
        clear HO_123002
        clear BK115
        clear BK122
        clear HI0
        clear HK
        clear HB
        clear h0_ h1_ h2_ h3_ h4_ h5_ h6_ h7_
        have HO170 := n0_
        have HO_123001 := n1_
        have HO_123002 := n2_
        have BK115 := n3_
        have BK122 := n4_
        have HI0 := n5_
        have HK := n6_
        have HB := n7_
        clear n0_ n1_ n2_ n3_ n4_ n5_ n6_ n7_
        have hHeld : w92.cell? ⟨gb122, 0, none⟩ = some (.int .i64 t119) ∧ w92.cell? ⟨gb122, 1, none⟩ = some (u123001) ∧ w92.cell? ⟨gb122, 2, none⟩ = some (u123002) := hS_
        obtain ⟨Ao93, co93, eo93⟩ := Kd.R_slice HO170.out
        (first | subst eo93 | (injection eo93 with f1_ f2_ f3_; have f4_ := f1_.symm; have f5_ := f3_.symm; clear f1_ f2_ f3_; subst f4_; subst f5_))
        refine norm_ (a' := ?_) ?_ ?_
        rotate_left
        ·
         simp only [putAll, Act.put, List.setIfInBounds_toArray, List.set_cons_zero, List.set_cons_succ]
         rfl
        refine one_ (i := 7) (N := some 85) #[y_, y_, y_, y_, y_, y_, y_, y_, n_, n_] rfl rfl (one_of HT_.out (by kernel_rfl)) (by decide) (fun K hK => ?_)
        refine goes_ Try.func86 (by kernel_rfl) rfl #[.pointer (some ⟨g, 0, none⟩), .slice Ao93 y168.length co93] (by rfl) rfl rfl tM ?_
        with_reducible refine (spec_l1Cur_among.calls g s0_0 t166 t167 _ _ y168 t171 t172 t173 w0 _ ?side1 ?side2 ?side3 ?side4 ?side5 A83.out).mono ?_
        (case side1 => repeat (first | (with_reducible first | exact HI0.out | apply IsS75.alloc | apply IsS75.drewN | apply IsS75.drew | apply IsS75.set_1 | apply IsS75.set_2 | refine IsS75.far ?_ NB0_115.out _ | refine IsS75.far ?_ NB0_122.out _) | exact HI0.out))
        (case side2 => repeat (first | (with_reducible first | exact HB.out | apply below_alloc | apply pw_below_drewN | apply below_drew1 | refine below_set ?_ (IsS75.ge HI0.out) | refine below_set ?_ GE115.out | refine below_set ?_ GE122.out) | exact HB.out))
        (case side3 => exact rC HO170)
        (case side4 => exact (Kd.R_reads' HO170.out).2.1)
        (case side5 => exact far_slice (IsS75.own_ne HI0.out HO170.out (by decide)))
        rintro e w94 ⟨rfl, hi, hb, hk⟩
        refine ⟨_, rfl, ?_⟩
        replace HO_123001 := Aside0.mk (Kd.R_mono (Kd.R_keep (IsS75.apart (show IsS75 w0 _ g s0_0 t166 t167 from by repeat (first | (with_reducible first | exact HI0.out | apply IsS75.alloc | apply IsS75.drewN | apply IsS75.drew | apply IsS75.set_1 | apply IsS75.set_2 | refine IsS75.far ?_ NB0_115.out _ | refine IsS75.far ?_ NB0_122.out _) | exact HI0.out)) (tR HO_123001.out) (by decide)) hk (fun _ h => h.2)) (fun _ h => h.1))
        replace HO_123002 := Aside0.mk (Kd.R_mono (Kd.R_keep (IsS75.apart (show IsS75 w0 _ g s0_0 t166 t167 from by repeat (first | (with_reducible first | exact HI0.out | apply IsS75.alloc | apply IsS75.drewN | apply IsS75.drew | apply IsS75.set_1 | apply IsS75.set_2 | refine IsS75.far ?_ NB0_115.out _ | refine IsS75.far ?_ NB0_122.out _) | exact HI0.out)) (tR HO_123002.out) (by decide)) hk (fun _ h => h.2)) (fun _ h => h.1))
        replace BK115 := Aside0.mk (KeepBut.blk hk (g' := gb115) (o := .cells #[.int .i64 0, .slice none 0 0, .slice none 0 0] 27 (0, 0)) (tK BK115.out) NB115_0.out (by simp))
        replace BK122 := Aside0.mk (KeepBut.blk hk (g' := gb122) (o := .cells #[.int .i64 t119, u123001, u123002] 27 (0, 0)) (tK BK122.out) NB122_0.out (by simp))
        replace HO170 := Aside0.mk (Kd.R_mono (Kd.R_keep (IsS75.apart (show IsS75 w0 _ g s0_0 t166 t167 from by repeat (first | (with_reducible first | exact HI0.out | apply IsS75.alloc | apply IsS75.drewN | apply IsS75.drew | apply IsS75.set_1 | apply IsS75.set_2 | refine IsS75.far ?_ NB0_115.out _ | refine IsS75.far ?_ NB0_122.out _) | exact HI0.out)) (tR HO170.out) (by decide)) hk (fun _ h => h.2)) (fun _ h => h.1))
        replace HK := Aside0.mk (KeepBut.trans (by repeat (first | (with_reducible first | exact HK.out | apply KeepBut.set_ | apply keep_drewN | apply keep_drew | apply keep_alloc | refine keep_far ?_ GW115.out _ | refine keep_far ?_ GW122.out _) | exact HK.out)) hk (.inl rfl))
        replace HB := Aside0.mk (hb)
        replace HI0 := Aside0.mk (hi)
        (try clear hb); (try clear hb2); (try clear hk); (try clear hi)
        have p86 : 0 ≤ (t165 : Int) := of_decide_eq_true (by first | (with_reducible assumption) | assumption)
        have q86 : (t165 : Int) < ((x123001_1.length : Int) : Int) := of_decide_eq_true (by first | (with_reducible assumption) | assumption)
        obtain ⟨go86, co86, eo86, gb86, gl86, cl86, HG86⟩ := Kd.R_form HO_123001.out (by omega)
        (first | cases eo86 | (injection eo86 with ea_ en_ ec_; (first | subst ea_ | (injection ea_ with ea_; subst ea_)); subst ec_; clear en_))
        have GB86 := Aside0.mk gb86
        have GG86 := Aside0.mk HG86
        clear gb86 gl86 HG86
        obtain ⟨hx86_0, hf86_0⟩ := Kd.R_celln 0 HO_123001.out (t165 : Int) p86 q86
        replace p86 := eq_true p86
        replace q86 := eq_true q86
        have HN0_go86 := Aside0.mk (show g ≠ go86 from by have h_ := IsS75.own_ne HI0.out HO_123001.out (by decide); intro e_; exact h_ (by rw [e_]; rfl))
        have HP95 := Kd.R_putn HO_123001.out (t165 : Int) t171
        rw [← Ny174.out] at HP95
        have HQ95 := Aside0.mk HP95
        clear HP95
        refine hK.out _ _ ⟨(blk_cell BK122.out 0).trans rfl, (blk_cell BK122.out 1).trans rfl, (blk_cell BK122.out 2).trans rfl⟩ (fun hHeld => ?_)
        clear hK K
        refine norm_ (a' := ?_) ?_ ?_
        rotate_left
        ·
         show Act.put _ (some 85) _ = _
         simp only [Act.put, List.setIfInBounds_toArray, List.set_cons_zero, List.set_cons_succ, i64_w, i32_w]
         rfl
        refine pu 8 (some 86) #[y_, y_, y_, y_, y_, y_, y_, y_, y_, n_] (any_of HT_.out (by kernel_rfl)) ?_
        refine last_ (i := 9) (N := none) #[y_, y_, y_, y_, y_, y_, y_, y_, y_, y_] rfl rfl (one_of HT_.out (by kernel_rfl)) (by decide) (fun K hK => ?_)
        refine skip_ (w1 := ?_) (by rfl) rfl ?_ ?_
        rotate_left
        ·
         go_simp
         rfl
        refine hK.out _ _ ?_
        clear hK K
        refine done_ (done_of HT_.out (by kernel_rfl)) ?_
        have n0_ : Aside0 (Kd.R (Kd.int .i64) 3 (w94.setCell ⟨go86, (t165 : Int).toNat, none⟩ (.int .i64 t171)) w.heap.size (fun k_ => some k_ ≠ (u123002 : Value).ownBlock ∧ some k_ ≠ (.slice Ao93 y168.length co93 : Value).ownBlock) (.slice (some ⟨go86, 0, none⟩) x123001_1.length co86) y174) := ⟨by (with_reducible repeat (first | apply Kd.R_alloc | apply Kd.R_drewN | apply Kd.R_drew)); exact Kd.R_mono HQ95.out (fun _ hk => ⟨hk.2, hk.1⟩)⟩
        have n1_ : Aside0 (Kd.R (Kd.int .i64) 3 (w94.setCell ⟨go86, (t165 : Int).toNat, none⟩ (.int .i64 t171)) w.heap.size (fun k_ => some k_ ≠ (.slice (some ⟨go86, 0, none⟩) x123001_1.length co86 : Value).ownBlock ∧ some k_ ≠ (.slice Ao93 y168.length co93 : Value).ownBlock) u123002 x123002_1) := ⟨by (with_reducible repeat (first | apply Kd.R_alloc | apply Kd.R_drewN | apply Kd.R_drew)); exact Kd.R_mono (Kd.R_far (p := ⟨go86, (t165 : Int).toNat, none⟩) (Kd.R_mono HO_123002.out (fun k_ hk => (⟨hk, fun e_ => hk.2 (by rw [e_]; rfl)⟩ : _ ∧ k_ ≠ go86))) (fun _ hk => hk.2) (.int .i64 t171)) (fun _ hk => ⟨hk.1.2, hk.1.1⟩)⟩
        have n2_ : Aside0 (Kd.R (Kd.int .i64) 3 (w94.setCell ⟨go86, (t165 : Int).toNat, none⟩ (.int .i64 t171)) w.heap.size (fun k_ => some k_ ≠ (.slice (some ⟨go86, 0, none⟩) x123001_1.length co86 : Value).ownBlock ∧ some k_ ≠ (u123002 : Value).ownBlock) (.slice Ao93 y168.length co93) y168) := ⟨by (with_reducible repeat (first | apply Kd.R_alloc | apply Kd.R_drewN | apply Kd.R_drew)); exact Kd.R_mono (Kd.R_far (p := ⟨go86, (t165 : Int).toNat, none⟩) (Kd.R_mono HO170.out (fun k_ hk => (⟨hk, fun e_ => hk.1 (by rw [e_]; rfl)⟩ : _ ∧ k_ ≠ go86))) (fun _ hk => hk.2) (.int .i64 t171)) (fun _ hk => ⟨hk.1.1, hk.1.2⟩)⟩
        have n3_ : Aside0 ((w94.setCell ⟨go86, (t165 : Int).toNat, none⟩ (.int .i64 t171)).heap[gb115]? = some (.cells #[.int .i64 0, .slice none 0 0, .slice none 0 0] 27 (0, 0))) := ⟨by (with_reducible repeat (first | refine blk_drewN ?_ _ | refine blk_drew ?_ | refine blk_alloc ?_ _)); refine blk_far ?_ (by have h_ := Kd.R_ne HO_123001.out BK115.out (by decide); intro e_; exact h_ (by rw [e_]; rfl)) _; (with_reducible repeat (first | refine blk_drewN ?_ _ | refine blk_drew ?_ | refine blk_alloc ?_ _)); exact BK115.out⟩
        have n4_ : Aside0 ((w94.setCell ⟨go86, (t165 : Int).toNat, none⟩ (.int .i64 t171)).heap[gb122]? = some (.cells #[.int .i64 t119, .slice (some ⟨go86, 0, none⟩) x123001_1.length co86, u123002] 27 (0, 0))) := ⟨by (with_reducible repeat (first | refine blk_drewN ?_ _ | refine blk_drew ?_ | refine blk_alloc ?_ _)); refine blk_far ?_ (by have h_ := Kd.R_ne HO_123001.out BK122.out (by decide); intro e_; exact h_ (by rw [e_]; rfl)) _; (with_reducible repeat (first | refine blk_drewN ?_ _ | refine blk_drew ?_ | refine blk_alloc ?_ _)); exact BK122.out⟩
        have n5_ : Aside0 (IsS75 w0 (w94.setCell ⟨go86, (t165 : Int).toNat, none⟩ (.int .i64 t171)) g s0_0 t172 t173) := ⟨by repeat (first | (with_reducible first | exact HI0.out | apply IsS75.alloc | apply IsS75.drewN | apply IsS75.drew | apply IsS75.set_1 | apply IsS75.set_2 | refine IsS75.far ?_ HN0_go86.out _ | refine IsS75.far ?_ NB0_115.out _ | refine IsS75.far ?_ NB0_122.out _) | exact HI0.out)⟩
        have n6_ : Aside0 (KeepBut w (w94.setCell ⟨go86, (t165 : Int).toNat, none⟩ (.int .i64 t171)) g none) := ⟨by repeat (first | (with_reducible first | exact HK.out | apply KeepBut.set_ | apply keep_drewN | apply keep_drew | apply keep_alloc | refine keep_far ?_ GB86.out _ | refine keep_far ?_ GW115.out _ | refine keep_far ?_ GW122.out _) | exact HK.out)⟩
        have n7_ : Aside0 (Below w0.heap.size w0 (w94.setCell ⟨go86, (t165 : Int).toNat, none⟩ (.int .i64 t171))) := ⟨by repeat (first | (with_reducible first | exact HB.out | apply below_alloc | apply pw_below_drewN | apply below_drew1 | refine below_set ?_ (Nat.le_trans HL.out GB86.out) | refine below_set ?_ (IsS75.ge HI0.out) | refine below_set ?_ GE115.out | refine below_set ?_ GE122.out) | exact HB.out)⟩
        (try clear HO_123001); (try clear HO_123002); (try clear HO170); (try clear BK115); (try clear BK122); (try clear HI0); (try clear HK); (try clear HB)
        generalize (w94.setCell ⟨go86, (t165 : Int).toNat, none⟩ (.int .i64 t171)) = w96 at n0_ n1_ n2_ n3_ n4_ n5_ n6_ n7_ ⊢
        have HO_123001 := n0_
        have HO_123002 := n1_
        have HO170 := n2_
        have BK115 := n3_
        have BK122 := n4_
        have HI0 := n5_
        have HK := n6_
        have HB := n7_
        clear n0_ n1_ n2_ n3_ n4_ n5_ n6_ n7_
        have hnb97 := NB122_115.out
        have hnc97 := NB115_122.out
        have hnb98 := NB122_0.out
        have hnc98 := NB0_122.out
        obtain ⟨hcz99_0, hfz99_0, hcz99_1, hfz99_1, hcz99_2, hfz99_2⟩ := cz3 BK122
        have hnb100 := NB115_0.out
        have hnc100 := NB0_115.out
        obtain ⟨hcz101_0, hfz101_0, hcz101_1, hfz101_1, hcz101_2, hfz101_2⟩ := cz3 BK115
        obtain ⟨Ao102, co102, eo102⟩ := Kd.R_slice HO_123002.out
        subst eo102
        try go_wp2
        refine bodyPost_ret (results_cell_row rfl _ _ gb115 27 #[.int .i64 t119, .slice (some ⟨go86, 0, none⟩) x123001_1.length co86, .slice Ao102 x123002_1.length co102] (0, 0) _ rfl (by (with_reducible repeat (first | refine blk_drewN ?_ _ | refine blk_drew ?_ | refine blk_alloc ?_ _)); exact bp3 BK115.out) Try.underlying27 rfl (by kernel_rfl)) rfl ?_
        exact ⟨_, _, by first | rfl | (simp [errW_none, errW_some] <;> rfl) | (simp [*, errW_none, errW_some] <;> rfl), by (with_reducible repeat (first | apply Kd.R_alloc | apply Kd.R_drewN | apply Kd.R_drew)); exact Kd.R_mono (Kd.R_far (p := ⟨gb115, 2, none⟩) (Kd.R_far (p := ⟨gb115, 1, none⟩) (Kd.R_far (p := ⟨gb115, 0, none⟩) (Kd.R_types HO_123001.out BK115.out (by decide)) (fun _ hk => hk.2) (.int .i64 t119)) (fun _ hk => hk.2) (.slice (some ⟨go86, 0, none⟩) x123001_1.length co86)) (fun _ hk => hk.2) (.slice Ao102 x123002_1.length co102)) (fun _ hk => hk.1.1), by (with_reducible repeat (first | apply Kd.R_alloc | apply Kd.R_drewN | apply Kd.R_drew)); exact Kd.R_mono (Kd.R_far (p := ⟨gb115, 2, none⟩) (Kd.R_far (p := ⟨gb115, 1, none⟩) (Kd.R_far (p := ⟨gb115, 0, none⟩) (Kd.R_types HO_123002.out BK115.out (by decide)) (fun _ hk => hk.2) (.int .i64 t119)) (fun _ hk => hk.2) (.slice (some ⟨go86, 0, none⟩) x123001_1.length co86)) (fun _ hk => hk.2) (.slice Ao102 x123002_1.length co102)) (fun _ hk => hk.1.1), by repeat (first | (with_reducible first | exact HI0.out | apply IsS75.alloc | apply IsS75.drewN | apply IsS75.drew | apply IsS75.set_1 | apply IsS75.set_2 | refine IsS75.far ?_ NB0_115.out _ | refine IsS75.far ?_ NB0_122.out _) | exact HI0.out), by repeat (first | (with_reducible first | exact HB.out | apply below_alloc | apply pw_below_drewN | apply below_drew1 | refine below_set ?_ (IsS75.ge HI0.out) | refine below_set ?_ GE115.out | refine below_set ?_ GE122.out) | exact HB.out), by repeat (first | (with_reducible first | exact HK.out | apply KeepBut.set_ | apply keep_drewN | apply keep_drew | apply keep_alloc | refine keep_far ?_ GW115.out _ | refine keep_far ?_ GW122.out _) | exact HK.out)⟩
       ·
        rw [if_neg c85] at H
        exact absurd H (by simp)
      ·
       rw [if_neg c84] at H
       exact absurd H (by simp)
     ·
      rw [if_neg c81] at H
      have c81b0 : (t156 == 1) = false := beq_eq_false_iff_ne.mpr c81
      have c81b1 : (t156 != 1) = true := bne_iff_ne.mpr c81
      by_cases c103 : t156 = 2
      ·
       rw [if_pos c103] at H
       have c103b0 : (t156 == 2) = true := beq_iff_eq.mpr c103
       have c103b1 : (t156 != 2) = false := bne_eq_false_iff_eq.mpr c103
       clear c103
       replace H := Option.bind_eq_some_iff.mp H
       obtain ⟨⟨t175, t176, t177⟩, A1040, H⟩ := H
       replace H : ((spec_l1Cur_among.f s0_0 t176 t177 (([0, 99, 100, (-1)] : List Int))).bind fun bt181 => (if 0 ≤ t175 then (if t175 < (x123002_1.length : Int) then (some (t119, x123001_1, (x123002_1.set (t175 : Int).toNat bt181.1), bt181.2.1, bt181.2.2)) else (none)) else (none))) = some (r1, r2, r3, r4, r5) := H
       have A104 := Aside0.mk A1040
       clear A1040
       obtain ⟨y178, hy178⟩ : ∃ y_ : List Int, y_ = (([0, 99, 100, (-1)] : List Int)) := ⟨_, rfl⟩
       replace H : ((spec_l1Cur_among.f s0_0 t176 t177 y178).bind fun bt181 => (if 0 ≤ t175 then (if t175 < (x123002_1.length : Int) then (some (t119, x123001_1, (x123002_1.set (t175 : Int).toNat bt181.1), bt181.2.1, bt181.2.2)) else (none)) else (none))) = some (r1, r2, r3, r4, r5) := by first | (rw [hy178]; with_reducible exact H) | (have H2_ := (Option.bind_some _ _).symm.trans H; rw [hy178]; with_reducible exact H2_) | (have H2_ := (Option.bind_some _ _).symm.trans H; with_reducible exact H2_) | with_reducible exact H | (rw [hy178]; exact H) | exact H
       have Ny178 := Aside0.mk hy178
       clear hy178
       replace H := Option.bind_eq_some_iff.mp H
       obtain ⟨⟨t181, t182, t183⟩, A1050, H⟩ := H
       replace H : (if 0 ≤ t175 then (if t175 < (x123002_1.length : Int) then (some (t119, x123001_1, (x123002_1.set (t175 : Int).toNat t181), t182, t183)) else (none)) else (none)) = some (r1, r2, r3, r4, r5) := H
       have A105 := Aside0.mk A1050
       clear A1050
       by_cases c106 : 0 ≤ t175
       ·
        rw [if_pos c106] at H
        have c106b0 : decide (0 ≤ t175) = true := decide_eq_true c106
        clear c106
        by_cases c107 : t175 < (x123002_1.length : Int)
        ·
         rw [if_pos c107] at H
         have c107b0 : decide (t175 < (x123002_1.length : Int)) = true := decide_eq_true c107
         clear c107
         obtain ⟨y184, hy184⟩ : ∃ y_ : List Int, y_ = (x123002_1.set (t175 : Int).toNat t181) := ⟨_, rfl⟩
         replace H : (some (t119, x123001_1, y184, t182, t183)) = some (r1, r2, r3, r4, r5) := by first | (rw [hy184]; with_reducible exact H) | (have H2_ := (Option.bind_some _ _).symm.trans H; rw [hy184]; with_reducible exact H2_) | (have H2_ := (Option.bind_some _ _).symm.trans H; with_reducible exact H2_) | with_reducible exact H | (rw [hy184]; exact H) | exact H
         have Ny184 := Aside0.mk hy184
         clear hy184
         simp only [Option.some.injEq, Prod.mk.injEq] at H
         obtain ⟨rfl, rfl, rfl, rfl, rfl⟩ := H
         try go_wp2_with (first | ((with_reducible refine gate_callee (f := 91) rfl ?_); refine goesL_ (some 69) rfl rfl Try.func91 (by kernel_rfl) rfl #[.pointer (some ⟨g, 0, none⟩), .int .i64 50] rfl tM ?_; (with_reducible refine (spec_l1Cur_pick.calls g s0_0 x1001_1 x1002_1 50 t156 t157 t158 w0 _ ?side1 ?side2 A66.out).mono ?_); (case side1 => repeat (first | (with_reducible first | exact HI0.out | apply IsS75.alloc | apply IsS75.drewN | apply IsS75.drew | apply IsS75.set_1 | apply IsS75.set_2 | refine IsS75.far ?_ NB0_115.out _ | refine IsS75.far ?_ NB0_122.out _) | exact HI0.out)); (case side2 => repeat (first | (with_reducible first | exact HB.out | apply below_alloc | apply pw_below_drewN | apply below_drew1 | refine below_set ?_ (IsS75.ge HI0.out) | refine below_set ?_ GE115.out | refine below_set ?_ GE122.out) | exact HB.out)); rintro e w109 ⟨rfl, hi, hb, hk⟩; refine ⟨_, rfl, ?_⟩; replace HO_123001 := Aside0.mk (Kd.R_mono (Kd.R_keep (IsS75.apart (show IsS75 w0 _ g s0_0 x1001_1 x1002_1 from by repeat (first | (with_reducible first | exact HI0.out | apply IsS75.alloc | apply IsS75.drewN | apply IsS75.drew | apply IsS75.set_1 | apply IsS75.set_2 | refine IsS75.far ?_ NB0_115.out _ | refine IsS75.far ?_ NB0_122.out _) | exact HI0.out)) (tR HO_123001.out) (by decide)) hk (fun _ h => h.2)) (fun _ h => h.1)); replace HO_123002 := Aside0.mk (Kd.R_mono (Kd.R_keep (IsS75.apart (show IsS75 w0 _ g s0_0 x1001_1 x1002_1 from by repeat (first | (with_reducible first | exact HI0.out | apply IsS75.alloc | apply IsS75.drewN | apply IsS75.drew | apply IsS75.set_1 | apply IsS75.set_2 | refine IsS75.far ?_ NB0_115.out _ | refine IsS75.far ?_ NB0_122.out _) | exact HI0.out)) (tR HO_123002.out) (by decide)) hk (fun _ h => h.2)) (fun _ h => h.1)); replace BK115 := Aside0.mk (KeepBut.blk hk (g' := gb115) (o := .cells #[.int .i64 0, .slice none 0 0, .slice none 0 0] 27 (0, 0)) (tK BK115.out) NB115_0.out (by simp)); replace BK122 := Aside0.mk (KeepBut.blk hk (g' := gb122) (o := .cells #[.int .i64 t119, u123001, u123002] 27 (0, 0)) (tK BK122.out) NB122_0.out (by simp)); replace HK := Aside0.mk (KeepBut.trans (by repeat (first | (with_reducible first | exact HK.out | apply KeepBut.set_ | apply keep_drewN | apply keep_drew | apply keep_alloc | refine keep_far ?_ GW115.out _ | refine keep_far ?_ GW122.out _) | exact HK.out)) hk (.inl rfl)); replace HB := Aside0.mk (hb); replace HI0 := Aside0.mk (hi); (try clear hb); (try clear hk); (try clear hi)))
         replace HO_123001 := Aside0.mk (Kd.R_drew HO_123001.out)
         replace HO_123002 := Aside0.mk (Kd.R_drew HO_123002.out)
         replace BK115 := Aside0.mk (blk_drew BK115.out)
         replace BK122 := Aside0.mk (blk_drew BK122.out)
         replace HI0 := Aside0.mk (IsS75.drew HI0.out)
         replace HK := Aside0.mk (keep_drew HK.out)
         replace HB := Aside0.mk (below_drew1 HB.out)
         refine start_ (n := 10) (S := fun w' => w'.cell? ⟨gb122, 0, none⟩ = some (.int .i64 t119) ∧ w'.cell? ⟨gb122, 1, none⟩ = some (u123001) ∧ w'.cell? ⟨gb122, 2, none⟩ = some (u123002)) (ds := [9]) #[n_, n_, n_, n_, n_, n_, n_, n_, n_, n_] (by kernel_rfl) rfl rfl ⟨(blk_cell BK122.out 0).trans rfl, (blk_cell BK122.out 1).trans rfl, (blk_cell BK122.out 2).trans rfl⟩ (fun hHeld => ?_); refine with_tabW spec_l1Cur_pile.tab18 spec_l1Cur_pile.bits18 (fun HT_ HW_ => ?_)
         generalize w109.drew = w110 at HO_123001 HO_123002 BK115 BK122 HI0 HK HB hHeld ⊢
         refine pu 0 (some 89) #[y_, n_, n_, n_, n_, n_, n_, n_, n_, n_] (any_of HT_.out (by kernel_rfl)) ?_
         refine pu 2 (some 91) #[y_, n_, y_, n_, n_, n_, n_, n_, n_, n_] (any_of HT_.out (by kernel_rfl)) ?_
         refine pu 3 (some 92) #[y_, n_, y_, y_, n_, n_, n_, n_, n_, n_] (any_of HT_.out (by kernel_rfl)) ?_
         refine pu 5 (some 94) #[y_, n_, y_, y_, n_, y_, n_, n_, n_, n_] (any_of HT_.out (by kernel_rfl)) ?_
         refine tk 1 (some 90) #[y_, y_, y_, y_, n_, y_, n_, n_, n_, n_] rfl (take_ofW HT_.out HW_.out (by kernel_rfl)) hHeld (Or.inl ⟨by rfl, by rintro w' ⟨s0, s1, s2⟩; go_simp; with_reducible rfl⟩) ?_
         refine join_ (σ := Value) 3 #[y_, y_, y_, y_, y_, y_, y_, n_, n_, n_] (fun s_ => [(93, .int .i64 t175), (95, s_)]) (fun s_ w' => (w'.cell? ⟨gb122, 0, none⟩ = some (.int .i64 t119) ∧ w'.cell? ⟨gb122, 1, none⟩ = some (u123001) ∧ w'.cell? ⟨gb122, 2, none⟩ = some (u123002)) ∧ (Kd.R (Kd.int .i64) 3 w' w.heap.size (fun k_ => some k_ ≠ (u123001 : Value).ownBlock ∧ some k_ ≠ (u123002 : Value).ownBlock) s_ y178) ∧ (Kd.R (Kd.int .i64) 3 w' w.heap.size (fun k_ => some k_ ≠ (s_ : Value).ownBlock ∧ some k_ ≠ (u123002 : Value).ownBlock) u123001 x123001_1) ∧ (Kd.R (Kd.int .i64) 3 w' w.heap.size (fun k_ => some k_ ≠ (s_ : Value).ownBlock ∧ some k_ ≠ (u123001 : Value).ownBlock) u123002 x123002_1) ∧ (w'.heap[gb115]? = some (.cells #[.int .i64 0, .slice none 0 0, .slice none 0 0] 27 (0, 0))) ∧ (w'.heap[gb122]? = some (.cells #[.int .i64 t119, u123001, u123002] 27 (0, 0))) ∧ (IsS75 w0 w' g s0_0 t176 t177) ∧ (KeepBut w w' g none) ∧ (Below w0.heap.size w0 w')) ?_ ?_
         rotate_left
         ·
          intro hCont
          refine two_ (i := 4) (j := 6) (Ni := some 93) (Nj := some 95) #[y_, y_, y_, y_, y_, y_, n_, n_, n_, n_] #[y_, y_, y_, y_, n_, y_, y_, n_, n_, n_] rfl rfl rfl rfl (two_of HT_.out (by kernel_rfl)) (by decide) (by decide) (fun K hK => ?_) (fun K hK => ?_)
          ·
           skip
           refine goes_ Try.func91 (by kernel_rfl) rfl #[.pointer (some ⟨g, 0, none⟩), .int .i64 t126] (by rfl) rfl rfl tM ?_
           with_reducible refine (spec_l1Cur_pick.calls g s0_0 t157 t158 t126 t175 t176 t177 w0 _ ?side1 ?side2 A104.out).mono ?_
           (case side1 => repeat (first | (with_reducible first | exact HI0.out | apply IsS75.alloc | apply IsS75.drewN | apply IsS75.drew | apply IsS75.set_1 | apply IsS75.set_2 | refine IsS75.far ?_ NB0_115.out _ | refine IsS75.far ?_ NB0_122.out _) | exact HI0.out))
           (case side2 => repeat (first | (with_reducible first | exact HB.out | apply below_alloc | apply pw_below_drewN | apply below_drew1 | refine below_set ?_ (IsS75.ge HI0.out) | refine below_set ?_ GE115.out | refine below_set ?_ GE122.out) | exact HB.out))
           rintro e w111 ⟨rfl, hi, hb, hk⟩
           refine ⟨_, rfl, ?_⟩
           replace HO_123001 := Aside0.mk (Kd.R_mono (Kd.R_keep (IsS75.apart (show IsS75 w0 _ g s0_0 t157 t158 from by repeat (first | (with_reducible first | exact HI0.out | apply IsS75.alloc | apply IsS75.drewN | apply IsS75.drew | apply IsS75.set_1 | apply IsS75.set_2 | refine IsS75.far ?_ NB0_115.out _ | refine IsS75.far ?_ NB0_122.out _) | exact HI0.out)) (tR HO_123001.out) (by decide)) hk (fun _ h => h.2)) (fun _ h => h.1))
           replace HO_123002 := Aside0.mk (Kd.R_mono (Kd.R_keep (IsS75.apart (show IsS75 w0 _ g s0_0 t157 t158 from by repeat (first | (with_reducible first | exact HI0.out | apply IsS75.alloc | apply IsS75.drewN | apply IsS75.drew | apply IsS75.set_1 | apply IsS75.set_2 | refine IsS75.far ?_ NB0_115.out _ | refine IsS75.far ?_ NB0_122.out _) | exact HI0.out)) (tR HO_123002.out) (by decide)) hk (fun _ h => h.2)) (fun _ h => h.1))
           replace BK115 := Aside0.mk (KeepBut.blk hk (g' := gb115) (o := .cells #[.int .i64 0, .slice none 0 0, .slice none 0 0] 27 (0, 0)) (tK BK115.out) NB115_0.out (by simp))
           replace BK122 := Aside0.mk (KeepBut.blk hk (g' := gb122) (o := .cells #[.int .i64 t119, u123001, u123002] 27 (0, 0)) (tK BK122.out) NB122_0.out (by simp))
           replace HK := Aside0.mk (KeepBut.trans (by repeat (first | (with_reducible first | exact HK.out | apply KeepBut.set_ | apply keep_drewN | apply keep_drew | apply keep_alloc | refine keep_far ?_ GW115.out _ | refine keep_far ?_ GW122.out _) | exact HK.out)) hk (.inl rfl))
           replace HB := Aside0.mk (hb)
           replace HI0 := Aside0.mk (hi)
           (try clear hb); (try clear hb2); (try clear hk); (try clear hi)
           refine hK.out _ _ ⟨(blk_cell BK122.out 0).trans rfl, (blk_cell BK122.out 1).trans rfl, (blk_cell BK122.out 2).trans rfl⟩ (fun hHeld => ?_)
           clear hK K
           refine norm_ (a' := ?_) ?_ ?_
           rotate_left
           ·
            show Act.put _ (some 93) _ = _
            simp only [Act.put, List.setIfInBounds_toArray, List.set_cons_zero, List.set_cons_succ, i64_w, i32_w]
            rfl
           refine one_ (i := 6) (N := some 95) #[y_, y_, y_, y_, y_, y_, y_, n_, n_, n_] rfl rfl (one_of HT_.out (by kernel_rfl)) (by decide) (fun K hK => ?_)
           refine Kd.R_lit_step (Kd.int .i64) _ 3 ?hg (N := 95) ?hd (xs := ([0, 99, 100, (-1)] : List Int)) (inner := [.int .i64 0, .int .i64 99, .int .i64 100, .int .i64 (-1)]) (ok := fun _ => True) (okp := fun _ => True) ?hr ?hp (fun _ hk => hk) trivial (Below.refl _ _) (Nat.le_refl _) (by simp) ?_; (case hd => rfl); (case hg => rfl); (case hr => first | (go_simp; done) | (go_simp; rfl)); (case hp => exact (Reps.one (show Kd.M (Kd.int .i64) _ _ _ 0 [.int .i64 0] from rfl) (Reps.one (show Kd.M (Kd.int .i64) _ _ _ 99 [.int .i64 99] from rfl) (Reps.one (show Kd.M (Kd.int .i64) _ _ _ 100 [.int .i64 100] from rfl) (Reps.one (show Kd.M (Kd.int .i64) _ _ _ (-1) [.int .i64 (-1)] from rfl) (Reps.none _ _))))))
           intro v179 w112 ho113 hb hg_ hnew_
           clear hg_ hnew_
           (first | rw [← Ny178.out] at ho113 | (simp only [Int.reduceToNat] at ho113; rw [← Ny178.out] at ho113))
           have HO180 := Aside0.mk (Kd.R_lower (Kd.R_new' (Kd.R_new' ho113 (Kd.R_lt (tR HO_123001.out))) (Kd.R_lt (tR HO_123002.out))) (keep_size (w := w) (g := g) (row := none) (by repeat (first | (with_reducible first | exact HK.out | apply KeepBut.set_ | apply keep_drewN | apply keep_drew | apply keep_alloc | refine keep_far ?_ GW115.out _ | refine keep_far ?_ GW122.out _) | exact HK.out))))
           replace HO_123001 := Aside0.mk (Kd.R_elder' (tR HO_123001.out) (Kd.R_base ho113) hb)
           replace HO_123002 := Aside0.mk (Kd.R_elder' (tR HO_123002.out) (Kd.R_base ho113) hb)
           replace BK115 := bkB BK115 hb
           replace BK122 := bkB BK122 hb
           replace HK := Aside0.mk (KeepBut.trans (by repeat (first | (with_reducible first | exact HK.out | apply KeepBut.set_ | apply keep_drewN | apply keep_drew | apply keep_alloc | refine keep_far ?_ GW115.out _ | refine keep_far ?_ GW122.out _) | exact HK.out)) (KeepBut.of_below hb g none) (.inl rfl))
           replace HB := Aside0.mk (below_step (by repeat (first | (with_reducible first | exact HB.out | apply below_alloc | apply pw_below_drewN | apply below_drew1 | refine below_set ?_ (IsS75.ge HI0.out) | refine below_set ?_ GE115.out | refine below_set ?_ GE122.out) | exact HB.out)) hb)
           replace HI0 := Aside0.mk (IsS75.below (by repeat (first | (with_reducible first | exact HI0.out | apply IsS75.alloc | apply IsS75.drewN | apply IsS75.drew | apply IsS75.set_1 | apply IsS75.set_2 | refine IsS75.far ?_ NB0_115.out _ | refine IsS75.far ?_ NB0_122.out _) | exact HI0.out)) hb)
           clear hb ho113
           refine hK.out _ _ ⟨(blk_cell BK122.out 0).trans rfl, (blk_cell BK122.out 1).trans rfl, (blk_cell BK122.out 2).trans rfl⟩ (fun hHeld => ?_)
           clear hK K
           refine norm_ (a' := ?_) ?_ ?_
           rotate_left
           ·
            show Act.put _ (some 95) _ = _
            simp only [Act.put, List.setIfInBounds_toArray, List.set_cons_zero, List.set_cons_succ, i64_w, i32_w]
            rfl
           exact norm_ (by simp only [putAll, Act.put, List.setIfInBounds_toArray, List.set_cons_zero, List.set_cons_succ]) (hCont (v179) _ ⟨hHeld, (by (with_reducible repeat (first | apply Kd.R_alloc | apply Kd.R_drewN | apply Kd.R_drew)); exact Kd.R_mono HO180.out (fun _ hk => ⟨hk.1.2, hk.2⟩)), (by (with_reducible repeat (first | apply Kd.R_alloc | apply Kd.R_drewN | apply Kd.R_drew)); exact Kd.R_mono HO_123001.out (fun _ hk => ⟨hk.2, hk.1⟩)), (by (with_reducible repeat (first | apply Kd.R_alloc | apply Kd.R_drewN | apply Kd.R_drew)); exact Kd.R_mono HO_123002.out (fun _ hk => ⟨hk.2, hk.1⟩)), (tK BK115.out), (tK BK122.out), (by repeat (first | (with_reducible first | exact HI0.out | apply IsS75.alloc | apply IsS75.drewN | apply IsS75.drew | apply IsS75.set_1 | apply IsS75.set_2 | refine IsS75.far ?_ NB0_115.out _ | refine IsS75.far ?_ NB0_122.out _) | exact HI0.out)), (by repeat (first | (with_reducible first | exact HK.out | apply KeepBut.set_ | apply keep_drewN | apply keep_drew | apply keep_alloc | refine keep_far ?_ GW115.out _ | refine keep_far ?_ GW122.out _) | exact HK.out)), (by repeat (first | (with_reducible first | exact HB.out | apply below_alloc | apply pw_below_drewN | apply below_drew1 | refine below_set ?_ (IsS75.ge HI0.out) | refine below_set ?_ GE115.out | refine below_set ?_ GE122.out) | exact HB.out))⟩)
          ·
           skip
           refine Kd.R_lit_step (Kd.int .i64) _ 3 ?hg (N := 95) ?hd (xs := ([0, 99, 100, (-1)] : List Int)) (inner := [.int .i64 0, .int .i64 99, .int .i64 100, .int .i64 (-1)]) (ok := fun _ => True) (okp := fun _ => True) ?hr ?hp (fun _ hk => hk) trivial (Below.refl _ _) (Nat.le_refl _) (by simp) ?_; (case hd => rfl); (case hg => rfl); (case hr => first | (go_simp; done) | (go_simp; rfl)); (case hp => exact (Reps.one (show Kd.M (Kd.int .i64) _ _ _ 0 [.int .i64 0] from rfl) (Reps.one (show Kd.M (Kd.int .i64) _ _ _ 99 [.int .i64 99] from rfl) (Reps.one (show Kd.M (Kd.int .i64) _ _ _ 100 [.int .i64 100] from rfl) (Reps.one (show Kd.M (Kd.int .i64) _ _ _ (-1) [.int .i64 (-1)] from rfl) (Reps.none _ _))))))
           intro v179 w111 ho112 hb hg_ hnew_
           clear hg_ hnew_
           (first | rw [← Ny178.out] at ho112 | (simp only [Int.reduceToNat] at ho112; rw [← Ny178.out] at ho112))
           have HO180 := Aside0.mk (Kd.R_lower (Kd.R_new' (Kd.R_new' ho112 (Kd.R_lt (tR HO_123001.out))) (Kd.R_lt (tR HO_123002.out))) (keep_size (w := w) (g := g) (row := none) (by repeat (first | (with_reducible first | exact HK.out | apply KeepBut.set_ | apply keep_drewN | apply keep_drew | apply keep_alloc | refine keep_far ?_ GW115.out _ | refine keep_far ?_ GW122.out _) | exact HK.out))))
           replace HO_123001 := Aside0.mk (Kd.R_elder' (tR HO_123001.out) (Kd.R_base ho112) hb)
           replace HO_123002 := Aside0.mk (Kd.R_elder' (tR HO_123002.out) (Kd.R_base ho112) hb)
           replace BK115 := bkB BK115 hb
           replace BK122 := bkB BK122 hb
           replace HK := Aside0.mk (KeepBut.trans (by repeat (first | (with_reducible first | exact HK.out | apply KeepBut.set_ | apply keep_drewN | apply keep_drew | apply keep_alloc | refine keep_far ?_ GW115.out _ | refine keep_far ?_ GW122.out _) | exact HK.out)) (KeepBut.of_below hb g none) (.inl rfl))
           replace HB := Aside0.mk (below_step (by repeat (first | (with_reducible first | exact HB.out | apply below_alloc | apply pw_below_drewN | apply below_drew1 | refine below_set ?_ (IsS75.ge HI0.out) | refine below_set ?_ GE115.out | refine below_set ?_ GE122.out) | exact HB.out)) hb)
           replace HI0 := Aside0.mk (IsS75.below (by repeat (first | (with_reducible first | exact HI0.out | apply IsS75.alloc | apply IsS75.drewN | apply IsS75.drew | apply IsS75.set_1 | apply IsS75.set_2 | refine IsS75.far ?_ NB0_115.out _ | refine IsS75.far ?_ NB0_122.out _) | exact HI0.out)) hb)
           clear hb ho112
           refine hK.out _ _ ⟨(blk_cell BK122.out 0).trans rfl, (blk_cell BK122.out 1).trans rfl, (blk_cell BK122.out 2).trans rfl⟩ (fun hHeld => ?_)
           clear hK K
           refine norm_ (a' := ?_) ?_ ?_
           rotate_left
           ·
            show Act.put _ (some 95) _ = _
            simp only [Act.put, List.setIfInBounds_toArray, List.set_cons_zero, List.set_cons_succ, i64_w, i32_w]
            rfl
           refine one_ (i := 4) (N := some 93) #[y_, y_, y_, y_, y_, y_, y_, n_, n_, n_] rfl rfl (one_of HT_.out (by kernel_rfl)) (by decide) (fun K hK => ?_)
           refine goes_ Try.func91 (by kernel_rfl) rfl #[.pointer (some ⟨g, 0, none⟩), .int .i64 t126] (by rfl) rfl rfl tM ?_
           with_reducible refine (spec_l1Cur_pick.calls g s0_0 t157 t158 t126 t175 t176 t177 w0 _ ?side1 ?side2 A104.out).mono ?_
           (case side1 => repeat (first | (with_reducible first | exact HI0.out | apply IsS75.alloc | apply IsS75.drewN | apply IsS75.drew | apply IsS75.set_1 | apply IsS75.set_2 | refine IsS75.far ?_ NB0_115.out _ | refine IsS75.far ?_ NB0_122.out _) | exact HI0.out))
           (case side2 => repeat (first | (with_reducible first | exact HB.out | apply below_alloc | apply pw_below_drewN | apply below_drew1 | refine below_set ?_ (IsS75.ge HI0.out) | refine below_set ?_ GE115.out | refine below_set ?_ GE122.out) | exact HB.out))
           rintro e w113 ⟨rfl, hi, hb, hk⟩
           refine ⟨_, rfl, ?_⟩
           replace HO_123001 := Aside0.mk (Kd.R_mono (Kd.R_keep (IsS75.apart (show IsS75 w0 _ g s0_0 t157 t158 from by repeat (first | (with_reducible first | exact HI0.out | apply IsS75.alloc | apply IsS75.drewN | apply IsS75.drew | apply IsS75.set_1 | apply IsS75.set_2 | refine IsS75.far ?_ NB0_115.out _ | refine IsS75.far ?_ NB0_122.out _) | exact HI0.out)) (tR HO_123001.out) (by decide)) hk (fun _ h => h.2)) (fun _ h => h.1))
           replace HO_123002 := Aside0.mk (Kd.R_mono (Kd.R_keep (IsS75.apart (show IsS75 w0 _ g s0_0 t157 t158 from by repeat (first | (with_reducible first | exact HI0.out | apply IsS75.alloc | apply IsS75.drewN | apply IsS75.drew | apply IsS75.set_1 | apply IsS75.set_2 | refine IsS75.far ?_ NB0_115.out _ | refine IsS75.far ?_ NB0_122.out _) | exact HI0.out)) (tR HO_123002.out) (by decide)) hk (fun _ h => h.2)) (fun _ h => h.1))
           replace BK115 := Aside0.mk (KeepBut.blk hk (g' := gb115) (o := .cells #[.int .i64 0, .slice none 0 0, .slice none 0 0] 27 (0, 0)) (tK BK115.out) NB115_0.out (by simp))
           replace BK122 := Aside0.mk (KeepBut.blk hk (g' := gb122) (o := .cells #[.int .i64 t119, u123001, u123002] 27 (0, 0)) (tK BK122.out) NB122_0.out (by simp))
           replace HO180 := Aside0.mk (Kd.R_mono (Kd.R_keep (IsS75.apart (show IsS75 w0 _ g s0_0 t157 t158 from by repeat (first | (with_reducible first | exact HI0.out | apply IsS75.alloc | apply IsS75.drewN | apply IsS75.drew | apply IsS75.set_1 | apply IsS75.set_2 | refine IsS75.far ?_ NB0_115.out _ | refine IsS75.far ?_ NB0_122.out _) | exact HI0.out)) (tR HO180.out) (by decide)) hk (fun _ h => h.2)) (fun _ h => h.1))
           replace HK := Aside0.mk (KeepBut.trans (by repeat (first | (with_reducible first | exact HK.out | apply KeepBut.set_ | apply keep_drewN | apply keep_drew | apply keep_alloc | refine keep_far ?_ GW115.out _ | refine keep_far ?_ GW122.out _) | exact HK.out)) hk (.inl rfl))
           replace HB := Aside0.mk (hb)
           replace HI0 := Aside0.mk (hi)
           (try clear hb); (try clear hb2); (try clear hk); (try clear hi)
           refine hK.out _ _ ⟨(blk_cell BK122.out 0).trans rfl, (blk_cell BK122.out 1).trans rfl, (blk_cell BK122.out 2).trans rfl⟩ (fun hHeld => ?_)
           clear hK K
           refine norm_ (a' := ?_) ?_ ?_
           rotate_left
           ·
            show Act.put _ (some 93) _ = _
            simp only [Act.put, List.setIfInBounds_toArray, List.set_cons_zero, List.set_cons_succ, i64_w, i32_w]
            rfl
           exact norm_ (by simp only [putAll, Act.put, List.setIfInBounds_toArray, List.set_cons_zero, List.set_cons_succ]) (hCont (v179) _ ⟨hHeld, (by (with_reducible repeat (first | apply Kd.R_alloc | apply Kd.R_drewN | apply Kd.R_drew)); exact Kd.R_mono HO180.out (fun _ hk => ⟨hk.1.2, hk.2⟩)), (by (with_reducible repeat (first | apply Kd.R_alloc | apply Kd.R_drewN | apply Kd.R_drew)); exact Kd.R_mono HO_123001.out (fun _ hk => ⟨hk.2, hk.1⟩)), (by (with_reducible repeat (first | apply Kd.R_alloc | apply Kd.R_drewN | apply Kd.R_drew)); exact Kd.R_mono HO_123002.out (fun _ hk => ⟨hk.2, hk.1⟩)), (tK BK115.out), (tK BK122.out), (by repeat (first | (with_reducible first | exact HI0.out | apply IsS75.alloc | apply IsS75.drewN | apply IsS75.drew | apply IsS75.set_1 | apply IsS75.set_2 | refine IsS75.far ?_ NB0_115.out _ | refine IsS75.far ?_ NB0_122.out _) | exact HI0.out)), (by repeat (first | (with_reducible first | exact HK.out | apply KeepBut.set_ | apply keep_drewN | apply keep_drew | apply keep_alloc | refine keep_far ?_ GW115.out _ | refine keep_far ?_ GW122.out _) | exact HK.out)), (by repeat (first | (with_reducible first | exact HB.out | apply below_alloc | apply pw_below_drewN | apply below_drew1 | refine below_set ?_ (IsS75.ge HI0.out) | refine below_set ?_ GE115.out | refine below_set ?_ GE122.out) | exact HB.out))⟩)
         rintro v179 w114 ⟨hS_, h0_, h1_, h2_, h3_, h4_, h5_, h6_, h7_⟩
         have n0_ : Aside0 (Kd.R (Kd.int .i64) 3 w114 w.heap.size (fun k_ => some k_ ≠ (u123001 : Value).ownBlock ∧ some k_ ≠ (u123002 : Value).ownBlock) v179 y178) := ⟨h0_⟩
         have n1_ : Aside0 (Kd.R (Kd.int .i64) 3 w114 w.heap.size (fun k_ => some k_ ≠ (v179 : Value).ownBlock ∧ some k_ ≠ (u123002 : Value).ownBlock) u123001 x123001_1) := ⟨h1_⟩
         have n2_ : Aside0 (Kd.R (Kd.int .i64) 3 w114 w.heap.size (fun k_ => some k_ ≠ (v179 : Value).ownBlock ∧ some k_ ≠ (u123001 : Value).ownBlock) u123002 x123002_1) := ⟨h2_⟩
         have n3_ : Aside0 (w114.heap[gb115]? = some (.cells #[.int .i64 0, .slice none 0 0, .slice none 0 0] 27 (0, 0))) := ⟨h3_⟩
         have n4_ : Aside0 (w114.heap[gb122]? = some (.cells #[.int .i64 t119, u123001, u123002] 27 (0, 0))) := ⟨h4_⟩
         have n5_ : Aside0 (IsS75 w0 w114 g s0_0 t176 t177) := ⟨h5_⟩
         have n6_ : Aside0 (KeepBut w w114 g none) := ⟨h6_⟩
         have n7_ : Aside0 (Below w0.heap.size w0 w114) := ⟨h7_⟩
         clear HO_123001
         clear HO_123002
         clear BK115
         clear BK122
         clear HI0
         clear HK
         clear HB
         clear h0_ h1_ h2_ h3_ h4_ h5_ h6_ h7_
         have HO180 := n0_
         have HO_123001 := n1_
         have HO_123002 := n2_
         have BK115 := n3_
         have BK122 := n4_
         have HI0 := n5_
         have HK := n6_
         have HB := n7_
         clear n0_ n1_ n2_ n3_ n4_ n5_ n6_ n7_
         have hHeld : w114.cell? ⟨gb122, 0, none⟩ = some (.int .i64 t119) ∧ w114.cell? ⟨gb122, 1, none⟩ = some (u123001) ∧ w114.cell? ⟨gb122, 2, none⟩ = some (u123002) := hS_
         obtain ⟨Ao115, co115, eo115⟩ := Kd.R_slice HO180.out
         (first | subst eo115 | (injection eo115 with f1_ f2_ f3_; have f4_ := f1_.symm; have f5_ := f3_.symm; clear f1_ f2_ f3_; subst f4_; subst f5_))
         refine norm_ (a' := ?_) ?_ ?_
         rotate_left
         ·
          simp only [putAll, Act.put, List.setIfInBounds_toArray, List.set_cons_zero, List.set_cons_succ]
          rfl
         refine one_ (i := 7) (N := some 96) #[y_, y_, y_, y_, y_, y_, y_, y_, n_, n_] rfl rfl (one_of HT_.out (by kernel_rfl)) (by decide) (fun K hK => ?_)
         refine goes_ Try.func86 (by kernel_rfl) rfl #[.pointer (some ⟨g, 0, none⟩), .slice Ao115 y178.length co115] (by rfl) rfl rfl tM ?_
         with_reducible refine (spec_l1Cur_among.calls g s0_0 t176 t177 _ _ y178 t181 t182 t183 w0 _ ?side1 ?side2 ?side3 ?side4 ?side5 A105.out).mono ?_
         (case side1 => repeat (first | (with_reducible first | exact HI0.out | apply IsS75.alloc | apply IsS75.drewN | apply IsS75.drew | apply IsS75.set_1 | apply IsS75.set_2 | refine IsS75.far ?_ NB0_115.out _ | refine IsS75.far ?_ NB0_122.out _) | exact HI0.out))
         (case side2 => repeat (first | (with_reducible first | exact HB.out | apply below_alloc | apply pw_below_drewN | apply below_drew1 | refine below_set ?_ (IsS75.ge HI0.out) | refine below_set ?_ GE115.out | refine below_set ?_ GE122.out) | exact HB.out))
         (case side3 => exact rC HO180)
         (case side4 => exact (Kd.R_reads' HO180.out).2.1)
         (case side5 => exact far_slice (IsS75.own_ne HI0.out HO180.out (by decide)))
         rintro e w116 ⟨rfl, hi, hb, hk⟩
         refine ⟨_, rfl, ?_⟩
         replace HO_123001 := Aside0.mk (Kd.R_mono (Kd.R_keep (IsS75.apart (show IsS75 w0 _ g s0_0 t176 t177 from by repeat (first | (with_reducible first | exact HI0.out | apply IsS75.alloc | apply IsS75.drewN | apply IsS75.drew | apply IsS75.set_1 | apply IsS75.set_2 | refine IsS75.far ?_ NB0_115.out _ | refine IsS75.far ?_ NB0_122.out _) | exact HI0.out)) (tR HO_123001.out) (by decide)) hk (fun _ h => h.2)) (fun _ h => h.1))
         replace HO_123002 := Aside0.mk (Kd.R_mono (Kd.R_keep (IsS75.apart (show IsS75 w0 _ g s0_0 t176 t177 from by repeat (first | (with_reducible first | exact HI0.out | apply IsS75.alloc | apply IsS75.drewN | apply IsS75.drew | apply IsS75.set_1 | apply IsS75.set_2 | refine IsS75.far ?_ NB0_115.out _ | refine IsS75.far ?_ NB0_122.out _) | exact HI0.out)) (tR HO_123002.out) (by decide)) hk (fun _ h => h.2)) (fun _ h => h.1))
         replace BK115 := Aside0.mk (KeepBut.blk hk (g' := gb115) (o := .cells #[.int .i64 0, .slice none 0 0, .slice none 0 0] 27 (0, 0)) (tK BK115.out) NB115_0.out (by simp))
         replace BK122 := Aside0.mk (KeepBut.blk hk (g' := gb122) (o := .cells #[.int .i64 t119, u123001, u123002] 27 (0, 0)) (tK BK122.out) NB122_0.out (by simp))
         replace HO180 := Aside0.mk (Kd.R_mono (Kd.R_keep (IsS75.apart (show IsS75 w0 _ g s0_0 t176 t177 from by repeat (first | (with_reducible first | exact HI0.out | apply IsS75.alloc | apply IsS75.drewN | apply IsS75.drew | apply IsS75.set_1 | apply IsS75.set_2 | refine IsS75.far ?_ NB0_115.out _ | refine IsS75.far ?_ NB0_122.out _) | exact HI0.out)) (tR HO180.out) (by decide)) hk (fun _ h => h.2)) (fun _ h => h.1))
         replace HK := Aside0.mk (KeepBut.trans (by repeat (first | (with_reducible first | exact HK.out | apply KeepBut.set_ | apply keep_drewN | apply keep_drew | apply keep_alloc | refine keep_far ?_ GW115.out _ | refine keep_far ?_ GW122.out _) | exact HK.out)) hk (.inl rfl))
         replace HB := Aside0.mk (hb)
         replace HI0 := Aside0.mk (hi)
         (try clear hb); (try clear hb2); (try clear hk); (try clear hi)
         have p108 : 0 ≤ (t175 : Int) := of_decide_eq_true (by first | (with_reducible assumption) | assumption)
         have q108 : (t175 : Int) < ((x123002_1.length : Int) : Int) := of_decide_eq_true (by first | (with_reducible assumption) | assumption)
         obtain ⟨go108, co108, eo108, gb108, gl108, cl108, HG108⟩ := Kd.R_form HO_123002.out (by omega)
         (first | cases eo108 | (injection eo108 with ea_ en_ ec_; (first | subst ea_ | (injection ea_ with ea_; subst ea_)); subst ec_; clear en_))
         have GB108 := Aside0.mk gb108
         have GG108 := Aside0.mk HG108
         clear gb108 gl108 HG108
         obtain ⟨hx108_0, hf108_0⟩ := Kd.R_celln 0 HO_123002.out (t175 : Int) p108 q108
         replace p108 := eq_true p108
         replace q108 := eq_true q108
         have HN0_go108 := Aside0.mk (show g ≠ go108 from by have h_ := IsS75.own_ne HI0.out HO_123002.out (by decide); intro e_; exact h_ (by rw [e_]; rfl))
         have HP117 := Kd.R_putn HO_123002.out (t175 : Int) t181
         rw [← Ny184.out] at HP117
         have HQ117 := Aside0.mk HP117
         clear HP117
         refine hK.out _ _ ⟨(blk_cell BK122.out 0).trans rfl, (blk_cell BK122.out 1).trans rfl, (blk_cell BK122.out 2).trans rfl⟩ (fun hHeld => ?_)
         clear hK K
         refine norm_ (a' := ?_) ?_ ?_
         rotate_left
         ·
          show Act.put _ (some 96) _ = _
          simp only [Act.put, List.setIfInBounds_toArray, List.set_cons_zero, List.set_cons_succ, i64_w, i32_w]
          rfl
         refine pu 8 (some 97) #[y_, y_, y_, y_, y_, y_, y_, y_, y_, n_] (any_of HT_.out (by kernel_rfl)) ?_
         refine last_ (i := 9) (N := none) #[y_, y_, y_, y_, y_, y_, y_, y_, y_, y_] rfl rfl (one_of HT_.out (by kernel_rfl)) (by decide) (fun K hK => ?_)
         refine skip_ (w1 := ?_) (by rfl) rfl ?_ ?_
         rotate_left
         ·
          go_simp
          rfl
         refine hK.out _ _ ?_
         clear hK K
         refine done_ (done_of HT_.out (by kernel_rfl)) ?_
         have n0_ : Aside0 (Kd.R (Kd.int .i64) 3 (w116.setCell ⟨go108, (t175 : Int).toNat, none⟩ (.int .i64 t181)) w.heap.size (fun k_ => some k_ ≠ (.slice (some ⟨go108, 0, none⟩) x123002_1.length co108 : Value).ownBlock ∧ some k_ ≠ (.slice Ao115 y178.length co115 : Value).ownBlock) u123001 x123001_1) := ⟨by (with_reducible repeat (first | apply Kd.R_alloc | apply Kd.R_drewN | apply Kd.R_drew)); exact Kd.R_mono (Kd.R_far (p := ⟨go108, (t175 : Int).toNat, none⟩) (Kd.R_mono HO_123001.out (fun k_ hk => (⟨hk, fun e_ => hk.2 (by rw [e_]; rfl)⟩ : _ ∧ k_ ≠ go108))) (fun _ hk => hk.2) (.int .i64 t181)) (fun _ hk => ⟨hk.1.2, hk.1.1⟩)⟩
         have n1_ : Aside0 (Kd.R (Kd.int .i64) 3 (w116.setCell ⟨go108, (t175 : Int).toNat, none⟩ (.int .i64 t181)) w.heap.size (fun k_ => some k_ ≠ (u123001 : Value).ownBlock ∧ some k_ ≠ (.slice Ao115 y178.length co115 : Value).ownBlock) (.slice (some ⟨go108, 0, none⟩) x123002_1.length co108) y184) := ⟨by (with_reducible repeat (first | apply Kd.R_alloc | apply Kd.R_drewN | apply Kd.R_drew)); exact Kd.R_mono HQ117.out (fun _ hk => ⟨hk.2, hk.1⟩)⟩
         have n2_ : Aside0 (Kd.R (Kd.int .i64) 3 (w116.setCell ⟨go108, (t175 : Int).toNat, none⟩ (.int .i64 t181)) w.heap.size (fun k_ => some k_ ≠ (u123001 : Value).ownBlock ∧ some k_ ≠ (.slice (some ⟨go108, 0, none⟩) x123002_1.length co108 : Value).ownBlock) (.slice Ao115 y178.length co115) y178) := ⟨by (with_reducible repeat (first | apply Kd.R_alloc | apply Kd.R_drewN | apply Kd.R_drew)); exact Kd.R_mono (Kd.R_far (p := ⟨go108, (t175 : Int).toNat, none⟩) (Kd.R_mono HO180.out (fun k_ hk => (⟨hk, fun e_ => hk.2 (by rw [e_]; rfl)⟩ : _ ∧ k_ ≠ go108))) (fun _ hk => hk.2) (.int .i64 t181)) (fun _ hk => ⟨hk.1.1, hk.1.2⟩)⟩
         have n3_ : Aside0 ((w116.setCell ⟨go108, (t175 : Int).toNat, none⟩ (.int .i64 t181)).heap[gb115]? = some (.cells #[.int .i64 0, .slice none 0 0, .slice none 0 0] 27 (0, 0))) := ⟨by (with_reducible repeat (first | refine blk_drewN ?_ _ | refine blk_drew ?_ | refine blk_alloc ?_ _)); refine blk_far ?_ (by have h_ := Kd.R_ne HO_123002.out BK115.out (by decide); intro e_; exact h_ (by rw [e_]; rfl)) _; (with_reducible repeat (first | refine blk_drewN ?_ _ | refine blk_drew ?_ | refine blk_alloc ?_ _)); exact BK115.out⟩
         have n4_ : Aside0 ((w116.setCell ⟨go108, (t175 : Int).toNat, none⟩ (.int .i64 t181)).heap[gb122]? = some (.cells #[.int .i64 t119, u123001, .slice (some ⟨go108, 0, none⟩) x123002_1.length co108] 27 (0, 0))) := ⟨by (with_reducible repeat (first | refine blk_drewN ?_ _ | refine blk_drew ?_ | refine blk_alloc ?_ _)); refine blk_far ?_ (by have h_ := Kd.R_ne HO_123002.out BK122.out (by decide); intro e_; exact h_ (by rw [e_]; rfl)) _; (with_reducible repeat (first | refine blk_drewN ?_ _ | refine blk_drew ?_ | refine blk_alloc ?_ _)); exact BK122.out⟩
         have n5_ : Aside0 (IsS75 w0 (w116.setCell ⟨go108, (t175 : Int).toNat, none⟩ (.int .i64 t181)) g s0_0 t182 t183) := ⟨by repeat (first | (with_reducible first | exact HI0.out | apply IsS75.alloc | apply IsS75.drewN | apply IsS75.drew | apply IsS75.set_1 | apply IsS75.set_2 | refine IsS75.far ?_ HN0_go108.out _ | refine IsS75.far ?_ NB0_115.out _ | refine IsS75.far ?_ NB0_122.out _) | exact HI0.out)⟩
         have n6_ : Aside0 (KeepBut w (w116.setCell ⟨go108, (t175 : Int).toNat, none⟩ (.int .i64 t181)) g none) := ⟨by repeat (first | (with_reducible first | exact HK.out | apply KeepBut.set_ | apply keep_drewN | apply keep_drew | apply keep_alloc | refine keep_far ?_ GB108.out _ | refine keep_far ?_ GW115.out _ | refine keep_far ?_ GW122.out _) | exact HK.out)⟩
         have n7_ : Aside0 (Below w0.heap.size w0 (w116.setCell ⟨go108, (t175 : Int).toNat, none⟩ (.int .i64 t181))) := ⟨by repeat (first | (with_reducible first | exact HB.out | apply below_alloc | apply pw_below_drewN | apply below_drew1 | refine below_set ?_ (Nat.le_trans HL.out GB108.out) | refine below_set ?_ (IsS75.ge HI0.out) | refine below_set ?_ GE115.out | refine below_set ?_ GE122.out) | exact HB.out)⟩
         (try clear HO_123001); (try clear HO_123002); (try clear HO180); (try clear BK115); (try clear BK122); (try clear HI0); (try clear HK); (try clear HB)
         generalize (w116.setCell ⟨go108, (t175 : Int).toNat, none⟩ (.int .i64 t181)) = w118 at n0_ n1_ n2_ n3_ n4_ n5_ n6_ n7_ ⊢
         have HO_123001 := n0_
         have HO_123002 := n1_
         have HO180 := n2_
         have BK115 := n3_
         have BK122 := n4_
         have HI0 := n5_
         have HK := n6_
         have HB := n7_
         clear n0_ n1_ n2_ n3_ n4_ n5_ n6_ n7_
         have hnb119 := NB122_115.out
         have hnc119 := NB115_122.out
         have hnb120 := NB122_0.out
         have hnc120 := NB0_122.out
         obtain ⟨hcz121_0, hfz121_0, hcz121_1, hfz121_1, hcz121_2, hfz121_2⟩ := cz3 BK122
         have hnb122 := NB115_0.out
         have hnc122 := NB0_115.out
         obtain ⟨hcz123_0, hfz123_0, hcz123_1, hfz123_1, hcz123_2, hfz123_2⟩ := cz3 BK115
         obtain ⟨Ao124, co124, eo124⟩ := Kd.R_slice HO_123001.out
         subst eo124
         try go_wp2
         refine bodyPost_ret (results_cell_row rfl _ _ gb115 27 #[.int .i64 t119, .slice Ao124 x123001_1.length co124, .slice (some ⟨go108, 0, none⟩) x123002_1.length co108] (0, 0) _ rfl (by (with_reducible repeat (first | refine blk_drewN ?_ _ | refine blk_drew ?_ | refine blk_alloc ?_ _)); exact bp3 BK115.out) Try.underlying27 rfl (by kernel_rfl)) rfl ?_
         exact ⟨_, _, by first | rfl | (simp [errW_none, errW_some] <;> rfl) | (simp [*, errW_none, errW_some] <;> rfl), by (with_reducible repeat (first | apply Kd.R_alloc | apply Kd.R_drewN | apply Kd.R_drew)); exact Kd.R_mono (Kd.R_far (p := ⟨gb115, 2, none⟩) (Kd.R_far (p := ⟨gb115, 1, none⟩) (Kd.R_far (p := ⟨gb115, 0, none⟩) (Kd.R_types HO_123001.out BK115.out (by decide)) (fun _ hk => hk.2) (.int .i64 t119)) (fun _ hk => hk.2) (.slice Ao124 x123001_1.length co124)) (fun _ hk => hk.2) (.slice (some ⟨go108, 0, none⟩) x123002_1.length co108)) (fun _ hk => hk.1.1), by (with_reducible repeat (first | apply Kd.R_alloc | apply Kd.R_drewN | apply Kd.R_drew)); exact Kd.R_mono (Kd.R_far (p := ⟨gb115, 2, none⟩) (Kd.R_far (p := ⟨gb115, 1, none⟩) (Kd.R_far (p := ⟨gb115, 0, none⟩) (Kd.R_types HO_123002.out BK115.out (by decide)) (fun _ hk => hk.2) (.int .i64 t119)) (fun _ hk => hk.2) (.slice Ao124 x123001_1.length co124)) (fun _ hk => hk.2) (.slice (some ⟨go108, 0, none⟩) x123002_1.length co108)) (fun _ hk => hk.1.1), by repeat (first | (with_reducible first | exact HI0.out | apply IsS75.alloc | apply IsS75.drewN | apply IsS75.drew | apply IsS75.set_1 | apply IsS75.set_2 | refine IsS75.far ?_ NB0_115.out _ | refine IsS75.far ?_ NB0_122.out _) | exact HI0.out), by repeat (first | (with_reducible first | exact HB.out | apply below_alloc | apply pw_below_drewN | apply below_drew1 | refine below_set ?_ (IsS75.ge HI0.out) | refine below_set ?_ GE115.out | refine below_set ?_ GE122.out) | exact HB.out), by repeat (first | (with_reducible first | exact HK.out | apply KeepBut.set_ | apply keep_drewN | apply keep_drew | apply keep_alloc | refine keep_far ?_ GW115.out _ | refine keep_far ?_ GW122.out _) | exact HK.out)⟩
        ·
         rw [if_neg c107] at H
         exact absurd H (by simp)
       ·
        rw [if_neg c106] at H
        exact absurd H (by simp)
      ·
       rw [if_neg c103] at H
       have c103b0 : (t156 == 2) = false := beq_eq_false_iff_ne.mpr c103
       have c103b1 : (t156 != 2) = true := bne_iff_ne.mpr c103
       by_cases c125 : t156 = 3
       ·
        rw [if_pos c125] at H
        have c125b0 : (t156 == 3) = true := beq_iff_eq.mpr c125
        have c125b1 : (t156 != 3) = false := bne_eq_false_iff_eq.mpr c125
        clear c125
        by_cases c126 : x123002_1.length < 17592186044416
        ·
         rw [if_pos c126] at H
         have LMc126 := Aside0.mk c126
         clear c126
         obtain ⟨y185, hy185⟩ : ∃ y_ : List Int, y_ = (x123002_1 ++ [1]) := ⟨_, rfl⟩
         replace H : (some (t119, x123001_1, y185, t157, t158)) = some (r1, r2, r3, r4, r5) := by first | (rw [hy185]; with_reducible exact H) | (have H2_ := (Option.bind_some _ _).symm.trans H; rw [hy185]; with_reducible exact H2_) | (have H2_ := (Option.bind_some _ _).symm.trans H; with_reducible exact H2_) | with_reducible exact H | (rw [hy185]; exact H) | exact H
         have Ny185 := Aside0.mk hy185
         clear hy185
         simp only [Option.some.injEq, Prod.mk.injEq] at H
         obtain ⟨rfl, rfl, rfl, rfl, rfl⟩ := H
         go_wp2_with (first | ((with_reducible refine gate_callee (f := 91) rfl ?_); refine goesL_ (some 69) rfl rfl Try.func91 (by kernel_rfl) rfl #[.pointer (some ⟨g, 0, none⟩), .int .i64 50] rfl tM ?_; (with_reducible refine (spec_l1Cur_pick.calls g s0_0 x1001_1 x1002_1 50 t156 t157 t158 w0 _ ?side1 ?side2 A66.out).mono ?_); (case side1 => repeat (first | (with_reducible first | exact HI0.out | apply IsS75.alloc | apply IsS75.drewN | apply IsS75.drew | apply IsS75.set_1 | apply IsS75.set_2 | refine IsS75.far ?_ NB0_115.out _ | refine IsS75.far ?_ NB0_122.out _) | exact HI0.out)); (case side2 => repeat (first | (with_reducible first | exact HB.out | apply below_alloc | apply pw_below_drewN | apply below_drew1 | refine below_set ?_ (IsS75.ge HI0.out) | refine below_set ?_ GE115.out | refine below_set ?_ GE122.out) | exact HB.out)); rintro e w127 ⟨rfl, hi, hb, hk⟩; refine ⟨_, rfl, ?_⟩; replace HO_123001 := Aside0.mk (Kd.R_mono (Kd.R_keep (IsS75.apart (show IsS75 w0 _ g s0_0 x1001_1 x1002_1 from by repeat (first | (with_reducible first | exact HI0.out | apply IsS75.alloc | apply IsS75.drewN | apply IsS75.drew | apply IsS75.set_1 | apply IsS75.set_2 | refine IsS75.far ?_ NB0_115.out _ | refine IsS75.far ?_ NB0_122.out _) | exact HI0.out)) (tR HO_123001.out) (by decide)) hk (fun _ h => h.2)) (fun _ h => h.1)); replace HO_123002 := Aside0.mk (Kd.R_mono (Kd.R_keep (IsS75.apart (show IsS75 w0 _ g s0_0 x1001_1 x1002_1 from by repeat (first | (with_reducible first | exact HI0.out | apply IsS75.alloc | apply IsS75.drewN | apply IsS75.drew | apply IsS75.set_1 | apply IsS75.set_2 | refine IsS75.far ?_ NB0_115.out _ | refine IsS75.far ?_ NB0_122.out _) | exact HI0.out)) (tR HO_123002.out) (by decide)) hk (fun _ h => h.2)) (fun _ h => h.1)); replace BK115 := Aside0.mk (KeepBut.blk hk (g' := gb115) (o := .cells #[.int .i64 0, .slice none 0 0, .slice none 0 0] 27 (0, 0)) (tK BK115.out) NB115_0.out (by simp)); replace BK122 := Aside0.mk (KeepBut.blk hk (g' := gb122) (o := .cells #[.int .i64 t119, u123001, u123002] 27 (0, 0)) (tK BK122.out) NB122_0.out (by simp)); replace HK := Aside0.mk (KeepBut.trans (by repeat (first | (with_reducible first | exact HK.out | apply KeepBut.set_ | apply keep_drewN | apply keep_drew | apply keep_alloc | refine keep_far ?_ GW115.out _ | refine keep_far ?_ GW122.out _) | exact HK.out)) hk (.inl rfl)); replace HB := Aside0.mk (hb); replace HI0 := Aside0.mk (hi); (try clear hb); (try clear hk); (try clear hi); have hnb128 := NB122_115.out; have hnc128 := NB115_122.out; have hnb129 := NB122_0.out; have hnc129 := NB0_122.out; obtain ⟨hcz130_0, hfz130_0, hcz130_1, hfz130_1, hcz130_2, hfz130_2⟩ := cz3 BK122) | ((with_reducible refine gate_builtin (b := .append) (xs := #[.tmp 101, .tmp 102]) rfl ?_); at_builtin; refine Kd.R_append (Kd.int .i64) w.heap.size rfl (.tmp 101) (.tmp 102) 25 3 (.int .i64 0) 8 rfl Try.underlying25 info3 rfl (by decide) (by omega) u123002 x123002_1 1 [.int .i64 1] (fun k_ => some k_ ≠ (u123001 : Value).ownBlock) (fun _ => False) rfl rfl ?aP (fun _ hk => hk.elim) ?aF ?aO (Below.refl _ _) ?aS ?aL ?_; (case aP => exact rfl); (case aF => exact (fun k_ hk => Kd.fresh' (Kd.R_lt (tR HO_123001.out)) k_ hk)); (case aO => exact (tR HO_123002.out)); (case aS => exact (keep_size (w := w) (g := g) (row := none) (by repeat (first | (with_reducible first | exact HK.out | apply KeepBut.set_ | apply keep_drewN | apply keep_drew | apply keep_alloc | refine keep_far ?_ GW115.out _ | refine keep_far ?_ GW122.out _) | exact HK.out)))); (case aL => have := LMc126.out; omega); intro v186 w131 ho hb hg hat; rw [← Ny185.out] at ho; replace HO_123001 := Aside0.mk (Kd.R_after (ok := (fun _ => True)) (by (with_reducible repeat (first | apply Kd.R_alloc | apply Kd.R_drewN | apply Kd.R_drew)); exact Kd.R_mono HO_123001.out (fun _ hk => ⟨trivial, hk⟩)) hg hat); replace BK115 := Aside0.mk (blk_grown (g := gb115) (o := .cells #[.int .i64 0, .slice none 0 0, .slice none 0 0] 27 (0, 0)) (tK BK115.out) hg (Kd.R_ne HO_123002.out BK115.out (by decide))); replace BK122 := Aside0.mk (blk_grown (g := gb122) (o := .cells #[.int .i64 t119, u123001, u123002] 27 (0, 0)) (tK BK122.out) hg (Kd.R_ne HO_123002.out BK122.out (by decide))); replace HB := Aside0.mk (below_weaken (by repeat (first | (with_reducible first | exact HB.out | apply below_alloc | apply pw_below_drewN | apply below_drew1 | refine below_set ?_ (IsS75.ge HI0.out) | refine below_set ?_ GE115.out | refine below_set ?_ GE122.out) | exact HB.out)) HL.out hb); replace HI0 := Aside0.mk (IsS75.grown (show IsS75 w0 _ g s0_0 t157 t158 from by repeat (first | (with_reducible first | exact HI0.out | apply IsS75.alloc | apply IsS75.drewN | apply IsS75.drew | apply IsS75.set_1 | apply IsS75.set_2 | refine IsS75.far ?_ NB0_115.out _ | refine IsS75.far ?_ NB0_122.out _) | exact HI0.out)) hg (IsS75.own_ne HI0.out HO_123002.out (by decide))); replace HK := Aside0.mk (KeepBut.trans (by repeat (first | (with_reducible first | exact HK.out | apply KeepBut.set_ | apply keep_drewN | apply keep_drew | apply keep_alloc | refine keep_far ?_ GW115.out _ | refine keep_far ?_ GW122.out _) | exact HK.out)) (KeepBut.of_grown hg g) (Kd.R_base2 HO_123002.out)); have HO187 := Aside0.mk (ho); clear HO_123002; clear ho hb hg hat; obtain ⟨Ao132, co132, eo132⟩ := Kd.R_slice HO187.out; subst eo132; obtain ⟨hcz133_0, hfz133_0, hcz133_1, hfz133_1, hcz133_2, hfz133_2⟩ := cz3 BK122; have hnb134 := NB115_0.out; have hnc134 := NB0_115.out; obtain ⟨hcz135_0, hfz135_0, hcz135_1, hfz135_1, hcz135_2, hfz135_2⟩ := cz3 BK115; obtain ⟨Ao136, co136, eo136⟩ := Kd.R_slice HO_123001.out; subst eo136))
         refine bodyPost_ret (results_cell_row rfl _ _ gb115 27 #[.int .i64 t119, .slice Ao136 x123001_1.length co136, .slice Ao132 y185.length co132] (0, 0) _ rfl (by (with_reducible repeat (first | refine blk_drewN ?_ _ | refine blk_drew ?_ | refine blk_alloc ?_ _)); refine blk_put (cs := #[.int .i64 t119, .slice Ao136 x123001_1.length co136, .slice none 0 0]) ?_ 2 _ rfl; (with_reducible repeat (first | refine blk_drewN ?_ _ | refine blk_drew ?_ | refine blk_alloc ?_ _)); refine blk_put (cs := #[.int .i64 t119, .slice none 0 0, .slice none 0 0]) ?_ 1 _ rfl; (with_reducible repeat (first | refine blk_drewN ?_ _ | refine blk_drew ?_ | refine blk_alloc ?_ _)); refine blk_put (cs := #[.int .i64 0, .slice none 0 0, .slice none 0 0]) ?_ 0 _ rfl; (with_reducible repeat (first | refine blk_drewN ?_ _ | refine blk_drew ?_ | refine blk_alloc ?_ _)); refine blk_far ?_ NB115_122.out _; (with_reducible repeat (first | refine blk_drewN ?_ _ | refine blk_drew ?_ | refine blk_alloc ?_ _)); exact BK115.out) Try.underlying27 rfl (by kernel_rfl)) rfl ?_
         exact ⟨_, _, by first | rfl | (simp [errW_none, errW_some] <;> rfl) | (simp [*, errW_none, errW_some] <;> rfl), by (with_reducible repeat (first | apply Kd.R_alloc | apply Kd.R_drewN | apply Kd.R_drew)); exact Kd.R_mono (Kd.R_far (p := ⟨gb115, 2, none⟩) (Kd.R_far (p := ⟨gb115, 1, none⟩) (Kd.R_far (p := ⟨gb115, 0, none⟩) (Kd.R_far (p := ⟨gb122, 2, none⟩) (Kd.R_types (Kd.R_types HO_123001.out BK122.out (by decide)) BK115.out (by decide)) (fun _ hk => hk.1.2) (.slice Ao132 y185.length co132)) (fun _ hk => hk.2) (.int .i64 t119)) (fun _ hk => hk.2) (.slice Ao136 x123001_1.length co136)) (fun _ hk => hk.2) (.slice Ao132 y185.length co132)) (fun _ hk => hk.1.1.2), by (with_reducible repeat (first | apply Kd.R_alloc | apply Kd.R_drewN | apply Kd.R_drew)); exact Kd.R_mono (Kd.R_far (p := ⟨gb115, 2, none⟩) (Kd.R_far (p := ⟨gb115, 1, none⟩) (Kd.R_far (p := ⟨gb115, 0, none⟩) (Kd.R_far (p := ⟨gb122, 2, none⟩) (Kd.R_types (Kd.R_types HO187.out BK122.out (by decide)) BK115.out (by decide)) (fun _ hk => hk.1.2) (.slice Ao132 y185.length co132)) (fun _ hk => hk.2) (.int .i64 t119)) (fun _ hk => hk.2) (.slice Ao136 x123001_1.length co136)) (fun _ hk => hk.2) (.slice Ao132 y185.length co132)) (fun _ hk => hk.1.1), by repeat (first | (with_reducible first | exact HI0.out | apply IsS75.alloc | apply IsS75.drewN | apply IsS75.drew | apply IsS75.set_1 | apply IsS75.set_2 | refine IsS75.far ?_ NB0_115.out _ | refine IsS75.far ?_ NB0_122.out _) | exact HI0.out), by repeat (first | (with_reducible first | exact HB.out | apply below_alloc | apply pw_below_drewN | apply below_drew1 | refine below_set ?_ (IsS75.ge HI0.out) | refine below_set ?_ GE115.out | refine below_set ?_ GE122.out) | exact HB.out), by repeat (first | (with_reducible first | exact HK.out | apply KeepBut.set_ | apply keep_drewN | apply keep_drew | apply keep_alloc | refine keep_far ?_ GW115.out _ | refine keep_far ?_ GW122.out _) | exact HK.out)⟩
        ·
         rw [if_neg c126] at H
         exact absurd H (by simp)
       ·
        rw [if_neg c125] at H
        have c125b0 : (t156 == 3) = false := beq_eq_false_iff_ne.mpr c125
        have c125b1 : (t156 != 3) = true := bne_iff_ne.mpr c125
        by_cases c137 : t156 = 4
        ·
         rw [if_pos c137] at H
         have c137b0 : (t156 == 4) = true := beq_iff_eq.mpr c137
         have c137b1 : (t156 != 4) = false := bne_eq_false_iff_eq.mpr c137
         clear c137
         have H' := Aside0.mk H
         clear H
         go_wp2_with (first | ((with_reducible refine gate_callee (f := 91) rfl ?_); refine goesL_ (some 69) rfl rfl Try.func91 (by kernel_rfl) rfl #[.pointer (some ⟨g, 0, none⟩), .int .i64 50] rfl tM ?_; (with_reducible refine (spec_l1Cur_pick.calls g s0_0 x1001_1 x1002_1 50 t156 t157 t158 w0 _ ?side1 ?side2 A66.out).mono ?_); (case side1 => repeat (first | (with_reducible first | exact HI0.out | apply IsS75.alloc | apply IsS75.drewN | apply IsS75.drew | apply IsS75.set_1 | apply IsS75.set_2 | refine IsS75.far ?_ NB0_115.out _ | refine IsS75.far ?_ NB0_122.out _) | exact HI0.out)); (case side2 => repeat (first | (with_reducible first | exact HB.out | apply below_alloc | apply pw_below_drewN | apply below_drew1 | refine below_set ?_ (IsS75.ge HI0.out) | refine below_set ?_ GE115.out | refine below_set ?_ GE122.out) | exact HB.out)); rintro e w138 ⟨rfl, hi, hb, hk⟩; refine ⟨_, rfl, ?_⟩; replace HO_123001 := Aside0.mk (Kd.R_mono (Kd.R_keep (IsS75.apart (show IsS75 w0 _ g s0_0 x1001_1 x1002_1 from by repeat (first | (with_reducible first | exact HI0.out | apply IsS75.alloc | apply IsS75.drewN | apply IsS75.drew | apply IsS75.set_1 | apply IsS75.set_2 | refine IsS75.far ?_ NB0_115.out _ | refine IsS75.far ?_ NB0_122.out _) | exact HI0.out)) (tR HO_123001.out) (by decide)) hk (fun _ h => h.2)) (fun _ h => h.1)); replace HO_123002 := Aside0.mk (Kd.R_mono (Kd.R_keep (IsS75.apart (show IsS75 w0 _ g s0_0 x1001_1 x1002_1 from by repeat (first | (with_reducible first | exact HI0.out | apply IsS75.alloc | apply IsS75.drewN | apply IsS75.drew | apply IsS75.set_1 | apply IsS75.set_2 | refine IsS75.far ?_ NB0_115.out _ | refine IsS75.far ?_ NB0_122.out _) | exact HI0.out)) (tR HO_123002.out) (by decide)) hk (fun _ h => h.2)) (fun _ h => h.1)); replace BK115 := Aside0.mk (KeepBut.blk hk (g' := gb115) (o := .cells #[.int .i64 0, .slice none 0 0, .slice none 0 0] 27 (0, 0)) (tK BK115.out) NB115_0.out (by simp)); replace BK122 := Aside0.mk (KeepBut.blk hk (g' := gb122) (o := .cells #[.int .i64 t119, u123001, u123002] 27 (0, 0)) (tK BK122.out) NB122_0.out (by simp)); replace HK := Aside0.mk (KeepBut.trans (by repeat (first | (with_reducible first | exact HK.out | apply KeepBut.set_ | apply keep_drewN | apply keep_drew | apply keep_alloc | refine keep_far ?_ GW115.out _ | refine keep_far ?_ GW122.out _) | exact HK.out)) hk (.inl rfl)); replace HB := Aside0.mk (hb); replace HI0 := Aside0.mk (hi); (try clear hb); (try clear hk); (try clear hi)))
         go_loopg [] k1 (fun kq w' => ∃ (x123001_2 : List Int) (x123002_2 : List Int) (u123001 : Value) (u123002 : Value), Aside0 (spec_l1Cur_pile.l1 kq x6_1 s0_0 t157 t158 t119 x123001_2 x123002_2 = some (r1, r2, r3, r4, r5)) ∧ Aside0 (kq ≤ k1) ∧ Aside0 (Kd.R (Kd.int .i64) 3 w' w.heap.size (fun k_ => some k_ ≠ (u123002 : Value).ownBlock) u123001 x123001_2) ∧ Aside0 (Kd.R (Kd.int .i64) 3 w' w.heap.size (fun k_ => some k_ ≠ (u123001 : Value).ownBlock) u123002 x123002_2) ∧ Aside0 (w'.heap[gb115]? = some (.cells #[.int .i64 0, (.slice none 0 0), (.slice none 0 0)] 27 (0, 0))) ∧ Aside0 (w'.heap[gb122]? = some (.cells #[.int .i64 t119, u123001, u123002] 27 (0, 0))) ∧ Aside0 (IsS75 w0 w' g s0_0 t157 t158) ∧ Aside0 (KeepBut w w' g none) ∧ Aside0 (Below w0.heap.size w0 w'))
         case atStart => exact ⟨(x123001_1), (x123002_1), (u123001), (u123002), H', ⟨Nat.le_refl _⟩, ⟨tR HO_123001.out⟩, ⟨tR HO_123002.out⟩, ⟨tK BK115.out⟩, ⟨tK BK122.out⟩, ⟨by repeat (first | (with_reducible first | exact HI0.out | apply IsS75.alloc | apply IsS75.drewN | apply IsS75.drew | apply IsS75.set_1 | apply IsS75.set_2 | refine IsS75.far ?_ NB0_115.out _ | refine IsS75.far ?_ NB0_122.out _) | exact HI0.out)⟩, ⟨by repeat (first | (with_reducible first | exact HK.out | apply KeepBut.set_ | apply keep_drewN | apply keep_drew | apply keep_alloc | refine keep_far ?_ GW115.out _ | refine keep_far ?_ GW122.out _) | exact HK.out)⟩, ⟨by repeat (first | (with_reducible first | exact HB.out | apply below_alloc | apply pw_below_drewN | apply below_drew1 | refine below_set ?_ (IsS75.ge HI0.out) | refine below_set ?_ GE115.out | refine below_set ?_ GE122.out) | exact HB.out)⟩⟩
         case round =>
          clear H'
          (try clear c81); (try clear c81b0); (try clear c81b1); (try clear c103); (try clear c103b0); (try clear c103b1); (try clear c125); (try clear c125b0); (try clear c125b1); (try clear c137); (try clear c137b0); (try clear c137b1)
          obtain ⟨x123001_2, x123002_2, u123001, u123002, HA, HK2, HO_123001, HO_123002, BK115, BK122, HI0, HK, HB⟩ := hrel
          cases gk with
          | zero => exact absurd HA.out (by simp [spec_l1Cur_pile.l1])
          | succ k2 =>
           have H := HA.out
           clear HA
           simp only [spec_l1Cur_pile.l1] at H
           by_cases c139 : (x123001_2.length : Int) < 9
           ·
            rw [if_pos c139] at H
            have c139b0 : decide ((x123001_2.length : Int) < 9) = true := decide_eq_true c139
            have c139b1 : decide (x123001_2.length < 9) = true := decide_eq_true (by omega)
            clear c139
            by_cases c140 : x123001_2.length < 17592186044416
            ·
             rw [if_pos c140] at H
             have LMc140 := Aside0.mk c140
             clear c140
             obtain ⟨y188, hy188⟩ : ∃ y_ : List Int, y_ = (x123001_2 ++ [x6_1]) := ⟨_, rfl⟩
             replace H : (if x123002_2.length < 17592186044416 then (spec_l1Cur_pile.l1 k2 x6_1 s0_0 t157 t158 t119 y188 (x123002_2 ++ [1])) else (none)) = some (r1, r2, r3, r4, r5) := by first | (rw [hy188]; with_reducible exact H) | (have H2_ := (Option.bind_some _ _).symm.trans H; rw [hy188]; with_reducible exact H2_) | (have H2_ := (Option.bind_some _ _).symm.trans H; with_reducible exact H2_) | with_reducible exact H | (rw [hy188]; exact H) | exact H
             have Ny188 := Aside0.mk hy188
             clear hy188
             by_cases c141 : x123002_2.length < 17592186044416
             ·
              rw [if_pos c141] at H
              have LMc141 := Aside0.mk c141
              clear c141
              obtain ⟨y191, hy191⟩ : ∃ y_ : List Int, y_ = (x123002_2 ++ [1]) := ⟨_, rfl⟩
              replace H : (spec_l1Cur_pile.l1 k2 x6_1 s0_0 t157 t158 t119 y188 y191) = some (r1, r2, r3, r4, r5) := by first | (rw [hy191]; with_reducible exact H) | (have H2_ := (Option.bind_some _ _).symm.trans H; rw [hy191]; with_reducible exact H2_) | (have H2_ := (Option.bind_some _ _).symm.trans H; with_reducible exact H2_) | with_reducible exact H | (rw [hy191]; exact H) | exact H
              have Ny191 := Aside0.mk hy191
              clear hy191
              have H' := Aside0.mk H
              clear H
              have hnb142 := NB122_115.out
              have hnc142 := NB115_122.out
              have hnb143 := NB122_0.out
              have hnc143 := NB0_122.out
              obtain ⟨hcz144_0, hfz144_0, hcz144_1, hfz144_1, hcz144_2, hfz144_2⟩ := cz3 BK122
              obtain ⟨Ao145, co145, eo145⟩ := Kd.R_slice HO_123001.out
              subst eo145
              go_wp2_with (first | ((with_reducible refine gate_builtin (b := .append) (xs := #[.tmp 112, .tmp 114]) rfl ?_); at_builtin; refine Kd.R_append (Kd.int .i64) w.heap.size rfl (.tmp 112) (.tmp 114) 25 3 (.int .i64 0) 8 rfl Try.underlying25 info3 rfl (by decide) (by omega) (.slice Ao145 x123001_2.length co145) x123001_2 x6_1 [.int .i64 x6_1] (fun k_ => some k_ ≠ (u123002 : Value).ownBlock) (fun _ => False) rfl rfl ?aP (fun _ hk => hk.elim) ?aF ?aO (Below.refl _ _) ?aS ?aL ?_; (case aP => exact rfl); (case aF => exact (fun k_ hk => Kd.fresh' (Kd.R_lt (tR HO_123002.out)) k_ hk)); (case aO => exact (tR HO_123001.out)); (case aS => exact (keep_size (w := w) (g := g) (row := none) (by repeat (first | (with_reducible first | exact HK.out | apply KeepBut.set_ | apply keep_drewN | apply keep_drew | apply keep_alloc | refine keep_far ?_ GW115.out _ | refine keep_far ?_ GW122.out _) | exact HK.out)))); (case aL => have := LMc140.out; omega); intro v189 w146 ho hb hg hat; rw [← Ny188.out] at ho; replace HO_123002 := Aside0.mk (Kd.R_after (ok := (fun _ => True)) (by (with_reducible repeat (first | apply Kd.R_alloc | apply Kd.R_drewN | apply Kd.R_drew)); exact Kd.R_mono HO_123002.out (fun _ hk => ⟨trivial, hk⟩)) hg hat); replace BK115 := Aside0.mk (blk_grown (g := gb115) (o := .cells #[.int .i64 0, .slice none 0 0, .slice none 0 0] 27 (0, 0)) (tK BK115.out) hg (Kd.R_ne HO_123001.out BK115.out (by decide))); replace BK122 := Aside0.mk (blk_grown (g := gb122) (o := .cells #[.int .i64 t119, .slice Ao145 x123001_2.length co145, u123002] 27 (0, 0)) (tK BK122.out) hg (Kd.R_ne HO_123001.out BK122.out (by decide))); replace HB := Aside0.mk (below_weaken (by repeat (first | (with_reducible first | exact HB.out | apply below_alloc | apply pw_below_drewN | apply below_drew1 | refine below_set ?_ (IsS75.ge HI0.out) | refine below_set ?_ GE115.out | refine below_set ?_ GE122.out) | exact HB.out)) HL.out hb); replace HI0 := Aside0.mk (IsS75.grown (show IsS75 w0 _ g s0_0 t157 t158 from by repeat (first | (with_reducible first | exact HI0.out | apply IsS75.alloc | apply IsS75.drewN | apply IsS75.drew | apply IsS75.set_1 | apply IsS75.set_2 | refine IsS75.far ?_ NB0_115.out _ | refine IsS75.far ?_ NB0_122.out _) | exact HI0.out)) hg (IsS75.own_ne HI0.out HO_123001.out (by decide))); replace HK := Aside0.mk (KeepBut.trans (by repeat (first | (with_reducible first | exact HK.out | apply KeepBut.set_ | apply keep_drewN | apply keep_drew | apply keep_alloc | refine keep_far ?_ GW115.out _ | refine keep_far ?_ GW122.out _) | exact HK.out)) (KeepBut.of_grown hg g) (Kd.R_base2 HO_123001.out)); have HO190 := Aside0.mk (ho); clear HO_123001; clear ho hb hg hat; obtain ⟨Ao147, co147, eo147⟩ := Kd.R_slice HO190.out; subst eo147; obtain ⟨hcz148_0, hfz148_0, hcz148_1, hfz148_1, hcz148_2, hfz148_2⟩ := cz3 BK122) | ((with_reducible refine gate_builtin (b := .append) (xs := #[.tmp 118, .tmp 119]) rfl ?_); at_builtin; refine Kd.R_append (Kd.int .i64) w.heap.size rfl (.tmp 118) (.tmp 119) 25 3 (.int .i64 0) 8 rfl Try.underlying25 info3 rfl (by decide) (by omega) u123002 x123002_2 1 [.int .i64 1] (fun k_ => some k_ ≠ (.slice Ao147 y188.length co147 : Value).ownBlock) (fun _ => False) rfl (by first | (go_simp; done) | (go_simp; rfl)) ?aP (fun _ hk => hk.elim) ?aF ?aO (Below.refl _ _) ?aS ?aL ?_; (case aP => exact rfl); (case aF => exact (fun k_ hk => Kd.fresh' (Kd.R_lt (by (with_reducible repeat (first | apply Kd.R_alloc | apply Kd.R_drewN | apply Kd.R_drew)); exact (Kd.R_mono (Kd.R_far (p := ⟨gb122, 1, none⟩) (Kd.R_types HO190.out BK122.out (by decide)) (fun _ hk => hk.2) (.slice Ao147 y188.length co147)) (fun _ h_ => h_.1)))) k_ hk)); (case aO => exact (by (with_reducible repeat (first | apply Kd.R_alloc | apply Kd.R_drewN | apply Kd.R_drew)); exact Kd.R_mono (Kd.R_far (p := ⟨gb122, 1, none⟩) (Kd.R_types HO_123002.out BK122.out (by decide)) (fun _ hk => hk.2) (.slice Ao147 y188.length co147)) (fun _ hk => hk.1.2))); (case aS => exact (keep_size (w := w) (g := g) (row := none) (by repeat (first | (with_reducible first | exact HK.out | apply KeepBut.set_ | apply keep_drewN | apply keep_drew | apply keep_alloc | refine keep_far ?_ GW115.out _ | refine keep_far ?_ GW122.out _) | exact HK.out)))); (case aL => have := LMc141.out; omega); intro v192 w149 ho hb hg hat; rw [← Ny191.out] at ho; replace BK115 := Aside0.mk (blk_grown (g := gb115) (o := .cells #[.int .i64 0, .slice none 0 0, .slice none 0 0] 27 (0, 0)) (tF BK115.out) hg (Kd.R_ne HO_123002.out BK115.out (by decide))); replace HO190 := Aside0.mk (Kd.R_after (ok := (fun _ => True)) (by (with_reducible repeat (first | apply Kd.R_alloc | apply Kd.R_drewN | apply Kd.R_drew)); exact Kd.R_mono (Kd.R_far (p := ⟨gb122, 1, none⟩) (Kd.R_types HO190.out BK122.out (by decide)) (fun _ hk => hk.2) (.slice Ao147 y188.length co147)) (fun _ hk => ⟨trivial, hk.1⟩)) hg hat); replace BK122 := Aside0.mk (blk_grown (g := gb122) (o := .cells #[.int .i64 t119, .slice Ao147 y188.length co147, u123002] 27 (0, 0)) (by (with_reducible repeat (first | refine blk_drewN ?_ _ | refine blk_drew ?_ | refine blk_alloc ?_ _)); refine blk_put (cs := #[.int .i64 t119, .slice Ao145 x123001_2.length co145, u123002]) ?_ 1 _ rfl; (with_reducible repeat (first | refine blk_drewN ?_ _ | refine blk_drew ?_ | refine blk_alloc ?_ _)); exact BK122.out) hg (Kd.R_ne HO_123002.out BK122.out (by decide))); replace HB := Aside0.mk (below_weaken (by repeat (first | (with_reducible first | exact HB.out | apply below_alloc | apply pw_below_drewN | apply below_drew1 | refine below_set ?_ (IsS75.ge HI0.out) | refine below_set ?_ GE115.out | refine below_set ?_ GE122.out) | exact HB.out)) HL.out hb); replace HI0 := Aside0.mk (IsS75.grown (show IsS75 w0 _ g s0_0 t157 t158 from by repeat (first | (with_reducible first | exact HI0.out | apply IsS75.alloc | apply IsS75.drewN | apply IsS75.drew | apply IsS75.set_1 | apply IsS75.set_2 | refine IsS75.far ?_ NB0_115.out _ | refine IsS75.far ?_ NB0_122.out _) | exact HI0.out)) hg (IsS75.own_ne HI0.out HO_123002.out (by decide))); replace HK := Aside0.mk (KeepBut.trans (by repeat (first | (with_reducible first | exact HK.out | apply KeepBut.set_ | apply keep_drewN | apply keep_drew | apply keep_alloc | refine keep_far ?_ GW115.out _ | refine keep_far ?_ GW122.out _) | exact HK.out)) (KeepBut.of_grown hg g) (Kd.R_base2 HO_123002.out)); have HO193 := Aside0.mk (ho); clear HO_123002; clear ho hb hg hat; obtain ⟨Ao150, co150, eo150⟩ := Kd.R_slice HO193.out; subst eo150; obtain ⟨hcz151_0, hfz151_0, hcz151_1, hfz151_1, hcz151_2, hfz151_2⟩ := cz3 BK122))
              (try subst ng_t129)
              go_roundg k2
              case measure => have := HK1.out; have := HK2.out; omega
              case rel => exact ⟨(y188), (y191), (.slice Ao147 y188.length co147), (.slice Ao150 y191.length co150), H', ⟨by have := HK1.out; have := HK2.out; omega⟩, ⟨by (with_reducible repeat (first | apply Kd.R_alloc | apply Kd.R_drewN | apply Kd.R_drew)); exact Kd.R_mono (Kd.R_far (p := ⟨gb122, 2, none⟩) (Kd.R_types HO190.out BK122.out (by decide)) (fun _ hk => hk.2) (.slice Ao150 y191.length co150)) (fun _ hk => hk.1.2)⟩, ⟨by (with_reducible repeat (first | apply Kd.R_alloc | apply Kd.R_drewN | apply Kd.R_drew)); exact Kd.R_mono (Kd.R_far (p := ⟨gb122, 2, none⟩) (Kd.R_types HO193.out BK122.out (by decide)) (fun _ hk => hk.2) (.slice Ao150 y191.length co150)) (fun _ hk => hk.1)⟩, ⟨by (with_reducible repeat (first | refine blk_drewN ?_ _ | refine blk_drew ?_ | refine blk_alloc ?_ _)); refine blk_far ?_ NB115_122.out _; (with_reducible repeat (first | refine blk_drewN ?_ _ | refine blk_drew ?_ | refine blk_alloc ?_ _)); exact BK115.out⟩, ⟨by (with_reducible repeat (first | refine blk_drewN ?_ _ | refine blk_drew ?_ | refine blk_alloc ?_ _)); refine blk_put (cs := #[.int .i64 t119, .slice Ao147 y188.length co147, u123002]) ?_ 2 _ rfl; (with_reducible repeat (first | refine blk_drewN ?_ _ | refine blk_drew ?_ | refine blk_alloc ?_ _)); exact BK122.out⟩, ⟨by repeat (first | (with_reducible first | exact HI0.out | apply IsS75.alloc | apply IsS75.drewN | apply IsS75.drew | apply IsS75.set_1 | apply IsS75.set_2 | refine IsS75.far ?_ NB0_115.out _ | refine IsS75.far ?_ NB0_122.out _) | exact HI0.out)⟩, ⟨by repeat (first | (with_reducible first | exact HK.out | apply KeepBut.set_ | apply keep_drewN | apply keep_drew | apply keep_alloc | refine keep_far ?_ GW115.out _ | refine keep_far ?_ GW122.out _) | exact HK.out)⟩, ⟨by repeat (first | (with_reducible first | exact HB.out | apply below_alloc | apply pw_below_drewN | apply below_drew1 | refine below_set ?_ (IsS75.ge HI0.out) | refine below_set ?_ GE115.out | refine below_set ?_ GE122.out) | exact HB.out)⟩⟩
             ·
              rw [if_neg c141] at H
              exact absurd H (by simp)
            ·
             rw [if_neg c140] at H
             exact absurd H (by simp)
           ·
            rw [if_neg c139] at H
            have c139b0 : decide ((x123001_2.length : Int) < 9) = false := decide_eq_false c139
            have c139b1 : decide (x123001_2.length < 9) = false := decide_eq_false (by omega)
            clear c139
            simp only [Option.some.injEq, Prod.mk.injEq] at H
            obtain ⟨rfl, rfl, rfl, rfl, rfl⟩ := H
            have hnb152 := NB122_115.out
            have hnc152 := NB115_122.out
            have hnb153 := NB122_0.out
            have hnc153 := NB0_122.out
            obtain ⟨hcz154_0, hfz154_0, hcz154_1, hfz154_1, hcz154_2, hfz154_2⟩ := cz3 BK122
            obtain ⟨Ao155, co155, eo155⟩ := Kd.R_slice HO_123001.out
            subst eo155
            have hnb156 := NB115_0.out
            have hnc156 := NB0_115.out
            obtain ⟨hcz157_0, hfz157_0, hcz157_1, hfz157_1, hcz157_2, hfz157_2⟩ := cz3 BK115
            obtain ⟨Ao158, co158, eo158⟩ := Kd.R_slice HO_123002.out
            subst eo158
            go_wp2
            refine bodyPost_ret (results_cell_row rfl _ _ gb115 27 #[.int .i64 t119, .slice Ao155 x123001_2.length co155, .slice Ao158 x123002_2.length co158] (0, 0) _ rfl (by (with_reducible repeat (first | refine blk_drewN ?_ _ | refine blk_drew ?_ | refine blk_alloc ?_ _)); exact bp3 BK115.out) Try.underlying27 rfl (by kernel_rfl)) rfl ?_
            exact ⟨_, _, by first | rfl | (simp [errW_none, errW_some] <;> rfl) | (simp [*, errW_none, errW_some] <;> rfl), by (with_reducible repeat (first | apply Kd.R_alloc | apply Kd.R_drewN | apply Kd.R_drew)); exact rF3 HO_123001 BK115, by (with_reducible repeat (first | apply Kd.R_alloc | apply Kd.R_drewN | apply Kd.R_drew)); exact rF3 HO_123002 BK115, by repeat (first | (with_reducible first | exact HI0.out | apply IsS75.alloc | apply IsS75.drewN | apply IsS75.drew | apply IsS75.set_1 | apply IsS75.set_2 | refine IsS75.far ?_ NB0_115.out _ | refine IsS75.far ?_ NB0_122.out _) | exact HI0.out), by repeat (first | (with_reducible first | exact HB.out | apply below_alloc | apply pw_below_drewN | apply below_drew1 | refine below_set ?_ (IsS75.ge HI0.out) | refine below_set ?_ GE115.out | refine below_set ?_ GE122.out) | exact HB.out), by repeat (first | (with_reducible first | exact HK.out | apply KeepBut.set_ | apply keep_drewN | apply keep_drew | apply keep_alloc | refine keep_far ?_ GW115.out _ | refine keep_far ?_ GW122.out _) | exact HK.out)⟩
        ·
         rw [if_neg c137] at H
         have c137b0 : (t156 == 4) = false := beq_eq_false_iff_ne.mpr c137
         have c137b1 : (t156 != 4) = true := bne_iff_ne.mpr c137
         simp only [Option.some.injEq, Prod.mk.injEq] at H
         obtain ⟨rfl, rfl, rfl, rfl, rfl⟩ := H
         go_wp2_with (first | ((with_reducible refine gate_callee (f := 91) rfl ?_); refine goesL_ (some 69) rfl rfl Try.func91 (by kernel_rfl) rfl #[.pointer (some ⟨g, 0, none⟩), .int .i64 50] rfl tM ?_; (with_reducible refine (spec_l1Cur_pick.calls g s0_0 x1001_1 x1002_1 50 t156 t157 t158 w0 _ ?side1 ?side2 A66.out).mono ?_); (case side1 => repeat (first | (with_reducible first | exact HI0.out | apply IsS75.alloc | apply IsS75.drewN | apply IsS75.drew | apply IsS75.set_1 | apply IsS75.set_2 | refine IsS75.far ?_ NB0_115.out _ | refine IsS75.far ?_ NB0_122.out _) | exact HI0.out)); (case side2 => repeat (first | (with_reducible first | exact HB.out | apply below_alloc | apply pw_below_drewN | apply below_drew1 | refine below_set ?_ (IsS75.ge HI0.out) | refine below_set ?_ GE115.out | refine below_set ?_ GE122.out) | exact HB.out)); rintro e w159 ⟨rfl, hi, hb, hk⟩; refine ⟨_, rfl, ?_⟩; replace HO_123001 := Aside0.mk (Kd.R_mono (Kd.R_keep (IsS75.apart (show IsS75 w0 _ g s0_0 x1001_1 x1002_1 from by repeat (first | (with_reducible first | exact HI0.out | apply IsS75.alloc | apply IsS75.drewN | apply IsS75.drew | apply IsS75.set_1 | apply IsS75.set_2 | refine IsS75.far ?_ NB0_115.out _ | refine IsS75.far ?_ NB0_122.out _) | exact HI0.out)) (tR HO_123001.out) (by decide)) hk (fun _ h => h.2)) (fun _ h => h.1)); replace HO_123002 := Aside0.mk (Kd.R_mono (Kd.R_keep (IsS75.apart (show IsS75 w0 _ g s0_0 x1001_1 x1002_1 from by repeat (first | (with_reducible first | exact HI0.out | apply IsS75.alloc | apply IsS75.drewN | apply IsS75.drew | apply IsS75.set_1 | apply IsS75.set_2 | refine IsS75.far ?_ NB0_115.out _ | refine IsS75.far ?_ NB0_122.out _) | exact HI0.out)) (tR HO_123002.out) (by decide)) hk (fun _ h => h.2)) (fun _ h => h.1)); replace BK115 := Aside0.mk (KeepBut.blk hk (g' := gb115) (o := .cells #[.int .i64 0, .slice none 0 0, .slice none 0 0] 27 (0, 0)) (tK BK115.out) NB115_0.out (by simp)); replace BK122 := Aside0.mk (KeepBut.blk hk (g' := gb122) (o := .cells #[.int .i64 t119, u123001, u123002] 27 (0, 0)) (tK BK122.out) NB122_0.out (by simp)); replace HK := Aside0.mk (KeepBut.trans (by repeat (first | (with_reducible first | exact HK.out | apply KeepBut.set_ | apply keep_drewN | apply keep_drew | apply keep_alloc | refine keep_far ?_ GW115.out _ | refine keep_far ?_ GW122.out _) | exact HK.out)) hk (.inl rfl)); replace HB := Aside0.mk (hb); replace HI0 := Aside0.mk (hi); (try clear hb); (try clear hk); (try clear hi); have hnb160 := NB122_115.out; have hnc160 := NB115_122.out; have hnb161 := NB122_0.out; have hnc161 := NB0_122.out; obtain ⟨hcz162_0, hfz162_0, hcz162_1, hfz162_1, hcz162_2, hfz162_2⟩ := cz3 BK122; have hnb163 := NB115_0.out; have hnc163 := NB0_115.out; obtain ⟨hcz164_0, hfz164_0, hcz164_1, hfz164_1, hcz164_2, hfz164_2⟩ := cz3 BK115; obtain ⟨Ao165, co165, eo165⟩ := Kd.R_slice HO_123001.out; subst eo165; obtain ⟨Ao166, co166, eo166⟩ := Kd.R_slice HO_123002.out; subst eo166))
         refine bodyPost_ret (results_cell_row rfl _ _ gb115 27 #[.int .i64 t119, .slice Ao165 x123001_1.length co165, .slice Ao166 x123002_1.length co166] (0, 0) _ rfl (by (with_reducible repeat (first | refine blk_drewN ?_ _ | refine blk_drew ?_ | refine blk_alloc ?_ _)); exact bp3 BK115.out) Try.underlying27 rfl (by kernel_rfl)) rfl ?_
         exact ⟨_, _, by first | rfl | (simp [errW_none, errW_some] <;> rfl) | (simp [*, errW_none, errW_some] <;> rfl), by (with_reducible repeat (first | apply Kd.R_alloc | apply Kd.R_drewN | apply Kd.R_drew)); exact rF3 HO_123001 BK115, by (with_reducible repeat (first | apply Kd.R_alloc | apply Kd.R_drewN | apply Kd.R_drew)); exact rF3 HO_123002 BK115, by repeat (first | (with_reducible first | exact HI0.out | apply IsS75.alloc | apply IsS75.drewN | apply IsS75.drew | apply IsS75.set_1 | apply IsS75.set_2 | refine IsS75.far ?_ NB0_115.out _ | refine IsS75.far ?_ NB0_122.out _) | exact HI0.out), by repeat (first | (with_reducible first | exact HB.out | apply below_alloc | apply pw_below_drewN | apply below_drew1 | refine below_set ?_ (IsS75.ge HI0.out) | refine below_set ?_ GE115.out | refine below_set ?_ GE122.out) | exact HB.out), by repeat (first | (with_reducible first | exact HK.out | apply KeepBut.set_ | apply keep_drewN | apply keep_drew | apply keep_alloc | refine keep_far ?_ GW115.out _ | refine keep_far ?_ GW122.out _) | exact HK.out)⟩
end Go.Proofs.Ytnnpfekgapikfaa.PFnPiles

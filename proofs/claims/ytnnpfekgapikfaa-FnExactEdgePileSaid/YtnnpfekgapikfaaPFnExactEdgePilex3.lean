/- Printed by the program print2.py over the translation: each function as a Lean function, and the proof that the call comes to its answer. -/
import Derived.Test.YtnnpfekgapikfaaPFnExactEdgePilex0
import Derived.Test.YtnnpfekgapikfaaPFnExactEdgePilex2
namespace Go.Proofs.Ytnnpfekgapikfaa.PFnExactEdgePile
open Go.RowKit Go.Proofs.YtnnpfekgapikfaaW.PrintWords Go.Proofs.YtnnpfekgapikfaaW.PrintLast Go.Proofs.YtnnpfekgapikfaaW.PrintMore
attribute [local go_sem] max2_int min2_int max_two min_two max_three min_three max_four min_four   -- for this text's walks alone
set_option linter.unusedVariables false
set_option linter.unusedSimpArgs false

/-! ### impl_Pile_moved: function 59 -/
def impl_Pile_moved.l0 : Nat → Int → List Int → Int → Int → Int → List Int → List Int → Option (Int × List Int × List Int)
 | 0, _, _, _, _, _, _, _ => none
 | k + 1, x1, x15, x16, x17, x192000, x192001, x192002 => if x17 < x16 then (if 0 ≤ x17 then (if x17 < (x15.length : Int) then (if x192001.length < 17592186044416 then (impl_Pile_moved.l0 k x1 x15 x16 (wrap64 (x17 + 1)) x192000 (x192001 ++ [wrap64 ((rd x15 x17) + x1)]) x192002) else (none)) else (none)) else (none)) else (some (x192000, x192001, x192002))
def impl_Pile_moved.f (k : Nat) (a0_0 : Int) (l0_1 : List Int) (l0_2 : List Int) (a1 : Int) : Option (Int × List Int × List Int) := (slices_Clone_int_int.f l0_2).bind fun t188 => (impl_Pile_moved.l0 k a1 l0_1 (l0_1.length : Int) 0 a0_0 ([] : List Int) t188)
def impl_Pile_moved.T1 : Bool × List (List Nat × List Nat) := (true, [([], []), ([0], [0]), ([], []), ([2], [2]), ([3], [3]), ([1, 4], [1, 4]), ([], []), ([6, 5, 4, 0, 1, 2, 3, 4, 5, 6], [5, 6])])
def impl_Pile_moved.B1 : List Nat := [0, 1, 0, 4, 12, 31, 0, 127]
theorem impl_Pile_moved.tab1 : rtab .any (opsOf Try.f59 1) = impl_Pile_moved.T1 := by kernel_rfl
theorem impl_Pile_moved.bits1 : waitsOk impl_Pile_moved.T1.2 impl_Pile_moved.B1 = true := by kernel_rfl
set_option maxHeartbeats 8000000 in
set_option maxRecDepth 100000 in
theorem impl_Pile_moved.calls (k : Nat) (a0_0 : Int) (A0_1 : Option Addr) (c0_1 : Nat) (l0_1 : List Int) (A0_2 : Option Addr) (c0_2 : Nat) (l0_2 : List Int) (a1 : Int) (r1 : Int) (r2 : List Int) (r3 : List Int) (w : World) (hr0_1 : Kd.C (Kd.int .i64) w A0_1 l0_1.length l0_1) (hc0_1 : l0_1.length ≤ c0_1) (hr0_2 : Kd.C (Kd.int .i64) w A0_2 l0_2.length l0_2) (hc0_2 : l0_2.length ≤ c0_2) (h : impl_Pile_moved.f k a0_0 l0_1 l0_2 a1 = some (r1, r2, r3)) :
  Calls Try.prog 59 #[.agg #[.int .i64 a0_0, .slice A0_1 l0_1.length c0_1, .slice A0_2 l0_2.length c0_2], .int .i64 a1] w fun e w' => ∃ v1_ v2_ : Value, e = .returned (.agg #[.int .i64 r1, v1_, v2_]) ∧ Kd.R (Kd.int .i64) 3 w' w.heap.size (fun k_ => some k_ ≠ (v2_ : Value).ownBlock) v1_ r2 ∧ Kd.R (Kd.int .i64) 3 w' w.heap.size (fun k_ => some k_ ≠ (v1_ : Value).ownBlock) v2_ r3 ∧ Below w.heap.size w w' := by
 have hu27 := Try.underlying27
 have HR0_1 := Aside0.mk hr0_1
 have HC0_1 := Aside0.mk hc0_1
 clear hr0_1 hc0_1
 have HR0_2 := Aside0.mk hr0_2
 have HC0_2 := Aside0.mk hc0_2
 clear hr0_2 hc0_2
 have HB := Aside0.mk (Below.refl w.heap.size w)
 have H : ((slices_Clone_int_int.f l0_2).bind fun t188 => (impl_Pile_moved.l0 k a1 l0_1 (l0_1.length : Int) 0 a0_0 ([] : List Int) t188)) = some (r1, r2, r3) := h
 clear h
 replace H := Option.bind_eq_some_iff.mp H
 obtain ⟨t188, A30, H⟩ := H
 replace H : (impl_Pile_moved.l0 k a1 l0_1 (l0_1.length : Int) 0 a0_0 ([] : List Int) t188) = some (r1, r2, r3) := H
 have A3 := Aside0.mk A30
 clear A30
 have H' := Aside0.mk H
 clear H
 go_enter Try.func59, Try.ntmps59
 try go_wp2_with (first | ((with_reducible refine gate_dst (N := 2) rfl ?_); refine bE 2 #[.int .i64 a0_0, .slice A0_1 l0_1.length c0_1, .slice A0_2 l0_2.length c0_2] 27 ?_; intro gb186 hg w4 hbox hb; have BK186 := Aside0.mk hbox; have GW186 := sB HB hg; have GE186 := GW186; replace HB := hB HB hb; clear hb hbox hg) | ((with_reducible refine gate_dst (N := 4) rfl ?_); refine bE 4 #[.int .i64 0, .slice none 0 0, .slice none 0 0] 27 ?_; intro gb187 hg w5 hbox hb; have BK187 := Aside0.mk hbox; have GW187 := sB HB hg; have GE187 := GW187; replace HB := hB HB hb; have NB186_187 := lN BK186 hg; have NB187_186 := gN NB186_187; replace BK186 := bkB BK186 hb; clear hb hbox hg))
 replace BK186 := Aside0.mk (blk_drew BK186.out)
 replace BK187 := Aside0.mk (blk_drew BK187.out)
 replace HB := Aside0.mk (below_drew1 HB.out)
 refine start_ (n := 8) (S := fun w' => w'.cell? ⟨gb186, 0, none⟩ = some (.int .i64 a0_0) ∧ w'.cell? ⟨gb186, 1, none⟩ = some (.slice A0_1 l0_1.length c0_1) ∧ w'.cell? ⟨gb186, 2, none⟩ = some (.slice A0_2 l0_2.length c0_2)) (ds := []) #[n_, n_, n_, n_, n_, n_, n_, n_] (by kernel_rfl) rfl rfl ⟨(blk_cell BK186.out 0).trans rfl, (blk_cell BK186.out 1).trans rfl, (blk_cell BK186.out 2).trans rfl⟩ (fun hHeld => ?_); refine with_tabW impl_Pile_moved.tab1 impl_Pile_moved.bits1 (fun HT_ HW_ => ?_)
 generalize w5.drew = w6 at BK186 BK187 HB hHeld ⊢
 refine pu 0 (some 8) #[y_, n_, n_, n_, n_, n_, n_, n_] (any_of HT_.out (by kernel_rfl)) ?_
 refine pu 2 (some 10) #[y_, n_, y_, n_, n_, n_, n_, n_] (any_of HT_.out (by kernel_rfl)) ?_
 refine tk 1 (some 9) #[y_, y_, y_, n_, n_, n_, n_, n_] rfl (take_ofW HT_.out HW_.out (by kernel_rfl)) hHeld (Or.inl ⟨by rfl, by rintro w' ⟨s0, s1, s2⟩; go_simp; with_reducible rfl⟩) ?_
 refine tk 3 (some 11) #[y_, y_, y_, y_, n_, n_, n_, n_] rfl (take_ofW HT_.out HW_.out (by kernel_rfl)) hHeld (Or.inl ⟨by rfl, by rintro w' ⟨s0, s1, s2⟩; go_simp; with_reducible rfl⟩) ?_
 refine join_ (σ := Value × Nat) 1 #[y_, y_, y_, y_, y_, y_, y_, n_] (fun s_ => [(12, s_.1), (5, .pointer (some ⟨s_.2, 0, none⟩)), (13, .agg #[.int .i64 a0_0, .slice none 0 0, s_.1])]) (fun s_ w' => (w'.cell? ⟨gb186, 0, none⟩ = some (.int .i64 a0_0) ∧ w'.cell? ⟨gb186, 1, none⟩ = some (.slice A0_1 l0_1.length c0_1) ∧ w'.cell? ⟨gb186, 2, none⟩ = some (.slice A0_2 l0_2.length c0_2)) ∧ (Kd.R (Kd.int .i64) 3 w' w.heap.size (fun _ => True) s_.1 t188) ∧ (w'.heap[gb186]? = some (.cells #[.int .i64 a0_0, .slice A0_1 l0_1.length c0_1, .slice A0_2 l0_2.length c0_2] 27 (0, 0))) ∧ (w'.heap[gb187]? = some (.cells #[.int .i64 0, .slice none 0 0, .slice none 0 0] 27 (0, 0))) ∧ (w'.heap[s_.2]? = some (.cells #[.int .i64 0, .slice none 0 0, .slice none 0 0] 27 (0, 0))) ∧ (w.heap.size ≤ s_.2) ∧ (w.heap.size ≤ s_.2) ∧ (gb186 ≠ s_.2) ∧ (s_.2 ≠ gb186) ∧ (gb187 ≠ s_.2) ∧ (s_.2 ≠ gb187) ∧ (Below w.heap.size w w')) ?_ ?_
 rotate_left
 ·
  intro hCont
  refine two_ (i := 4) (j := 6) (Ni := some 12) (Nj := some 5) #[y_, y_, y_, y_, y_, n_, n_, n_] #[y_, y_, y_, y_, n_, n_, y_, n_] rfl rfl rfl rfl (two_of HT_.out (by kernel_rfl)) (by decide) (by decide) (fun K hK => ?_) (fun K hK => ?_)
  ·
   skip
   refine goes_ Try.func71 (by kernel_rfl) rfl #[.slice A0_2 l0_2.length c0_2] (by rfl) rfl rfl tM ?_
   with_reducible refine (slices_Clone_int_int.calls _ _ l0_2 t188 _ ?side1 ?side2 A3.out).mono ?_
   (case side1 => exact cB HR0_2 HB)
   (case side2 => exact HC0_2.out)
   rintro e w7 ⟨v189, rfl, ho0, hb⟩
   refine ⟨_, rfl, ?_⟩
   have HO190 := Aside0.mk (Kd.R_lower ho0 (below_size (tB HB.out)))
   replace BK186 := bkB BK186 hb
   replace BK187 := bkB BK187 hb
   replace HB := hB HB hb
   (try clear hb); (try clear ho0)
   obtain ⟨Ao8, co8, eo8⟩ := Kd.R_slice HO190.out
   (first | subst eo8 | (injection eo8 with f1_ f2_ f3_; have f4_ := f1_.symm; have f5_ := f3_.symm; clear f1_ f2_ f3_; subst f4_; subst f5_))
   refine hK.out _ _ ⟨(blk_cell BK186.out 0).trans rfl, (blk_cell BK186.out 1).trans rfl, (blk_cell BK186.out 2).trans rfl⟩ (fun hHeld => ?_)
   clear hK K
   refine norm_ (a' := ?_) ?_ ?_
   rotate_left
   ·
    show Act.put _ (some 12) _ = _
    simp only [Act.put, List.setIfInBounds_toArray, List.set_cons_zero, List.set_cons_succ, i64_w, i32_w]
    rfl
   refine pu 5 (some 13) #[y_, y_, y_, y_, y_, y_, n_, n_] (any_of HT_.out (by kernel_rfl)) ?_
   refine one_ (i := 6) (N := some 5) #[y_, y_, y_, y_, y_, y_, y_, n_] rfl rfl (one_of HT_.out (by kernel_rfl)) (by decide) (fun K hK => ?_)
   refine box_step ?hg (N := 5) ?hd (cs := #[.int .i64 0, .slice none 0 0, .slice none 0 0]) (t := 27) ?hr ?_; (case hd => rfl); (case hg => rfl); (case hr => first | (go_simp; done) | (go_simp; rfl))
   intro gb191 hg w9 hbox hb
   replace HO190 := rB HO190 hb
   have BK191 := Aside0.mk hbox
   have GW191 := Aside0.mk (bS HB.out hg)
   have GE191 := Aside0.mk (bS HB.out hg)
   replace HB := hB HB hb
   have NB186_191 := Aside0.mk (nL BK186.out hg)
   have NB191_186 := Aside0.mk (nG BK186.out hg)
   replace BK186 := bkB BK186 hb
   have NB187_191 := Aside0.mk (nL BK187.out hg)
   have NB191_187 := Aside0.mk (nG BK187.out hg)
   replace BK187 := bkB BK187 hb
   clear hb hbox hg
   refine hK.out _ _ ⟨(blk_cell BK186.out 0).trans rfl, (blk_cell BK186.out 1).trans rfl, (blk_cell BK186.out 2).trans rfl⟩ (fun hHeld => ?_)
   clear hK K
   refine norm_ (a' := ?_) ?_ ?_
   rotate_left
   ·
    show Act.put _ (some 5) _ = _
    simp only [Act.put, List.setIfInBounds_toArray, List.set_cons_zero, List.set_cons_succ, i64_w, i32_w]
    rfl
   exact norm_ (by simp only [putAll, Act.put, List.setIfInBounds_toArray, List.set_cons_zero, List.set_cons_succ]) (hCont (.slice Ao8 t188.length co8, gb191) _ ⟨hHeld, (tR HO190.out), (tK BK186.out), (tK BK187.out), (tK BK191.out), GW191.out, GE191.out, NB186_191.out, NB191_186.out, NB187_191.out, NB191_187.out, (tB HB.out)⟩)
  ·
   skip
   refine box_step ?hg (N := 5) ?hd (cs := #[.int .i64 0, .slice none 0 0, .slice none 0 0]) (t := 27) ?hr ?_; (case hd => rfl); (case hg => rfl); (case hr => first | (go_simp; done) | (go_simp; rfl))
   intro gb191 hg w7 hbox hb
   have BK191 := Aside0.mk hbox
   have GW191 := Aside0.mk (bS HB.out hg)
   have GE191 := Aside0.mk (bS HB.out hg)
   replace HB := hB HB hb
   have NB186_191 := Aside0.mk (nL BK186.out hg)
   have NB191_186 := Aside0.mk (nG BK186.out hg)
   replace BK186 := bkB BK186 hb
   have NB187_191 := Aside0.mk (nL BK187.out hg)
   have NB191_187 := Aside0.mk (nG BK187.out hg)
   replace BK187 := bkB BK187 hb
   clear hb hbox hg
   refine hK.out _ _ ⟨(blk_cell BK186.out 0).trans rfl, (blk_cell BK186.out 1).trans rfl, (blk_cell BK186.out 2).trans rfl⟩ (fun hHeld => ?_)
   clear hK K
   refine norm_ (a' := ?_) ?_ ?_
   rotate_left
   ·
    show Act.put _ (some 5) _ = _
    simp only [Act.put, List.setIfInBounds_toArray, List.set_cons_zero, List.set_cons_succ, i64_w, i32_w]
    rfl
   refine one_ (i := 4) (N := some 12) #[y_, y_, y_, y_, y_, n_, y_, n_] rfl rfl (one_of HT_.out (by kernel_rfl)) (by decide) (fun K hK => ?_)
   refine goes_ Try.func71 (by kernel_rfl) rfl #[.slice A0_2 l0_2.length c0_2] (by rfl) rfl rfl tM ?_
   with_reducible refine (slices_Clone_int_int.calls _ _ l0_2 t188 _ ?side1 ?side2 A3.out).mono ?_
   (case side1 => exact cB HR0_2 HB)
   (case side2 => exact HC0_2.out)
   rintro e w8 ⟨v189, rfl, ho0, hb⟩
   refine ⟨_, rfl, ?_⟩
   have HO190 := Aside0.mk (Kd.R_lower ho0 (below_size (tB HB.out)))
   replace BK186 := bkB BK186 hb
   replace BK187 := bkB BK187 hb
   replace BK191 := bkB BK191 hb
   replace HB := hB HB hb
   (try clear hb); (try clear ho0)
   obtain ⟨Ao9, co9, eo9⟩ := Kd.R_slice HO190.out
   (first | subst eo9 | (injection eo9 with f1_ f2_ f3_; have f4_ := f1_.symm; have f5_ := f3_.symm; clear f1_ f2_ f3_; subst f4_; subst f5_))
   refine hK.out _ _ ⟨(blk_cell BK186.out 0).trans rfl, (blk_cell BK186.out 1).trans rfl, (blk_cell BK186.out 2).trans rfl⟩ (fun hHeld => ?_)
   clear hK K
   refine norm_ (a' := ?_) ?_ ?_
   rotate_left
   ·
    show Act.put _ (some 12) _ = _
    simp only [Act.put, List.setIfInBounds_toArray, List.set_cons_zero, List.set_cons_succ, i64_w, i32_w]
    rfl
   refine pu 5 (some 13) #[y_, y_, y_, y_, y_, y_, y_, n_] (any_of HT_.out (by kernel_rfl)) ?_
   exact norm_ (by simp only [putAll, Act.put, List.setIfInBounds_toArray, List.set_cons_zero, List.set_cons_succ]) (hCont (.slice Ao9 t188.length co9, gb191) _ ⟨hHeld, (tR HO190.out), (tK BK186.out), (tK BK187.out), (tK BK191.out), GW191.out, GE191.out, NB186_191.out, NB191_186.out, NB187_191.out, NB191_187.out, (tB HB.out)⟩)
 rintro ⟨v189, gb191⟩ w10 ⟨hS_, h0_, h1_, h2_, h3_, h4_, h5_, h6_, h7_, h8_, h9_, h10_⟩
 have n0_ : Aside0 (Kd.R (Kd.int .i64) 3 w10 w.heap.size (fun _ => True) v189 t188) := ⟨h0_⟩
 have n1_ : Aside0 (w10.heap[gb186]? = some (.cells #[.int .i64 a0_0, .slice A0_1 l0_1.length c0_1, .slice A0_2 l0_2.length c0_2] 27 (0, 0))) := ⟨h1_⟩
 have n2_ : Aside0 (w10.heap[gb187]? = some (.cells #[.int .i64 0, .slice none 0 0, .slice none 0 0] 27 (0, 0))) := ⟨h2_⟩
 have n3_ : Aside0 (w10.heap[gb191]? = some (.cells #[.int .i64 0, .slice none 0 0, .slice none 0 0] 27 (0, 0))) := ⟨h3_⟩
 have n4_ : Aside0 (w.heap.size ≤ gb191) := ⟨h4_⟩
 have n5_ : Aside0 (w.heap.size ≤ gb191) := ⟨h5_⟩
 have n6_ : Aside0 (gb186 ≠ gb191) := ⟨h6_⟩
 have n7_ : Aside0 (gb191 ≠ gb186) := ⟨h7_⟩
 have n8_ : Aside0 (gb187 ≠ gb191) := ⟨h8_⟩
 have n9_ : Aside0 (gb191 ≠ gb187) := ⟨h9_⟩
 have n10_ : Aside0 (Below w.heap.size w w10) := ⟨h10_⟩
 clear BK186
 clear BK187
 clear HB
 clear h0_ h1_ h2_ h3_ h4_ h5_ h6_ h7_ h8_ h9_ h10_
 have HO190 := n0_
 have BK186 := n1_
 have BK187 := n2_
 have BK191 := n3_
 have GW191 := n4_
 have GE191 := n5_
 have NB186_191 := n6_
 have NB191_186 := n7_
 have NB187_191 := n8_
 have NB191_187 := n9_
 have HB := n10_
 clear n0_ n1_ n2_ n3_ n4_ n5_ n6_ n7_ n8_ n9_ n10_
 have hHeld : w10.cell? ⟨gb186, 0, none⟩ = some (.int .i64 a0_0) ∧ w10.cell? ⟨gb186, 1, none⟩ = some (.slice A0_1 l0_1.length c0_1) ∧ w10.cell? ⟨gb186, 2, none⟩ = some (.slice A0_2 l0_2.length c0_2) := hS_
 obtain ⟨Ao11, co11, eo11⟩ := Kd.R_slice HO190.out
 (first | subst eo11 | (injection eo11 with f1_ f2_ f3_; have f4_ := f1_.symm; have f5_ := f3_.symm; clear f1_ f2_ f3_; subst f4_; subst f5_))
 refine norm_ (a' := ?_) ?_ ?_
 rotate_left
 ·
  simp only [putAll, Act.put, List.setIfInBounds_toArray, List.set_cons_zero, List.set_cons_succ]
  rfl
 refine one_ (i := 7) (N := none) #[y_, y_, y_, y_, y_, y_, y_, y_] rfl rfl (one_of HT_.out (by kernel_rfl)) (by decide) (fun K hK => ?_)
 have hs12 : w10.cell? ⟨gb191, 0, none⟩ = some (.int .i64 0) := (blk_cell BK191.out 0).trans rfl
 have hfs12 := blk_frozen BK191.out 0
 have hns12_0 := NB186_191.out
 have hns12_1 := NB187_191.out
 have hms12_0 := NB191_186.out
 have hms12_1 := NB191_187.out
 have hs13 : w10.cell? ⟨gb191, 1, none⟩ = some (.slice none 0 0) := (blk_cell BK191.out 1).trans rfl
 have hfs13 := blk_frozen BK191.out 1
 have hns13_0 := NB186_191.out
 have hns13_1 := NB187_191.out
 have hms13_0 := NB191_186.out
 have hms13_1 := NB191_187.out
 have hs14 : w10.cell? ⟨gb191, 2, none⟩ = some (.slice none 0 0) := (blk_cell BK191.out 2).trans rfl
 have hfs14 := blk_frozen BK191.out 2
 have hns14_0 := NB186_191.out
 have hns14_1 := NB187_191.out
 have hms14_0 := NB191_186.out
 have hms14_1 := NB191_187.out
 refine skip_ (w1 := ?_) (by rfl) rfl ?_ ?_
 rotate_left
 ·
  go_simp
  rfl
 refine hK.out _ _ ⟨((cell_far (p := ⟨gb191, _, none⟩) NB186_191.out _).trans (((cell_far (p := ⟨gb191, _, none⟩) NB186_191.out _).trans (((cell_far (p := ⟨gb191, _, none⟩) NB186_191.out _).trans (hHeld.1)))))), ((cell_far (p := ⟨gb191, _, none⟩) NB186_191.out _).trans (((cell_far (p := ⟨gb191, _, none⟩) NB186_191.out _).trans (((cell_far (p := ⟨gb191, _, none⟩) NB186_191.out _).trans (hHeld.2.1)))))), ((cell_far (p := ⟨gb191, _, none⟩) NB186_191.out _).trans (((cell_far (p := ⟨gb191, _, none⟩) NB186_191.out _).trans (((cell_far (p := ⟨gb191, _, none⟩) NB186_191.out _).trans (hHeld.2.2))))))⟩ (fun hHeld => ?_)
 clear hK K
 refine done_ (done_of HT_.out (by kernel_rfl)) ?_
 have hnb15 := NB186_187.out
 have hnc15 := NB187_186.out
 have hnb16 := NB186_191.out
 have hnc16 := NB191_186.out
 obtain ⟨hcz17_0, hfz17_0, hcz17_1, hfz17_1, hcz17_2, hfz17_2⟩ := cz3 BK186
 try go_wp2
 go_loopg [17] k (fun kq v17 w' => ∃ (x17_1 : Int) (x192001_1 : List Int) (u192001 : Value), v17 = .int .i64 x17_1 ∧ Aside0 (impl_Pile_moved.l0 kq a1 l0_1 (l0_1.length : Int) x17_1 a0_0 x192001_1 t188 = some (r1, r2, r3)) ∧ Aside0 (kq ≤ k) ∧ Aside0 (Kd.R (Kd.int .i64) 3 w' w.heap.size (fun k_ => some k_ ≠ ((.slice Ao11 t188.length co11) : Value).ownBlock) u192001 x192001_1) ∧ Aside0 (Kd.R (Kd.int .i64) 3 w' w.heap.size (fun k_ => some k_ ≠ (u192001 : Value).ownBlock) (.slice Ao11 t188.length co11) t188) ∧ Aside0 (w'.heap[gb186]? = some (.cells #[.int .i64 a0_0, (.slice A0_1 l0_1.length c0_1), (.slice A0_2 l0_2.length c0_2)] 27 (0, 0))) ∧ Aside0 (w'.heap[gb187]? = some (.cells #[.int .i64 0, (.slice none 0 0), (.slice none 0 0)] 27 (0, 0))) ∧ Aside0 (w'.heap[gb191]? = some (.cells #[.int .i64 a0_0, u192001, (.slice Ao11 t188.length co11)] 27 (0, 0))) ∧ Aside0 (Below w.heap.size w w'))
 case atStart => exact ⟨(0), (([] : List Int)), (.slice none 0 0), (by first | rfl | (simp; done) | (simp [wrap64]; done) | (simp [*]; done)), H', ⟨Nat.le_refl _⟩, ⟨by first | exact Kd.R_nil _ _ _ _ _ | exact Kd.N_nil _ _ _ _ _ | exact Kd.V_nil _ _ _ _ _ | exact Kd.Q_nil _ _ _ _ _ | exact Kd.S_nil _ _ _ _ _⟩, ⟨by (with_reducible repeat (first | apply Kd.R_alloc | apply Kd.R_drewN | apply Kd.R_drew)); exact Kd.R_mono (Kd.R_far (p := ⟨gb191, 2, none⟩) (Kd.R_far (p := ⟨gb191, 1, none⟩) (Kd.R_far (p := ⟨gb191, 0, none⟩) (Kd.R_types HO190.out BK191.out (by decide)) (fun _ hk => hk.2) (.int .i64 a0_0)) (fun _ hk => hk.2) (.slice none 0 0)) (fun _ hk => hk.2) (.slice Ao11 t188.length co11)) (fun _ hk => (by simp [Value.ownBlock]))⟩, ⟨by (with_reducible repeat (first | refine blk_drewN ?_ _ | refine blk_drew ?_ | refine blk_alloc ?_ _)); refine blk_far ?_ NB186_191.out _; (with_reducible repeat (first | refine blk_drewN ?_ _ | refine blk_drew ?_ | refine blk_alloc ?_ _)); refine blk_far ?_ NB186_191.out _; (with_reducible repeat (first | refine blk_drewN ?_ _ | refine blk_drew ?_ | refine blk_alloc ?_ _)); refine blk_far ?_ NB186_191.out _; (with_reducible repeat (first | refine blk_drewN ?_ _ | refine blk_drew ?_ | refine blk_alloc ?_ _)); exact BK186.out⟩, ⟨by (with_reducible repeat (first | refine blk_drewN ?_ _ | refine blk_drew ?_ | refine blk_alloc ?_ _)); refine blk_far ?_ NB187_191.out _; (with_reducible repeat (first | refine blk_drewN ?_ _ | refine blk_drew ?_ | refine blk_alloc ?_ _)); refine blk_far ?_ NB187_191.out _; (with_reducible repeat (first | refine blk_drewN ?_ _ | refine blk_drew ?_ | refine blk_alloc ?_ _)); refine blk_far ?_ NB187_191.out _; (with_reducible repeat (first | refine blk_drewN ?_ _ | refine blk_drew ?_ | refine blk_alloc ?_ _)); exact BK187.out⟩, ⟨by (with_reducible repeat (first | refine blk_drewN ?_ _ | refine blk_drew ?_ | refine blk_alloc ?_ _)); exact bp3 BK191.out⟩, ⟨tB HB.out⟩⟩
 case round =>
  clear H'
  (try clear hcz17_0); (try clear hcz17_1); (try clear hcz17_2); (try clear hfz17_0); (try clear hfz17_1); (try clear hfz17_2)
  obtain ⟨x17_1, x192001_1, u192001, rfl, HA, HK1, HO_192001, HO_192002, BK186, BK187, BK191, HB⟩ := hrel
  cases gk with
  | zero => exact absurd HA.out (by simp [impl_Pile_moved.l0])
  | succ k1 =>
   have H := HA.out
   clear HA
   simp only [impl_Pile_moved.l0] at H
   by_cases c18 : x17_1 < (l0_1.length : Int)
   ·
    rw [if_pos c18] at H
    have c18b0 : decide (x17_1 < (l0_1.length : Int)) = true := decide_eq_true c18
    clear c18
    by_cases c19 : 0 ≤ x17_1
    ·
     rw [if_pos c19] at H
     have c19b0 : decide (0 ≤ x17_1) = true := decide_eq_true c19
     clear c19
     by_cases c20 : x17_1 < (l0_1.length : Int)
     ·
      rw [if_pos c20] at H
      have c20b0 : decide (x17_1 < (l0_1.length : Int)) = true := decide_eq_true c20
      clear c20
      by_cases c21 : x192001_1.length < 17592186044416
      ·
       rw [if_pos c21] at H
       have LMc21 := Aside0.mk c21
       clear c21
       obtain ⟨y193, hy193⟩ : ∃ y_ : List Int, y_ = (x192001_1 ++ [wrap64 ((rd l0_1 x17_1) + a1)]) := ⟨_, rfl⟩
       replace H : (impl_Pile_moved.l0 k1 a1 l0_1 (l0_1.length : Int) (wrap64 (x17_1 + 1)) a0_0 y193 t188) = some (r1, r2, r3) := by first | (rw [hy193]; with_reducible exact H) | (have H2_ := (Option.bind_some _ _).symm.trans H; rw [hy193]; with_reducible exact H2_) | (have H2_ := (Option.bind_some _ _).symm.trans H; with_reducible exact H2_) | with_reducible exact H | (rw [hy193]; exact H) | exact H
       have Ny193 := Aside0.mk hy193
       clear hy193
       have H' := Aside0.mk H
       clear H
       have p192 : 0 ≤ (x17_1 : Int) := of_decide_eq_true (by first | (with_reducible assumption) | assumption)
       have q192 : x17_1 < (l0_1.length : Int) := of_decide_eq_true (by first | (with_reducible assumption) | assumption)
       obtain ⟨ad192, e192, hx192_0⟩ := Kd.at_int HR0_1.out x17_1 p192 q192
       cases e192
       replace hx192_0 := hC HB hx192_0
       replace p192 := eq_true p192
       replace q192 := eq_true q192
       have hnb22 := NB191_186.out
       have hnc22 := NB186_191.out
       have hnb23 := NB191_187.out
       have hnc23 := NB187_191.out
       obtain ⟨hcz24_0, hfz24_0, hcz24_1, hfz24_1, hcz24_2, hfz24_2⟩ := cz3 BK191
       go_wp2_with (first | ((with_reducible refine gate_builtin (b := .append) (xs := #[.tmp 22, .tmp 26]) rfl ?_); at_builtin; refine Kd.R_append (Kd.int .i64) (w0 := w) w.heap.size rfl (.tmp 22) (.tmp 26) 25 3 (.int .i64 0) 8 rfl Try.underlying25 info3 rfl (by decide) (by omega) u192001 x192001_1 (wrap64 ((rd l0_1 x17_1) + a1)) [.int .i64 (wrap64 ((rd l0_1 x17_1) + a1))] (fun k_ => some k_ ≠ (.slice Ao11 t188.length co11 : Value).ownBlock) (fun _ => False) rfl rfl ?aP (fun _ hk => hk.elim) ?aF ?aO ?aB ?aS ?aL ?_; (case aP => exact rfl); (case aB => exact (tB HB.out)); (case aF => exact (fun k_ hk => Kd.fresh' (Kd.R_lt (tR HO_192002.out)) k_ hk)); (case aO => exact (tR HO_192001.out)); (case aS => exact (below_size (tB HB.out))); (case aL => have := LMc21.out; omega); intro v194 w25 ho hb hg hat; rw [← Ny193.out] at ho; replace HO_192002 := Aside0.mk (Kd.R_after (ok := (fun _ => True)) (by (with_reducible repeat (first | apply Kd.R_alloc | apply Kd.R_drewN | apply Kd.R_drew)); exact Kd.R_mono HO_192002.out (fun _ hk => ⟨trivial, hk⟩)) hg hat); replace BK186 := Aside0.mk (blk_grown (g := gb186) (o := .cells #[.int .i64 a0_0, .slice (some ad192) l0_1.length c0_1, .slice A0_2 l0_2.length c0_2] 27 (0, 0)) (tK BK186.out) hg (Kd.R_ne HO_192001.out BK186.out (by decide))); replace BK187 := Aside0.mk (blk_grown (g := gb187) (o := .cells #[.int .i64 0, .slice none 0 0, .slice none 0 0] 27 (0, 0)) (tK BK187.out) hg (Kd.R_ne HO_192001.out BK187.out (by decide))); replace BK191 := Aside0.mk (blk_grown (g := gb191) (o := .cells #[.int .i64 a0_0, u192001, .slice Ao11 t188.length co11] 27 (0, 0)) (tK BK191.out) hg (Kd.R_ne HO_192001.out BK191.out (by decide))); replace HB := Aside0.mk (hb); have HO195 := Aside0.mk (ho); clear HO_192001; clear ho hb hg hat; obtain ⟨Ao26, co26, eo26⟩ := Kd.R_slice HO195.out; subst eo26; obtain ⟨hcz27_0, hfz27_0, hcz27_1, hfz27_1, hcz27_2, hfz27_2⟩ := cz3 BK191))
       go_roundg k1
       case measure => have := HK1.out; omega
       case rel => exact ⟨(wrap64 (x17_1 + 1)), (y193), (.slice Ao26 y193.length co26), (by first | rfl | (simp; done) | (simp [wrap64]; done) | (simp [*]; done)), H', ⟨by have := HK1.out; omega⟩, ⟨by (with_reducible repeat (first | apply Kd.R_alloc | apply Kd.R_drewN | apply Kd.R_drew)); exact Kd.R_mono (Kd.R_far (p := ⟨gb191, 1, none⟩) (Kd.R_types HO195.out BK191.out (by decide)) (fun _ hk => hk.2) (.slice Ao26 y193.length co26)) (fun _ hk => hk.1)⟩, ⟨by (with_reducible repeat (first | apply Kd.R_alloc | apply Kd.R_drewN | apply Kd.R_drew)); exact Kd.R_mono (Kd.R_far (p := ⟨gb191, 1, none⟩) (Kd.R_types HO_192002.out BK191.out (by decide)) (fun _ hk => hk.2) (.slice Ao26 y193.length co26)) (fun _ hk => hk.1.2)⟩, ⟨by (with_reducible repeat (first | refine blk_drewN ?_ _ | refine blk_drew ?_ | refine blk_alloc ?_ _)); refine blk_far ?_ NB186_191.out _; (with_reducible repeat (first | refine blk_drewN ?_ _ | refine blk_drew ?_ | refine blk_alloc ?_ _)); exact BK186.out⟩, ⟨by (with_reducible repeat (first | refine blk_drewN ?_ _ | refine blk_drew ?_ | refine blk_alloc ?_ _)); refine blk_far ?_ NB187_191.out _; (with_reducible repeat (first | refine blk_drewN ?_ _ | refine blk_drew ?_ | refine blk_alloc ?_ _)); exact BK187.out⟩, ⟨by (with_reducible repeat (first | refine blk_drewN ?_ _ | refine blk_drew ?_ | refine blk_alloc ?_ _)); refine blk_put (cs := #[.int .i64 a0_0, u192001, .slice Ao11 t188.length co11]) ?_ 1 _ rfl; (with_reducible repeat (first | refine blk_drewN ?_ _ | refine blk_drew ?_ | refine blk_alloc ?_ _)); exact BK191.out⟩, ⟨tB HB.out⟩⟩
      ·
       rw [if_neg c21] at H
       exact absurd H (by simp)
     ·
      rw [if_neg c20] at H
      exact absurd H (by simp)
    ·
     rw [if_neg c19] at H
     exact absurd H (by simp)
   ·
    rw [if_neg c18] at H
    have c18b0 : decide (x17_1 < (l0_1.length : Int)) = false := decide_eq_false c18
    clear c18
    simp only [Option.some.injEq, Prod.mk.injEq] at H
    obtain ⟨rfl, rfl, rfl⟩ := H
    have hnb28 := NB191_186.out
    have hnc28 := NB186_191.out
    have hnb29 := NB191_187.out
    have hnc29 := NB187_191.out
    obtain ⟨hcz30_0, hfz30_0, hcz30_1, hfz30_1, hcz30_2, hfz30_2⟩ := cz3 BK191
    have hnb31 := NB187_186.out
    have hnc31 := NB186_187.out
    obtain ⟨hcz32_0, hfz32_0, hcz32_1, hfz32_1, hcz32_2, hfz32_2⟩ := cz3 BK187
    obtain ⟨Ao33, co33, eo33⟩ := Kd.R_slice HO_192001.out
    subst eo33
    go_wp2
    refine bodyPost_ret (results_cell_row rfl _ _ gb187 27 #[.int .i64 a0_0, .slice Ao33 x192001_1.length co33, .slice Ao11 t188.length co11] (0, 0) _ rfl (by (with_reducible repeat (first | refine blk_drewN ?_ _ | refine blk_drew ?_ | refine blk_alloc ?_ _)); exact bp3 BK187.out) Try.underlying27 rfl (by kernel_rfl)) rfl ?_
    exact ⟨_, _, by first | rfl | (simp [errW_none, errW_some] <;> rfl) | (simp [*, errW_none, errW_some] <;> rfl), by (with_reducible repeat (first | apply Kd.R_alloc | apply Kd.R_drewN | apply Kd.R_drew)); exact rF3 HO_192001 BK187, by (with_reducible repeat (first | apply Kd.R_alloc | apply Kd.R_drewN | apply Kd.R_drew)); exact rF3 HO_192002 BK187, tB HB.out⟩

end Go.Proofs.Ytnnpfekgapikfaa.PFnExactEdgePile

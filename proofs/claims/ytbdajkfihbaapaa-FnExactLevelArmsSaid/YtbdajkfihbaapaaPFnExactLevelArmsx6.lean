/- Printed by the program print2.py over the translation: each function as a Lean function, and the proof that the call comes to its answer. -/
import Derived.Test.YtbdajkfihbaapaaPFnExactLevelArmsx0
import Derived.Test.YtbdajkfihbaapaaPFnExactLevelArmsx4
import Derived.Test.YtbdajkfihbaapaaPFnExactLevelArmsx5
namespace Go.Proofs.Ytbdajkfihbaapaa.PFnExactLevelArms
open Go.RowKit Go.Proofs.YtbdajkfihbaapaaW.PrintWords Go.Proofs.YtbdajkfihbaapaaW.PrintLast Go.Proofs.YtbdajkfihbaapaaW.PrintMore
attribute [local go_sem] max2_int min2_int max_two min_two max_three min_three max_four min_four   -- for this text's walks alone
set_option linter.unusedVariables false
set_option linter.unusedSimpArgs false

/-! ### spec_LevelArms: function 37 -/
def spec_LevelArms.l0 : Nat → List Int → Int → List (S58) → List (S58) → List (S58) → List (S58) → Option ((List (S58)) × (List (S58)) × Bool)
 | 0, _, _, _, _, _, _ => none
 | k + 1, x5, x6, x191000, x191001, x203000, x203001 => if x6 < (x191000.length : Int) then (if 0 ≤ x6 then (if x6 < (x191001.length : Int) then ((spec_l5At.f ((rd_T58 x191001 x6).f1) x5).bind fun t206 => (if x6 < (x5.length : Int) then (if (rd x5 x6) = 0 then (none) else (if (Int.tmod (wrap64 ((wrap64 (((rd_T58 x191000 x6).f0) + ((rd_T58 x191000 x6).f1))) * t206)) (rd x5 x6)) = 0 then (if x6 < (x203000.length : Int) then (spec_LevelArms.l0 k x5 (wrap64 (x6 + 1)) x191000 x191001 (x203000.set (x6 : Int).toNat (⟨wrap64 (Int.tdiv (wrap64 ((wrap64 (((rd_T58 x191000 x6).f0) + ((rd_T58 x191000 x6).f1))) * t206)) (rd x5 x6)), wrap64 ((wrap64 (((rd_T58 x191000 x6).f0) + ((rd_T58 x191000 x6).f1))) - (wrap64 (Int.tdiv (wrap64 ((wrap64 (((rd_T58 x191000 x6).f0) + ((rd_T58 x191000 x6).f1))) * t206)) (rd x5 x6))))⟩ : S58)) x203001) else (none)) else (some (([] : List (S58)), ([] : List (S58)), false)))) else (none))) else (none)) else (none)) else ((spec_l5Good.f k x203000 x203001).bind fun t211 => (if t211 = true then (some (x203000, x203001, true)) else (some (([] : List (S58)), ([] : List (S58)), false))))
def spec_LevelArms.f (k : Nat) (l0_0 : List (S58)) (l0_1 : List (S58)) : Option ((List (S58)) × (List (S58)) × Bool) := (spec_l5Good.f k l0_0 l0_1).bind fun t192 => (if t192 = true then ((spec_l5Own.f l0_0 l0_1).bind fun bt193 => ((spec_l5Weights.f k l0_0 l0_1).bind fun t199 => (spec_LevelArms.l0 k t199 0 l0_0 l0_1 bt193.1 bt193.2))) else (some (([] : List (S58)), ([] : List (S58)), false)))
theorem spec_LevelArms.mono_l : ∀ k, (∀ y0 y1 y2 y3 y4 y5, LeO (spec_LevelArms.l0 k y0 y1 y2 y3 y4 y5) (spec_LevelArms.l0 (k + 1) y0 y1 y2 y3 y4 y5))
 | 0 => fun _ _ _ _ _ _ r h => by simp [spec_LevelArms.l0] at h
 | k + 1 => by
  have ih0 := spec_LevelArms.mono_l k
  ·
   intro y0 y1 y2 y3 y4 y5
   unfold spec_LevelArms.l0
   repeat' first
   | (with_reducible exact ih0 _ _ _ _ _ _)
   | (with_reducible exact spec_l5Good.mono _ _ _)
   | (with_reducible exact spec_l5Weights.mono _ _ _)
   | (with_reducible exact LeO.refl _)
   | (with_reducible exact LeO.none _)
   | (with_reducible refine LeO.ite ?_ ?_)
   | (with_reducible refine LeO.bind ?_ (fun _ => ?_))
   | exact ih0 _ _ _ _ _ _
   | exact spec_l5Good.mono _ _ _
   | exact spec_l5Weights.mono _ _ _
   | exact LeO.none _
   | refine LeO.ite ?_ ?_
   | refine LeO.bind ?_ (fun _ => ?_)
theorem spec_LevelArms.mono : ∀ a0 a1 k, LeO (spec_LevelArms.f k a0 a1) (spec_LevelArms.f (k + 1) a0 a1) := by
 intro a0 a1 k
 have ih0 := spec_LevelArms.mono_l k
 unfold spec_LevelArms.f
 repeat' first
   | (with_reducible exact ih0 _ _ _ _ _ _)
   | (with_reducible exact spec_l5Good.mono _ _ _)
   | (with_reducible exact spec_l5Weights.mono _ _ _)
   | (with_reducible exact LeO.refl _)
   | (with_reducible exact LeO.none _)
   | (with_reducible refine LeO.ite ?_ ?_)
   | (with_reducible refine LeO.bind ?_ (fun _ => ?_))
   | exact ih0 _ _ _ _ _ _
   | exact spec_l5Good.mono _ _ _
   | exact spec_l5Weights.mono _ _ _
   | exact LeO.none _
   | refine LeO.ite ?_ ?_
   | refine LeO.bind ?_ (fun _ => ?_)
def spec_LevelArms.T7 : Bool × List (List Nat × List Nat) := (true, [([], []), ([0], [0]), ([], []), ([1, 2], [1, 2]), ([3], [3]), ([4], [4]), ([], []), ([6], [6]), ([], []), ([7, 8], [7, 8]), ([9], [9]), ([10], [10]), ([5, 11], [5, 11]), ([12, 0, 1, 2, 3, 4, 5, 6, 7, 8, 9, 10, 11, 12], [12])])
def spec_LevelArms.B7 : List Nat := [0, 1, 0, 7, 15, 31, 0, 64, 0, 448, 960, 1984, 4095, 8191]
theorem spec_LevelArms.tab7 : rtab .any (opsOf Try.f37 7) = spec_LevelArms.T7 := by kernel_rfl
theorem spec_LevelArms.bits7 : waitsOk spec_LevelArms.T7.2 spec_LevelArms.B7 = true := by kernel_rfl
def spec_LevelArms.T11 : Bool × List (List Nat × List Nat) := (true, [([], []), ([0], [0]), ([], []), ([], []), ([], []), ([], []), ([4, 5], [4, 5]), ([6], [6]), ([3, 7], [3, 7]), ([], []), ([], []), ([], []), ([], []), ([11, 12], [11, 12]), ([13], [13]), ([10, 14], [10, 14]), ([9, 15], [9, 15]), ([8, 16], [8, 16]), ([1, 2, 0, 1, 2, 3, 4, 5, 6, 7, 8, 9, 10, 11, 12, 13, 14, 15, 16, 17], [1, 2]), ([18, 17, 0, 1, 2, 3, 4, 5, 6, 7, 8, 9, 10, 11, 12, 13, 14, 15, 16, 17], [17, 18])])
def spec_LevelArms.B11 : List Nat := [0, 1, 0, 0, 0, 0, 48, 112, 248, 0, 0, 0, 0, 6144, 14336, 31744, 65024, 131064, 262143, 524287]
theorem spec_LevelArms.tab11 : rtab .any (opsOf Try.f37 11) = spec_LevelArms.T11 := by kernel_rfl
theorem spec_LevelArms.bits11 : waitsOk spec_LevelArms.T11.2 spec_LevelArms.B11 = true := by kernel_rfl
set_option maxHeartbeats 8000000 in
set_option maxRecDepth 100000 in
theorem spec_LevelArms.calls (k : Nat) (A0_0 : Option Addr) (c0_0 : Nat) (l0_0 : List (S58)) (A0_1 : Option Addr) (c0_1 : Nat) (l0_1 : List (S58)) (r1 : List (S58)) (r2 : List (S58)) (r3 : Bool) (w : World) (hr0_0 : Kd.C k58 w A0_0 l0_0.length l0_0) (hc0_0 : l0_0.length ≤ c0_0) (hr0_1 : Kd.C k58 w A0_1 l0_1.length l0_1) (hc0_1 : l0_1.length ≤ c0_1) (h : spec_LevelArms.f k l0_0 l0_1 = some (r1, r2, r3)) :
  Calls Try.prog 37 #[.agg #[.slice A0_0 l0_0.length c0_0, .slice A0_1 l0_1.length c0_1]] w fun e w' => ∃ v0_ v1_ : Value, e = .returned (.tuple #[.agg #[v0_, v1_], .bool r3]) ∧ Kd.R k58 58 w' w.heap.size (fun k_ => some k_ ≠ (v1_ : Value).ownBlock) v0_ r1 ∧ Kd.R k58 58 w' w.heap.size (fun k_ => some k_ ≠ (v0_ : Value).ownBlock) v1_ r2 ∧ Below w.heap.size w w' := by
 have hu27 := Try.underlying27
 have hu58 := Try.underlying58
 have HR0_0 := Aside0.mk hr0_0
 have HC0_0 := Aside0.mk hc0_0
 clear hr0_0 hc0_0
 have HR0_1 := Aside0.mk hr0_1
 have HC0_1 := Aside0.mk hc0_1
 clear hr0_1 hc0_1
 have HB := Aside0.mk (Below.refl w.heap.size w)
 have H : ((spec_l5Good.f k l0_0 l0_1).bind fun t192 => (if t192 = true then ((spec_l5Own.f l0_0 l0_1).bind fun bt193 => ((spec_l5Weights.f k l0_0 l0_1).bind fun t199 => (spec_LevelArms.l0 k t199 0 l0_0 l0_1 bt193.1 bt193.2))) else (some (([] : List (S58)), ([] : List (S58)), false)))) = some (r1, r2, r3) := h
 clear h
 replace H := Option.bind_eq_some_iff.mp H
 obtain ⟨t192, A20, H⟩ := H
 replace H : (if t192 = true then ((spec_l5Own.f l0_0 l0_1).bind fun bt193 => ((spec_l5Weights.f k l0_0 l0_1).bind fun t199 => (spec_LevelArms.l0 k t199 0 l0_0 l0_1 bt193.1 bt193.2))) else (some (([] : List (S58)), ([] : List (S58)), false))) = some (r1, r2, r3) := H
 have A2 := Aside0.mk A20
 clear A20
 by_cases c3 : t192 = true
 ·
  subst c3
  have H1 : ((spec_l5Own.f l0_0 l0_1).bind fun bt193 => ((spec_l5Weights.f k l0_0 l0_1).bind fun t199 => (spec_LevelArms.l0 k t199 0 l0_0 l0_1 bt193.1 bt193.2))) = some (r1, r2, r3) := by rw [if_pos rfl] at H; exact H
  clear H
  have H := H1
  clear H1
  replace H := Option.bind_eq_some_iff.mp H
  obtain ⟨⟨t193, t196⟩, A40, H⟩ := H
  replace H : ((spec_l5Weights.f k l0_0 l0_1).bind fun t199 => (spec_LevelArms.l0 k t199 0 l0_0 l0_1 t193 t196)) = some (r1, r2, r3) := H
  have A4 := Aside0.mk A40
  clear A40
  replace H := Option.bind_eq_some_iff.mp H
  obtain ⟨t199, A50, H⟩ := H
  replace H : (spec_LevelArms.l0 k t199 0 l0_0 l0_1 t193 t196) = some (r1, r2, r3) := H
  have A5 := Aside0.mk A50
  clear A50
  have H' := Aside0.mk H
  clear H
  go_enter Try.func37, Try.ntmps37
  try go_wp2_with (first | ((with_reducible refine gate_dst (N := 1) rfl ?_); refine box_event ?hg (N := 1) ?hd (cs := #[.slice A0_0 l0_0.length c0_0, .slice A0_1 l0_1.length c0_1]) (t := 27) ?hr ?_; (case hd => rfl); (case hg => rfl); (case hr => first | (go_simp; done) | (go_simp; rfl)); intro gb190 hg w6 hbox hb; have BK190 := Aside0.mk (hbox); have GW190 := Aside0.mk (bS HB.out hg); have GE190 := Aside0.mk (bS HB.out hg); replace HB := Aside0.mk (below_step (tB HB.out) hb); clear hb hbox hg) | ((with_reducible refine gate_dst (N := 2) rfl ?_); refine box_event ?hg (N := 2) ?hd (cs := #[.slice none 0 0, .slice none 0 0]) (t := 27) ?hr ?_; (case hd => rfl); (case hg => rfl); (case hr => first | (go_simp; done) | (go_simp; rfl)); intro gb191 hg w7 hbox hb; have BK191 := Aside0.mk (hbox); have GW191 := Aside0.mk (bS HB.out hg); have GE191 := Aside0.mk (bS HB.out hg); replace HB := Aside0.mk (below_step (tB HB.out) hb); have NB190_191 := Aside0.mk (nL BK190.out hg); have NB191_190 := Aside0.mk (nG BK190.out hg); replace BK190 := bkB BK190 hb; clear hb hbox hg; have hnb8 := NB190_191.out; have hnc8 := NB191_190.out; obtain ⟨hcz9_0, hfz9_0, hcz9_1, hfz9_1⟩ := cz2 BK190) | ((with_reducible refine gate_callee (f := 52) rfl ?_); refine goesL_ (some 10) rfl rfl Try.func52 (by kernel_rfl) rfl #[.agg #[.slice A0_0 l0_0.length c0_0, .slice A0_1 l0_1.length c0_1]] rfl tM ?_; (with_reducible refine (spec_l5Good.calls k _ _ l0_0 _ _ l0_1 true _ ?side1 ?side2 ?side3 ?side4 A2.out).mono ?_); (case side1 => exact tC (Kd.C_below HR0_0.out HB.out)); (case side2 => exact HC0_0.out); (case side3 => exact tC (Kd.C_below HR0_1.out HB.out)); (case side4 => exact HC0_1.out); rintro e w10 ⟨rfl, hb⟩; refine ⟨_, rfl, ?_⟩; replace BK190 := bkB BK190 hb; replace BK191 := bkB BK191 hb; replace HB := Aside0.mk (below_step (tB HB.out) hb); (try clear hb); (try clear hb2); (try clear hk); (try clear hi)))
  replace BK190 := Aside0.mk (blk_drew BK190.out)
  replace BK191 := Aside0.mk (blk_drew BK191.out)
  replace HB := Aside0.mk (below_drew1 HB.out)
  refine start_ (n := 7) (S := fun w' => w'.cell? ⟨gb190, 0, none⟩ = some (.slice A0_0 l0_0.length c0_0) ∧ w'.cell? ⟨gb190, 1, none⟩ = some (.slice A0_1 l0_1.length c0_1)) (ds := []) #[false, false, false, false, false, false, false] (by kernel_rfl) rfl rfl ⟨(blk_cell BK190.out 0).trans rfl, (blk_cell BK190.out 1).trans rfl⟩ (fun hHeld => ?_)
  generalize w10.drew = w11 at BK190 BK191 HB hHeld ⊢
  refine take_ (i := 0) (N := some 13) (v := ?_) (a' := ?_) #[true, false, false, false, false, false, false] rfl rfl (by kernel_rfl) (fun _ _ _ h => h) (Or.inl ⟨by rfl, ?_⟩) hHeld ?_ ?_
  rotate_left
  ·
   rintro w' ⟨s0, s1⟩
   go_simp
   with_reducible rfl
  rotate_left
  ·
   simp only [Act.put, List.setIfInBounds_toArray, List.set_cons_zero, List.set_cons_succ, i64_w, i32_w]
   rfl
  refine take_ (i := 2) (N := some 15) (v := ?_) (a' := ?_) #[true, false, true, false, false, false, false] rfl rfl (by kernel_rfl) (fun _ _ _ h => h) (Or.inl ⟨by rfl, ?_⟩) hHeld ?_ ?_
  rotate_left
  ·
   rintro w' ⟨s0, s1⟩
   go_simp
   with_reducible rfl
  rotate_left
  ·
   simp only [Act.put, List.setIfInBounds_toArray, List.set_cons_zero, List.set_cons_succ, i64_w, i32_w]
   rfl
  refine join_ (σ := Value × Value × Value × Nat) 2 #[true, true, true, true, true, false, false] (fun s_ => [(14, .agg #[s_.1, s_.2.1]), (16, s_.2.2.1), (4, .pointer (some ⟨s_.2.2.2, 0, none⟩))]) (fun s_ w' => (w'.cell? ⟨gb190, 0, none⟩ = some (.slice A0_0 l0_0.length c0_0) ∧ w'.cell? ⟨gb190, 1, none⟩ = some (.slice A0_1 l0_1.length c0_1)) ∧ (Kd.R k58 58 w' w.heap.size (fun k_ => some k_ ≠ (s_.2.1 : Value).ownBlock) s_.1 t193) ∧ (Kd.R k58 58 w' w.heap.size (fun k_ => some k_ ≠ (s_.1 : Value).ownBlock) s_.2.1 t196) ∧ (Kd.R (Kd.int .i64) 3 w' w.heap.size (fun _ => True) s_.2.2.1 t199) ∧ (w'.heap[gb190]? = some (.cells #[.slice A0_0 l0_0.length c0_0, .slice A0_1 l0_1.length c0_1] 27 (0, 0))) ∧ (w'.heap[gb191]? = some (.cells #[.slice none 0 0, .slice none 0 0] 27 (0, 0))) ∧ (w'.heap[s_.2.2.2]? = some (.cells #[.slice none 0 0, .slice none 0 0] 27 (0, 0))) ∧ (w.heap.size ≤ s_.2.2.2) ∧ (w.heap.size ≤ s_.2.2.2) ∧ (gb190 ≠ s_.2.2.2) ∧ (s_.2.2.2 ≠ gb190) ∧ (gb191 ≠ s_.2.2.2) ∧ (s_.2.2.2 ≠ gb191) ∧ (Below w.heap.size w w')) ?_ ?_
  rotate_left
  ·
   intro hCont
   refine two_ (i := 1) (j := 4) (Ni := some 14) (Nj := some 4) #[true, true, true, false, false, false, false] #[true, false, true, false, true, false, false] rfl rfl rfl rfl (by kernel_rfl) (by decide) (by decide) (fun K hK => ?_) (fun K hK => ?_)
   ·
    skip
    refine goes_ Try.func73 (by kernel_rfl) rfl #[.agg #[.slice A0_0 l0_0.length c0_0, .slice A0_1 l0_1.length c0_1]] (by rfl) rfl rfl tM ?_
    with_reducible refine (spec_l5Own.calls _ _ l0_0 _ _ l0_1 t193 t196 _ ?side1 ?side2 ?side3 ?side4 A4.out).mono ?_
    (case side1 => exact tC (Kd.C_below HR0_0.out HB.out))
    (case side2 => exact HC0_0.out)
    (case side3 => exact tC (Kd.C_below HR0_1.out HB.out))
    (case side4 => exact HC0_1.out)
    rintro e w12 ⟨v194, v197, rfl, ho0, ho1, hb⟩
    refine ⟨_, rfl, ?_⟩
    have HO195 := Aside0.mk (Kd.R_lower ho0 (below_size (tB HB.out)))
    have HO198 := Aside0.mk (Kd.R_lower ho1 (below_size (tB HB.out)))
    replace BK190 := bkB BK190 hb
    replace BK191 := bkB BK191 hb
    replace HB := Aside0.mk (below_step (tB HB.out) hb)
    (try clear hb)
    (try clear hb2)
    (try clear hk)
    (try clear hi)
    (try clear ho0)
    (try clear ho1)
    refine hK.out _ _ ⟨(blk_cell BK190.out 0).trans rfl, (blk_cell BK190.out 1).trans rfl⟩ (fun hHeld => ?_)
    clear hK K
    refine norm_ (a' := ?_) ?_ ?_
    rotate_left
    ·
     show Act.put _ (some 14) _ = _
     simp only [Act.put, List.setIfInBounds_toArray, List.set_cons_zero, List.set_cons_succ, i64_w, i32_w]
     rfl
    refine two_ (i := 3) (j := 4) (Ni := some 16) (Nj := some 4) #[true, true, true, true, false, false, false] #[true, true, true, false, true, false, false] rfl rfl rfl rfl (by kernel_rfl) (by decide) (by decide) (fun K hK => ?_) (fun K hK => ?_)
    ·
     skip
     refine goes_ Try.func61 (by kernel_rfl) rfl #[.agg #[.slice A0_0 l0_0.length c0_0, .slice A0_1 l0_1.length c0_1]] (by rfl) rfl rfl tM ?_
     with_reducible refine (spec_l5Weights.calls k _ _ l0_0 _ _ l0_1 t199 _ ?side1 ?side2 ?side3 ?side4 A5.out).mono ?_
     (case side1 => exact tC (Kd.C_below HR0_0.out HB.out))
     (case side2 => exact HC0_0.out)
     (case side3 => exact tC (Kd.C_below HR0_1.out HB.out))
     (case side4 => exact HC0_1.out)
     rintro e w13 ⟨v200, rfl, ho0, hb⟩
     refine ⟨_, rfl, ?_⟩
     replace HO195 := Aside0.mk (Kd.R_below (tR HO195.out) hb)
     replace HO198 := Aside0.mk (Kd.R_below (tR HO198.out) hb)
     have HO201 := Aside0.mk (Kd.R_lower ho0 (below_size (tB HB.out)))
     replace BK190 := bkB BK190 hb
     replace BK191 := bkB BK191 hb
     replace HB := Aside0.mk (below_step (tB HB.out) hb)
     (try clear hb)
     (try clear hb2)
     (try clear hk)
     (try clear hi)
     (try clear ho0)
     refine hK.out _ _ ⟨(blk_cell BK190.out 0).trans rfl, (blk_cell BK190.out 1).trans rfl⟩ (fun hHeld => ?_)
     clear hK K
     refine norm_ (a' := ?_) ?_ ?_
     rotate_left
     ·
      show Act.put _ (some 16) _ = _
      simp only [Act.put, List.setIfInBounds_toArray, List.set_cons_zero, List.set_cons_succ, i64_w, i32_w]
      rfl
     refine one_ (i := 4) (N := some 4) #[true, true, true, true, true, false, false] rfl rfl (by kernel_rfl) (by decide) (fun K hK => ?_)
     refine box_step ?hg (N := 4) ?hd (cs := #[.slice none 0 0, .slice none 0 0]) (t := 27) ?hr ?_; (case hd => rfl); (case hg => rfl); (case hr => first | (go_simp; done) | (go_simp; rfl))
     intro gb202 hg w14 hbox hb
     replace HO195 := Aside0.mk (Kd.R_below (tR HO195.out) hb)
     replace HO198 := Aside0.mk (Kd.R_below (tR HO198.out) hb)
     replace HO201 := Aside0.mk (Kd.R_below (tR HO201.out) hb)
     have BK202 := Aside0.mk (hbox)
     have GW202 := Aside0.mk (bS HB.out hg)
     have GE202 := Aside0.mk (bS HB.out hg)
     replace HB := Aside0.mk (below_step (tB HB.out) hb)
     have NB190_202 := Aside0.mk (nL BK190.out hg)
     have NB202_190 := Aside0.mk (nG BK190.out hg)
     replace BK190 := bkB BK190 hb
     have NB191_202 := Aside0.mk (nL BK191.out hg)
     have NB202_191 := Aside0.mk (nG BK191.out hg)
     replace BK191 := bkB BK191 hb
     clear hb hbox hg
     refine hK.out _ _ ⟨(blk_cell BK190.out 0).trans rfl, (blk_cell BK190.out 1).trans rfl⟩ (fun hHeld => ?_)
     clear hK K
     refine norm_ (a' := ?_) ?_ ?_
     rotate_left
     ·
      show Act.put _ (some 4) _ = _
      simp only [Act.put, List.setIfInBounds_toArray, List.set_cons_zero, List.set_cons_succ, i64_w, i32_w]
      rfl
     exact norm_ (by simp only [putAll, Act.put, List.setIfInBounds_toArray, List.set_cons_zero, List.set_cons_succ]) (hCont (v194, v197, v200, gb202) _ ⟨hHeld, (tR HO195.out), (tR HO198.out), (tR HO201.out), (tK BK190.out), (tK BK191.out), (tK BK202.out), GW202.out, GE202.out, NB190_202.out, NB202_190.out, NB191_202.out, NB202_191.out, (tB HB.out)⟩)
    ·
     skip
     refine box_step ?hg (N := 4) ?hd (cs := #[.slice none 0 0, .slice none 0 0]) (t := 27) ?hr ?_; (case hd => rfl); (case hg => rfl); (case hr => first | (go_simp; done) | (go_simp; rfl))
     intro gb202 hg w13 hbox hb
     replace HO195 := Aside0.mk (Kd.R_below (tR HO195.out) hb)
     replace HO198 := Aside0.mk (Kd.R_below (tR HO198.out) hb)
     have BK202 := Aside0.mk (hbox)
     have GW202 := Aside0.mk (bS HB.out hg)
     have GE202 := Aside0.mk (bS HB.out hg)
     replace HB := Aside0.mk (below_step (tB HB.out) hb)
     have NB190_202 := Aside0.mk (nL BK190.out hg)
     have NB202_190 := Aside0.mk (nG BK190.out hg)
     replace BK190 := bkB BK190 hb
     have NB191_202 := Aside0.mk (nL BK191.out hg)
     have NB202_191 := Aside0.mk (nG BK191.out hg)
     replace BK191 := bkB BK191 hb
     clear hb hbox hg
     refine hK.out _ _ ⟨(blk_cell BK190.out 0).trans rfl, (blk_cell BK190.out 1).trans rfl⟩ (fun hHeld => ?_)
     clear hK K
     refine norm_ (a' := ?_) ?_ ?_
     rotate_left
     ·
      show Act.put _ (some 4) _ = _
      simp only [Act.put, List.setIfInBounds_toArray, List.set_cons_zero, List.set_cons_succ, i64_w, i32_w]
      rfl
     refine one_ (i := 3) (N := some 16) #[true, true, true, true, true, false, false] rfl rfl (by kernel_rfl) (by decide) (fun K hK => ?_)
     refine goes_ Try.func61 (by kernel_rfl) rfl #[.agg #[.slice A0_0 l0_0.length c0_0, .slice A0_1 l0_1.length c0_1]] (by rfl) rfl rfl tM ?_
     with_reducible refine (spec_l5Weights.calls k _ _ l0_0 _ _ l0_1 t199 _ ?side1 ?side2 ?side3 ?side4 A5.out).mono ?_
     (case side1 => exact tC (Kd.C_below HR0_0.out HB.out))
     (case side2 => exact HC0_0.out)
     (case side3 => exact tC (Kd.C_below HR0_1.out HB.out))
     (case side4 => exact HC0_1.out)
     rintro e w14 ⟨v200, rfl, ho0, hb⟩
     refine ⟨_, rfl, ?_⟩
     replace HO195 := Aside0.mk (Kd.R_below (tR HO195.out) hb)
     replace HO198 := Aside0.mk (Kd.R_below (tR HO198.out) hb)
     have HO201 := Aside0.mk (Kd.R_lower ho0 (below_size (tB HB.out)))
     replace BK190 := bkB BK190 hb
     replace BK191 := bkB BK191 hb
     replace BK202 := bkB BK202 hb
     replace HB := Aside0.mk (below_step (tB HB.out) hb)
     (try clear hb)
     (try clear hb2)
     (try clear hk)
     (try clear hi)
     (try clear ho0)
     refine hK.out _ _ ⟨(blk_cell BK190.out 0).trans rfl, (blk_cell BK190.out 1).trans rfl⟩ (fun hHeld => ?_)
     clear hK K
     refine norm_ (a' := ?_) ?_ ?_
     rotate_left
     ·
      show Act.put _ (some 16) _ = _
      simp only [Act.put, List.setIfInBounds_toArray, List.set_cons_zero, List.set_cons_succ, i64_w, i32_w]
      rfl
     exact norm_ (by simp only [putAll, Act.put, List.setIfInBounds_toArray, List.set_cons_zero, List.set_cons_succ]) (hCont (v194, v197, v200, gb202) _ ⟨hHeld, (tR HO195.out), (tR HO198.out), (tR HO201.out), (tK BK190.out), (tK BK191.out), (tK BK202.out), GW202.out, GE202.out, NB190_202.out, NB202_190.out, NB191_202.out, NB202_191.out, (tB HB.out)⟩)
   ·
    skip
    refine box_step ?hg (N := 4) ?hd (cs := #[.slice none 0 0, .slice none 0 0]) (t := 27) ?hr ?_; (case hd => rfl); (case hg => rfl); (case hr => first | (go_simp; done) | (go_simp; rfl))
    intro gb202 hg w12 hbox hb
    have BK202 := Aside0.mk (hbox)
    have GW202 := Aside0.mk (bS HB.out hg)
    have GE202 := Aside0.mk (bS HB.out hg)
    replace HB := Aside0.mk (below_step (tB HB.out) hb)
    have NB190_202 := Aside0.mk (nL BK190.out hg)
    have NB202_190 := Aside0.mk (nG BK190.out hg)
    replace BK190 := bkB BK190 hb
    have NB191_202 := Aside0.mk (nL BK191.out hg)
    have NB202_191 := Aside0.mk (nG BK191.out hg)
    replace BK191 := bkB BK191 hb
    clear hb hbox hg
    refine hK.out _ _ ⟨(blk_cell BK190.out 0).trans rfl, (blk_cell BK190.out 1).trans rfl⟩ (fun hHeld => ?_)
    clear hK K
    refine norm_ (a' := ?_) ?_ ?_
    rotate_left
    ·
     show Act.put _ (some 4) _ = _
     simp only [Act.put, List.setIfInBounds_toArray, List.set_cons_zero, List.set_cons_succ, i64_w, i32_w]
     rfl
    refine one_ (i := 1) (N := some 14) #[true, true, true, false, true, false, false] rfl rfl (by kernel_rfl) (by decide) (fun K hK => ?_)
    refine goes_ Try.func73 (by kernel_rfl) rfl #[.agg #[.slice A0_0 l0_0.length c0_0, .slice A0_1 l0_1.length c0_1]] (by rfl) rfl rfl tM ?_
    with_reducible refine (spec_l5Own.calls _ _ l0_0 _ _ l0_1 t193 t196 _ ?side1 ?side2 ?side3 ?side4 A4.out).mono ?_
    (case side1 => exact tC (Kd.C_below HR0_0.out HB.out))
    (case side2 => exact HC0_0.out)
    (case side3 => exact tC (Kd.C_below HR0_1.out HB.out))
    (case side4 => exact HC0_1.out)
    rintro e w13 ⟨v194, v197, rfl, ho0, ho1, hb⟩
    refine ⟨_, rfl, ?_⟩
    have HO195 := Aside0.mk (Kd.R_lower ho0 (below_size (tB HB.out)))
    have HO198 := Aside0.mk (Kd.R_lower ho1 (below_size (tB HB.out)))
    replace BK190 := bkB BK190 hb
    replace BK191 := bkB BK191 hb
    replace BK202 := bkB BK202 hb
    replace HB := Aside0.mk (below_step (tB HB.out) hb)
    (try clear hb)
    (try clear hb2)
    (try clear hk)
    (try clear hi)
    (try clear ho0)
    (try clear ho1)
    refine hK.out _ _ ⟨(blk_cell BK190.out 0).trans rfl, (blk_cell BK190.out 1).trans rfl⟩ (fun hHeld => ?_)
    clear hK K
    refine norm_ (a' := ?_) ?_ ?_
    rotate_left
    ·
     show Act.put _ (some 14) _ = _
     simp only [Act.put, List.setIfInBounds_toArray, List.set_cons_zero, List.set_cons_succ, i64_w, i32_w]
     rfl
    refine one_ (i := 3) (N := some 16) #[true, true, true, true, true, false, false] rfl rfl (by kernel_rfl) (by decide) (fun K hK => ?_)
    refine goes_ Try.func61 (by kernel_rfl) rfl #[.agg #[.slice A0_0 l0_0.length c0_0, .slice A0_1 l0_1.length c0_1]] (by rfl) rfl rfl tM ?_
    with_reducible refine (spec_l5Weights.calls k _ _ l0_0 _ _ l0_1 t199 _ ?side1 ?side2 ?side3 ?side4 A5.out).mono ?_
    (case side1 => exact tC (Kd.C_below HR0_0.out HB.out))
    (case side2 => exact HC0_0.out)
    (case side3 => exact tC (Kd.C_below HR0_1.out HB.out))
    (case side4 => exact HC0_1.out)
    rintro e w14 ⟨v200, rfl, ho0, hb⟩
    refine ⟨_, rfl, ?_⟩
    replace HO195 := Aside0.mk (Kd.R_below (tR HO195.out) hb)
    replace HO198 := Aside0.mk (Kd.R_below (tR HO198.out) hb)
    have HO201 := Aside0.mk (Kd.R_lower ho0 (below_size (tB HB.out)))
    replace BK190 := bkB BK190 hb
    replace BK191 := bkB BK191 hb
    replace BK202 := bkB BK202 hb
    replace HB := Aside0.mk (below_step (tB HB.out) hb)
    (try clear hb)
    (try clear hb2)
    (try clear hk)
    (try clear hi)
    (try clear ho0)
    refine hK.out _ _ ⟨(blk_cell BK190.out 0).trans rfl, (blk_cell BK190.out 1).trans rfl⟩ (fun hHeld => ?_)
    clear hK K
    refine norm_ (a' := ?_) ?_ ?_
    rotate_left
    ·
     show Act.put _ (some 16) _ = _
     simp only [Act.put, List.setIfInBounds_toArray, List.set_cons_zero, List.set_cons_succ, i64_w, i32_w]
     rfl
    exact norm_ (by simp only [putAll, Act.put, List.setIfInBounds_toArray, List.set_cons_zero, List.set_cons_succ]) (hCont (v194, v197, v200, gb202) _ ⟨hHeld, (tR HO195.out), (tR HO198.out), (tR HO201.out), (tK BK190.out), (tK BK191.out), (tK BK202.out), GW202.out, GE202.out, NB190_202.out, NB202_190.out, NB191_202.out, NB202_191.out, (tB HB.out)⟩)
  rintro ⟨v194, v197, v200, gb202⟩ w15 ⟨hS_, h0_, h1_, h2_, h3_, h4_, h5_, h6_, h7_, h8_, h9_, h10_, h11_, h12_⟩
  have n0_ : Aside0 (Kd.R k58 58 w15 w.heap.size (fun k_ => some k_ ≠ (v197 : Value).ownBlock) v194 t193) := ⟨h0_⟩
  have n1_ : Aside0 (Kd.R k58 58 w15 w.heap.size (fun k_ => some k_ ≠ (v194 : Value).ownBlock) v197 t196) := ⟨h1_⟩
  have n2_ : Aside0 (Kd.R (Kd.int .i64) 3 w15 w.heap.size (fun _ => True) v200 t199) := ⟨h2_⟩
  have n3_ : Aside0 (w15.heap[gb190]? = some (.cells #[.slice A0_0 l0_0.length c0_0, .slice A0_1 l0_1.length c0_1] 27 (0, 0))) := ⟨h3_⟩
  have n4_ : Aside0 (w15.heap[gb191]? = some (.cells #[.slice none 0 0, .slice none 0 0] 27 (0, 0))) := ⟨h4_⟩
  have n5_ : Aside0 (w15.heap[gb202]? = some (.cells #[.slice none 0 0, .slice none 0 0] 27 (0, 0))) := ⟨h5_⟩
  have n6_ : Aside0 (w.heap.size ≤ gb202) := ⟨h6_⟩
  have n7_ : Aside0 (w.heap.size ≤ gb202) := ⟨h7_⟩
  have n8_ : Aside0 (gb190 ≠ gb202) := ⟨h8_⟩
  have n9_ : Aside0 (gb202 ≠ gb190) := ⟨h9_⟩
  have n10_ : Aside0 (gb191 ≠ gb202) := ⟨h10_⟩
  have n11_ : Aside0 (gb202 ≠ gb191) := ⟨h11_⟩
  have n12_ : Aside0 (Below w.heap.size w w15) := ⟨h12_⟩
  clear BK190
  clear BK191
  clear HB
  clear h0_ h1_ h2_ h3_ h4_ h5_ h6_ h7_ h8_ h9_ h10_ h11_ h12_
  have HO195 := n0_
  have HO198 := n1_
  have HO201 := n2_
  have BK190 := n3_
  have BK191 := n4_
  have BK202 := n5_
  have GW202 := n6_
  have GE202 := n7_
  have NB190_202 := n8_
  have NB202_190 := n9_
  have NB191_202 := n10_
  have NB202_191 := n11_
  have HB := n12_
  clear n0_ n1_ n2_ n3_ n4_ n5_ n6_ n7_ n8_ n9_ n10_ n11_ n12_
  have hHeld : w15.cell? ⟨gb190, 0, none⟩ = some (.slice A0_0 l0_0.length c0_0) ∧ w15.cell? ⟨gb190, 1, none⟩ = some (.slice A0_1 l0_1.length c0_1) := hS_
  obtain ⟨Ao16, co16, eo16⟩ := Kd.R_slice HO195.out
  (first | subst eo16 | (injection eo16 with f1_ f2_ f3_; have f4_ := f1_.symm; have f5_ := f3_.symm; clear f1_ f2_ f3_; subst f4_; subst f5_))
  obtain ⟨Ao18, co18, eo18⟩ := Kd.R_slice HO198.out
  (first | subst eo18 | (injection eo18 with f1_ f2_ f3_; have f4_ := f1_.symm; have f5_ := f3_.symm; clear f1_ f2_ f3_; subst f4_; subst f5_))
  refine norm_ (a' := ?_) ?_ ?_
  rotate_left
  ·
   simp only [putAll, Act.put, List.setIfInBounds_toArray, List.set_cons_zero, List.set_cons_succ]
   rfl
  refine one_ (i := 5) (N := none) #[true, true, true, true, true, true, false] rfl rfl (by kernel_rfl) (by decide) (fun K hK => ?_)
  have hs17 : w15.cell? ⟨gb202, 0, none⟩ = some (.slice none 0 0) := (blk_cell BK202.out 0).trans rfl
  have hfs17 := blk_frozen BK202.out 0
  have hns17_0 := NB190_202.out
  have hns17_1 := NB191_202.out
  have hms17_0 := NB202_190.out
  have hms17_1 := NB202_191.out
  have hs19 : w15.cell? ⟨gb202, 1, none⟩ = some (.slice none 0 0) := (blk_cell BK202.out 1).trans rfl
  have hfs19 := blk_frozen BK202.out 1
  have hns19_0 := NB190_202.out
  have hns19_1 := NB191_202.out
  have hms19_0 := NB202_190.out
  have hms19_1 := NB202_191.out
  refine skip_ (w1 := ?_) (by rfl) rfl ?_ ?_
  rotate_left
  ·
   go_simp
   rfl
  refine hK.out _ _ ⟨((cell_far (p := ⟨gb202, _, none⟩) NB190_202.out _).trans (((cell_far (p := ⟨gb202, _, none⟩) NB190_202.out _).trans (hHeld.1)))), ((cell_far (p := ⟨gb202, _, none⟩) NB190_202.out _).trans (((cell_far (p := ⟨gb202, _, none⟩) NB190_202.out _).trans (hHeld.2))))⟩ (fun hHeld => ?_)
  clear hK K
  refine pure_ (i := 6) (N := some 5) (v := ?_) (a' := ?_) #[true, true, true, true, true, true, true] rfl rfl (by kernel_rfl) (fun _ _ _ h => h) (Or.inl ⟨by rfl, ?_⟩) ?_ ?_
  rotate_left
  ·
   intro w'
   go_simp
   with_reducible rfl
  rotate_left
  ·
   simp only [Act.put, List.setIfInBounds_toArray, List.set_cons_zero, List.set_cons_succ, i64_w, i32_w]
   rfl
  refine done_ (by kernel_rfl) ?_
  try go_wp2
  go_loopg [6] k (fun kq v6 w' => ∃ (x6_1 : Int) (x203000_1 : List (S58)) (x203001_1 : List (S58)) (u203000 : Value) (u203001 : Value), v6 = .int .i64 x6_1 ∧ Aside0 (spec_LevelArms.l0 kq t199 x6_1 l0_0 l0_1 x203000_1 x203001_1 = some (r1, r2, r3)) ∧ Aside0 (kq ≤ k) ∧ Aside0 (Kd.R (Kd.int .i64) 3 w' w.heap.size (fun _ => True) v200 t199) ∧ Aside0 (Kd.R k58 58 w' w.heap.size (fun k_ => some k_ ≠ (u203001 : Value).ownBlock) u203000 x203000_1) ∧ Aside0 (Kd.R k58 58 w' w.heap.size (fun k_ => some k_ ≠ (u203000 : Value).ownBlock) u203001 x203001_1) ∧ Aside0 (w'.heap[gb190]? = some (.cells #[(.slice A0_0 l0_0.length c0_0), (.slice A0_1 l0_1.length c0_1)] 27 (0, 0))) ∧ Aside0 (w'.heap[gb191]? = some (.cells #[(.slice none 0 0), (.slice none 0 0)] 27 (0, 0))) ∧ Aside0 (w'.heap[gb202]? = some (.cells #[u203000, u203001] 27 (0, 0))) ∧ Aside0 (Below w.heap.size w w'))
  case atStart => exact ⟨(0), (t193), (t196), (.slice Ao16 t193.length co16), (.slice Ao18 t196.length co18), (by first | rfl | (simp; done) | (simp [wrap64]; done) | (simp [*]; done)), H', ⟨Nat.le_refl _⟩, ⟨by (with_reducible repeat (first | apply Kd.R_alloc | apply Kd.R_drewN | apply Kd.R_drew)); exact Kd.R_mono (Kd.R_far (p := ⟨gb202, 1, none⟩) (Kd.R_far (p := ⟨gb202, 0, none⟩) (Kd.R_types HO201.out BK202.out (by decide)) (fun _ hk => hk.2) (.slice Ao16 t193.length co16)) (fun _ hk => hk.2) (.slice Ao18 t196.length co18)) (fun _ hk => trivial)⟩, ⟨by (with_reducible repeat (first | apply Kd.R_alloc | apply Kd.R_drewN | apply Kd.R_drew)); exact Kd.R_mono (Kd.R_far (p := ⟨gb202, 1, none⟩) (Kd.R_far (p := ⟨gb202, 0, none⟩) (Kd.R_types HO195.out BK202.out (by decide)) (fun _ hk => hk.2) (.slice Ao16 t193.length co16)) (fun _ hk => hk.2) (.slice Ao18 t196.length co18)) (fun _ hk => hk.1)⟩, ⟨by (with_reducible repeat (first | apply Kd.R_alloc | apply Kd.R_drewN | apply Kd.R_drew)); exact Kd.R_mono (Kd.R_far (p := ⟨gb202, 1, none⟩) (Kd.R_far (p := ⟨gb202, 0, none⟩) (Kd.R_types HO198.out BK202.out (by decide)) (fun _ hk => hk.2) (.slice Ao16 t193.length co16)) (fun _ hk => hk.2) (.slice Ao18 t196.length co18)) (fun _ hk => hk.1)⟩, ⟨by (with_reducible repeat (first | refine blk_drewN ?_ _ | refine blk_drew ?_ | refine blk_alloc ?_ _)); refine blk_far ?_ NB190_202.out _; (with_reducible repeat (first | refine blk_drewN ?_ _ | refine blk_drew ?_ | refine blk_alloc ?_ _)); refine blk_far ?_ NB190_202.out _; (with_reducible repeat (first | refine blk_drewN ?_ _ | refine blk_drew ?_ | refine blk_alloc ?_ _)); exact BK190.out⟩, ⟨by (with_reducible repeat (first | refine blk_drewN ?_ _ | refine blk_drew ?_ | refine blk_alloc ?_ _)); refine blk_far ?_ NB191_202.out _; (with_reducible repeat (first | refine blk_drewN ?_ _ | refine blk_drew ?_ | refine blk_alloc ?_ _)); refine blk_far ?_ NB191_202.out _; (with_reducible repeat (first | refine blk_drewN ?_ _ | refine blk_drew ?_ | refine blk_alloc ?_ _)); exact BK191.out⟩, ⟨by (with_reducible repeat (first | refine blk_drewN ?_ _ | refine blk_drew ?_ | refine blk_alloc ?_ _)); refine blk_put (cs := #[.slice Ao16 t193.length co16, .slice none 0 0]) ?_ 1 _ rfl; (with_reducible repeat (first | refine blk_drewN ?_ _ | refine blk_drew ?_ | refine blk_alloc ?_ _)); refine blk_put (cs := #[.slice none 0 0, .slice none 0 0]) ?_ 0 _ rfl; (with_reducible repeat (first | refine blk_drewN ?_ _ | refine blk_drew ?_ | refine blk_alloc ?_ _)); exact BK202.out⟩, ⟨tB HB.out⟩⟩
  case round =>
   clear H'
   try clear p2
   try clear c3
   try clear c5
   try clear c6
   try clear p6
   try clear c7
   try clear c8
   try clear hcz9_0
   try clear hcz9_1
   try clear hfz9_0
   try clear hfz9_1
   obtain ⟨x6_1, x203000_1, x203001_1, u203000, u203001, rfl, HA, HK1, HO_5, HO_203000, HO_203001, BK190, BK191, BK202, HB⟩ := hrel
   cases gk with
   | zero => exact absurd HA.out (by simp [spec_LevelArms.l0])
   | succ k1 =>
    have H := HA.out
    clear HA
    simp only [spec_LevelArms.l0] at H
    by_cases c20 : x6_1 < (l0_0.length : Int)
    ·
     rw [if_pos c20] at H
     have c20b0 : decide (x6_1 < (l0_0.length : Int)) = true := decide_eq_true c20
     clear c20
     by_cases c21 : 0 ≤ x6_1
     ·
      rw [if_pos c21] at H
      have c21b0 : decide (0 ≤ x6_1) = true := decide_eq_true c21
      clear c21
      by_cases c22 : x6_1 < (l0_1.length : Int)
      ·
       rw [if_pos c22] at H
       have c22b0 : decide (x6_1 < (l0_1.length : Int)) = true := decide_eq_true c22
       clear c22
       replace H := Option.bind_eq_some_iff.mp H
       obtain ⟨t206, A230, H⟩ := H
       replace H : (if x6_1 < (t199.length : Int) then (if (rd t199 x6_1) = 0 then (none) else (if (Int.tmod (wrap64 ((wrap64 (((rd_T58 l0_0 x6_1).f0) + ((rd_T58 l0_0 x6_1).f1))) * t206)) (rd t199 x6_1)) = 0 then (if x6_1 < (x203000_1.length : Int) then (spec_LevelArms.l0 k1 t199 (wrap64 (x6_1 + 1)) l0_0 l0_1 (x203000_1.set (x6_1 : Int).toNat (⟨wrap64 (Int.tdiv (wrap64 ((wrap64 (((rd_T58 l0_0 x6_1).f0) + ((rd_T58 l0_0 x6_1).f1))) * t206)) (rd t199 x6_1)), wrap64 ((wrap64 (((rd_T58 l0_0 x6_1).f0) + ((rd_T58 l0_0 x6_1).f1))) - (wrap64 (Int.tdiv (wrap64 ((wrap64 (((rd_T58 l0_0 x6_1).f0) + ((rd_T58 l0_0 x6_1).f1))) * t206)) (rd t199 x6_1))))⟩ : S58)) x203001_1) else (none)) else (some (([] : List (S58)), ([] : List (S58)), false)))) else (none)) = some (r1, r2, r3) := H
       have A23 := Aside0.mk A230
       clear A230
       by_cases c24 : x6_1 < (t199.length : Int)
       ·
        rw [if_pos c24] at H
        have c24b0 : decide (x6_1 < (t199.length : Int)) = true := decide_eq_true c24
        clear c24
        by_cases c25 : (rd t199 x6_1) = 0
        ·
         rw [if_pos c25] at H
         exact absurd H (by simp)
        ·
         rw [if_neg c25] at H
         have c25b0 : ((rd t199 x6_1) == 0) = false := beq_eq_false_iff_ne.mpr c25
         have c25b1 : ((rd t199 x6_1) != 0) = true := bne_iff_ne.mpr c25
         by_cases c26 : (Int.tmod (wrap64 ((wrap64 (((rd_T58 l0_0 x6_1).f0) + ((rd_T58 l0_0 x6_1).f1))) * t206)) (rd t199 x6_1)) = 0
         ·
          rw [if_pos c26] at H
          have c26b0 : ((Int.tmod (wrap64 ((wrap64 (((rd_T58 l0_0 x6_1).f0) + ((rd_T58 l0_0 x6_1).f1))) * t206)) (rd t199 x6_1)) == 0) = true := beq_iff_eq.mpr c26
          have c26b1 : ((Int.tmod (wrap64 ((wrap64 (((rd_T58 l0_0 x6_1).f0) + ((rd_T58 l0_0 x6_1).f1))) * t206)) (rd t199 x6_1)) != 0) = false := bne_eq_false_iff_eq.mpr c26
          clear c26
          by_cases c27 : x6_1 < (x203000_1.length : Int)
          ·
           rw [if_pos c27] at H
           have c27b0 : decide (x6_1 < (x203000_1.length : Int)) = true := decide_eq_true c27
           clear c27
           obtain ⟨y210, hy210⟩ : ∃ y_ : List (S58), y_ = (x203000_1.set (x6_1 : Int).toNat (⟨wrap64 (Int.tdiv (wrap64 ((wrap64 (((rd_T58 l0_0 x6_1).f0) + ((rd_T58 l0_0 x6_1).f1))) * t206)) (rd t199 x6_1)), wrap64 ((wrap64 (((rd_T58 l0_0 x6_1).f0) + ((rd_T58 l0_0 x6_1).f1))) - (wrap64 (Int.tdiv (wrap64 ((wrap64 (((rd_T58 l0_0 x6_1).f0) + ((rd_T58 l0_0 x6_1).f1))) * t206)) (rd t199 x6_1))))⟩ : S58)) := ⟨_, rfl⟩
           replace H : (spec_LevelArms.l0 k1 t199 (wrap64 (x6_1 + 1)) l0_0 l0_1 y210 x203001_1) = some (r1, r2, r3) := by first | (rw [hy210]; with_reducible exact H) | (have H2_ := (Option.bind_some _ _).symm.trans H; rw [hy210]; with_reducible exact H2_) | (have H2_ := (Option.bind_some _ _).symm.trans H; with_reducible exact H2_) | with_reducible exact H | (rw [hy210]; exact H) | exact H
           have Ny210 := Aside0.mk hy210
           clear hy210
           have H' := Aside0.mk H
           clear H
           have hnb29 := NB190_191.out
           have hnc29 := NB191_190.out
           have hnb30 := NB190_202.out
           have hnc30 := NB202_190.out
           obtain ⟨hcz31_0, hfz31_0, hcz31_1, hfz31_1⟩ := cz2 BK190
           try go_wp2
           replace HO_5 := Aside0.mk (Kd.R_drew HO_5.out)
           replace HO_203000 := Aside0.mk (Kd.R_drew HO_203000.out)
           replace HO_203001 := Aside0.mk (Kd.R_drew HO_203001.out)
           replace BK190 := Aside0.mk (blk_drew BK190.out)
           replace BK191 := Aside0.mk (blk_drew BK191.out)
           replace BK202 := Aside0.mk (blk_drew BK202.out)
           replace HB := Aside0.mk (below_drew1 HB.out)
           have p203 : 0 ≤ (x6_1 : Int) := of_decide_eq_true (by first | (with_reducible assumption) | assumption)
           have q203 : x6_1 < (l0_0.length : Int) := of_decide_eq_true (by first | (with_reducible assumption) | assumption)
           obtain ⟨ad203, e203, hx203_0, hx203_1⟩ := at_T58 HR0_0.out x6_1 p203 q203
           have hw203_1 := hx203_1
           have hw203_0 := hx203_0
           cases e203
           replace hx203_0 := (HB.out.cell (World.block_lt_of_cell? w _ hx203_0)).trans hx203_0
           replace hx203_1 := (HB.out.cell (World.block_lt_of_cell? w _ hx203_1)).trans hx203_1
           replace p203 := eq_true p203
           replace q203 := eq_true q203
           have p204 : 0 ≤ (x6_1 : Int) := of_decide_eq_true (by first | (with_reducible assumption) | assumption)
           have q204 : x6_1 < (l0_0.length : Int) := of_decide_eq_true (by first | (with_reducible assumption) | assumption)
           obtain ⟨ad204, e204, hx204_0, hx204_1⟩ := at_T58 HR0_0.out x6_1 p204 q204
           have hw204_1 := hx204_1
           have hw204_0 := hx204_0
           obtain rfl : ad203 = ad204 := (by injection e204)
           replace hx204_0 := (HB.out.cell (World.block_lt_of_cell? w _ hx204_0)).trans hx204_0
           replace hx204_1 := (HB.out.cell (World.block_lt_of_cell? w _ hx204_1)).trans hx204_1
           replace p204 := eq_true p204
           replace q204 := eq_true q204
           refine start_ (n := 14) (S := fun w' => w'.cell? ⟨gb190, 0, none⟩ = some (.slice (some ad203) l0_0.length c0_0) ∧ w'.cell? ⟨gb190, 1, none⟩ = some (.slice A0_1 l0_1.length c0_1) ∧ w'.cell? (ad203.add ((x6_1).toNat * 2)) = some (.int .i64 ((rd_T58 l0_0 x6_1).f0)) ∧ w'.cell? ⟨(ad203.add ((x6_1).toNat * 2)).block, (ad203.add ((x6_1).toNat * 2)).off + 1, none⟩ = some (.int .i64 ((rd_T58 l0_0 x6_1).f1)) ∧ w'.cell? (ad203.add ((x6_1).toNat * 2)) = some (.int .i64 ((rd_T58 l0_0 x6_1).f0)) ∧ w'.cell? ⟨(ad203.add ((x6_1).toNat * 2)).block, (ad203.add ((x6_1).toNat * 2)).off + 1, none⟩ = some (.int .i64 ((rd_T58 l0_0 x6_1).f1))) (ds := []) #[false, false, false, false, false, false, false, false, false, false, false, false, false, false] (by kernel_rfl) rfl rfl ⟨(blk_cell BK190.out 0).trans rfl, (blk_cell BK190.out 1).trans rfl, ((HB.out.cell (World.block_lt_of_cell? w _ hw203_0)).trans hw203_0), ((HB.out.cell (World.block_lt_of_cell? w _ hw203_1)).trans hw203_1), ((HB.out.cell (World.block_lt_of_cell? w _ hw204_0)).trans hw204_0), ((HB.out.cell (World.block_lt_of_cell? w _ hw204_1)).trans hw204_1)⟩ (fun hHeld => ?_); refine with_tabW spec_LevelArms.tab7 spec_LevelArms.bits7 (fun HT_ HW_ => ?_)
           generalize wr.drew = w32 at HO_5 HO_203000 HO_203001 BK190 BK191 BK202 HB hx203_0 hx203_1 hx204_0 hx204_1 hHeld ⊢
           refine pure_ (i := 0) (N := some 24) (v := ?_) (a' := ?_) #[true, false, false, false, false, false, false, false, false, false, false, false, false, false] rfl rfl (any_of HT_.out (by kernel_rfl)) (fun _ _ _ h => h) (Or.inl ⟨by rfl, ?_⟩) ?_ ?_
           rotate_left
           ·
            intro w'
            go_simp
            with_reducible rfl
           rotate_left
           ·
            simp only [Act.put, List.setIfInBounds_toArray, List.set_cons_zero, List.set_cons_succ, i64_w, i32_w]
            rfl
           refine pure_ (i := 2) (N := some 26) (v := ?_) (a' := ?_) #[true, false, true, false, false, false, false, false, false, false, false, false, false, false] rfl rfl (any_of HT_.out (by kernel_rfl)) (fun _ _ _ h => h) (Or.inl ⟨by rfl, ?_⟩) ?_ ?_
           rotate_left
           ·
            intro w'
            go_simp
            with_reducible rfl
           rotate_left
           ·
            simp only [Act.put, List.setIfInBounds_toArray, List.set_cons_zero, List.set_cons_succ, i64_w, i32_w]
            rfl
           refine pure_ (i := 6) (N := some 30) (v := ?_) (a' := ?_) #[true, false, true, false, false, false, true, false, false, false, false, false, false, false] rfl rfl (any_of HT_.out (by kernel_rfl)) (fun _ _ _ h => h) (Or.inl ⟨by rfl, ?_⟩) ?_ ?_
           rotate_left
           ·
            intro w'
            go_simp
            with_reducible rfl
           rotate_left
           ·
            simp only [Act.put, List.setIfInBounds_toArray, List.set_cons_zero, List.set_cons_succ, i64_w, i32_w]
            rfl
           refine pure_ (i := 8) (N := some 32) (v := ?_) (a' := ?_) #[true, false, true, false, false, false, true, false, true, false, false, false, false, false] rfl rfl (any_of HT_.out (by kernel_rfl)) (fun _ _ _ h => h) (Or.inl ⟨by rfl, ?_⟩) ?_ ?_
           rotate_left
           ·
            intro w'
            go_simp
            with_reducible rfl
           rotate_left
           ·
            simp only [Act.put, List.setIfInBounds_toArray, List.set_cons_zero, List.set_cons_succ, i64_w, i32_w]
            rfl
           refine take_ (i := 1) (N := some 25) (v := ?_) (a' := ?_) #[true, true, true, false, false, false, true, false, true, false, false, false, false, false] rfl rfl (take_ofW HT_.out HW_.out (by kernel_rfl)) (fun _ _ _ h => h) (Or.inl ⟨by rfl, ?_⟩) hHeld ?_ ?_
           rotate_left
           ·
            rintro w' ⟨s0, s1, s2, s3, s4, s5⟩
            go_simp
            with_reducible rfl
           rotate_left
           ·
            simp only [Act.put, List.setIfInBounds_toArray, List.set_cons_zero, List.set_cons_succ, i64_w, i32_w]
            rfl
           refine pure_ (i := 3) (N := some 27) (v := ?_) (a' := ?_) #[true, true, true, true, false, false, true, false, true, false, false, false, false, false] rfl rfl (any_of HT_.out (by kernel_rfl)) (fun _ _ _ h => h) (Or.inl ⟨by rfl, ?_⟩) ?_ ?_
           rotate_left
           ·
            intro w'
            go_simp
            with_reducible rfl
           rotate_left
           ·
            simp only [Act.put, List.setIfInBounds_toArray, List.set_cons_zero, List.set_cons_succ, i64_w, i32_w]
            rfl
           refine pure_ (i := 4) (N := some 28) (v := ?_) (a' := ?_) #[true, true, true, true, true, false, true, false, true, false, false, false, false, false] rfl rfl (any_of HT_.out (by kernel_rfl)) (fun _ _ _ h => h) (Or.inl ⟨by rfl, ?_⟩) ?_ ?_
           rotate_left
           ·
            intro w'
            go_simp
            with_reducible rfl
           rotate_left
           ·
            simp only [Act.put, List.setIfInBounds_toArray, List.set_cons_zero, List.set_cons_succ, i64_w, i32_w]
            rfl
           refine take_ (i := 5) (N := some 29) (v := ?_) (a' := ?_) #[true, true, true, true, true, true, true, false, true, false, false, false, false, false] rfl rfl (take_ofW HT_.out HW_.out (by kernel_rfl)) (fun _ _ _ h => h) (Or.inl ⟨by rfl, ?_⟩) hHeld ?_ ?_
           rotate_left
           ·
            rintro w' ⟨s0, s1, s2, s3, s4, s5⟩
            go_simp
            with_reducible rfl
           rotate_left
           ·
            simp only [Act.put, List.setIfInBounds_toArray, List.set_cons_zero, List.set_cons_succ, i64_w, i32_w]
            rfl
           refine take_ (i := 7) (N := some 31) (v := ?_) (a' := ?_) #[true, true, true, true, true, true, true, true, true, false, false, false, false, false] rfl rfl (take_ofW HT_.out HW_.out (by kernel_rfl)) (fun _ _ _ h => h) (Or.inl ⟨by rfl, ?_⟩) hHeld ?_ ?_
           rotate_left
           ·
            rintro w' ⟨s0, s1, s2, s3, s4, s5⟩
            go_simp
            with_reducible rfl
           rotate_left
           ·
            simp only [Act.put, List.setIfInBounds_toArray, List.set_cons_zero, List.set_cons_succ, i64_w, i32_w]
            rfl
           refine pure_ (i := 9) (N := some 33) (v := ?_) (a' := ?_) #[true, true, true, true, true, true, true, true, true, true, false, false, false, false] rfl rfl (any_of HT_.out (by kernel_rfl)) (fun _ _ _ h => h) (Or.inl ⟨by rfl, ?_⟩) ?_ ?_
           rotate_left
           ·
            intro w'
            go_simp
            with_reducible rfl
           rotate_left
           ·
            simp only [Act.put, List.setIfInBounds_toArray, List.set_cons_zero, List.set_cons_succ, i64_w, i32_w]
            rfl
           refine pure_ (i := 10) (N := some 34) (v := ?_) (a' := ?_) #[true, true, true, true, true, true, true, true, true, true, true, false, false, false] rfl rfl (any_of HT_.out (by kernel_rfl)) (fun _ _ _ h => h) (Or.inl ⟨by rfl, ?_⟩) ?_ ?_
           rotate_left
           ·
            intro w'
            go_simp
            with_reducible rfl
           rotate_left
           ·
            simp only [Act.put, List.setIfInBounds_toArray, List.set_cons_zero, List.set_cons_succ, i64_w, i32_w]
            rfl
           refine take_ (i := 11) (N := some 35) (v := ?_) (a' := ?_) #[true, true, true, true, true, true, true, true, true, true, true, true, false, false] rfl rfl (take_ofW HT_.out HW_.out (by kernel_rfl)) (fun _ _ _ h => h) (Or.inl ⟨by rfl, ?_⟩) hHeld ?_ ?_
           rotate_left
           ·
            rintro w' ⟨s0, s1, s2, s3, s4, s5⟩
            go_simp
            with_reducible rfl
           rotate_left
           ·
            simp only [Act.put, List.setIfInBounds_toArray, List.set_cons_zero, List.set_cons_succ, i64_w, i32_w]
            rfl
           refine pure_ (i := 12) (N := some 36) (v := ?_) (a' := ?_) #[true, true, true, true, true, true, true, true, true, true, true, true, true, false] rfl rfl (any_of HT_.out (by kernel_rfl)) (fun _ _ _ h => h) (Or.inl ⟨by rfl, ?_⟩) ?_ ?_
           rotate_left
           ·
            intro w'
            go_simp
            with_reducible rfl
           rotate_left
           ·
            simp only [Act.put, List.setIfInBounds_toArray, List.set_cons_zero, List.set_cons_succ, i64_w, i32_w]
            rfl
           refine pure_ (i := 13) (N := some 7) (v := ?_) (a' := ?_) #[true, true, true, true, true, true, true, true, true, true, true, true, true, true] rfl rfl (any_of HT_.out (by kernel_rfl)) (fun _ _ _ h => h) (Or.inl ⟨by rfl, ?_⟩) ?_ ?_
           rotate_left
           ·
            intro w'
            go_simp
            with_reducible rfl
           rotate_left
           ·
            simp only [Act.put, List.setIfInBounds_toArray, List.set_cons_zero, List.set_cons_succ, i64_w, i32_w]
            rfl
           refine done_ (done_of HT_.out (by kernel_rfl)) ?_
           obtain ⟨hcz33_0, hfz33_0, hcz33_1, hfz33_1⟩ := cz2 BK190
           have p205 : 0 ≤ (x6_1 : Int) := of_decide_eq_true (by first | (with_reducible assumption) | assumption)
           have q205 : x6_1 < (l0_1.length : Int) := of_decide_eq_true (by first | (with_reducible assumption) | assumption)
           obtain ⟨ad205, e205, hx205_0, hx205_1⟩ := at_T58 HR0_1.out x6_1 p205 q205
           cases e205
           replace hx205_0 := (HB.out.cell (World.block_lt_of_cell? w _ hx205_0)).trans hx205_0
           replace hx205_1 := (HB.out.cell (World.block_lt_of_cell? w _ hx205_1)).trans hx205_1
           replace p205 := eq_true p205
           replace q205 := eq_true q205
           obtain ⟨Ao34, co34, eo34⟩ := Kd.R_slice HO_5.out
           subst eo34
           try go_wp2_with (first | ((with_reducible refine gate_callee (f := 60) rfl ?_); refine goesL_ (some 45) rfl rfl Try.func60 (by kernel_rfl) rfl #[.int .i64 ((rd_T58 l0_1 x6_1).f1), .slice Ao34 t199.length co34] rfl tM ?_; (with_reducible refine (spec_l5At.calls ((rd_T58 l0_1 x6_1).f1) _ _ t199 t206 _ ?side1 ?side2 A23.out).mono ?_); (case side1 => exact tC (Kd.R_reads' HO_5.out).2.2); (case side2 => exact (Kd.R_reads' HO_5.out).2.1); rintro e w' ⟨rfl, ⟨nd, rfl⟩⟩; refine ⟨_, rfl, ?_⟩; (try (rw [drewN_self w32]; generalize hq_ : World.drewN w32 _ = w32; have n0_ : Aside0 (Kd.R k58 58 w32 w.heap.size (fun k_ => some k_ ≠ (u203001 : Value).ownBlock) u203000 x203000_1) := ⟨by rw [← hq_]; exact (tR HO_203000.out)⟩; have n1_ : Aside0 (Kd.R k58 58 w32 w.heap.size (fun k_ => some k_ ≠ (u203000 : Value).ownBlock) u203001 x203001_1) := ⟨by rw [← hq_]; exact (tR HO_203001.out)⟩; have n2_ : Aside0 (Kd.R (Kd.int .i64) 3 w32 w.heap.size (fun _ => True) (.slice Ao34 t199.length co34) t199) := ⟨by rw [← hq_]; exact (tR HO_5.out)⟩; have n3_ : Aside0 (w32.heap[gb190]? = some (.cells #[.slice (some ad203) l0_0.length c0_0, .slice (some ad205) l0_1.length c0_1] 27 (0, 0))) := ⟨by rw [← hq_]; exact (tK BK190.out)⟩; have n4_ : Aside0 (w32.heap[gb191]? = some (.cells #[.slice none 0 0, .slice none 0 0] 27 (0, 0))) := ⟨by rw [← hq_]; exact (tK BK191.out)⟩; have n5_ : Aside0 (w32.heap[gb202]? = some (.cells #[u203000, u203001] 27 (0, 0))) := ⟨by rw [← hq_]; exact (tK BK202.out)⟩; have n6_ : Aside0 (Below w.heap.size w w32) := ⟨by rw [← hq_]; exact (tB HB.out)⟩; clear HO_203000 HO_203001 HO_5 BK190 BK191 BK202 HB hq_; have HO_203000 := n0_; have HO_203001 := n1_; have HO_5 := n2_; have BK190 := n3_; have BK191 := n4_; have BK202 := n5_; have HB := n6_; clear n0_ n1_ n2_ n3_ n4_ n5_ n6_)); have p207 : 0 ≤ (x6_1 : Int) := of_decide_eq_true (by first | (with_reducible assumption) | assumption); have q207 : x6_1 < (t199.length : Int) := of_decide_eq_true (by first | (with_reducible assumption) | assumption); obtain ⟨ad207, e207, hx207_0⟩ := Kd.at_int (Kd.R_reads' HO_5.out).2.2 x6_1 p207 q207; cases e207; replace p207 := eq_true p207; replace q207 := eq_true q207))
           replace HO_5 := Aside0.mk (Kd.R_drew HO_5.out)
           replace HO_203000 := Aside0.mk (Kd.R_drew HO_203000.out)
           replace HO_203001 := Aside0.mk (Kd.R_drew HO_203001.out)
           replace BK190 := Aside0.mk (blk_drew BK190.out)
           replace BK191 := Aside0.mk (blk_drew BK191.out)
           replace BK202 := Aside0.mk (blk_drew BK202.out)
           replace HB := Aside0.mk (below_drew1 HB.out)
           have p208 : 0 ≤ (x6_1 : Int) := of_decide_eq_true (by first | (with_reducible assumption) | assumption)
           have q208 : x6_1 < (t199.length : Int) := of_decide_eq_true (by first | (with_reducible assumption) | assumption)
           obtain ⟨ad208, e208, hx208_0⟩ := Kd.at_int (Kd.R_reads' HO_5.out).2.2 x6_1 p208 q208
           obtain rfl : ad207 = ad208 := (by injection e208)
           replace p208 := eq_true p208
           replace q208 := eq_true q208
           have p209 : 0 ≤ (x6_1 : Int) := of_decide_eq_true (by first | (with_reducible assumption) | assumption)
           have q209 : x6_1 < (t199.length : Int) := of_decide_eq_true (by first | (with_reducible assumption) | assumption)
           obtain ⟨ad209, e209, hx209_0⟩ := Kd.at_int (Kd.R_reads' HO_5.out).2.2 x6_1 p209 q209
           obtain rfl : ad207 = ad209 := (by injection e209)
           replace p209 := eq_true p209
           replace q209 := eq_true q209
           have p28 : 0 ≤ (x6_1 : Int) := of_decide_eq_true (by first | (with_reducible assumption) | assumption)
           have q28 : (x6_1 : Int) < ((x203000_1.length : Int) : Int) := of_decide_eq_true (by first | (with_reducible assumption) | assumption)
           obtain ⟨go28, co28, eo28, gb28, gl28, cl28, HG28⟩ := Kd.R_form HO_203000.out (by omega)
           (first | cases eo28 | (injection eo28 with ea_ en_ ec_; (first | subst ea_ | (injection ea_ with ea_; subst ea_)); subst ec_; clear en_))
           have GB28 := Aside0.mk gb28
           have GG28 := Aside0.mk HG28
           clear gb28 gl28 HG28
           obtain ⟨ce28, hcl28, hM28, hcc28, hfr28⟩ := Kd.R_elem HO_203000.out z58 (x6_1 : Int) p28 q28
           obtain rfl := k58_openM hM28
           have hx28_0 : World.cell? _ ⟨go28, (x6_1 : Int).toNat * 2, none⟩ = some (.int .i64 ((rd_T58 x203000_1 x6_1).f0)) := hcc28 0 _ rfl
           have hx28_1 : World.cell? _ ⟨go28, (x6_1 : Int).toNat * 2 + 1, none⟩ = some (.int .i64 ((rd_T58 x203000_1 x6_1).f1)) := hcc28 1 _ rfl
           have hf28_0 : World.frozen? _ ⟨go28, (x6_1 : Int).toNat * 2, none⟩ = false := hfr28 0
           have hf28_1 : World.frozen? _ ⟨go28, (x6_1 : Int).toNat * 2 + 1, none⟩ = false := hfr28 1
           clear hcl28 hcc28 hfr28 hM28
           replace p28 := eq_true p28
           replace q28 := eq_true q28
           obtain ⟨ce36, hcl36, hM36, hcc36, hfr36⟩ := Kd.R_elem HO_203000.out z58 (x6_1 : Int) (of_decide_eq_true (by first | (with_reducible assumption) | assumption)) (by have h_ : (x6_1 : Int) < ((x203000_1.length : Int) : Int) := of_decide_eq_true (by first | (with_reducible assumption) | assumption); first | exact h_ | (have e_ := (Kd.R_reads' HO_203000.out).1; omega) | simpa using h_)
           obtain rfl := k58_openM hM36
           have HP36 := (Kd.R_seg HO_203000.out (x6_1 : Int) (of_decide_eq_true (by first | (with_reducible assumption) | assumption)) (by have h_ : (x6_1 : Int) < ((x203000_1.length : Int) : Int) := of_decide_eq_true (by first | (with_reducible assumption) | assumption); first | exact h_ | (have e_ := (Kd.R_reads' HO_203000.out).1; omega) | simpa using h_) (seg := [.int .i64 (wrap64 (Int.tdiv (wrap64 ((wrap64 (((rd_T58 l0_0 x6_1).f0) + ((rd_T58 l0_0 x6_1).f1))) * t206)) (rd t199 x6_1))), .int .i64 (wrap64 ((wrap64 (((rd_T58 l0_0 x6_1).f0) + ((rd_T58 l0_0 x6_1).f1))) - (wrap64 (Int.tdiv (wrap64 ((wrap64 (((rd_T58 l0_0 x6_1).f0) + ((rd_T58 l0_0 x6_1).f1))) * t206)) (rd t199 x6_1)))))]) (j := 0) hcl36 hcc36 (show 2 ≤ 2 from by decide) (x' := (⟨wrap64 (Int.tdiv (wrap64 ((wrap64 (((rd_T58 l0_0 x6_1).f0) + ((rd_T58 l0_0 x6_1).f1))) * t206)) (rd t199 x6_1)), wrap64 ((wrap64 (((rd_T58 l0_0 x6_1).f0) + ((rd_T58 l0_0 x6_1).f1))) - (wrap64 (Int.tdiv (wrap64 ((wrap64 (((rd_T58 l0_0 x6_1).f0) + ((rd_T58 l0_0 x6_1).f1))) * t206)) (rd t199 x6_1))))⟩ : S58)) (k58_mkM _ _ _ (⟨wrap64 (Int.tdiv (wrap64 ((wrap64 (((rd_T58 l0_0 x6_1).f0) + ((rd_T58 l0_0 x6_1).f1))) * t206)) (rd t199 x6_1)), wrap64 ((wrap64 (((rd_T58 l0_0 x6_1).f0) + ((rd_T58 l0_0 x6_1).f1))) - (wrap64 (Int.tdiv (wrap64 ((wrap64 (((rd_T58 l0_0 x6_1).f0) + ((rd_T58 l0_0 x6_1).f1))) * t206)) (rd t199 x6_1))))⟩ : S58) ) (fun _ hk => hk)).1
           rw [← Ny210.out] at HP36
           have HQ36 := Aside0.mk HP36
           clear hcl36 hcc36 hfr36 hM36 HP36
           refine start_ (n := 20) (S := fun w' => w'.cell? ⟨gb202, 0, none⟩ = some (.slice (some ⟨go28, 0, none⟩) x203000_1.length co28) ∧ w'.cell? ⟨gb202, 1, none⟩ = some (u203001) ∧ w'.cell? (ad207.add (x6_1).toNat) = some (.int .i64 (rd t199 x6_1)) ∧ w'.cell? (ad207.add (x6_1).toNat) = some (.int .i64 (rd t199 x6_1))) (ds := [19]) #[false, false, false, false, false, false, false, false, false, false, false, false, false, false, false, false, false, false, false, false] (by kernel_rfl) rfl rfl ⟨(blk_cell BK202.out 0).trans rfl, (blk_cell BK202.out 1).trans rfl, hx208_0, hx209_0⟩ (fun hHeld => ?_); refine with_tabW spec_LevelArms.tab11 spec_LevelArms.bits11 (fun HT_ HW_ => ?_)
           generalize w32.drew = w35 at HO_5 HO_203000 HO_203001 BK190 BK191 BK202 HB GG28 HQ36 hf28_0 hf28_1 hx208_0 hx209_0 hx28_0 hx28_1 hHeld ⊢
           refine pure_ (i := 0) (N := some 55) (v := ?_) (a' := ?_) #[true, false, false, false, false, false, false, false, false, false, false, false, false, false, false, false, false, false, false, false] rfl rfl (any_of HT_.out (by kernel_rfl)) (fun _ _ _ h => h) (Or.inl ⟨by rfl, ?_⟩) ?_ ?_
           rotate_left
           ·
            intro w'
            go_simp
            with_reducible rfl
           rotate_left
           ·
            simp only [Act.put, List.setIfInBounds_toArray, List.set_cons_zero, List.set_cons_succ, i64_w, i32_w]
            rfl
           refine pure_ (i := 2) (N := some 57) (v := ?_) (a' := ?_) #[true, false, true, false, false, false, false, false, false, false, false, false, false, false, false, false, false, false, false, false] rfl rfl (any_of HT_.out (by kernel_rfl)) (fun _ _ _ h => h) (Or.inl ⟨by rfl, ?_⟩) ?_ ?_
           rotate_left
           ·
            intro w'
            go_simp
            with_reducible rfl
           rotate_left
           ·
            simp only [Act.put, List.setIfInBounds_toArray, List.set_cons_zero, List.set_cons_succ, i64_w, i32_w]
            rfl
           refine pure_ (i := 3) (N := some 58) (v := ?_) (a' := ?_) #[true, false, true, true, false, false, false, false, false, false, false, false, false, false, false, false, false, false, false, false] rfl rfl (any_of HT_.out (by kernel_rfl)) (fun _ _ _ h => h) (Or.inl ⟨by rfl, ?_⟩) ?_ ?_
           rotate_left
           ·
            intro w'
            go_simp
            with_reducible rfl
           rotate_left
           ·
            simp only [Act.put, List.setIfInBounds_toArray, List.set_cons_zero, List.set_cons_succ, i64_w, i32_w]
            rfl
           refine pure_ (i := 4) (N := some 59) (v := ?_) (a' := ?_) #[true, false, true, true, true, false, false, false, false, false, false, false, false, false, false, false, false, false, false, false] rfl rfl (any_of HT_.out (by kernel_rfl)) (fun _ _ _ h => h) (Or.inl ⟨by rfl, ?_⟩) ?_ ?_
           rotate_left
           ·
            intro w'
            go_simp
            with_reducible rfl
           rotate_left
           ·
            simp only [Act.put, List.setIfInBounds_toArray, List.set_cons_zero, List.set_cons_succ, i64_w, i32_w]
            rfl
           refine pure_ (i := 5) (N := some 60) (v := ?_) (a' := ?_) #[true, false, true, true, true, true, false, false, false, false, false, false, false, false, false, false, false, false, false, false] rfl rfl (any_of HT_.out (by kernel_rfl)) (fun _ _ _ h => h) (Or.inl ⟨by rfl, ?_⟩) ?_ ?_
           rotate_left
           ·
            intro w'
            go_simp
            with_reducible rfl
           rotate_left
           ·
            simp only [Act.put, List.setIfInBounds_toArray, List.set_cons_zero, List.set_cons_succ, i64_w, i32_w]
            rfl
           refine pure_ (i := 6) (N := some 61) (v := ?_) (a' := ?_) #[true, false, true, true, true, true, true, false, false, false, false, false, false, false, false, false, false, false, false, false] rfl rfl (any_of HT_.out (by kernel_rfl)) (fun _ _ _ h => h) (Or.inl ⟨by rfl, ?_⟩) ?_ ?_
           rotate_left
           ·
            intro w'
            go_simp
            with_reducible rfl
           rotate_left
           ·
            simp only [Act.put, List.setIfInBounds_toArray, List.set_cons_zero, List.set_cons_succ, i64_w, i32_w]
            rfl
           refine pure_ (i := 9) (N := some 64) (v := ?_) (a' := ?_) #[true, false, true, true, true, true, true, false, false, true, false, false, false, false, false, false, false, false, false, false] rfl rfl (any_of HT_.out (by kernel_rfl)) (fun _ _ _ h => h) (Or.inl ⟨by rfl, ?_⟩) ?_ ?_
           rotate_left
           ·
            intro w'
            go_simp
            with_reducible rfl
           rotate_left
           ·
            simp only [Act.put, List.setIfInBounds_toArray, List.set_cons_zero, List.set_cons_succ, i64_w, i32_w]
            rfl
           refine pure_ (i := 10) (N := some 65) (v := ?_) (a' := ?_) #[true, false, true, true, true, true, true, false, false, true, true, false, false, false, false, false, false, false, false, false] rfl rfl (any_of HT_.out (by kernel_rfl)) (fun _ _ _ h => h) (Or.inl ⟨by rfl, ?_⟩) ?_ ?_
           rotate_left
           ·
            intro w'
            go_simp
            with_reducible rfl
           rotate_left
           ·
            simp only [Act.put, List.setIfInBounds_toArray, List.set_cons_zero, List.set_cons_succ, i64_w, i32_w]
            rfl
           refine pure_ (i := 11) (N := some 66) (v := ?_) (a' := ?_) #[true, false, true, true, true, true, true, false, false, true, true, true, false, false, false, false, false, false, false, false] rfl rfl (any_of HT_.out (by kernel_rfl)) (fun _ _ _ h => h) (Or.inl ⟨by rfl, ?_⟩) ?_ ?_
           rotate_left
           ·
            intro w'
            go_simp
            with_reducible rfl
           rotate_left
           ·
            simp only [Act.put, List.setIfInBounds_toArray, List.set_cons_zero, List.set_cons_succ, i64_w, i32_w]
            rfl
           refine pure_ (i := 12) (N := some 67) (v := ?_) (a' := ?_) #[true, false, true, true, true, true, true, false, false, true, true, true, true, false, false, false, false, false, false, false] rfl rfl (any_of HT_.out (by kernel_rfl)) (fun _ _ _ h => h) (Or.inl ⟨by rfl, ?_⟩) ?_ ?_
           rotate_left
           ·
            intro w'
            go_simp
            with_reducible rfl
           rotate_left
           ·
            simp only [Act.put, List.setIfInBounds_toArray, List.set_cons_zero, List.set_cons_succ, i64_w, i32_w]
            rfl
           refine pure_ (i := 13) (N := some 68) (v := ?_) (a' := ?_) #[true, false, true, true, true, true, true, false, false, true, true, true, true, true, false, false, false, false, false, false] rfl rfl (any_of HT_.out (by kernel_rfl)) (fun _ _ _ h => h) (Or.inl ⟨by rfl, ?_⟩) ?_ ?_
           rotate_left
           ·
            intro w'
            go_simp
            with_reducible rfl
           rotate_left
           ·
            simp only [Act.put, List.setIfInBounds_toArray, List.set_cons_zero, List.set_cons_succ, i64_w, i32_w]
            rfl
           refine take_ (i := 1) (N := some 56) (v := ?_) (a' := ?_) #[true, true, true, true, true, true, true, false, false, true, true, true, true, true, false, false, false, false, false, false] rfl rfl (take_ofW HT_.out HW_.out (by kernel_rfl)) (fun _ _ _ h => h) (Or.inl ⟨by rfl, ?_⟩) hHeld ?_ ?_
           rotate_left
           ·
            rintro w' ⟨s0, s1, s2, s3⟩
            go_simp
            with_reducible rfl
           rotate_left
           ·
            simp only [Act.put, List.setIfInBounds_toArray, List.set_cons_zero, List.set_cons_succ, i64_w, i32_w]
            rfl
           refine take_ (i := 7) (N := some 62) (v := ?_) (a' := ?_) #[true, true, true, true, true, true, true, true, false, true, true, true, true, true, false, false, false, false, false, false] rfl rfl (take_ofW HT_.out HW_.out (by kernel_rfl)) (fun _ _ _ h => h) (Or.inl ⟨by rfl, ?_⟩) hHeld ?_ ?_
           rotate_left
           ·
            rintro w' ⟨s0, s1, s2, s3⟩
            go_simp
            with_reducible rfl
           rotate_left
           ·
            simp only [Act.put, List.setIfInBounds_toArray, List.set_cons_zero, List.set_cons_succ, i64_w, i32_w]
            rfl
           refine pure_ (i := 8) (N := some 63) (v := ?_) (a' := ?_) #[true, true, true, true, true, true, true, true, true, true, true, true, true, true, false, false, false, false, false, false] rfl rfl (any_of HT_.out (by kernel_rfl)) (fun _ _ _ h => h) (Or.inl ⟨by rfl, ?_⟩) ?_ ?_
           rotate_left
           ·
            intro w'
            go_simp
            with_reducible rfl
           rotate_left
           ·
            simp only [Act.put, List.setIfInBounds_toArray, List.set_cons_zero, List.set_cons_succ, i64_w, i32_w]
            rfl
           refine take_ (i := 14) (N := some 69) (v := ?_) (a' := ?_) #[true, true, true, true, true, true, true, true, true, true, true, true, true, true, true, false, false, false, false, false] rfl rfl (take_ofW HT_.out HW_.out (by kernel_rfl)) (fun _ _ _ h => h) (Or.inl ⟨by rfl, ?_⟩) hHeld ?_ ?_
           rotate_left
           ·
            rintro w' ⟨s0, s1, s2, s3⟩
            go_simp
            with_reducible rfl
           rotate_left
           ·
            simp only [Act.put, List.setIfInBounds_toArray, List.set_cons_zero, List.set_cons_succ, i64_w, i32_w]
            rfl
           refine pure_ (i := 15) (N := some 70) (v := ?_) (a' := ?_) #[true, true, true, true, true, true, true, true, true, true, true, true, true, true, true, true, false, false, false, false] rfl rfl (any_of HT_.out (by kernel_rfl)) (fun _ _ _ h => h) (Or.inl ⟨by rfl, ?_⟩) ?_ ?_
           rotate_left
           ·
            intro w'
            go_simp
            with_reducible rfl
           rotate_left
           ·
            simp only [Act.put, List.setIfInBounds_toArray, List.set_cons_zero, List.set_cons_succ, i64_w, i32_w]
            rfl
           refine pure_ (i := 16) (N := some 71) (v := ?_) (a' := ?_) #[true, true, true, true, true, true, true, true, true, true, true, true, true, true, true, true, true, false, false, false] rfl rfl (any_of HT_.out (by kernel_rfl)) (fun _ _ _ h => h) (Or.inl ⟨by rfl, ?_⟩) ?_ ?_
           rotate_left
           ·
            intro w'
            go_simp
            with_reducible rfl
           rotate_left
           ·
            simp only [Act.put, List.setIfInBounds_toArray, List.set_cons_zero, List.set_cons_succ, i64_w, i32_w]
            rfl
           refine pure_ (i := 17) (N := some 72) (v := ?_) (a' := ?_) #[true, true, true, true, true, true, true, true, true, true, true, true, true, true, true, true, true, true, false, false] rfl rfl (any_of HT_.out (by kernel_rfl)) (fun _ _ _ h => h) (Or.inl ⟨by rfl, ?_⟩) ?_ ?_
           rotate_left
           ·
            intro w'
            go_simp
            with_reducible rfl
           rotate_left
           ·
            simp only [Act.put, List.setIfInBounds_toArray, List.set_cons_zero, List.set_cons_succ, i64_w, i32_w]
            rfl
           refine pure_ (i := 18) (N := some 73) (v := ?_) (a' := ?_) #[true, true, true, true, true, true, true, true, true, true, true, true, true, true, true, true, true, true, true, false] rfl rfl (any_of HT_.out (by kernel_rfl)) (fun _ _ _ h => h) (Or.inl ⟨by rfl, ?_⟩) ?_ ?_
           rotate_left
           ·
            intro w'
            go_simp
            with_reducible rfl
           rotate_left
           ·
            simp only [Act.put, List.setIfInBounds_toArray, List.set_cons_zero, List.set_cons_succ, i64_w, i32_w]
            rfl
           refine last_ (i := 19) (N := none) #[true, true, true, true, true, true, true, true, true, true, true, true, true, true, true, true, true, true, true, true] rfl rfl (one_of HT_.out (by kernel_rfl)) (by decide) (fun K hK => ?_)
           refine skip_ (w1 := ?_) (by rfl) rfl ?_ ?_
           rotate_left
           ·
            go_simp
            rfl
           refine hK.out _ _ ?_
           clear hK K
           refine done_ (done_of HT_.out (by kernel_rfl)) ?_
           try go_wp2
           go_roundg k1
           case measure => have := HK1.out; omega
           case rel => exact ⟨(wrap64 (x6_1 + 1)), (y210), (x203001_1), (.slice (some ⟨go28, 0, none⟩) x203000_1.length co28), (u203001), (by first | rfl | (simp; done) | (simp [wrap64]; done) | (simp [*]; done)), H', ⟨by have := HK1.out; omega⟩, ⟨by (with_reducible repeat (first | apply Kd.R_alloc | apply Kd.R_drewN | apply Kd.R_drew)); exact Kd.R_mono (Kd.R_far (p := ⟨go28, (x6_1 : Int).toNat * 2 + 1, none⟩) (Kd.R_far (p := ⟨go28, (x6_1 : Int).toNat * 2, none⟩) (Kd.R_types HO_5.out GG28.out (by decide)) (fun _ hk => hk.2) (.int .i64 (wrap64 (Int.tdiv (wrap64 ((wrap64 (((rd_T58 l0_0 x6_1).f0) + ((rd_T58 l0_0 x6_1).f1))) * t206)) (rd t199 x6_1))))) (fun _ hk => hk.2) (.int .i64 (wrap64 ((wrap64 (((rd_T58 l0_0 x6_1).f0) + ((rd_T58 l0_0 x6_1).f1))) - (wrap64 (Int.tdiv (wrap64 ((wrap64 (((rd_T58 l0_0 x6_1).f0) + ((rd_T58 l0_0 x6_1).f1))) * t206)) (rd t199 x6_1))))))) (fun _ hk => trivial)⟩, ⟨tR HQ36.out⟩, ⟨by (with_reducible repeat (first | apply Kd.R_alloc | apply Kd.R_drewN | apply Kd.R_drew)); exact Kd.R_mono (Kd.R_far (p := ⟨go28, (x6_1 : Int).toNat * 2 + 1, none⟩) (Kd.R_far (p := ⟨go28, (x6_1 : Int).toNat * 2, none⟩) (Kd.R_mono HO_203001.out (fun k_ hk => (⟨hk, fun e_ => hk (by rw [e_]; rfl)⟩ : _ ∧ k_ ≠ go28))) (fun _ hk => hk.2) (.int .i64 (wrap64 (Int.tdiv (wrap64 ((wrap64 (((rd_T58 l0_0 x6_1).f0) + ((rd_T58 l0_0 x6_1).f1))) * t206)) (rd t199 x6_1))))) (fun _ hk => hk.2) (.int .i64 (wrap64 ((wrap64 (((rd_T58 l0_0 x6_1).f0) + ((rd_T58 l0_0 x6_1).f1))) - (wrap64 (Int.tdiv (wrap64 ((wrap64 (((rd_T58 l0_0 x6_1).f0) + ((rd_T58 l0_0 x6_1).f1))) * t206)) (rd t199 x6_1))))))) (fun _ hk => hk.1)⟩, ⟨by (with_reducible repeat (first | refine blk_drewN ?_ _ | refine blk_drew ?_ | refine blk_alloc ?_ _)); refine blk_far ?_ (by have h_ := Kd.R_ne HO_203000.out BK190.out (by decide); intro e_; exact h_ (by rw [e_]; rfl)) _; (with_reducible repeat (first | refine blk_drewN ?_ _ | refine blk_drew ?_ | refine blk_alloc ?_ _)); refine blk_far ?_ (by have h_ := Kd.R_ne HO_203000.out BK190.out (by decide); intro e_; exact h_ (by rw [e_]; rfl)) _; (with_reducible repeat (first | refine blk_drewN ?_ _ | refine blk_drew ?_ | refine blk_alloc ?_ _)); exact BK190.out⟩, ⟨by (with_reducible repeat (first | refine blk_drewN ?_ _ | refine blk_drew ?_ | refine blk_alloc ?_ _)); refine blk_far ?_ (by have h_ := Kd.R_ne HO_203000.out BK191.out (by decide); intro e_; exact h_ (by rw [e_]; rfl)) _; (with_reducible repeat (first | refine blk_drewN ?_ _ | refine blk_drew ?_ | refine blk_alloc ?_ _)); refine blk_far ?_ (by have h_ := Kd.R_ne HO_203000.out BK191.out (by decide); intro e_; exact h_ (by rw [e_]; rfl)) _; (with_reducible repeat (first | refine blk_drewN ?_ _ | refine blk_drew ?_ | refine blk_alloc ?_ _)); exact BK191.out⟩, ⟨by (with_reducible repeat (first | refine blk_drewN ?_ _ | refine blk_drew ?_ | refine blk_alloc ?_ _)); refine blk_far ?_ (by have h_ := Kd.R_ne HO_203000.out BK202.out (by decide); intro e_; exact h_ (by rw [e_]; rfl)) _; (with_reducible repeat (first | refine blk_drewN ?_ _ | refine blk_drew ?_ | refine blk_alloc ?_ _)); refine blk_far ?_ (by have h_ := Kd.R_ne HO_203000.out BK202.out (by decide); intro e_; exact h_ (by rw [e_]; rfl)) _; (with_reducible repeat (first | refine blk_drewN ?_ _ | refine blk_drew ?_ | refine blk_alloc ?_ _)); exact BK202.out⟩, ⟨tB HB.out⟩⟩
          ·
           rw [if_neg c27] at H
           exact absurd H (by simp)
         ·
          rw [if_neg c26] at H
          have c26b0 : ((Int.tmod (wrap64 ((wrap64 (((rd_T58 l0_0 x6_1).f0) + ((rd_T58 l0_0 x6_1).f1))) * t206)) (rd t199 x6_1)) == 0) = false := beq_eq_false_iff_ne.mpr c26
          have c26b1 : ((Int.tmod (wrap64 ((wrap64 (((rd_T58 l0_0 x6_1).f0) + ((rd_T58 l0_0 x6_1).f1))) * t206)) (rd t199 x6_1)) != 0) = true := bne_iff_ne.mpr c26
          simp only [Option.some.injEq, Prod.mk.injEq] at H
          obtain ⟨rfl, rfl, rfl⟩ := H
          have hnb37 := NB190_191.out
          have hnc37 := NB191_190.out
          have hnb38 := NB190_202.out
          have hnc38 := NB202_190.out
          obtain ⟨hcz39_0, hfz39_0, hcz39_1, hfz39_1⟩ := cz2 BK190
          try go_wp2
          replace HO_5 := Aside0.mk (Kd.R_drew HO_5.out)
          replace HO_203000 := Aside0.mk (Kd.R_drew HO_203000.out)
          replace HO_203001 := Aside0.mk (Kd.R_drew HO_203001.out)
          replace BK190 := Aside0.mk (blk_drew BK190.out)
          replace BK191 := Aside0.mk (blk_drew BK191.out)
          replace BK202 := Aside0.mk (blk_drew BK202.out)
          replace HB := Aside0.mk (below_drew1 HB.out)
          have p203 : 0 ≤ (x6_1 : Int) := of_decide_eq_true (by first | (with_reducible assumption) | assumption)
          have q203 : x6_1 < (l0_0.length : Int) := of_decide_eq_true (by first | (with_reducible assumption) | assumption)
          obtain ⟨ad203, e203, hx203_0, hx203_1⟩ := at_T58 HR0_0.out x6_1 p203 q203
          have hw203_1 := hx203_1
          have hw203_0 := hx203_0
          cases e203
          replace hx203_0 := (HB.out.cell (World.block_lt_of_cell? w _ hx203_0)).trans hx203_0
          replace hx203_1 := (HB.out.cell (World.block_lt_of_cell? w _ hx203_1)).trans hx203_1
          replace p203 := eq_true p203
          replace q203 := eq_true q203
          have p204 : 0 ≤ (x6_1 : Int) := of_decide_eq_true (by first | (with_reducible assumption) | assumption)
          have q204 : x6_1 < (l0_0.length : Int) := of_decide_eq_true (by first | (with_reducible assumption) | assumption)
          obtain ⟨ad204, e204, hx204_0, hx204_1⟩ := at_T58 HR0_0.out x6_1 p204 q204
          have hw204_1 := hx204_1
          have hw204_0 := hx204_0
          obtain rfl : ad203 = ad204 := (by injection e204)
          replace hx204_0 := (HB.out.cell (World.block_lt_of_cell? w _ hx204_0)).trans hx204_0
          replace hx204_1 := (HB.out.cell (World.block_lt_of_cell? w _ hx204_1)).trans hx204_1
          replace p204 := eq_true p204
          replace q204 := eq_true q204
          refine start_ (n := 14) (S := fun w' => w'.cell? ⟨gb190, 0, none⟩ = some (.slice (some ad203) l0_0.length c0_0) ∧ w'.cell? ⟨gb190, 1, none⟩ = some (.slice A0_1 l0_1.length c0_1) ∧ w'.cell? (ad203.add ((x6_1).toNat * 2)) = some (.int .i64 ((rd_T58 l0_0 x6_1).f0)) ∧ w'.cell? ⟨(ad203.add ((x6_1).toNat * 2)).block, (ad203.add ((x6_1).toNat * 2)).off + 1, none⟩ = some (.int .i64 ((rd_T58 l0_0 x6_1).f1)) ∧ w'.cell? (ad203.add ((x6_1).toNat * 2)) = some (.int .i64 ((rd_T58 l0_0 x6_1).f0)) ∧ w'.cell? ⟨(ad203.add ((x6_1).toNat * 2)).block, (ad203.add ((x6_1).toNat * 2)).off + 1, none⟩ = some (.int .i64 ((rd_T58 l0_0 x6_1).f1))) (ds := []) #[false, false, false, false, false, false, false, false, false, false, false, false, false, false] (by kernel_rfl) rfl rfl ⟨(blk_cell BK190.out 0).trans rfl, (blk_cell BK190.out 1).trans rfl, ((HB.out.cell (World.block_lt_of_cell? w _ hw203_0)).trans hw203_0), ((HB.out.cell (World.block_lt_of_cell? w _ hw203_1)).trans hw203_1), ((HB.out.cell (World.block_lt_of_cell? w _ hw204_0)).trans hw204_0), ((HB.out.cell (World.block_lt_of_cell? w _ hw204_1)).trans hw204_1)⟩ (fun hHeld => ?_); refine with_tabW spec_LevelArms.tab7 spec_LevelArms.bits7 (fun HT_ HW_ => ?_)
          generalize wr.drew = w40 at HO_5 HO_203000 HO_203001 BK190 BK191 BK202 HB hx203_0 hx203_1 hx204_0 hx204_1 hHeld ⊢
          refine pure_ (i := 0) (N := some 24) (v := ?_) (a' := ?_) #[true, false, false, false, false, false, false, false, false, false, false, false, false, false] rfl rfl (any_of HT_.out (by kernel_rfl)) (fun _ _ _ h => h) (Or.inl ⟨by rfl, ?_⟩) ?_ ?_
          rotate_left
          ·
           intro w'
           go_simp
           with_reducible rfl
          rotate_left
          ·
           simp only [Act.put, List.setIfInBounds_toArray, List.set_cons_zero, List.set_cons_succ, i64_w, i32_w]
           rfl
          refine pure_ (i := 2) (N := some 26) (v := ?_) (a' := ?_) #[true, false, true, false, false, false, false, false, false, false, false, false, false, false] rfl rfl (any_of HT_.out (by kernel_rfl)) (fun _ _ _ h => h) (Or.inl ⟨by rfl, ?_⟩) ?_ ?_
          rotate_left
          ·
           intro w'
           go_simp
           with_reducible rfl
          rotate_left
          ·
           simp only [Act.put, List.setIfInBounds_toArray, List.set_cons_zero, List.set_cons_succ, i64_w, i32_w]
           rfl
          refine pure_ (i := 6) (N := some 30) (v := ?_) (a' := ?_) #[true, false, true, false, false, false, true, false, false, false, false, false, false, false] rfl rfl (any_of HT_.out (by kernel_rfl)) (fun _ _ _ h => h) (Or.inl ⟨by rfl, ?_⟩) ?_ ?_
          rotate_left
          ·
           intro w'
           go_simp
           with_reducible rfl
          rotate_left
          ·
           simp only [Act.put, List.setIfInBounds_toArray, List.set_cons_zero, List.set_cons_succ, i64_w, i32_w]
           rfl
          refine pure_ (i := 8) (N := some 32) (v := ?_) (a' := ?_) #[true, false, true, false, false, false, true, false, true, false, false, false, false, false] rfl rfl (any_of HT_.out (by kernel_rfl)) (fun _ _ _ h => h) (Or.inl ⟨by rfl, ?_⟩) ?_ ?_
          rotate_left
          ·
           intro w'
           go_simp
           with_reducible rfl
          rotate_left
          ·
           simp only [Act.put, List.setIfInBounds_toArray, List.set_cons_zero, List.set_cons_succ, i64_w, i32_w]
           rfl
          refine take_ (i := 1) (N := some 25) (v := ?_) (a' := ?_) #[true, true, true, false, false, false, true, false, true, false, false, false, false, false] rfl rfl (take_ofW HT_.out HW_.out (by kernel_rfl)) (fun _ _ _ h => h) (Or.inl ⟨by rfl, ?_⟩) hHeld ?_ ?_
          rotate_left
          ·
           rintro w' ⟨s0, s1, s2, s3, s4, s5⟩
           go_simp
           with_reducible rfl
          rotate_left
          ·
           simp only [Act.put, List.setIfInBounds_toArray, List.set_cons_zero, List.set_cons_succ, i64_w, i32_w]
           rfl
          refine pure_ (i := 3) (N := some 27) (v := ?_) (a' := ?_) #[true, true, true, true, false, false, true, false, true, false, false, false, false, false] rfl rfl (any_of HT_.out (by kernel_rfl)) (fun _ _ _ h => h) (Or.inl ⟨by rfl, ?_⟩) ?_ ?_
          rotate_left
          ·
           intro w'
           go_simp
           with_reducible rfl
          rotate_left
          ·
           simp only [Act.put, List.setIfInBounds_toArray, List.set_cons_zero, List.set_cons_succ, i64_w, i32_w]
           rfl
          refine pure_ (i := 4) (N := some 28) (v := ?_) (a' := ?_) #[true, true, true, true, true, false, true, false, true, false, false, false, false, false] rfl rfl (any_of HT_.out (by kernel_rfl)) (fun _ _ _ h => h) (Or.inl ⟨by rfl, ?_⟩) ?_ ?_
          rotate_left
          ·
           intro w'
           go_simp
           with_reducible rfl
          rotate_left
          ·
           simp only [Act.put, List.setIfInBounds_toArray, List.set_cons_zero, List.set_cons_succ, i64_w, i32_w]
           rfl
          refine take_ (i := 5) (N := some 29) (v := ?_) (a' := ?_) #[true, true, true, true, true, true, true, false, true, false, false, false, false, false] rfl rfl (take_ofW HT_.out HW_.out (by kernel_rfl)) (fun _ _ _ h => h) (Or.inl ⟨by rfl, ?_⟩) hHeld ?_ ?_
          rotate_left
          ·
           rintro w' ⟨s0, s1, s2, s3, s4, s5⟩
           go_simp
           with_reducible rfl
          rotate_left
          ·
           simp only [Act.put, List.setIfInBounds_toArray, List.set_cons_zero, List.set_cons_succ, i64_w, i32_w]
           rfl
          refine take_ (i := 7) (N := some 31) (v := ?_) (a' := ?_) #[true, true, true, true, true, true, true, true, true, false, false, false, false, false] rfl rfl (take_ofW HT_.out HW_.out (by kernel_rfl)) (fun _ _ _ h => h) (Or.inl ⟨by rfl, ?_⟩) hHeld ?_ ?_
          rotate_left
          ·
           rintro w' ⟨s0, s1, s2, s3, s4, s5⟩
           go_simp
           with_reducible rfl
          rotate_left
          ·
           simp only [Act.put, List.setIfInBounds_toArray, List.set_cons_zero, List.set_cons_succ, i64_w, i32_w]
           rfl
          refine pure_ (i := 9) (N := some 33) (v := ?_) (a' := ?_) #[true, true, true, true, true, true, true, true, true, true, false, false, false, false] rfl rfl (any_of HT_.out (by kernel_rfl)) (fun _ _ _ h => h) (Or.inl ⟨by rfl, ?_⟩) ?_ ?_
          rotate_left
          ·
           intro w'
           go_simp
           with_reducible rfl
          rotate_left
          ·
           simp only [Act.put, List.setIfInBounds_toArray, List.set_cons_zero, List.set_cons_succ, i64_w, i32_w]
           rfl
          refine pure_ (i := 10) (N := some 34) (v := ?_) (a' := ?_) #[true, true, true, true, true, true, true, true, true, true, true, false, false, false] rfl rfl (any_of HT_.out (by kernel_rfl)) (fun _ _ _ h => h) (Or.inl ⟨by rfl, ?_⟩) ?_ ?_
          rotate_left
          ·
           intro w'
           go_simp
           with_reducible rfl
          rotate_left
          ·
           simp only [Act.put, List.setIfInBounds_toArray, List.set_cons_zero, List.set_cons_succ, i64_w, i32_w]
           rfl
          refine take_ (i := 11) (N := some 35) (v := ?_) (a' := ?_) #[true, true, true, true, true, true, true, true, true, true, true, true, false, false] rfl rfl (take_ofW HT_.out HW_.out (by kernel_rfl)) (fun _ _ _ h => h) (Or.inl ⟨by rfl, ?_⟩) hHeld ?_ ?_
          rotate_left
          ·
           rintro w' ⟨s0, s1, s2, s3, s4, s5⟩
           go_simp
           with_reducible rfl
          rotate_left
          ·
           simp only [Act.put, List.setIfInBounds_toArray, List.set_cons_zero, List.set_cons_succ, i64_w, i32_w]
           rfl
          refine pure_ (i := 12) (N := some 36) (v := ?_) (a' := ?_) #[true, true, true, true, true, true, true, true, true, true, true, true, true, false] rfl rfl (any_of HT_.out (by kernel_rfl)) (fun _ _ _ h => h) (Or.inl ⟨by rfl, ?_⟩) ?_ ?_
          rotate_left
          ·
           intro w'
           go_simp
           with_reducible rfl
          rotate_left
          ·
           simp only [Act.put, List.setIfInBounds_toArray, List.set_cons_zero, List.set_cons_succ, i64_w, i32_w]
           rfl
          refine pure_ (i := 13) (N := some 7) (v := ?_) (a' := ?_) #[true, true, true, true, true, true, true, true, true, true, true, true, true, true] rfl rfl (any_of HT_.out (by kernel_rfl)) (fun _ _ _ h => h) (Or.inl ⟨by rfl, ?_⟩) ?_ ?_
          rotate_left
          ·
           intro w'
           go_simp
           with_reducible rfl
          rotate_left
          ·
           simp only [Act.put, List.setIfInBounds_toArray, List.set_cons_zero, List.set_cons_succ, i64_w, i32_w]
           rfl
          refine done_ (done_of HT_.out (by kernel_rfl)) ?_
          obtain ⟨hcz41_0, hfz41_0, hcz41_1, hfz41_1⟩ := cz2 BK190
          have p205 : 0 ≤ (x6_1 : Int) := of_decide_eq_true (by first | (with_reducible assumption) | assumption)
          have q205 : x6_1 < (l0_1.length : Int) := of_decide_eq_true (by first | (with_reducible assumption) | assumption)
          obtain ⟨ad205, e205, hx205_0, hx205_1⟩ := at_T58 HR0_1.out x6_1 p205 q205
          cases e205
          replace hx205_0 := (HB.out.cell (World.block_lt_of_cell? w _ hx205_0)).trans hx205_0
          replace hx205_1 := (HB.out.cell (World.block_lt_of_cell? w _ hx205_1)).trans hx205_1
          replace p205 := eq_true p205
          replace q205 := eq_true q205
          obtain ⟨Ao42, co42, eo42⟩ := Kd.R_slice HO_5.out
          subst eo42
          try go_wp2_with (first | ((with_reducible refine gate_callee (f := 60) rfl ?_); refine goesL_ (some 45) rfl rfl Try.func60 (by kernel_rfl) rfl #[.int .i64 ((rd_T58 l0_1 x6_1).f1), .slice Ao42 t199.length co42] rfl tM ?_; (with_reducible refine (spec_l5At.calls ((rd_T58 l0_1 x6_1).f1) _ _ t199 t206 _ ?side1 ?side2 A23.out).mono ?_); (case side1 => exact tC (Kd.R_reads' HO_5.out).2.2); (case side2 => exact (Kd.R_reads' HO_5.out).2.1); rintro e w' ⟨rfl, ⟨nd, rfl⟩⟩; refine ⟨_, rfl, ?_⟩; (try (rw [drewN_self w40]; generalize hq_ : World.drewN w40 _ = w40; have n0_ : Aside0 (Kd.R k58 58 w40 w.heap.size (fun k_ => some k_ ≠ (u203001 : Value).ownBlock) u203000 x203000_1) := ⟨by rw [← hq_]; exact (tR HO_203000.out)⟩; have n1_ : Aside0 (Kd.R k58 58 w40 w.heap.size (fun k_ => some k_ ≠ (u203000 : Value).ownBlock) u203001 x203001_1) := ⟨by rw [← hq_]; exact (tR HO_203001.out)⟩; have n2_ : Aside0 (Kd.R (Kd.int .i64) 3 w40 w.heap.size (fun _ => True) (.slice Ao42 t199.length co42) t199) := ⟨by rw [← hq_]; exact (tR HO_5.out)⟩; have n3_ : Aside0 (w40.heap[gb190]? = some (.cells #[.slice (some ad203) l0_0.length c0_0, .slice (some ad205) l0_1.length c0_1] 27 (0, 0))) := ⟨by rw [← hq_]; exact (tK BK190.out)⟩; have n4_ : Aside0 (w40.heap[gb191]? = some (.cells #[.slice none 0 0, .slice none 0 0] 27 (0, 0))) := ⟨by rw [← hq_]; exact (tK BK191.out)⟩; have n5_ : Aside0 (w40.heap[gb202]? = some (.cells #[u203000, u203001] 27 (0, 0))) := ⟨by rw [← hq_]; exact (tK BK202.out)⟩; have n6_ : Aside0 (Below w.heap.size w w40) := ⟨by rw [← hq_]; exact (tB HB.out)⟩; clear HO_203000 HO_203001 HO_5 BK190 BK191 BK202 HB hq_; have HO_203000 := n0_; have HO_203001 := n1_; have HO_5 := n2_; have BK190 := n3_; have BK191 := n4_; have BK202 := n5_; have HB := n6_; clear n0_ n1_ n2_ n3_ n4_ n5_ n6_)); have p207 : 0 ≤ (x6_1 : Int) := of_decide_eq_true (by first | (with_reducible assumption) | assumption); have q207 : x6_1 < (t199.length : Int) := of_decide_eq_true (by first | (with_reducible assumption) | assumption); obtain ⟨ad207, e207, hx207_0⟩ := Kd.at_int (Kd.R_reads' HO_5.out).2.2 x6_1 p207 q207; cases e207; replace p207 := eq_true p207; replace q207 := eq_true q207; have hnb43 := NB191_202.out; have hnc43 := NB202_191.out; obtain ⟨hcz44_0, hfz44_0, hcz44_1, hfz44_1⟩ := cz2 BK191))
          refine bodyPost_ret (results_ct rfl _ _ gb191 27 #[.slice none 0 0, .slice none 0 0] (0, 0) _ rfl (by (with_reducible repeat (first | refine blk_drewN ?_ _ | refine blk_drew ?_ | refine blk_alloc ?_ _)); refine blk_put (cs := #[.slice none 0 0, .slice none 0 0]) ?_ 1 _ rfl; (with_reducible repeat (first | refine blk_drewN ?_ _ | refine blk_drew ?_ | refine blk_alloc ?_ _)); refine blk_put (cs := #[.slice none 0 0, .slice none 0 0]) ?_ 0 _ rfl; (with_reducible repeat (first | refine blk_drewN ?_ _ | refine blk_drew ?_ | refine blk_alloc ?_ _)); exact BK191.out) Try.underlying27 rfl (by kernel_rfl)) rfl ?_
          exact ⟨_, _, by first | rfl | (simp [errW_none, errW_some] <;> rfl) | (simp [*, errW_none, errW_some] <;> rfl), by first | exact Kd.R_nil _ _ _ _ _ | exact Kd.N_nil _ _ _ _ _ | exact Kd.V_nil _ _ _ _ _ | exact Kd.Q_nil _ _ _ _ _ | exact Kd.S_nil _ _ _ _ _, by first | exact Kd.R_nil _ _ _ _ _ | exact Kd.N_nil _ _ _ _ _ | exact Kd.V_nil _ _ _ _ _ | exact Kd.Q_nil _ _ _ _ _ | exact Kd.S_nil _ _ _ _ _, tB HB.out⟩
       ·
        rw [if_neg c24] at H
        exact absurd H (by simp)
      ·
       rw [if_neg c22] at H
       exact absurd H (by simp)
     ·
      rw [if_neg c21] at H
      exact absurd H (by simp)
    ·
     rw [if_neg c20] at H
     have c20b0 : decide (x6_1 < (l0_0.length : Int)) = false := decide_eq_false c20
     clear c20
     replace H := Option.bind_eq_some_iff.mp H
     obtain ⟨t211, A450, H⟩ := H
     replace H : (if t211 = true then (some (x203000_1, x203001_1, true)) else (some (([] : List (S58)), ([] : List (S58)), false))) = some (r1, r2, r3) := H
     have A45 := Aside0.mk A450
     clear A450
     by_cases c46 : t211 = true
     ·
      subst c46
      have H1 : (some (x203000_1, x203001_1, true)) = some (r1, r2, r3) := by rw [if_pos rfl] at H; exact H
      clear H
      have H := H1
      clear H1
      simp only [Option.some.injEq, Prod.mk.injEq] at H
      obtain ⟨rfl, rfl, rfl⟩ := H
      have hnb47 := NB190_191.out
      have hnc47 := NB191_190.out
      have hnb48 := NB190_202.out
      have hnc48 := NB202_190.out
      obtain ⟨hcz49_0, hfz49_0, hcz49_1, hfz49_1⟩ := cz2 BK190
      have hnb50 := NB202_191.out
      have hnc50 := NB191_202.out
      obtain ⟨hcz51_0, hfz51_0, hcz51_1, hfz51_1⟩ := cz2 BK202
      obtain ⟨Ao52, co52, eo52⟩ := Kd.R_slice HO_203000.out
      subst eo52
      obtain ⟨Ao53, co53, eo53⟩ := Kd.R_slice HO_203001.out
      subst eo53
      go_wp2_with (first | ((with_reducible refine gate_callee (f := 52) rfl ?_); refine goesL_ (some 75) rfl rfl Try.func52 (by kernel_rfl) rfl #[.agg #[.slice Ao52 x203000_1.length co52, .slice Ao53 x203001_1.length co53]] rfl tM ?_; (with_reducible refine (spec_l5Good.calls k1 _ _ x203000_1 _ _ x203001_1 true _ ?side1 ?side2 ?side3 ?side4 A45.out).mono ?_); (case side1 => exact tC (Kd.R_reads' HO_203000.out).2.2); (case side2 => exact (Kd.R_reads' HO_203000.out).2.1); (case side3 => exact tC (Kd.R_reads' HO_203001.out).2.2); (case side4 => exact (Kd.R_reads' HO_203001.out).2.1); rintro e w54 ⟨rfl, hb⟩; refine ⟨_, rfl, ?_⟩; replace HO_5 := Aside0.mk (Kd.R_below (tR HO_5.out) hb); replace HO_203000 := Aside0.mk (Kd.R_below (tR HO_203000.out) hb); replace HO_203001 := Aside0.mk (Kd.R_below (tR HO_203001.out) hb); replace BK190 := bkB BK190 hb; replace BK191 := bkB BK191 hb; replace BK202 := bkB BK202 hb; replace HB := Aside0.mk (below_step (tB HB.out) hb); (try clear hb); (try clear hb2); (try clear hk); (try clear hi); obtain ⟨hcz55_0, hfz55_0, hcz55_1, hfz55_1⟩ := cz2 BK202; obtain ⟨hcz56_0, hfz56_0, hcz56_1, hfz56_1⟩ := cz2 BK191))
      refine bodyPost_ret (results_ct rfl _ _ gb191 27 #[.slice Ao52 x203000_1.length co52, .slice Ao53 x203001_1.length co53] (0, 0) _ rfl (by (with_reducible repeat (first | refine blk_drewN ?_ _ | refine blk_drew ?_ | refine blk_alloc ?_ _)); refine blk_put (cs := #[.slice Ao52 x203000_1.length co52, .slice none 0 0]) ?_ 1 _ rfl; (with_reducible repeat (first | refine blk_drewN ?_ _ | refine blk_drew ?_ | refine blk_alloc ?_ _)); refine blk_put (cs := #[.slice none 0 0, .slice none 0 0]) ?_ 0 _ rfl; (with_reducible repeat (first | refine blk_drewN ?_ _ | refine blk_drew ?_ | refine blk_alloc ?_ _)); exact BK191.out) Try.underlying27 rfl (by kernel_rfl)) rfl ?_
      exact ⟨_, _, by first | rfl | (simp [errW_none, errW_some] <;> rfl) | (simp [*, errW_none, errW_some] <;> rfl), by (with_reducible repeat (first | apply Kd.R_alloc | apply Kd.R_drewN | apply Kd.R_drew)); exact Kd.R_mono (Kd.R_far (p := ⟨gb191, 1, none⟩) (Kd.R_far (p := ⟨gb191, 0, none⟩) (Kd.R_types HO_203000.out BK191.out (by decide)) (fun _ hk => hk.2) (.slice Ao52 x203000_1.length co52)) (fun _ hk => hk.2) (.slice Ao53 x203001_1.length co53)) (fun _ hk => hk.1), by (with_reducible repeat (first | apply Kd.R_alloc | apply Kd.R_drewN | apply Kd.R_drew)); exact Kd.R_mono (Kd.R_far (p := ⟨gb191, 1, none⟩) (Kd.R_far (p := ⟨gb191, 0, none⟩) (Kd.R_types HO_203001.out BK191.out (by decide)) (fun _ hk => hk.2) (.slice Ao52 x203000_1.length co52)) (fun _ hk => hk.2) (.slice Ao53 x203001_1.length co53)) (fun _ hk => hk.1), tB HB.out⟩
     ·
      replace c46 := Bool.eq_false_iff.mpr c46
      subst c46
      have H1 : (some (([] : List (S58)), ([] : List (S58)), false)) = some (r1, r2, r3) := by rw [if_neg (show ¬ (false = true) by decide)] at H; exact H
      clear H
      have H := H1
      clear H1
      simp only [Option.some.injEq, Prod.mk.injEq] at H
      obtain ⟨rfl, rfl, rfl⟩ := H
      have hnb57 := NB190_191.out
      have hnc57 := NB191_190.out
      have hnb58 := NB190_202.out
      have hnc58 := NB202_190.out
      obtain ⟨hcz59_0, hfz59_0, hcz59_1, hfz59_1⟩ := cz2 BK190
      have hnb60 := NB202_191.out
      have hnc60 := NB191_202.out
      obtain ⟨hcz61_0, hfz61_0, hcz61_1, hfz61_1⟩ := cz2 BK202
      obtain ⟨Ao62, co62, eo62⟩ := Kd.R_slice HO_203000.out
      subst eo62
      obtain ⟨Ao63, co63, eo63⟩ := Kd.R_slice HO_203001.out
      subst eo63
      go_wp2_with (first | ((with_reducible refine gate_callee (f := 52) rfl ?_); refine goesL_ (some 75) rfl rfl Try.func52 (by kernel_rfl) rfl #[.agg #[.slice Ao62 x203000_1.length co62, .slice Ao63 x203001_1.length co63]] rfl tM ?_; (with_reducible refine (spec_l5Good.calls k1 _ _ x203000_1 _ _ x203001_1 false _ ?side1 ?side2 ?side3 ?side4 A45.out).mono ?_); (case side1 => exact tC (Kd.R_reads' HO_203000.out).2.2); (case side2 => exact (Kd.R_reads' HO_203000.out).2.1); (case side3 => exact tC (Kd.R_reads' HO_203001.out).2.2); (case side4 => exact (Kd.R_reads' HO_203001.out).2.1); rintro e w64 ⟨rfl, hb⟩; refine ⟨_, rfl, ?_⟩; replace HO_5 := Aside0.mk (Kd.R_below (tR HO_5.out) hb); replace HO_203000 := Aside0.mk (Kd.R_below (tR HO_203000.out) hb); replace HO_203001 := Aside0.mk (Kd.R_below (tR HO_203001.out) hb); replace BK190 := bkB BK190 hb; replace BK191 := bkB BK191 hb; replace BK202 := bkB BK202 hb; replace HB := Aside0.mk (below_step (tB HB.out) hb); (try clear hb); (try clear hb2); (try clear hk); (try clear hi); obtain ⟨hcz65_0, hfz65_0, hcz65_1, hfz65_1⟩ := cz2 BK191))
      refine bodyPost_ret (results_ct rfl _ _ gb191 27 #[.slice none 0 0, .slice none 0 0] (0, 0) _ rfl (by (with_reducible repeat (first | refine blk_drewN ?_ _ | refine blk_drew ?_ | refine blk_alloc ?_ _)); refine blk_put (cs := #[.slice none 0 0, .slice none 0 0]) ?_ 1 _ rfl; (with_reducible repeat (first | refine blk_drewN ?_ _ | refine blk_drew ?_ | refine blk_alloc ?_ _)); refine blk_put (cs := #[.slice none 0 0, .slice none 0 0]) ?_ 0 _ rfl; (with_reducible repeat (first | refine blk_drewN ?_ _ | refine blk_drew ?_ | refine blk_alloc ?_ _)); exact BK191.out) Try.underlying27 rfl (by kernel_rfl)) rfl ?_
      exact ⟨_, _, by first | rfl | (simp [errW_none, errW_some] <;> rfl) | (simp [*, errW_none, errW_some] <;> rfl), by first | exact Kd.R_nil _ _ _ _ _ | exact Kd.N_nil _ _ _ _ _ | exact Kd.V_nil _ _ _ _ _ | exact Kd.Q_nil _ _ _ _ _ | exact Kd.S_nil _ _ _ _ _, by first | exact Kd.R_nil _ _ _ _ _ | exact Kd.N_nil _ _ _ _ _ | exact Kd.V_nil _ _ _ _ _ | exact Kd.Q_nil _ _ _ _ _ | exact Kd.S_nil _ _ _ _ _, tB HB.out⟩
 ·
  replace c3 := Bool.eq_false_iff.mpr c3
  subst c3
  have H1 : (some (([] : List (S58)), ([] : List (S58)), false)) = some (r1, r2, r3) := by rw [if_neg (show ¬ (false = true) by decide)] at H; exact H
  clear H
  have H := H1
  clear H1
  simp only [Option.some.injEq, Prod.mk.injEq] at H
  obtain ⟨rfl, rfl, rfl⟩ := H
  go_enter Try.func37, Try.ntmps37
  go_wp2_with (first | ((with_reducible refine gate_dst (N := 1) rfl ?_); refine box_event ?hg (N := 1) ?hd (cs := #[.slice A0_0 l0_0.length c0_0, .slice A0_1 l0_1.length c0_1]) (t := 27) ?hr ?_; (case hd => rfl); (case hg => rfl); (case hr => first | (go_simp; done) | (go_simp; rfl)); intro gb190 hg w66 hbox hb; have BK190 := Aside0.mk (hbox); have GW190 := Aside0.mk (bS HB.out hg); have GE190 := Aside0.mk (bS HB.out hg); replace HB := Aside0.mk (below_step (tB HB.out) hb); clear hb hbox hg) | ((with_reducible refine gate_dst (N := 2) rfl ?_); refine box_event ?hg (N := 2) ?hd (cs := #[.slice none 0 0, .slice none 0 0]) (t := 27) ?hr ?_; (case hd => rfl); (case hg => rfl); (case hr => first | (go_simp; done) | (go_simp; rfl)); intro gb191 hg w67 hbox hb; have BK191 := Aside0.mk (hbox); have GW191 := Aside0.mk (bS HB.out hg); have GE191 := Aside0.mk (bS HB.out hg); replace HB := Aside0.mk (below_step (tB HB.out) hb); have NB190_191 := Aside0.mk (nL BK190.out hg); have NB191_190 := Aside0.mk (nG BK190.out hg); replace BK190 := bkB BK190 hb; clear hb hbox hg; have hnb68 := NB190_191.out; have hnc68 := NB191_190.out; obtain ⟨hcz69_0, hfz69_0, hcz69_1, hfz69_1⟩ := cz2 BK190) | ((with_reducible refine gate_callee (f := 52) rfl ?_); refine goesL_ (some 10) rfl rfl Try.func52 (by kernel_rfl) rfl #[.agg #[.slice A0_0 l0_0.length c0_0, .slice A0_1 l0_1.length c0_1]] rfl tM ?_; (with_reducible refine (spec_l5Good.calls k _ _ l0_0 _ _ l0_1 false _ ?side1 ?side2 ?side3 ?side4 A2.out).mono ?_); (case side1 => exact tC (Kd.C_below HR0_0.out HB.out)); (case side2 => exact HC0_0.out); (case side3 => exact tC (Kd.C_below HR0_1.out HB.out)); (case side4 => exact HC0_1.out); rintro e w70 ⟨rfl, hb⟩; refine ⟨_, rfl, ?_⟩; replace BK190 := bkB BK190 hb; replace BK191 := bkB BK191 hb; replace HB := Aside0.mk (below_step (tB HB.out) hb); (try clear hb); (try clear hb2); (try clear hk); (try clear hi); obtain ⟨hcz71_0, hfz71_0, hcz71_1, hfz71_1⟩ := cz2 BK191))
  refine bodyPost_ret (results_ct rfl _ _ gb191 27 #[.slice none 0 0, .slice none 0 0] (0, 0) _ rfl (by (with_reducible repeat (first | refine blk_drewN ?_ _ | refine blk_drew ?_ | refine blk_alloc ?_ _)); refine blk_put (cs := #[.slice none 0 0, .slice none 0 0]) ?_ 1 _ rfl; (with_reducible repeat (first | refine blk_drewN ?_ _ | refine blk_drew ?_ | refine blk_alloc ?_ _)); refine blk_put (cs := #[.slice none 0 0, .slice none 0 0]) ?_ 0 _ rfl; (with_reducible repeat (first | refine blk_drewN ?_ _ | refine blk_drew ?_ | refine blk_alloc ?_ _)); exact BK191.out) Try.underlying27 rfl (by kernel_rfl)) rfl ?_
  exact ⟨_, _, by first | rfl | (simp [errW_none, errW_some] <;> rfl) | (simp [*, errW_none, errW_some] <;> rfl), by first | exact Kd.R_nil _ _ _ _ _ | exact Kd.N_nil _ _ _ _ _ | exact Kd.V_nil _ _ _ _ _ | exact Kd.Q_nil _ _ _ _ _ | exact Kd.S_nil _ _ _ _ _, by first | exact Kd.R_nil _ _ _ _ _ | exact Kd.N_nil _ _ _ _ _ | exact Kd.V_nil _ _ _ _ _ | exact Kd.Q_nil _ _ _ _ _ | exact Kd.S_nil _ _ _ _ _, tB HB.out⟩

end Go.Proofs.Ytbdajkfihbaapaa.PFnExactLevelArms

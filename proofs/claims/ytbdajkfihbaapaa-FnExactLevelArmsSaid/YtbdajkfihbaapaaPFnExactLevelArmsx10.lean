/- Printed by the program print2.py over the translation: each function as a Lean function, and the proof that the call comes to its answer. -/
import Derived.Test.YtbdajkfihbaapaaPFnExactLevelArmsx0
import Derived.Test.YtbdajkfihbaapaaPFnExactLevelArmsx8
import Derived.Test.YtbdajkfihbaapaaPFnExactLevelArmsx9
namespace Go.Proofs.Ytbdajkfihbaapaa.PFnExactLevelArms
open Go.RowKit Go.Proofs.YtbdajkfihbaapaaW.PrintWords Go.Proofs.YtbdajkfihbaapaaW.PrintLast Go.Proofs.YtbdajkfihbaapaaW.PrintMore
attribute [local go_sem] max2_int min2_int max_two min_two max_three min_three max_four min_four   -- for this text's walks alone
set_option linter.unusedVariables false
set_option linter.unusedSimpArgs false

/-! ### impl_LevelArms: function 38 -/
def impl_LevelArms.l0 : Nat → List Int → List (S58) → Int → Int → List (S58) → List (S58) → List (S58) → List (S58) → Option ((List (S58)) × (List (S58)) × Bool)
 | 0, _, _, _, _, _, _, _, _ => none
 | k + 1, x5, x20, x21, x22, x267000, x267001, x279000, x279001 => if x22 < x21 then (if 0 ≤ x22 then (if x22 < (x20.length : Int) then (if x22 < (x267001.length : Int) then ((impl_weightAt.f ((rd_T58 x267001 x22).f1) x5).bind fun t282 => (if x22 < (x5.length : Int) then (if (rd x5 x22) = 0 then (none) else (if (Int.tmod (wrap64 ((wrap64 (((rd_T58 x20 x22).f0) + ((rd_T58 x20 x22).f1))) * t282)) (rd x5 x22)) = 0 then (if x22 < (x279000.length : Int) then (impl_LevelArms.l0 k x5 x20 x21 (wrap64 (x22 + 1)) x267000 x267001 (x279000.set (x22 : Int).toNat (⟨wrap64 (Int.tdiv (wrap64 ((wrap64 (((rd_T58 x20 x22).f0) + ((rd_T58 x20 x22).f1))) * t282)) (rd x5 x22)), wrap64 ((wrap64 (((rd_T58 x20 x22).f0) + ((rd_T58 x20 x22).f1))) - (wrap64 (Int.tdiv (wrap64 ((wrap64 (((rd_T58 x20 x22).f0) + ((rd_T58 x20 x22).f1))) * t282)) (rd x5 x22))))⟩ : S58)) x279001) else (none)) else (some (([] : List (S58)), ([] : List (S58)), false)))) else (none))) else (none)) else (none)) else (none)) else ((impl_validMobile.f k x279000 x279001).bind fun bt286 => (some (bt286.1, bt286.2.1, bt286.2.2)))
def impl_LevelArms.f (k : Nat) (l0_0 : List (S58)) (l0_1 : List (S58)) : Option ((List (S58)) × (List (S58)) × Bool) := (impl_IsMobile.f k l0_0 l0_1).bind fun t268 => (if t268 = true then ((impl_copyMobile.f l0_0 l0_1).bind fun bt269 => ((impl_rodWeights.f k l0_0 l0_1).bind fun t275 => (impl_LevelArms.l0 k t275 l0_0 (l0_0.length : Int) 0 l0_0 l0_1 bt269.1 bt269.2))) else (some (([] : List (S58)), ([] : List (S58)), false)))
theorem impl_LevelArms.mono_l : ∀ k, (∀ y0 y1 y2 y3 y4 y5 y6 y7, LeO (impl_LevelArms.l0 k y0 y1 y2 y3 y4 y5 y6 y7) (impl_LevelArms.l0 (k + 1) y0 y1 y2 y3 y4 y5 y6 y7))
 | 0 => fun _ _ _ _ _ _ _ _ r h => by simp [impl_LevelArms.l0] at h
 | k + 1 => by
  have ih0 := impl_LevelArms.mono_l k
  ·
   intro y0 y1 y2 y3 y4 y5 y6 y7
   unfold impl_LevelArms.l0
   repeat' first
   | (with_reducible exact ih0 _ _ _ _ _ _ _ _)
   | (with_reducible exact impl_IsMobile.mono _ _ _)
   | (with_reducible exact impl_rodWeights.mono _ _ _)
   | (with_reducible exact impl_validMobile.mono _ _ _)
   | (with_reducible exact LeO.refl _)
   | (with_reducible exact LeO.none _)
   | (with_reducible refine LeO.ite ?_ ?_)
   | (with_reducible refine LeO.bind ?_ (fun _ => ?_))
   | exact ih0 _ _ _ _ _ _ _ _
   | exact impl_IsMobile.mono _ _ _
   | exact impl_rodWeights.mono _ _ _
   | exact impl_validMobile.mono _ _ _
   | exact LeO.none _
   | refine LeO.ite ?_ ?_
   | refine LeO.bind ?_ (fun _ => ?_)
theorem impl_LevelArms.mono : ∀ a0 a1 k, LeO (impl_LevelArms.f k a0 a1) (impl_LevelArms.f (k + 1) a0 a1) := by
 intro a0 a1 k
 have ih0 := impl_LevelArms.mono_l k
 unfold impl_LevelArms.f
 repeat' first
   | (with_reducible exact ih0 _ _ _ _ _ _ _ _)
   | (with_reducible exact impl_IsMobile.mono _ _ _)
   | (with_reducible exact impl_rodWeights.mono _ _ _)
   | (with_reducible exact impl_validMobile.mono _ _ _)
   | (with_reducible exact LeO.refl _)
   | (with_reducible exact LeO.none _)
   | (with_reducible refine LeO.ite ?_ ?_)
   | (with_reducible refine LeO.bind ?_ (fun _ => ?_))
   | exact ih0 _ _ _ _ _ _ _ _
   | exact impl_IsMobile.mono _ _ _
   | exact impl_rodWeights.mono _ _ _
   | exact impl_validMobile.mono _ _ _
   | exact LeO.none _
   | refine LeO.ite ?_ ?_
   | refine LeO.bind ?_ (fun _ => ?_)
def impl_LevelArms.T7 : Bool × List (List Nat × List Nat) := (true, [([], []), ([0], [0]), ([], []), ([2], [2]), ([1, 3], [1, 3]), ([], []), ([5], [5]), ([], []), ([6, 7], [6, 7]), ([8], [8]), ([9], [9]), ([], []), ([10, 11], [10, 11]), ([4, 12, 0, 1, 2, 3, 4], [4]), ([12, 13, 0, 1, 2, 3, 4, 5, 6, 7, 8, 9, 10, 11, 12, 13], [12])])
def impl_LevelArms.B7 : List Nat := [0, 1, 0, 4, 15, 0, 32, 0, 224, 480, 992, 0, 4064, 8191, 16383]
theorem impl_LevelArms.tab7 : rtab .any (opsOf Try.f38 7) = impl_LevelArms.T7 := by kernel_rfl
theorem impl_LevelArms.bits7 : waitsOk impl_LevelArms.T7.2 impl_LevelArms.B7 = true := by kernel_rfl
set_option maxHeartbeats 8000000 in
set_option maxRecDepth 100000 in
theorem impl_LevelArms.calls (k : Nat) (A0_0 : Option Addr) (c0_0 : Nat) (l0_0 : List (S58)) (A0_1 : Option Addr) (c0_1 : Nat) (l0_1 : List (S58)) (r1 : List (S58)) (r2 : List (S58)) (r3 : Bool) (w : World) (hr0_0 : Kd.C k58 w A0_0 l0_0.length l0_0) (hc0_0 : l0_0.length ≤ c0_0) (hr0_1 : Kd.C k58 w A0_1 l0_1.length l0_1) (hc0_1 : l0_1.length ≤ c0_1) (h : impl_LevelArms.f k l0_0 l0_1 = some (r1, r2, r3)) :
  Calls Try.prog 38 #[.agg #[.slice A0_0 l0_0.length c0_0, .slice A0_1 l0_1.length c0_1]] w fun e w' => ∃ v0_ v1_ : Value, e = .returned (.tuple #[.agg #[v0_, v1_], .bool r3]) ∧ Kd.R k58 58 w' w.heap.size (fun k_ => some k_ ≠ (v1_ : Value).ownBlock) v0_ r1 ∧ Kd.R k58 58 w' w.heap.size (fun k_ => some k_ ≠ (v0_ : Value).ownBlock) v1_ r2 ∧ Below w.heap.size w w' := by
 have hu27 := Try.underlying27
 have hu58 := Try.underlying58
 have HR0_0 := Aside0.mk hr0_0
 have HC0_0 := Aside0.mk hc0_0
 clear hr0_0 hc0_0
 have HR0_1 := Aside0.mk hr0_1
 have HC0_1 := Aside0.mk hc0_1
 clear hr0_1 hc0_1
 have HB := Aside0.mk (Below.refl w.heap.size w)
 have H : ((impl_IsMobile.f k l0_0 l0_1).bind fun t268 => (if t268 = true then ((impl_copyMobile.f l0_0 l0_1).bind fun bt269 => ((impl_rodWeights.f k l0_0 l0_1).bind fun t275 => (impl_LevelArms.l0 k t275 l0_0 (l0_0.length : Int) 0 l0_0 l0_1 bt269.1 bt269.2))) else (some (([] : List (S58)), ([] : List (S58)), false)))) = some (r1, r2, r3) := h
 clear h
 replace H := Option.bind_eq_some_iff.mp H
 obtain ⟨t268, A20, H⟩ := H
 replace H : (if t268 = true then ((impl_copyMobile.f l0_0 l0_1).bind fun bt269 => ((impl_rodWeights.f k l0_0 l0_1).bind fun t275 => (impl_LevelArms.l0 k t275 l0_0 (l0_0.length : Int) 0 l0_0 l0_1 bt269.1 bt269.2))) else (some (([] : List (S58)), ([] : List (S58)), false))) = some (r1, r2, r3) := H
 have A2 := Aside0.mk A20
 clear A20
 by_cases c3 : t268 = true
 ·
  subst c3
  have H1 : ((impl_copyMobile.f l0_0 l0_1).bind fun bt269 => ((impl_rodWeights.f k l0_0 l0_1).bind fun t275 => (impl_LevelArms.l0 k t275 l0_0 (l0_0.length : Int) 0 l0_0 l0_1 bt269.1 bt269.2))) = some (r1, r2, r3) := by rw [if_pos rfl] at H; exact H
  clear H
  have H := H1
  clear H1
  replace H := Option.bind_eq_some_iff.mp H
  obtain ⟨⟨t269, t272⟩, A40, H⟩ := H
  replace H : ((impl_rodWeights.f k l0_0 l0_1).bind fun t275 => (impl_LevelArms.l0 k t275 l0_0 (l0_0.length : Int) 0 l0_0 l0_1 t269 t272)) = some (r1, r2, r3) := H
  have A4 := Aside0.mk A40
  clear A40
  replace H := Option.bind_eq_some_iff.mp H
  obtain ⟨t275, A50, H⟩ := H
  replace H : (impl_LevelArms.l0 k t275 l0_0 (l0_0.length : Int) 0 l0_0 l0_1 t269 t272) = some (r1, r2, r3) := H
  have A5 := Aside0.mk A50
  clear A50
  have H' := Aside0.mk H
  clear H
  go_enter Try.func38, Try.ntmps38
  try go_wp2_with (first | ((with_reducible refine gate_dst (N := 1) rfl ?_); refine box_event ?hg (N := 1) ?hd (cs := #[.slice A0_0 l0_0.length c0_0, .slice A0_1 l0_1.length c0_1]) (t := 27) ?hr ?_; (case hd => rfl); (case hg => rfl); (case hr => first | (go_simp; done) | (go_simp; rfl)); intro gb266 hg w6 hbox hb; have BK266 := Aside0.mk (hbox); have GW266 := Aside0.mk (bS HB.out hg); have GE266 := Aside0.mk (bS HB.out hg); replace HB := Aside0.mk (below_step (tB HB.out) hb); clear hb hbox hg) | ((with_reducible refine gate_dst (N := 2) rfl ?_); refine box_event ?hg (N := 2) ?hd (cs := #[.slice none 0 0, .slice none 0 0]) (t := 27) ?hr ?_; (case hd => rfl); (case hg => rfl); (case hr => first | (go_simp; done) | (go_simp; rfl)); intro gb267 hg w7 hbox hb; have BK267 := Aside0.mk (hbox); have GW267 := Aside0.mk (bS HB.out hg); have GE267 := Aside0.mk (bS HB.out hg); replace HB := Aside0.mk (below_step (tB HB.out) hb); have NB266_267 := Aside0.mk (nL BK266.out hg); have NB267_266 := Aside0.mk (nG BK266.out hg); replace BK266 := bkB BK266 hb; clear hb hbox hg; have hnb8 := NB266_267.out; have hnc8 := NB267_266.out; obtain ⟨hcz9_0, hfz9_0, hcz9_1, hfz9_1⟩ := cz2 BK266) | ((with_reducible refine gate_callee (f := 18) rfl ?_); refine goesL_ (some 12) rfl rfl Try.func18 (by kernel_rfl) rfl #[.agg #[.slice A0_0 l0_0.length c0_0, .slice A0_1 l0_1.length c0_1]] rfl tM ?_; (with_reducible refine (impl_IsMobile.calls k _ _ l0_0 _ _ l0_1 true _ ?side1 ?side2 ?side3 ?side4 A2.out).mono ?_); (case side1 => exact tC (Kd.C_below HR0_0.out HB.out)); (case side2 => exact HC0_0.out); (case side3 => exact tC (Kd.C_below HR0_1.out HB.out)); (case side4 => exact HC0_1.out); rintro e w10 ⟨rfl, hb⟩; refine ⟨_, rfl, ?_⟩; replace BK266 := bkB BK266 hb; replace BK267 := bkB BK267 hb; replace HB := Aside0.mk (below_step (tB HB.out) hb); (try clear hb); (try clear hb2); (try clear hk); (try clear hi)))
  replace BK266 := Aside0.mk (blk_drew BK266.out)
  replace BK267 := Aside0.mk (blk_drew BK267.out)
  replace HB := Aside0.mk (below_drew1 HB.out)
  refine start_ (n := 7) (S := fun w' => w'.cell? ⟨gb266, 0, none⟩ = some (.slice A0_0 l0_0.length c0_0) ∧ w'.cell? ⟨gb266, 1, none⟩ = some (.slice A0_1 l0_1.length c0_1)) (ds := []) #[false, false, false, false, false, false, false] (by kernel_rfl) rfl rfl ⟨(blk_cell BK266.out 0).trans rfl, (blk_cell BK266.out 1).trans rfl⟩ (fun hHeld => ?_)
  generalize w10.drew = w11 at BK266 BK267 HB hHeld ⊢
  refine take_ (i := 0) (N := some 15) (v := ?_) (a' := ?_) #[true, false, false, false, false, false, false] rfl rfl (by kernel_rfl) (fun _ _ _ h => h) (Or.inl ⟨by rfl, ?_⟩) hHeld ?_ ?_
  rotate_left
  ·
   rintro w' ⟨s0, s1⟩
   go_simp
   with_reducible rfl
  rotate_left
  ·
   simp only [Act.put, List.setIfInBounds_toArray, List.set_cons_zero, List.set_cons_succ, i64_w, i32_w]
   rfl
  refine take_ (i := 2) (N := some 17) (v := ?_) (a' := ?_) #[true, false, true, false, false, false, false] rfl rfl (by kernel_rfl) (fun _ _ _ h => h) (Or.inl ⟨by rfl, ?_⟩) hHeld ?_ ?_
  rotate_left
  ·
   rintro w' ⟨s0, s1⟩
   go_simp
   with_reducible rfl
  rotate_left
  ·
   simp only [Act.put, List.setIfInBounds_toArray, List.set_cons_zero, List.set_cons_succ, i64_w, i32_w]
   rfl
  refine join_ (σ := Value × Value × Value × Nat) 2 #[true, true, true, true, true, false, false] (fun s_ => [(16, .agg #[s_.1, s_.2.1]), (18, s_.2.2.1), (4, .pointer (some ⟨s_.2.2.2, 0, none⟩))]) (fun s_ w' => (w'.cell? ⟨gb266, 0, none⟩ = some (.slice A0_0 l0_0.length c0_0) ∧ w'.cell? ⟨gb266, 1, none⟩ = some (.slice A0_1 l0_1.length c0_1)) ∧ (Kd.R k58 58 w' w.heap.size (fun k_ => some k_ ≠ (s_.2.1 : Value).ownBlock) s_.1 t269) ∧ (Kd.R k58 58 w' w.heap.size (fun k_ => some k_ ≠ (s_.1 : Value).ownBlock) s_.2.1 t272) ∧ (Kd.R (Kd.int .i64) 3 w' w.heap.size (fun _ => True) s_.2.2.1 t275) ∧ (w'.heap[gb266]? = some (.cells #[.slice A0_0 l0_0.length c0_0, .slice A0_1 l0_1.length c0_1] 27 (0, 0))) ∧ (w'.heap[gb267]? = some (.cells #[.slice none 0 0, .slice none 0 0] 27 (0, 0))) ∧ (w'.heap[s_.2.2.2]? = some (.cells #[.slice none 0 0, .slice none 0 0] 27 (0, 0))) ∧ (w.heap.size ≤ s_.2.2.2) ∧ (w.heap.size ≤ s_.2.2.2) ∧ (gb266 ≠ s_.2.2.2) ∧ (s_.2.2.2 ≠ gb266) ∧ (gb267 ≠ s_.2.2.2) ∧ (s_.2.2.2 ≠ gb267) ∧ (Below w.heap.size w w')) ?_ ?_
  rotate_left
  ·
   intro hCont
   refine two_ (i := 1) (j := 4) (Ni := some 16) (Nj := some 4) #[true, true, true, false, false, false, false] #[true, false, true, false, true, false, false] rfl rfl rfl rfl (by kernel_rfl) (by decide) (by decide) (fun K hK => ?_) (fun K hK => ?_)
   ·
    skip
    refine goes_ Try.func74 (by kernel_rfl) rfl #[.agg #[.slice A0_0 l0_0.length c0_0, .slice A0_1 l0_1.length c0_1]] (by rfl) rfl rfl tM ?_
    with_reducible refine (impl_copyMobile.calls _ _ l0_0 _ _ l0_1 t269 t272 _ ?side1 ?side2 ?side3 ?side4 A4.out).mono ?_
    (case side1 => exact tC (Kd.C_below HR0_0.out HB.out))
    (case side2 => exact HC0_0.out)
    (case side3 => exact tC (Kd.C_below HR0_1.out HB.out))
    (case side4 => exact HC0_1.out)
    rintro e w12 ⟨v270, v273, rfl, ho0, ho1, hb⟩
    refine ⟨_, rfl, ?_⟩
    have HO271 := Aside0.mk (Kd.R_lower ho0 (below_size (tB HB.out)))
    have HO274 := Aside0.mk (Kd.R_lower ho1 (below_size (tB HB.out)))
    replace BK266 := bkB BK266 hb
    replace BK267 := bkB BK267 hb
    replace HB := Aside0.mk (below_step (tB HB.out) hb)
    (try clear hb)
    (try clear hb2)
    (try clear hk)
    (try clear hi)
    (try clear ho0)
    (try clear ho1)
    refine hK.out _ _ ⟨(blk_cell BK266.out 0).trans rfl, (blk_cell BK266.out 1).trans rfl⟩ (fun hHeld => ?_)
    clear hK K
    refine norm_ (a' := ?_) ?_ ?_
    rotate_left
    ·
     show Act.put _ (some 16) _ = _
     simp only [Act.put, List.setIfInBounds_toArray, List.set_cons_zero, List.set_cons_succ, i64_w, i32_w]
     rfl
    refine two_ (i := 3) (j := 4) (Ni := some 18) (Nj := some 4) #[true, true, true, true, false, false, false] #[true, true, true, false, true, false, false] rfl rfl rfl rfl (by kernel_rfl) (by decide) (by decide) (fun K hK => ?_) (fun K hK => ?_)
    ·
     skip
     refine goes_ Try.func64 (by kernel_rfl) rfl #[.agg #[.slice A0_0 l0_0.length c0_0, .slice A0_1 l0_1.length c0_1]] (by rfl) rfl rfl tM ?_
     with_reducible refine (impl_rodWeights.calls k _ _ l0_0 _ _ l0_1 t275 _ ?side1 ?side2 ?side3 ?side4 A5.out).mono ?_
     (case side1 => exact tC (Kd.C_below HR0_0.out HB.out))
     (case side2 => exact HC0_0.out)
     (case side3 => exact tC (Kd.C_below HR0_1.out HB.out))
     (case side4 => exact HC0_1.out)
     rintro e w13 ⟨v276, rfl, ho0, hb⟩
     refine ⟨_, rfl, ?_⟩
     replace HO271 := Aside0.mk (Kd.R_below (tR HO271.out) hb)
     replace HO274 := Aside0.mk (Kd.R_below (tR HO274.out) hb)
     have HO277 := Aside0.mk (Kd.R_lower ho0 (below_size (tB HB.out)))
     replace BK266 := bkB BK266 hb
     replace BK267 := bkB BK267 hb
     replace HB := Aside0.mk (below_step (tB HB.out) hb)
     (try clear hb)
     (try clear hb2)
     (try clear hk)
     (try clear hi)
     (try clear ho0)
     refine hK.out _ _ ⟨(blk_cell BK266.out 0).trans rfl, (blk_cell BK266.out 1).trans rfl⟩ (fun hHeld => ?_)
     clear hK K
     refine norm_ (a' := ?_) ?_ ?_
     rotate_left
     ·
      show Act.put _ (some 18) _ = _
      simp only [Act.put, List.setIfInBounds_toArray, List.set_cons_zero, List.set_cons_succ, i64_w, i32_w]
      rfl
     refine one_ (i := 4) (N := some 4) #[true, true, true, true, true, false, false] rfl rfl (by kernel_rfl) (by decide) (fun K hK => ?_)
     refine box_step ?hg (N := 4) ?hd (cs := #[.slice none 0 0, .slice none 0 0]) (t := 27) ?hr ?_; (case hd => rfl); (case hg => rfl); (case hr => first | (go_simp; done) | (go_simp; rfl))
     intro gb278 hg w14 hbox hb
     replace HO271 := Aside0.mk (Kd.R_below (tR HO271.out) hb)
     replace HO274 := Aside0.mk (Kd.R_below (tR HO274.out) hb)
     replace HO277 := Aside0.mk (Kd.R_below (tR HO277.out) hb)
     have BK278 := Aside0.mk (hbox)
     have GW278 := Aside0.mk (bS HB.out hg)
     have GE278 := Aside0.mk (bS HB.out hg)
     replace HB := Aside0.mk (below_step (tB HB.out) hb)
     have NB266_278 := Aside0.mk (nL BK266.out hg)
     have NB278_266 := Aside0.mk (nG BK266.out hg)
     replace BK266 := bkB BK266 hb
     have NB267_278 := Aside0.mk (nL BK267.out hg)
     have NB278_267 := Aside0.mk (nG BK267.out hg)
     replace BK267 := bkB BK267 hb
     clear hb hbox hg
     refine hK.out _ _ ⟨(blk_cell BK266.out 0).trans rfl, (blk_cell BK266.out 1).trans rfl⟩ (fun hHeld => ?_)
     clear hK K
     refine norm_ (a' := ?_) ?_ ?_
     rotate_left
     ·
      show Act.put _ (some 4) _ = _
      simp only [Act.put, List.setIfInBounds_toArray, List.set_cons_zero, List.set_cons_succ, i64_w, i32_w]
      rfl
     exact norm_ (by simp only [putAll, Act.put, List.setIfInBounds_toArray, List.set_cons_zero, List.set_cons_succ]) (hCont (v270, v273, v276, gb278) _ ⟨hHeld, (tR HO271.out), (tR HO274.out), (tR HO277.out), (tK BK266.out), (tK BK267.out), (tK BK278.out), GW278.out, GE278.out, NB266_278.out, NB278_266.out, NB267_278.out, NB278_267.out, (tB HB.out)⟩)
    ·
     skip
     refine box_step ?hg (N := 4) ?hd (cs := #[.slice none 0 0, .slice none 0 0]) (t := 27) ?hr ?_; (case hd => rfl); (case hg => rfl); (case hr => first | (go_simp; done) | (go_simp; rfl))
     intro gb278 hg w13 hbox hb
     replace HO271 := Aside0.mk (Kd.R_below (tR HO271.out) hb)
     replace HO274 := Aside0.mk (Kd.R_below (tR HO274.out) hb)
     have BK278 := Aside0.mk (hbox)
     have GW278 := Aside0.mk (bS HB.out hg)
     have GE278 := Aside0.mk (bS HB.out hg)
     replace HB := Aside0.mk (below_step (tB HB.out) hb)
     have NB266_278 := Aside0.mk (nL BK266.out hg)
     have NB278_266 := Aside0.mk (nG BK266.out hg)
     replace BK266 := bkB BK266 hb
     have NB267_278 := Aside0.mk (nL BK267.out hg)
     have NB278_267 := Aside0.mk (nG BK267.out hg)
     replace BK267 := bkB BK267 hb
     clear hb hbox hg
     refine hK.out _ _ ⟨(blk_cell BK266.out 0).trans rfl, (blk_cell BK266.out 1).trans rfl⟩ (fun hHeld => ?_)
     clear hK K
     refine norm_ (a' := ?_) ?_ ?_
     rotate_left
     ·
      show Act.put _ (some 4) _ = _
      simp only [Act.put, List.setIfInBounds_toArray, List.set_cons_zero, List.set_cons_succ, i64_w, i32_w]
      rfl
     refine one_ (i := 3) (N := some 18) #[true, true, true, true, true, false, false] rfl rfl (by kernel_rfl) (by decide) (fun K hK => ?_)
     refine goes_ Try.func64 (by kernel_rfl) rfl #[.agg #[.slice A0_0 l0_0.length c0_0, .slice A0_1 l0_1.length c0_1]] (by rfl) rfl rfl tM ?_
     with_reducible refine (impl_rodWeights.calls k _ _ l0_0 _ _ l0_1 t275 _ ?side1 ?side2 ?side3 ?side4 A5.out).mono ?_
     (case side1 => exact tC (Kd.C_below HR0_0.out HB.out))
     (case side2 => exact HC0_0.out)
     (case side3 => exact tC (Kd.C_below HR0_1.out HB.out))
     (case side4 => exact HC0_1.out)
     rintro e w14 ⟨v276, rfl, ho0, hb⟩
     refine ⟨_, rfl, ?_⟩
     replace HO271 := Aside0.mk (Kd.R_below (tR HO271.out) hb)
     replace HO274 := Aside0.mk (Kd.R_below (tR HO274.out) hb)
     have HO277 := Aside0.mk (Kd.R_lower ho0 (below_size (tB HB.out)))
     replace BK266 := bkB BK266 hb
     replace BK267 := bkB BK267 hb
     replace BK278 := bkB BK278 hb
     replace HB := Aside0.mk (below_step (tB HB.out) hb)
     (try clear hb)
     (try clear hb2)
     (try clear hk)
     (try clear hi)
     (try clear ho0)
     refine hK.out _ _ ⟨(blk_cell BK266.out 0).trans rfl, (blk_cell BK266.out 1).trans rfl⟩ (fun hHeld => ?_)
     clear hK K
     refine norm_ (a' := ?_) ?_ ?_
     rotate_left
     ·
      show Act.put _ (some 18) _ = _
      simp only [Act.put, List.setIfInBounds_toArray, List.set_cons_zero, List.set_cons_succ, i64_w, i32_w]
      rfl
     exact norm_ (by simp only [putAll, Act.put, List.setIfInBounds_toArray, List.set_cons_zero, List.set_cons_succ]) (hCont (v270, v273, v276, gb278) _ ⟨hHeld, (tR HO271.out), (tR HO274.out), (tR HO277.out), (tK BK266.out), (tK BK267.out), (tK BK278.out), GW278.out, GE278.out, NB266_278.out, NB278_266.out, NB267_278.out, NB278_267.out, (tB HB.out)⟩)
   ·
    skip
    refine box_step ?hg (N := 4) ?hd (cs := #[.slice none 0 0, .slice none 0 0]) (t := 27) ?hr ?_; (case hd => rfl); (case hg => rfl); (case hr => first | (go_simp; done) | (go_simp; rfl))
    intro gb278 hg w12 hbox hb
    have BK278 := Aside0.mk (hbox)
    have GW278 := Aside0.mk (bS HB.out hg)
    have GE278 := Aside0.mk (bS HB.out hg)
    replace HB := Aside0.mk (below_step (tB HB.out) hb)
    have NB266_278 := Aside0.mk (nL BK266.out hg)
    have NB278_266 := Aside0.mk (nG BK266.out hg)
    replace BK266 := bkB BK266 hb
    have NB267_278 := Aside0.mk (nL BK267.out hg)
    have NB278_267 := Aside0.mk (nG BK267.out hg)
    replace BK267 := bkB BK267 hb
    clear hb hbox hg
    refine hK.out _ _ ⟨(blk_cell BK266.out 0).trans rfl, (blk_cell BK266.out 1).trans rfl⟩ (fun hHeld => ?_)
    clear hK K
    refine norm_ (a' := ?_) ?_ ?_
    rotate_left
    ·
     show Act.put _ (some 4) _ = _
     simp only [Act.put, List.setIfInBounds_toArray, List.set_cons_zero, List.set_cons_succ, i64_w, i32_w]
     rfl
    refine one_ (i := 1) (N := some 16) #[true, true, true, false, true, false, false] rfl rfl (by kernel_rfl) (by decide) (fun K hK => ?_)
    refine goes_ Try.func74 (by kernel_rfl) rfl #[.agg #[.slice A0_0 l0_0.length c0_0, .slice A0_1 l0_1.length c0_1]] (by rfl) rfl rfl tM ?_
    with_reducible refine (impl_copyMobile.calls _ _ l0_0 _ _ l0_1 t269 t272 _ ?side1 ?side2 ?side3 ?side4 A4.out).mono ?_
    (case side1 => exact tC (Kd.C_below HR0_0.out HB.out))
    (case side2 => exact HC0_0.out)
    (case side3 => exact tC (Kd.C_below HR0_1.out HB.out))
    (case side4 => exact HC0_1.out)
    rintro e w13 ⟨v270, v273, rfl, ho0, ho1, hb⟩
    refine ⟨_, rfl, ?_⟩
    have HO271 := Aside0.mk (Kd.R_lower ho0 (below_size (tB HB.out)))
    have HO274 := Aside0.mk (Kd.R_lower ho1 (below_size (tB HB.out)))
    replace BK266 := bkB BK266 hb
    replace BK267 := bkB BK267 hb
    replace BK278 := bkB BK278 hb
    replace HB := Aside0.mk (below_step (tB HB.out) hb)
    (try clear hb)
    (try clear hb2)
    (try clear hk)
    (try clear hi)
    (try clear ho0)
    (try clear ho1)
    refine hK.out _ _ ⟨(blk_cell BK266.out 0).trans rfl, (blk_cell BK266.out 1).trans rfl⟩ (fun hHeld => ?_)
    clear hK K
    refine norm_ (a' := ?_) ?_ ?_
    rotate_left
    ·
     show Act.put _ (some 16) _ = _
     simp only [Act.put, List.setIfInBounds_toArray, List.set_cons_zero, List.set_cons_succ, i64_w, i32_w]
     rfl
    refine one_ (i := 3) (N := some 18) #[true, true, true, true, true, false, false] rfl rfl (by kernel_rfl) (by decide) (fun K hK => ?_)
    refine goes_ Try.func64 (by kernel_rfl) rfl #[.agg #[.slice A0_0 l0_0.length c0_0, .slice A0_1 l0_1.length c0_1]] (by rfl) rfl rfl tM ?_
    with_reducible refine (impl_rodWeights.calls k _ _ l0_0 _ _ l0_1 t275 _ ?side1 ?side2 ?side3 ?side4 A5.out).mono ?_
    (case side1 => exact tC (Kd.C_below HR0_0.out HB.out))
    (case side2 => exact HC0_0.out)
    (case side3 => exact tC (Kd.C_below HR0_1.out HB.out))
    (case side4 => exact HC0_1.out)
    rintro e w14 ⟨v276, rfl, ho0, hb⟩
    refine ⟨_, rfl, ?_⟩
    replace HO271 := Aside0.mk (Kd.R_below (tR HO271.out) hb)
    replace HO274 := Aside0.mk (Kd.R_below (tR HO274.out) hb)
    have HO277 := Aside0.mk (Kd.R_lower ho0 (below_size (tB HB.out)))
    replace BK266 := bkB BK266 hb
    replace BK267 := bkB BK267 hb
    replace BK278 := bkB BK278 hb
    replace HB := Aside0.mk (below_step (tB HB.out) hb)
    (try clear hb)
    (try clear hb2)
    (try clear hk)
    (try clear hi)
    (try clear ho0)
    refine hK.out _ _ ⟨(blk_cell BK266.out 0).trans rfl, (blk_cell BK266.out 1).trans rfl⟩ (fun hHeld => ?_)
    clear hK K
    refine norm_ (a' := ?_) ?_ ?_
    rotate_left
    ·
     show Act.put _ (some 18) _ = _
     simp only [Act.put, List.setIfInBounds_toArray, List.set_cons_zero, List.set_cons_succ, i64_w, i32_w]
     rfl
    exact norm_ (by simp only [putAll, Act.put, List.setIfInBounds_toArray, List.set_cons_zero, List.set_cons_succ]) (hCont (v270, v273, v276, gb278) _ ⟨hHeld, (tR HO271.out), (tR HO274.out), (tR HO277.out), (tK BK266.out), (tK BK267.out), (tK BK278.out), GW278.out, GE278.out, NB266_278.out, NB278_266.out, NB267_278.out, NB278_267.out, (tB HB.out)⟩)
  rintro ⟨v270, v273, v276, gb278⟩ w15 ⟨hS_, h0_, h1_, h2_, h3_, h4_, h5_, h6_, h7_, h8_, h9_, h10_, h11_, h12_⟩
  have n0_ : Aside0 (Kd.R k58 58 w15 w.heap.size (fun k_ => some k_ ≠ (v273 : Value).ownBlock) v270 t269) := ⟨h0_⟩
  have n1_ : Aside0 (Kd.R k58 58 w15 w.heap.size (fun k_ => some k_ ≠ (v270 : Value).ownBlock) v273 t272) := ⟨h1_⟩
  have n2_ : Aside0 (Kd.R (Kd.int .i64) 3 w15 w.heap.size (fun _ => True) v276 t275) := ⟨h2_⟩
  have n3_ : Aside0 (w15.heap[gb266]? = some (.cells #[.slice A0_0 l0_0.length c0_0, .slice A0_1 l0_1.length c0_1] 27 (0, 0))) := ⟨h3_⟩
  have n4_ : Aside0 (w15.heap[gb267]? = some (.cells #[.slice none 0 0, .slice none 0 0] 27 (0, 0))) := ⟨h4_⟩
  have n5_ : Aside0 (w15.heap[gb278]? = some (.cells #[.slice none 0 0, .slice none 0 0] 27 (0, 0))) := ⟨h5_⟩
  have n6_ : Aside0 (w.heap.size ≤ gb278) := ⟨h6_⟩
  have n7_ : Aside0 (w.heap.size ≤ gb278) := ⟨h7_⟩
  have n8_ : Aside0 (gb266 ≠ gb278) := ⟨h8_⟩
  have n9_ : Aside0 (gb278 ≠ gb266) := ⟨h9_⟩
  have n10_ : Aside0 (gb267 ≠ gb278) := ⟨h10_⟩
  have n11_ : Aside0 (gb278 ≠ gb267) := ⟨h11_⟩
  have n12_ : Aside0 (Below w.heap.size w w15) := ⟨h12_⟩
  clear BK266
  clear BK267
  clear HB
  clear h0_ h1_ h2_ h3_ h4_ h5_ h6_ h7_ h8_ h9_ h10_ h11_ h12_
  have HO271 := n0_
  have HO274 := n1_
  have HO277 := n2_
  have BK266 := n3_
  have BK267 := n4_
  have BK278 := n5_
  have GW278 := n6_
  have GE278 := n7_
  have NB266_278 := n8_
  have NB278_266 := n9_
  have NB267_278 := n10_
  have NB278_267 := n11_
  have HB := n12_
  clear n0_ n1_ n2_ n3_ n4_ n5_ n6_ n7_ n8_ n9_ n10_ n11_ n12_
  have hHeld : w15.cell? ⟨gb266, 0, none⟩ = some (.slice A0_0 l0_0.length c0_0) ∧ w15.cell? ⟨gb266, 1, none⟩ = some (.slice A0_1 l0_1.length c0_1) := hS_
  obtain ⟨Ao16, co16, eo16⟩ := Kd.R_slice HO271.out
  (first | subst eo16 | (injection eo16 with f1_ f2_ f3_; have f4_ := f1_.symm; have f5_ := f3_.symm; clear f1_ f2_ f3_; subst f4_; subst f5_))
  obtain ⟨Ao18, co18, eo18⟩ := Kd.R_slice HO274.out
  (first | subst eo18 | (injection eo18 with f1_ f2_ f3_; have f4_ := f1_.symm; have f5_ := f3_.symm; clear f1_ f2_ f3_; subst f4_; subst f5_))
  refine norm_ (a' := ?_) ?_ ?_
  rotate_left
  ·
   simp only [putAll, Act.put, List.setIfInBounds_toArray, List.set_cons_zero, List.set_cons_succ]
   rfl
  refine one_ (i := 5) (N := none) #[true, true, true, true, true, true, false] rfl rfl (by kernel_rfl) (by decide) (fun K hK => ?_)
  have hs17 : w15.cell? ⟨gb278, 0, none⟩ = some (.slice none 0 0) := (blk_cell BK278.out 0).trans rfl
  have hfs17 := blk_frozen BK278.out 0
  have hns17_0 := NB266_278.out
  have hns17_1 := NB267_278.out
  have hms17_0 := NB278_266.out
  have hms17_1 := NB278_267.out
  have hs19 : w15.cell? ⟨gb278, 1, none⟩ = some (.slice none 0 0) := (blk_cell BK278.out 1).trans rfl
  have hfs19 := blk_frozen BK278.out 1
  have hns19_0 := NB266_278.out
  have hns19_1 := NB267_278.out
  have hms19_0 := NB278_266.out
  have hms19_1 := NB278_267.out
  refine skip_ (w1 := ?_) (by rfl) rfl ?_ ?_
  rotate_left
  ·
   go_simp
   rfl
  refine hK.out _ _ ⟨((cell_far (p := ⟨gb278, _, none⟩) NB266_278.out _).trans (((cell_far (p := ⟨gb278, _, none⟩) NB266_278.out _).trans (hHeld.1)))), ((cell_far (p := ⟨gb278, _, none⟩) NB266_278.out _).trans (((cell_far (p := ⟨gb278, _, none⟩) NB266_278.out _).trans (hHeld.2))))⟩ (fun hHeld => ?_)
  clear hK K
  refine pure_ (i := 6) (N := some 5) (v := ?_) (a' := ?_) #[true, true, true, true, true, true, true] rfl rfl (by kernel_rfl) (fun _ _ _ h => h) (Or.inl ⟨by rfl, ?_⟩) ?_ ?_
  rotate_left
  ·
   intro w'
   go_simp
   with_reducible rfl
  rotate_left
  ·
   simp only [Act.put, List.setIfInBounds_toArray, List.set_cons_zero, List.set_cons_succ, i64_w, i32_w]
   rfl
  refine done_ (by kernel_rfl) ?_
  have hnb20 := NB266_278.out
  have hnc20 := NB278_266.out
  obtain ⟨hcz21_0, hfz21_0, hcz21_1, hfz21_1⟩ := cz2 BK266
  try go_wp2
  go_loopg [22] k (fun kq v22 w' => ∃ (x22_1 : Int) (x279000_1 : List (S58)) (x279001_1 : List (S58)) (u279000 : Value) (u279001 : Value), v22 = .int .i64 x22_1 ∧ Aside0 (impl_LevelArms.l0 kq t275 l0_0 (l0_0.length : Int) x22_1 l0_0 l0_1 x279000_1 x279001_1 = some (r1, r2, r3)) ∧ Aside0 (kq ≤ k) ∧ Aside0 (Kd.R (Kd.int .i64) 3 w' w.heap.size (fun _ => True) v276 t275) ∧ Aside0 (Kd.R k58 58 w' w.heap.size (fun k_ => some k_ ≠ (u279001 : Value).ownBlock) u279000 x279000_1) ∧ Aside0 (Kd.R k58 58 w' w.heap.size (fun k_ => some k_ ≠ (u279000 : Value).ownBlock) u279001 x279001_1) ∧ Aside0 (w'.heap[gb266]? = some (.cells #[(.slice A0_0 l0_0.length c0_0), (.slice A0_1 l0_1.length c0_1)] 27 (0, 0))) ∧ Aside0 (w'.heap[gb267]? = some (.cells #[(.slice none 0 0), (.slice none 0 0)] 27 (0, 0))) ∧ Aside0 (w'.heap[gb278]? = some (.cells #[u279000, u279001] 27 (0, 0))) ∧ Aside0 (Below w.heap.size w w'))
  case atStart => exact ⟨(0), (t269), (t272), (.slice Ao16 t269.length co16), (.slice Ao18 t272.length co18), (by first | rfl | (simp; done) | (simp [wrap64]; done) | (simp [*]; done)), H', ⟨Nat.le_refl _⟩, ⟨by (with_reducible repeat (first | apply Kd.R_alloc | apply Kd.R_drewN | apply Kd.R_drew)); exact Kd.R_mono (Kd.R_far (p := ⟨gb278, 1, none⟩) (Kd.R_far (p := ⟨gb278, 0, none⟩) (Kd.R_types HO277.out BK278.out (by decide)) (fun _ hk => hk.2) (.slice Ao16 t269.length co16)) (fun _ hk => hk.2) (.slice Ao18 t272.length co18)) (fun _ hk => trivial)⟩, ⟨by (with_reducible repeat (first | apply Kd.R_alloc | apply Kd.R_drewN | apply Kd.R_drew)); exact Kd.R_mono (Kd.R_far (p := ⟨gb278, 1, none⟩) (Kd.R_far (p := ⟨gb278, 0, none⟩) (Kd.R_types HO271.out BK278.out (by decide)) (fun _ hk => hk.2) (.slice Ao16 t269.length co16)) (fun _ hk => hk.2) (.slice Ao18 t272.length co18)) (fun _ hk => hk.1)⟩, ⟨by (with_reducible repeat (first | apply Kd.R_alloc | apply Kd.R_drewN | apply Kd.R_drew)); exact Kd.R_mono (Kd.R_far (p := ⟨gb278, 1, none⟩) (Kd.R_far (p := ⟨gb278, 0, none⟩) (Kd.R_types HO274.out BK278.out (by decide)) (fun _ hk => hk.2) (.slice Ao16 t269.length co16)) (fun _ hk => hk.2) (.slice Ao18 t272.length co18)) (fun _ hk => hk.1)⟩, ⟨by (with_reducible repeat (first | refine blk_drewN ?_ _ | refine blk_drew ?_ | refine blk_alloc ?_ _)); refine blk_far ?_ NB266_278.out _; (with_reducible repeat (first | refine blk_drewN ?_ _ | refine blk_drew ?_ | refine blk_alloc ?_ _)); refine blk_far ?_ NB266_278.out _; (with_reducible repeat (first | refine blk_drewN ?_ _ | refine blk_drew ?_ | refine blk_alloc ?_ _)); exact BK266.out⟩, ⟨by (with_reducible repeat (first | refine blk_drewN ?_ _ | refine blk_drew ?_ | refine blk_alloc ?_ _)); refine blk_far ?_ NB267_278.out _; (with_reducible repeat (first | refine blk_drewN ?_ _ | refine blk_drew ?_ | refine blk_alloc ?_ _)); refine blk_far ?_ NB267_278.out _; (with_reducible repeat (first | refine blk_drewN ?_ _ | refine blk_drew ?_ | refine blk_alloc ?_ _)); exact BK267.out⟩, ⟨by (with_reducible repeat (first | refine blk_drewN ?_ _ | refine blk_drew ?_ | refine blk_alloc ?_ _)); refine blk_put (cs := #[.slice Ao16 t269.length co16, .slice none 0 0]) ?_ 1 _ rfl; (with_reducible repeat (first | refine blk_drewN ?_ _ | refine blk_drew ?_ | refine blk_alloc ?_ _)); refine blk_put (cs := #[.slice none 0 0, .slice none 0 0]) ?_ 0 _ rfl; (with_reducible repeat (first | refine blk_drewN ?_ _ | refine blk_drew ?_ | refine blk_alloc ?_ _)); exact BK278.out⟩, ⟨tB HB.out⟩⟩
  case round =>
   clear H'
   try clear c1
   try clear c2
   try clear p2
   try clear c3
   try clear c6
   try clear p6
   try clear c7
   try clear c8
   try clear c18
   try clear c20
   try clear hcz21_0
   try clear hcz21_1
   try clear hcz9_0
   try clear hcz9_1
   try clear hfz21_0
   try clear hfz21_1
   try clear hfz9_0
   try clear hfz9_1
   obtain ⟨x22_1, x279000_1, x279001_1, u279000, u279001, rfl, HA, HK1, HO_5, HO_279000, HO_279001, BK266, BK267, BK278, HB⟩ := hrel
   cases gk with
   | zero => exact absurd HA.out (by simp [impl_LevelArms.l0])
   | succ k1 =>
    have H := HA.out
    clear HA
    simp only [impl_LevelArms.l0] at H
    by_cases c22 : x22_1 < (l0_0.length : Int)
    ·
     rw [if_pos c22] at H
     have c22b0 : decide (x22_1 < (l0_0.length : Int)) = true := decide_eq_true c22
     clear c22
     by_cases c23 : 0 ≤ x22_1
     ·
      rw [if_pos c23] at H
      have c23b0 : decide (0 ≤ x22_1) = true := decide_eq_true c23
      clear c23
      by_cases c24 : x22_1 < (l0_0.length : Int)
      ·
       rw [if_pos c24] at H
       have c24b0 : decide (x22_1 < (l0_0.length : Int)) = true := decide_eq_true c24
       clear c24
       by_cases c25 : x22_1 < (l0_1.length : Int)
       ·
        rw [if_pos c25] at H
        have c25b0 : decide (x22_1 < (l0_1.length : Int)) = true := decide_eq_true c25
        clear c25
        replace H := Option.bind_eq_some_iff.mp H
        obtain ⟨t282, A260, H⟩ := H
        replace H : (if x22_1 < (t275.length : Int) then (if (rd t275 x22_1) = 0 then (none) else (if (Int.tmod (wrap64 ((wrap64 (((rd_T58 l0_0 x22_1).f0) + ((rd_T58 l0_0 x22_1).f1))) * t282)) (rd t275 x22_1)) = 0 then (if x22_1 < (x279000_1.length : Int) then (impl_LevelArms.l0 k1 t275 l0_0 (l0_0.length : Int) (wrap64 (x22_1 + 1)) l0_0 l0_1 (x279000_1.set (x22_1 : Int).toNat (⟨wrap64 (Int.tdiv (wrap64 ((wrap64 (((rd_T58 l0_0 x22_1).f0) + ((rd_T58 l0_0 x22_1).f1))) * t282)) (rd t275 x22_1)), wrap64 ((wrap64 (((rd_T58 l0_0 x22_1).f0) + ((rd_T58 l0_0 x22_1).f1))) - (wrap64 (Int.tdiv (wrap64 ((wrap64 (((rd_T58 l0_0 x22_1).f0) + ((rd_T58 l0_0 x22_1).f1))) * t282)) (rd t275 x22_1))))⟩ : S58)) x279001_1) else (none)) else (some (([] : List (S58)), ([] : List (S58)), false)))) else (none)) = some (r1, r2, r3) := H
        have A26 := Aside0.mk A260
        clear A260
        by_cases c27 : x22_1 < (t275.length : Int)
        ·
         rw [if_pos c27] at H
         have c27b0 : decide (x22_1 < (t275.length : Int)) = true := decide_eq_true c27
         clear c27
         by_cases c28 : (rd t275 x22_1) = 0
         ·
          rw [if_pos c28] at H
          exact absurd H (by simp)
         ·
          rw [if_neg c28] at H
          have c28b0 : ((rd t275 x22_1) == 0) = false := beq_eq_false_iff_ne.mpr c28
          have c28b1 : ((rd t275 x22_1) != 0) = true := bne_iff_ne.mpr c28
          by_cases c29 : (Int.tmod (wrap64 ((wrap64 (((rd_T58 l0_0 x22_1).f0) + ((rd_T58 l0_0 x22_1).f1))) * t282)) (rd t275 x22_1)) = 0
          ·
           rw [if_pos c29] at H
           have c29b0 : ((Int.tmod (wrap64 ((wrap64 (((rd_T58 l0_0 x22_1).f0) + ((rd_T58 l0_0 x22_1).f1))) * t282)) (rd t275 x22_1)) == 0) = true := beq_iff_eq.mpr c29
           have c29b1 : ((Int.tmod (wrap64 ((wrap64 (((rd_T58 l0_0 x22_1).f0) + ((rd_T58 l0_0 x22_1).f1))) * t282)) (rd t275 x22_1)) != 0) = false := bne_eq_false_iff_eq.mpr c29
           clear c29
           by_cases c30 : x22_1 < (x279000_1.length : Int)
           ·
            rw [if_pos c30] at H
            have c30b0 : decide (x22_1 < (x279000_1.length : Int)) = true := decide_eq_true c30
            clear c30
            obtain ⟨y285, hy285⟩ : ∃ y_ : List (S58), y_ = (x279000_1.set (x22_1 : Int).toNat (⟨wrap64 (Int.tdiv (wrap64 ((wrap64 (((rd_T58 l0_0 x22_1).f0) + ((rd_T58 l0_0 x22_1).f1))) * t282)) (rd t275 x22_1)), wrap64 ((wrap64 (((rd_T58 l0_0 x22_1).f0) + ((rd_T58 l0_0 x22_1).f1))) - (wrap64 (Int.tdiv (wrap64 ((wrap64 (((rd_T58 l0_0 x22_1).f0) + ((rd_T58 l0_0 x22_1).f1))) * t282)) (rd t275 x22_1))))⟩ : S58)) := ⟨_, rfl⟩
            replace H : (impl_LevelArms.l0 k1 t275 l0_0 (l0_0.length : Int) (wrap64 (x22_1 + 1)) l0_0 l0_1 y285 x279001_1) = some (r1, r2, r3) := by first | (rw [hy285]; with_reducible exact H) | (have H2_ := (Option.bind_some _ _).symm.trans H; rw [hy285]; with_reducible exact H2_) | (have H2_ := (Option.bind_some _ _).symm.trans H; with_reducible exact H2_) | with_reducible exact H | (rw [hy285]; exact H) | exact H
            have Ny285 := Aside0.mk hy285
            clear hy285
            have H' := Aside0.mk H
            clear H
            have p279 : 0 ≤ (x22_1 : Int) := of_decide_eq_true (by first | (with_reducible assumption) | assumption)
            have q279 : x22_1 < (l0_0.length : Int) := of_decide_eq_true (by first | (with_reducible assumption) | assumption)
            obtain ⟨ad279, e279, hx279_0, hx279_1⟩ := at_T58 HR0_0.out x22_1 p279 q279
            cases e279
            replace hx279_0 := (HB.out.cell (World.block_lt_of_cell? w _ hx279_0)).trans hx279_0
            replace hx279_1 := (HB.out.cell (World.block_lt_of_cell? w _ hx279_1)).trans hx279_1
            replace p279 := eq_true p279
            replace q279 := eq_true q279
            try go_wp2_with (first | ((with_reducible refine gate_dst (N := 7) rfl ?_); refine box_event ?hg (N := 7) ?hd (cs := #[.int .i64 0, .int .i64 0]) (t := 58) ?hr ?_; (case hd => rfl); (case hg => rfl); (case hr => first | (go_simp; done) | (go_simp; rfl)); intro gb280 hg w32 hbox hb; replace HO_5 := Aside0.mk (Kd.R_below (tR HO_5.out) hb); replace HO_279000 := Aside0.mk (Kd.R_below (Kd.R_elderB (tR HO_279000.out) gb280 (Nat.le_of_eq hg.symm)) hb); replace HO_279001 := Aside0.mk (Kd.R_below (Kd.R_elderB (tR HO_279001.out) gb280 (Nat.le_of_eq hg.symm)) hb); have BK280 := Aside0.mk (hbox); have GW280 := Aside0.mk (bS HB.out hg); have GE280 := Aside0.mk (bS HB.out hg); replace HB := Aside0.mk (below_step (tB HB.out) hb); have NB266_280 := Aside0.mk (nL BK266.out hg); have NB280_266 := Aside0.mk (nG BK266.out hg); replace BK266 := bkB BK266 hb; have NB267_280 := Aside0.mk (nL BK267.out hg); have NB280_267 := Aside0.mk (nG BK267.out hg); replace BK267 := bkB BK267 hb; have NB278_280 := Aside0.mk (nL BK278.out hg); have NB280_278 := Aside0.mk (nG BK278.out hg); replace BK278 := bkB BK278 hb; clear hb hbox hg; have hnb33 := NB280_266.out; have hnc33 := NB266_280.out; have hnb34 := NB280_267.out; have hnc34 := NB267_280.out; have hnb35 := NB280_278.out; have hnc35 := NB278_280.out; obtain ⟨hcz36_0, hfz36_0, hcz36_1, hfz36_1⟩ := cz2 BK280))
            have n0_ : Aside0 (Kd.R (Kd.int .i64) 3 ((w32.setCell ⟨gb280, 0, none⟩ (.int .i64 ((rd_T58 l0_0 x22_1).f0))).setCell ⟨gb280, 1, none⟩ (.int .i64 ((rd_T58 l0_0 x22_1).f1))) w.heap.size (fun _ => True) v276 t275) := ⟨by (with_reducible repeat (first | apply Kd.R_alloc | apply Kd.R_drewN | apply Kd.R_drew)); exact Kd.R_mono (Kd.R_far (p := ⟨gb280, 1, none⟩) (Kd.R_far (p := ⟨gb280, 0, none⟩) (Kd.R_types HO_5.out BK280.out (by decide)) (fun _ hk => hk.2) (.int .i64 ((rd_T58 l0_0 x22_1).f0))) (fun _ hk => hk.2) (.int .i64 ((rd_T58 l0_0 x22_1).f1))) (fun _ hk => trivial)⟩
            have n1_ : Aside0 (Kd.R k58 58 ((w32.setCell ⟨gb280, 0, none⟩ (.int .i64 ((rd_T58 l0_0 x22_1).f0))).setCell ⟨gb280, 1, none⟩ (.int .i64 ((rd_T58 l0_0 x22_1).f1))) w.heap.size (fun k_ => some k_ ≠ (u279001 : Value).ownBlock ∧ k_ ≠ gb280) u279000 x279000_1) := ⟨by (with_reducible repeat (first | apply Kd.R_alloc | apply Kd.R_drewN | apply Kd.R_drew)); exact Kd.R_mono (Kd.R_far (p := ⟨gb280, 1, none⟩) (Kd.R_far (p := ⟨gb280, 0, none⟩) (Kd.R_mono HO_279000.out (fun k_ hk => (⟨hk, hk.2⟩ : _ ∧ k_ ≠ gb280))) (fun _ hk => hk.2) (.int .i64 ((rd_T58 l0_0 x22_1).f0))) (fun _ hk => hk.2) (.int .i64 ((rd_T58 l0_0 x22_1).f1))) (fun _ hk => ⟨hk.1.1, hk.1.2⟩)⟩
            have n2_ : Aside0 (Kd.R k58 58 ((w32.setCell ⟨gb280, 0, none⟩ (.int .i64 ((rd_T58 l0_0 x22_1).f0))).setCell ⟨gb280, 1, none⟩ (.int .i64 ((rd_T58 l0_0 x22_1).f1))) w.heap.size (fun k_ => some k_ ≠ (u279000 : Value).ownBlock ∧ k_ ≠ gb280) u279001 x279001_1) := ⟨by (with_reducible repeat (first | apply Kd.R_alloc | apply Kd.R_drewN | apply Kd.R_drew)); exact Kd.R_mono (Kd.R_far (p := ⟨gb280, 1, none⟩) (Kd.R_far (p := ⟨gb280, 0, none⟩) (Kd.R_mono HO_279001.out (fun k_ hk => (⟨hk, hk.2⟩ : _ ∧ k_ ≠ gb280))) (fun _ hk => hk.2) (.int .i64 ((rd_T58 l0_0 x22_1).f0))) (fun _ hk => hk.2) (.int .i64 ((rd_T58 l0_0 x22_1).f1))) (fun _ hk => ⟨hk.1.1, hk.1.2⟩)⟩
            have n3_ : Aside0 (((w32.setCell ⟨gb280, 0, none⟩ (.int .i64 ((rd_T58 l0_0 x22_1).f0))).setCell ⟨gb280, 1, none⟩ (.int .i64 ((rd_T58 l0_0 x22_1).f1))).heap[gb266]? = some (.cells #[.slice (some ad279) l0_0.length c0_0, .slice A0_1 l0_1.length c0_1] 27 (0, 0))) := ⟨by (with_reducible repeat (first | refine blk_drewN ?_ _ | refine blk_drew ?_ | refine blk_alloc ?_ _)); refine blk_far ?_ NB266_280.out _; (with_reducible repeat (first | refine blk_drewN ?_ _ | refine blk_drew ?_ | refine blk_alloc ?_ _)); refine blk_far ?_ NB266_280.out _; (with_reducible repeat (first | refine blk_drewN ?_ _ | refine blk_drew ?_ | refine blk_alloc ?_ _)); exact BK266.out⟩
            have n4_ : Aside0 (((w32.setCell ⟨gb280, 0, none⟩ (.int .i64 ((rd_T58 l0_0 x22_1).f0))).setCell ⟨gb280, 1, none⟩ (.int .i64 ((rd_T58 l0_0 x22_1).f1))).heap[gb267]? = some (.cells #[.slice none 0 0, .slice none 0 0] 27 (0, 0))) := ⟨by (with_reducible repeat (first | refine blk_drewN ?_ _ | refine blk_drew ?_ | refine blk_alloc ?_ _)); refine blk_far ?_ NB267_280.out _; (with_reducible repeat (first | refine blk_drewN ?_ _ | refine blk_drew ?_ | refine blk_alloc ?_ _)); refine blk_far ?_ NB267_280.out _; (with_reducible repeat (first | refine blk_drewN ?_ _ | refine blk_drew ?_ | refine blk_alloc ?_ _)); exact BK267.out⟩
            have n5_ : Aside0 (((w32.setCell ⟨gb280, 0, none⟩ (.int .i64 ((rd_T58 l0_0 x22_1).f0))).setCell ⟨gb280, 1, none⟩ (.int .i64 ((rd_T58 l0_0 x22_1).f1))).heap[gb278]? = some (.cells #[u279000, u279001] 27 (0, 0))) := ⟨by (with_reducible repeat (first | refine blk_drewN ?_ _ | refine blk_drew ?_ | refine blk_alloc ?_ _)); refine blk_far ?_ NB278_280.out _; (with_reducible repeat (first | refine blk_drewN ?_ _ | refine blk_drew ?_ | refine blk_alloc ?_ _)); refine blk_far ?_ NB278_280.out _; (with_reducible repeat (first | refine blk_drewN ?_ _ | refine blk_drew ?_ | refine blk_alloc ?_ _)); exact BK278.out⟩
            have n6_ : Aside0 (((w32.setCell ⟨gb280, 0, none⟩ (.int .i64 ((rd_T58 l0_0 x22_1).f0))).setCell ⟨gb280, 1, none⟩ (.int .i64 ((rd_T58 l0_0 x22_1).f1))).heap[gb280]? = some (.cells #[.int .i64 ((rd_T58 l0_0 x22_1).f0), .int .i64 ((rd_T58 l0_0 x22_1).f1)] 58 (0, 0))) := ⟨by (with_reducible repeat (first | refine blk_drewN ?_ _ | refine blk_drew ?_ | refine blk_alloc ?_ _)); refine blk_put (cs := #[.int .i64 ((rd_T58 l0_0 x22_1).f0), .int .i64 0]) ?_ 1 _ rfl; (with_reducible repeat (first | refine blk_drewN ?_ _ | refine blk_drew ?_ | refine blk_alloc ?_ _)); refine blk_put (cs := #[.int .i64 0, .int .i64 0]) ?_ 0 _ rfl; (with_reducible repeat (first | refine blk_drewN ?_ _ | refine blk_drew ?_ | refine blk_alloc ?_ _)); exact BK280.out⟩
            have n7_ : Aside0 (Below w.heap.size w ((w32.setCell ⟨gb280, 0, none⟩ (.int .i64 ((rd_T58 l0_0 x22_1).f0))).setCell ⟨gb280, 1, none⟩ (.int .i64 ((rd_T58 l0_0 x22_1).f1)))) := ⟨tB HB.out⟩
            (try clear HO_5)
            (try clear HO_279000)
            (try clear HO_279001)
            (try clear BK266)
            (try clear BK267)
            (try clear BK278)
            (try clear BK280)
            (try clear HB)
            generalize ((w32.setCell ⟨gb280, 0, none⟩ (.int .i64 ((rd_T58 l0_0 x22_1).f0))).setCell ⟨gb280, 1, none⟩ (.int .i64 ((rd_T58 l0_0 x22_1).f1))) = w37 at n0_ n1_ n2_ n3_ n4_ n5_ n6_ n7_ ⊢
            have HO_5 := n0_
            have HO_279000 := n1_
            have HO_279001 := n2_
            have BK266 := n3_
            have BK267 := n4_
            have BK278 := n5_
            have BK280 := n6_
            have HB := n7_
            clear n0_ n1_ n2_ n3_ n4_ n5_ n6_ n7_
            replace HO_5 := Aside0.mk (Kd.R_drew HO_5.out)
            replace HO_279000 := Aside0.mk (Kd.R_drew HO_279000.out)
            replace HO_279001 := Aside0.mk (Kd.R_drew HO_279001.out)
            replace BK266 := Aside0.mk (blk_drew BK266.out)
            replace BK267 := Aside0.mk (blk_drew BK267.out)
            replace BK278 := Aside0.mk (blk_drew BK278.out)
            replace BK280 := Aside0.mk (blk_drew BK280.out)
            replace HB := Aside0.mk (below_drew1 HB.out)
            have p281 : 0 ≤ (x22_1 : Int) := of_decide_eq_true (by first | (with_reducible assumption) | assumption)
            have q281 : x22_1 < (l0_1.length : Int) := of_decide_eq_true (by first | (with_reducible assumption) | assumption)
            obtain ⟨ad281, e281, hx281_0, hx281_1⟩ := at_T58 HR0_1.out x22_1 p281 q281
            have hw281_1 := hx281_1
            have hw281_0 := hx281_0
            cases e281
            replace hx281_0 := (HB.out.cell (World.block_lt_of_cell? w _ hx281_0)).trans hx281_0
            replace hx281_1 := (HB.out.cell (World.block_lt_of_cell? w _ hx281_1)).trans hx281_1
            replace p281 := eq_true p281
            replace q281 := eq_true q281
            obtain ⟨Ao39, co39, eo39⟩ := Kd.R_slice HO_5.out
            (first | subst eo39 | (injection eo39 with f1_ f2_ f3_; have f4_ := f1_.symm; have f5_ := f3_.symm; clear f1_ f2_ f3_; subst f4_; subst f5_))
            refine start_ (n := 15) (S := fun w' => w'.cell? ⟨gb280, 0, none⟩ = some (.int .i64 ((rd_T58 l0_0 x22_1).f0)) ∧ w'.cell? ⟨gb280, 1, none⟩ = some (.int .i64 ((rd_T58 l0_0 x22_1).f1)) ∧ w'.cell? ⟨gb266, 0, none⟩ = some (.slice (some ad279) l0_0.length c0_0) ∧ w'.cell? ⟨gb266, 1, none⟩ = some (.slice (some ad281) l0_1.length c0_1) ∧ w'.cell? (ad281.add ((x22_1).toNat * 2)) = some (.int .i64 ((rd_T58 l0_1 x22_1).f0)) ∧ w'.cell? ⟨(ad281.add ((x22_1).toNat * 2)).block, (ad281.add ((x22_1).toNat * 2)).off + 1, none⟩ = some (.int .i64 ((rd_T58 l0_1 x22_1).f1))) (ds := []) #[false, false, false, false, false, false, false, false, false, false, false, false, false, false, false] (by kernel_rfl) rfl rfl ⟨(blk_cell BK280.out 0).trans rfl, (blk_cell BK280.out 1).trans rfl, (blk_cell BK266.out 0).trans rfl, (blk_cell BK266.out 1).trans rfl, ((HB.out.cell (World.block_lt_of_cell? w _ hw281_0)).trans hw281_0), ((HB.out.cell (World.block_lt_of_cell? w _ hw281_1)).trans hw281_1)⟩ (fun hHeld => ?_); refine with_tabW impl_LevelArms.tab7 impl_LevelArms.bits7 (fun HT_ HW_ => ?_)
            generalize w37.drew = w38 at HO_5 HO_279000 HO_279001 BK266 BK267 BK278 BK280 HB hx281_0 hx281_1 hHeld ⊢
            refine pure_ (i := 0) (N := some 27) (v := ?_) (a' := ?_) #[true, false, false, false, false, false, false, false, false, false, false, false, false, false, false] rfl rfl (any_of HT_.out (by kernel_rfl)) (fun _ _ _ h => h) (Or.inl ⟨by rfl, ?_⟩) ?_ ?_
            rotate_left
            ·
             intro w'
             go_simp
             with_reducible rfl
            rotate_left
            ·
             simp only [Act.put, List.setIfInBounds_toArray, List.set_cons_zero, List.set_cons_succ, i64_w, i32_w]
             rfl
            refine pure_ (i := 2) (N := some 29) (v := ?_) (a' := ?_) #[true, false, true, false, false, false, false, false, false, false, false, false, false, false, false] rfl rfl (any_of HT_.out (by kernel_rfl)) (fun _ _ _ h => h) (Or.inl ⟨by rfl, ?_⟩) ?_ ?_
            rotate_left
            ·
             intro w'
             go_simp
             with_reducible rfl
            rotate_left
            ·
             simp only [Act.put, List.setIfInBounds_toArray, List.set_cons_zero, List.set_cons_succ, i64_w, i32_w]
             rfl
            refine pure_ (i := 5) (N := some 32) (v := ?_) (a' := ?_) #[true, false, true, false, false, true, false, false, false, false, false, false, false, false, false] rfl rfl (any_of HT_.out (by kernel_rfl)) (fun _ _ _ h => h) (Or.inl ⟨by rfl, ?_⟩) ?_ ?_
            rotate_left
            ·
             intro w'
             go_simp
             with_reducible rfl
            rotate_left
            ·
             simp only [Act.put, List.setIfInBounds_toArray, List.set_cons_zero, List.set_cons_succ, i64_w, i32_w]
             rfl
            refine pure_ (i := 7) (N := some 34) (v := ?_) (a' := ?_) #[true, false, true, false, false, true, false, true, false, false, false, false, false, false, false] rfl rfl (any_of HT_.out (by kernel_rfl)) (fun _ _ _ h => h) (Or.inl ⟨by rfl, ?_⟩) ?_ ?_
            rotate_left
            ·
             intro w'
             go_simp
             with_reducible rfl
            rotate_left
            ·
             simp only [Act.put, List.setIfInBounds_toArray, List.set_cons_zero, List.set_cons_succ, i64_w, i32_w]
             rfl
            refine pure_ (i := 11) (N := some 38) (v := ?_) (a' := ?_) #[true, false, true, false, false, true, false, true, false, false, false, true, false, false, false] rfl rfl (any_of HT_.out (by kernel_rfl)) (fun _ _ _ h => h) (Or.inl ⟨by rfl, ?_⟩) ?_ ?_
            rotate_left
            ·
             intro w'
             go_simp
             with_reducible rfl
            rotate_left
            ·
             simp only [Act.put, List.setIfInBounds_toArray, List.set_cons_zero, List.set_cons_succ, i64_w, i32_w]
             rfl
            refine take_ (i := 1) (N := some 28) (v := ?_) (a' := ?_) #[true, true, true, false, false, true, false, true, false, false, false, true, false, false, false] rfl rfl (take_ofW HT_.out HW_.out (by kernel_rfl)) (fun _ _ _ h => h) (Or.inl ⟨by rfl, ?_⟩) hHeld ?_ ?_
            rotate_left
            ·
             rintro w' ⟨s0, s1, s2, s3, s4, s5⟩
             go_simp
             with_reducible rfl
            rotate_left
            ·
             simp only [Act.put, List.setIfInBounds_toArray, List.set_cons_zero, List.set_cons_succ, i64_w, i32_w]
             rfl
            refine take_ (i := 3) (N := some 30) (v := ?_) (a' := ?_) #[true, true, true, true, false, true, false, true, false, false, false, true, false, false, false] rfl rfl (take_ofW HT_.out HW_.out (by kernel_rfl)) (fun _ _ _ h => h) (Or.inl ⟨by rfl, ?_⟩) hHeld ?_ ?_
            rotate_left
            ·
             rintro w' ⟨s0, s1, s2, s3, s4, s5⟩
             go_simp
             with_reducible rfl
            rotate_left
            ·
             simp only [Act.put, List.setIfInBounds_toArray, List.set_cons_zero, List.set_cons_succ, i64_w, i32_w]
             rfl
            refine pure_ (i := 4) (N := some 31) (v := ?_) (a' := ?_) #[true, true, true, true, true, true, false, true, false, false, false, true, false, false, false] rfl rfl (any_of HT_.out (by kernel_rfl)) (fun _ _ _ h => h) (Or.inl ⟨by rfl, ?_⟩) ?_ ?_
            rotate_left
            ·
             intro w'
             go_simp
             with_reducible rfl
            rotate_left
            ·
             simp only [Act.put, List.setIfInBounds_toArray, List.set_cons_zero, List.set_cons_succ, i64_w, i32_w]
             rfl
            refine take_ (i := 6) (N := some 33) (v := ?_) (a' := ?_) #[true, true, true, true, true, true, true, true, false, false, false, true, false, false, false] rfl rfl (take_ofW HT_.out HW_.out (by kernel_rfl)) (fun _ _ _ h => h) (Or.inl ⟨by rfl, ?_⟩) hHeld ?_ ?_
            rotate_left
            ·
             rintro w' ⟨s0, s1, s2, s3, s4, s5⟩
             go_simp
             with_reducible rfl
            rotate_left
            ·
             simp only [Act.put, List.setIfInBounds_toArray, List.set_cons_zero, List.set_cons_succ, i64_w, i32_w]
             rfl
            refine pure_ (i := 8) (N := some 35) (v := ?_) (a' := ?_) #[true, true, true, true, true, true, true, true, true, false, false, true, false, false, false] rfl rfl (any_of HT_.out (by kernel_rfl)) (fun _ _ _ h => h) (Or.inl ⟨by rfl, ?_⟩) ?_ ?_
            rotate_left
            ·
             intro w'
             go_simp
             with_reducible rfl
            rotate_left
            ·
             simp only [Act.put, List.setIfInBounds_toArray, List.set_cons_zero, List.set_cons_succ, i64_w, i32_w]
             rfl
            refine pure_ (i := 9) (N := some 36) (v := ?_) (a' := ?_) #[true, true, true, true, true, true, true, true, true, true, false, true, false, false, false] rfl rfl (any_of HT_.out (by kernel_rfl)) (fun _ _ _ h => h) (Or.inl ⟨by rfl, ?_⟩) ?_ ?_
            rotate_left
            ·
             intro w'
             go_simp
             with_reducible rfl
            rotate_left
            ·
             simp only [Act.put, List.setIfInBounds_toArray, List.set_cons_zero, List.set_cons_succ, i64_w, i32_w]
             rfl
            refine take_ (i := 10) (N := some 37) (v := ?_) (a' := ?_) #[true, true, true, true, true, true, true, true, true, true, true, true, false, false, false] rfl rfl (take_ofW HT_.out HW_.out (by kernel_rfl)) (fun _ _ _ h => h) (Or.inl ⟨by rfl, ?_⟩) hHeld ?_ ?_
            rotate_left
            ·
             rintro w' ⟨s0, s1, s2, s3, s4, s5⟩
             go_simp
             with_reducible rfl
            rotate_left
            ·
             simp only [Act.put, List.setIfInBounds_toArray, List.set_cons_zero, List.set_cons_succ, i64_w, i32_w]
             rfl
            refine one_ (i := 12) (N := some 39) #[true, true, true, true, true, true, true, true, true, true, true, true, true, false, false] rfl rfl (one_of HT_.out (by kernel_rfl)) (by decide) (fun K hK => ?_)
            refine goes_ Try.func63 (by kernel_rfl) rfl #[.int .i64 ((rd_T58 l0_1 x22_1).f1), .slice Ao39 t275.length co39] (by rfl) rfl rfl tM ?_
            with_reducible refine (impl_weightAt.calls ((rd_T58 l0_1 x22_1).f1) _ _ t275 t282 _ ?side1 ?side2 A26.out).mono ?_
            (case side1 => exact tC (Kd.R_reads' HO_5.out).2.2)
            (case side2 => exact (Kd.R_reads' HO_5.out).2.1)
            rintro e w' ⟨rfl, ⟨nd, rfl⟩⟩
            refine ⟨_, rfl, ?_⟩
            refine hK.out _ _ ⟨(blk_cell BK280.out 0).trans rfl, (blk_cell BK280.out 1).trans rfl, (blk_cell BK266.out 0).trans rfl, (blk_cell BK266.out 1).trans rfl, ((HB.out.cell (World.block_lt_of_cell? w _ hw281_0)).trans hw281_0), ((HB.out.cell (World.block_lt_of_cell? w _ hw281_1)).trans hw281_1)⟩ (fun hHeld => ?_)
            clear hK K
            refine norm_ (a' := ?_) ?_ ?_
            rotate_left
            ·
             show Act.put _ (some 39) _ = _
             simp only [Act.put, List.setIfInBounds_toArray, List.set_cons_zero, List.set_cons_succ, i64_w, i32_w]
             rfl
            refine pure_ (i := 13) (N := some 8) (v := ?_) (a' := ?_) #[true, true, true, true, true, true, true, true, true, true, true, true, true, true, false] rfl rfl (any_of HT_.out (by kernel_rfl)) (fun _ _ _ h => h) (Or.inl ⟨by rfl, ?_⟩) ?_ ?_
            rotate_left
            ·
             intro w'
             go_simp
             with_reducible rfl
            rotate_left
            ·
             simp only [Act.put, List.setIfInBounds_toArray, List.set_cons_zero, List.set_cons_succ, i64_w, i32_w]
             rfl
            refine pure_ (i := 14) (N := some 9) (v := ?_) (a' := ?_) #[true, true, true, true, true, true, true, true, true, true, true, true, true, true, true] rfl rfl (any_of HT_.out (by kernel_rfl)) (fun _ _ _ h => h) (Or.inl ⟨by rfl, ?_⟩) ?_ ?_
            rotate_left
            ·
             intro w'
             go_simp
             with_reducible rfl
            rotate_left
            ·
             simp only [Act.put, List.setIfInBounds_toArray, List.set_cons_zero, List.set_cons_succ, i64_w, i32_w]
             rfl
            refine done_ (done_of HT_.out (by kernel_rfl)) ?_
            replace HO_5 := Aside0.mk (Kd.R_drewN HO_5.out nd)
            replace HO_279001 := Aside0.mk (Kd.R_drewN HO_279001.out nd)
            replace BK266 := Aside0.mk (blk_drewN BK266.out nd)
            replace BK267 := Aside0.mk (blk_drewN BK267.out nd)
            replace BK278 := Aside0.mk (blk_drewN BK278.out nd)
            replace BK280 := Aside0.mk (blk_drewN BK280.out nd)
            replace HO_279000 := Aside0.mk (Kd.R_drewN HO_279000.out nd)
            replace HB := Aside0.mk (pw_below_drewN HB.out nd)
            generalize w38.drewN nd = w38 at HO_5 HO_279001 BK266 BK267 BK278 BK280 HO_279000 HB ⊢
            have p283 : 0 ≤ (x22_1 : Int) := of_decide_eq_true (by first | (with_reducible assumption) | assumption)
            have q283 : x22_1 < (t275.length : Int) := of_decide_eq_true (by first | (with_reducible assumption) | assumption)
            obtain ⟨ad283, e283, hx283_0⟩ := Kd.at_int (Kd.R_reads' HO_5.out).2.2 x22_1 p283 q283
            cases e283
            replace p283 := eq_true p283
            replace q283 := eq_true q283
            have p284 : 0 ≤ (x22_1 : Int) := of_decide_eq_true (by first | (with_reducible assumption) | assumption)
            have q284 : x22_1 < (t275.length : Int) := of_decide_eq_true (by first | (with_reducible assumption) | assumption)
            obtain ⟨ad284, e284, hx284_0⟩ := Kd.at_int (Kd.R_reads' HO_5.out).2.2 x22_1 p284 q284
            obtain rfl : ad283 = ad284 := (by injection e284)
            replace p284 := eq_true p284
            replace q284 := eq_true q284
            have hnb40 := NB278_266.out
            have hnc40 := NB266_278.out
            have hnb41 := NB278_267.out
            have hnc41 := NB267_278.out
            obtain ⟨hcz42_0, hfz42_0, hcz42_1, hfz42_1⟩ := cz2 BK278
            have p31 : 0 ≤ (x22_1 : Int) := of_decide_eq_true (by first | (with_reducible assumption) | assumption)
            have q31 : (x22_1 : Int) < ((x279000_1.length : Int) : Int) := of_decide_eq_true (by first | (with_reducible assumption) | assumption)
            obtain ⟨go31, co31, eo31, gb31, gl31, cl31, HG31⟩ := Kd.R_form HO_279000.out (by omega)
            (first | cases eo31 | (injection eo31 with ea_ en_ ec_; (first | subst ea_ | (injection ea_ with ea_; subst ea_)); subst ec_; clear en_))
            have GB31 := Aside0.mk gb31
            have GG31 := Aside0.mk HG31
            clear gb31 gl31 HG31
            obtain ⟨ce31, hcl31, hM31, hcc31, hfr31⟩ := Kd.R_elem HO_279000.out z58 (x22_1 : Int) p31 q31
            obtain rfl := k58_openM hM31
            have hx31_0 : w38.cell? ⟨go31, (x22_1 : Int).toNat * 2, none⟩ = some (.int .i64 ((rd_T58 x279000_1 x22_1).f0)) := hcc31 0 _ rfl
            have hx31_1 : w38.cell? ⟨go31, (x22_1 : Int).toNat * 2 + 1, none⟩ = some (.int .i64 ((rd_T58 x279000_1 x22_1).f1)) := hcc31 1 _ rfl
            have hf31_0 : w38.frozen? ⟨go31, (x22_1 : Int).toNat * 2, none⟩ = false := hfr31 0
            have hf31_1 : w38.frozen? ⟨go31, (x22_1 : Int).toNat * 2 + 1, none⟩ = false := hfr31 1
            clear hcl31 hcc31 hfr31 hM31
            replace p31 := eq_true p31
            replace q31 := eq_true q31
            have HX43 := Aside0.mk (show Kd.R k58 58 w38 w.heap.size (fun k_ => some k_ ≠ (u279001 : Value).ownBlock ∧ k_ ≠ gb280) (.slice (some ⟨go31, 0, none⟩) x279000_1.length co31) x279000_1 from (tR HO_279000.out))
            obtain ⟨ce43, hcl43, hM43, hcc43, hfr43⟩ := Kd.R_elem HX43.out z58 (x22_1 : Int) (of_decide_eq_true (by first | (with_reducible assumption) | assumption)) (by have h_ : (x22_1 : Int) < ((x279000_1.length : Int) : Int) := of_decide_eq_true (by first | (with_reducible assumption) | assumption); first | exact h_ | (have e_ := (Kd.R_reads' HO_279000.out).1; omega) | simpa using h_)
            obtain rfl := k58_openM hM43
            have HP43 := Kd.R_seg HX43.out (x22_1 : Int) (of_decide_eq_true (by first | (with_reducible assumption) | assumption)) (by have h_ : (x22_1 : Int) < ((x279000_1.length : Int) : Int) := of_decide_eq_true (by first | (with_reducible assumption) | assumption); first | exact h_ | (have e_ := (Kd.R_reads' HO_279000.out).1; omega) | simpa using h_) (seg := [.int .i64 (wrap64 (Int.tdiv (wrap64 ((wrap64 (((rd_T58 l0_0 x22_1).f0) + ((rd_T58 l0_0 x22_1).f1))) * t282)) (rd t275 x22_1))), .int .i64 (wrap64 ((wrap64 (((rd_T58 l0_0 x22_1).f0) + ((rd_T58 l0_0 x22_1).f1))) - (wrap64 (Int.tdiv (wrap64 ((wrap64 (((rd_T58 l0_0 x22_1).f0) + ((rd_T58 l0_0 x22_1).f1))) * t282)) (rd t275 x22_1)))))]) (j := 0) hcl43 hcc43 (show 2 ≤ 2 from by decide) (x' := (⟨wrap64 (Int.tdiv (wrap64 ((wrap64 (((rd_T58 l0_0 x22_1).f0) + ((rd_T58 l0_0 x22_1).f1))) * t282)) (rd t275 x22_1)), wrap64 ((wrap64 (((rd_T58 l0_0 x22_1).f0) + ((rd_T58 l0_0 x22_1).f1))) - (wrap64 (Int.tdiv (wrap64 ((wrap64 (((rd_T58 l0_0 x22_1).f0) + ((rd_T58 l0_0 x22_1).f1))) * t282)) (rd t275 x22_1))))⟩ : S58)) (k58_mkM _ _ _ (⟨wrap64 (Int.tdiv (wrap64 ((wrap64 (((rd_T58 l0_0 x22_1).f0) + ((rd_T58 l0_0 x22_1).f1))) * t282)) (rd t275 x22_1)), wrap64 ((wrap64 (((rd_T58 l0_0 x22_1).f0) + ((rd_T58 l0_0 x22_1).f1))) - (wrap64 (Int.tdiv (wrap64 ((wrap64 (((rd_T58 l0_0 x22_1).f0) + ((rd_T58 l0_0 x22_1).f1))) * t282)) (rd t275 x22_1))))⟩ : S58) ) (fun _ hk => hk)
            have hx43_0 := hcc43 0 _ rfl
            (try simp only [show (k58).sz = 2 from rfl, Nat.mul_one, Nat.add_zero] at hx43_0)
            have hf43_0 := hfr43 0
            (try simp only [show (k58).sz = 2 from rfl, Nat.mul_one, Nat.add_zero] at hf43_0)
            have hx43_1 := hcc43 1 _ rfl
            (try simp only [show (k58).sz = 2 from rfl, Nat.mul_one, Nat.add_zero] at hx43_1)
            have hf43_1 := hfr43 1
            (try simp only [show (k58).sz = 2 from rfl, Nat.mul_one, Nat.add_zero] at hf43_1)
            clear hcl43 hcc43 hfr43 hM43
            try go_wp2_with (first | ((with_reducible refine gate_store (t := 58) (p := 66) rfl ?_); refine store_event (t := 58) (p := 66) (v := ?vo_w44) (w1 := ((w38.setCell ⟨go31, (x22_1 : Int).toNat * 2, none⟩ (.int .i64 (wrap64 (Int.tdiv (wrap64 ((wrap64 (((rd_T58 l0_0 x22_1).f0) + ((rd_T58 l0_0 x22_1).f1))) * t282)) (rd t275 x22_1))))).setCell ⟨go31, (x22_1 : Int).toNat * 2 + 1, none⟩ (.int .i64 (wrap64 ((wrap64 (((rd_T58 l0_0 x22_1).f0) + ((rd_T58 l0_0 x22_1).f1))) - (wrap64 (Int.tdiv (wrap64 ((wrap64 (((rd_T58 l0_0 x22_1).f0) + ((rd_T58 l0_0 x22_1).f1))) * t282)) (rd t275 x22_1)))))))) ?hg ?ho ?hn ?hr ?_; (case ho => rfl); (case hg => rfl); (case hn => rfl); (case hr => first | (go_simp; done) | (go_simp; rfl)); intro w44 hw; have hg : w38.grownBy w44 (some go31) := (by rw [hw]; exact HP43.2); have hp_ : Kd.R k58 58 w44 w.heap.size (fun k_ => some k_ ≠ (u279001 : Value).ownBlock ∧ k_ ≠ gb280) (.slice (some ⟨go31, 0, none⟩) x279000_1.length co31) y285 := (by rw [hw, Ny285.out]; exact HP43.1); clear HP43; replace HO_5 := Aside0.mk (Kd.R_over' (v := (.slice (some ⟨go31, 0, none⟩) x279000_1.length co31)) (tR HO_5.out) (Kd.R_typed HO_279000.out) (by decide) hg); replace HO_279001 := Aside0.mk (Kd.R_after (v := (.slice (some ⟨go31, 0, none⟩) x279000_1.length co31)) (v1 := (.slice (some ⟨go31, 0, none⟩) x279000_1.length co31)) (ok := (fun k_ => k_ ≠ gb280)) (by (with_reducible repeat (first | apply Kd.R_alloc | apply Kd.R_drewN | apply Kd.R_drew)); exact Kd.R_mono HO_279001.out (fun _ hk => ⟨hk.2, hk.1⟩)) hg (.inl rfl)); replace BK266 := Aside0.mk (blk_grown (g := gb266) (o := .cells #[.slice (some ad279) l0_0.length c0_0, .slice (some ad281) l0_1.length c0_1] 27 (0, 0)) (tK BK266.out) hg (Kd.R_ne HO_279000.out BK266.out (by decide))); replace BK267 := Aside0.mk (blk_grown (g := gb267) (o := .cells #[.slice none 0 0, .slice none 0 0] 27 (0, 0)) (tK BK267.out) hg (Kd.R_ne HO_279000.out BK267.out (by decide))); replace BK278 := Aside0.mk (blk_grown (g := gb278) (o := .cells #[.slice (some ⟨go31, 0, none⟩) x279000_1.length co31, u279001] 27 (0, 0)) (tK BK278.out) hg (Kd.R_ne HO_279000.out BK278.out (by decide))); replace BK280 := Aside0.mk (blk_grown (g := gb280) (o := .cells #[.int .i64 ((rd_T58 l0_0 x22_1).f0), .int .i64 ((rd_T58 l0_0 x22_1).f1)] 58 (0, 0)) (tK BK280.out) hg (Kd.R_away HO_279000.out (fun _ hk => hk.2))); replace HO_279000 := Aside0.mk (hp_); replace HB := Aside0.mk ((by rw [hw]; exact below_set (below_set (HB.out) GB31.out) GB31.out : Below w.heap.size w w44)); clear hg hw hp_))
            go_roundg k1
            case measure => have := HK1.out; omega
            case rel => exact ⟨(wrap64 (x22_1 + 1)), (y285), (x279001_1), (.slice (some ⟨go31, 0, none⟩) x279000_1.length co31), (u279001), (by first | rfl | (simp; done) | (simp [wrap64]; done) | (simp [*]; done)), H', ⟨by have := HK1.out; omega⟩, ⟨tR HO_5.out⟩, ⟨by (with_reducible repeat (first | apply Kd.R_alloc | apply Kd.R_drewN | apply Kd.R_drew)); exact Kd.R_mono HO_279000.out (fun _ hk => hk.1)⟩, ⟨by (with_reducible repeat (first | apply Kd.R_alloc | apply Kd.R_drewN | apply Kd.R_drew)); exact Kd.R_mono HO_279001.out (fun _ hk => hk.2)⟩, ⟨tK BK266.out⟩, ⟨tK BK267.out⟩, ⟨tK BK278.out⟩, ⟨tB HB.out⟩⟩
           ·
            rw [if_neg c30] at H
            exact absurd H (by simp)
          ·
           rw [if_neg c29] at H
           have c29b0 : ((Int.tmod (wrap64 ((wrap64 (((rd_T58 l0_0 x22_1).f0) + ((rd_T58 l0_0 x22_1).f1))) * t282)) (rd t275 x22_1)) == 0) = false := beq_eq_false_iff_ne.mpr c29
           have c29b1 : ((Int.tmod (wrap64 ((wrap64 (((rd_T58 l0_0 x22_1).f0) + ((rd_T58 l0_0 x22_1).f1))) * t282)) (rd t275 x22_1)) != 0) = true := bne_iff_ne.mpr c29
           simp only [Option.some.injEq, Prod.mk.injEq] at H
           obtain ⟨rfl, rfl, rfl⟩ := H
           have p279 : 0 ≤ (x22_1 : Int) := of_decide_eq_true (by first | (with_reducible assumption) | assumption)
           have q279 : x22_1 < (l0_0.length : Int) := of_decide_eq_true (by first | (with_reducible assumption) | assumption)
           obtain ⟨ad279, e279, hx279_0, hx279_1⟩ := at_T58 HR0_0.out x22_1 p279 q279
           cases e279
           replace hx279_0 := (HB.out.cell (World.block_lt_of_cell? w _ hx279_0)).trans hx279_0
           replace hx279_1 := (HB.out.cell (World.block_lt_of_cell? w _ hx279_1)).trans hx279_1
           replace p279 := eq_true p279
           replace q279 := eq_true q279
           try go_wp2_with (first | ((with_reducible refine gate_dst (N := 7) rfl ?_); refine box_event ?hg (N := 7) ?hd (cs := #[.int .i64 0, .int .i64 0]) (t := 58) ?hr ?_; (case hd => rfl); (case hg => rfl); (case hr => first | (go_simp; done) | (go_simp; rfl)); intro gb280 hg w45 hbox hb; replace HO_5 := Aside0.mk (Kd.R_below (tR HO_5.out) hb); replace HO_279000 := Aside0.mk (Kd.R_below (Kd.R_elderB (tR HO_279000.out) gb280 (Nat.le_of_eq hg.symm)) hb); replace HO_279001 := Aside0.mk (Kd.R_below (Kd.R_elderB (tR HO_279001.out) gb280 (Nat.le_of_eq hg.symm)) hb); have BK280 := Aside0.mk (hbox); have GW280 := Aside0.mk (bS HB.out hg); have GE280 := Aside0.mk (bS HB.out hg); replace HB := Aside0.mk (below_step (tB HB.out) hb); have NB266_280 := Aside0.mk (nL BK266.out hg); have NB280_266 := Aside0.mk (nG BK266.out hg); replace BK266 := bkB BK266 hb; have NB267_280 := Aside0.mk (nL BK267.out hg); have NB280_267 := Aside0.mk (nG BK267.out hg); replace BK267 := bkB BK267 hb; have NB278_280 := Aside0.mk (nL BK278.out hg); have NB280_278 := Aside0.mk (nG BK278.out hg); replace BK278 := bkB BK278 hb; clear hb hbox hg; have hnb46 := NB280_266.out; have hnc46 := NB266_280.out; have hnb47 := NB280_267.out; have hnc47 := NB267_280.out; have hnb48 := NB280_278.out; have hnc48 := NB278_280.out; obtain ⟨hcz49_0, hfz49_0, hcz49_1, hfz49_1⟩ := cz2 BK280))
           have n0_ : Aside0 (Kd.R (Kd.int .i64) 3 ((w45.setCell ⟨gb280, 0, none⟩ (.int .i64 ((rd_T58 l0_0 x22_1).f0))).setCell ⟨gb280, 1, none⟩ (.int .i64 ((rd_T58 l0_0 x22_1).f1))) w.heap.size (fun _ => True) v276 t275) := ⟨by (with_reducible repeat (first | apply Kd.R_alloc | apply Kd.R_drewN | apply Kd.R_drew)); exact Kd.R_mono (Kd.R_far (p := ⟨gb280, 1, none⟩) (Kd.R_far (p := ⟨gb280, 0, none⟩) (Kd.R_types HO_5.out BK280.out (by decide)) (fun _ hk => hk.2) (.int .i64 ((rd_T58 l0_0 x22_1).f0))) (fun _ hk => hk.2) (.int .i64 ((rd_T58 l0_0 x22_1).f1))) (fun _ hk => trivial)⟩
           have n1_ : Aside0 (Kd.R k58 58 ((w45.setCell ⟨gb280, 0, none⟩ (.int .i64 ((rd_T58 l0_0 x22_1).f0))).setCell ⟨gb280, 1, none⟩ (.int .i64 ((rd_T58 l0_0 x22_1).f1))) w.heap.size (fun k_ => some k_ ≠ (u279001 : Value).ownBlock ∧ k_ ≠ gb280) u279000 x279000_1) := ⟨by (with_reducible repeat (first | apply Kd.R_alloc | apply Kd.R_drewN | apply Kd.R_drew)); exact Kd.R_mono (Kd.R_far (p := ⟨gb280, 1, none⟩) (Kd.R_far (p := ⟨gb280, 0, none⟩) (Kd.R_mono HO_279000.out (fun k_ hk => (⟨hk, hk.2⟩ : _ ∧ k_ ≠ gb280))) (fun _ hk => hk.2) (.int .i64 ((rd_T58 l0_0 x22_1).f0))) (fun _ hk => hk.2) (.int .i64 ((rd_T58 l0_0 x22_1).f1))) (fun _ hk => ⟨hk.1.1, hk.1.2⟩)⟩
           have n2_ : Aside0 (Kd.R k58 58 ((w45.setCell ⟨gb280, 0, none⟩ (.int .i64 ((rd_T58 l0_0 x22_1).f0))).setCell ⟨gb280, 1, none⟩ (.int .i64 ((rd_T58 l0_0 x22_1).f1))) w.heap.size (fun k_ => some k_ ≠ (u279000 : Value).ownBlock ∧ k_ ≠ gb280) u279001 x279001_1) := ⟨by (with_reducible repeat (first | apply Kd.R_alloc | apply Kd.R_drewN | apply Kd.R_drew)); exact Kd.R_mono (Kd.R_far (p := ⟨gb280, 1, none⟩) (Kd.R_far (p := ⟨gb280, 0, none⟩) (Kd.R_mono HO_279001.out (fun k_ hk => (⟨hk, hk.2⟩ : _ ∧ k_ ≠ gb280))) (fun _ hk => hk.2) (.int .i64 ((rd_T58 l0_0 x22_1).f0))) (fun _ hk => hk.2) (.int .i64 ((rd_T58 l0_0 x22_1).f1))) (fun _ hk => ⟨hk.1.1, hk.1.2⟩)⟩
           have n3_ : Aside0 (((w45.setCell ⟨gb280, 0, none⟩ (.int .i64 ((rd_T58 l0_0 x22_1).f0))).setCell ⟨gb280, 1, none⟩ (.int .i64 ((rd_T58 l0_0 x22_1).f1))).heap[gb266]? = some (.cells #[.slice (some ad279) l0_0.length c0_0, .slice A0_1 l0_1.length c0_1] 27 (0, 0))) := ⟨by (with_reducible repeat (first | refine blk_drewN ?_ _ | refine blk_drew ?_ | refine blk_alloc ?_ _)); refine blk_far ?_ NB266_280.out _; (with_reducible repeat (first | refine blk_drewN ?_ _ | refine blk_drew ?_ | refine blk_alloc ?_ _)); refine blk_far ?_ NB266_280.out _; (with_reducible repeat (first | refine blk_drewN ?_ _ | refine blk_drew ?_ | refine blk_alloc ?_ _)); exact BK266.out⟩
           have n4_ : Aside0 (((w45.setCell ⟨gb280, 0, none⟩ (.int .i64 ((rd_T58 l0_0 x22_1).f0))).setCell ⟨gb280, 1, none⟩ (.int .i64 ((rd_T58 l0_0 x22_1).f1))).heap[gb267]? = some (.cells #[.slice none 0 0, .slice none 0 0] 27 (0, 0))) := ⟨by (with_reducible repeat (first | refine blk_drewN ?_ _ | refine blk_drew ?_ | refine blk_alloc ?_ _)); refine blk_far ?_ NB267_280.out _; (with_reducible repeat (first | refine blk_drewN ?_ _ | refine blk_drew ?_ | refine blk_alloc ?_ _)); refine blk_far ?_ NB267_280.out _; (with_reducible repeat (first | refine blk_drewN ?_ _ | refine blk_drew ?_ | refine blk_alloc ?_ _)); exact BK267.out⟩
           have n5_ : Aside0 (((w45.setCell ⟨gb280, 0, none⟩ (.int .i64 ((rd_T58 l0_0 x22_1).f0))).setCell ⟨gb280, 1, none⟩ (.int .i64 ((rd_T58 l0_0 x22_1).f1))).heap[gb278]? = some (.cells #[u279000, u279001] 27 (0, 0))) := ⟨by (with_reducible repeat (first | refine blk_drewN ?_ _ | refine blk_drew ?_ | refine blk_alloc ?_ _)); refine blk_far ?_ NB278_280.out _; (with_reducible repeat (first | refine blk_drewN ?_ _ | refine blk_drew ?_ | refine blk_alloc ?_ _)); refine blk_far ?_ NB278_280.out _; (with_reducible repeat (first | refine blk_drewN ?_ _ | refine blk_drew ?_ | refine blk_alloc ?_ _)); exact BK278.out⟩
           have n6_ : Aside0 (((w45.setCell ⟨gb280, 0, none⟩ (.int .i64 ((rd_T58 l0_0 x22_1).f0))).setCell ⟨gb280, 1, none⟩ (.int .i64 ((rd_T58 l0_0 x22_1).f1))).heap[gb280]? = some (.cells #[.int .i64 ((rd_T58 l0_0 x22_1).f0), .int .i64 ((rd_T58 l0_0 x22_1).f1)] 58 (0, 0))) := ⟨by (with_reducible repeat (first | refine blk_drewN ?_ _ | refine blk_drew ?_ | refine blk_alloc ?_ _)); refine blk_put (cs := #[.int .i64 ((rd_T58 l0_0 x22_1).f0), .int .i64 0]) ?_ 1 _ rfl; (with_reducible repeat (first | refine blk_drewN ?_ _ | refine blk_drew ?_ | refine blk_alloc ?_ _)); refine blk_put (cs := #[.int .i64 0, .int .i64 0]) ?_ 0 _ rfl; (with_reducible repeat (first | refine blk_drewN ?_ _ | refine blk_drew ?_ | refine blk_alloc ?_ _)); exact BK280.out⟩
           have n7_ : Aside0 (Below w.heap.size w ((w45.setCell ⟨gb280, 0, none⟩ (.int .i64 ((rd_T58 l0_0 x22_1).f0))).setCell ⟨gb280, 1, none⟩ (.int .i64 ((rd_T58 l0_0 x22_1).f1)))) := ⟨tB HB.out⟩
           (try clear HO_5)
           (try clear HO_279000)
           (try clear HO_279001)
           (try clear BK266)
           (try clear BK267)
           (try clear BK278)
           (try clear BK280)
           (try clear HB)
           generalize ((w45.setCell ⟨gb280, 0, none⟩ (.int .i64 ((rd_T58 l0_0 x22_1).f0))).setCell ⟨gb280, 1, none⟩ (.int .i64 ((rd_T58 l0_0 x22_1).f1))) = w50 at n0_ n1_ n2_ n3_ n4_ n5_ n6_ n7_ ⊢
           have HO_5 := n0_
           have HO_279000 := n1_
           have HO_279001 := n2_
           have BK266 := n3_
           have BK267 := n4_
           have BK278 := n5_
           have BK280 := n6_
           have HB := n7_
           clear n0_ n1_ n2_ n3_ n4_ n5_ n6_ n7_
           replace HO_5 := Aside0.mk (Kd.R_drew HO_5.out)
           replace HO_279000 := Aside0.mk (Kd.R_drew HO_279000.out)
           replace HO_279001 := Aside0.mk (Kd.R_drew HO_279001.out)
           replace BK266 := Aside0.mk (blk_drew BK266.out)
           replace BK267 := Aside0.mk (blk_drew BK267.out)
           replace BK278 := Aside0.mk (blk_drew BK278.out)
           replace BK280 := Aside0.mk (blk_drew BK280.out)
           replace HB := Aside0.mk (below_drew1 HB.out)
           have p281 : 0 ≤ (x22_1 : Int) := of_decide_eq_true (by first | (with_reducible assumption) | assumption)
           have q281 : x22_1 < (l0_1.length : Int) := of_decide_eq_true (by first | (with_reducible assumption) | assumption)
           obtain ⟨ad281, e281, hx281_0, hx281_1⟩ := at_T58 HR0_1.out x22_1 p281 q281
           have hw281_1 := hx281_1
           have hw281_0 := hx281_0
           cases e281
           replace hx281_0 := (HB.out.cell (World.block_lt_of_cell? w _ hx281_0)).trans hx281_0
           replace hx281_1 := (HB.out.cell (World.block_lt_of_cell? w _ hx281_1)).trans hx281_1
           replace p281 := eq_true p281
           replace q281 := eq_true q281
           obtain ⟨Ao52, co52, eo52⟩ := Kd.R_slice HO_5.out
           (first | subst eo52 | (injection eo52 with f1_ f2_ f3_; have f4_ := f1_.symm; have f5_ := f3_.symm; clear f1_ f2_ f3_; subst f4_; subst f5_))
           refine start_ (n := 15) (S := fun w' => w'.cell? ⟨gb280, 0, none⟩ = some (.int .i64 ((rd_T58 l0_0 x22_1).f0)) ∧ w'.cell? ⟨gb280, 1, none⟩ = some (.int .i64 ((rd_T58 l0_0 x22_1).f1)) ∧ w'.cell? ⟨gb266, 0, none⟩ = some (.slice (some ad279) l0_0.length c0_0) ∧ w'.cell? ⟨gb266, 1, none⟩ = some (.slice (some ad281) l0_1.length c0_1) ∧ w'.cell? (ad281.add ((x22_1).toNat * 2)) = some (.int .i64 ((rd_T58 l0_1 x22_1).f0)) ∧ w'.cell? ⟨(ad281.add ((x22_1).toNat * 2)).block, (ad281.add ((x22_1).toNat * 2)).off + 1, none⟩ = some (.int .i64 ((rd_T58 l0_1 x22_1).f1))) (ds := []) #[false, false, false, false, false, false, false, false, false, false, false, false, false, false, false] (by kernel_rfl) rfl rfl ⟨(blk_cell BK280.out 0).trans rfl, (blk_cell BK280.out 1).trans rfl, (blk_cell BK266.out 0).trans rfl, (blk_cell BK266.out 1).trans rfl, ((HB.out.cell (World.block_lt_of_cell? w _ hw281_0)).trans hw281_0), ((HB.out.cell (World.block_lt_of_cell? w _ hw281_1)).trans hw281_1)⟩ (fun hHeld => ?_); refine with_tabW impl_LevelArms.tab7 impl_LevelArms.bits7 (fun HT_ HW_ => ?_)
           generalize w50.drew = w51 at HO_5 HO_279000 HO_279001 BK266 BK267 BK278 BK280 HB hx281_0 hx281_1 hHeld ⊢
           refine pure_ (i := 0) (N := some 27) (v := ?_) (a' := ?_) #[true, false, false, false, false, false, false, false, false, false, false, false, false, false, false] rfl rfl (any_of HT_.out (by kernel_rfl)) (fun _ _ _ h => h) (Or.inl ⟨by rfl, ?_⟩) ?_ ?_
           rotate_left
           ·
            intro w'
            go_simp
            with_reducible rfl
           rotate_left
           ·
            simp only [Act.put, List.setIfInBounds_toArray, List.set_cons_zero, List.set_cons_succ, i64_w, i32_w]
            rfl
           refine pure_ (i := 2) (N := some 29) (v := ?_) (a' := ?_) #[true, false, true, false, false, false, false, false, false, false, false, false, false, false, false] rfl rfl (any_of HT_.out (by kernel_rfl)) (fun _ _ _ h => h) (Or.inl ⟨by rfl, ?_⟩) ?_ ?_
           rotate_left
           ·
            intro w'
            go_simp
            with_reducible rfl
           rotate_left
           ·
            simp only [Act.put, List.setIfInBounds_toArray, List.set_cons_zero, List.set_cons_succ, i64_w, i32_w]
            rfl
           refine pure_ (i := 5) (N := some 32) (v := ?_) (a' := ?_) #[true, false, true, false, false, true, false, false, false, false, false, false, false, false, false] rfl rfl (any_of HT_.out (by kernel_rfl)) (fun _ _ _ h => h) (Or.inl ⟨by rfl, ?_⟩) ?_ ?_
           rotate_left
           ·
            intro w'
            go_simp
            with_reducible rfl
           rotate_left
           ·
            simp only [Act.put, List.setIfInBounds_toArray, List.set_cons_zero, List.set_cons_succ, i64_w, i32_w]
            rfl
           refine pure_ (i := 7) (N := some 34) (v := ?_) (a' := ?_) #[true, false, true, false, false, true, false, true, false, false, false, false, false, false, false] rfl rfl (any_of HT_.out (by kernel_rfl)) (fun _ _ _ h => h) (Or.inl ⟨by rfl, ?_⟩) ?_ ?_
           rotate_left
           ·
            intro w'
            go_simp
            with_reducible rfl
           rotate_left
           ·
            simp only [Act.put, List.setIfInBounds_toArray, List.set_cons_zero, List.set_cons_succ, i64_w, i32_w]
            rfl
           refine pure_ (i := 11) (N := some 38) (v := ?_) (a' := ?_) #[true, false, true, false, false, true, false, true, false, false, false, true, false, false, false] rfl rfl (any_of HT_.out (by kernel_rfl)) (fun _ _ _ h => h) (Or.inl ⟨by rfl, ?_⟩) ?_ ?_
           rotate_left
           ·
            intro w'
            go_simp
            with_reducible rfl
           rotate_left
           ·
            simp only [Act.put, List.setIfInBounds_toArray, List.set_cons_zero, List.set_cons_succ, i64_w, i32_w]
            rfl
           refine take_ (i := 1) (N := some 28) (v := ?_) (a' := ?_) #[true, true, true, false, false, true, false, true, false, false, false, true, false, false, false] rfl rfl (take_ofW HT_.out HW_.out (by kernel_rfl)) (fun _ _ _ h => h) (Or.inl ⟨by rfl, ?_⟩) hHeld ?_ ?_
           rotate_left
           ·
            rintro w' ⟨s0, s1, s2, s3, s4, s5⟩
            go_simp
            with_reducible rfl
           rotate_left
           ·
            simp only [Act.put, List.setIfInBounds_toArray, List.set_cons_zero, List.set_cons_succ, i64_w, i32_w]
            rfl
           refine take_ (i := 3) (N := some 30) (v := ?_) (a' := ?_) #[true, true, true, true, false, true, false, true, false, false, false, true, false, false, false] rfl rfl (take_ofW HT_.out HW_.out (by kernel_rfl)) (fun _ _ _ h => h) (Or.inl ⟨by rfl, ?_⟩) hHeld ?_ ?_
           rotate_left
           ·
            rintro w' ⟨s0, s1, s2, s3, s4, s5⟩
            go_simp
            with_reducible rfl
           rotate_left
           ·
            simp only [Act.put, List.setIfInBounds_toArray, List.set_cons_zero, List.set_cons_succ, i64_w, i32_w]
            rfl
           refine pure_ (i := 4) (N := some 31) (v := ?_) (a' := ?_) #[true, true, true, true, true, true, false, true, false, false, false, true, false, false, false] rfl rfl (any_of HT_.out (by kernel_rfl)) (fun _ _ _ h => h) (Or.inl ⟨by rfl, ?_⟩) ?_ ?_
           rotate_left
           ·
            intro w'
            go_simp
            with_reducible rfl
           rotate_left
           ·
            simp only [Act.put, List.setIfInBounds_toArray, List.set_cons_zero, List.set_cons_succ, i64_w, i32_w]
            rfl
           refine take_ (i := 6) (N := some 33) (v := ?_) (a' := ?_) #[true, true, true, true, true, true, true, true, false, false, false, true, false, false, false] rfl rfl (take_ofW HT_.out HW_.out (by kernel_rfl)) (fun _ _ _ h => h) (Or.inl ⟨by rfl, ?_⟩) hHeld ?_ ?_
           rotate_left
           ·
            rintro w' ⟨s0, s1, s2, s3, s4, s5⟩
            go_simp
            with_reducible rfl
           rotate_left
           ·
            simp only [Act.put, List.setIfInBounds_toArray, List.set_cons_zero, List.set_cons_succ, i64_w, i32_w]
            rfl
           refine pure_ (i := 8) (N := some 35) (v := ?_) (a' := ?_) #[true, true, true, true, true, true, true, true, true, false, false, true, false, false, false] rfl rfl (any_of HT_.out (by kernel_rfl)) (fun _ _ _ h => h) (Or.inl ⟨by rfl, ?_⟩) ?_ ?_
           rotate_left
           ·
            intro w'
            go_simp
            with_reducible rfl
           rotate_left
           ·
            simp only [Act.put, List.setIfInBounds_toArray, List.set_cons_zero, List.set_cons_succ, i64_w, i32_w]
            rfl
           refine pure_ (i := 9) (N := some 36) (v := ?_) (a' := ?_) #[true, true, true, true, true, true, true, true, true, true, false, true, false, false, false] rfl rfl (any_of HT_.out (by kernel_rfl)) (fun _ _ _ h => h) (Or.inl ⟨by rfl, ?_⟩) ?_ ?_
           rotate_left
           ·
            intro w'
            go_simp
            with_reducible rfl
           rotate_left
           ·
            simp only [Act.put, List.setIfInBounds_toArray, List.set_cons_zero, List.set_cons_succ, i64_w, i32_w]
            rfl
           refine take_ (i := 10) (N := some 37) (v := ?_) (a' := ?_) #[true, true, true, true, true, true, true, true, true, true, true, true, false, false, false] rfl rfl (take_ofW HT_.out HW_.out (by kernel_rfl)) (fun _ _ _ h => h) (Or.inl ⟨by rfl, ?_⟩) hHeld ?_ ?_
           rotate_left
           ·
            rintro w' ⟨s0, s1, s2, s3, s4, s5⟩
            go_simp
            with_reducible rfl
           rotate_left
           ·
            simp only [Act.put, List.setIfInBounds_toArray, List.set_cons_zero, List.set_cons_succ, i64_w, i32_w]
            rfl
           refine one_ (i := 12) (N := some 39) #[true, true, true, true, true, true, true, true, true, true, true, true, true, false, false] rfl rfl (one_of HT_.out (by kernel_rfl)) (by decide) (fun K hK => ?_)
           refine goes_ Try.func63 (by kernel_rfl) rfl #[.int .i64 ((rd_T58 l0_1 x22_1).f1), .slice Ao52 t275.length co52] (by rfl) rfl rfl tM ?_
           with_reducible refine (impl_weightAt.calls ((rd_T58 l0_1 x22_1).f1) _ _ t275 t282 _ ?side1 ?side2 A26.out).mono ?_
           (case side1 => exact tC (Kd.R_reads' HO_5.out).2.2)
           (case side2 => exact (Kd.R_reads' HO_5.out).2.1)
           rintro e w' ⟨rfl, ⟨nd, rfl⟩⟩
           refine ⟨_, rfl, ?_⟩
           refine hK.out _ _ ⟨(blk_cell BK280.out 0).trans rfl, (blk_cell BK280.out 1).trans rfl, (blk_cell BK266.out 0).trans rfl, (blk_cell BK266.out 1).trans rfl, ((HB.out.cell (World.block_lt_of_cell? w _ hw281_0)).trans hw281_0), ((HB.out.cell (World.block_lt_of_cell? w _ hw281_1)).trans hw281_1)⟩ (fun hHeld => ?_)
           clear hK K
           refine norm_ (a' := ?_) ?_ ?_
           rotate_left
           ·
            show Act.put _ (some 39) _ = _
            simp only [Act.put, List.setIfInBounds_toArray, List.set_cons_zero, List.set_cons_succ, i64_w, i32_w]
            rfl
           refine pure_ (i := 13) (N := some 8) (v := ?_) (a' := ?_) #[true, true, true, true, true, true, true, true, true, true, true, true, true, true, false] rfl rfl (any_of HT_.out (by kernel_rfl)) (fun _ _ _ h => h) (Or.inl ⟨by rfl, ?_⟩) ?_ ?_
           rotate_left
           ·
            intro w'
            go_simp
            with_reducible rfl
           rotate_left
           ·
            simp only [Act.put, List.setIfInBounds_toArray, List.set_cons_zero, List.set_cons_succ, i64_w, i32_w]
            rfl
           refine pure_ (i := 14) (N := some 9) (v := ?_) (a' := ?_) #[true, true, true, true, true, true, true, true, true, true, true, true, true, true, true] rfl rfl (any_of HT_.out (by kernel_rfl)) (fun _ _ _ h => h) (Or.inl ⟨by rfl, ?_⟩) ?_ ?_
           rotate_left
           ·
            intro w'
            go_simp
            with_reducible rfl
           rotate_left
           ·
            simp only [Act.put, List.setIfInBounds_toArray, List.set_cons_zero, List.set_cons_succ, i64_w, i32_w]
            rfl
           refine done_ (done_of HT_.out (by kernel_rfl)) ?_
           have p283 : 0 ≤ (x22_1 : Int) := of_decide_eq_true (by first | (with_reducible assumption) | assumption)
           have q283 : x22_1 < (t275.length : Int) := of_decide_eq_true (by first | (with_reducible assumption) | assumption)
           obtain ⟨ad283, e283, hx283_0⟩ := Kd.at_int (Kd.R_reads' HO_5.out).2.2 x22_1 p283 q283
           cases e283
           replace p283 := eq_true p283
           replace q283 := eq_true q283
           have hnb53 := NB267_266.out
           have hnc53 := NB266_267.out
           have hnb54 := NB267_278.out
           have hnc54 := NB278_267.out
           obtain ⟨hcz55_0, hfz55_0, hcz55_1, hfz55_1⟩ := cz2 BK267
           try go_wp2
           refine bodyPost_ret (results_ct rfl _ _ gb267 27 #[.slice none 0 0, .slice none 0 0] (0, 0) _ rfl (by (with_reducible repeat (first | refine blk_drewN ?_ _ | refine blk_drew ?_ | refine blk_alloc ?_ _)); refine blk_put (cs := #[.slice none 0 0, .slice none 0 0]) ?_ 1 _ rfl; (with_reducible repeat (first | refine blk_drewN ?_ _ | refine blk_drew ?_ | refine blk_alloc ?_ _)); refine blk_put (cs := #[.slice none 0 0, .slice none 0 0]) ?_ 0 _ rfl; (with_reducible repeat (first | refine blk_drewN ?_ _ | refine blk_drew ?_ | refine blk_alloc ?_ _)); exact BK267.out) Try.underlying27 rfl (by kernel_rfl)) rfl ?_
           exact ⟨_, _, by first | rfl | (simp [errW_none, errW_some] <;> rfl) | (simp [*, errW_none, errW_some] <;> rfl), by first | exact Kd.R_nil _ _ _ _ _ | exact Kd.N_nil _ _ _ _ _ | exact Kd.V_nil _ _ _ _ _ | exact Kd.Q_nil _ _ _ _ _ | exact Kd.S_nil _ _ _ _ _, by first | exact Kd.R_nil _ _ _ _ _ | exact Kd.N_nil _ _ _ _ _ | exact Kd.V_nil _ _ _ _ _ | exact Kd.Q_nil _ _ _ _ _ | exact Kd.S_nil _ _ _ _ _, tB HB.out⟩
        ·
         rw [if_neg c27] at H
         exact absurd H (by simp)
       ·
        rw [if_neg c25] at H
        exact absurd H (by simp)
      ·
       rw [if_neg c24] at H
       exact absurd H (by simp)
     ·
      rw [if_neg c23] at H
      exact absurd H (by simp)
    ·
     rw [if_neg c22] at H
     have c22b0 : decide (x22_1 < (l0_0.length : Int)) = false := decide_eq_false c22
     clear c22
     replace H := Option.bind_eq_some_iff.mp H
     obtain ⟨⟨t286, t289, t292⟩, A560, H⟩ := H
     replace H : (some (t286, t289, t292)) = some (r1, r2, r3) := H
     have A56 := Aside0.mk A560
     clear A560
     simp only [Option.some.injEq, Prod.mk.injEq] at H
     obtain ⟨rfl, rfl, rfl⟩ := H
     have hnb57 := NB278_266.out
     have hnc57 := NB266_278.out
     have hnb58 := NB278_267.out
     have hnc58 := NB267_278.out
     obtain ⟨hcz59_0, hfz59_0, hcz59_1, hfz59_1⟩ := cz2 BK278
     obtain ⟨Ao60, co60, eo60⟩ := Kd.R_slice HO_279000.out
     subst eo60
     obtain ⟨Ao61, co61, eo61⟩ := Kd.R_slice HO_279001.out
     subst eo61
     go_wp2_with (first | ((with_reducible refine gate_callee (f := 75) rfl ?_); refine goesL_ (some 69) rfl rfl Try.func75 (by kernel_rfl) rfl #[.agg #[.slice Ao60 x279000_1.length co60, .slice Ao61 x279001_1.length co61]] rfl tM ?_; (with_reducible refine (impl_validMobile.calls k1 (fun k_ => some k_ = (.slice Ao60 x279000_1.length co60 : Value).ownBlock) (.slice Ao60 x279000_1.length co60) x279000_1 (fun k_ => some k_ = (.slice Ao61 x279001_1.length co61 : Value).ownBlock) (.slice Ao61 x279001_1.length co61) x279001_1 t286 t289 t292 w _ ?side1 ?side2 ?side3 ?side4 ?side5 A56.out).mono ?_); (case side1 => repeat (first | (with_reducible first | exact HB.out | apply below_alloc | apply pw_below_drewN | apply below_drew1 | refine below_set ?_ GE266.out | refine below_set ?_ GE267.out | refine below_set ?_ GE278.out) | exact HB.out)); (case side2 => exact Kd.R_tight rfl HO_279000.out); (case side3 => exact fun k_ e_ => (HO_279000.out.1 k_ e_.symm)); (case side4 => exact Kd.R_tight rfl HO_279001.out); (case side5 => exact fun k_ e_ => (HO_279001.out.1 k_ e_.symm)); rintro e w62 ⟨v287, v290, rfl, ho0, ho1, hb, hkp⟩; refine ⟨_, rfl, ?_⟩; replace HO_5 := Aside0.mk (Kd.R_mono (ok' := fun k_ => True) (Kd.R_keptB ((Kd.R_apart' (Kd.R_apart' HO_5.out (Kd.R_typed HO_279000.out) (by decide)) (Kd.R_typed HO_279001.out) (by decide))) hkp (fun k_ hk_ hs_ => Or.elim hs_ (fun e_ => (hk_.1.2) e_) (fun e_ => (hk_.2) e_))) (fun k_ hk_ => trivial)); replace BK266 := Aside0.mk (blk_kept (tK BK266.out) hkp (fun hs_ => Or.elim hs_ (fun e_ => (fun e_ => (Kd.R_ne HO_279000.out BK266.out (by decide)) e_) e_) (fun e_ => (fun e_ => (Kd.R_ne HO_279001.out BK266.out (by decide)) e_) e_))); replace BK267 := Aside0.mk (blk_kept (tK BK267.out) hkp (fun hs_ => Or.elim hs_ (fun e_ => (fun e_ => (Kd.R_ne HO_279000.out BK267.out (by decide)) e_) e_) (fun e_ => (fun e_ => (Kd.R_ne HO_279001.out BK267.out (by decide)) e_) e_))); replace BK278 := Aside0.mk (blk_kept (tK BK278.out) hkp (fun hs_ => Or.elim hs_ (fun e_ => (fun e_ => (Kd.R_ne HO_279000.out BK278.out (by decide)) e_) e_) (fun e_ => (fun e_ => (Kd.R_ne HO_279001.out BK278.out (by decide)) e_) e_))); have HO288 := Aside0.mk (Kd.R_mono (ok' := fun k_ => some k_ ≠ (v290 : Value).ownBlock) ho0 (fun k_ hk_ => hk_.2)); have HO291 := Aside0.mk (Kd.R_mono (ok' := fun k_ => some k_ ≠ (v287 : Value).ownBlock) ho1 (fun k_ hk_ => hk_.2)); replace HB := Aside0.mk (hb); clear HO_279000; clear HO_279001; (try clear hb); (try clear hkp); (try clear ho0); (try clear ho1); obtain ⟨Ao63, co63, eo63⟩ := Kd.R_slice HO288.out; subst eo63; have hnb64 := NB267_266.out; have hnc64 := NB266_267.out; obtain ⟨hcz65_0, hfz65_0, hcz65_1, hfz65_1⟩ := cz2 BK267; obtain ⟨Ao66, co66, eo66⟩ := Kd.R_slice HO291.out; subst eo66))
     refine bodyPost_ret (results_ct rfl _ _ gb267 27 #[.slice Ao63 t286.length co63, .slice Ao66 t289.length co66] (0, 0) _ rfl (by (with_reducible repeat (first | refine blk_drewN ?_ _ | refine blk_drew ?_ | refine blk_alloc ?_ _)); refine blk_put (cs := #[.slice Ao63 t286.length co63, .slice none 0 0]) ?_ 1 _ rfl; (with_reducible repeat (first | refine blk_drewN ?_ _ | refine blk_drew ?_ | refine blk_alloc ?_ _)); refine blk_put (cs := #[.slice none 0 0, .slice none 0 0]) ?_ 0 _ rfl; (with_reducible repeat (first | refine blk_drewN ?_ _ | refine blk_drew ?_ | refine blk_alloc ?_ _)); exact BK267.out) Try.underlying27 rfl (by kernel_rfl)) rfl ?_
     exact ⟨_, _, by first | rfl | (simp [errW_none, errW_some] <;> rfl) | (simp [*, errW_none, errW_some] <;> rfl), by (with_reducible repeat (first | apply Kd.R_alloc | apply Kd.R_drewN | apply Kd.R_drew)); exact Kd.R_mono (Kd.R_far (p := ⟨gb267, 1, none⟩) (Kd.R_far (p := ⟨gb267, 0, none⟩) (Kd.R_types HO288.out BK267.out (by decide)) (fun _ hk => hk.2) (.slice Ao63 t286.length co63)) (fun _ hk => hk.2) (.slice Ao66 t289.length co66)) (fun _ hk => hk.1), by (with_reducible repeat (first | apply Kd.R_alloc | apply Kd.R_drewN | apply Kd.R_drew)); exact Kd.R_mono (Kd.R_far (p := ⟨gb267, 1, none⟩) (Kd.R_far (p := ⟨gb267, 0, none⟩) (Kd.R_types HO291.out BK267.out (by decide)) (fun _ hk => hk.2) (.slice Ao63 t286.length co63)) (fun _ hk => hk.2) (.slice Ao66 t289.length co66)) (fun _ hk => hk.1), tB HB.out⟩
 ·
  replace c3 := Bool.eq_false_iff.mpr c3
  subst c3
  have H1 : (some (([] : List (S58)), ([] : List (S58)), false)) = some (r1, r2, r3) := by rw [if_neg (show ¬ (false = true) by decide)] at H; exact H
  clear H
  have H := H1
  clear H1
  simp only [Option.some.injEq, Prod.mk.injEq] at H
  obtain ⟨rfl, rfl, rfl⟩ := H
  go_enter Try.func38, Try.ntmps38
  go_wp2_with (first | ((with_reducible refine gate_dst (N := 1) rfl ?_); refine box_event ?hg (N := 1) ?hd (cs := #[.slice A0_0 l0_0.length c0_0, .slice A0_1 l0_1.length c0_1]) (t := 27) ?hr ?_; (case hd => rfl); (case hg => rfl); (case hr => first | (go_simp; done) | (go_simp; rfl)); intro gb266 hg w67 hbox hb; have BK266 := Aside0.mk (hbox); have GW266 := Aside0.mk (bS HB.out hg); have GE266 := Aside0.mk (bS HB.out hg); replace HB := Aside0.mk (below_step (tB HB.out) hb); clear hb hbox hg) | ((with_reducible refine gate_dst (N := 2) rfl ?_); refine box_event ?hg (N := 2) ?hd (cs := #[.slice none 0 0, .slice none 0 0]) (t := 27) ?hr ?_; (case hd => rfl); (case hg => rfl); (case hr => first | (go_simp; done) | (go_simp; rfl)); intro gb267 hg w68 hbox hb; have BK267 := Aside0.mk (hbox); have GW267 := Aside0.mk (bS HB.out hg); have GE267 := Aside0.mk (bS HB.out hg); replace HB := Aside0.mk (below_step (tB HB.out) hb); have NB266_267 := Aside0.mk (nL BK266.out hg); have NB267_266 := Aside0.mk (nG BK266.out hg); replace BK266 := bkB BK266 hb; clear hb hbox hg; have hnb69 := NB266_267.out; have hnc69 := NB267_266.out; obtain ⟨hcz70_0, hfz70_0, hcz70_1, hfz70_1⟩ := cz2 BK266) | ((with_reducible refine gate_callee (f := 18) rfl ?_); refine goesL_ (some 12) rfl rfl Try.func18 (by kernel_rfl) rfl #[.agg #[.slice A0_0 l0_0.length c0_0, .slice A0_1 l0_1.length c0_1]] rfl tM ?_; (with_reducible refine (impl_IsMobile.calls k _ _ l0_0 _ _ l0_1 false _ ?side1 ?side2 ?side3 ?side4 A2.out).mono ?_); (case side1 => exact tC (Kd.C_below HR0_0.out HB.out)); (case side2 => exact HC0_0.out); (case side3 => exact tC (Kd.C_below HR0_1.out HB.out)); (case side4 => exact HC0_1.out); rintro e w71 ⟨rfl, hb⟩; refine ⟨_, rfl, ?_⟩; replace BK266 := bkB BK266 hb; replace BK267 := bkB BK267 hb; replace HB := Aside0.mk (below_step (tB HB.out) hb); (try clear hb); (try clear hb2); (try clear hk); (try clear hi); obtain ⟨hcz72_0, hfz72_0, hcz72_1, hfz72_1⟩ := cz2 BK267))
  refine bodyPost_ret (results_ct rfl _ _ gb267 27 #[.slice none 0 0, .slice none 0 0] (0, 0) _ rfl (by (with_reducible repeat (first | refine blk_drewN ?_ _ | refine blk_drew ?_ | refine blk_alloc ?_ _)); refine blk_put (cs := #[.slice none 0 0, .slice none 0 0]) ?_ 1 _ rfl; (with_reducible repeat (first | refine blk_drewN ?_ _ | refine blk_drew ?_ | refine blk_alloc ?_ _)); refine blk_put (cs := #[.slice none 0 0, .slice none 0 0]) ?_ 0 _ rfl; (with_reducible repeat (first | refine blk_drewN ?_ _ | refine blk_drew ?_ | refine blk_alloc ?_ _)); exact BK267.out) Try.underlying27 rfl (by kernel_rfl)) rfl ?_
  exact ⟨_, _, by first | rfl | (simp [errW_none, errW_some] <;> rfl) | (simp [*, errW_none, errW_some] <;> rfl), by first | exact Kd.R_nil _ _ _ _ _ | exact Kd.N_nil _ _ _ _ _ | exact Kd.V_nil _ _ _ _ _ | exact Kd.Q_nil _ _ _ _ _ | exact Kd.S_nil _ _ _ _ _, by first | exact Kd.R_nil _ _ _ _ _ | exact Kd.N_nil _ _ _ _ _ | exact Kd.V_nil _ _ _ _ _ | exact Kd.Q_nil _ _ _ _ _ | exact Kd.S_nil _ _ _ _ _, tB HB.out⟩

end Go.Proofs.Ytbdajkfihbaapaa.PFnExactLevelArms

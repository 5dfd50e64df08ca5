/- Printed by the program print2.py over the translation: each function as a Lean function, and the proof that the call comes to its answer. -/
import Derived.Test.YtchcjlkbpmkajaaPFnExactSupportTimesx0
import Derived.Test.YtchcjlkbpmkajaaPFnExactSupportTimesx1
import Derived.Test.YtchcjlkbpmkajaaPFnExactSupportTimesx2
import Derived.Test.YtchcjlkbpmkajaaPFnExactSupportTimesx3
namespace Go.Proofs.Ytchcjlkbpmkajaa.PFnExactSupportTimes
open Go.RowKit Go.Proofs.YtchcjlkbpmkajaaW.PrintWords Go.Proofs.YtchcjlkbpmkajaaW.PrintLast Go.Proofs.YtchcjlkbpmkajaaW.PrintMore
attribute [local go_sem] max2_int min2_int max_two min_two max_three min_three max_four min_four   -- for this text's walks alone
set_option linter.unusedVariables false
set_option linter.unusedSimpArgs false

/-! ### impl_Beam_supports: function 64 -/
def impl_Beam_supports.f (k : Nat) (a0_0 : Int) (a0_1 : Int) (a0_2 : Int) (l1 : List (S57)) : Option (Int × Int) := (impl_momentAbout.f k l1 a0_2).bind fun t160 => ((impl_momentAbout.f k l1 a0_1).bind fun t161 => (some (wrap64 (-t160), t161)))
theorem impl_Beam_supports.mono : ∀ a0 a1 a2 a3 k, LeO (impl_Beam_supports.f k a0 a1 a2 a3) (impl_Beam_supports.f (k + 1) a0 a1 a2 a3) := by
 intro a0 a1 a2 a3 k
 unfold impl_Beam_supports.f
 repeat' first
   | (with_reducible exact impl_momentAbout.mono _ _ _)
   | (with_reducible exact LeO.refl _)
   | (with_reducible exact LeO.none _)
   | (with_reducible refine LeO.ite ?_ ?_)
   | (with_reducible refine LeO.bind ?_ (fun _ => ?_))
   | exact impl_momentAbout.mono _ _ _
   | exact LeO.none _
   | refine LeO.ite ?_ ?_
   | refine LeO.bind ?_ (fun _ => ?_)
def impl_Beam_supports.T1 : Bool × List (List Nat × List Nat) := (true, [([], []), ([], []), ([1], [1]), ([0, 2], [0, 2]), ([3], [3]), ([], []), ([], []), ([6], [6]), ([5, 7, 3], [5, 7]), ([4, 8, 0, 1, 2, 3, 4], [4]), ([8, 9, 0, 1, 2, 3, 4, 5, 6, 7, 8, 9], [8])])
def impl_Beam_supports.B1 : List Nat := [0, 0, 2, 7, 15, 0, 0, 64, 239, 511, 1023]
theorem impl_Beam_supports.tab1 : rtab .any (opsOf Try.f64 1) = impl_Beam_supports.T1 := by kernel_rfl
theorem impl_Beam_supports.bits1 : waitsOk impl_Beam_supports.T1.2 impl_Beam_supports.B1 = true := by kernel_rfl
set_option maxHeartbeats 8000000 in
set_option maxRecDepth 100000 in
theorem impl_Beam_supports.calls (k : Nat) (a0_0 : Int) (a0_1 : Int) (a0_2 : Int) (A1 : Option Addr) (c1 : Nat) (l1 : List (S57)) (r1 : Int) (r2 : Int) (w : World) (hr1 : Kd.C k57 w A1 l1.length l1) (hc1 : l1.length ≤ c1) (h : impl_Beam_supports.f k a0_0 a0_1 a0_2 l1 = some (r1, r2)) :
  Calls Try.prog 64 #[.agg #[.int .i64 a0_0, .int .i64 a0_1, .int .i64 a0_2], .slice A1 l1.length c1] w fun e w' => e = .returned (.tuple #[.int .i64 r1, .int .i64 r2]) ∧ Below w.heap.size w w' := by
 have hu25 := Try.underlying25
 have HR1 := Aside0.mk hr1
 have HC1 := Aside0.mk hc1
 clear hr1 hc1
 have HB := Aside0.mk (Below.refl w.heap.size w)
 have H : ((impl_momentAbout.f k l1 a0_2).bind fun t160 => ((impl_momentAbout.f k l1 a0_1).bind fun t161 => (some (wrap64 (-t160), t161)))) = some (r1, r2) := h
 clear h
 replace H := Option.bind_eq_some_iff.mp H
 obtain ⟨t160, A30, H⟩ := H
 replace H : ((impl_momentAbout.f k l1 a0_1).bind fun t161 => (some (wrap64 (-t160), t161))) = some (r1, r2) := H
 have A3 := Aside0.mk A30
 clear A30
 replace H := Option.bind_eq_some_iff.mp H
 obtain ⟨t161, A40, H⟩ := H
 replace H : (some (wrap64 (-t160), t161)) = some (r1, r2) := H
 have A4 := Aside0.mk A40
 clear A40
 simp only [Option.some.injEq, Prod.mk.injEq] at H
 obtain ⟨rfl, rfl⟩ := H
 go_enter Try.func64, Try.ntmps64
 try go_wp2_with (first | ((with_reducible refine gate_dst (N := 2) rfl ?_); refine box_event ?hg (N := 2) ?hd (cs := #[.int .i64 a0_0, .int .i64 a0_1, .int .i64 a0_2]) (t := 25) ?hr ?_; (case hd => rfl); (case hg => rfl); (case hr => first | (go_simp; done) | (go_simp; rfl)); intro gb159 hg w5 hbox hb; have BK159 := Aside0.mk (hbox); have GW159 := Aside0.mk (bS HB.out hg); have GE159 := Aside0.mk (bS HB.out hg); replace HB := Aside0.mk (below_step (tB HB.out) hb); clear hb hbox hg))
 replace BK159 := Aside0.mk (blk_drew BK159.out)
 replace HB := Aside0.mk (below_drew1 HB.out)
 refine start_ (n := 11) (S := fun w' => w'.cell? ⟨gb159, 0, none⟩ = some (.int .i64 a0_0) ∧ w'.cell? ⟨gb159, 1, none⟩ = some (.int .i64 a0_1) ∧ w'.cell? ⟨gb159, 2, none⟩ = some (.int .i64 a0_2)) (ds := []) #[false, false, false, false, false, false, false, false, false, false, false] (by kernel_rfl) rfl rfl ⟨(blk_cell BK159.out 0).trans rfl, (blk_cell BK159.out 1).trans rfl, (blk_cell BK159.out 2).trans rfl⟩ (fun hHeld => ?_); refine with_tabW impl_Beam_supports.tab1 impl_Beam_supports.bits1 (fun HT_ HW_ => ?_)
 generalize w5.drew = w6 at BK159 HB hHeld ⊢
 refine pure_ (i := 0) (N := some 6) (v := ?_) (a' := ?_) #[true, false, false, false, false, false, false, false, false, false, false] rfl rfl (any_of HT_.out (by kernel_rfl)) (fun _ _ _ h => h) (Or.inl ⟨by rfl, ?_⟩) ?_ ?_
 rotate_left
 ·
  intro w'
  go_simp
  with_reducible rfl
 rotate_left
 ·
  simp only [Act.put, List.setIfInBounds_toArray, List.set_cons_zero, List.set_cons_succ, i64_w, i32_w]
  rfl
 refine pure_ (i := 1) (N := some 7) (v := ?_) (a' := ?_) #[true, true, false, false, false, false, false, false, false, false, false] rfl rfl (any_of HT_.out (by kernel_rfl)) (fun _ _ _ h => h) (Or.inl ⟨by rfl, ?_⟩) ?_ ?_
 rotate_left
 ·
  intro w'
  go_simp
  with_reducible rfl
 rotate_left
 ·
  simp only [Act.put, List.setIfInBounds_toArray, List.set_cons_zero, List.set_cons_succ, i64_w, i32_w]
  rfl
 refine pure_ (i := 5) (N := some 11) (v := ?_) (a' := ?_) #[true, true, false, false, false, true, false, false, false, false, false] rfl rfl (any_of HT_.out (by kernel_rfl)) (fun _ _ _ h => h) (Or.inl ⟨by rfl, ?_⟩) ?_ ?_
 rotate_left
 ·
  intro w'
  go_simp
  with_reducible rfl
 rotate_left
 ·
  simp only [Act.put, List.setIfInBounds_toArray, List.set_cons_zero, List.set_cons_succ, i64_w, i32_w]
  rfl
 refine pure_ (i := 6) (N := some 12) (v := ?_) (a' := ?_) #[true, true, false, false, false, true, true, false, false, false, false] rfl rfl (any_of HT_.out (by kernel_rfl)) (fun _ _ _ h => h) (Or.inl ⟨by rfl, ?_⟩) ?_ ?_
 rotate_left
 ·
  intro w'
  go_simp
  with_reducible rfl
 rotate_left
 ·
  simp only [Act.put, List.setIfInBounds_toArray, List.set_cons_zero, List.set_cons_succ, i64_w, i32_w]
  rfl
 refine take_ (i := 2) (N := some 8) (v := ?_) (a' := ?_) #[true, true, true, false, false, true, true, false, false, false, false] rfl rfl (take_ofW HT_.out HW_.out (by kernel_rfl)) (fun _ _ _ h => h) (Or.inl ⟨by rfl, ?_⟩) hHeld ?_ ?_
 rotate_left
 ·
  rintro w' ⟨s0, s1, s2⟩
  go_simp
  with_reducible rfl
 rotate_left
 ·
  simp only [Act.put, List.setIfInBounds_toArray, List.set_cons_zero, List.set_cons_succ, i64_w, i32_w]
  rfl
 refine take_ (i := 7) (N := some 13) (v := ?_) (a' := ?_) #[true, true, true, false, false, true, true, true, false, false, false] rfl rfl (take_ofW HT_.out HW_.out (by kernel_rfl)) (fun _ _ _ h => h) (Or.inl ⟨by rfl, ?_⟩) hHeld ?_ ?_
 rotate_left
 ·
  rintro w' ⟨s0, s1, s2⟩
  go_simp
  with_reducible rfl
 rotate_left
 ·
  simp only [Act.put, List.setIfInBounds_toArray, List.set_cons_zero, List.set_cons_succ, i64_w, i32_w]
  rfl
 refine one_ (i := 3) (N := some 9) #[true, true, true, true, false, true, true, true, false, false, false] rfl rfl (one_of HT_.out (by kernel_rfl)) (by decide) (fun K hK => ?_)
 refine goes_ Try.func77 (by kernel_rfl) rfl #[.slice A1 l1.length c1, .int .i64 a0_2] (by rfl) rfl rfl tM ?_
 with_reducible refine (impl_momentAbout.calls k _ _ l1 a0_2 t160 _ ?side1 ?side2 A3.out).mono ?_
 (case side1 => exact tC (Kd.C_below HR1.out HB.out))
 (case side2 => exact HC1.out)
 rintro e w7 ⟨rfl, hb⟩
 refine ⟨_, rfl, ?_⟩
 replace BK159 := bkB BK159 hb
 replace HB := Aside0.mk (below_step (tB HB.out) hb)
 (try clear hb)
 (try clear hb2)
 (try clear hk)
 (try clear hi)
 refine hK.out _ _ ⟨(blk_cell BK159.out 0).trans rfl, (blk_cell BK159.out 1).trans rfl, (blk_cell BK159.out 2).trans rfl⟩ (fun hHeld => ?_)
 clear hK K
 refine norm_ (a' := ?_) ?_ ?_
 rotate_left
 ·
  show Act.put _ (some 9) _ = _
  simp only [Act.put, List.setIfInBounds_toArray, List.set_cons_zero, List.set_cons_succ, i64_w, i32_w]
  rfl
 refine pure_ (i := 4) (N := some 10) (v := ?_) (a' := ?_) #[true, true, true, true, true, true, true, true, false, false, false] rfl rfl (any_of HT_.out (by kernel_rfl)) (fun _ _ _ h => h) (Or.inl ⟨by rfl, ?_⟩) ?_ ?_
 rotate_left
 ·
  intro w'
  go_simp
  with_reducible rfl
 rotate_left
 ·
  simp only [Act.put, List.setIfInBounds_toArray, List.set_cons_zero, List.set_cons_succ, i64_w, i32_w]
  rfl
 refine one_ (i := 8) (N := some 14) #[true, true, true, true, true, true, true, true, true, false, false] rfl rfl (one_of HT_.out (by kernel_rfl)) (by decide) (fun K hK => ?_)
 refine goes_ Try.func77 (by kernel_rfl) rfl #[.slice A1 l1.length c1, .int .i64 a0_1] (by rfl) rfl rfl tM ?_
 with_reducible refine (impl_momentAbout.calls k _ _ l1 a0_1 t161 _ ?side1 ?side2 A4.out).mono ?_
 (case side1 => exact tC (Kd.C_below HR1.out HB.out))
 (case side2 => exact HC1.out)
 rintro e w8 ⟨rfl, hb⟩
 refine ⟨_, rfl, ?_⟩
 replace BK159 := bkB BK159 hb
 replace HB := Aside0.mk (below_step (tB HB.out) hb)
 (try clear hb)
 (try clear hb2)
 (try clear hk)
 (try clear hi)
 refine hK.out _ _ ⟨(blk_cell BK159.out 0).trans rfl, (blk_cell BK159.out 1).trans rfl, (blk_cell BK159.out 2).trans rfl⟩ (fun hHeld => ?_)
 clear hK K
 refine norm_ (a' := ?_) ?_ ?_
 rotate_left
 ·
  show Act.put _ (some 14) _ = _
  simp only [Act.put, List.setIfInBounds_toArray, List.set_cons_zero, List.set_cons_succ, i64_w, i32_w]
  rfl
 refine pure_ (i := 9) (N := some 4) (v := ?_) (a' := ?_) #[true, true, true, true, true, true, true, true, true, true, false] rfl rfl (any_of HT_.out (by kernel_rfl)) (fun _ _ _ h => h) (Or.inl ⟨by rfl, ?_⟩) ?_ ?_
 rotate_left
 ·
  intro w'
  go_simp
  with_reducible rfl
 rotate_left
 ·
  simp only [Act.put, List.setIfInBounds_toArray, List.set_cons_zero, List.set_cons_succ, i64_w, i32_w]
  rfl
 refine pure_ (i := 10) (N := some 5) (v := ?_) (a' := ?_) #[true, true, true, true, true, true, true, true, true, true, true] rfl rfl (any_of HT_.out (by kernel_rfl)) (fun _ _ _ h => h) (Or.inl ⟨by rfl, ?_⟩) ?_ ?_
 rotate_left
 ·
  intro w'
  go_simp
  with_reducible rfl
 rotate_left
 ·
  simp only [Act.put, List.setIfInBounds_toArray, List.set_cons_zero, List.set_cons_succ, i64_w, i32_w]
  rfl
 refine done_ (done_of HT_.out (by kernel_rfl)) ?_
 try go_wp2
 go_ret2
 exact ⟨by first | rfl | (simp [errW_none, errW_some] <;> rfl) | (simp [*, errW_none, errW_some] <;> rfl), tB HB.out⟩

/-! ### impl_SupportTimes: function 36 -/
def impl_SupportTimes.f (k : Nat) (a0_0 : Int) (a0_1 : Int) (a0_2 : Int) (l1 : List (S57)) : Option (Int × Int × Bool) := (impl_isOn.f k a0_0 a0_1 a0_2 l1).bind fun t163 => (if t163 = true then ((impl_Beam_supports.f k a0_0 a0_1 a0_2 l1).bind fun bt164 => (some (bt164.1, bt164.2, true))) else (some (0, 0, false)))
theorem impl_SupportTimes.mono : ∀ a0 a1 a2 a3 k, LeO (impl_SupportTimes.f k a0 a1 a2 a3) (impl_SupportTimes.f (k + 1) a0 a1 a2 a3) := by
 intro a0 a1 a2 a3 k
 unfold impl_SupportTimes.f
 repeat' first
   | (with_reducible exact impl_Beam_supports.mono _ _ _ _ _)
   | (with_reducible exact impl_isOn.mono _ _ _ _ _)
   | (with_reducible exact LeO.refl _)
   | (with_reducible exact LeO.none _)
   | (with_reducible refine LeO.ite ?_ ?_)
   | (with_reducible refine LeO.bind ?_ (fun _ => ?_))
   | exact impl_Beam_supports.mono _ _ _ _ _
   | exact impl_isOn.mono _ _ _ _ _
   | exact LeO.none _
   | refine LeO.ite ?_ ?_
   | refine LeO.bind ?_ (fun _ => ?_)
set_option maxHeartbeats 8000000 in
set_option maxRecDepth 100000 in
theorem impl_SupportTimes.calls (k : Nat) (a0_0 : Int) (a0_1 : Int) (a0_2 : Int) (A1 : Option Addr) (c1 : Nat) (l1 : List (S57)) (r1 : Int) (r2 : Int) (r3 : Bool) (w : World) (hr1 : Kd.C k57 w A1 l1.length l1) (hc1 : l1.length ≤ c1) (h : impl_SupportTimes.f k a0_0 a0_1 a0_2 l1 = some (r1, r2, r3)) :
  Calls Try.prog 36 #[.agg #[.int .i64 a0_0, .int .i64 a0_1, .int .i64 a0_2], .slice A1 l1.length c1] w fun e w' => e = .returned (.tuple #[.int .i64 r1, .int .i64 r2, .bool r3]) ∧ Below w.heap.size w w' := by
 have hu25 := Try.underlying25
 have HR1 := Aside0.mk hr1
 have HC1 := Aside0.mk hc1
 clear hr1 hc1
 have HB := Aside0.mk (Below.refl w.heap.size w)
 have H : ((impl_isOn.f k a0_0 a0_1 a0_2 l1).bind fun t163 => (if t163 = true then ((impl_Beam_supports.f k a0_0 a0_1 a0_2 l1).bind fun bt164 => (some (bt164.1, bt164.2, true))) else (some (0, 0, false)))) = some (r1, r2, r3) := h
 clear h
 replace H := Option.bind_eq_some_iff.mp H
 obtain ⟨t163, A30, H⟩ := H
 replace H : (if t163 = true then ((impl_Beam_supports.f k a0_0 a0_1 a0_2 l1).bind fun bt164 => (some (bt164.1, bt164.2, true))) else (some (0, 0, false))) = some (r1, r2, r3) := H
 have A3 := Aside0.mk A30
 clear A30
 by_cases c4 : t163 = true
 ·
  subst c4
  have H1 : ((impl_Beam_supports.f k a0_0 a0_1 a0_2 l1).bind fun bt164 => (some (bt164.1, bt164.2, true))) = some (r1, r2, r3) := by rw [if_pos rfl] at H; exact H
  clear H
  have H := H1
  clear H1
  replace H := Option.bind_eq_some_iff.mp H
  obtain ⟨⟨t164, t165⟩, A50, H⟩ := H
  replace H : (some (t164, t165, true)) = some (r1, r2, r3) := H
  have A5 := Aside0.mk A50
  clear A50
  simp only [Option.some.injEq, Prod.mk.injEq] at H
  obtain ⟨rfl, rfl, rfl⟩ := H
  go_enter Try.func36, Try.ntmps36
  go_wp2_with (first | ((with_reducible refine gate_dst (N := 2) rfl ?_); refine box_event ?hg (N := 2) ?hd (cs := #[.int .i64 a0_0, .int .i64 a0_1, .int .i64 a0_2]) (t := 25) ?hr ?_; (case hd => rfl); (case hg => rfl); (case hr => first | (go_simp; done) | (go_simp; rfl)); intro gb162 hg w6 hbox hb; have BK162 := Aside0.mk (hbox); have GW162 := Aside0.mk (bS HB.out hg); have GE162 := Aside0.mk (bS HB.out hg); replace HB := Aside0.mk (below_step (tB HB.out) hb); clear hb hbox hg; obtain ⟨hcz7_0, hfz7_0, hcz7_1, hfz7_1, hcz7_2, hfz7_2⟩ := cz3 BK162) | ((with_reducible refine gate_callee (f := 63) rfl ?_); refine goesL_ (some 11) rfl rfl Try.func63 (by kernel_rfl) rfl #[.agg #[.int .i64 a0_0, .int .i64 a0_1, .int .i64 a0_2], .slice A1 l1.length c1] rfl tM ?_; (with_reducible refine (impl_isOn.calls k a0_0 a0_1 a0_2 _ _ l1 true _ ?side1 ?side2 A3.out).mono ?_); (case side1 => exact tC (Kd.C_below HR1.out HB.out)); (case side2 => exact HC1.out); rintro e w8 ⟨rfl, hb⟩; refine ⟨_, rfl, ?_⟩; replace BK162 := bkB BK162 hb; replace HB := Aside0.mk (below_step (tB HB.out) hb); (try clear hb); (try clear hb2); (try clear hk); (try clear hi); obtain ⟨hcz9_0, hfz9_0, hcz9_1, hfz9_1, hcz9_2, hfz9_2⟩ := cz3 BK162) | ((with_reducible refine gate_callee (f := 64) rfl ?_); refine goesL_ (some 16) rfl rfl Try.func64 (by kernel_rfl) rfl #[.agg #[.int .i64 a0_0, .int .i64 a0_1, .int .i64 a0_2], .slice A1 l1.length c1] rfl tM ?_; (with_reducible refine (impl_Beam_supports.calls k a0_0 a0_1 a0_2 _ _ l1 t164 t165 _ ?side1 ?side2 A5.out).mono ?_); (case side1 => exact tC (Kd.C_below HR1.out HB.out)); (case side2 => exact HC1.out); rintro e w10 ⟨rfl, hb⟩; refine ⟨_, rfl, ?_⟩; replace BK162 := bkB BK162 hb; replace HB := Aside0.mk (below_step (tB HB.out) hb); (try clear hb); (try clear hb2); (try clear hk); (try clear hi)))
  go_ret3
  exact ⟨by first | rfl | (simp [errW_none, errW_some] <;> rfl) | (simp [*, errW_none, errW_some] <;> rfl), tB HB.out⟩
 ·
  replace c4 := Bool.eq_false_iff.mpr c4
  subst c4
  have H1 : (some (0, 0, false)) = some (r1, r2, r3) := by rw [if_neg (show ¬ (false = true) by decide)] at H; exact H
  clear H
  have H := H1
  clear H1
  simp only [Option.some.injEq, Prod.mk.injEq] at H
  obtain ⟨rfl, rfl, rfl⟩ := H
  go_enter Try.func36, Try.ntmps36
  go_wp2_with (first | ((with_reducible refine gate_dst (N := 2) rfl ?_); refine box_event ?hg (N := 2) ?hd (cs := #[.int .i64 a0_0, .int .i64 a0_1, .int .i64 a0_2]) (t := 25) ?hr ?_; (case hd => rfl); (case hg => rfl); (case hr => first | (go_simp; done) | (go_simp; rfl)); intro gb162 hg w11 hbox hb; have BK162 := Aside0.mk (hbox); have GW162 := Aside0.mk (bS HB.out hg); have GE162 := Aside0.mk (bS HB.out hg); replace HB := Aside0.mk (below_step (tB HB.out) hb); clear hb hbox hg; obtain ⟨hcz12_0, hfz12_0, hcz12_1, hfz12_1, hcz12_2, hfz12_2⟩ := cz3 BK162) | ((with_reducible refine gate_callee (f := 63) rfl ?_); refine goesL_ (some 11) rfl rfl Try.func63 (by kernel_rfl) rfl #[.agg #[.int .i64 a0_0, .int .i64 a0_1, .int .i64 a0_2], .slice A1 l1.length c1] rfl tM ?_; (with_reducible refine (impl_isOn.calls k a0_0 a0_1 a0_2 _ _ l1 false _ ?side1 ?side2 A3.out).mono ?_); (case side1 => exact tC (Kd.C_below HR1.out HB.out)); (case side2 => exact HC1.out); rintro e w13 ⟨rfl, hb⟩; refine ⟨_, rfl, ?_⟩; replace BK162 := bkB BK162 hb; replace HB := Aside0.mk (below_step (tB HB.out) hb); (try clear hb); (try clear hb2); (try clear hk); (try clear hi)))
  go_ret3
  exact ⟨by first | rfl | (simp [errW_none, errW_some] <;> rfl) | (simp [*, errW_none, errW_some] <;> rfl), tB HB.out⟩

/-! ### laws_FnExactSupportTimes: function 8 -/
def laws_FnExactSupportTimes.j0 : Nat → List (S59) → List (S57) → Bool → Option (Bool)
 | 0, _, _, _ => none
 | k + 1, x1, x9, x49 => if x49 = true then (some false) else ((laws_toLoadS.f k x1).bind fun t186 => ((laws_eqLoadS.f k x9 t186).bind fun t189 => (if t189 = true then (some true) else (some false))))
def laws_FnExactSupportTimes.f (k : Nat) (a0_0 : Int) (a0_1 : Int) (a0_2 : Int) (l1 : List (S59)) : Option (Bool) := (laws_szLoadS.f l1 1048576).bind fun t167 => (if t167 < 0 then (some true) else ((laws_toBeam.f a0_0 a0_1 a0_2).bind fun bt168 => ((laws_toLoadS.f k l1).bind fun t171 => ((spec_SupportTimes.f k bt168.1 bt168.2.1 bt168.2.2 t171).bind fun bt174 => ((laws_toLoadS.f k l1).bind fun t177 => ((laws_toBeam.f a0_0 a0_1 a0_2).bind fun bt180 => ((impl_SupportTimes.f k bt180.1 bt180.2.1 bt180.2.2 t177).bind fun bt183 => (if bt183.1 = bt174.1 then (if bt183.2.1 = bt174.2.1 then (laws_FnExactSupportTimes.j0 k l1 t177 (bt183.2.2 != bt174.2.2)) else (laws_FnExactSupportTimes.j0 k l1 t177 true)) else (laws_FnExactSupportTimes.j0 k l1 t177 true)))))))))
theorem laws_FnExactSupportTimes.mono_l : ∀ k, (∀ y0 y1 y2, LeO (laws_FnExactSupportTimes.j0 k y0 y1 y2) (laws_FnExactSupportTimes.j0 (k + 1) y0 y1 y2))
 | 0 => fun _ _ _ r h => by simp [laws_FnExactSupportTimes.j0] at h
 | k + 1 => by
  have ih0 := laws_FnExactSupportTimes.mono_l k
  ·
   intro y0 y1 y2
   unfold laws_FnExactSupportTimes.j0
   repeat' first
   | (with_reducible exact ih0 _ _ _)
   | (with_reducible exact impl_SupportTimes.mono _ _ _ _ _)
   | (with_reducible exact laws_eqLoadS.mono _ _ _)
   | (with_reducible exact laws_toLoadS.mono _ _)
   | (with_reducible exact spec_SupportTimes.mono _ _ _ _ _)
   | (with_reducible exact LeO.refl _)
   | (with_reducible exact LeO.none _)
   | (with_reducible refine LeO.ite ?_ ?_)
   | (with_reducible refine LeO.bind ?_ (fun _ => ?_))
   | exact ih0 _ _ _
   | exact impl_SupportTimes.mono _ _ _ _ _
   | exact laws_eqLoadS.mono _ _ _
   | exact laws_toLoadS.mono _ _
   | exact spec_SupportTimes.mono _ _ _ _ _
   | exact LeO.none _
   | refine LeO.ite ?_ ?_
   | refine LeO.bind ?_ (fun _ => ?_)
theorem laws_FnExactSupportTimes.mono : ∀ a0 a1 a2 a3 k, LeO (laws_FnExactSupportTimes.f k a0 a1 a2 a3) (laws_FnExactSupportTimes.f (k + 1) a0 a1 a2 a3) := by
 intro a0 a1 a2 a3 k
 have ih0 := laws_FnExactSupportTimes.mono_l k
 unfold laws_FnExactSupportTimes.f
 repeat' first
   | (with_reducible exact ih0 _ _ _)
   | (with_reducible exact impl_SupportTimes.mono _ _ _ _ _)
   | (with_reducible exact laws_eqLoadS.mono _ _ _)
   | (with_reducible exact laws_toLoadS.mono _ _)
   | (with_reducible exact spec_SupportTimes.mono _ _ _ _ _)
   | (with_reducible exact LeO.refl _)
   | (with_reducible exact LeO.none _)
   | (with_reducible refine LeO.ite ?_ ?_)
   | (with_reducible refine LeO.bind ?_ (fun _ => ?_))
   | exact ih0 _ _ _
   | exact impl_SupportTimes.mono _ _ _ _ _
   | exact laws_eqLoadS.mono _ _ _
   | exact laws_toLoadS.mono _ _
   | exact spec_SupportTimes.mono _ _ _ _ _
   | exact LeO.none _
   | refine LeO.ite ?_ ?_
   | refine LeO.bind ?_ (fun _ => ?_)
set_option maxHeartbeats 8000000 in
set_option maxRecDepth 100000 in
theorem laws_FnExactSupportTimes.calls (k : Nat) (a0_0 : Int) (a0_1 : Int) (a0_2 : Int) (A1 : Option Addr) (c1 : Nat) (l1 : List (S59)) (r : Bool) (w : World) (hr1 : Kd.C k59 w A1 l1.length l1) (hc1 : l1.length ≤ c1) (h : laws_FnExactSupportTimes.f k a0_0 a0_1 a0_2 l1 = some r) :
  Calls Try.prog 8 #[.agg #[.int .i64 a0_0, .int .i64 a0_1, .int .i64 a0_2], .slice A1 l1.length c1] w fun e w' => e = .returned (.bool r) ∧ Below w.heap.size w w' := by
 have hu23 := Try.underlying23
 have HR1 := Aside0.mk hr1
 have HC1 := Aside0.mk hc1
 clear hr1 hc1
 have HB := Aside0.mk (Below.refl w.heap.size w)
 have H : ((laws_szLoadS.f l1 1048576).bind fun t167 => (if t167 < 0 then (some true) else ((laws_toBeam.f a0_0 a0_1 a0_2).bind fun bt168 => ((laws_toLoadS.f k l1).bind fun t171 => ((spec_SupportTimes.f k bt168.1 bt168.2.1 bt168.2.2 t171).bind fun bt174 => ((laws_toLoadS.f k l1).bind fun t177 => ((laws_toBeam.f a0_0 a0_1 a0_2).bind fun bt180 => ((impl_SupportTimes.f k bt180.1 bt180.2.1 bt180.2.2 t177).bind fun bt183 => (if bt183.1 = bt174.1 then (if bt183.2.1 = bt174.2.1 then (laws_FnExactSupportTimes.j0 k l1 t177 (bt183.2.2 != bt174.2.2)) else (laws_FnExactSupportTimes.j0 k l1 t177 true)) else (laws_FnExactSupportTimes.j0 k l1 t177 true)))))))))) = some r := h
 clear h
 replace H := Option.bind_eq_some_iff.mp H
 obtain ⟨t167, A30, H⟩ := H
 replace H : (if t167 < 0 then (some true) else ((laws_toBeam.f a0_0 a0_1 a0_2).bind fun bt168 => ((laws_toLoadS.f k l1).bind fun t171 => ((spec_SupportTimes.f k bt168.1 bt168.2.1 bt168.2.2 t171).bind fun bt174 => ((laws_toLoadS.f k l1).bind fun t177 => ((laws_toBeam.f a0_0 a0_1 a0_2).bind fun bt180 => ((impl_SupportTimes.f k bt180.1 bt180.2.1 bt180.2.2 t177).bind fun bt183 => (if bt183.1 = bt174.1 then (if bt183.2.1 = bt174.2.1 then (laws_FnExactSupportTimes.j0 k l1 t177 (bt183.2.2 != bt174.2.2)) else (laws_FnExactSupportTimes.j0 k l1 t177 true)) else (laws_FnExactSupportTimes.j0 k l1 t177 true))))))))) = some r := H
 have A3 := Aside0.mk A30
 clear A30
 by_cases c4 : t167 < 0
 ·
  rw [if_pos c4] at H
  have c4b0 : decide (t167 < 0) = true := decide_eq_true c4
  clear c4
  obtain rfl := Option.some.inj H
  go_enter Try.func8, Try.ntmps8
  go_wp2_with (first | ((with_reducible refine gate_dst (N := 2) rfl ?_); refine box_event ?hg (N := 2) ?hd (cs := #[.int .i64 a0_0, .int .i64 a0_1, .int .i64 a0_2]) (t := 23) ?hr ?_; (case hd => rfl); (case hg => rfl); (case hr => first | (go_simp; done) | (go_simp; rfl)); intro gb166 hg w5 hbox hb; have BK166 := Aside0.mk (hbox); have GW166 := Aside0.mk (bS HB.out hg); have GE166 := Aside0.mk (bS HB.out hg); replace HB := Aside0.mk (below_step (tB HB.out) hb); clear hb hbox hg) | ((with_reducible refine gate_callee (f := 21) rfl ?_); refine goesL_ (some 15) rfl rfl Try.func21 (by kernel_rfl) rfl #[.slice A1 l1.length c1, .int .i64 1048576] rfl tM ?_; (with_reducible refine (laws_szLoadS.calls _ _ l1 1048576 t167 _ ?side1 ?side2 A3.out).mono ?_); (case side1 => exact tC (Kd.C_below HR1.out HB.out)); (case side2 => exact HC1.out); rintro e w' ⟨rfl, ⟨nd, rfl⟩⟩; refine ⟨_, rfl, ?_⟩))
  go_ret
  exact ⟨by first | rfl | (simp [errW_none, errW_some] <;> rfl) | (simp [*, errW_none, errW_some] <;> rfl), tB HB.out⟩
 ·
  rw [if_neg c4] at H
  have c4b0 : decide (t167 < 0) = false := decide_eq_false c4
  clear c4
  replace H := Option.bind_eq_some_iff.mp H
  obtain ⟨⟨t168, t169, t170⟩, A60, H⟩ := H
  replace H : ((laws_toLoadS.f k l1).bind fun t171 => ((spec_SupportTimes.f k t168 t169 t170 t171).bind fun bt174 => ((laws_toLoadS.f k l1).bind fun t177 => ((laws_toBeam.f a0_0 a0_1 a0_2).bind fun bt180 => ((impl_SupportTimes.f k bt180.1 bt180.2.1 bt180.2.2 t177).bind fun bt183 => (if bt183.1 = bt174.1 then (if bt183.2.1 = bt174.2.1 then (laws_FnExactSupportTimes.j0 k l1 t177 (bt183.2.2 != bt174.2.2)) else (laws_FnExactSupportTimes.j0 k l1 t177 true)) else (laws_FnExactSupportTimes.j0 k l1 t177 true))))))) = some r := H
  have A6 := Aside0.mk A60
  clear A60
  replace H := Option.bind_eq_some_iff.mp H
  obtain ⟨t171, A70, H⟩ := H
  replace H : ((spec_SupportTimes.f k t168 t169 t170 t171).bind fun bt174 => ((laws_toLoadS.f k l1).bind fun t177 => ((laws_toBeam.f a0_0 a0_1 a0_2).bind fun bt180 => ((impl_SupportTimes.f k bt180.1 bt180.2.1 bt180.2.2 t177).bind fun bt183 => (if bt183.1 = bt174.1 then (if bt183.2.1 = bt174.2.1 then (laws_FnExactSupportTimes.j0 k l1 t177 (bt183.2.2 != bt174.2.2)) else (laws_FnExactSupportTimes.j0 k l1 t177 true)) else (laws_FnExactSupportTimes.j0 k l1 t177 true)))))) = some r := H
  have A7 := Aside0.mk A70
  clear A70
  replace H := Option.bind_eq_some_iff.mp H
  obtain ⟨⟨t174, t175, t176⟩, A80, H⟩ := H
  replace H : ((laws_toLoadS.f k l1).bind fun t177 => ((laws_toBeam.f a0_0 a0_1 a0_2).bind fun bt180 => ((impl_SupportTimes.f k bt180.1 bt180.2.1 bt180.2.2 t177).bind fun bt183 => (if bt183.1 = t174 then (if bt183.2.1 = t175 then (laws_FnExactSupportTimes.j0 k l1 t177 (bt183.2.2 != t176)) else (laws_FnExactSupportTimes.j0 k l1 t177 true)) else (laws_FnExactSupportTimes.j0 k l1 t177 true))))) = some r := H
  have A8 := Aside0.mk A80
  clear A80
  replace H := Option.bind_eq_some_iff.mp H
  obtain ⟨t177, A90, H⟩ := H
  replace H : ((laws_toBeam.f a0_0 a0_1 a0_2).bind fun bt180 => ((impl_SupportTimes.f k bt180.1 bt180.2.1 bt180.2.2 t177).bind fun bt183 => (if bt183.1 = t174 then (if bt183.2.1 = t175 then (laws_FnExactSupportTimes.j0 k l1 t177 (bt183.2.2 != t176)) else (laws_FnExactSupportTimes.j0 k l1 t177 true)) else (laws_FnExactSupportTimes.j0 k l1 t177 true)))) = some r := H
  have A9 := Aside0.mk A90
  clear A90
  replace H := Option.bind_eq_some_iff.mp H
  obtain ⟨⟨t180, t181, t182⟩, A100, H⟩ := H
  replace H : ((impl_SupportTimes.f k t180 t181 t182 t177).bind fun bt183 => (if bt183.1 = t174 then (if bt183.2.1 = t175 then (laws_FnExactSupportTimes.j0 k l1 t177 (bt183.2.2 != t176)) else (laws_FnExactSupportTimes.j0 k l1 t177 true)) else (laws_FnExactSupportTimes.j0 k l1 t177 true))) = some r := H
  have A10 := Aside0.mk A100
  clear A100
  replace H := Option.bind_eq_some_iff.mp H
  obtain ⟨⟨t183, t184, t185⟩, A110, H⟩ := H
  replace H : (if t183 = t174 then (if t184 = t175 then (laws_FnExactSupportTimes.j0 k l1 t177 (t185 != t176)) else (laws_FnExactSupportTimes.j0 k l1 t177 true)) else (laws_FnExactSupportTimes.j0 k l1 t177 true)) = some r := H
  have A11 := Aside0.mk A110
  clear A110
  have HC12 := Aside0.mk H
  clear H
  go_enter Try.func8, Try.ntmps8
  go_upto_region 8 with (first | ((with_reducible refine gate_dst (N := 2) rfl ?_); refine box_event ?hg (N := 2) ?hd (cs := #[.int .i64 a0_0, .int .i64 a0_1, .int .i64 a0_2]) (t := 23) ?hr ?_; (case hd => rfl); (case hg => rfl); (case hr => first | (go_simp; done) | (go_simp; rfl)); intro gb166 hg w13 hbox hb; have BK166 := Aside0.mk (hbox); have GW166 := Aside0.mk (bS HB.out hg); have GE166 := Aside0.mk (bS HB.out hg); replace HB := Aside0.mk (below_step (tB HB.out) hb); clear hb hbox hg) | ((with_reducible refine gate_callee (f := 21) rfl ?_); refine goesL_ (some 15) rfl rfl Try.func21 (by kernel_rfl) rfl #[.slice A1 l1.length c1, .int .i64 1048576] rfl tM ?_; (with_reducible refine (laws_szLoadS.calls _ _ l1 1048576 t167 _ ?side1 ?side2 A3.out).mono ?_); (case side1 => exact tC (Kd.C_below HR1.out HB.out)); (case side2 => exact HC1.out); rintro e w' ⟨rfl, ⟨nd, rfl⟩⟩; refine ⟨_, rfl, ?_⟩; obtain ⟨hcz14_0, hfz14_0, hcz14_1, hfz14_1, hcz14_2, hfz14_2⟩ := cz3 BK166) | ((with_reducible refine gate_callee (f := 16) rfl ?_); refine goesL_ (some 20) rfl rfl Try.func16 (by kernel_rfl) rfl #[.agg #[.int .i64 a0_0, .int .i64 a0_1, .int .i64 a0_2]] rfl tM ?_; (with_reducible refine (laws_toBeam.calls a0_0 a0_1 a0_2 t168 t169 t170 _ A6.out).mono ?_); rintro e w15 ⟨rfl, hb⟩; refine ⟨_, rfl, ?_⟩; replace BK166 := bkB BK166 hb; replace HB := Aside0.mk (below_step (tB HB.out) hb); (try clear hb); (try clear hb2); (try clear hk); (try clear hi)) | ((with_reducible refine gate_callee (f := 23) rfl ?_); refine goesL_ (some 22) rfl rfl Try.func23 (by kernel_rfl) rfl #[.slice A1 l1.length c1] rfl tM ?_; (with_reducible refine (laws_toLoadS.calls k _ _ l1 t171 _ ?side1 ?side2 A7.out).mono ?_); (case side1 => exact tC (Kd.C_below HR1.out HB.out)); (case side2 => exact HC1.out); rintro e w16 ⟨v172, rfl, ho0, hb⟩; refine ⟨_, rfl, ?_⟩; have HO173 := Aside0.mk (Kd.R_lower ho0 (below_size (tB HB.out))); replace BK166 := bkB BK166 hb; replace HB := Aside0.mk (below_step (tB HB.out) hb); (try clear hb); (try clear hb2); (try clear hk); (try clear hi); (try clear ho0); obtain ⟨Ao17, co17, eo17⟩ := Kd.R_slice HO173.out; subst eo17) | ((with_reducible refine gate_callee (f := 35) rfl ?_); refine goesL_ (some 23) rfl rfl Try.func35 (by kernel_rfl) rfl #[.agg #[.int .i64 t168, .int .i64 t169, .int .i64 t170], .slice Ao17 t171.length co17] rfl tM ?_; (with_reducible refine (spec_SupportTimes.calls k t168 t169 t170 _ _ t171 t174 t175 t176 _ ?side1 ?side2 A8.out).mono ?_); (case side1 => exact tC (Kd.R_reads' HO173.out).2.2); (case side2 => exact (Kd.R_reads' HO173.out).2.1); rintro e w18 ⟨rfl, hb⟩; refine ⟨_, rfl, ?_⟩; replace HO173 := Aside0.mk (Kd.R_below (tR HO173.out) hb); replace BK166 := bkB BK166 hb; replace HB := Aside0.mk (below_step (tB HB.out) hb); (try clear hb); (try clear hb2); (try clear hk); (try clear hi)) | ((with_reducible refine gate_callee (f := 23) rfl ?_); refine goesL_ (some 28) rfl rfl Try.func23 (by kernel_rfl) rfl #[.slice A1 l1.length c1] rfl tM ?_; (with_reducible refine (laws_toLoadS.calls k _ _ l1 t177 _ ?side1 ?side2 A9.out).mono ?_); (case side1 => exact tC (Kd.C_below HR1.out HB.out)); (case side2 => exact HC1.out); rintro e w19 ⟨v178, rfl, ho0, hb⟩; refine ⟨_, rfl, ?_⟩; have HO179 := Aside0.mk (Kd.R_lower (Kd.R_new' ho0 (Kd.R_lt (tR HO173.out))) (below_size (tB HB.out))); replace HO173 := Aside0.mk (Kd.R_elder' (tR HO173.out) (Kd.R_base ho0) hb); replace BK166 := bkB BK166 hb; replace HB := Aside0.mk (below_step (tB HB.out) hb); (try clear hb); (try clear hb2); (try clear hk); (try clear hi); (try clear ho0); obtain ⟨hcz20_0, hfz20_0, hcz20_1, hfz20_1, hcz20_2, hfz20_2⟩ := cz3 BK166) | ((with_reducible refine gate_callee (f := 16) rfl ?_); refine goesL_ (some 31) rfl rfl Try.func16 (by kernel_rfl) rfl #[.agg #[.int .i64 a0_0, .int .i64 a0_1, .int .i64 a0_2]] rfl tM ?_; (with_reducible refine (laws_toBeam.calls a0_0 a0_1 a0_2 t180 t181 t182 _ A10.out).mono ?_); rintro e w21 ⟨rfl, hb⟩; refine ⟨_, rfl, ?_⟩; replace HO173 := Aside0.mk (Kd.R_below (tR HO173.out) hb); replace HO179 := Aside0.mk (Kd.R_below (tR HO179.out) hb); replace BK166 := bkB BK166 hb; replace HB := Aside0.mk (below_step (tB HB.out) hb); (try clear hb); (try clear hb2); (try clear hk); (try clear hi); obtain ⟨Ao22, co22, eo22⟩ := Kd.R_slice HO179.out; subst eo22) | ((with_reducible refine gate_callee (f := 36) rfl ?_); refine goesL_ (some 33) rfl rfl Try.func36 (by kernel_rfl) rfl #[.agg #[.int .i64 t180, .int .i64 t181, .int .i64 t182], .slice Ao22 t177.length co22] rfl tM ?_; (with_reducible refine (impl_SupportTimes.calls k t180 t181 t182 _ _ t177 t183 t184 t185 _ ?side1 ?side2 A11.out).mono ?_); (case side1 => exact tC (Kd.R_reads' HO179.out).2.2); (case side2 => exact (Kd.R_reads' HO179.out).2.1); rintro e w23 ⟨rfl, hb⟩; refine ⟨_, rfl, ?_⟩; replace HO173 := Aside0.mk (Kd.R_below (tR HO173.out) hb); replace HO179 := Aside0.mk (Kd.R_below (tR HO179.out) hb); replace BK166 := bkB BK166 hb; replace HB := Aside0.mk (below_step (tB HB.out) hb); (try clear hb); (try clear hb2); (try clear hk); (try clear hi)))
  (try simp only [Act.put, List.setIfInBounds_toArray, List.set_cons_zero, List.set_cons_succ])
  go_cut [49] (fun v49 wc => ∃ (kq : Nat) (x49_11 : Bool), v49 = .bool x49_11 ∧ Aside0 (laws_FnExactSupportTimes.j0 kq l1 t177 x49_11 = some r) ∧ Aside0 (kq ≤ k) ∧ Aside0 (Kd.R k57 57 wc w.heap.size (fun _ => True) (.slice Ao22 t177.length co22) t177) ∧ Aside0 (wc.heap[gb166]? = some (.cells #[.int .i64 a0_0, .int .i64 a0_1, .int .i64 a0_2] 23 (0, 0))) ∧ Aside0 (Below w.heap.size w wc))
  case first =>
   have H := HC12.out
   clear HC12
   by_cases c24 : t183 = t174
   ·
    rw [if_pos c24] at H
    have c24b0 : (t183 == t174) = true := beq_iff_eq.mpr c24
    have c24b1 : (t183 != t174) = false := bne_eq_false_iff_eq.mpr c24
    clear c24
    (first | rw [c24b0] | (simp only [i64_w, i32_w]; rw [c24b0]) | skip)
    by_cases c25 : t184 = t175
    ·
     rw [if_pos c25] at H
     have c25b0 : (t184 == t175) = true := beq_iff_eq.mpr c25
     have c25b1 : (t184 != t175) = false := bne_eq_false_iff_eq.mpr c25
     clear c25
     have H' := Aside0.mk H
     clear H
     go_wp2
     go_meet
     case rel => exact ⟨_, ((t185 != t176)), (by first | rfl | (simp; done) | (simp [wrap64]; done) | (simp [*]; done)), H', ⟨by first | omega | exact Nat.le_refl _⟩, ⟨by (with_reducible repeat (first | apply Kd.R_alloc | apply Kd.R_drewN | apply Kd.R_drew)); exact Kd.R_mono HO179.out (fun _ hk => trivial)⟩, ⟨tK BK166.out⟩, ⟨tB HB.out⟩⟩
    ·
     rw [if_neg c25] at H
     have c25b0 : (t184 == t175) = false := beq_eq_false_iff_ne.mpr c25
     have c25b1 : (t184 != t175) = true := bne_iff_ne.mpr c25
     have H' := Aside0.mk H
     clear H
     go_wp2
     go_meet
     case rel => exact ⟨_, (true), (by first | rfl | (simp; done) | (simp [wrap64]; done) | (simp [*]; done)), H', ⟨by first | omega | exact Nat.le_refl _⟩, ⟨by (with_reducible repeat (first | apply Kd.R_alloc | apply Kd.R_drewN | apply Kd.R_drew)); exact Kd.R_mono HO179.out (fun _ hk => trivial)⟩, ⟨tK BK166.out⟩, ⟨tB HB.out⟩⟩
   ·
    rw [if_neg c24] at H
    have c24b0 : (t183 == t174) = false := beq_eq_false_iff_ne.mpr c24
    have c24b1 : (t183 != t174) = true := bne_iff_ne.mpr c24
    (first | rw [c24b0] | (simp only [i64_w, i32_w]; rw [c24b0]) | skip)
    have H' := Aside0.mk H
    clear H
    go_wp2
    go_meet
    case rel => exact ⟨_, (true), (by first | rfl | (simp; done) | (simp [wrap64]; done) | (simp [*]; done)), H', ⟨by first | omega | exact Nat.le_refl _⟩, ⟨by (with_reducible repeat (first | apply Kd.R_alloc | apply Kd.R_drewN | apply Kd.R_drew)); exact Kd.R_mono HO179.out (fun _ hk => trivial)⟩, ⟨tK BK166.out⟩, ⟨tB HB.out⟩⟩
  case rest =>
   clear HC12
   try clear c1
   try clear c2
   try clear p2
   try clear c3
   try clear c4
   try clear c4b0
   try clear p6
   try clear c8
   try clear c16
   try clear c21
   try clear c23
   try clear c24
   try clear c24b0
   try clear c24b1
   try clear c25
   try clear c25b0
   try clear c25b1
   try clear hcz14_0
   try clear hcz14_1
   try clear hcz14_2
   try clear hcz20_0
   try clear hcz20_1
   try clear hcz20_2
   try clear hfz14_0
   try clear hfz14_1
   try clear hfz14_2
   try clear hfz20_0
   try clear hfz20_1
   try clear hfz20_2
   obtain ⟨kq, x49_11, rfl, HA, HJ11, HO_9, BK166, HB⟩ := hcut
   cases kq with
   | zero => exact absurd HA.out (by simp [laws_FnExactSupportTimes.j0])
   | succ kj11 =>
    have H := HA.out
    clear HA
    simp only [laws_FnExactSupportTimes.j0] at H
    by_cases c26 : x49_11 = true
    ·
     subst c26
     have H1 : (some false) = some r := by rw [if_pos rfl] at H; exact H
     clear H
     have H := H1
     clear H1
     obtain rfl := Option.some.inj H
     go_wp2
     go_ret
     exact ⟨by first | rfl | (simp [errW_none, errW_some] <;> rfl) | (simp [*, errW_none, errW_some] <;> rfl), tB HB.out⟩
    ·
     replace c26 := Bool.eq_false_iff.mpr c26
     subst c26
     have H1 : ((laws_toLoadS.f kj11 l1).bind fun t186 => ((laws_eqLoadS.f kj11 t177 t186).bind fun t189 => (if t189 = true then (some true) else (some false)))) = some r := by rw [if_neg (show ¬ (false = true) by decide)] at H; exact H
     clear H
     have H := H1
     clear H1
     replace H := Option.bind_eq_some_iff.mp H
     obtain ⟨t186, A270, H⟩ := H
     replace H : ((laws_eqLoadS.f kj11 t177 t186).bind fun t189 => (if t189 = true then (some true) else (some false))) = some r := H
     have A27 := Aside0.mk A270
     clear A270
     replace H := Option.bind_eq_some_iff.mp H
     obtain ⟨t189, A280, H⟩ := H
     replace H : (if t189 = true then (some true) else (some false)) = some r := H
     have A28 := Aside0.mk A280
     clear A280
     by_cases c29 : t189 = true
     ·
      subst c29
      have H1 : (some true) = some r := by rw [if_pos rfl] at H; exact H
      clear H
      have H := H1
      clear H1
      obtain rfl := Option.some.inj H
      go_wp2_with (first | ((with_reducible refine gate_callee (f := 23) rfl ?_); refine goesL_ (some 52) rfl rfl Try.func23 (by kernel_rfl) rfl #[.slice A1 l1.length c1] rfl tM ?_; (with_reducible refine (laws_toLoadS.calls kj11 _ _ l1 t186 _ ?side1 ?side2 A27.out).mono ?_); (case side1 => exact tC (Kd.C_below HR1.out HB.out)); (case side2 => exact HC1.out); rintro e w30 ⟨v187, rfl, ho0, hb⟩; refine ⟨_, rfl, ?_⟩; have HO188 := Aside0.mk (Kd.R_lower (Kd.R_new' ho0 (Kd.R_lt (tR HO_9.out))) (below_size (tB HB.out))); replace HO_9 := Aside0.mk (Kd.R_elder' (tR HO_9.out) (Kd.R_base ho0) hb); replace BK166 := bkB BK166 hb; replace HB := Aside0.mk (below_step (tB HB.out) hb); (try clear hb); (try clear hb2); (try clear hk); (try clear hi); (try clear ho0); obtain ⟨Ao31, co31, eo31⟩ := Kd.R_slice HO188.out; subst eo31) | ((with_reducible refine gate_callee (f := 25) rfl ?_); refine goesL_ (some 53) rfl rfl Try.func25 (by kernel_rfl) rfl #[.slice Ao22 t177.length co22, .slice Ao31 t186.length co31] rfl tM ?_; (with_reducible refine (laws_eqLoadS.calls kj11 _ _ t177 _ _ t186 true _ ?side1 ?side2 ?side3 ?side4 A28.out).mono ?_); (case side1 => exact tC (Kd.R_reads' HO_9.out).2.2); (case side2 => exact (Kd.R_reads' HO_9.out).2.1); (case side3 => exact tC (Kd.R_reads' HO188.out).2.2); (case side4 => exact (Kd.R_reads' HO188.out).2.1); rintro e w32 ⟨rfl, hb⟩; refine ⟨_, rfl, ?_⟩; replace HO_9 := Aside0.mk (Kd.R_below (tR HO_9.out) hb); replace HO188 := Aside0.mk (Kd.R_below (tR HO188.out) hb); replace BK166 := bkB BK166 hb; replace HB := Aside0.mk (below_step (tB HB.out) hb); (try clear hb); (try clear hb2); (try clear hk); (try clear hi)))
      go_ret
      exact ⟨by first | rfl | (simp [errW_none, errW_some] <;> rfl) | (simp [*, errW_none, errW_some] <;> rfl), tB HB.out⟩
     ·
      replace c29 := Bool.eq_false_iff.mpr c29
      subst c29
      have H1 : (some false) = some r := by rw [if_neg (show ¬ (false = true) by decide)] at H; exact H
      clear H
      have H := H1
      clear H1
      obtain rfl := Option.some.inj H
      go_wp2_with (first | ((with_reducible refine gate_callee (f := 23) rfl ?_); refine goesL_ (some 52) rfl rfl Try.func23 (by kernel_rfl) rfl #[.slice A1 l1.length c1] rfl tM ?_; (with_reducible refine (laws_toLoadS.calls kj11 _ _ l1 t186 _ ?side1 ?side2 A27.out).mono ?_); (case side1 => exact tC (Kd.C_below HR1.out HB.out)); (case side2 => exact HC1.out); rintro e w33 ⟨v187, rfl, ho0, hb⟩; refine ⟨_, rfl, ?_⟩; have HO188 := Aside0.mk (Kd.R_lower (Kd.R_new' ho0 (Kd.R_lt (tR HO_9.out))) (below_size (tB HB.out))); replace HO_9 := Aside0.mk (Kd.R_elder' (tR HO_9.out) (Kd.R_base ho0) hb); replace BK166 := bkB BK166 hb; replace HB := Aside0.mk (below_step (tB HB.out) hb); (try clear hb); (try clear hb2); (try clear hk); (try clear hi); (try clear ho0); obtain ⟨Ao34, co34, eo34⟩ := Kd.R_slice HO188.out; subst eo34) | ((with_reducible refine gate_callee (f := 25) rfl ?_); refine goesL_ (some 53) rfl rfl Try.func25 (by kernel_rfl) rfl #[.slice Ao22 t177.length co22, .slice Ao34 t186.length co34] rfl tM ?_; (with_reducible refine (laws_eqLoadS.calls kj11 _ _ t177 _ _ t186 false _ ?side1 ?side2 ?side3 ?side4 A28.out).mono ?_); (case side1 => exact tC (Kd.R_reads' HO_9.out).2.2); (case side2 => exact (Kd.R_reads' HO_9.out).2.1); (case side3 => exact tC (Kd.R_reads' HO188.out).2.2); (case side4 => exact (Kd.R_reads' HO188.out).2.1); rintro e w35 ⟨rfl, hb⟩; refine ⟨_, rfl, ?_⟩; replace HO_9 := Aside0.mk (Kd.R_below (tR HO_9.out) hb); replace HO188 := Aside0.mk (Kd.R_below (tR HO188.out) hb); replace BK166 := bkB BK166 hb; replace HB := Aside0.mk (below_step (tB HB.out) hb); (try clear hb); (try clear hb2); (try clear hk); (try clear hi)))
      go_ret
      exact ⟨by first | rfl | (simp [errW_none, errW_some] <;> rfl) | (simp [*, errW_none, errW_some] <;> rfl), tB HB.out⟩

end Go.Proofs.Ytchcjlkbpmkajaa.PFnExactSupportTimes

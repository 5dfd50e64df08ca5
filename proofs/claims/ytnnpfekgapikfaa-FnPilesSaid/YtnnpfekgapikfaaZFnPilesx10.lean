import Derived.Test.YtnnpfekgapikfaaZFnPilesx0
import Derived.Test.YtnnpfekgapikfaaZFnPilesx1
import Derived.Test.YtnnpfekgapikfaaZFnPilesx3
import Derived.Test.YtnnpfekgapikfaaZFnPilesx4
import Derived.Test.YtnnpfekgapikfaaZFnPilesx5
import Derived.Test.YtnnpfekgapikfaaZFnPilesx6
import Derived.Test.YtnnpfekgapikfaaZFnPilesx7
import Derived.Test.YtnnpfekgapikfaaZFnPilesx8
import Derived.Test.YtnnpfekgapikfaaZFnPilesx9
import Derived.Test.YtnnpfekgapikfaaZFnPilesd
import Derived.Test.YtnnpfekgapikfaaZFnPilesr1
namespace Go.Proofs.Ytnnpfekgapikfaa.PFnPiles
open Go.RowKit Go.Proofs.YtnnpfekgapikfaaW.PrintWords Go.Proofs.YtnnpfekgapikfaaW.PrintLast Go.Proofs.YtnnpfekgapikfaaW.PrintMore
attribute [local go_sem] max2_int min2_int max_two min_two max_three min_three max_four min_four
set_option linter.unusedVariables false
set_option linter.unusedSimpArgs false
set_option maxHeartbeats 8000000 in
set_option maxRecDepth 100000 in
theorem laws_FnPiles.calls (k : Nat) (A0 : Option Addr) (c0 : Nat) (l0 : List Int) (r : Bool) (w : World) (hr0 : Kd.C (Kd.int .u8) w A0 l0.length l0) (hc0 : l0.length ≤ c0) (h : laws_FnPiles.f k l0 = some r) :
  Calls Try.prog 5 #[.slice A0 l0.length c0] w fun e w' => e = .returned (.bool r) ∧ Below w.heap.size w w' := by
 have hu27 := Try.underlying27
 have hu45 := Try.underlying45
 have heqa45 : ∀ (a0_ a1_ b0_ b1_ : Int) (W_ : World), (Op.equalIn 10000 45 (.agg #[.int .i64 a0_, .int .i64 a1_]) (.agg #[.int .i64 b0_, .int .i64 b1_])).run Try.prog W_ = .ok (a0_ == b0_ && a1_ == b1_) W_ := by
  intro a0_ a1_ b0_ b1_ W_
  have u3 := Try.underlying3
  have a3 := Try.isAgg3
  have z3 := Try.sizeOf3
  rw [show (10000 : Nat) = 9999 + 1 from rfl, Op.equalIn]
  simp only [Sem.run_bind, run_underlying Try.underlying45, Result.andThen_ok]
  simp only [Std.Legacy.Range.forIn_eq_forIn_range', Std.Legacy.Range.size, Nat.sub_zero, Nat.add_sub_cancel, Nat.div_one, List.range'_succ, List.range'_zero, List.forIn_cons, List.forIn_nil]
  go_simp
  by_cases h0_ : a0_ = b0_ <;> by_cases h1_ : a1_ = b1_ <;> simp [h0_, h1_]
 have HR0 := Aside0.mk hr0
 have HC0 := Aside0.mk hc0
 clear hr0 hc0
 have HB := Aside0.mk (Below.refl w.heap.size w)
 have H : ((laws_rBig.f l0).bind fun t512 => (if t512 = true then (some true) else ((spec_DrawStandsFirm.f k l0).bind fun bt513 => ((impl_StandsFirm.f k bt513.1 bt513.2.1 bt513.2.2).bind fun bt521 => ((spec_StandsFirm.f k bt513.1 bt513.2.1 bt513.2.2).bind fun bt523 => (if (bt521.1 != bt523.1) = true then (none) else (if (bt521.2 != bt523.2) = true then (none) else ((impl_IsPile.f k bt513.1 bt513.2.1 bt513.2.2).bind fun t525 => (if (bt521.2 != t525) = true then (none) else ((impl_HighestLoose.f k bt513.1 bt513.2.1 bt513.2.2).bind fun bt526 => ((spec_HighestLoose.f k bt513.1 bt513.2.1 bt513.2.2).bind fun bt528 => (if bt526.1 = bt528.1 then (if (bt526.2 != bt528.2) = true then (laws_FnPiles.j0 k l0 bt521.1 bt521.2 bt526.1 true bt513.1 bt513.2.1 bt513.2.2) else (if bt521.2 = true then (laws_FnPiles.j0 k l0 bt521.1 bt521.2 bt526.1 (bt526.2 != (!bt521.1)) bt513.1 bt513.2.1 bt513.2.2) else (laws_FnPiles.j0 k l0 bt521.1 bt521.2 bt526.1 (bt526.2 != false) bt513.1 bt513.2.1 bt513.2.2))) else (laws_FnPiles.j0 k l0 bt521.1 bt521.2 bt526.1 true bt513.1 bt513.2.1 bt513.2.2))))))))))))) = some r := h
 clear h
 replace H := Option.bind_eq_some_iff.mp H
 obtain ⟨t512, A20, H⟩ := H
 replace H : (if t512 = true then (some true) else ((spec_DrawStandsFirm.f k l0).bind fun bt513 => ((impl_StandsFirm.f k bt513.1 bt513.2.1 bt513.2.2).bind fun bt521 => ((spec_StandsFirm.f k bt513.1 bt513.2.1 bt513.2.2).bind fun bt523 => (if (bt521.1 != bt523.1) = true then (none) else (if (bt521.2 != bt523.2) = true then (none) else ((impl_IsPile.f k bt513.1 bt513.2.1 bt513.2.2).bind fun t525 => (if (bt521.2 != t525) = true then (none) else ((impl_HighestLoose.f k bt513.1 bt513.2.1 bt513.2.2).bind fun bt526 => ((spec_HighestLoose.f k bt513.1 bt513.2.1 bt513.2.2).bind fun bt528 => (if bt526.1 = bt528.1 then (if (bt526.2 != bt528.2) = true then (laws_FnPiles.j0 k l0 bt521.1 bt521.2 bt526.1 true bt513.1 bt513.2.1 bt513.2.2) else (if bt521.2 = true then (laws_FnPiles.j0 k l0 bt521.1 bt521.2 bt526.1 (bt526.2 != (!bt521.1)) bt513.1 bt513.2.1 bt513.2.2) else (laws_FnPiles.j0 k l0 bt521.1 bt521.2 bt526.1 (bt526.2 != false) bt513.1 bt513.2.1 bt513.2.2))) else (laws_FnPiles.j0 k l0 bt521.1 bt521.2 bt526.1 true bt513.1 bt513.2.1 bt513.2.2)))))))))))) = some r := H
 have A2 := Aside0.mk A20
 clear A20
 by_cases c3 : t512 = true
 ·
  subst c3
  have H1 : (some true) = some r := by rw [if_pos rfl] at H; exact H
  clear H
  have H := H1
  clear H1
  obtain rfl := Option.some.inj H
  go_enter Try.func5, Try.ntmps5
  go_wp2_with (first | ((with_reducible refine gate_callee (f := 14) rfl ?_); refine goesL_ (some 57) rfl rfl Try.func14 (by kernel_rfl) rfl #[.slice A0 l0.length c0] rfl tM ?_; (with_reducible refine (laws_rBig.calls _ _ l0 true _ ?side1 ?side2 A2.out).mono ?_); (case side1 => repeat (first | exact HR0.out | (with_reducible refine Kd.C_alloc ?_ _) | (with_reducible refine Kd.C_drewN ?_ _) | (with_reducible refine Kd.C_drew ?_))); (case side2 => exact HC0.out); rintro e w' ⟨rfl, ⟨nd, rfl⟩⟩; refine ⟨_, rfl, ?_⟩))
  go_ret
  exact ⟨by first | rfl | (simp [errW_none, errW_some] <;> rfl) | (simp [*, errW_none, errW_some] <;> rfl), tB HB.out⟩
 ·
  replace c3 := Bool.eq_false_iff.mpr c3
  subst c3
  have H1 : ((spec_DrawStandsFirm.f k l0).bind fun bt513 => ((impl_StandsFirm.f k bt513.1 bt513.2.1 bt513.2.2).bind fun bt521 => ((spec_StandsFirm.f k bt513.1 bt513.2.1 bt513.2.2).bind fun bt523 => (if (bt521.1 != bt523.1) = true then (none) else (if (bt521.2 != bt523.2) = true then (none) else ((impl_IsPile.f k bt513.1 bt513.2.1 bt513.2.2).bind fun t525 => (if (bt521.2 != t525) = true then (none) else ((impl_HighestLoose.f k bt513.1 bt513.2.1 bt513.2.2).bind fun bt526 => ((spec_HighestLoose.f k bt513.1 bt513.2.1 bt513.2.2).bind fun bt528 => (if bt526.1 = bt528.1 then (if (bt526.2 != bt528.2) = true then (laws_FnPiles.j0 k l0 bt521.1 bt521.2 bt526.1 true bt513.1 bt513.2.1 bt513.2.2) else (if bt521.2 = true then (laws_FnPiles.j0 k l0 bt521.1 bt521.2 bt526.1 (bt526.2 != (!bt521.1)) bt513.1 bt513.2.1 bt513.2.2) else (laws_FnPiles.j0 k l0 bt521.1 bt521.2 bt526.1 (bt526.2 != false) bt513.1 bt513.2.1 bt513.2.2))) else (laws_FnPiles.j0 k l0 bt521.1 bt521.2 bt526.1 true bt513.1 bt513.2.1 bt513.2.2))))))))))) = some r := by rw [if_neg (show ¬ (false = true) by decide)] at H; exact H
  clear H
  have H := H1
  clear H1
  replace H := Option.bind_eq_some_iff.mp H
  obtain ⟨⟨t513, t514, t517⟩, A40, H⟩ := H
  replace H : ((impl_StandsFirm.f k t513 t514 t517).bind fun bt521 => ((spec_StandsFirm.f k t513 t514 t517).bind fun bt523 => (if (bt521.1 != bt523.1) = true then (none) else (if (bt521.2 != bt523.2) = true then (none) else ((impl_IsPile.f k t513 t514 t517).bind fun t525 => (if (bt521.2 != t525) = true then (none) else ((impl_HighestLoose.f k t513 t514 t517).bind fun bt526 => ((spec_HighestLoose.f k t513 t514 t517).bind fun bt528 => (if bt526.1 = bt528.1 then (if (bt526.2 != bt528.2) = true then (laws_FnPiles.j0 k l0 bt521.1 bt521.2 bt526.1 true t513 t514 t517) else (if bt521.2 = true then (laws_FnPiles.j0 k l0 bt521.1 bt521.2 bt526.1 (bt526.2 != (!bt521.1)) t513 t514 t517) else (laws_FnPiles.j0 k l0 bt521.1 bt521.2 bt526.1 (bt526.2 != false) t513 t514 t517))) else (laws_FnPiles.j0 k l0 bt521.1 bt521.2 bt526.1 true t513 t514 t517)))))))))) = some r := H
  have A4 := Aside0.mk A40
  clear A40
  replace H := Option.bind_eq_some_iff.mp H
  obtain ⟨⟨t521, t522⟩, A50, H⟩ := H
  replace H : ((spec_StandsFirm.f k t513 t514 t517).bind fun bt523 => (if (t521 != bt523.1) = true then (none) else (if (t522 != bt523.2) = true then (none) else ((impl_IsPile.f k t513 t514 t517).bind fun t525 => (if (t522 != t525) = true then (none) else ((impl_HighestLoose.f k t513 t514 t517).bind fun bt526 => ((spec_HighestLoose.f k t513 t514 t517).bind fun bt528 => (if bt526.1 = bt528.1 then (if (bt526.2 != bt528.2) = true then (laws_FnPiles.j0 k l0 t521 t522 bt526.1 true t513 t514 t517) else (if t522 = true then (laws_FnPiles.j0 k l0 t521 t522 bt526.1 (bt526.2 != (!t521)) t513 t514 t517) else (laws_FnPiles.j0 k l0 t521 t522 bt526.1 (bt526.2 != false) t513 t514 t517))) else (laws_FnPiles.j0 k l0 t521 t522 bt526.1 true t513 t514 t517))))))))) = some r := H
  have A5 := Aside0.mk A50
  clear A50
  replace H := Option.bind_eq_some_iff.mp H
  obtain ⟨⟨t523, t524⟩, A60, H⟩ := H
  replace H : (if (t521 != t523) = true then (none) else (if (t522 != t524) = true then (none) else ((impl_IsPile.f k t513 t514 t517).bind fun t525 => (if (t522 != t525) = true then (none) else ((impl_HighestLoose.f k t513 t514 t517).bind fun bt526 => ((spec_HighestLoose.f k t513 t514 t517).bind fun bt528 => (if bt526.1 = bt528.1 then (if (bt526.2 != bt528.2) = true then (laws_FnPiles.j0 k l0 t521 t522 bt526.1 true t513 t514 t517) else (if t522 = true then (laws_FnPiles.j0 k l0 t521 t522 bt526.1 (bt526.2 != (!t521)) t513 t514 t517) else (laws_FnPiles.j0 k l0 t521 t522 bt526.1 (bt526.2 != false) t513 t514 t517))) else (laws_FnPiles.j0 k l0 t521 t522 bt526.1 true t513 t514 t517)))))))) = some r := H
  have A6 := Aside0.mk A60
  clear A60
  by_cases c7 : (t521 != t523) = true
  ·
   rw [if_pos c7] at H
   exact absurd H (by simp)
  ·
   rw [if_neg c7] at H
   have c7b0 : (t521 != t523) = false := by simpa using c7
   (try (have c7b1 : decide (t521 = t523) = true := by simpa using c7))
   (try (have c7b2 : (t521 == t523) = true := by simpa using c7))
   clear c7
   by_cases c8 : (t522 != t524) = true
   ·
    rw [if_pos c8] at H
    exact absurd H (by simp)
   ·
    rw [if_neg c8] at H
    have c8b0 : (t522 != t524) = false := by simpa using c8
    (try (have c8b1 : decide (t522 = t524) = true := by simpa using c8))
    (try (have c8b2 : (t522 == t524) = true := by simpa using c8))
    clear c8
    replace H := Option.bind_eq_some_iff.mp H
    obtain ⟨t525, A90, H⟩ := H
    replace H : (if (t522 != t525) = true then (none) else ((impl_HighestLoose.f k t513 t514 t517).bind fun bt526 => ((spec_HighestLoose.f k t513 t514 t517).bind fun bt528 => (if bt526.1 = bt528.1 then (if (bt526.2 != bt528.2) = true then (laws_FnPiles.j0 k l0 t521 t522 bt526.1 true t513 t514 t517) else (if t522 = true then (laws_FnPiles.j0 k l0 t521 t522 bt526.1 (bt526.2 != (!t521)) t513 t514 t517) else (laws_FnPiles.j0 k l0 t521 t522 bt526.1 (bt526.2 != false) t513 t514 t517))) else (laws_FnPiles.j0 k l0 t521 t522 bt526.1 true t513 t514 t517))))) = some r := H
    have A9 := Aside0.mk A90
    clear A90
    by_cases c10 : (t522 != t525) = true
    ·
     rw [if_pos c10] at H
     exact absurd H (by simp)
    ·
     rw [if_neg c10] at H
     have c10b0 : (t522 != t525) = false := by simpa using c10
     (try (have c10b1 : decide (t522 = t525) = true := by simpa using c10))
     (try (have c10b2 : (t522 == t525) = true := by simpa using c10))
     clear c10
     replace H := Option.bind_eq_some_iff.mp H
     obtain ⟨⟨t526, t527⟩, A110, H⟩ := H
     replace H : ((spec_HighestLoose.f k t513 t514 t517).bind fun bt528 => (if t526 = bt528.1 then (if (t527 != bt528.2) = true then (laws_FnPiles.j0 k l0 t521 t522 t526 true t513 t514 t517) else (if t522 = true then (laws_FnPiles.j0 k l0 t521 t522 t526 (t527 != (!t521)) t513 t514 t517) else (laws_FnPiles.j0 k l0 t521 t522 t526 (t527 != false) t513 t514 t517))) else (laws_FnPiles.j0 k l0 t521 t522 t526 true t513 t514 t517))) = some r := H
     have A11 := Aside0.mk A110
     clear A110
     replace H := Option.bind_eq_some_iff.mp H
     obtain ⟨⟨t528, t529⟩, A120, H⟩ := H
     replace H : (if t526 = t528 then (if (t527 != t529) = true then (laws_FnPiles.j0 k l0 t521 t522 t526 true t513 t514 t517) else (if t522 = true then (laws_FnPiles.j0 k l0 t521 t522 t526 (t527 != (!t521)) t513 t514 t517) else (laws_FnPiles.j0 k l0 t521 t522 t526 (t527 != false) t513 t514 t517))) else (laws_FnPiles.j0 k l0 t521 t522 t526 true t513 t514 t517)) = some r := H
     have A12 := Aside0.mk A120
     clear A120
     have HC13 := Aside0.mk H
     clear H
     go_enter Try.func5, Try.ntmps5
     go_upto_region 10 with (first | ((with_reducible refine gate_callee (f := 14) rfl ?_); refine goesL_ (some 57) rfl rfl Try.func14 (by kernel_rfl) rfl #[.slice A0 l0.length c0] rfl tM ?_; (with_reducible refine (laws_rBig.calls _ _ l0 false _ ?side1 ?side2 A2.out).mono ?_); (case side1 => repeat (first | exact HR0.out | (with_reducible refine Kd.C_alloc ?_ _) | (with_reducible refine Kd.C_drewN ?_ _) | (with_reducible refine Kd.C_drew ?_))); (case side2 => exact HC0.out); rintro e w' ⟨rfl, ⟨nd, rfl⟩⟩; refine ⟨_, rfl, ?_⟩) | ((with_reducible refine gate_callee (f := 15) rfl ?_); refine goesL_ (some 59) rfl rfl Try.func15 (by kernel_rfl) rfl #[.slice A0 l0.length c0] rfl tM ?_; (with_reducible refine (spec_DrawStandsFirm.calls k _ _ l0 t513 t514 t517 _ ?side1 ?side2 A4.out).mono ?_); (case side1 => repeat (first | exact HR0.out | (with_reducible refine Kd.C_alloc ?_ _) | (with_reducible refine Kd.C_drewN ?_ _) | (with_reducible refine Kd.C_drew ?_))); (case side2 => exact HC0.out); rintro e w14 ⟨v515, v518, rfl, ho0, ho1, hb⟩; refine ⟨_, rfl, ?_⟩; have HO516 := Aside0.mk (Kd.R_mono (ok' := fun _ => True) (Kd.R_lower ho0 (below_size (tB HB.out))) (fun _ _ => trivial)); have HO519 := Aside0.mk (Kd.R_mono (ok' := fun _ => True) (Kd.R_lower ho1 (below_size (tB HB.out))) (fun _ _ => trivial)); replace HB := hB HB hb; (try clear hb); (try clear ho0); (try clear ho1)) | ((with_reducible refine gate_dst (N := 3) rfl ?_); refine bE 3 #[.int .i64 0, .slice none 0 0, .slice none 0 0] 27 ?_; intro gb520 hg w15 hbox hb; replace HO516 := rB HO516 hb; replace HO519 := rB HO519 hb; have BK520 := Aside0.mk hbox; have GW520 := sB HB hg; have GE520 := GW520; replace HB := hB HB hb; clear hb hbox hg; obtain ⟨hcz16_0, hfz16_0, hcz16_1, hfz16_1, hcz16_2, hfz16_2⟩ := cz3 BK520; obtain ⟨Ao17, co17, eo17⟩ := Kd.R_slice HO516.out; subst eo17; obtain ⟨Ao18, co18, eo18⟩ := Kd.R_slice HO519.out; subst eo18) | ((with_reducible refine gate_callee (f := 16) rfl ?_); refine goesL_ (some 62) rfl rfl Try.func16 (by kernel_rfl) rfl #[.agg #[.int .i64 t513, .slice Ao17 t514.length co17, .slice Ao18 t517.length co18]] rfl tM ?_; (with_reducible refine (impl_StandsFirm.calls k t513 _ _ t514 _ _ t517 t521 t522 _ ?side1 ?side2 ?side3 ?side4 A5.out).mono ?_); (case side1 => refine (Kd.R_reads' (e := 3) (base := w.heap.size) (ok := fun k_ => True) (n := t514.length) (c := co17) ?_).2.2; exact (by (with_reducible repeat (first | apply Kd.R_alloc | apply Kd.R_drewN | apply Kd.R_drew)); exact (rF3 HO516 BK520))); (case side2 => exact (Kd.R_reads' HO516.out).2.1); (case side3 => refine (Kd.R_reads' (e := 3) (base := w.heap.size) (ok := fun k_ => True) (n := t517.length) (c := co18) ?_).2.2; exact (by (with_reducible repeat (first | apply Kd.R_alloc | apply Kd.R_drewN | apply Kd.R_drew)); exact (rF3 HO519 BK520))); (case side4 => exact (Kd.R_reads' HO519.out).2.1); rintro e w19 ⟨rfl, hb⟩; refine ⟨_, rfl, ?_⟩; replace HO516 := Aside0.mk (Kd.R_below (by (with_reducible repeat (first | apply Kd.R_alloc | apply Kd.R_drewN | apply Kd.R_drew)); exact (rF3 HO516 BK520)) hb); replace HO519 := Aside0.mk (Kd.R_below (by (with_reducible repeat (first | apply Kd.R_alloc | apply Kd.R_drewN | apply Kd.R_drew)); exact (rF3 HO519 BK520)) hb); replace BK520 := Aside0.mk (blk_below (g := gb520) (o := .cells #[.int .i64 t513, .slice Ao17 t514.length co17, .slice Ao18 t517.length co18] 27 (0, 0)) (by (with_reducible repeat (first | refine blk_drewN ?_ _ | refine blk_drew ?_ | refine blk_alloc ?_ _)); exact bp3 BK520.out) hb); replace HB := hB HB hb; (try clear hb); obtain ⟨hcz20_0, hfz20_0, hcz20_1, hfz20_1, hcz20_2, hfz20_2⟩ := cz3 BK520) | ((with_reducible refine gate_callee (f := 17) rfl ?_); refine goesL_ (some 67) rfl rfl Try.func17 (by kernel_rfl) rfl #[.agg #[.int .i64 t513, .slice Ao17 t514.length co17, .slice Ao18 t517.length co18]] rfl tM ?_; (with_reducible refine (spec_StandsFirm.calls k t513 _ _ t514 _ _ t517 t523 t524 _ ?side1 ?side2 ?side3 ?side4 A6.out).mono ?_); (case side1 => exact rC HO516); (case side2 => exact (Kd.R_reads' HO516.out).2.1); (case side3 => exact rC HO519); (case side4 => exact (Kd.R_reads' HO519.out).2.1); rintro e w21 ⟨rfl, hb⟩; refine ⟨_, rfl, ?_⟩; replace HO516 := rB HO516 hb; replace HO519 := rB HO519 hb; replace BK520 := bkB BK520 hb; replace HB := hB HB hb; (try clear hb); obtain ⟨hcz22_0, hfz22_0, hcz22_1, hfz22_1, hcz22_2, hfz22_2⟩ := cz3 BK520) | (go_at_call 18; (with_reducible refine (impl_IsPile.calls k t513 _ _ t514 _ _ t517 t525 _ ?side1 ?side2 ?side3 ?side4 A9.out).mono ?_); (case side1 => exact rC HO516); (case side2 => exact (Kd.R_reads' HO516.out).2.1); (case side3 => exact rC HO519); (case side4 => exact (Kd.R_reads' HO519.out).2.1); rintro e w23 ⟨rfl, hb⟩; replace HO516 := rB HO516 hb; replace HO519 := rB HO519 hb; replace BK520 := bkB BK520 hb; replace HB := hB HB hb; (try clear hb); obtain ⟨hcz24_0, hfz24_0, hcz24_1, hfz24_1, hcz24_2, hfz24_2⟩ := cz3 BK520) | ((with_reducible refine gate_callee (f := 19) rfl ?_); refine goesL_ (some 86) rfl rfl Try.func19 (by kernel_rfl) rfl #[.agg #[.int .i64 t513, .slice Ao17 t514.length co17, .slice Ao18 t517.length co18]] rfl tM ?_; (with_reducible refine (impl_HighestLoose.calls k t513 _ _ t514 _ _ t517 t526 t527 _ ?side1 ?side2 ?side3 ?side4 A11.out).mono ?_); (case side1 => exact rC HO516); (case side2 => exact (Kd.R_reads' HO516.out).2.1); (case side3 => exact rC HO519); (case side4 => exact (Kd.R_reads' HO519.out).2.1); rintro e w25 ⟨rfl, hb⟩; refine ⟨_, rfl, ?_⟩; replace HO516 := rB HO516 hb; replace HO519 := rB HO519 hb; replace BK520 := bkB BK520 hb; replace HB := hB HB hb; (try clear hb); obtain ⟨hcz26_0, hfz26_0, hcz26_1, hfz26_1, hcz26_2, hfz26_2⟩ := cz3 BK520) | ((with_reducible refine gate_callee (f := 20) rfl ?_); refine goesL_ (some 91) rfl rfl Try.func20 (by kernel_rfl) rfl #[.agg #[.int .i64 t513, .slice Ao17 t514.length co17, .slice Ao18 t517.length co18]] rfl tM ?_; (with_reducible refine (spec_HighestLoose.calls k t513 _ _ t514 _ _ t517 t528 t529 _ ?side1 ?side2 ?side3 ?side4 A12.out).mono ?_); (case side1 => exact rC HO516); (case side2 => exact (Kd.R_reads' HO516.out).2.1); (case side3 => exact rC HO519); (case side4 => exact (Kd.R_reads' HO519.out).2.1); rintro e w27 ⟨rfl, hb⟩; refine ⟨_, rfl, ?_⟩; replace HO516 := rB HO516 hb; replace HO519 := rB HO519 hb; replace BK520 := bkB BK520 hb; replace HB := hB HB hb; (try clear hb)))
     (try simp only [Act.put, List.setIfInBounds_toArray, List.set_cons_zero, List.set_cons_succ])
     go_cut [110] (fun v110 wc => ∃ (kq : Nat) (x110_12 : Bool), v110 = .bool x110_12 ∧ Aside0 (laws_FnPiles.j0 kq l0 t521 t522 t526 x110_12 t513 t514 t517 = some r) ∧ Aside0 (kq ≤ k) ∧ Aside0 (Kd.R (Kd.int .i64) 3 wc w.heap.size (fun _ => True) (.slice Ao17 t514.length co17) t514) ∧ Aside0 (Kd.R (Kd.int .i64) 3 wc w.heap.size (fun _ => True) (.slice Ao18 t517.length co18) t517) ∧ Aside0 (wc.heap[gb520]? = some (.cells #[.int .i64 t513, (.slice Ao17 t514.length co17), (.slice Ao18 t517.length co18)] 27 (0, 0))) ∧ Aside0 (Below w.heap.size w wc))
     case first =>
      have H := HC13.out
      clear HC13
      by_cases c28 : t526 = t528
      ·
       rw [if_pos c28] at H
       have c28b0 : (t526 == t528) = true := beq_iff_eq.mpr c28
       have c28b1 : (t526 != t528) = false := bne_eq_false_iff_eq.mpr c28
       clear c28
       (first | rw [c28b0] | (simp only [i64_w, i32_w]; rw [c28b0]) | skip)
       by_cases c29 : (t527 != t529) = true
       ·
        rw [if_pos c29] at H
        have c29b0 : (t527 != t529) = true := c29
        (try (have c29b1 : decide (t527 = t529) = false := by simpa using c29))
        (try (have c29b2 : (t527 == t529) = false := by simpa using c29))
        (try (have c29b3 : ¬ (t527 = t529) := by simpa using c29))
        clear c29
        have H' := Aside0.mk H
        clear H
        go_wp2
        go_meet
        case rel => exact ⟨_, (true), (by first | rfl | (simp; done) | (simp [wrap64]; done) | (simp [*]; done)), H', ⟨by first | omega | exact Nat.le_refl _⟩, ⟨tR HO516.out⟩, ⟨tR HO519.out⟩, ⟨tK BK520.out⟩, ⟨tB HB.out⟩⟩
       ·
        rw [if_neg c29] at H
        have c29b0 : (t527 != t529) = false := by simpa using c29
        (try (have c29b1 : decide (t527 = t529) = true := by simpa using c29))
        (try (have c29b2 : (t527 == t529) = true := by simpa using c29))
        clear c29
        by_cases c30 : t522 = true
        ·
         subst c30
         have H1 : (laws_FnPiles.j0 k l0 t521 true t526 (t527 != (!t521)) t513 t514 t517) = some r := by rw [if_pos rfl] at H; exact H
         clear H
         have H := H1
         clear H1
         have H' := Aside0.mk H
         clear H
         go_wp2
         go_meet
         case rel => exact ⟨_, ((t527 != (!t521))), (by first | rfl | (simp; done) | (simp [wrap64]; done) | (simp [*]; done)), H', ⟨by first | omega | exact Nat.le_refl _⟩, ⟨tR HO516.out⟩, ⟨tR HO519.out⟩, ⟨tK BK520.out⟩, ⟨tB HB.out⟩⟩
        ·
         replace c30 := Bool.eq_false_iff.mpr c30
         subst c30
         have H1 : (laws_FnPiles.j0 k l0 t521 false t526 (t527 != false) t513 t514 t517) = some r := by rw [if_neg (show ¬ (false = true) by decide)] at H; exact H
         clear H
         have H := H1
         clear H1
         have H' := Aside0.mk H
         clear H
         go_wp2
         go_meet
         case rel => exact ⟨_, ((t527 != false)), (by first | rfl | (simp; done) | (simp [wrap64]; done) | (simp [*]; done)), H', ⟨by first | omega | exact Nat.le_refl _⟩, ⟨tR HO516.out⟩, ⟨tR HO519.out⟩, ⟨tK BK520.out⟩, ⟨tB HB.out⟩⟩
      ·
       rw [if_neg c28] at H
       have c28b0 : (t526 == t528) = false := beq_eq_false_iff_ne.mpr c28
       have c28b1 : (t526 != t528) = true := bne_iff_ne.mpr c28
       (first | rw [c28b0] | (simp only [i64_w, i32_w]; rw [c28b0]) | skip)
       have H' := Aside0.mk H
       clear H
       go_wp2
       go_meet
       case rel => exact ⟨_, (true), (by first | rfl | (simp; done) | (simp [wrap64]; done) | (simp [*]; done)), H', ⟨by first | omega | exact Nat.le_refl _⟩, ⟨tR HO516.out⟩, ⟨tR HO519.out⟩, ⟨tK BK520.out⟩, ⟨tB HB.out⟩⟩
     case rest =>
      clear HC13
      (try clear c3); (try clear c7); (try clear c7b0); (try clear c7b1); (try clear c7b2); (try clear c8); (try clear c8b0); (try clear c8b1); (try clear c8b2); (try clear c10); (try clear c10b0); (try clear c10b1); (try clear c10b2); (try clear hcz16_0); (try clear hcz16_1); (try clear hcz16_2); (try clear hcz20_0); (try clear hcz20_1); (try clear hcz20_2); (try clear hcz22_0); (try clear hcz22_1); (try clear hcz22_2); (try clear hcz24_0); (try clear hcz24_1); (try clear hcz24_2); (try clear hcz26_0); (try clear hcz26_1); (try clear hcz26_2); (try clear hfz16_0); (try clear hfz16_1); (try clear hfz16_2); (try clear hfz20_0); (try clear hfz20_1); (try clear hfz20_2); (try clear hfz22_0); (try clear hfz22_1); (try clear hfz22_2); (try clear hfz24_0); (try clear hfz24_1); (try clear hfz24_2); (try clear hfz26_0); (try clear hfz26_1); (try clear hfz26_2)
      obtain ⟨kq, x110_12, rfl, HA, HJ12, HO_521001, HO_521002, BK520, HB⟩ := hcut
      (refine cut2 (K1 := ?K1_) (laws_FnPiles.rest1 (k := k) (A0 := A0) (c0 := c0) (l0 := l0) (r := r) (w := w) (HR0 := HR0) (HC0 := HC0) (t513 := t513) (t514 := t514) (t517 := t517) (t521 := t521) (t522 := t522) (t523 := t523) (t524 := t524) (t526 := t526) (t527 := t527) (t528 := t528) (t529 := t529) (gb520 := gb520) (Ao17 := Ao17) (co17 := co17) (Ao18 := Ao18) (co18 := co18) (wc := wc) (kq := kq) (x110_12 := x110_12) (HA := HA) (HJ12 := HJ12) (HO_521001 := HO_521001) (HO_521002 := HO_521002) (BK520 := BK520) (HB := HB)) ?k1_ ?k0_; (case k0_ => assumption); assumption)
def laws_FnPiles.Pure : Prop := ∀ (l0 : List Int), l0.length ≤ maxLen → l0.length * 1 ≤ 140737488351232 → (∀ x ∈ l0, (Lit.int .u8 x).wf = true) → ∃ k, laws_FnPiles.f k l0 = some true
theorem laws_FnPiles.walk (P : laws_FnPiles.Pure) (a0 : Option Addr) (len0 cap0 : Nat) (z0 : List Int) (w : World) (w0 : (a0 = none ∧ len0 = 0 ∧ cap0 = 0 ∧ z0 = []) ∨ ∃ x, a0 = some x ∧ len0 ≤ cap0 ∧ cap0 ≤ maxLen ∧ z0.length = cap0 ∧ (∀ i, i < z0.length → w.cell? (x.add i) = some (.int .u8 (z0.getD i 0))) ∧ ∀ n ∈ z0, (Lit.int .u8 n).wf = true) (y0 : len0 * 1 ≤ 140737488351232) :
  Calls Try.prog 5 #[.slice a0 len0 cap0] w fun e w' => e = .returned (.bool true) ∧ Below w.heap.size w w' := by
 obtain ⟨l0, rfl, hr0, hm0, hw0, hc0⟩ := ReadsInt.ofRowC w0
 obtain ⟨k, h⟩ := P l0 hm0 y0 hw0
 refine (laws_FnPiles.calls k _ _ l0 true w (Kd.C_of_reads (d := (0 : Int)) (h1 := fun _ => rfl) hr0) hc0 h).mono ?_
 rintro e w' ⟨rfl, hd⟩
 exact ⟨rfl, hd⟩
end Go.Proofs.Ytnnpfekgapikfaa.PFnPiles

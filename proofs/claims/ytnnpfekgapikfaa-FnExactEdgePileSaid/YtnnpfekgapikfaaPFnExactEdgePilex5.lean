/- Printed by the program print2.py over the translation: each function as a Lean function, and the proof that the call comes to its answer. -/
import Derived.Test.YtnnpfekgapikfaaPFnExactEdgePilex0
import Derived.Test.YtnnpfekgapikfaaPFnExactEdgePilex1
import Derived.Test.YtnnpfekgapikfaaPFnExactEdgePilex4
namespace Go.Proofs.Ytnnpfekgapikfaa.PFnExactEdgePile
open Go.RowKit Go.Proofs.YtnnpfekgapikfaaW.PrintWords Go.Proofs.YtnnpfekgapikfaaW.PrintLast Go.Proofs.YtnnpfekgapikfaaW.PrintMore
attribute [local go_sem] max2_int min2_int max_two min_two max_three min_three max_four min_four   -- for this text's walks alone
set_option linter.unusedVariables false
set_option linter.unusedSimpArgs false

/-! ### laws_eqIntS: function 60 -/
def laws_eqIntS.l0 : Nat → List Int → List Int → Int → Option (Bool)
 | 0, _, _, _ => none
 | k + 1, x0, x1, x5 => if x5 < (x0.length : Int) then (if 0 ≤ x5 then (if x5 < (x1.length : Int) then (if (rd x0 x5) = (rd x1 x5) then (laws_eqIntS.l0 k x0 x1 (wrap64 (x5 + 1))) else (some false)) else (none)) else (none)) else (some true)
def laws_eqIntS.f (k : Nat) (l0 : List Int) (l1 : List Int) : Option (Bool) := if (l0.length : Int) = (l1.length : Int) then (laws_eqIntS.l0 k l0 l1 0) else (some false)
set_option maxHeartbeats 8000000 in
set_option maxRecDepth 100000 in
theorem laws_eqIntS.calls (k : Nat) (A0 : Option Addr) (c0 : Nat) (l0 : List Int) (A1 : Option Addr) (c1 : Nat) (l1 : List Int) (r : Bool) (w : World) (hr0 : Kd.C (Kd.int .i64) w A0 l0.length l0) (hc0 : l0.length ≤ c0) (hr1 : Kd.C (Kd.int .i64) w A1 l1.length l1) (hc1 : l1.length ≤ c1) (h : laws_eqIntS.f k l0 l1 = some r) :
  Calls Try.prog 60 #[.slice A0 l0.length c0, .slice A1 l1.length c1] w fun e w' => e = .returned (.bool r) ∧ Drawn0 w w' := by
 have HR0 := Aside0.mk hr0
 have HC0 := Aside0.mk hc0
 clear hr0 hc0
 have HR1 := Aside0.mk hr1
 have HC1 := Aside0.mk hc1
 clear hr1 hc1
 have H : (if (l0.length : Int) = (l1.length : Int) then (laws_eqIntS.l0 k l0 l1 0) else (some false)) = some r := h
 clear h
 by_cases c3 : (l0.length : Int) = (l1.length : Int)
 ·
  rw [if_pos c3] at H
  have c3b0 : ((l0.length : Int) == (l1.length : Int)) = true := beq_iff_eq.mpr c3
  have c3b1 : ((l0.length : Int) != (l1.length : Int)) = false := bne_eq_false_iff_eq.mpr c3
  have c3b2 : (l0.length == l1.length) = true := by first | simpa using c3 | (simp at c3 ⊢; omega)
  clear c3
  have H' := Aside0.mk H
  clear H
  go_enter Try.func60, Try.ntmps60
  go_wp2
  repeat (go_quiet (fail); try go_wp2)
  go_loopg [5] k (fun kq v5 w' => ∃ (x5_1 : Int), v5 = .int .i64 x5_1 ∧ Aside0 (laws_eqIntS.l0 kq l0 l1 x5_1 = some r) ∧ Aside0 (kq ≤ k) ∧ Drawn0 w w')
  case atStart => exact ⟨(0), (by first | rfl | (simp; done) | (simp [wrap64]; done) | (simp [*]; done)), H', ⟨Nat.le_refl _⟩, by repeat (first | exact Drawn0.refl _ | apply Drawn0.step)⟩
  case round =>
   clear H'
   (try clear c1); (try clear c3); (try clear c3b0); (try clear c3b1); (try clear c3b2)
   obtain ⟨x5_1, rfl, HA, HK1, ⟨m1, rfl⟩⟩ := hrel
   cases gk with
   | zero => exact absurd HA.out (by simp [laws_eqIntS.l0])
   | succ k1 =>
    have H := HA.out
    clear HA
    simp only [laws_eqIntS.l0] at H
    by_cases c4 : x5_1 < (l0.length : Int)
    ·
     rw [if_pos c4] at H
     have c4b0 : decide (x5_1 < (l0.length : Int)) = true := decide_eq_true c4
     clear c4
     by_cases c5 : 0 ≤ x5_1
     ·
      rw [if_pos c5] at H
      have c5b0 : decide (0 ≤ x5_1) = true := decide_eq_true c5
      clear c5
      by_cases c6 : x5_1 < (l1.length : Int)
      ·
       rw [if_pos c6] at H
       have c6b0 : decide (x5_1 < (l1.length : Int)) = true := decide_eq_true c6
       clear c6
       by_cases c7 : (rd l0 x5_1) = (rd l1 x5_1)
       ·
        rw [if_pos c7] at H
        have c7b0 : ((rd l0 x5_1) == (rd l1 x5_1)) = true := beq_iff_eq.mpr c7
        have c7b1 : ((rd l0 x5_1) != (rd l1 x5_1)) = false := bne_eq_false_iff_eq.mpr c7
        clear c7
        have H' := Aside0.mk H
        clear H
        have p231 : 0 ≤ (x5_1 : Int) := of_decide_eq_true (by first | (with_reducible assumption) | assumption)
        have q231 : x5_1 < (l0.length : Int) := of_decide_eq_true (by first | (with_reducible assumption) | assumption)
        obtain ⟨ad231, e231, hx231_0⟩ := Kd.at_int HR0.out x5_1 p231 q231
        cases e231
        replace p231 := eq_true p231
        replace q231 := eq_true q231
        have p232 : 0 ≤ (x5_1 : Int) := of_decide_eq_true (by first | (with_reducible assumption) | assumption)
        have q232 : x5_1 < (l1.length : Int) := of_decide_eq_true (by first | (with_reducible assumption) | assumption)
        obtain ⟨ad232, e232, hx232_0⟩ := Kd.at_int HR1.out x5_1 p232 q232
        cases e232
        replace p232 := eq_true p232
        replace q232 := eq_true q232
        go_wp2
        repeat (go_quiet (fail); try go_wp2)
        go_roundg k1
        case measure => have := HK1.out; omega
        case rel => exact ⟨(wrap64 (x5_1 + 1)), (by first | rfl | (simp; done) | (simp [wrap64]; done) | (simp [*]; done)), H', ⟨by have := HK1.out; omega⟩, by repeat (first | exact Drawn0.refl _ | apply Drawn0.step)⟩
       ·
        rw [if_neg c7] at H
        have c7b0 : ((rd l0 x5_1) == (rd l1 x5_1)) = false := beq_eq_false_iff_ne.mpr c7
        have c7b1 : ((rd l0 x5_1) != (rd l1 x5_1)) = true := bne_iff_ne.mpr c7
        obtain rfl := Option.some.inj H
        have p231 : 0 ≤ (x5_1 : Int) := of_decide_eq_true (by first | (with_reducible assumption) | assumption)
        have q231 : x5_1 < (l0.length : Int) := of_decide_eq_true (by first | (with_reducible assumption) | assumption)
        obtain ⟨ad231, e231, hx231_0⟩ := Kd.at_int HR0.out x5_1 p231 q231
        cases e231
        replace p231 := eq_true p231
        replace q231 := eq_true q231
        have p232 : 0 ≤ (x5_1 : Int) := of_decide_eq_true (by first | (with_reducible assumption) | assumption)
        have q232 : x5_1 < (l1.length : Int) := of_decide_eq_true (by first | (with_reducible assumption) | assumption)
        obtain ⟨ad232, e232, hx232_0⟩ := Kd.at_int HR1.out x5_1 p232 q232
        cases e232
        replace p232 := eq_true p232
        replace q232 := eq_true q232
        go_wp2
        repeat (go_quiet (fail); try go_wp2)
        go_ret
        exact ⟨by first | rfl | (simp; done) | (simp [wrap64]; done) | (simp [*]; done), by repeat (first | exact Drawn0.refl _ | apply Drawn0.step)⟩
      ·
       rw [if_neg c6] at H
       exact absurd H (by simp)
     ·
      rw [if_neg c5] at H
      exact absurd H (by simp)
    ·
     rw [if_neg c4] at H
     have c4b0 : decide (x5_1 < (l0.length : Int)) = false := decide_eq_false c4
     clear c4
     obtain rfl := Option.some.inj H
     go_wp2
     repeat (go_quiet (fail); try go_wp2)
     go_ret
     exact ⟨by first | rfl | (simp; done) | (simp [wrap64]; done) | (simp [*]; done), by repeat (first | exact Drawn0.refl _ | apply Drawn0.step)⟩
 ·
  rw [if_neg c3] at H
  have c3b0 : ((l0.length : Int) == (l1.length : Int)) = false := beq_eq_false_iff_ne.mpr c3
  have c3b1 : ((l0.length : Int) != (l1.length : Int)) = true := bne_iff_ne.mpr c3
  have c3b2 : (l0.length == l1.length) = false := by first | simpa using c3 | (simp at c3 ⊢; omega)
  obtain rfl := Option.some.inj H
  go_enter Try.func60, Try.ntmps60
  go_wp2
  repeat (go_quiet (fail); try go_wp2)
  go_ret
  exact ⟨by first | rfl | (simp; done) | (simp [wrap64]; done) | (simp [*]; done), by repeat (first | exact Drawn0.refl _ | apply Drawn0.step)⟩

/-! ### laws_eqPile: function 11 -/
def laws_eqPile.f (k : Nat) (a0_0 : Int) (l0_1 : List Int) (l0_2 : List Int) (a1_0 : Int) (l1_1 : List Int) (l1_2 : List Int) : Option (Bool) := if a0_0 = a1_0 then ((laws_eqIntS.f k l0_1 l1_1).bind fun t235 => (if t235 = true then ((laws_eqIntS.f k l0_2 l1_2).bind fun t236 => (if t236 = true then (some true) else (some false))) else (some false))) else (some false)
set_option maxHeartbeats 8000000 in
set_option maxRecDepth 100000 in
theorem laws_eqPile.calls (k : Nat) (a0_0 : Int) (A0_1 : Option Addr) (c0_1 : Nat) (l0_1 : List Int) (A0_2 : Option Addr) (c0_2 : Nat) (l0_2 : List Int) (a1_0 : Int) (A1_1 : Option Addr) (c1_1 : Nat) (l1_1 : List Int) (A1_2 : Option Addr) (c1_2 : Nat) (l1_2 : List Int) (r : Bool) (w : World) (hr0_1 : Kd.C (Kd.int .i64) w A0_1 l0_1.length l0_1) (hc0_1 : l0_1.length ≤ c0_1) (hr0_2 : Kd.C (Kd.int .i64) w A0_2 l0_2.length l0_2) (hc0_2 : l0_2.length ≤ c0_2) (hr1_1 : Kd.C (Kd.int .i64) w A1_1 l1_1.length l1_1) (hc1_1 : l1_1.length ≤ c1_1) (hr1_2 : Kd.C (Kd.int .i64) w A1_2 l1_2.length l1_2) (hc1_2 : l1_2.length ≤ c1_2) (h : laws_eqPile.f k a0_0 l0_1 l0_2 a1_0 l1_1 l1_2 = some r) :
  Calls Try.prog 11 #[.agg #[.int .i64 a0_0, .slice A0_1 l0_1.length c0_1, .slice A0_2 l0_2.length c0_2], .agg #[.int .i64 a1_0, .slice A1_1 l1_1.length c1_1, .slice A1_2 l1_2.length c1_2]] w fun e w' => e = .returned (.bool r) ∧ Below w.heap.size w w' := by
 have hu27 := Try.underlying27
 have HR0_1 := Aside0.mk hr0_1
 have HC0_1 := Aside0.mk hc0_1
 clear hr0_1 hc0_1
 have HR0_2 := Aside0.mk hr0_2
 have HC0_2 := Aside0.mk hc0_2
 clear hr0_2 hc0_2
 have HR1_1 := Aside0.mk hr1_1
 have HC1_1 := Aside0.mk hc1_1
 clear hr1_1 hc1_1
 have HR1_2 := Aside0.mk hr1_2
 have HC1_2 := Aside0.mk hc1_2
 clear hr1_2 hc1_2
 have HB := Aside0.mk (Below.refl w.heap.size w)
 have H : (if a0_0 = a1_0 then ((laws_eqIntS.f k l0_1 l1_1).bind fun t235 => (if t235 = true then ((laws_eqIntS.f k l0_2 l1_2).bind fun t236 => (if t236 = true then (some true) else (some false))) else (some false))) else (some false)) = some r := h
 clear h
 by_cases c3 : a0_0 = a1_0
 ·
  rw [if_pos c3] at H
  have c3b0 : (a0_0 == a1_0) = true := beq_iff_eq.mpr c3
  have c3b1 : (a0_0 != a1_0) = false := bne_eq_false_iff_eq.mpr c3
  clear c3
  replace H := Option.bind_eq_some_iff.mp H
  obtain ⟨t235, A40, H⟩ := H
  replace H : (if t235 = true then ((laws_eqIntS.f k l0_2 l1_2).bind fun t236 => (if t236 = true then (some true) else (some false))) else (some false)) = some r := H
  have A4 := Aside0.mk A40
  clear A40
  by_cases c5 : t235 = true
  ·
   subst c5
   have H1 : ((laws_eqIntS.f k l0_2 l1_2).bind fun t236 => (if t236 = true then (some true) else (some false))) = some r := by rw [if_pos rfl] at H; exact H
   clear H
   have H := H1
   clear H1
   replace H := Option.bind_eq_some_iff.mp H
   obtain ⟨t236, A60, H⟩ := H
   replace H : (if t236 = true then (some true) else (some false)) = some r := H
   have A6 := Aside0.mk A60
   clear A60
   by_cases c7 : t236 = true
   ·
    subst c7
    have H1 : (some true) = some r := by rw [if_pos rfl] at H; exact H
    clear H
    have H := H1
    clear H1
    obtain rfl := Option.some.inj H
    go_enter Try.func11, Try.ntmps11
    go_wp2_with (first | ((with_reducible refine gate_dst (N := 2) rfl ?_); refine bE 2 #[.int .i64 a0_0, .slice A0_1 l0_1.length c0_1, .slice A0_2 l0_2.length c0_2] 27 ?_; intro gb233 hg w8 hbox hb; have BK233 := Aside0.mk hbox; have GW233 := sB HB hg; have GE233 := GW233; replace HB := hB HB hb; clear hb hbox hg) | ((with_reducible refine gate_dst (N := 3) rfl ?_); refine bE 3 #[.int .i64 a1_0, .slice A1_1 l1_1.length c1_1, .slice A1_2 l1_2.length c1_2] 27 ?_; intro gb234 hg w9 hbox hb; have BK234 := Aside0.mk hbox; have GW234 := sB HB hg; have GE234 := GW234; replace HB := hB HB hb; have NB233_234 := lN BK233 hg; have NB234_233 := gN NB233_234; replace BK233 := bkB BK233 hb; clear hb hbox hg; have hnb10 := NB233_234.out; have hnc10 := NB234_233.out; obtain ⟨hcz11_0, hfz11_0, hcz11_1, hfz11_1, hcz11_2, hfz11_2⟩ := cz3 BK233; obtain ⟨hcz12_0, hfz12_0, hcz12_1, hfz12_1, hcz12_2, hfz12_2⟩ := cz3 BK234) | ((with_reducible refine gate_callee (f := 60) rfl ?_); refine goesL_ (some 14) rfl rfl Try.func60 (by kernel_rfl) rfl #[.slice A0_1 l0_1.length c0_1, .slice A1_1 l1_1.length c1_1] rfl tM ?_; (with_reducible refine (laws_eqIntS.calls k _ _ l0_1 _ _ l1_1 true _ ?side1 ?side2 ?side3 ?side4 A4.out).mono ?_); (case side1 => exact cB HR0_1 HB); (case side2 => exact HC0_1.out); (case side3 => exact cB HR1_1 HB); (case side4 => exact HC1_1.out); rintro e w' ⟨rfl, ⟨nd, rfl⟩⟩; refine ⟨_, rfl, ?_⟩) | ((with_reducible refine gate_callee (f := 60) rfl ?_); refine goesL_ (some 20) rfl rfl Try.func60 (by kernel_rfl) rfl #[.slice A0_2 l0_2.length c0_2, .slice A1_2 l1_2.length c1_2] rfl tM ?_; (with_reducible refine (laws_eqIntS.calls k _ _ l0_2 _ _ l1_2 true _ ?side1 ?side2 ?side3 ?side4 A6.out).mono ?_); (case side1 => exact tC (Kd.C_below HR0_2.out (tB HB.out))); (case side2 => exact HC0_2.out); (case side3 => exact tC (Kd.C_below HR1_2.out (tB HB.out))); (case side4 => exact HC1_2.out); rintro e w' ⟨rfl, ⟨nd, rfl⟩⟩; refine ⟨_, rfl, ?_⟩))
    go_ret
    exact ⟨by first | rfl | (simp [errW_none, errW_some] <;> rfl) | (simp [*, errW_none, errW_some] <;> rfl), tB HB.out⟩
   ·
    replace c7 := Bool.eq_false_iff.mpr c7
    subst c7
    have H1 : (some false) = some r := by rw [if_neg (show ¬ (false = true) by decide)] at H; exact H
    clear H
    have H := H1
    clear H1
    obtain rfl := Option.some.inj H
    go_enter Try.func11, Try.ntmps11
    go_wp2_with (first | ((with_reducible refine gate_dst (N := 2) rfl ?_); refine bE 2 #[.int .i64 a0_0, .slice A0_1 l0_1.length c0_1, .slice A0_2 l0_2.length c0_2] 27 ?_; intro gb233 hg w13 hbox hb; have BK233 := Aside0.mk hbox; have GW233 := sB HB hg; have GE233 := GW233; replace HB := hB HB hb; clear hb hbox hg) | ((with_reducible refine gate_dst (N := 3) rfl ?_); refine bE 3 #[.int .i64 a1_0, .slice A1_1 l1_1.length c1_1, .slice A1_2 l1_2.length c1_2] 27 ?_; intro gb234 hg w14 hbox hb; have BK234 := Aside0.mk hbox; have GW234 := sB HB hg; have GE234 := GW234; replace HB := hB HB hb; have NB233_234 := lN BK233 hg; have NB234_233 := gN NB233_234; replace BK233 := bkB BK233 hb; clear hb hbox hg; have hnb15 := NB233_234.out; have hnc15 := NB234_233.out; obtain ⟨hcz16_0, hfz16_0, hcz16_1, hfz16_1, hcz16_2, hfz16_2⟩ := cz3 BK233; obtain ⟨hcz17_0, hfz17_0, hcz17_1, hfz17_1, hcz17_2, hfz17_2⟩ := cz3 BK234) | ((with_reducible refine gate_callee (f := 60) rfl ?_); refine goesL_ (some 14) rfl rfl Try.func60 (by kernel_rfl) rfl #[.slice A0_1 l0_1.length c0_1, .slice A1_1 l1_1.length c1_1] rfl tM ?_; (with_reducible refine (laws_eqIntS.calls k _ _ l0_1 _ _ l1_1 true _ ?side1 ?side2 ?side3 ?side4 A4.out).mono ?_); (case side1 => exact cB HR0_1 HB); (case side2 => exact HC0_1.out); (case side3 => exact cB HR1_1 HB); (case side4 => exact HC1_1.out); rintro e w' ⟨rfl, ⟨nd, rfl⟩⟩; refine ⟨_, rfl, ?_⟩) | ((with_reducible refine gate_callee (f := 60) rfl ?_); refine goesL_ (some 20) rfl rfl Try.func60 (by kernel_rfl) rfl #[.slice A0_2 l0_2.length c0_2, .slice A1_2 l1_2.length c1_2] rfl tM ?_; (with_reducible refine (laws_eqIntS.calls k _ _ l0_2 _ _ l1_2 false _ ?side1 ?side2 ?side3 ?side4 A6.out).mono ?_); (case side1 => exact tC (Kd.C_below HR0_2.out (tB HB.out))); (case side2 => exact HC0_2.out); (case side3 => exact tC (Kd.C_below HR1_2.out (tB HB.out))); (case side4 => exact HC1_2.out); rintro e w' ⟨rfl, ⟨nd, rfl⟩⟩; refine ⟨_, rfl, ?_⟩))
    go_ret
    exact ⟨by first | rfl | (simp [errW_none, errW_some] <;> rfl) | (simp [*, errW_none, errW_some] <;> rfl), tB HB.out⟩
  ·
   replace c5 := Bool.eq_false_iff.mpr c5
   subst c5
   have H1 : (some false) = some r := by rw [if_neg (show ¬ (false = true) by decide)] at H; exact H
   clear H
   have H := H1
   clear H1
   obtain rfl := Option.some.inj H
   go_enter Try.func11, Try.ntmps11
   go_wp2_with (first | ((with_reducible refine gate_dst (N := 2) rfl ?_); refine bE 2 #[.int .i64 a0_0, .slice A0_1 l0_1.length c0_1, .slice A0_2 l0_2.length c0_2] 27 ?_; intro gb233 hg w18 hbox hb; have BK233 := Aside0.mk hbox; have GW233 := sB HB hg; have GE233 := GW233; replace HB := hB HB hb; clear hb hbox hg) | ((with_reducible refine gate_dst (N := 3) rfl ?_); refine bE 3 #[.int .i64 a1_0, .slice A1_1 l1_1.length c1_1, .slice A1_2 l1_2.length c1_2] 27 ?_; intro gb234 hg w19 hbox hb; have BK234 := Aside0.mk hbox; have GW234 := sB HB hg; have GE234 := GW234; replace HB := hB HB hb; have NB233_234 := lN BK233 hg; have NB234_233 := gN NB233_234; replace BK233 := bkB BK233 hb; clear hb hbox hg; have hnb20 := NB233_234.out; have hnc20 := NB234_233.out; obtain ⟨hcz21_0, hfz21_0, hcz21_1, hfz21_1, hcz21_2, hfz21_2⟩ := cz3 BK233; obtain ⟨hcz22_0, hfz22_0, hcz22_1, hfz22_1, hcz22_2, hfz22_2⟩ := cz3 BK234) | ((with_reducible refine gate_callee (f := 60) rfl ?_); refine goesL_ (some 14) rfl rfl Try.func60 (by kernel_rfl) rfl #[.slice A0_1 l0_1.length c0_1, .slice A1_1 l1_1.length c1_1] rfl tM ?_; (with_reducible refine (laws_eqIntS.calls k _ _ l0_1 _ _ l1_1 false _ ?side1 ?side2 ?side3 ?side4 A4.out).mono ?_); (case side1 => exact cB HR0_1 HB); (case side2 => exact HC0_1.out); (case side3 => exact cB HR1_1 HB); (case side4 => exact HC1_1.out); rintro e w' ⟨rfl, ⟨nd, rfl⟩⟩; refine ⟨_, rfl, ?_⟩))
   go_ret
   exact ⟨by first | rfl | (simp [errW_none, errW_some] <;> rfl) | (simp [*, errW_none, errW_some] <;> rfl), tB HB.out⟩
 ·
  rw [if_neg c3] at H
  have c3b0 : (a0_0 == a1_0) = false := beq_eq_false_iff_ne.mpr c3
  have c3b1 : (a0_0 != a1_0) = true := bne_iff_ne.mpr c3
  obtain rfl := Option.some.inj H
  go_enter Try.func11, Try.ntmps11
  go_wp2_with (first | ((with_reducible refine gate_dst (N := 2) rfl ?_); refine bE 2 #[.int .i64 a0_0, .slice A0_1 l0_1.length c0_1, .slice A0_2 l0_2.length c0_2] 27 ?_; intro gb233 hg w23 hbox hb; have BK233 := Aside0.mk hbox; have GW233 := sB HB hg; have GE233 := GW233; replace HB := hB HB hb; clear hb hbox hg) | ((with_reducible refine gate_dst (N := 3) rfl ?_); refine bE 3 #[.int .i64 a1_0, .slice A1_1 l1_1.length c1_1, .slice A1_2 l1_2.length c1_2] 27 ?_; intro gb234 hg w24 hbox hb; have BK234 := Aside0.mk hbox; have GW234 := sB HB hg; have GE234 := GW234; replace HB := hB HB hb; have NB233_234 := lN BK233 hg; have NB234_233 := gN NB233_234; replace BK233 := bkB BK233 hb; clear hb hbox hg; have hnb25 := NB233_234.out; have hnc25 := NB234_233.out; obtain ⟨hcz26_0, hfz26_0, hcz26_1, hfz26_1, hcz26_2, hfz26_2⟩ := cz3 BK233; obtain ⟨hcz27_0, hfz27_0, hcz27_1, hfz27_1, hcz27_2, hfz27_2⟩ := cz3 BK234))
  go_ret
  exact ⟨by first | rfl | (simp [errW_none, errW_some] <;> rfl) | (simp [*, errW_none, errW_some] <;> rfl), tB HB.out⟩

/-! ### laws_markIntS: function 61 -/
def laws_markIntS.l0 : Nat → List Int → Int → Int → Option (Int × List Int)
 | 0, _, _, _ => none
 | k + 1, x0, x1, x5 => if x5 < (x0.length : Int) then (if 0 ≤ x5 then (laws_markIntS.l0 k (x0.set (x5 : Int).toNat x1) (wrap64 (x1 + 1)) (wrap64 (x5 + 1))) else (none)) else (some (x1, x0))
def laws_markIntS.f (k : Nat) (l0 : List Int) (a1 : Int) : Option (Int × List Int) := laws_markIntS.l0 k l0 a1 0
set_option maxHeartbeats 8000000 in
set_option maxRecDepth 100000 in
theorem laws_markIntS.calls (k : Nat) (P0_ : Nat → Prop) (u9000_ : Value) (l0 : List Int) (a1 : Int) (r1 : Int) (r2 : List Int) (w0 w : World) (hB : Below w0.heap.size w0 w) (ho0 : Kd.R (Kd.int .i64) 3 w w0.heap.size P0_ u9000_ l0) (h : laws_markIntS.f k l0 a1 = some (r1, r2)) :
  Calls Try.prog 61 #[u9000_, .int .i64 a1] w fun e w' => e = .returned (.int .i64 r1) ∧ Kd.R (Kd.int .i64) 3 w' w0.heap.size (fun k_ => (P0_ k_ ∨ w.heap.size ≤ k_)) u9000_ r2 ∧ Below w0.heap.size w0 w' ∧ Kept w w' (fun k_ => P0_ k_) := by
 have HO0 := Aside0.mk (show Kd.R (Kd.int .i64) 3 w w0.heap.size (fun k_ => (P0_ k_ ∨ w.heap.size ≤ k_)) u9000_ l0 from Kd.R_mono ho0 (fun k_ hk => (.inl hk)))
 have HK := Aside0.mk (Kept.refl w (fun k_ => P0_ k_))
 have HW0 := Aside0.mk hB.size
 have HB := Aside0.mk hB
 clear hB
 have H : (laws_markIntS.l0 k l0 a1 0) = some (r1, r2) := h
 clear h
 have H' := Aside0.mk H
 clear H
 go_enter Try.func61, Try.ntmps61
 go_wp2
 go_loopg [1, 5] k (fun kq v1 v5 w' => ∃ (x0_1 : List Int) (x1_1 : Int) (x5_1 : Int), v1 = .int .i64 x1_1 ∧ v5 = .int .i64 x5_1 ∧ Aside0 (laws_markIntS.l0 kq x0_1 x1_1 x5_1 = some (r1, r2)) ∧ Aside0 (kq ≤ k) ∧ Aside0 (Kd.R (Kd.int .i64) 3 w' w0.heap.size (fun k_ => (P0_ k_ ∨ w.heap.size ≤ k_)) u9000_ x0_1) ∧ Aside0 (Kept w w' (fun k_ => P0_ k_)) ∧ Aside0 (Below w0.heap.size w0 w'))
 case atStart => exact ⟨(l0), (a1), (0), (by first | rfl | (simp; done) | (simp [wrap64]; done) | (simp [*]; done)), (by first | rfl | (simp; done) | (simp [wrap64]; done) | (simp [*]; done)), H', ⟨Nat.le_refl _⟩, ⟨tR HO0.out⟩, ⟨by repeat (first | (with_reducible first | exact HK.out | apply Kept.alloc | apply Kept.drewN | apply Kept.drew) | exact HK.out)⟩, ⟨tB HB.out⟩⟩
 case round =>
  clear H'
  obtain ⟨x0_1, x1_1, x5_1, rfl, rfl, HA, HK1, HO_0, HK, HB⟩ := hrel
  cases gk with
  | zero => exact absurd HA.out (by simp [laws_markIntS.l0])
  | succ k1 =>
   have H := HA.out
   clear HA
   simp only [laws_markIntS.l0] at H
   by_cases c3 : x5_1 < (x0_1.length : Int)
   ·
    rw [if_pos c3] at H
    have c3b0 : decide (x5_1 < (x0_1.length : Int)) = true := decide_eq_true c3
    clear c3
    by_cases c4 : 0 ≤ x5_1
    ·
     rw [if_pos c4] at H
     have c4b0 : decide (0 ≤ x5_1) = true := decide_eq_true c4
     clear c4
     obtain ⟨y237, hy237⟩ : ∃ y_ : List Int, y_ = (x0_1.set (x5_1 : Int).toNat x1_1) := ⟨_, rfl⟩
     replace H : (laws_markIntS.l0 k1 y237 (wrap64 (x1_1 + 1)) (wrap64 (x5_1 + 1))) = some (r1, r2) := by first | (rw [hy237]; with_reducible exact H) | (have H2_ := (Option.bind_some _ _).symm.trans H; rw [hy237]; with_reducible exact H2_) | (have H2_ := (Option.bind_some _ _).symm.trans H; with_reducible exact H2_) | with_reducible exact H | (rw [hy237]; exact H) | exact H
     have Ny237 := Aside0.mk hy237
     clear hy237
     have H' := Aside0.mk H
     clear H
     obtain ⟨Ao6, co6, eo6⟩ := Kd.R_slice HO_0.out
     subst eo6
     have p5 : 0 ≤ (x5_1 : Int) := of_decide_eq_true (by first | (with_reducible assumption) | assumption)
     have q5 : (x5_1 : Int) < ((x0_1.length : Int) : Int) := of_decide_eq_true (by first | (with_reducible assumption) | assumption)
     obtain ⟨go5, co5, eo5, gb5, gl5, cl5, HG5⟩ := Kd.R_form HO_0.out (by omega)
     (first | cases eo5 | (injection eo5 with ea_ en_ ec_; (first | subst ea_ | (injection ea_ with ea_; subst ea_)); subst ec_; clear en_))
     have GB5 := Aside0.mk gb5
     have GG5 := Aside0.mk HG5
     clear gb5 gl5 HG5
     have HMgo5 := Aside0.mk (show (P0_ go5 ∨ w.heap.size ≤ go5) from (HO_0.out.1 _ rfl))
     obtain ⟨hx5_0, hf5_0⟩ := Kd.R_celln 0 HO_0.out (x5_1 : Int) p5 q5
     replace p5 := eq_true p5
     replace q5 := eq_true q5
     have HP7 := Kd.R_putg HO_0.out (x5_1 : Int) x1_1
     go_wp2_with (first | ((with_reducible refine gate_store (t := 3) (p := 15) rfl ?_); refine store_event (t := 3) (p := 15) (v := ?vo_w8) (w1 := (wr.setCell ⟨go5, (x5_1 : Int).toNat, none⟩ (.int .i64 x1_1))) ?hg ?ho ?hn ?hr ?_; (case ho => rfl); (case hg => rfl); (case hn => rfl); (case hr => first | (go_simp; done) | (go_simp; rfl)); intro w8 hw; have hg : wr.grownBy w8 (some go5) := (by rw [hw]; exact HP7.2); have hp_ : Kd.R (Kd.int .i64) 3 w8 w0.heap.size (fun k_ => (P0_ k_ ∨ w.heap.size ≤ k_)) (.slice (some ⟨go5, 0, none⟩) x0_1.length co6) y237 := (by rw [hw, Ny237.out]; exact HP7.1); clear HP7; replace HB := Aside0.mk ((by rw [hw]; exact below_set (HB.out) GB5.out : Below w0.heap.size w0 w8)); replace HK := Aside0.mk (Kept.of_grown (S := (fun k_ => P0_ k_)) hg (by repeat (first | (with_reducible first | exact HK.out | apply Kept.alloc | apply Kept.drewN | apply Kept.drew) | exact HK.out)) (fun k_ e_ => (HO_0.out.1 k_ e_))); replace HO_0 := Aside0.mk (hp_); clear hg hw hp_))
     go_roundg k1
     case measure => have := HK1.out; omega
     case rel => exact ⟨(y237), (wrap64 (x1_1 + 1)), (wrap64 (x5_1 + 1)), (by first | rfl | (simp; done) | (simp [wrap64]; done) | (simp [*]; done)), (by first | rfl | (simp; done) | (simp [wrap64]; done) | (simp [*]; done)), H', ⟨by have := HK1.out; omega⟩, ⟨tR HO_0.out⟩, ⟨by repeat (first | (with_reducible first | exact HK.out | apply Kept.alloc | apply Kept.drewN | apply Kept.drew) | exact HK.out)⟩, ⟨tB HB.out⟩⟩
    ·
     rw [if_neg c4] at H
     exact absurd H (by simp)
   ·
    rw [if_neg c3] at H
    have c3b0 : decide (x5_1 < (x0_1.length : Int)) = false := decide_eq_false c3
    clear c3
    simp only [Option.some.injEq, Prod.mk.injEq] at H
    obtain ⟨rfl, rfl⟩ := H
    obtain ⟨Ao9, co9, eo9⟩ := Kd.R_slice HO_0.out
    subst eo9
    go_wp2
    go_ret
    exact ⟨by first | rfl | (simp [errW_none, errW_some] <;> rfl) | (simp [*, errW_none, errW_some] <;> rfl), tR HO_0.out, tB HB.out, by repeat (first | (with_reducible first | exact HK.out | apply Kept.alloc | apply Kept.drewN | apply Kept.drew) | exact HK.out)⟩

/-! ### laws_markPile: function 12 -/
def laws_markPile.f (k : Nat) (a0_0 : Int) (l0_1 : List Int) (l0_2 : List Int) (a1 : Int) : Option (Int × List Int × List Int) := (laws_markIntS.f k l0_1 a1).bind fun bt239 => ((laws_markIntS.f k l0_2 bt239.1).bind fun bt241 => (some (bt241.1, bt239.2, bt241.2)))
set_option maxHeartbeats 8000000 in
set_option maxRecDepth 100000 in
theorem laws_markPile.calls (k : Nat) (a0_0 : Int) (P0_1_ : Nat → Prop) (u9000_ : Value) (l0_1 : List Int) (P0_2_ : Nat → Prop) (u9001_ : Value) (l0_2 : List Int) (a1 : Int) (r1 : Int) (r2 : List Int) (r3 : List Int) (w0 w : World) (hB : Below w0.heap.size w0 w) (ho0_1 : Kd.R (Kd.int .i64) 3 w w0.heap.size P0_1_ u9000_ l0_1) (hp0_1_0_2 : ∀ k_, P0_1_ k_ → ¬ P0_2_ k_) (ho0_2 : Kd.R (Kd.int .i64) 3 w w0.heap.size P0_2_ u9001_ l0_2) (hp0_2_0_1 : ∀ k_, P0_2_ k_ → ¬ P0_1_ k_) (h : laws_markPile.f k a0_0 l0_1 l0_2 a1 = some (r1, r2, r3)) :
  Calls Try.prog 12 #[.agg #[.int .i64 a0_0, u9000_, u9001_], .int .i64 a1] w fun e w' => e = .returned (.int .i64 r1) ∧ Kd.R (Kd.int .i64) 3 w' w0.heap.size (fun k_ => ((P0_1_ k_ ∨ P0_2_ k_) ∨ w.heap.size ≤ k_)) u9000_ r2 ∧ Kd.R (Kd.int .i64) 3 w' w0.heap.size (fun k_ => ((P0_1_ k_ ∨ P0_2_ k_) ∨ w.heap.size ≤ k_)) u9001_ r3 ∧ Below w0.heap.size w0 w' ∧ Kept w w' (fun k_ => P0_1_ k_ ∨ P0_2_ k_) := by
 have hu27 := Try.underlying27
 have HO0_1 := Aside0.mk (show Kd.R (Kd.int .i64) 3 w w0.heap.size (fun k_ => ((P0_1_ k_ ∨ P0_2_ k_) ∨ w.heap.size ≤ k_) ∧ some k_ ≠ (u9001_ : Value).ownBlock) u9000_ l0_1 from Kd.R_mono ho0_1 (fun k_ hk => ⟨(.inl (.inl hk)), fun e_ => hp0_1_0_2 k_ hk (ho0_2.1 k_ e_.symm)⟩))
 have HO0_2 := Aside0.mk (show Kd.R (Kd.int .i64) 3 w w0.heap.size (fun k_ => ((P0_1_ k_ ∨ P0_2_ k_) ∨ w.heap.size ≤ k_) ∧ some k_ ≠ (u9000_ : Value).ownBlock) u9001_ l0_2 from Kd.R_mono ho0_2 (fun k_ hk => ⟨(.inl (.inr hk)), fun e_ => hp0_2_0_1 k_ hk (ho0_1.1 k_ e_.symm)⟩))
 have HK := Aside0.mk (Kept.refl w (fun k_ => P0_1_ k_ ∨ P0_2_ k_))
 have HW0 := Aside0.mk hB.size
 have HB := Aside0.mk hB
 clear hB
 have H : ((laws_markIntS.f k l0_1 a1).bind fun bt239 => ((laws_markIntS.f k l0_2 bt239.1).bind fun bt241 => (some (bt241.1, bt239.2, bt241.2)))) = some (r1, r2, r3) := h
 clear h
 replace H := Option.bind_eq_some_iff.mp H
 obtain ⟨⟨t239, t240⟩, A30, H⟩ := H
 replace H : ((laws_markIntS.f k l0_2 t239).bind fun bt241 => (some (bt241.1, t240, bt241.2))) = some (r1, r2, r3) := H
 have A3 := Aside0.mk A30
 clear A30
 replace H := Option.bind_eq_some_iff.mp H
 obtain ⟨⟨t241, t242⟩, A40, H⟩ := H
 replace H : (some (t241, t240, t242)) = some (r1, r2, r3) := H
 have A4 := Aside0.mk A40
 clear A40
 simp only [Option.some.injEq, Prod.mk.injEq] at H
 obtain ⟨rfl, rfl, rfl⟩ := H
 obtain ⟨Ao5, co5, eo5⟩ := Kd.R_slice HO0_1.out
 subst eo5
 obtain ⟨Ao6, co6, eo6⟩ := Kd.R_slice HO0_2.out
 subst eo6
 go_enter Try.func12, Try.ntmps12
 go_wp2_with (first | ((with_reducible refine gate_dst (N := 2) rfl ?_); refine bE 2 #[.int .i64 a0_0, .slice Ao5 l0_1.length co5, .slice Ao6 l0_2.length co6] 27 ?_; intro gb238 hg w7 hbox hb; replace HO0_1 := rB HO0_1 hb; replace HO0_2 := rB HO0_2 hb; have BK238 := Aside0.mk hbox; have GW238 := Aside0.mk ((by rw [hg]; exact (by first | exact HK.out.1 | exact (show Kept w _ (fun k_ => P0_1_ k_ ∨ P0_2_ k_) from by repeat (first | (with_reducible first | exact HK.out | apply Kept.alloc | apply Kept.drewN | apply Kept.drew) | exact HK.out)).1) : w.heap.size ≤ gb238)); replace HK := Aside0.mk (Kept.below (S := (fun k_ => P0_1_ k_ ∨ P0_2_ k_)) (by repeat (first | (with_reducible first | exact HK.out | apply Kept.alloc | apply Kept.drewN | apply Kept.drew) | exact HK.out)) hb); have GE238 := Aside0.mk ((by rw [hg]; exact (below_size (tB HB.out)) : w0.heap.size ≤ gb238)); replace HB := hB HB hb; clear hb hbox hg; obtain ⟨hcz8_0, hfz8_0, hcz8_1, hfz8_1, hcz8_2, hfz8_2⟩ := cz3 BK238) | ((with_reducible refine gate_callee (f := 61) rfl ?_); refine goesL_ (some 8) rfl rfl Try.func61 (by kernel_rfl) rfl #[.slice Ao5 l0_1.length co5, .int .i64 a1] rfl tM ?_; (with_reducible refine (laws_markIntS.calls k (fun k_ => some k_ = (.slice Ao5 l0_1.length co5 : Value).ownBlock) (.slice Ao5 l0_1.length co5) l0_1 a1 t239 t240 w0 _ ?side1 ?side2 A3.out).mono ?_); (case side1 => repeat (first | (with_reducible first | exact HB.out | apply below_alloc | apply pw_below_drewN | apply below_drew1 | refine below_set ?_ GE238.out) | exact HB.out)); (case side2 => exact Kd.R_tight rfl HO0_1.out); rintro e w9 ⟨rfl, hy0, hb, hkp⟩; refine ⟨_, rfl, ?_⟩; replace HO0_2 := Aside0.mk (Kd.R_mono (ok' := fun k_ => ((P0_1_ k_ ∨ P0_2_ k_) ∨ w.heap.size ≤ k_) ∧ some k_ ≠ (.slice Ao5 l0_1.length co5 : Value).ownBlock) (Kd.R_keptB (HO0_2.out) hkp (fun k_ hk_ hs_ => (hk_.2) hs_)) (fun k_ hk_ => ⟨hk_.1.1, hk_.1.2⟩)); replace BK238 := Aside0.mk (blk_kept (tK BK238.out) hkp (fun hs_ => (fun e_ => (Kd.R_ne HO0_1.out BK238.out (by decide)) e_) hs_)); replace HK := Aside0.mk (Kept.then_ (S := (fun k_ => P0_1_ k_ ∨ P0_2_ k_)) (by repeat (first | (with_reducible first | exact HK.out | apply Kept.alloc | apply Kept.drewN | apply Kept.drew | refine Kept.setCell ?_ (.inr GW238.out) _) | exact HK.out)) hkp (fun k_ hs_ => (fun e_ => (HO0_1.out.1 k_ e_.symm).1) hs_)); replace HO0_1 := Aside0.mk (Kd.R_reok rfl hy0 (fun k_ e_ => HO0_1.out.1 k_ e_)); replace HB := Aside0.mk (hb); (try clear hb); (try clear hkp); (try clear hy0); obtain ⟨hcz10_0, hfz10_0, hcz10_1, hfz10_1, hcz10_2, hfz10_2⟩ := cz3 BK238) | ((with_reducible refine gate_callee (f := 61) rfl ?_); refine goesL_ (some 12) rfl rfl Try.func61 (by kernel_rfl) rfl #[.slice Ao6 l0_2.length co6, .int .i64 t239] rfl tM ?_; (with_reducible refine (laws_markIntS.calls k (fun k_ => some k_ = (.slice Ao6 l0_2.length co6 : Value).ownBlock) (.slice Ao6 l0_2.length co6) l0_2 t239 t241 t242 w0 _ ?side1 ?side2 A4.out).mono ?_); (case side1 => repeat (first | (with_reducible first | exact HB.out | apply below_alloc | apply pw_below_drewN | apply below_drew1 | refine below_set ?_ GE238.out) | exact HB.out)); (case side2 => exact Kd.R_tight rfl HO0_2.out); rintro e w11 ⟨rfl, hy0, hb, hkp⟩; refine ⟨_, rfl, ?_⟩; replace HO0_1 := Aside0.mk (Kd.R_mono (ok' := fun k_ => ((P0_1_ k_ ∨ P0_2_ k_) ∨ w.heap.size ≤ k_) ∧ some k_ ≠ (.slice Ao6 l0_2.length co6 : Value).ownBlock) (Kd.R_keptB (HO0_1.out) hkp (fun k_ hk_ hs_ => (hk_.2) hs_)) (fun k_ hk_ => ⟨hk_.1.1, hk_.1.2⟩)); replace BK238 := Aside0.mk (blk_kept (tK BK238.out) hkp (fun hs_ => (fun e_ => (Kd.R_ne HO0_2.out BK238.out (by decide)) e_) hs_)); replace HK := Aside0.mk (Kept.then_ (S := (fun k_ => P0_1_ k_ ∨ P0_2_ k_)) (by repeat (first | (with_reducible first | exact HK.out | apply Kept.alloc | apply Kept.drewN | apply Kept.drew | refine Kept.setCell ?_ (.inr GW238.out) _) | exact HK.out)) hkp (fun k_ hs_ => (fun e_ => (HO0_2.out.1 k_ e_.symm).1) hs_)); replace HO0_2 := Aside0.mk (Kd.R_reok rfl hy0 (fun k_ e_ => HO0_2.out.1 k_ e_)); replace HB := Aside0.mk (hb); (try clear hb); (try clear hkp); (try clear hy0)))
 go_ret
 exact ⟨by first | rfl | (simp [errW_none, errW_some] <;> rfl) | (simp [*, errW_none, errW_some] <;> rfl), by (with_reducible repeat (first | apply Kd.R_alloc | apply Kd.R_drewN | apply Kd.R_drew)); exact Kd.R_mono HO0_1.out (fun _ hk => hk.1), by (with_reducible repeat (first | apply Kd.R_alloc | apply Kd.R_drewN | apply Kd.R_drew)); exact Kd.R_mono HO0_2.out (fun _ hk => hk.1), tB HB.out, by repeat (first | (with_reducible first | exact HK.out | apply Kept.alloc | apply Kept.drewN | apply Kept.drew | refine Kept.setCell ?_ (.inr GW238.out) _) | exact HK.out)⟩

/-! ### laws_heldIntS: function 62 -/
def laws_heldIntS.l0 : Nat → List Int → Int → Int → Option (Int)
 | 0, _, _, _ => none
 | k + 1, x0, x1, x5 => if x5 < (x0.length : Int) then (if 0 ≤ x5 then (if (rd x0 x5) = x1 then (laws_heldIntS.l0 k x0 (wrap64 (x1 + 1)) (wrap64 (x5 + 1))) else (some (-1))) else (none)) else (some x1)
def laws_heldIntS.f (k : Nat) (l0 : List Int) (a1 : Int) : Option (Int) := laws_heldIntS.l0 k l0 a1 0
set_option maxHeartbeats 8000000 in
set_option maxRecDepth 100000 in
theorem laws_heldIntS.calls (k : Nat) (A0 : Option Addr) (c0 : Nat) (l0 : List Int) (a1 : Int) (r : Int) (w : World) (hr0 : Kd.C (Kd.int .i64) w A0 l0.length l0) (hc0 : l0.length ≤ c0) (h : laws_heldIntS.f k l0 a1 = some r) :
  Calls Try.prog 62 #[.slice A0 l0.length c0, .int .i64 a1] w fun e w' => e = .returned (.int .i64 r) ∧ Drawn0 w w' := by
 have HR0 := Aside0.mk hr0
 have HC0 := Aside0.mk hc0
 clear hr0 hc0
 have H : (laws_heldIntS.l0 k l0 a1 0) = some r := h
 clear h
 have H' := Aside0.mk H
 clear H
 go_enter Try.func62, Try.ntmps62
 go_wp2
 go_loopg [1, 5] k (fun kq v1 v5 w' => ∃ (x1_1 : Int) (x5_1 : Int), v1 = .int .i64 x1_1 ∧ v5 = .int .i64 x5_1 ∧ Aside0 (laws_heldIntS.l0 kq l0 x1_1 x5_1 = some r) ∧ Aside0 (kq ≤ k) ∧ Drawn0 w w')
 case atStart => exact ⟨(a1), (0), (by first | rfl | (simp; done) | (simp [wrap64]; done) | (simp [*]; done)), (by first | rfl | (simp; done) | (simp [wrap64]; done) | (simp [*]; done)), H', ⟨Nat.le_refl _⟩, by repeat (first | exact Drawn0.refl _ | apply Drawn0.step)⟩
 case round =>
  clear H'
  obtain ⟨x1_1, x5_1, rfl, rfl, HA, HK1, ⟨m1, rfl⟩⟩ := hrel
  cases gk with
  | zero => exact absurd HA.out (by simp [laws_heldIntS.l0])
  | succ k1 =>
   have H := HA.out
   clear HA
   simp only [laws_heldIntS.l0] at H
   by_cases c3 : x5_1 < (l0.length : Int)
   ·
    rw [if_pos c3] at H
    have c3b0 : decide (x5_1 < (l0.length : Int)) = true := decide_eq_true c3
    clear c3
    by_cases c4 : 0 ≤ x5_1
    ·
     rw [if_pos c4] at H
     have c4b0 : decide (0 ≤ x5_1) = true := decide_eq_true c4
     clear c4
     by_cases c5 : (rd l0 x5_1) = x1_1
     ·
      rw [if_pos c5] at H
      have c5b0 : ((rd l0 x5_1) == x1_1) = true := beq_iff_eq.mpr c5
      have c5b1 : ((rd l0 x5_1) != x1_1) = false := bne_eq_false_iff_eq.mpr c5
      clear c5
      have H' := Aside0.mk H
      clear H
      have p243 : 0 ≤ (x5_1 : Int) := of_decide_eq_true (by first | (with_reducible assumption) | assumption)
      have q243 : x5_1 < (l0.length : Int) := of_decide_eq_true (by first | (with_reducible assumption) | assumption)
      obtain ⟨ad243, e243, hx243_0⟩ := Kd.at_int HR0.out x5_1 p243 q243
      cases e243
      replace p243 := eq_true p243
      replace q243 := eq_true q243
      go_wp2
      go_roundg k1
      case measure => have := HK1.out; omega
      case rel => exact ⟨(wrap64 (x1_1 + 1)), (wrap64 (x5_1 + 1)), (by first | rfl | (simp; done) | (simp [wrap64]; done) | (simp [*]; done)), (by first | rfl | (simp; done) | (simp [wrap64]; done) | (simp [*]; done)), H', ⟨by have := HK1.out; omega⟩, by repeat (first | exact Drawn0.refl _ | apply Drawn0.step)⟩
     ·
      rw [if_neg c5] at H
      have c5b0 : ((rd l0 x5_1) == x1_1) = false := beq_eq_false_iff_ne.mpr c5
      have c5b1 : ((rd l0 x5_1) != x1_1) = true := bne_iff_ne.mpr c5
      obtain rfl := Option.some.inj H
      have p243 : 0 ≤ (x5_1 : Int) := of_decide_eq_true (by first | (with_reducible assumption) | assumption)
      have q243 : x5_1 < (l0.length : Int) := of_decide_eq_true (by first | (with_reducible assumption) | assumption)
      obtain ⟨ad243, e243, hx243_0⟩ := Kd.at_int HR0.out x5_1 p243 q243
      cases e243
      replace p243 := eq_true p243
      replace q243 := eq_true q243
      go_wp2
      go_ret
      exact ⟨by first | rfl | (simp; done) | (simp [wrap64]; done) | (simp [*]; done), by repeat (first | exact Drawn0.refl _ | apply Drawn0.step)⟩
    ·
     rw [if_neg c4] at H
     exact absurd H (by simp)
   ·
    rw [if_neg c3] at H
    have c3b0 : decide (x5_1 < (l0.length : Int)) = false := decide_eq_false c3
    clear c3
    obtain rfl := Option.some.inj H
    go_wp2
    go_ret
    exact ⟨by first | rfl | (simp; done) | (simp [wrap64]; done) | (simp [*]; done), by repeat (first | exact Drawn0.refl _ | apply Drawn0.step)⟩

/-! ### laws_heldPile: function 13 -/
def laws_heldPile.f (k : Nat) (a0_0 : Int) (l0_1 : List Int) (l0_2 : List Int) (a1 : Int) : Option (Int) := (laws_heldIntS.f k l0_1 a1).bind fun t245 => (if t245 < 0 then (some (-1)) else ((laws_heldIntS.f k l0_2 t245).bind fun t246 => (if t246 < 0 then (some (-1)) else (some t246))))
set_option maxHeartbeats 8000000 in
set_option maxRecDepth 100000 in
theorem laws_heldPile.calls (k : Nat) (a0_0 : Int) (A0_1 : Option Addr) (c0_1 : Nat) (l0_1 : List Int) (A0_2 : Option Addr) (c0_2 : Nat) (l0_2 : List Int) (a1 : Int) (r : Int) (w : World) (hr0_1 : Kd.C (Kd.int .i64) w A0_1 l0_1.length l0_1) (hc0_1 : l0_1.length ≤ c0_1) (hr0_2 : Kd.C (Kd.int .i64) w A0_2 l0_2.length l0_2) (hc0_2 : l0_2.length ≤ c0_2) (h : laws_heldPile.f k a0_0 l0_1 l0_2 a1 = some r) :
  Calls Try.prog 13 #[.agg #[.int .i64 a0_0, .slice A0_1 l0_1.length c0_1, .slice A0_2 l0_2.length c0_2], .int .i64 a1] w fun e w' => e = .returned (.int .i64 r) ∧ Below w.heap.size w w' := by
 have hu27 := Try.underlying27
 have HR0_1 := Aside0.mk hr0_1
 have HC0_1 := Aside0.mk hc0_1
 clear hr0_1 hc0_1
 have HR0_2 := Aside0.mk hr0_2
 have HC0_2 := Aside0.mk hc0_2
 clear hr0_2 hc0_2
 have HB := Aside0.mk (Below.refl w.heap.size w)
 have H : ((laws_heldIntS.f k l0_1 a1).bind fun t245 => (if t245 < 0 then (some (-1)) else ((laws_heldIntS.f k l0_2 t245).bind fun t246 => (if t246 < 0 then (some (-1)) else (some t246))))) = some r := h
 clear h
 replace H := Option.bind_eq_some_iff.mp H
 obtain ⟨t245, A30, H⟩ := H
 replace H : (if t245 < 0 then (some (-1)) else ((laws_heldIntS.f k l0_2 t245).bind fun t246 => (if t246 < 0 then (some (-1)) else (some t246)))) = some r := H
 have A3 := Aside0.mk A30
 clear A30
 by_cases c4 : t245 < 0
 ·
  rw [if_pos c4] at H
  have c4b0 : decide (t245 < 0) = true := decide_eq_true c4
  clear c4
  obtain rfl := Option.some.inj H
  go_enter Try.func13, Try.ntmps13
  go_wp2_with (first | ((with_reducible refine gate_dst (N := 2) rfl ?_); refine bE 2 #[.int .i64 a0_0, .slice A0_1 l0_1.length c0_1, .slice A0_2 l0_2.length c0_2] 27 ?_; intro gb244 hg w5 hbox hb; have BK244 := Aside0.mk hbox; have GW244 := sB HB hg; have GE244 := GW244; replace HB := hB HB hb; clear hb hbox hg; obtain ⟨hcz6_0, hfz6_0, hcz6_1, hfz6_1, hcz6_2, hfz6_2⟩ := cz3 BK244) | ((with_reducible refine gate_callee (f := 62) rfl ?_); refine goesL_ (some 8) rfl rfl Try.func62 (by kernel_rfl) rfl #[.slice A0_1 l0_1.length c0_1, .int .i64 a1] rfl tM ?_; (with_reducible refine (laws_heldIntS.calls k _ _ l0_1 a1 t245 _ ?side1 ?side2 A3.out).mono ?_); (case side1 => exact cB HR0_1 HB); (case side2 => exact HC0_1.out); rintro e w' ⟨rfl, ⟨nd, rfl⟩⟩; refine ⟨_, rfl, ?_⟩))
  go_ret
  exact ⟨by first | rfl | (simp [errW_none, errW_some] <;> rfl) | (simp [*, errW_none, errW_some] <;> rfl), tB HB.out⟩
 ·
  rw [if_neg c4] at H
  have c4b0 : decide (t245 < 0) = false := decide_eq_false c4
  clear c4
  replace H := Option.bind_eq_some_iff.mp H
  obtain ⟨t246, A70, H⟩ := H
  replace H : (if t246 < 0 then (some (-1)) else (some t246)) = some r := H
  have A7 := Aside0.mk A70
  clear A70
  by_cases c8 : t246 < 0
  ·
   rw [if_pos c8] at H
   have c8b0 : decide (t246 < 0) = true := decide_eq_true c8
   clear c8
   obtain rfl := Option.some.inj H
   go_enter Try.func13, Try.ntmps13
   go_wp2_with (first | ((with_reducible refine gate_dst (N := 2) rfl ?_); refine bE 2 #[.int .i64 a0_0, .slice A0_1 l0_1.length c0_1, .slice A0_2 l0_2.length c0_2] 27 ?_; intro gb244 hg w9 hbox hb; have BK244 := Aside0.mk hbox; have GW244 := sB HB hg; have GE244 := GW244; replace HB := hB HB hb; clear hb hbox hg; obtain ⟨hcz10_0, hfz10_0, hcz10_1, hfz10_1, hcz10_2, hfz10_2⟩ := cz3 BK244) | ((with_reducible refine gate_callee (f := 62) rfl ?_); refine goesL_ (some 8) rfl rfl Try.func62 (by kernel_rfl) rfl #[.slice A0_1 l0_1.length c0_1, .int .i64 a1] rfl tM ?_; (with_reducible refine (laws_heldIntS.calls k _ _ l0_1 a1 t245 _ ?side1 ?side2 A3.out).mono ?_); (case side1 => exact cB HR0_1 HB); (case side2 => exact HC0_1.out); rintro e w' ⟨rfl, ⟨nd, rfl⟩⟩; refine ⟨_, rfl, ?_⟩) | ((with_reducible refine gate_callee (f := 62) rfl ?_); refine goesL_ (some 14) rfl rfl Try.func62 (by kernel_rfl) rfl #[.slice A0_2 l0_2.length c0_2, .int .i64 t245] rfl tM ?_; (with_reducible refine (laws_heldIntS.calls k _ _ l0_2 t245 t246 _ ?side1 ?side2 A7.out).mono ?_); (case side1 => exact tC (Kd.C_below HR0_2.out (tB HB.out))); (case side2 => exact HC0_2.out); rintro e w' ⟨rfl, ⟨nd, rfl⟩⟩; refine ⟨_, rfl, ?_⟩))
   go_ret
   exact ⟨by first | rfl | (simp [errW_none, errW_some] <;> rfl) | (simp [*, errW_none, errW_some] <;> rfl), tB HB.out⟩
  ·
   rw [if_neg c8] at H
   have c8b0 : decide (t246 < 0) = false := decide_eq_false c8
   clear c8
   obtain rfl := Option.some.inj H
   go_enter Try.func13, Try.ntmps13
   go_wp2_with (first | ((with_reducible refine gate_dst (N := 2) rfl ?_); refine bE 2 #[.int .i64 a0_0, .slice A0_1 l0_1.length c0_1, .slice A0_2 l0_2.length c0_2] 27 ?_; intro gb244 hg w11 hbox hb; have BK244 := Aside0.mk hbox; have GW244 := sB HB hg; have GE244 := GW244; replace HB := hB HB hb; clear hb hbox hg; obtain ⟨hcz12_0, hfz12_0, hcz12_1, hfz12_1, hcz12_2, hfz12_2⟩ := cz3 BK244) | ((with_reducible refine gate_callee (f := 62) rfl ?_); refine goesL_ (some 8) rfl rfl Try.func62 (by kernel_rfl) rfl #[.slice A0_1 l0_1.length c0_1, .int .i64 a1] rfl tM ?_; (with_reducible refine (laws_heldIntS.calls k _ _ l0_1 a1 t245 _ ?side1 ?side2 A3.out).mono ?_); (case side1 => exact cB HR0_1 HB); (case side2 => exact HC0_1.out); rintro e w' ⟨rfl, ⟨nd, rfl⟩⟩; refine ⟨_, rfl, ?_⟩) | ((with_reducible refine gate_callee (f := 62) rfl ?_); refine goesL_ (some 14) rfl rfl Try.func62 (by kernel_rfl) rfl #[.slice A0_2 l0_2.length c0_2, .int .i64 t245] rfl tM ?_; (with_reducible refine (laws_heldIntS.calls k _ _ l0_2 t245 t246 _ ?side1 ?side2 A7.out).mono ?_); (case side1 => exact tC (Kd.C_below HR0_2.out (tB HB.out))); (case side2 => exact HC0_2.out); rintro e w' ⟨rfl, ⟨nd, rfl⟩⟩; refine ⟨_, rfl, ?_⟩))
   go_ret
   exact ⟨by first | rfl | (simp [errW_none, errW_some] <;> rfl) | (simp [*, errW_none, errW_some] <;> rfl), tB HB.out⟩

/-! ### laws_FnExactEdgePile: function 4 -/
mutual
def laws_FnExactEdgePile.j0 : Nat → Int → Int → Bool → Bool → Int → List Int → List Int → Int → List Int → List Int → Option (Bool)
 | 0, _, _, _, _, _, _, _, _, _, _ => none
 | k + 1, x0, x1, x6, x33, x256000, x256001, x256002, x265000, x265001, x265002 => if x33 = true then (some false) else ((laws_markPile.f k x265000 x265001 x265002 1).bind fun bt266 => ((laws_heldPile.f k x265000 bt266.2.1 bt266.2.2 1).bind fun t269 => (if t269 < 0 then (some false) else (if t269 = bt266.1 then ((impl_EdgePile.f k x0 x1).bind fun bt270 => ((laws_eqPile.f k bt270.1 bt270.2.1 bt270.2.2.1 x256000 x256001 x256002).bind fun t279 => (if t279 = true then (laws_FnExactEdgePile.j1 k bt266.1 (bt270.2.2.2 != x6) x265000 bt266.2.1 bt266.2.2) else (laws_FnExactEdgePile.j1 k bt266.1 true x265000 bt266.2.1 bt266.2.2)))) else (some false)))))
def laws_FnExactEdgePile.j1 : Nat → Int → Bool → Int → List Int → List Int → Option (Bool)
 | 0, _, _, _, _, _ => none
 | k + 1, x9, x59, x265000, x265001, x265002 => if x59 = true then (some false) else ((laws_heldPile.f k x265000 x265001 x265002 1).bind fun t280 => (if t280 < 0 then (some false) else (if t280 = x9 then (some true) else (some false))))
end
def laws_FnExactEdgePile.f (k : Nat) (a0 : Int) (a1 : Int) : Option (Bool) := (spec_EdgePile.f k a0 a1).bind fun bt247 => ((impl_EdgePile.f k a0 a1).bind fun bt256 => ((laws_eqPile.f k bt256.1 bt256.2.1 bt256.2.2.1 bt247.1 bt247.2.1 bt247.2.2.1).bind fun t265 => (if t265 = true then (laws_FnExactEdgePile.j0 k a0 a1 bt247.2.2.2 (bt256.2.2.2 != bt247.2.2.2) bt247.1 bt247.2.1 bt247.2.2.1 bt256.1 bt256.2.1 bt256.2.2.1) else (laws_FnExactEdgePile.j0 k a0 a1 bt247.2.2.2 true bt247.1 bt247.2.1 bt247.2.2.1 bt256.1 bt256.2.1 bt256.2.2.1))))
set_option maxHeartbeats 8000000 in
set_option maxRecDepth 100000 in
theorem laws_FnExactEdgePile.calls (k : Nat) (a0 : Int) (a1 : Int) (r : Bool) (w : World) (h : laws_FnExactEdgePile.f k a0 a1 = some r) :
  Calls Try.prog 4 #[.int .i64 a0, .int .i64 a1] w fun e w' => e = .returned (.bool r) ∧ Below w.heap.size w w' := by
 have hu27 := Try.underlying27
 have HB := Aside0.mk (Below.refl w.heap.size w)
 have H : ((spec_EdgePile.f k a0 a1).bind fun bt247 => ((impl_EdgePile.f k a0 a1).bind fun bt256 => ((laws_eqPile.f k bt256.1 bt256.2.1 bt256.2.2.1 bt247.1 bt247.2.1 bt247.2.2.1).bind fun t265 => (if t265 = true then (laws_FnExactEdgePile.j0 k a0 a1 bt247.2.2.2 (bt256.2.2.2 != bt247.2.2.2) bt247.1 bt247.2.1 bt247.2.2.1 bt256.1 bt256.2.1 bt256.2.2.1) else (laws_FnExactEdgePile.j0 k a0 a1 bt247.2.2.2 true bt247.1 bt247.2.1 bt247.2.2.1 bt256.1 bt256.2.1 bt256.2.2.1))))) = some r := h
 clear h
 replace H := Option.bind_eq_some_iff.mp H
 obtain ⟨⟨t247, t248, t251, t254⟩, A30, H⟩ := H
 replace H : ((impl_EdgePile.f k a0 a1).bind fun bt256 => ((laws_eqPile.f k bt256.1 bt256.2.1 bt256.2.2.1 t247 t248 t251).bind fun t265 => (if t265 = true then (laws_FnExactEdgePile.j0 k a0 a1 t254 (bt256.2.2.2 != t254) t247 t248 t251 bt256.1 bt256.2.1 bt256.2.2.1) else (laws_FnExactEdgePile.j0 k a0 a1 t254 true t247 t248 t251 bt256.1 bt256.2.1 bt256.2.2.1)))) = some r := H
 have A3 := Aside0.mk A30
 clear A30
 replace H := Option.bind_eq_some_iff.mp H
 obtain ⟨⟨t256, t257, t260, t263⟩, A40, H⟩ := H
 replace H : ((laws_eqPile.f k t256 t257 t260 t247 t248 t251).bind fun t265 => (if t265 = true then (laws_FnExactEdgePile.j0 k a0 a1 t254 (t263 != t254) t247 t248 t251 t256 t257 t260) else (laws_FnExactEdgePile.j0 k a0 a1 t254 true t247 t248 t251 t256 t257 t260))) = some r := H
 have A4 := Aside0.mk A40
 clear A40
 have HC5 := Aside0.mk H
 clear H
 go_enter Try.func4, Try.ntmps4
 go_upto_region 3 with (first | ((with_reducible refine gate_callee (f := 9) rfl ?_); refine goesL_ (some 16) rfl rfl Try.func9 (by kernel_rfl) rfl #[.int .i64 a0, .int .i64 a1] rfl tM ?_; (with_reducible refine (spec_EdgePile.calls k a0 a1 t247 t248 t251 t254 _ A3.out).mono ?_); rintro e w6 ⟨v249, v252, rfl, ho0, ho1, hb⟩; refine ⟨_, rfl, ?_⟩; have HO250 := Aside0.mk (Kd.R_lower ho0 (below_size (tB HB.out))); have HO253 := Aside0.mk (Kd.R_lower ho1 (below_size (tB HB.out))); replace HB := hB HB hb; (try clear hb); (try clear ho0); (try clear ho1)) | ((with_reducible refine gate_dst (N := 5) rfl ?_); refine bE 5 #[.int .i64 0, .slice none 0 0, .slice none 0 0] 27 ?_; intro gb255 hg w7 hbox hb; replace HO250 := rB HO250 hb; replace HO253 := rB HO253 hb; have BK255 := Aside0.mk hbox; have GW255 := sB HB hg; have GE255 := GW255; replace HB := hB HB hb; clear hb hbox hg; obtain ⟨hcz8_0, hfz8_0, hcz8_1, hfz8_1, hcz8_2, hfz8_2⟩ := cz3 BK255; obtain ⟨Ao9, co9, eo9⟩ := Kd.R_slice HO250.out; subst eo9; obtain ⟨Ao10, co10, eo10⟩ := Kd.R_slice HO253.out; subst eo10) | ((with_reducible refine gate_callee (f := 10) rfl ?_); refine goesL_ (some 22) rfl rfl Try.func10 (by kernel_rfl) rfl #[.int .i64 a0, .int .i64 a1] rfl tM ?_; (with_reducible refine (impl_EdgePile.calls k a0 a1 t256 t257 t260 t263 _ A4.out).mono ?_); rintro e w11 ⟨v258, v261, rfl, ho0, ho1, hb⟩; refine ⟨_, rfl, ?_⟩; have HO259 := Aside0.mk (Kd.R_lower (Kd.R_new' (Kd.R_new' ho0 (Kd.R_lt (by (with_reducible repeat (first | apply Kd.R_alloc | apply Kd.R_drewN | apply Kd.R_drew)); exact (rF3 HO250 BK255)))) (Kd.R_lt (by (with_reducible repeat (first | apply Kd.R_alloc | apply Kd.R_drewN | apply Kd.R_drew)); exact (rF3 HO253 BK255)))) (below_size (tB HB.out))); have HO262 := Aside0.mk (Kd.R_lower (Kd.R_new' (Kd.R_new' ho1 (Kd.R_lt (by (with_reducible repeat (first | apply Kd.R_alloc | apply Kd.R_drewN | apply Kd.R_drew)); exact (rF3 HO250 BK255)))) (Kd.R_lt (by (with_reducible repeat (first | apply Kd.R_alloc | apply Kd.R_drewN | apply Kd.R_drew)); exact (rF3 HO253 BK255)))) (below_size (tB HB.out))); replace HO250 := Aside0.mk (Kd.R_mono (Kd.R_told (Kd.R_told (Kd.R_old (by (with_reducible repeat (first | apply Kd.R_alloc | apply Kd.R_drewN | apply Kd.R_drew)); exact (rF3 HO250 BK255)) hb) (Kd.R_base ho0)) (Kd.R_base ho1)) (fun _ h_ => h_.1)); replace HO253 := Aside0.mk (Kd.R_mono (Kd.R_told (Kd.R_told (Kd.R_old (by (with_reducible repeat (first | apply Kd.R_alloc | apply Kd.R_drewN | apply Kd.R_drew)); exact (rF3 HO253 BK255)) hb) (Kd.R_base ho0)) (Kd.R_base ho1)) (fun _ h_ => h_.1)); replace BK255 := Aside0.mk (blk_below (g := gb255) (o := .cells #[.int .i64 t247, .slice Ao9 t248.length co9, .slice Ao10 t251.length co10] 27 (0, 0)) (by (with_reducible repeat (first | refine blk_drewN ?_ _ | refine blk_drew ?_ | refine blk_alloc ?_ _)); exact bp3 BK255.out) hb); replace HB := hB HB hb; (try clear hb); (try clear ho0); (try clear ho1)) | ((with_reducible refine gate_dst (N := 7) rfl ?_); refine bE 7 #[.int .i64 0, .slice none 0 0, .slice none 0 0] 27 ?_; intro gb264 hg w12 hbox hb; replace HO250 := rB HO250 hb; replace HO253 := rB HO253 hb; replace HO259 := rB HO259 hb; replace HO262 := rB HO262 hb; have BK264 := Aside0.mk hbox; have GW264 := sB HB hg; have GE264 := GW264; replace HB := hB HB hb; have NB255_264 := lN BK255 hg; have NB264_255 := gN NB255_264; replace BK255 := bkB BK255 hb; clear hb hbox hg; have hnb13 := NB264_255.out; have hnc13 := NB255_264.out; obtain ⟨hcz14_0, hfz14_0, hcz14_1, hfz14_1, hcz14_2, hfz14_2⟩ := cz3 BK264; obtain ⟨Ao15, co15, eo15⟩ := Kd.R_slice HO259.out; subst eo15; obtain ⟨Ao16, co16, eo16⟩ := Kd.R_slice HO262.out; subst eo16))
 (try simp only [Act.put, List.setIfInBounds_toArray, List.set_cons_zero, List.set_cons_succ])
 go_cut [33] (fun v33 wc => ∃ (kq : Nat) (x33_4 : Bool), v33 = .bool x33_4 ∧ Aside0 (laws_FnExactEdgePile.j0 kq a0 a1 t254 x33_4 t247 t248 t251 t256 t257 t260 = some r) ∧ Aside0 (kq ≤ k) ∧ Aside0 (Kd.R (Kd.int .i64) 3 wc w.heap.size (fun k_ => some k_ ≠ ((.slice Ao10 t251.length co10) : Value).ownBlock ∧ some k_ ≠ ((.slice Ao15 t257.length co15) : Value).ownBlock ∧ some k_ ≠ ((.slice Ao16 t260.length co16) : Value).ownBlock) (.slice Ao9 t248.length co9) t248) ∧ Aside0 (Kd.R (Kd.int .i64) 3 wc w.heap.size (fun k_ => some k_ ≠ ((.slice Ao9 t248.length co9) : Value).ownBlock ∧ some k_ ≠ ((.slice Ao15 t257.length co15) : Value).ownBlock ∧ some k_ ≠ ((.slice Ao16 t260.length co16) : Value).ownBlock) (.slice Ao10 t251.length co10) t251) ∧ Aside0 (Kd.R (Kd.int .i64) 3 wc w.heap.size (fun k_ => some k_ ≠ ((.slice Ao9 t248.length co9) : Value).ownBlock ∧ some k_ ≠ ((.slice Ao10 t251.length co10) : Value).ownBlock ∧ some k_ ≠ ((.slice Ao16 t260.length co16) : Value).ownBlock) (.slice Ao15 t257.length co15) t257) ∧ Aside0 (Kd.R (Kd.int .i64) 3 wc w.heap.size (fun k_ => some k_ ≠ ((.slice Ao9 t248.length co9) : Value).ownBlock ∧ some k_ ≠ ((.slice Ao10 t251.length co10) : Value).ownBlock ∧ some k_ ≠ ((.slice Ao15 t257.length co15) : Value).ownBlock) (.slice Ao16 t260.length co16) t260) ∧ Aside0 (wc.heap[gb255]? = some (.cells #[.int .i64 t247, (.slice Ao9 t248.length co9), (.slice Ao10 t251.length co10)] 27 (0, 0))) ∧ Aside0 (wc.heap[gb264]? = some (.cells #[.int .i64 t256, (.slice Ao15 t257.length co15), (.slice Ao16 t260.length co16)] 27 (0, 0))) ∧ Aside0 (Below w.heap.size w wc))
 case first =>
  have H := HC5.out
  clear HC5
  replace H := Option.bind_eq_some_iff.mp H
  obtain ⟨t265, A170, H⟩ := H
  replace H : (if t265 = true then (laws_FnExactEdgePile.j0 k a0 a1 t254 (t263 != t254) t247 t248 t251 t256 t257 t260) else (laws_FnExactEdgePile.j0 k a0 a1 t254 true t247 t248 t251 t256 t257 t260)) = some r := H
  have A17 := Aside0.mk A170
  clear A170
  by_cases c18 : t265 = true
  ·
   subst c18
   have H1 : (laws_FnExactEdgePile.j0 k a0 a1 t254 (t263 != t254) t247 t248 t251 t256 t257 t260) = some r := by rw [if_pos rfl] at H; exact H
   clear H
   have H := H1
   clear H1
   have H' := Aside0.mk H
   clear H
   have hnb19 := NB264_255.out
   have hnc19 := NB255_264.out
   obtain ⟨hcz20_0, hfz20_0, hcz20_1, hfz20_1, hcz20_2, hfz20_2⟩ := cz3 BK264
   obtain ⟨hcz21_0, hfz21_0, hcz21_1, hfz21_1, hcz21_2, hfz21_2⟩ := cz3 BK255
   go_wp2_with (first | ((with_reducible refine gate_callee (f := 11) rfl ?_); refine goesL_ (some 27) rfl rfl Try.func11 (by kernel_rfl) rfl #[.agg #[.int .i64 t256, .slice Ao15 t257.length co15, .slice Ao16 t260.length co16], .agg #[.int .i64 t247, .slice Ao9 t248.length co9, .slice Ao10 t251.length co10]] rfl tM ?_; (with_reducible refine (laws_eqPile.calls k t256 _ _ t257 _ _ t260 t247 _ _ t248 _ _ t251 true _ ?side1 ?side2 ?side3 ?side4 ?side5 ?side6 ?side7 ?side8 A17.out).mono ?_); (case side1 => refine (Kd.R_reads' (e := 3) (base := w.heap.size) (ok := fun k_ => ((some k_ ≠ (.slice Ao16 t260.length co16 : Value).ownBlock ∧ some k_ ≠ (.slice Ao9 t248.length co9 : Value).ownBlock) ∧ some k_ ≠ (.slice Ao10 t251.length co10 : Value).ownBlock)) (n := t257.length) (c := co15) ?_).2.2; exact (by (with_reducible repeat (first | apply Kd.R_alloc | apply Kd.R_drewN | apply Kd.R_drew)); exact (rF3 HO259 BK264))); (case side2 => exact (Kd.R_reads' HO259.out).2.1); (case side3 => refine (Kd.R_reads' (e := 3) (base := w.heap.size) (ok := fun k_ => ((some k_ ≠ (.slice Ao15 t257.length co15 : Value).ownBlock ∧ some k_ ≠ (.slice Ao9 t248.length co9 : Value).ownBlock) ∧ some k_ ≠ (.slice Ao10 t251.length co10 : Value).ownBlock)) (n := t260.length) (c := co16) ?_).2.2; exact (by (with_reducible repeat (first | apply Kd.R_alloc | apply Kd.R_drewN | apply Kd.R_drew)); exact (rF3 HO262 BK264))); (case side4 => exact (Kd.R_reads' HO262.out).2.1); (case side5 => refine (Kd.R_reads' (e := 3) (base := w.heap.size) (ok := fun k_ => ((some k_ ≠ (.slice Ao10 t251.length co10 : Value).ownBlock ∧ some k_ ≠ (.slice Ao15 t257.length co15 : Value).ownBlock) ∧ some k_ ≠ (.slice Ao16 t260.length co16 : Value).ownBlock)) (n := t248.length) (c := co9) ?_).2.2; exact (by (with_reducible repeat (first | apply Kd.R_alloc | apply Kd.R_drewN | apply Kd.R_drew)); exact (rF3 HO250 BK264))); (case side6 => exact (Kd.R_reads' HO250.out).2.1); (case side7 => refine (Kd.R_reads' (e := 3) (base := w.heap.size) (ok := fun k_ => ((some k_ ≠ (.slice Ao9 t248.length co9 : Value).ownBlock ∧ some k_ ≠ (.slice Ao15 t257.length co15 : Value).ownBlock) ∧ some k_ ≠ (.slice Ao16 t260.length co16 : Value).ownBlock)) (n := t251.length) (c := co10) ?_).2.2; exact (by (with_reducible repeat (first | apply Kd.R_alloc | apply Kd.R_drewN | apply Kd.R_drew)); exact (rF3 HO253 BK264))); (case side8 => exact (Kd.R_reads' HO253.out).2.1); rintro e w22 ⟨rfl, hb⟩; refine ⟨_, rfl, ?_⟩; replace HO250 := Aside0.mk (Kd.R_below (by (with_reducible repeat (first | apply Kd.R_alloc | apply Kd.R_drewN | apply Kd.R_drew)); exact (rF3 HO250 BK264)) hb); replace HO253 := Aside0.mk (Kd.R_below (by (with_reducible repeat (first | apply Kd.R_alloc | apply Kd.R_drewN | apply Kd.R_drew)); exact (rF3 HO253 BK264)) hb); replace HO259 := Aside0.mk (Kd.R_below (by (with_reducible repeat (first | apply Kd.R_alloc | apply Kd.R_drewN | apply Kd.R_drew)); exact (rF3 HO259 BK264)) hb); replace HO262 := Aside0.mk (Kd.R_below (by (with_reducible repeat (first | apply Kd.R_alloc | apply Kd.R_drewN | apply Kd.R_drew)); exact (rF3 HO262 BK264)) hb); replace BK255 := fB BK255 hb; replace BK264 := Aside0.mk (blk_below (g := gb264) (o := .cells #[.int .i64 t256, .slice Ao15 t257.length co15, .slice Ao16 t260.length co16] 27 (0, 0)) (by (with_reducible repeat (first | refine blk_drewN ?_ _ | refine blk_drew ?_ | refine blk_alloc ?_ _)); exact bp3 BK264.out) hb); replace HB := hB HB hb; (try clear hb)))
   go_meet
   case rel => exact ⟨_, ((t263 != t254)), (by first | rfl | (simp; done) | (simp [wrap64]; done) | (simp [*]; done)), H', ⟨by first | omega | exact Nat.le_refl _⟩, ⟨by (with_reducible repeat (first | apply Kd.R_alloc | apply Kd.R_drewN | apply Kd.R_drew)); exact Kd.R_mono HO250.out (fun _ hk => ⟨hk.1.1, ⟨hk.1.2, hk.2⟩⟩)⟩, ⟨by (with_reducible repeat (first | apply Kd.R_alloc | apply Kd.R_drewN | apply Kd.R_drew)); exact Kd.R_mono HO253.out (fun _ hk => ⟨hk.1.1, ⟨hk.1.2, hk.2⟩⟩)⟩, ⟨by (with_reducible repeat (first | apply Kd.R_alloc | apply Kd.R_drewN | apply Kd.R_drew)); exact Kd.R_mono HO259.out (fun _ hk => ⟨hk.1.2, ⟨hk.2, hk.1.1⟩⟩)⟩, ⟨by (with_reducible repeat (first | apply Kd.R_alloc | apply Kd.R_drewN | apply Kd.R_drew)); exact Kd.R_mono HO262.out (fun _ hk => ⟨hk.1.2, ⟨hk.2, hk.1.1⟩⟩)⟩, ⟨tK BK255.out⟩, ⟨tK BK264.out⟩, ⟨tB HB.out⟩⟩
  ·
   replace c18 := Bool.eq_false_iff.mpr c18
   subst c18
   have H1 : (laws_FnExactEdgePile.j0 k a0 a1 t254 true t247 t248 t251 t256 t257 t260) = some r := by rw [if_neg (show ¬ (false = true) by decide)] at H; exact H
   clear H
   have H := H1
   clear H1
   have H' := Aside0.mk H
   clear H
   have hnb23 := NB264_255.out
   have hnc23 := NB255_264.out
   obtain ⟨hcz24_0, hfz24_0, hcz24_1, hfz24_1, hcz24_2, hfz24_2⟩ := cz3 BK264
   obtain ⟨hcz25_0, hfz25_0, hcz25_1, hfz25_1, hcz25_2, hfz25_2⟩ := cz3 BK255
   go_wp2_with (first | ((with_reducible refine gate_callee (f := 11) rfl ?_); refine goesL_ (some 27) rfl rfl Try.func11 (by kernel_rfl) rfl #[.agg #[.int .i64 t256, .slice Ao15 t257.length co15, .slice Ao16 t260.length co16], .agg #[.int .i64 t247, .slice Ao9 t248.length co9, .slice Ao10 t251.length co10]] rfl tM ?_; (with_reducible refine (laws_eqPile.calls k t256 _ _ t257 _ _ t260 t247 _ _ t248 _ _ t251 false _ ?side1 ?side2 ?side3 ?side4 ?side5 ?side6 ?side7 ?side8 A17.out).mono ?_); (case side1 => refine (Kd.R_reads' (e := 3) (base := w.heap.size) (ok := fun k_ => ((some k_ ≠ (.slice Ao16 t260.length co16 : Value).ownBlock ∧ some k_ ≠ (.slice Ao9 t248.length co9 : Value).ownBlock) ∧ some k_ ≠ (.slice Ao10 t251.length co10 : Value).ownBlock)) (n := t257.length) (c := co15) ?_).2.2; exact (by (with_reducible repeat (first | apply Kd.R_alloc | apply Kd.R_drewN | apply Kd.R_drew)); exact (rF3 HO259 BK264))); (case side2 => exact (Kd.R_reads' HO259.out).2.1); (case side3 => refine (Kd.R_reads' (e := 3) (base := w.heap.size) (ok := fun k_ => ((some k_ ≠ (.slice Ao15 t257.length co15 : Value).ownBlock ∧ some k_ ≠ (.slice Ao9 t248.length co9 : Value).ownBlock) ∧ some k_ ≠ (.slice Ao10 t251.length co10 : Value).ownBlock)) (n := t260.length) (c := co16) ?_).2.2; exact (by (with_reducible repeat (first | apply Kd.R_alloc | apply Kd.R_drewN | apply Kd.R_drew)); exact (rF3 HO262 BK264))); (case side4 => exact (Kd.R_reads' HO262.out).2.1); (case side5 => refine (Kd.R_reads' (e := 3) (base := w.heap.size) (ok := fun k_ => ((some k_ ≠ (.slice Ao10 t251.length co10 : Value).ownBlock ∧ some k_ ≠ (.slice Ao15 t257.length co15 : Value).ownBlock) ∧ some k_ ≠ (.slice Ao16 t260.length co16 : Value).ownBlock)) (n := t248.length) (c := co9) ?_).2.2; exact (by (with_reducible repeat (first | apply Kd.R_alloc | apply Kd.R_drewN | apply Kd.R_drew)); exact (rF3 HO250 BK264))); (case side6 => exact (Kd.R_reads' HO250.out).2.1); (case side7 => refine (Kd.R_reads' (e := 3) (base := w.heap.size) (ok := fun k_ => ((some k_ ≠ (.slice Ao9 t248.length co9 : Value).ownBlock ∧ some k_ ≠ (.slice Ao15 t257.length co15 : Value).ownBlock) ∧ some k_ ≠ (.slice Ao16 t260.length co16 : Value).ownBlock)) (n := t251.length) (c := co10) ?_).2.2; exact (by (with_reducible repeat (first | apply Kd.R_alloc | apply Kd.R_drewN | apply Kd.R_drew)); exact (rF3 HO253 BK264))); (case side8 => exact (Kd.R_reads' HO253.out).2.1); rintro e w26 ⟨rfl, hb⟩; refine ⟨_, rfl, ?_⟩; replace HO250 := Aside0.mk (Kd.R_below (by (with_reducible repeat (first | apply Kd.R_alloc | apply Kd.R_drewN | apply Kd.R_drew)); exact (rF3 HO250 BK264)) hb); replace HO253 := Aside0.mk (Kd.R_below (by (with_reducible repeat (first | apply Kd.R_alloc | apply Kd.R_drewN | apply Kd.R_drew)); exact (rF3 HO253 BK264)) hb); replace HO259 := Aside0.mk (Kd.R_below (by (with_reducible repeat (first | apply Kd.R_alloc | apply Kd.R_drewN | apply Kd.R_drew)); exact (rF3 HO259 BK264)) hb); replace HO262 := Aside0.mk (Kd.R_below (by (with_reducible repeat (first | apply Kd.R_alloc | apply Kd.R_drewN | apply Kd.R_drew)); exact (rF3 HO262 BK264)) hb); replace BK255 := fB BK255 hb; replace BK264 := Aside0.mk (blk_below (g := gb264) (o := .cells #[.int .i64 t256, .slice Ao15 t257.length co15, .slice Ao16 t260.length co16] 27 (0, 0)) (by (with_reducible repeat (first | refine blk_drewN ?_ _ | refine blk_drew ?_ | refine blk_alloc ?_ _)); exact bp3 BK264.out) hb); replace HB := hB HB hb; (try clear hb)))
   go_meet
   case rel => exact ⟨_, (true), (by first | rfl | (simp; done) | (simp [wrap64]; done) | (simp [*]; done)), H', ⟨by first | omega | exact Nat.le_refl _⟩, ⟨by (with_reducible repeat (first | apply Kd.R_alloc | apply Kd.R_drewN | apply Kd.R_drew)); exact Kd.R_mono HO250.out (fun _ hk => ⟨hk.1.1, ⟨hk.1.2, hk.2⟩⟩)⟩, ⟨by (with_reducible repeat (first | apply Kd.R_alloc | apply Kd.R_drewN | apply Kd.R_drew)); exact Kd.R_mono HO253.out (fun _ hk => ⟨hk.1.1, ⟨hk.1.2, hk.2⟩⟩)⟩, ⟨by (with_reducible repeat (first | apply Kd.R_alloc | apply Kd.R_drewN | apply Kd.R_drew)); exact Kd.R_mono HO259.out (fun _ hk => ⟨hk.1.2, ⟨hk.2, hk.1.1⟩⟩)⟩, ⟨by (with_reducible repeat (first | apply Kd.R_alloc | apply Kd.R_drewN | apply Kd.R_drew)); exact Kd.R_mono HO262.out (fun _ hk => ⟨hk.1.2, ⟨hk.2, hk.1.1⟩⟩)⟩, ⟨tK BK255.out⟩, ⟨tK BK264.out⟩, ⟨tB HB.out⟩⟩
 case rest =>
  clear HC5
  (try clear hcz14_0); (try clear hcz14_1); (try clear hcz14_2); (try clear hcz8_0); (try clear hcz8_1); (try clear hcz8_2); (try clear hfz14_0); (try clear hfz14_1); (try clear hfz14_2); (try clear hfz8_0); (try clear hfz8_1); (try clear hfz8_2)
  obtain ⟨kq, x33_4, rfl, HA, HJ4, HO_256001, HO_256002, HO_265001, HO_265002, BK255, BK264, HB⟩ := hcut
  cases kq with
  | zero => exact absurd HA.out (by simp [laws_FnExactEdgePile.j0])
  | succ kj4 =>
   have H := HA.out
   clear HA
   simp only [laws_FnExactEdgePile.j0] at H
   by_cases c27 : x33_4 = true
   ·
    subst c27
    have H1 : (some false) = some r := by rw [if_pos rfl] at H; exact H
    clear H
    have H := H1
    clear H1
    obtain rfl := Option.some.inj H
    go_wp2
    go_ret
    exact ⟨by first | rfl | (simp [errW_none, errW_some] <;> rfl) | (simp [*, errW_none, errW_some] <;> rfl), tB HB.out⟩
   ·
    replace c27 := Bool.eq_false_iff.mpr c27
    subst c27
    have H1 : ((laws_markPile.f kj4 t256 t257 t260 1).bind fun bt266 => ((laws_heldPile.f kj4 t256 bt266.2.1 bt266.2.2 1).bind fun t269 => (if t269 < 0 then (some false) else (if t269 = bt266.1 then ((impl_EdgePile.f kj4 a0 a1).bind fun bt270 => ((laws_eqPile.f kj4 bt270.1 bt270.2.1 bt270.2.2.1 t247 t248 t251).bind fun t279 => (if t279 = true then (laws_FnExactEdgePile.j1 kj4 bt266.1 (bt270.2.2.2 != t254) t256 bt266.2.1 bt266.2.2) else (laws_FnExactEdgePile.j1 kj4 bt266.1 true t256 bt266.2.1 bt266.2.2)))) else (some false))))) = some r := by rw [if_neg (show ¬ (false = true) by decide)] at H; exact H
    clear H
    have H := H1
    clear H1
    replace H := Option.bind_eq_some_iff.mp H
    obtain ⟨⟨t266, t267, t268⟩, A280, H⟩ := H
    replace H : ((laws_heldPile.f kj4 t256 t267 t268 1).bind fun t269 => (if t269 < 0 then (some false) else (if t269 = t266 then ((impl_EdgePile.f kj4 a0 a1).bind fun bt270 => ((laws_eqPile.f kj4 bt270.1 bt270.2.1 bt270.2.2.1 t247 t248 t251).bind fun t279 => (if t279 = true then (laws_FnExactEdgePile.j1 kj4 t266 (bt270.2.2.2 != t254) t256 t267 t268) else (laws_FnExactEdgePile.j1 kj4 t266 true t256 t267 t268)))) else (some false)))) = some r := H
    have A28 := Aside0.mk A280
    clear A280
    replace H := Option.bind_eq_some_iff.mp H
    obtain ⟨t269, A290, H⟩ := H
    replace H : (if t269 < 0 then (some false) else (if t269 = t266 then ((impl_EdgePile.f kj4 a0 a1).bind fun bt270 => ((laws_eqPile.f kj4 bt270.1 bt270.2.1 bt270.2.2.1 t247 t248 t251).bind fun t279 => (if t279 = true then (laws_FnExactEdgePile.j1 kj4 t266 (bt270.2.2.2 != t254) t256 t267 t268) else (laws_FnExactEdgePile.j1 kj4 t266 true t256 t267 t268)))) else (some false))) = some r := H
    have A29 := Aside0.mk A290
    clear A290
    by_cases c30 : t269 < 0
    ·
     rw [if_pos c30] at H
     have c30b0 : decide (t269 < 0) = true := decide_eq_true c30
     clear c30
     obtain rfl := Option.some.inj H
     have hnb31 := NB264_255.out
     have hnc31 := NB255_264.out
     obtain ⟨hcz32_0, hfz32_0, hcz32_1, hfz32_1, hcz32_2, hfz32_2⟩ := cz3 BK264
     go_wp2_with (first | ((with_reducible refine gate_callee (f := 12) rfl ?_); refine goesL_ (some 36) rfl rfl Try.func12 (by kernel_rfl) rfl #[.agg #[.int .i64 t256, .slice Ao15 t257.length co15, .slice Ao16 t260.length co16], .int .i64 1] rfl tM ?_; (with_reducible refine (laws_markPile.calls kj4 t256 (fun k_ => some k_ = (.slice Ao15 t257.length co15 : Value).ownBlock) (.slice Ao15 t257.length co15) t257 (fun k_ => some k_ = (.slice Ao16 t260.length co16 : Value).ownBlock) (.slice Ao16 t260.length co16) t260 1 t266 t267 t268 w _ ?side1 ?side2 ?side3 ?side4 ?side5 A28.out).mono ?_); (case side1 => repeat (first | (with_reducible first | exact HB.out | apply below_alloc | apply pw_below_drewN | apply below_drew1 | refine below_set ?_ GE255.out | refine below_set ?_ GE264.out) | exact HB.out)); (case side2 => exact Kd.R_tight rfl HO_265001.out); (case side3 => exact fun k_ e_ => (HO_265001.out.1 k_ e_.symm).2.2); (case side4 => exact Kd.R_tight rfl HO_265002.out); (case side5 => exact fun k_ e_ => (HO_265002.out.1 k_ e_.symm).2.2); rintro e w33 ⟨rfl, hy0, hy1, hb, hkp⟩; refine ⟨_, rfl, ?_⟩; replace HO_256001 := Aside0.mk (Kd.R_mono (ok' := fun k_ => some k_ ≠ (.slice Ao10 t251.length co10 : Value).ownBlock ∧ some k_ ≠ (.slice Ao15 t257.length co15 : Value).ownBlock ∧ some k_ ≠ (.slice Ao16 t260.length co16 : Value).ownBlock) (Kd.R_keptB (HO_256001.out) hkp (fun k_ hk_ hs_ => Or.elim hs_ (fun e_ => (hk_.2.1) e_) (fun e_ => (hk_.2.2) e_))) (fun k_ hk_ => ⟨hk_.1.1, hk_.1.2.1, hk_.1.2.2⟩)); replace HO_256002 := Aside0.mk (Kd.R_mono (ok' := fun k_ => some k_ ≠ (.slice Ao9 t248.length co9 : Value).ownBlock ∧ some k_ ≠ (.slice Ao15 t257.length co15 : Value).ownBlock ∧ some k_ ≠ (.slice Ao16 t260.length co16 : Value).ownBlock) (Kd.R_keptB (HO_256002.out) hkp (fun k_ hk_ hs_ => Or.elim hs_ (fun e_ => (hk_.2.1) e_) (fun e_ => (hk_.2.2) e_))) (fun k_ hk_ => ⟨hk_.1.1, hk_.1.2.1, hk_.1.2.2⟩)); replace BK255 := Aside0.mk (blk_kept (tK BK255.out) hkp (fun hs_ => Or.elim hs_ (fun e_ => (fun e_ => (Kd.R_ne HO_265001.out BK255.out (by decide)) e_) e_) (fun e_ => (fun e_ => (Kd.R_ne HO_265002.out BK255.out (by decide)) e_) e_))); replace BK264 := Aside0.mk (blk_kept (tK BK264.out) hkp (fun hs_ => Or.elim hs_ (fun e_ => (fun e_ => (Kd.R_ne HO_265001.out BK264.out (by decide)) e_) e_) (fun e_ => (fun e_ => (Kd.R_ne HO_265002.out BK264.out (by decide)) e_) e_))); replace HO_265001 := Aside0.mk (Kd.R_reok rfl hy0 (fun k_ e_ => HO_265001.out.1 k_ e_)); replace HO_265002 := Aside0.mk (Kd.R_reok rfl hy1 (fun k_ e_ => HO_265002.out.1 k_ e_)); replace HB := Aside0.mk (hb); (try clear hb); (try clear hkp); (try clear hy0); (try clear hy1); obtain ⟨hcz34_0, hfz34_0, hcz34_1, hfz34_1, hcz34_2, hfz34_2⟩ := cz3 BK264) | ((with_reducible refine gate_callee (f := 13) rfl ?_); refine goesL_ (some 39) rfl rfl Try.func13 (by kernel_rfl) rfl #[.agg #[.int .i64 t256, .slice Ao15 t267.length co15, .slice Ao16 t268.length co16], .int .i64 1] rfl (by (try simp only [List.map_toArray, List.map_cons, List.map_nil]); first | done | (rw [show t267.length = t257.length from (Kd.R_reads' HO_265001.out).1.symm, show t268.length = t260.length from (Kd.R_reads' HO_265002.out).1.symm] <;> rfl) | rfl | (simp only [List.length_drop, List.length_take]; rfl)) ?_; (with_reducible refine (laws_heldPile.calls kj4 t256 _ _ t267 _ _ t268 1 t269 _ ?side1 ?side2 ?side3 ?side4 A29.out).mono ?_); (case side1 => exact rC HO_265001); (case side2 => rw [show t267.length = t257.length from (Kd.R_reads' HO_265001.out).1.symm]; exact (Kd.R_reads' HO_265001.out).2.1); (case side3 => exact rC HO_265002); (case side4 => rw [show t268.length = t260.length from (Kd.R_reads' HO_265002.out).1.symm]; exact (Kd.R_reads' HO_265002.out).2.1); rintro e w35 ⟨rfl, hb⟩; refine ⟨_, rfl, ?_⟩; replace HO_256001 := rB HO_256001 hb; replace HO_256002 := rB HO_256002 hb; replace HO_265001 := rB HO_265001 hb; replace HO_265002 := rB HO_265002 hb; replace BK255 := bkB BK255 hb; replace BK264 := bkB BK264 hb; replace HB := hB HB hb; (try clear hb)))
     go_ret
     exact ⟨by first | rfl | (simp [errW_none, errW_some] <;> rfl) | (simp [*, errW_none, errW_some] <;> rfl), tB HB.out⟩
    ·
     rw [if_neg c30] at H
     have c30b0 : decide (t269 < 0) = false := decide_eq_false c30
     clear c30
     by_cases c36 : t269 = t266
     ·
      rw [if_pos c36] at H
      have c36b0 : (t269 == t266) = true := beq_iff_eq.mpr c36
      have c36b1 : (t269 != t266) = false := bne_eq_false_iff_eq.mpr c36
      clear c36
      replace H := Option.bind_eq_some_iff.mp H
      obtain ⟨⟨t270, t271, t274, t277⟩, A370, H⟩ := H
      replace H : ((laws_eqPile.f kj4 t270 t271 t274 t247 t248 t251).bind fun t279 => (if t279 = true then (laws_FnExactEdgePile.j1 kj4 t266 (t277 != t254) t256 t267 t268) else (laws_FnExactEdgePile.j1 kj4 t266 true t256 t267 t268))) = some r := H
      have A37 := Aside0.mk A370
      clear A370
      have HC38 := Aside0.mk H
      clear H
      have hnb39 := NB264_255.out
      have hnc39 := NB255_264.out
      obtain ⟨hcz40_0, hfz40_0, hcz40_1, hfz40_1, hcz40_2, hfz40_2⟩ := cz3 BK264
      go_upto_region 14 with (first | ((with_reducible refine gate_callee (f := 12) rfl ?_); refine goesL_ (some 36) rfl rfl Try.func12 (by kernel_rfl) rfl #[.agg #[.int .i64 t256, .slice Ao15 t257.length co15, .slice Ao16 t260.length co16], .int .i64 1] rfl tM ?_; (with_reducible refine (laws_markPile.calls kj4 t256 (fun k_ => some k_ = (.slice Ao15 t257.length co15 : Value).ownBlock) (.slice Ao15 t257.length co15) t257 (fun k_ => some k_ = (.slice Ao16 t260.length co16 : Value).ownBlock) (.slice Ao16 t260.length co16) t260 1 t266 t267 t268 w _ ?side1 ?side2 ?side3 ?side4 ?side5 A28.out).mono ?_); (case side1 => repeat (first | (with_reducible first | exact HB.out | apply below_alloc | apply pw_below_drewN | apply below_drew1 | refine below_set ?_ GE255.out | refine below_set ?_ GE264.out) | exact HB.out)); (case side2 => exact Kd.R_tight rfl HO_265001.out); (case side3 => exact fun k_ e_ => (HO_265001.out.1 k_ e_.symm).2.2); (case side4 => exact Kd.R_tight rfl HO_265002.out); (case side5 => exact fun k_ e_ => (HO_265002.out.1 k_ e_.symm).2.2); rintro e w41 ⟨rfl, hy0, hy1, hb, hkp⟩; refine ⟨_, rfl, ?_⟩; replace HO_256001 := Aside0.mk (Kd.R_mono (ok' := fun k_ => some k_ ≠ (.slice Ao10 t251.length co10 : Value).ownBlock ∧ some k_ ≠ (.slice Ao15 t257.length co15 : Value).ownBlock ∧ some k_ ≠ (.slice Ao16 t260.length co16 : Value).ownBlock) (Kd.R_keptB (HO_256001.out) hkp (fun k_ hk_ hs_ => Or.elim hs_ (fun e_ => (hk_.2.1) e_) (fun e_ => (hk_.2.2) e_))) (fun k_ hk_ => ⟨hk_.1.1, hk_.1.2.1, hk_.1.2.2⟩)); replace HO_256002 := Aside0.mk (Kd.R_mono (ok' := fun k_ => some k_ ≠ (.slice Ao9 t248.length co9 : Value).ownBlock ∧ some k_ ≠ (.slice Ao15 t257.length co15 : Value).ownBlock ∧ some k_ ≠ (.slice Ao16 t260.length co16 : Value).ownBlock) (Kd.R_keptB (HO_256002.out) hkp (fun k_ hk_ hs_ => Or.elim hs_ (fun e_ => (hk_.2.1) e_) (fun e_ => (hk_.2.2) e_))) (fun k_ hk_ => ⟨hk_.1.1, hk_.1.2.1, hk_.1.2.2⟩)); replace BK255 := Aside0.mk (blk_kept (tK BK255.out) hkp (fun hs_ => Or.elim hs_ (fun e_ => (fun e_ => (Kd.R_ne HO_265001.out BK255.out (by decide)) e_) e_) (fun e_ => (fun e_ => (Kd.R_ne HO_265002.out BK255.out (by decide)) e_) e_))); replace BK264 := Aside0.mk (blk_kept (tK BK264.out) hkp (fun hs_ => Or.elim hs_ (fun e_ => (fun e_ => (Kd.R_ne HO_265001.out BK264.out (by decide)) e_) e_) (fun e_ => (fun e_ => (Kd.R_ne HO_265002.out BK264.out (by decide)) e_) e_))); replace HO_265001 := Aside0.mk (Kd.R_reok rfl hy0 (fun k_ e_ => HO_265001.out.1 k_ e_)); replace HO_265002 := Aside0.mk (Kd.R_reok rfl hy1 (fun k_ e_ => HO_265002.out.1 k_ e_)); replace HB := Aside0.mk (hb); (try clear hb); (try clear hkp); (try clear hy0); (try clear hy1); obtain ⟨hcz42_0, hfz42_0, hcz42_1, hfz42_1, hcz42_2, hfz42_2⟩ := cz3 BK264) | ((with_reducible refine gate_callee (f := 13) rfl ?_); refine goesL_ (some 39) rfl rfl Try.func13 (by kernel_rfl) rfl #[.agg #[.int .i64 t256, .slice Ao15 t267.length co15, .slice Ao16 t268.length co16], .int .i64 1] rfl (by (try simp only [List.map_toArray, List.map_cons, List.map_nil]); first | done | (rw [show t267.length = t257.length from (Kd.R_reads' HO_265001.out).1.symm, show t268.length = t260.length from (Kd.R_reads' HO_265002.out).1.symm] <;> rfl) | rfl | (simp only [List.length_drop, List.length_take]; rfl)) ?_; (with_reducible refine (laws_heldPile.calls kj4 t256 _ _ t267 _ _ t268 1 t269 _ ?side1 ?side2 ?side3 ?side4 A29.out).mono ?_); (case side1 => exact rC HO_265001); (case side2 => rw [show t267.length = t257.length from (Kd.R_reads' HO_265001.out).1.symm]; exact (Kd.R_reads' HO_265001.out).2.1); (case side3 => exact rC HO_265002); (case side4 => rw [show t268.length = t260.length from (Kd.R_reads' HO_265002.out).1.symm]; exact (Kd.R_reads' HO_265002.out).2.1); rintro e w43 ⟨rfl, hb⟩; refine ⟨_, rfl, ?_⟩; replace HO_256001 := rB HO_256001 hb; replace HO_256002 := rB HO_256002 hb; replace HO_265001 := rB HO_265001 hb; replace HO_265002 := rB HO_265002 hb; replace BK255 := bkB BK255 hb; replace BK264 := bkB BK264 hb; replace HB := hB HB hb; (try clear hb)) | ((with_reducible refine gate_callee (f := 10) rfl ?_); refine goesL_ (some 48) rfl rfl Try.func10 (by kernel_rfl) rfl #[.int .i64 a0, .int .i64 a1] rfl tM ?_; (with_reducible refine (impl_EdgePile.calls kj4 a0 a1 t270 t271 t274 t277 _ A37.out).mono ?_); rintro e w44 ⟨v272, v275, rfl, ho0, ho1, hb⟩; refine ⟨_, rfl, ?_⟩; have HO273 := Aside0.mk (Kd.R_lower (Kd.R_new' (Kd.R_new' (Kd.R_new' (Kd.R_new' ho0 (Kd.R_lt (tR HO_256001.out))) (Kd.R_lt (tR HO_256002.out))) (Kd.R_lt (tR HO_265001.out))) (Kd.R_lt (tR HO_265002.out))) (below_size (tB HB.out))); have HO276 := Aside0.mk (Kd.R_lower (Kd.R_new' (Kd.R_new' (Kd.R_new' (Kd.R_new' ho1 (Kd.R_lt (tR HO_256001.out))) (Kd.R_lt (tR HO_256002.out))) (Kd.R_lt (tR HO_265001.out))) (Kd.R_lt (tR HO_265002.out))) (below_size (tB HB.out))); replace HO_256001 := Aside0.mk (Kd.R_mono (Kd.R_told (Kd.R_told (Kd.R_old (tR HO_256001.out) hb) (Kd.R_base ho0)) (Kd.R_base ho1)) (fun _ h_ => h_.1)); replace HO_256002 := Aside0.mk (Kd.R_mono (Kd.R_told (Kd.R_told (Kd.R_old (tR HO_256002.out) hb) (Kd.R_base ho0)) (Kd.R_base ho1)) (fun _ h_ => h_.1)); replace HO_265001 := Aside0.mk (Kd.R_mono (Kd.R_told (Kd.R_told (Kd.R_old (tR HO_265001.out) hb) (Kd.R_base ho0)) (Kd.R_base ho1)) (fun _ h_ => h_.1)); replace HO_265002 := Aside0.mk (Kd.R_mono (Kd.R_told (Kd.R_told (Kd.R_old (tR HO_265002.out) hb) (Kd.R_base ho0)) (Kd.R_base ho1)) (fun _ h_ => h_.1)); replace BK255 := bkB BK255 hb; replace BK264 := bkB BK264 hb; replace HB := hB HB hb; (try clear hb); (try clear ho0); (try clear ho1)) | ((with_reducible refine gate_dst (N := 11) rfl ?_); refine bE 11 #[.int .i64 0, .slice none 0 0, .slice none 0 0] 27 ?_; intro gb278 hg w45 hbox hb; replace HO_256001 := rB HO_256001 hb; replace HO_256002 := rB HO_256002 hb; replace HO_265001 := rB HO_265001 hb; replace HO_265002 := rB HO_265002 hb; replace HO273 := rB HO273 hb; replace HO276 := rB HO276 hb; have BK278 := Aside0.mk hbox; have GW278 := sB HB hg; have GE278 := GW278; replace HB := hB HB hb; have NB255_278 := lN BK255 hg; have NB278_255 := gN NB255_278; replace BK255 := bkB BK255 hb; have NB264_278 := lN BK264 hg; have NB278_264 := gN NB264_278; replace BK264 := bkB BK264 hb; clear hb hbox hg; have hnb46 := NB278_255.out; have hnc46 := NB255_278.out; have hnb47 := NB278_264.out; have hnc47 := NB264_278.out; obtain ⟨hcz48_0, hfz48_0, hcz48_1, hfz48_1, hcz48_2, hfz48_2⟩ := cz3 BK278; obtain ⟨Ao49, co49, eo49⟩ := Kd.R_slice HO273.out; subst eo49; obtain ⟨Ao50, co50, eo50⟩ := Kd.R_slice HO276.out; subst eo50))
      (try simp only [Act.put, List.setIfInBounds_toArray, List.set_cons_zero, List.set_cons_succ])
      go_cut [59] (fun v59 wc => ∃ (kq : Nat) (x59_37 : Bool), v59 = .bool x59_37 ∧ Aside0 (laws_FnExactEdgePile.j1 kq t266 x59_37 t256 t267 t268 = some r) ∧ Aside0 (kq ≤ kj4) ∧ Aside0 (Kd.R (Kd.int .i64) 3 wc w.heap.size (fun k_ => some k_ ≠ ((.slice Ao10 t251.length co10) : Value).ownBlock ∧ some k_ ≠ ((.slice Ao15 t257.length co15) : Value).ownBlock ∧ some k_ ≠ ((.slice Ao16 t260.length co16) : Value).ownBlock ∧ some k_ ≠ ((.slice Ao49 t271.length co49) : Value).ownBlock ∧ some k_ ≠ ((.slice Ao50 t274.length co50) : Value).ownBlock) (.slice Ao9 t248.length co9) t248) ∧ Aside0 (Kd.R (Kd.int .i64) 3 wc w.heap.size (fun k_ => some k_ ≠ ((.slice Ao9 t248.length co9) : Value).ownBlock ∧ some k_ ≠ ((.slice Ao15 t257.length co15) : Value).ownBlock ∧ some k_ ≠ ((.slice Ao16 t260.length co16) : Value).ownBlock ∧ some k_ ≠ ((.slice Ao49 t271.length co49) : Value).ownBlock ∧ some k_ ≠ ((.slice Ao50 t274.length co50) : Value).ownBlock) (.slice Ao10 t251.length co10) t251) ∧ Aside0 (Kd.R (Kd.int .i64) 3 wc w.heap.size (fun k_ => some k_ ≠ ((.slice Ao9 t248.length co9) : Value).ownBlock ∧ some k_ ≠ ((.slice Ao10 t251.length co10) : Value).ownBlock ∧ some k_ ≠ ((.slice Ao16 t260.length co16) : Value).ownBlock ∧ some k_ ≠ ((.slice Ao49 t271.length co49) : Value).ownBlock ∧ some k_ ≠ ((.slice Ao50 t274.length co50) : Value).ownBlock) (.slice Ao15 t257.length co15) t267) ∧ Aside0 (Kd.R (Kd.int .i64) 3 wc w.heap.size (fun k_ => some k_ ≠ ((.slice Ao9 t248.length co9) : Value).ownBlock ∧ some k_ ≠ ((.slice Ao10 t251.length co10) : Value).ownBlock ∧ some k_ ≠ ((.slice Ao15 t257.length co15) : Value).ownBlock ∧ some k_ ≠ ((.slice Ao49 t271.length co49) : Value).ownBlock ∧ some k_ ≠ ((.slice Ao50 t274.length co50) : Value).ownBlock) (.slice Ao16 t260.length co16) t268) ∧ Aside0 (Kd.R (Kd.int .i64) 3 wc w.heap.size (fun k_ => some k_ ≠ ((.slice Ao9 t248.length co9) : Value).ownBlock ∧ some k_ ≠ ((.slice Ao10 t251.length co10) : Value).ownBlock ∧ some k_ ≠ ((.slice Ao15 t257.length co15) : Value).ownBlock ∧ some k_ ≠ ((.slice Ao16 t260.length co16) : Value).ownBlock ∧ some k_ ≠ ((.slice Ao50 t274.length co50) : Value).ownBlock) (.slice Ao49 t271.length co49) t271) ∧ Aside0 (Kd.R (Kd.int .i64) 3 wc w.heap.size (fun k_ => some k_ ≠ ((.slice Ao9 t248.length co9) : Value).ownBlock ∧ some k_ ≠ ((.slice Ao10 t251.length co10) : Value).ownBlock ∧ some k_ ≠ ((.slice Ao15 t257.length co15) : Value).ownBlock ∧ some k_ ≠ ((.slice Ao16 t260.length co16) : Value).ownBlock ∧ some k_ ≠ ((.slice Ao49 t271.length co49) : Value).ownBlock) (.slice Ao50 t274.length co50) t274) ∧ Aside0 (wc.heap[gb255]? = some (.cells #[.int .i64 t247, (.slice Ao9 t248.length co9), (.slice Ao10 t251.length co10)] 27 (0, 0))) ∧ Aside0 (wc.heap[gb264]? = some (.cells #[.int .i64 t256, (.slice Ao15 t257.length co15), (.slice Ao16 t260.length co16)] 27 (0, 0))) ∧ Aside0 (wc.heap[gb278]? = some (.cells #[.int .i64 t270, (.slice Ao49 t271.length co49), (.slice Ao50 t274.length co50)] 27 (0, 0))) ∧ Aside0 (Below w.heap.size w wc))
      case first =>
       have H := HC38.out
       clear HC38
       replace H := Option.bind_eq_some_iff.mp H
       obtain ⟨t279, A510, H⟩ := H
       replace H : (if t279 = true then (laws_FnExactEdgePile.j1 kj4 t266 (t277 != t254) t256 t267 t268) else (laws_FnExactEdgePile.j1 kj4 t266 true t256 t267 t268)) = some r := H
       have A51 := Aside0.mk A510
       clear A510
       by_cases c52 : t279 = true
       ·
        subst c52
        have H1 : (laws_FnExactEdgePile.j1 kj4 t266 (t277 != t254) t256 t267 t268) = some r := by rw [if_pos rfl] at H; exact H
        clear H
        have H := H1
        clear H1
        have H' := Aside0.mk H
        clear H
        have hnb53 := NB278_255.out
        have hnc53 := NB255_278.out
        have hnb54 := NB278_264.out
        have hnc54 := NB264_278.out
        obtain ⟨hcz55_0, hfz55_0, hcz55_1, hfz55_1, hcz55_2, hfz55_2⟩ := cz3 BK278
        have hnb56 := NB255_264.out
        have hnc56 := NB264_255.out
        obtain ⟨hcz57_0, hfz57_0, hcz57_1, hfz57_1, hcz57_2, hfz57_2⟩ := cz3 BK255
        go_wp2_with (first | ((with_reducible refine gate_callee (f := 11) rfl ?_); refine goesL_ (some 53) rfl rfl Try.func11 (by kernel_rfl) rfl #[.agg #[.int .i64 t270, .slice Ao49 t271.length co49, .slice Ao50 t274.length co50], .agg #[.int .i64 t247, .slice Ao9 t248.length co9, .slice Ao10 t251.length co10]] rfl tM ?_; (with_reducible refine (laws_eqPile.calls kj4 t270 _ _ t271 _ _ t274 t247 _ _ t248 _ _ t251 true _ ?side1 ?side2 ?side3 ?side4 ?side5 ?side6 ?side7 ?side8 A51.out).mono ?_); (case side1 => refine (Kd.R_reads' (e := 3) (base := w.heap.size) (ok := fun k_ => ((((some k_ ≠ (.slice Ao50 t274.length co50 : Value).ownBlock ∧ some k_ ≠ (.slice Ao9 t248.length co9 : Value).ownBlock) ∧ some k_ ≠ (.slice Ao10 t251.length co10 : Value).ownBlock) ∧ some k_ ≠ (.slice Ao15 t257.length co15 : Value).ownBlock) ∧ some k_ ≠ (.slice Ao16 t260.length co16 : Value).ownBlock)) (n := t271.length) (c := co49) ?_).2.2; exact (by (with_reducible repeat (first | apply Kd.R_alloc | apply Kd.R_drewN | apply Kd.R_drew)); exact (rF3 HO273 BK278))); (case side2 => exact (Kd.R_reads' HO273.out).2.1); (case side3 => refine (Kd.R_reads' (e := 3) (base := w.heap.size) (ok := fun k_ => ((((some k_ ≠ (.slice Ao49 t271.length co49 : Value).ownBlock ∧ some k_ ≠ (.slice Ao9 t248.length co9 : Value).ownBlock) ∧ some k_ ≠ (.slice Ao10 t251.length co10 : Value).ownBlock) ∧ some k_ ≠ (.slice Ao15 t257.length co15 : Value).ownBlock) ∧ some k_ ≠ (.slice Ao16 t260.length co16 : Value).ownBlock)) (n := t274.length) (c := co50) ?_).2.2; exact (by (with_reducible repeat (first | apply Kd.R_alloc | apply Kd.R_drewN | apply Kd.R_drew)); exact (rF3 HO276 BK278))); (case side4 => exact (Kd.R_reads' HO276.out).2.1); (case side5 => refine (Kd.R_reads' (e := 3) (base := w.heap.size) (ok := fun k_ => (((some k_ ≠ (.slice Ao10 t251.length co10 : Value).ownBlock ∧ (some k_ ≠ (.slice Ao15 t257.length co15 : Value).ownBlock ∧ some k_ ≠ (.slice Ao16 t260.length co16 : Value).ownBlock)) ∧ some k_ ≠ (.slice Ao49 t271.length co49 : Value).ownBlock) ∧ some k_ ≠ (.slice Ao50 t274.length co50 : Value).ownBlock)) (n := t248.length) (c := co9) ?_).2.2; exact (by (with_reducible repeat (first | apply Kd.R_alloc | apply Kd.R_drewN | apply Kd.R_drew)); exact (rF3 HO_256001 BK278))); (case side6 => exact (Kd.R_reads' HO_256001.out).2.1); (case side7 => refine (Kd.R_reads' (e := 3) (base := w.heap.size) (ok := fun k_ => (((some k_ ≠ (.slice Ao9 t248.length co9 : Value).ownBlock ∧ (some k_ ≠ (.slice Ao15 t257.length co15 : Value).ownBlock ∧ some k_ ≠ (.slice Ao16 t260.length co16 : Value).ownBlock)) ∧ some k_ ≠ (.slice Ao49 t271.length co49 : Value).ownBlock) ∧ some k_ ≠ (.slice Ao50 t274.length co50 : Value).ownBlock)) (n := t251.length) (c := co10) ?_).2.2; exact (by (with_reducible repeat (first | apply Kd.R_alloc | apply Kd.R_drewN | apply Kd.R_drew)); exact (rF3 HO_256002 BK278))); (case side8 => exact (Kd.R_reads' HO_256002.out).2.1); rintro e w58 ⟨rfl, hb⟩; refine ⟨_, rfl, ?_⟩; replace HO_256001 := Aside0.mk (Kd.R_below (by (with_reducible repeat (first | apply Kd.R_alloc | apply Kd.R_drewN | apply Kd.R_drew)); exact (rF3 HO_256001 BK278)) hb); replace HO_256002 := Aside0.mk (Kd.R_below (by (with_reducible repeat (first | apply Kd.R_alloc | apply Kd.R_drewN | apply Kd.R_drew)); exact (rF3 HO_256002 BK278)) hb); replace HO_265001 := Aside0.mk (Kd.R_below (by (with_reducible repeat (first | apply Kd.R_alloc | apply Kd.R_drewN | apply Kd.R_drew)); exact (rF3 HO_265001 BK278)) hb); replace HO_265002 := Aside0.mk (Kd.R_below (by (with_reducible repeat (first | apply Kd.R_alloc | apply Kd.R_drewN | apply Kd.R_drew)); exact (rF3 HO_265002 BK278)) hb); replace HO273 := Aside0.mk (Kd.R_below (by (with_reducible repeat (first | apply Kd.R_alloc | apply Kd.R_drewN | apply Kd.R_drew)); exact (rF3 HO273 BK278)) hb); replace HO276 := Aside0.mk (Kd.R_below (by (with_reducible repeat (first | apply Kd.R_alloc | apply Kd.R_drewN | apply Kd.R_drew)); exact (rF3 HO276 BK278)) hb); replace BK255 := fB BK255 hb; replace BK264 := fB BK264 hb; replace BK278 := Aside0.mk (blk_below (g := gb278) (o := .cells #[.int .i64 t270, .slice Ao49 t271.length co49, .slice Ao50 t274.length co50] 27 (0, 0)) (by (with_reducible repeat (first | refine blk_drewN ?_ _ | refine blk_drew ?_ | refine blk_alloc ?_ _)); exact bp3 BK278.out) hb); replace HB := hB HB hb; (try clear hb)))
        go_meet
        case rel => exact ⟨_, ((t277 != t254)), (by first | rfl | (simp; done) | (simp [wrap64]; done) | (simp [*]; done)), H', ⟨by have := HJ4.out; first | omega | exact Nat.le_refl _⟩, ⟨by (with_reducible repeat (first | apply Kd.R_alloc | apply Kd.R_drewN | apply Kd.R_drew)); exact Kd.R_mono HO_256001.out (fun _ hk => ⟨hk.1.1.1, ⟨hk.1.1.2.1, ⟨hk.1.1.2.2, ⟨hk.1.2, hk.2⟩⟩⟩⟩)⟩, ⟨by (with_reducible repeat (first | apply Kd.R_alloc | apply Kd.R_drewN | apply Kd.R_drew)); exact Kd.R_mono HO_256002.out (fun _ hk => ⟨hk.1.1.1, ⟨hk.1.1.2.1, ⟨hk.1.1.2.2, ⟨hk.1.2, hk.2⟩⟩⟩⟩)⟩, ⟨by (with_reducible repeat (first | apply Kd.R_alloc | apply Kd.R_drewN | apply Kd.R_drew)); exact Kd.R_mono HO_265001.out (fun _ hk => ⟨hk.1.1.1, ⟨hk.1.1.2.1, ⟨hk.1.1.2.2, ⟨hk.1.2, hk.2⟩⟩⟩⟩)⟩, ⟨by (with_reducible repeat (first | apply Kd.R_alloc | apply Kd.R_drewN | apply Kd.R_drew)); exact Kd.R_mono HO_265002.out (fun _ hk => ⟨hk.1.1.1, ⟨hk.1.1.2.1, ⟨hk.1.1.2.2, ⟨hk.1.2, hk.2⟩⟩⟩⟩)⟩, ⟨by (with_reducible repeat (first | apply Kd.R_alloc | apply Kd.R_drewN | apply Kd.R_drew)); exact Kd.R_mono HO273.out (fun _ hk => ⟨hk.1.1.1.2, ⟨hk.1.1.2, ⟨hk.1.2, ⟨hk.2, hk.1.1.1.1⟩⟩⟩⟩)⟩, ⟨by (with_reducible repeat (first | apply Kd.R_alloc | apply Kd.R_drewN | apply Kd.R_drew)); exact Kd.R_mono HO276.out (fun _ hk => ⟨hk.1.1.1.2, ⟨hk.1.1.2, ⟨hk.1.2, ⟨hk.2, hk.1.1.1.1⟩⟩⟩⟩)⟩, ⟨tK BK255.out⟩, ⟨tK BK264.out⟩, ⟨tK BK278.out⟩, ⟨tB HB.out⟩⟩
       ·
        replace c52 := Bool.eq_false_iff.mpr c52
        subst c52
        have H1 : (laws_FnExactEdgePile.j1 kj4 t266 true t256 t267 t268) = some r := by rw [if_neg (show ¬ (false = true) by decide)] at H; exact H
        clear H
        have H := H1
        clear H1
        have H' := Aside0.mk H
        clear H
        have hnb59 := NB278_255.out
        have hnc59 := NB255_278.out
        have hnb60 := NB278_264.out
        have hnc60 := NB264_278.out
        obtain ⟨hcz61_0, hfz61_0, hcz61_1, hfz61_1, hcz61_2, hfz61_2⟩ := cz3 BK278
        have hnb62 := NB255_264.out
        have hnc62 := NB264_255.out
        obtain ⟨hcz63_0, hfz63_0, hcz63_1, hfz63_1, hcz63_2, hfz63_2⟩ := cz3 BK255
        go_wp2_with (first | ((with_reducible refine gate_callee (f := 11) rfl ?_); refine goesL_ (some 53) rfl rfl Try.func11 (by kernel_rfl) rfl #[.agg #[.int .i64 t270, .slice Ao49 t271.length co49, .slice Ao50 t274.length co50], .agg #[.int .i64 t247, .slice Ao9 t248.length co9, .slice Ao10 t251.length co10]] rfl tM ?_; (with_reducible refine (laws_eqPile.calls kj4 t270 _ _ t271 _ _ t274 t247 _ _ t248 _ _ t251 false _ ?side1 ?side2 ?side3 ?side4 ?side5 ?side6 ?side7 ?side8 A51.out).mono ?_); (case side1 => refine (Kd.R_reads' (e := 3) (base := w.heap.size) (ok := fun k_ => ((((some k_ ≠ (.slice Ao50 t274.length co50 : Value).ownBlock ∧ some k_ ≠ (.slice Ao9 t248.length co9 : Value).ownBlock) ∧ some k_ ≠ (.slice Ao10 t251.length co10 : Value).ownBlock) ∧ some k_ ≠ (.slice Ao15 t257.length co15 : Value).ownBlock) ∧ some k_ ≠ (.slice Ao16 t260.length co16 : Value).ownBlock)) (n := t271.length) (c := co49) ?_).2.2; exact (by (with_reducible repeat (first | apply Kd.R_alloc | apply Kd.R_drewN | apply Kd.R_drew)); exact (rF3 HO273 BK278))); (case side2 => exact (Kd.R_reads' HO273.out).2.1); (case side3 => refine (Kd.R_reads' (e := 3) (base := w.heap.size) (ok := fun k_ => ((((some k_ ≠ (.slice Ao49 t271.length co49 : Value).ownBlock ∧ some k_ ≠ (.slice Ao9 t248.length co9 : Value).ownBlock) ∧ some k_ ≠ (.slice Ao10 t251.length co10 : Value).ownBlock) ∧ some k_ ≠ (.slice Ao15 t257.length co15 : Value).ownBlock) ∧ some k_ ≠ (.slice Ao16 t260.length co16 : Value).ownBlock)) (n := t274.length) (c := co50) ?_).2.2; exact (by (with_reducible repeat (first | apply Kd.R_alloc | apply Kd.R_drewN | apply Kd.R_drew)); exact (rF3 HO276 BK278))); (case side4 => exact (Kd.R_reads' HO276.out).2.1); (case side5 => refine (Kd.R_reads' (e := 3) (base := w.heap.size) (ok := fun k_ => (((some k_ ≠ (.slice Ao10 t251.length co10 : Value).ownBlock ∧ (some k_ ≠ (.slice Ao15 t257.length co15 : Value).ownBlock ∧ some k_ ≠ (.slice Ao16 t260.length co16 : Value).ownBlock)) ∧ some k_ ≠ (.slice Ao49 t271.length co49 : Value).ownBlock) ∧ some k_ ≠ (.slice Ao50 t274.length co50 : Value).ownBlock)) (n := t248.length) (c := co9) ?_).2.2; exact (by (with_reducible repeat (first | apply Kd.R_alloc | apply Kd.R_drewN | apply Kd.R_drew)); exact (rF3 HO_256001 BK278))); (case side6 => exact (Kd.R_reads' HO_256001.out).2.1); (case side7 => refine (Kd.R_reads' (e := 3) (base := w.heap.size) (ok := fun k_ => (((some k_ ≠ (.slice Ao9 t248.length co9 : Value).ownBlock ∧ (some k_ ≠ (.slice Ao15 t257.length co15 : Value).ownBlock ∧ some k_ ≠ (.slice Ao16 t260.length co16 : Value).ownBlock)) ∧ some k_ ≠ (.slice Ao49 t271.length co49 : Value).ownBlock) ∧ some k_ ≠ (.slice Ao50 t274.length co50 : Value).ownBlock)) (n := t251.length) (c := co10) ?_).2.2; exact (by (with_reducible repeat (first | apply Kd.R_alloc | apply Kd.R_drewN | apply Kd.R_drew)); exact (rF3 HO_256002 BK278))); (case side8 => exact (Kd.R_reads' HO_256002.out).2.1); rintro e w64 ⟨rfl, hb⟩; refine ⟨_, rfl, ?_⟩; replace HO_256001 := Aside0.mk (Kd.R_below (by (with_reducible repeat (first | apply Kd.R_alloc | apply Kd.R_drewN | apply Kd.R_drew)); exact (rF3 HO_256001 BK278)) hb); replace HO_256002 := Aside0.mk (Kd.R_below (by (with_reducible repeat (first | apply Kd.R_alloc | apply Kd.R_drewN | apply Kd.R_drew)); exact (rF3 HO_256002 BK278)) hb); replace HO_265001 := Aside0.mk (Kd.R_below (by (with_reducible repeat (first | apply Kd.R_alloc | apply Kd.R_drewN | apply Kd.R_drew)); exact (rF3 HO_265001 BK278)) hb); replace HO_265002 := Aside0.mk (Kd.R_below (by (with_reducible repeat (first | apply Kd.R_alloc | apply Kd.R_drewN | apply Kd.R_drew)); exact (rF3 HO_265002 BK278)) hb); replace HO273 := Aside0.mk (Kd.R_below (by (with_reducible repeat (first | apply Kd.R_alloc | apply Kd.R_drewN | apply Kd.R_drew)); exact (rF3 HO273 BK278)) hb); replace HO276 := Aside0.mk (Kd.R_below (by (with_reducible repeat (first | apply Kd.R_alloc | apply Kd.R_drewN | apply Kd.R_drew)); exact (rF3 HO276 BK278)) hb); replace BK255 := fB BK255 hb; replace BK264 := fB BK264 hb; replace BK278 := Aside0.mk (blk_below (g := gb278) (o := .cells #[.int .i64 t270, .slice Ao49 t271.length co49, .slice Ao50 t274.length co50] 27 (0, 0)) (by (with_reducible repeat (first | refine blk_drewN ?_ _ | refine blk_drew ?_ | refine blk_alloc ?_ _)); exact bp3 BK278.out) hb); replace HB := hB HB hb; (try clear hb)))
        go_meet
        case rel => exact ⟨_, (true), (by first | rfl | (simp; done) | (simp [wrap64]; done) | (simp [*]; done)), H', ⟨by have := HJ4.out; first | omega | exact Nat.le_refl _⟩, ⟨by (with_reducible repeat (first | apply Kd.R_alloc | apply Kd.R_drewN | apply Kd.R_drew)); exact Kd.R_mono HO_256001.out (fun _ hk => ⟨hk.1.1.1, ⟨hk.1.1.2.1, ⟨hk.1.1.2.2, ⟨hk.1.2, hk.2⟩⟩⟩⟩)⟩, ⟨by (with_reducible repeat (first | apply Kd.R_alloc | apply Kd.R_drewN | apply Kd.R_drew)); exact Kd.R_mono HO_256002.out (fun _ hk => ⟨hk.1.1.1, ⟨hk.1.1.2.1, ⟨hk.1.1.2.2, ⟨hk.1.2, hk.2⟩⟩⟩⟩)⟩, ⟨by (with_reducible repeat (first | apply Kd.R_alloc | apply Kd.R_drewN | apply Kd.R_drew)); exact Kd.R_mono HO_265001.out (fun _ hk => ⟨hk.1.1.1, ⟨hk.1.1.2.1, ⟨hk.1.1.2.2, ⟨hk.1.2, hk.2⟩⟩⟩⟩)⟩, ⟨by (with_reducible repeat (first | apply Kd.R_alloc | apply Kd.R_drewN | apply Kd.R_drew)); exact Kd.R_mono HO_265002.out (fun _ hk => ⟨hk.1.1.1, ⟨hk.1.1.2.1, ⟨hk.1.1.2.2, ⟨hk.1.2, hk.2⟩⟩⟩⟩)⟩, ⟨by (with_reducible repeat (first | apply Kd.R_alloc | apply Kd.R_drewN | apply Kd.R_drew)); exact Kd.R_mono HO273.out (fun _ hk => ⟨hk.1.1.1.2, ⟨hk.1.1.2, ⟨hk.1.2, ⟨hk.2, hk.1.1.1.1⟩⟩⟩⟩)⟩, ⟨by (with_reducible repeat (first | apply Kd.R_alloc | apply Kd.R_drewN | apply Kd.R_drew)); exact Kd.R_mono HO276.out (fun _ hk => ⟨hk.1.1.1.2, ⟨hk.1.1.2, ⟨hk.1.2, ⟨hk.2, hk.1.1.1.1⟩⟩⟩⟩)⟩, ⟨tK BK255.out⟩, ⟨tK BK264.out⟩, ⟨tK BK278.out⟩, ⟨tB HB.out⟩⟩
      case rest =>
       clear HC38
       (try clear c27); (try clear c30); (try clear c30b0); (try clear c36); (try clear c36b0); (try clear c36b1); (try clear hcz14_0); (try clear hcz14_1); (try clear hcz14_2); (try clear hcz40_0); (try clear hcz40_1); (try clear hcz40_2); (try clear hcz42_0); (try clear hcz42_1); (try clear hcz42_2); (try clear hcz48_0); (try clear hcz48_1); (try clear hcz48_2); (try clear hcz8_0); (try clear hcz8_1); (try clear hcz8_2); (try clear hfz14_0); (try clear hfz14_1); (try clear hfz14_2); (try clear hfz40_0); (try clear hfz40_1); (try clear hfz40_2); (try clear hfz42_0); (try clear hfz42_1); (try clear hfz42_2); (try clear hfz48_0); (try clear hfz48_1); (try clear hfz48_2); (try clear hfz8_0); (try clear hfz8_1); (try clear hfz8_2)
       obtain ⟨kq, x59_37, rfl, HA, HJ37, HO_256001, HO_256002, HO_265001, HO_265002, HO_279001, HO_279002, BK255, BK264, BK278, HB⟩ := hcut
       have hl265001_37 := (Kd.R_reads' HO_265001.out).1
       rw [hl265001_37] at HO_265001
       (try simp only [hl265001_37])
       (try simp only [hl265001_37] at BK255)
       (try simp only [hl265001_37] at BK264)
       (try simp only [hl265001_37] at BK278)
       (try simp only [hl265001_37] at HO_256001)
       (try simp only [hl265001_37] at HO_256002)
       (try simp only [hl265001_37] at HO_265002)
       (try simp only [hl265001_37] at HO_279001)
       (try simp only [hl265001_37] at HO_279002)
       have hl265002_37 := (Kd.R_reads' HO_265002.out).1
       rw [hl265002_37] at HO_265002
       (try simp only [hl265002_37])
       (try simp only [hl265002_37] at BK255)
       (try simp only [hl265002_37] at BK264)
       (try simp only [hl265002_37] at BK278)
       (try simp only [hl265002_37] at HO_256001)
       (try simp only [hl265002_37] at HO_256002)
       (try simp only [hl265002_37] at HO_265001)
       (try simp only [hl265002_37] at HO_279001)
       (try simp only [hl265002_37] at HO_279002)
       cases kq with
       | zero => exact absurd HA.out (by simp [laws_FnExactEdgePile.j1])
       | succ kj37 =>
        have H := HA.out
        clear HA
        simp only [laws_FnExactEdgePile.j1] at H
        by_cases c65 : x59_37 = true
        ·
         subst c65
         have H1 : (some false) = some r := by rw [if_pos rfl] at H; exact H
         clear H
         have H := H1
         clear H1
         obtain rfl := Option.some.inj H
         go_wp2
         go_ret
         exact ⟨by first | rfl | (simp [errW_none, errW_some] <;> rfl) | (simp [*, errW_none, errW_some] <;> rfl), tB HB.out⟩
        ·
         replace c65 := Bool.eq_false_iff.mpr c65
         subst c65
         have H1 : ((laws_heldPile.f kj37 t256 t267 t268 1).bind fun t280 => (if t280 < 0 then (some false) else (if t280 = t266 then (some true) else (some false)))) = some r := by rw [if_neg (show ¬ (false = true) by decide)] at H; exact H
         clear H
         have H := H1
         clear H1
         replace H := Option.bind_eq_some_iff.mp H
         obtain ⟨t280, A660, H⟩ := H
         replace H : (if t280 < 0 then (some false) else (if t280 = t266 then (some true) else (some false))) = some r := H
         have A66 := Aside0.mk A660
         clear A660
         by_cases c67 : t280 < 0
         ·
          rw [if_pos c67] at H
          have c67b0 : decide (t280 < 0) = true := decide_eq_true c67
          clear c67
          obtain rfl := Option.some.inj H
          have hnb68 := NB264_255.out
          have hnc68 := NB255_264.out
          have hnb69 := NB264_278.out
          have hnc69 := NB278_264.out
          obtain ⟨hcz70_0, hfz70_0, hcz70_1, hfz70_1, hcz70_2, hfz70_2⟩ := cz3 BK264
          go_wp2_with (first | ((with_reducible refine gate_callee (f := 13) rfl ?_); refine goesL_ (some 62) rfl rfl Try.func13 (by kernel_rfl) rfl #[.agg #[.int .i64 t256, .slice Ao15 t267.length co15, .slice Ao16 t268.length co16], .int .i64 1] rfl tM ?_; (with_reducible refine (laws_heldPile.calls kj37 t256 _ _ t267 _ _ t268 1 t280 _ ?side1 ?side2 ?side3 ?side4 A66.out).mono ?_); (case side1 => exact rC HO_265001); (case side2 => exact (Kd.R_reads' HO_265001.out).2.1); (case side3 => exact rC HO_265002); (case side4 => exact (Kd.R_reads' HO_265002.out).2.1); rintro e w71 ⟨rfl, hb⟩; refine ⟨_, rfl, ?_⟩; replace HO_256001 := rB HO_256001 hb; replace HO_256002 := rB HO_256002 hb; replace HO_265001 := rB HO_265001 hb; replace HO_265002 := rB HO_265002 hb; replace HO_279001 := rB HO_279001 hb; replace HO_279002 := rB HO_279002 hb; replace BK255 := bkB BK255 hb; replace BK264 := bkB BK264 hb; replace BK278 := bkB BK278 hb; replace HB := hB HB hb; (try clear hb)))
          go_ret
          exact ⟨by first | rfl | (simp [errW_none, errW_some] <;> rfl) | (simp [*, errW_none, errW_some] <;> rfl), tB HB.out⟩
         ·
          rw [if_neg c67] at H
          have c67b0 : decide (t280 < 0) = false := decide_eq_false c67
          clear c67
          by_cases c72 : t280 = t266
          ·
           rw [if_pos c72] at H
           have c72b0 : (t280 == t266) = true := beq_iff_eq.mpr c72
           have c72b1 : (t280 != t266) = false := bne_eq_false_iff_eq.mpr c72
           clear c72
           obtain rfl := Option.some.inj H
           have hnb73 := NB264_255.out
           have hnc73 := NB255_264.out
           have hnb74 := NB264_278.out
           have hnc74 := NB278_264.out
           obtain ⟨hcz75_0, hfz75_0, hcz75_1, hfz75_1, hcz75_2, hfz75_2⟩ := cz3 BK264
           go_wp2_with (first | ((with_reducible refine gate_callee (f := 13) rfl ?_); refine goesL_ (some 62) rfl rfl Try.func13 (by kernel_rfl) rfl #[.agg #[.int .i64 t256, .slice Ao15 t267.length co15, .slice Ao16 t268.length co16], .int .i64 1] rfl tM ?_; (with_reducible refine (laws_heldPile.calls kj37 t256 _ _ t267 _ _ t268 1 t280 _ ?side1 ?side2 ?side3 ?side4 A66.out).mono ?_); (case side1 => exact rC HO_265001); (case side2 => exact (Kd.R_reads' HO_265001.out).2.1); (case side3 => exact rC HO_265002); (case side4 => exact (Kd.R_reads' HO_265002.out).2.1); rintro e w76 ⟨rfl, hb⟩; refine ⟨_, rfl, ?_⟩; replace HO_256001 := rB HO_256001 hb; replace HO_256002 := rB HO_256002 hb; replace HO_265001 := rB HO_265001 hb; replace HO_265002 := rB HO_265002 hb; replace HO_279001 := rB HO_279001 hb; replace HO_279002 := rB HO_279002 hb; replace BK255 := bkB BK255 hb; replace BK264 := bkB BK264 hb; replace BK278 := bkB BK278 hb; replace HB := hB HB hb; (try clear hb)))
           go_ret
           exact ⟨by first | rfl | (simp [errW_none, errW_some] <;> rfl) | (simp [*, errW_none, errW_some] <;> rfl), tB HB.out⟩
          ·
           rw [if_neg c72] at H
           have c72b0 : (t280 == t266) = false := beq_eq_false_iff_ne.mpr c72
           have c72b1 : (t280 != t266) = true := bne_iff_ne.mpr c72
           obtain rfl := Option.some.inj H
           have hnb77 := NB264_255.out
           have hnc77 := NB255_264.out
           have hnb78 := NB264_278.out
           have hnc78 := NB278_264.out
           obtain ⟨hcz79_0, hfz79_0, hcz79_1, hfz79_1, hcz79_2, hfz79_2⟩ := cz3 BK264
           go_wp2_with (first | ((with_reducible refine gate_callee (f := 13) rfl ?_); refine goesL_ (some 62) rfl rfl Try.func13 (by kernel_rfl) rfl #[.agg #[.int .i64 t256, .slice Ao15 t267.length co15, .slice Ao16 t268.length co16], .int .i64 1] rfl tM ?_; (with_reducible refine (laws_heldPile.calls kj37 t256 _ _ t267 _ _ t268 1 t280 _ ?side1 ?side2 ?side3 ?side4 A66.out).mono ?_); (case side1 => exact rC HO_265001); (case side2 => exact (Kd.R_reads' HO_265001.out).2.1); (case side3 => exact rC HO_265002); (case side4 => exact (Kd.R_reads' HO_265002.out).2.1); rintro e w80 ⟨rfl, hb⟩; refine ⟨_, rfl, ?_⟩; replace HO_256001 := rB HO_256001 hb; replace HO_256002 := rB HO_256002 hb; replace HO_265001 := rB HO_265001 hb; replace HO_265002 := rB HO_265002 hb; replace HO_279001 := rB HO_279001 hb; replace HO_279002 := rB HO_279002 hb; replace BK255 := bkB BK255 hb; replace BK264 := bkB BK264 hb; replace BK278 := bkB BK278 hb; replace HB := hB HB hb; (try clear hb)))
           go_ret
           exact ⟨by first | rfl | (simp [errW_none, errW_some] <;> rfl) | (simp [*, errW_none, errW_some] <;> rfl), tB HB.out⟩
     ·
      rw [if_neg c36] at H
      have c36b0 : (t269 == t266) = false := beq_eq_false_iff_ne.mpr c36
      have c36b1 : (t269 != t266) = true := bne_iff_ne.mpr c36
      obtain rfl := Option.some.inj H
      have hnb81 := NB264_255.out
      have hnc81 := NB255_264.out
      obtain ⟨hcz82_0, hfz82_0, hcz82_1, hfz82_1, hcz82_2, hfz82_2⟩ := cz3 BK264
      go_wp2_with (first | ((with_reducible refine gate_callee (f := 12) rfl ?_); refine goesL_ (some 36) rfl rfl Try.func12 (by kernel_rfl) rfl #[.agg #[.int .i64 t256, .slice Ao15 t257.length co15, .slice Ao16 t260.length co16], .int .i64 1] rfl tM ?_; (with_reducible refine (laws_markPile.calls kj4 t256 (fun k_ => some k_ = (.slice Ao15 t257.length co15 : Value).ownBlock) (.slice Ao15 t257.length co15) t257 (fun k_ => some k_ = (.slice Ao16 t260.length co16 : Value).ownBlock) (.slice Ao16 t260.length co16) t260 1 t266 t267 t268 w _ ?side1 ?side2 ?side3 ?side4 ?side5 A28.out).mono ?_); (case side1 => repeat (first | (with_reducible first | exact HB.out | apply below_alloc | apply pw_below_drewN | apply below_drew1 | refine below_set ?_ GE255.out | refine below_set ?_ GE264.out) | exact HB.out)); (case side2 => exact Kd.R_tight rfl HO_265001.out); (case side3 => exact fun k_ e_ => (HO_265001.out.1 k_ e_.symm).2.2); (case side4 => exact Kd.R_tight rfl HO_265002.out); (case side5 => exact fun k_ e_ => (HO_265002.out.1 k_ e_.symm).2.2); rintro e w83 ⟨rfl, hy0, hy1, hb, hkp⟩; refine ⟨_, rfl, ?_⟩; replace HO_256001 := Aside0.mk (Kd.R_mono (ok' := fun k_ => some k_ ≠ (.slice Ao10 t251.length co10 : Value).ownBlock ∧ some k_ ≠ (.slice Ao15 t257.length co15 : Value).ownBlock ∧ some k_ ≠ (.slice Ao16 t260.length co16 : Value).ownBlock) (Kd.R_keptB (HO_256001.out) hkp (fun k_ hk_ hs_ => Or.elim hs_ (fun e_ => (hk_.2.1) e_) (fun e_ => (hk_.2.2) e_))) (fun k_ hk_ => ⟨hk_.1.1, hk_.1.2.1, hk_.1.2.2⟩)); replace HO_256002 := Aside0.mk (Kd.R_mono (ok' := fun k_ => some k_ ≠ (.slice Ao9 t248.length co9 : Value).ownBlock ∧ some k_ ≠ (.slice Ao15 t257.length co15 : Value).ownBlock ∧ some k_ ≠ (.slice Ao16 t260.length co16 : Value).ownBlock) (Kd.R_keptB (HO_256002.out) hkp (fun k_ hk_ hs_ => Or.elim hs_ (fun e_ => (hk_.2.1) e_) (fun e_ => (hk_.2.2) e_))) (fun k_ hk_ => ⟨hk_.1.1, hk_.1.2.1, hk_.1.2.2⟩)); replace BK255 := Aside0.mk (blk_kept (tK BK255.out) hkp (fun hs_ => Or.elim hs_ (fun e_ => (fun e_ => (Kd.R_ne HO_265001.out BK255.out (by decide)) e_) e_) (fun e_ => (fun e_ => (Kd.R_ne HO_265002.out BK255.out (by decide)) e_) e_))); replace BK264 := Aside0.mk (blk_kept (tK BK264.out) hkp (fun hs_ => Or.elim hs_ (fun e_ => (fun e_ => (Kd.R_ne HO_265001.out BK264.out (by decide)) e_) e_) (fun e_ => (fun e_ => (Kd.R_ne HO_265002.out BK264.out (by decide)) e_) e_))); replace HO_265001 := Aside0.mk (Kd.R_reok rfl hy0 (fun k_ e_ => HO_265001.out.1 k_ e_)); replace HO_265002 := Aside0.mk (Kd.R_reok rfl hy1 (fun k_ e_ => HO_265002.out.1 k_ e_)); replace HB := Aside0.mk (hb); (try clear hb); (try clear hkp); (try clear hy0); (try clear hy1); obtain ⟨hcz84_0, hfz84_0, hcz84_1, hfz84_1, hcz84_2, hfz84_2⟩ := cz3 BK264) | ((with_reducible refine gate_callee (f := 13) rfl ?_); refine goesL_ (some 39) rfl rfl Try.func13 (by kernel_rfl) rfl #[.agg #[.int .i64 t256, .slice Ao15 t267.length co15, .slice Ao16 t268.length co16], .int .i64 1] rfl (by (try simp only [List.map_toArray, List.map_cons, List.map_nil]); first | done | (rw [show t267.length = t257.length from (Kd.R_reads' HO_265001.out).1.symm, show t268.length = t260.length from (Kd.R_reads' HO_265002.out).1.symm] <;> rfl) | rfl | (simp only [List.length_drop, List.length_take]; rfl)) ?_; (with_reducible refine (laws_heldPile.calls kj4 t256 _ _ t267 _ _ t268 1 t269 _ ?side1 ?side2 ?side3 ?side4 A29.out).mono ?_); (case side1 => exact rC HO_265001); (case side2 => rw [show t267.length = t257.length from (Kd.R_reads' HO_265001.out).1.symm]; exact (Kd.R_reads' HO_265001.out).2.1); (case side3 => exact rC HO_265002); (case side4 => rw [show t268.length = t260.length from (Kd.R_reads' HO_265002.out).1.symm]; exact (Kd.R_reads' HO_265002.out).2.1); rintro e w85 ⟨rfl, hb⟩; refine ⟨_, rfl, ?_⟩; replace HO_256001 := rB HO_256001 hb; replace HO_256002 := rB HO_256002 hb; replace HO_265001 := rB HO_265001 hb; replace HO_265002 := rB HO_265002 hb; replace BK255 := bkB BK255 hb; replace BK264 := bkB BK264 hb; replace HB := hB HB hb; (try clear hb)))
      go_ret
      exact ⟨by first | rfl | (simp [errW_none, errW_some] <;> rfl) | (simp [*, errW_none, errW_some] <;> rfl), tB HB.out⟩

/-- THE ONE PURE STATEMENT of laws_FnExactEdgePile: yours. -/
def laws_FnExactEdgePile.Pure : Prop := ∀ (a0 : Int) (a1 : Int), (Lit.int .i64 a0).wf = true → (Lit.int .i64 a1).wf = true → ∃ k, laws_FnExactEdgePile.f k a0 a1 = some true
theorem laws_FnExactEdgePile.walk (P : laws_FnExactEdgePile.Pure) (a0 : Int) (a1 : Int) (w : World) (w0 : (Lit.int .i64 a0).wf = true) (w1 : (Lit.int .i64 a1).wf = true) :
  Calls Try.prog 4 #[.int .i64 a0, .int .i64 a1] w fun e w' => e = .returned (.bool true) ∧ Below w.heap.size w w' := by
 obtain ⟨k, h⟩ := P a0 a1 w0 w1
 refine (laws_FnExactEdgePile.calls k a0 a1 true w h).mono ?_
 rintro e w' ⟨rfl, hd⟩
 exact ⟨rfl, hd⟩

end Go.Proofs.Ytnnpfekgapikfaa.PFnExactEdgePile

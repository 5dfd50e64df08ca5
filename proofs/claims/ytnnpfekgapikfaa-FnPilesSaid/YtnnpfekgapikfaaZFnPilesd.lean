import Derived.Test.YtnnpfekgapikfaaZFnPilesx0
import Derived.Test.YtnnpfekgapikfaaZFnPilesx1
import Derived.Test.YtnnpfekgapikfaaZFnPilesx3
import Derived.Test.YtnnpfekgapikfaaZFnPilesx4
import Derived.Test.YtnnpfekgapikfaaZFnPilesx5
import Derived.Test.YtnnpfekgapikfaaZFnPilesx6
import Derived.Test.YtnnpfekgapikfaaZFnPilesx7
import Derived.Test.YtnnpfekgapikfaaZFnPilesx8
import Derived.Test.YtnnpfekgapikfaaZFnPilesx9
namespace Go.Proofs.Ytnnpfekgapikfaa.PFnPiles
open Go.RowKit Go.Proofs.YtnnpfekgapikfaaW.PrintWords Go.Proofs.YtnnpfekgapikfaaW.PrintLast Go.Proofs.YtnnpfekgapikfaaW.PrintMore
attribute [local go_sem] max2_int min2_int max_two min_two max_three min_three max_four min_four
set_option linter.unusedVariables false
set_option linter.unusedSimpArgs false
mutual
def laws_FnPiles.j0 : Nat → List Int → Bool → Bool → Int → Bool → Int → List Int → List Int → Option (Bool)
 | 0, _, _, _, _, _, _, _, _ => none
 | k + 1, x0, x4, x5, x8, x110, x521000, x521001, x521002 => if x110 = true then (none) else ((impl_OverhangOf.f k x521000 x521001 x521002).bind fun bt530 => ((spec_OverhangOf.f k x521000 x521001 x521002).bind fun bt532 => (if bt530.1 = bt532.1 then (if (bt530.2 != bt532.2) = true then (none) else (if (bt530.2 != x5) = true then (none) else ((impl_MirrorPile.f k x521000 x521001 x521002).bind fun bt534 => ((spec_MirrorPile.f k x521000 x521001 x521002).bind fun bt543 => (if (bt534.2.2.2 != bt543.2.2.2) = true then (none) else ((laws_rPile.f k bt534.1 bt534.2.1 bt534.2.2.1 bt543.1 bt543.2.1 bt543.2.2.1).bind fun t552 => (if t552 = true then ((spec_DrawHoldsBrick.f k x0).bind fun bt553 => ((impl_HoldsBrick.f k bt553.1 bt553.2.1 bt553.2.2.1 bt553.2.2.2).bind fun bt562 => ((spec_HoldsBrick.f k bt553.1 bt553.2.1 bt553.2.2.1 bt553.2.2.2).bind fun bt564 => (if (bt562.1 != bt564.1) = true then (none) else (if (bt562.2 != bt564.2) = true then (none) else ((impl_ContactOf.f k bt553.1 bt553.2.1 bt553.2.2.1 bt553.2.2.2).bind fun bt566 => ((spec_ContactOf.f k bt553.1 bt553.2.1 bt553.2.2.1 bt553.2.2.2).bind fun bt569 => (if bt566.1 = bt569.1 then (if bt566.2.1 = bt569.2.1 then (if (bt566.2.2 != bt569.2.2) = true then (laws_FnPiles.j1 k x0 x4 x5 x8 bt534.2.2.2 bt553.2.2.2 bt562.1 bt562.2 bt566.1 bt566.2.1 bt566.2.2 true x521000 x521001 x521002 bt534.1 bt534.2.1 bt534.2.2.1 bt553.1 bt553.2.1 bt553.2.2.1) else (if bt562.1 = true then (laws_FnPiles.j1 k x0 x4 x5 x8 bt534.2.2.2 bt553.2.2.2 bt562.1 bt562.2 bt566.1 bt566.2.1 bt566.2.2 (!bt566.2.2) x521000 x521001 x521002 bt534.1 bt534.2.1 bt534.2.2.1 bt553.1 bt553.2.1 bt553.2.2.1) else (laws_FnPiles.j1 k x0 x4 x5 x8 bt534.2.2.2 bt553.2.2.2 bt562.1 bt562.2 bt566.1 bt566.2.1 bt566.2.2 false x521000 x521001 x521002 bt534.1 bt534.2.1 bt534.2.2.1 bt553.1 bt553.2.1 bt553.2.2.1))) else (laws_FnPiles.j1 k x0 x4 x5 x8 bt534.2.2.2 bt553.2.2.2 bt562.1 bt562.2 bt566.1 bt566.2.1 bt566.2.2 true x521000 x521001 x521002 bt534.1 bt534.2.1 bt534.2.2.1 bt553.1 bt553.2.1 bt553.2.2.1)) else (laws_FnPiles.j1 k x0 x4 x5 x8 bt534.2.2.2 bt553.2.2.2 bt562.1 bt562.2 bt566.1 bt566.2.1 bt566.2.2 true x521000 x521001 x521002 bt534.1 bt534.2.1 bt534.2.2.1 bt553.1 bt553.2.1 bt553.2.2.1))))))))) else (none)))))))) else (none))))
def laws_FnPiles.j1 : Nat → List Int → Bool → Bool → Int → Bool → Int → Bool → Bool → Int → Int → Bool → Bool → Int → List Int → List Int → Int → List Int → List Int → Int → List Int → List Int → Option (Bool)
 | 0, _, _, _, _, _, _, _, _, _, _, _, _, _, _, _, _, _, _, _, _, _ => none
 | k + 1, x0, x4, x5, x8, x17, x21, x22, x23, x26, x27, x28, x211, x521000, x521001, x521002, x543000, x543001, x543002, x562000, x562001, x562002 => if x211 = true then (none) else ((impl_UpperCentre.f k x562000 x562001 x562002 x21).bind fun bt572 => ((spec_UpperCentre.f k x562000 x562001 x562002 x21).bind fun bt576 => (if bt572.1 = bt576.1 then (if bt572.2.1 = bt576.2.1 then (if (bt572.2.2 != bt576.2.2) = true then (none) else (if (bt572.2.2 != x23) = true then (none) else (if x28 = true then (if bt572.2.2 = true then (if bt572.1 ≥ (wrap64 (x26 * bt572.2.1)) then (laws_FnPiles.j2 k x0 x4 x5 x8 x17 (x22 != (decide (bt572.1 ≤ (wrap64 (x27 * bt572.2.1))))) x521000 x521001 x521002 x543000 x543001 x543002) else (laws_FnPiles.j2 k x0 x4 x5 x8 x17 (x22 != false) x521000 x521001 x521002 x543000 x543001 x543002)) else (laws_FnPiles.j2 k x0 x4 x5 x8 x17 false x521000 x521001 x521002 x543000 x543001 x543002)) else (laws_FnPiles.j2 k x0 x4 x5 x8 x17 false x521000 x521001 x521002 x543000 x543001 x543002)))) else (none)) else (none))))
def laws_FnPiles.j2 : Nat → List Int → Bool → Bool → Int → Bool → Bool → Int → List Int → List Int → Int → List Int → List Int → Option (Bool)
 | 0, _, _, _, _, _, _, _, _, _, _, _, _ => none
 | k + 1, x0, x4, x5, x8, x17, x260, x521000, x521001, x521002, x543000, x543001, x543002 => if x260 = true then (none) else ((spec_DrawShiftPile.f k x0).bind fun bt580 => ((impl_ShiftPile.f k bt580.1 bt580.2.1 bt580.2.2.1 bt580.2.2.2).bind fun bt589 => ((spec_ShiftPile.f k bt580.1 bt580.2.1 bt580.2.2.1 bt580.2.2.2).bind fun bt598 => (if (bt589.2.2.2 != bt598.2.2.2) = true then (none) else ((laws_rPile.f k bt589.1 bt589.2.1 bt589.2.2.1 bt598.1 bt598.2.1 bt598.2.2.1).bind fun t607 => (if t607 = true then (if bt589.2.2.2 = true then (laws_FnPiles.l0 k x4 x5 x8 x17 1 x521000 x521001 x521002 x543000 x543001 x543002 bt580.1 bt580.2.1 bt580.2.2.1 bt589.1 bt589.2.1 bt589.2.2.1) else (laws_FnPiles.j4 k x4 x5 x8 x17 x521000 x521001 x521002 x543000 x543001 x543002)) else (none)))))))
def laws_FnPiles.j4 : Nat → Bool → Bool → Int → Bool → Int → List Int → List Int → Int → List Int → List Int → Option (Bool)
 | 0, _, _, _, _, _, _, _, _, _, _ => none
 | k + 1, x4, x5, x8, x17, x521000, x521001, x521002, x543000, x543001, x543002 => if x17 = true then (laws_FnPiles.l1 k x4 x5 x8 1 x521000 x521001 x521002 x543000 x543001 x543002) else (laws_FnPiles.j6 k x4 x5 x8 x521000 x521001 x521002)
def laws_FnPiles.j6 : Nat → Bool → Bool → Int → Int → List Int → List Int → Option (Bool)
 | 0, _, _, _, _, _, _ => none
 | k + 1, x4, x5, x8, x521000, x521001, x521002 => if x5 = true then (laws_FnPiles.l2 k x4 x8 (-1) 0 x521000 x521001 x521002) else (some true)
def laws_FnPiles.l2 : Nat → Bool → Int → Int → Int → Int → List Int → List Int → Option (Bool)
 | 0, _, _, _, _, _, _, _ => none
 | k + 1, x4, x8, x52, x53, x521000, x521001, x521002 => if x53 < (x521001.length : Int) then ((impl_HoldsBrick.f k x521000 x521001 x521002 x53).bind fun bt616 => (if bt616.2 = true then (if bt616.1 = true then (laws_FnPiles.l2 k x4 x8 x52 (wrap64 (x53 + 1)) x521000 x521001 x521002) else (laws_FnPiles.l2 k x4 x8 x53 (wrap64 (x53 + 1)) x521000 x521001 x521002)) else (none))) else (if (x4 == (decide (x52 < 0))) = true then (if x4 = true then (some true) else (some (x8 == x52))) else (none))
def laws_FnPiles.l1 : Nat → Bool → Bool → Int → Int → Int → List Int → List Int → Int → List Int → List Int → Option (Bool)
 | 0, _, _, _, _, _, _, _, _, _, _ => none
 | k + 1, x4, x5, x8, x47, x521000, x521001, x521002, x543000, x543001, x543002 => if x47 < (x521001.length : Int) then ((impl_HoldsBrick.f k x521000 x521001 x521002 x47).bind fun bt612 => ((impl_HoldsBrick.f k x543000 x543001 x543002 x47).bind fun bt614 => (if bt612.2 = true then (if bt614.2 = true then (if (bt612.1 != bt614.1) = true then (none) else (laws_FnPiles.l1 k x4 x5 x8 (wrap64 (x47 + 1)) x521000 x521001 x521002 x543000 x543001 x543002)) else (none)) else (none)))) else (laws_FnPiles.j6 k x4 x5 x8 x521000 x521001 x521002)
def laws_FnPiles.l0 : Nat → Bool → Bool → Int → Bool → Int → Int → List Int → List Int → Int → List Int → List Int → Int → List Int → List Int → Int → List Int → List Int → Option (Bool)
 | 0, _, _, _, _, _, _, _, _, _, _, _, _, _, _, _, _, _ => none
 | k + 1, x4, x5, x8, x17, x42, x521000, x521001, x521002, x543000, x543001, x543002, x589000, x589001, x589002, x598000, x598001, x598002 => if x42 < (x589001.length : Int) then ((impl_HoldsBrick.f k x589000 x589001 x589002 x42).bind fun bt608 => ((impl_HoldsBrick.f k x598000 x598001 x598002 x42).bind fun bt610 => (if bt608.2 = true then (if bt610.2 = true then (if (bt608.1 != bt610.1) = true then (none) else (laws_FnPiles.l0 k x4 x5 x8 x17 (wrap64 (x42 + 1)) x521000 x521001 x521002 x543000 x543001 x543002 x589000 x589001 x589002 x598000 x598001 x598002)) else (none)) else (none)))) else (laws_FnPiles.j4 k x4 x5 x8 x17 x521000 x521001 x521002 x543000 x543001 x543002)
end
def laws_FnPiles.f (k : Nat) (l0 : List Int) : Option (Bool) := (laws_rBig.f l0).bind fun t512 => (if t512 = true then (some true) else ((spec_DrawStandsFirm.f k l0).bind fun bt513 => ((impl_StandsFirm.f k bt513.1 bt513.2.1 bt513.2.2).bind fun bt521 => ((spec_StandsFirm.f k bt513.1 bt513.2.1 bt513.2.2).bind fun bt523 => (if (bt521.1 != bt523.1) = true then (none) else (if (bt521.2 != bt523.2) = true then (none) else ((impl_IsPile.f k bt513.1 bt513.2.1 bt513.2.2).bind fun t525 => (if (bt521.2 != t525) = true then (none) else ((impl_HighestLoose.f k bt513.1 bt513.2.1 bt513.2.2).bind fun bt526 => ((spec_HighestLoose.f k bt513.1 bt513.2.1 bt513.2.2).bind fun bt528 => (if bt526.1 = bt528.1 then (if (bt526.2 != bt528.2) = true then (laws_FnPiles.j0 k l0 bt521.1 bt521.2 bt526.1 true bt513.1 bt513.2.1 bt513.2.2) else (if bt521.2 = true then (laws_FnPiles.j0 k l0 bt521.1 bt521.2 bt526.1 (bt526.2 != (!bt521.1)) bt513.1 bt513.2.1 bt513.2.2) else (laws_FnPiles.j0 k l0 bt521.1 bt521.2 bt526.1 (bt526.2 != false) bt513.1 bt513.2.1 bt513.2.2))) else (laws_FnPiles.j0 k l0 bt521.1 bt521.2 bt526.1 true bt513.1 bt513.2.1 bt513.2.2))))))))))))
def cutList (reg : Bool) (n : Nat) : Code → Option (List Code)
 | .region m _ _ => if reg && m == n then some [] else none
 | .cond (.tmp m) _ _ => if !reg && m == n then some [] else none
 | .seq a b => match cutList reg n a with
  | some l => some (l ++ [b])
  | none => cutList reg n b
 | _ => none
def cutHead (n : Nat) : Code → Option (List Code)
 | .region m o d => if m == n then some [.region m o d] else none
 | .seq a b => match cutHead n a with
  | some l => some (l ++ [b])
  | none => cutHead n b
 | _ => none
def cutAt (n : Nat) (f : Func) : List Code := (cutHead n (f.body.getD .skip)).getD []
def cutOf (reg : Bool) (n : Nat) (f : Func) : List Code := (cutList reg n (f.body.getD .skip)).getD []
def cutWp (P : Program) (Q : Exit → Act → World → Prop) : List Code → Act → World → Prop
 | [] => Q .normal
 | [r] => r.wp P Q
 | c :: l => c.wp P (Exit.then (cutWp P Q l) Q)
theorem cut1 {P : Program} {R : Code} {Q : Exit → Act → World → Prop} {K : Act → World → Prop} {a : Act} {w : World} (h : cutWp P Q [R] a w) (k : ∀ a w, Code.wp P R Q a w → K a w) : K a w := k a w h
theorem cutH {P : Program} {C R : Code} {Q : Exit → Act → World → Prop} {K : Act → World → Prop} {a : Act} {w : World} (h : cutWp P Q [C, R] a w) (k : ∀ a w, Code.wp P R Q a w → K a w) : Code.wp P C (Exit.then K Q) a w := by
 have h2 : Code.wp P C (Exit.then (Code.wp P R Q) Q) a w := h
 refine wp_mono h2 ?_
 intro e a' w' hq
 cases e with
 | normal => exact k _ _ hq
 | exit id => exact hq
 | goto l => exact hq
 | ret => exact hq
 | panic ch => exact hq
 | outgrown => exact hq
theorem cut2 {P : Program} {C R : Code} {Q : Exit → Act → World → Prop} {K0 K1 : Act → World → Prop} {a : Act} {w : World} (h : cutWp P Q [C, R] a w) (k1 : ∀ a w, Code.wp P R Q a w → K1 a w) (k0 : ∀ a w, Code.wp P C (Exit.then K1 Q) a w → K0 a w) : K0 a w := by
 have h2 : Code.wp P C (Exit.then (Code.wp P R Q) Q) a w := h
 refine k0 a w (wp_mono h2 ?_)
 intro e a' w' hq
 cases e with
 | normal => exact k1 _ _ hq
 | exit id => exact hq
 | goto l => exact hq
 | ret => exact hq
 | panic ch => exact hq
 | outgrown => exact hq
theorem cutI1 {P : Program} {l : List Code} {R : Code} {Q : Exit → Act → World → Prop} {a : Act} {w : World} (hl : l = [R]) (h : Code.wp P R Q a w) : cutWp P Q l a w := by
 subst hl
 exact h
theorem cutI2 {P : Program} {l : List Code} {C R : Code} {Q : Exit → Act → World → Prop} {a : Act} {w : World} (hl : l = [C, R]) (h : ∀ K : Act → World → Prop, (∀ a w, Code.wp P R Q a w → K a w) → Code.wp P C (Exit.then K Q) a w) : cutWp P Q l a w := by
 subst hl
 exact h (Code.wp P R Q) fun _ _ h => h
end Go.Proofs.Ytnnpfekgapikfaa.PFnPiles

/-
  No cell of these rows narrows 'for every input' (looked for: loops, veiled, ifaces, maps, wideKeys, modest, calm, conditions, laid).
  DERIVED. THE GIVEN ROWS OF THIS SEAT. 12 by the template 'for every input the law returns true; each argument reads behind the call as it read before'; 0 by the template 'total and deterministic' (their statements: YtigijeedekjeiaaTotals.lean).
  GIVEN WITH THE SEED: the statements are not yours to turn. If you find one false, say at which input.
  Laid BY PROGRAM, IN A SANDBOX (cutbox-rows.mjs): the forced cells as the released guide's own fill.sh prints them over the translation ac3efcc33603da62… (all of the seat's roots in one cut). By AI agents, Wed Nov 11 2026. No macro, syntax, notation, axiom, sorry.
-/
import Derived.Test.YtigijeedekjeiaaChecked
import GoSem.Claim
import GoSem.ClaimJoined
import GoSem.ClaimMapViews
import Derived.JoinedTies
import Derived.KernelRfl
namespace Go.Proofs.Ytigijeedekjeiaa
/- THE CELL 'sum', in the pinned program and in every row, IS THE sha256 OF THE DUMP (.gsa) THAT YtigijeedekjeiaaProg.lean LOADS. Nothing in Lean hashes anything: it is a label: what it is worth is what the hold of that sum in a sandbox is worth. -/
noncomputable def Try.pinned : Pinned := { name := "ytigijeedekjeiaa", sum := "ac3efcc33603da62cbba0326ea620e7d42fd0a5411dc7958f6ccd813fc804158", checked := Try.checked }
namespace Rows
def none {H : Type} : Left H := { results := [], args := [] }

/-- 'laws.FnExactOverhangOf': WHATEVER THE INPUT: true; the input reads as it did. -/
def fnExactOverhangOfSpec : ChangeSpec := { name := "fnExactOverhangOf", fn := fun _ => fun
  | [d] => { results := [.lit (.bool true)], args := [d] }
  | _ => none }
def fnExactOverhangOfRow : OpenClaim := { program := "ytigijeedekjeiaa", sum := "ac3efcc33603da62cbba0326ea620e7d42fd0a5411dc7958f6ccd813fc804158", func := "loop.example/g01159/laws.FnExactOverhangOf", spec := "fnExactOverhangOf", apart := false }
def FnExactOverhangOfSaid : Prop := fnExactOverhangOfRow.holds Try.pinned (OpenSpec.ofChange fnExactOverhangOfSpec)

/-- ITS FALSE NEIGHBOUR: 'it returns false'. Refute it at one input. -/
def fnExactOverhangOfWrong : ChangeSpec := { name := "fnExactOverhangOf", fn := fun _ => fun
  | [d] => { results := [.lit (.bool false)], args := [d] }
  | _ => none }
def FnExactOverhangOfWrongFalsely : Prop := fnExactOverhangOfRow.holds Try.pinned (OpenSpec.ofChange fnExactOverhangOfWrong)

/-- 'laws.FnExactContactOf': WHATEVER THE INPUT: true; the input reads as it did. -/
def fnExactContactOfSpec : ChangeSpec := { name := "fnExactContactOf", fn := fun _ => fun
  | [d1, d2] => { results := [.lit (.bool true)], args := [d1, d2] }
  | _ => none }
def fnExactContactOfRow : OpenClaim := { program := "ytigijeedekjeiaa", sum := "ac3efcc33603da62cbba0326ea620e7d42fd0a5411dc7958f6ccd813fc804158", func := "loop.example/g01159/laws.FnExactContactOf", spec := "fnExactContactOf", apart := false }
def FnExactContactOfSaid : Prop := fnExactContactOfRow.holds Try.pinned (OpenSpec.ofChange fnExactContactOfSpec)

/-- ITS FALSE NEIGHBOUR: 'it returns false'. Refute it at one input. -/
def fnExactContactOfWrong : ChangeSpec := { name := "fnExactContactOf", fn := fun _ => fun
  | [d1, d2] => { results := [.lit (.bool false)], args := [d1, d2] }
  | _ => none }
def FnExactContactOfWrongFalsely : Prop := fnExactContactOfRow.holds Try.pinned (OpenSpec.ofChange fnExactContactOfWrong)

/-- 'laws.FnExactDropTop': WHATEVER THE INPUT: true; the input reads as it did. -/
def fnExactDropTopSpec : ChangeSpec := { name := "fnExactDropTop", fn := fun _ => fun
  | [d] => { results := [.lit (.bool true)], args := [d] }
  | _ => none }
def fnExactDropTopRow : OpenClaim := { program := "ytigijeedekjeiaa", sum := "ac3efcc33603da62cbba0326ea620e7d42fd0a5411dc7958f6ccd813fc804158", func := "loop.example/g01159/laws.FnExactDropTop", spec := "fnExactDropTop", apart := false }
def FnExactDropTopSaid : Prop := fnExactDropTopRow.holds Try.pinned (OpenSpec.ofChange fnExactDropTopSpec)

/-- ITS FALSE NEIGHBOUR: 'it returns false'. Refute it at one input. -/
def fnExactDropTopWrong : ChangeSpec := { name := "fnExactDropTop", fn := fun _ => fun
  | [d] => { results := [.lit (.bool false)], args := [d] }
  | _ => none }
def FnExactDropTopWrongFalsely : Prop := fnExactDropTopRow.holds Try.pinned (OpenSpec.ofChange fnExactDropTopWrong)

/-- 'laws.FnExactHoldsBrick': WHATEVER THE INPUT: true; the input reads as it did. -/
def fnExactHoldsBrickSpec : ChangeSpec := { name := "fnExactHoldsBrick", fn := fun _ => fun
  | [d1, d2] => { results := [.lit (.bool true)], args := [d1, d2] }
  | _ => none }
def fnExactHoldsBrickRow : OpenClaim := { program := "ytigijeedekjeiaa", sum := "ac3efcc33603da62cbba0326ea620e7d42fd0a5411dc7958f6ccd813fc804158", func := "loop.example/g01159/laws.FnExactHoldsBrick", spec := "fnExactHoldsBrick", apart := false }
def FnExactHoldsBrickSaid : Prop := fnExactHoldsBrickRow.holds Try.pinned (OpenSpec.ofChange fnExactHoldsBrickSpec)

/-- ITS FALSE NEIGHBOUR: 'it returns false'. Refute it at one input. -/
def fnExactHoldsBrickWrong : ChangeSpec := { name := "fnExactHoldsBrick", fn := fun _ => fun
  | [d1, d2] => { results := [.lit (.bool false)], args := [d1, d2] }
  | _ => none }
def FnExactHoldsBrickWrongFalsely : Prop := fnExactHoldsBrickRow.holds Try.pinned (OpenSpec.ofChange fnExactHoldsBrickWrong)

/-- 'laws.FnExactUpperCentre': WHATEVER THE INPUT: true; the input reads as it did. -/
def fnExactUpperCentreSpec : ChangeSpec := { name := "fnExactUpperCentre", fn := fun _ => fun
  | [d1, d2] => { results := [.lit (.bool true)], args := [d1, d2] }
  | _ => none }
def fnExactUpperCentreRow : OpenClaim := { program := "ytigijeedekjeiaa", sum := "ac3efcc33603da62cbba0326ea620e7d42fd0a5411dc7958f6ccd813fc804158", func := "loop.example/g01159/laws.FnExactUpperCentre", spec := "fnExactUpperCentre", apart := false }
def FnExactUpperCentreSaid : Prop := fnExactUpperCentreRow.holds Try.pinned (OpenSpec.ofChange fnExactUpperCentreSpec)

/-- ITS FALSE NEIGHBOUR: 'it returns false'. Refute it at one input. -/
def fnExactUpperCentreWrong : ChangeSpec := { name := "fnExactUpperCentre", fn := fun _ => fun
  | [d1, d2] => { results := [.lit (.bool false)], args := [d1, d2] }
  | _ => none }
def FnExactUpperCentreWrongFalsely : Prop := fnExactUpperCentreRow.holds Try.pinned (OpenSpec.ofChange fnExactUpperCentreWrong)

/-- 'laws.FnExactTopLoad': WHATEVER THE INPUT: true; the input reads as it did. -/
def fnExactTopLoadSpec : ChangeSpec := { name := "fnExactTopLoad", fn := fun _ => fun
  | [d1, d2, d3] => { results := [.lit (.bool true)], args := [d1, d2, d3] }
  | _ => none }
def fnExactTopLoadRow : OpenClaim := { program := "ytigijeedekjeiaa", sum := "ac3efcc33603da62cbba0326ea620e7d42fd0a5411dc7958f6ccd813fc804158", func := "loop.example/g01159/laws.FnExactTopLoad", spec := "fnExactTopLoad", apart := false }
def FnExactTopLoadSaid : Prop := fnExactTopLoadRow.holds Try.pinned (OpenSpec.ofChange fnExactTopLoadSpec)

/-- ITS FALSE NEIGHBOUR: 'it returns false'. Refute it at one input. -/
def fnExactTopLoadWrong : ChangeSpec := { name := "fnExactTopLoad", fn := fun _ => fun
  | [d1, d2, d3] => { results := [.lit (.bool false)], args := [d1, d2, d3] }
  | _ => none }
def FnExactTopLoadWrongFalsely : Prop := fnExactTopLoadRow.holds Try.pinned (OpenSpec.ofChange fnExactTopLoadWrong)

/-- 'laws.FnExactMirrorPile': WHATEVER THE INPUT: true; the input reads as it did. -/
def fnExactMirrorPileSpec : ChangeSpec := { name := "fnExactMirrorPile", fn := fun _ => fun
  | [d] => { results := [.lit (.bool true)], args := [d] }
  | _ => none }
def fnExactMirrorPileRow : OpenClaim := { program := "ytigijeedekjeiaa", sum := "ac3efcc33603da62cbba0326ea620e7d42fd0a5411dc7958f6ccd813fc804158", func := "loop.example/g01159/laws.FnExactMirrorPile", spec := "fnExactMirrorPile", apart := false }
def FnExactMirrorPileSaid : Prop := fnExactMirrorPileRow.holds Try.pinned (OpenSpec.ofChange fnExactMirrorPileSpec)

/-- ITS FALSE NEIGHBOUR: 'it returns false'. Refute it at one input. -/
def fnExactMirrorPileWrong : ChangeSpec := { name := "fnExactMirrorPile", fn := fun _ => fun
  | [d] => { results := [.lit (.bool false)], args := [d] }
  | _ => none }
def FnExactMirrorPileWrongFalsely : Prop := fnExactMirrorPileRow.holds Try.pinned (OpenSpec.ofChange fnExactMirrorPileWrong)

/-- 'laws.FnExactHighestLoose': WHATEVER THE INPUT: true; the input reads as it did. -/
def fnExactHighestLooseSpec : ChangeSpec := { name := "fnExactHighestLoose", fn := fun _ => fun
  | [d] => { results := [.lit (.bool true)], args := [d] }
  | _ => none }
def fnExactHighestLooseRow : OpenClaim := { program := "ytigijeedekjeiaa", sum := "ac3efcc33603da62cbba0326ea620e7d42fd0a5411dc7958f6ccd813fc804158", func := "loop.example/g01159/laws.FnExactHighestLoose", spec := "fnExactHighestLoose", apart := false }
def FnExactHighestLooseSaid : Prop := fnExactHighestLooseRow.holds Try.pinned (OpenSpec.ofChange fnExactHighestLooseSpec)

/-- ITS FALSE NEIGHBOUR: 'it returns false'. Refute it at one input. -/
def fnExactHighestLooseWrong : ChangeSpec := { name := "fnExactHighestLoose", fn := fun _ => fun
  | [d] => { results := [.lit (.bool false)], args := [d] }
  | _ => none }
def FnExactHighestLooseWrongFalsely : Prop := fnExactHighestLooseRow.holds Try.pinned (OpenSpec.ofChange fnExactHighestLooseWrong)

/-- 'laws.FnExactStandsFirm': WHATEVER THE INPUT: true; the input reads as it did. -/
def fnExactStandsFirmSpec : ChangeSpec := { name := "fnExactStandsFirm", fn := fun _ => fun
  | [d] => { results := [.lit (.bool true)], args := [d] }
  | _ => none }
def fnExactStandsFirmRow : OpenClaim := { program := "ytigijeedekjeiaa", sum := "ac3efcc33603da62cbba0326ea620e7d42fd0a5411dc7958f6ccd813fc804158", func := "loop.example/g01159/laws.FnExactStandsFirm", spec := "fnExactStandsFirm", apart := false }
def FnExactStandsFirmSaid : Prop := fnExactStandsFirmRow.holds Try.pinned (OpenSpec.ofChange fnExactStandsFirmSpec)

/-- ITS FALSE NEIGHBOUR: 'it returns false'. Refute it at one input. -/
def fnExactStandsFirmWrong : ChangeSpec := { name := "fnExactStandsFirm", fn := fun _ => fun
  | [d] => { results := [.lit (.bool false)], args := [d] }
  | _ => none }
def FnExactStandsFirmWrongFalsely : Prop := fnExactStandsFirmRow.holds Try.pinned (OpenSpec.ofChange fnExactStandsFirmWrong)

/-- 'laws.FnExactShiftPile': WHATEVER THE INPUT: true; the input reads as it did. -/
def fnExactShiftPileSpec : ChangeSpec := { name := "fnExactShiftPile", fn := fun _ => fun
  | [d1, d2] => { results := [.lit (.bool true)], args := [d1, d2] }
  | _ => none }
def fnExactShiftPileRow : OpenClaim := { program := "ytigijeedekjeiaa", sum := "ac3efcc33603da62cbba0326ea620e7d42fd0a5411dc7958f6ccd813fc804158", func := "loop.example/g01159/laws.FnExactShiftPile", spec := "fnExactShiftPile", apart := false }
def FnExactShiftPileSaid : Prop := fnExactShiftPileRow.holds Try.pinned (OpenSpec.ofChange fnExactShiftPileSpec)

/-- ITS FALSE NEIGHBOUR: 'it returns false'. Refute it at one input. -/
def fnExactShiftPileWrong : ChangeSpec := { name := "fnExactShiftPile", fn := fun _ => fun
  | [d1, d2] => { results := [.lit (.bool false)], args := [d1, d2] }
  | _ => none }
def FnExactShiftPileWrongFalsely : Prop := fnExactShiftPileRow.holds Try.pinned (OpenSpec.ofChange fnExactShiftPileWrong)

/-- 'laws.FnExactMostShift': WHATEVER THE INPUT: true; the input reads as it did. -/
def fnExactMostShiftSpec : ChangeSpec := { name := "fnExactMostShift", fn := fun _ => fun
  | [d] => { results := [.lit (.bool true)], args := [d] }
  | _ => none }
def fnExactMostShiftRow : OpenClaim := { program := "ytigijeedekjeiaa", sum := "ac3efcc33603da62cbba0326ea620e7d42fd0a5411dc7958f6ccd813fc804158", func := "loop.example/g01159/laws.FnExactMostShift", spec := "fnExactMostShift", apart := false }
def FnExactMostShiftSaid : Prop := fnExactMostShiftRow.holds Try.pinned (OpenSpec.ofChange fnExactMostShiftSpec)

/-- ITS FALSE NEIGHBOUR: 'it returns false'. Refute it at one input. -/
def fnExactMostShiftWrong : ChangeSpec := { name := "fnExactMostShift", fn := fun _ => fun
  | [d] => { results := [.lit (.bool false)], args := [d] }
  | _ => none }
def FnExactMostShiftWrongFalsely : Prop := fnExactMostShiftRow.holds Try.pinned (OpenSpec.ofChange fnExactMostShiftWrong)

/-- 'laws.FnExactFirmTops': WHATEVER THE INPUT: true; the input reads as it did. -/
def fnExactFirmTopsSpec : ChangeSpec := { name := "fnExactFirmTops", fn := fun _ => fun
  | [d1, d2] => { results := [.lit (.bool true)], args := [d1, d2] }
  | _ => none }
def fnExactFirmTopsRow : OpenClaim := { program := "ytigijeedekjeiaa", sum := "ac3efcc33603da62cbba0326ea620e7d42fd0a5411dc7958f6ccd813fc804158", func := "loop.example/g01159/laws.FnExactFirmTops", spec := "fnExactFirmTops", apart := false }
def FnExactFirmTopsSaid : Prop := fnExactFirmTopsRow.holds Try.pinned (OpenSpec.ofChange fnExactFirmTopsSpec)

/-- ITS FALSE NEIGHBOUR: 'it returns false'. Refute it at one input. -/
def fnExactFirmTopsWrong : ChangeSpec := { name := "fnExactFirmTops", fn := fun _ => fun
  | [d1, d2] => { results := [.lit (.bool false)], args := [d1, d2] }
  | _ => none }
def FnExactFirmTopsWrongFalsely : Prop := fnExactFirmTopsRow.holds Try.pinned (OpenSpec.ofChange fnExactFirmTopsWrong)

/- THE SECOND FORM. 'bulk': how many values and letters a reading holds, each counted each time it is reached (what is shared counts as often as it is met; a slice's spare places count too). A statement '..UptoSaid' is the law's where the arguments, and the package variables that the reading takes, are together of bulk at most 1048576: NARROWER than '..Said'. Prove '..Said' where nothing that the law and all that it calls make is longer than what came in: it says more and counts as full. Else prove '..UptoSaid'. A law counts once. -/
mutual
def uptoBulk {H : Type} : DataW H → Nat
  | .lit (.string bytes) => bytes.length + 1
  | .lit _ => 1
  | .nil => 1
  | .ptr d => uptoBulk d + 1
  | .slice elems spare => uptoBulkAll elems + uptoBulkAll spare + 1
  | .agg parts => uptoBulkAll parts + 1
  | .iface _ d => uptoBulk d + 1
  | .map entries => uptoBulkEntries entries + 1
  | .held _ => 1
def uptoBulkAll {H : Type} : List (DataW H) → Nat
  | [] => 0
  | d :: r => uptoBulk d + uptoBulkAll r
def uptoBulkEntries {H : Type} : List (Lit × DataW H) → Nat
  | [] => 0
  | x :: r => uptoBulkEntry x + uptoBulkEntries r
def uptoBulkEntry {H : Type} : Lit × DataW H → Nat
  | (.string bytes, d) => bytes.length + uptoBulk d + 1
  | (_, d) => uptoBulk d + 1
 end
def uptoSmall : (H : Type) → List (DataW H) → Bool := fun _ ds => decide (uptoBulkAll ds ≤ 1048576)
def OpenSpec.upto (s : _root_.Go.ChangeSpec) : _root_.Go.OpenSpec := { _root_.Go.OpenSpec.ofChange s with cond := some uptoSmall }

/-- 'laws.FnExactOverhangOf', WHERE WHAT IT READS IS OF BULK AT MOST 1048576: true; the input reads as it did. -/
def fnExactOverhangOfUptoRow : OpenClaim := { program := "ytigijeedekjeiaa", sum := "ac3efcc33603da62cbba0326ea620e7d42fd0a5411dc7958f6ccd813fc804158", func := "loop.example/g01159/laws.FnExactOverhangOf", spec := "fnExactOverhangOf", apart := false, narrowed := true }
def FnExactOverhangOfUptoSaid : Prop := fnExactOverhangOfUptoRow.holds Try.pinned (OpenSpec.upto fnExactOverhangOfSpec)

/-- 'laws.FnExactContactOf', WHERE WHAT IT READS IS OF BULK AT MOST 1048576: true; the input reads as it did. -/
def fnExactContactOfUptoRow : OpenClaim := { program := "ytigijeedekjeiaa", sum := "ac3efcc33603da62cbba0326ea620e7d42fd0a5411dc7958f6ccd813fc804158", func := "loop.example/g01159/laws.FnExactContactOf", spec := "fnExactContactOf", apart := false, narrowed := true }
def FnExactContactOfUptoSaid : Prop := fnExactContactOfUptoRow.holds Try.pinned (OpenSpec.upto fnExactContactOfSpec)

/-- 'laws.FnExactDropTop', WHERE WHAT IT READS IS OF BULK AT MOST 1048576: true; the input reads as it did. -/
def fnExactDropTopUptoRow : OpenClaim := { program := "ytigijeedekjeiaa", sum := "ac3efcc33603da62cbba0326ea620e7d42fd0a5411dc7958f6ccd813fc804158", func := "loop.example/g01159/laws.FnExactDropTop", spec := "fnExactDropTop", apart := false, narrowed := true }
def FnExactDropTopUptoSaid : Prop := fnExactDropTopUptoRow.holds Try.pinned (OpenSpec.upto fnExactDropTopSpec)

/-- 'laws.FnExactHoldsBrick', WHERE WHAT IT READS IS OF BULK AT MOST 1048576: true; the input reads as it did. -/
def fnExactHoldsBrickUptoRow : OpenClaim := { program := "ytigijeedekjeiaa", sum := "ac3efcc33603da62cbba0326ea620e7d42fd0a5411dc7958f6ccd813fc804158", func := "loop.example/g01159/laws.FnExactHoldsBrick", spec := "fnExactHoldsBrick", apart := false, narrowed := true }
def FnExactHoldsBrickUptoSaid : Prop := fnExactHoldsBrickUptoRow.holds Try.pinned (OpenSpec.upto fnExactHoldsBrickSpec)

/-- 'laws.FnExactUpperCentre', WHERE WHAT IT READS IS OF BULK AT MOST 1048576: true; the input reads as it did. -/
def fnExactUpperCentreUptoRow : OpenClaim := { program := "ytigijeedekjeiaa", sum := "ac3efcc33603da62cbba0326ea620e7d42fd0a5411dc7958f6ccd813fc804158", func := "loop.example/g01159/laws.FnExactUpperCentre", spec := "fnExactUpperCentre", apart := false, narrowed := true }
def FnExactUpperCentreUptoSaid : Prop := fnExactUpperCentreUptoRow.holds Try.pinned (OpenSpec.upto fnExactUpperCentreSpec)

/-- 'laws.FnExactTopLoad', WHERE WHAT IT READS IS OF BULK AT MOST 1048576: true; the input reads as it did. -/
def fnExactTopLoadUptoRow : OpenClaim := { program := "ytigijeedekjeiaa", sum := "ac3efcc33603da62cbba0326ea620e7d42fd0a5411dc7958f6ccd813fc804158", func := "loop.example/g01159/laws.FnExactTopLoad", spec := "fnExactTopLoad", apart := false, narrowed := true }
def FnExactTopLoadUptoSaid : Prop := fnExactTopLoadUptoRow.holds Try.pinned (OpenSpec.upto fnExactTopLoadSpec)

/-- 'laws.FnExactMirrorPile', WHERE WHAT IT READS IS OF BULK AT MOST 1048576: true; the input reads as it did. -/
def fnExactMirrorPileUptoRow : OpenClaim := { program := "ytigijeedekjeiaa", sum := "ac3efcc33603da62cbba0326ea620e7d42fd0a5411dc7958f6ccd813fc804158", func := "loop.example/g01159/laws.FnExactMirrorPile", spec := "fnExactMirrorPile", apart := false, narrowed := true }
def FnExactMirrorPileUptoSaid : Prop := fnExactMirrorPileUptoRow.holds Try.pinned (OpenSpec.upto fnExactMirrorPileSpec)

/-- 'laws.FnExactHighestLoose', WHERE WHAT IT READS IS OF BULK AT MOST 1048576: true; the input reads as it did. -/
def fnExactHighestLooseUptoRow : OpenClaim := { program := "ytigijeedekjeiaa", sum := "ac3efcc33603da62cbba0326ea620e7d42fd0a5411dc7958f6ccd813fc804158", func := "loop.example/g01159/laws.FnExactHighestLoose", spec := "fnExactHighestLoose", apart := false, narrowed := true }
def FnExactHighestLooseUptoSaid : Prop := fnExactHighestLooseUptoRow.holds Try.pinned (OpenSpec.upto fnExactHighestLooseSpec)

/-- 'laws.FnExactStandsFirm', WHERE WHAT IT READS IS OF BULK AT MOST 1048576: true; the input reads as it did. -/
def fnExactStandsFirmUptoRow : OpenClaim := { program := "ytigijeedekjeiaa", sum := "ac3efcc33603da62cbba0326ea620e7d42fd0a5411dc7958f6ccd813fc804158", func := "loop.example/g01159/laws.FnExactStandsFirm", spec := "fnExactStandsFirm", apart := false, narrowed := true }
def FnExactStandsFirmUptoSaid : Prop := fnExactStandsFirmUptoRow.holds Try.pinned (OpenSpec.upto fnExactStandsFirmSpec)

/-- 'laws.FnExactShiftPile', WHERE WHAT IT READS IS OF BULK AT MOST 1048576: true; the input reads as it did. -/
def fnExactShiftPileUptoRow : OpenClaim := { program := "ytigijeedekjeiaa", sum := "ac3efcc33603da62cbba0326ea620e7d42fd0a5411dc7958f6ccd813fc804158", func := "loop.example/g01159/laws.FnExactShiftPile", spec := "fnExactShiftPile", apart := false, narrowed := true }
def FnExactShiftPileUptoSaid : Prop := fnExactShiftPileUptoRow.holds Try.pinned (OpenSpec.upto fnExactShiftPileSpec)

/-- 'laws.FnExactMostShift', WHERE WHAT IT READS IS OF BULK AT MOST 1048576: true; the input reads as it did. -/
def fnExactMostShiftUptoRow : OpenClaim := { program := "ytigijeedekjeiaa", sum := "ac3efcc33603da62cbba0326ea620e7d42fd0a5411dc7958f6ccd813fc804158", func := "loop.example/g01159/laws.FnExactMostShift", spec := "fnExactMostShift", apart := false, narrowed := true }
def FnExactMostShiftUptoSaid : Prop := fnExactMostShiftUptoRow.holds Try.pinned (OpenSpec.upto fnExactMostShiftSpec)

/-- 'laws.FnExactFirmTops', WHERE WHAT IT READS IS OF BULK AT MOST 1048576: true; the input reads as it did. -/
def fnExactFirmTopsUptoRow : OpenClaim := { program := "ytigijeedekjeiaa", sum := "ac3efcc33603da62cbba0326ea620e7d42fd0a5411dc7958f6ccd813fc804158", func := "loop.example/g01159/laws.FnExactFirmTops", spec := "fnExactFirmTops", apart := false, narrowed := true }
def FnExactFirmTopsUptoSaid : Prop := fnExactFirmTopsUptoRow.holds Try.pinned (OpenSpec.upto fnExactFirmTopsSpec)

end Rows
end Go.Proofs.Ytigijeedekjeiaa

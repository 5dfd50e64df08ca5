/-
  No cell of these rows narrows 'for every input' (looked for: loops, veiled, ifaces, maps, wideKeys, modest, calm, conditions, laid).
  DERIVED. THE GIVEN ROWS OF THIS SEAT. 12 by the template 'for every input the law returns true; each argument reads behind the call as it read before'; 0 by the template 'total and deterministic' (their statements: YtbdajkfihbaapaaTotals.lean).
  GIVEN WITH THE SEED: the statements are not yours to turn. If you find one false, say at which input.
  Laid BY PROGRAM, IN A SANDBOX (cutbox-rows.mjs): the forced cells as the released guide's own fill.sh prints them over the translation d29044a150962287… (all of the seat's roots in one cut). By AI agents, Wed Nov 11 2026. No macro, syntax, notation, axiom, sorry.
-/
import Derived.Test.YtbdajkfihbaapaaChecked
import GoSem.Claim
import GoSem.ClaimJoined
import GoSem.ClaimMapViews
import Derived.JoinedTies
import Derived.KernelRfl
namespace Go.Proofs.Ytbdajkfihbaapaa
/- THE CELL 'sum', in the pinned program and in every row, IS THE sha256 OF THE DUMP (.gsa) THAT YtbdajkfihbaapaaProg.lean LOADS. Nothing in Lean hashes anything: it is a label: what it is worth is what the hold of that sum in a sandbox is worth. -/
noncomputable def Try.pinned : Pinned := { name := "ytbdajkfihbaapaa", sum := "d29044a15096228782bafb61031072b97986ee21c16acfd6a70b5213dd7e2eea", checked := Try.checked }
namespace Rows
def none {H : Type} : Left H := { results := [], args := [] }

/-- 'laws.FnExactIsMobile': WHATEVER THE INPUT: true; the input reads as it did. -/
def fnExactIsMobileSpec : ChangeSpec := { name := "fnExactIsMobile", fn := fun _ => fun
  | [d] => { results := [.lit (.bool true)], args := [d] }
  | _ => none }
def fnExactIsMobileRow : OpenClaim := { program := "ytbdajkfihbaapaa", sum := "d29044a15096228782bafb61031072b97986ee21c16acfd6a70b5213dd7e2eea", func := "loop.example/g01159/laws.FnExactIsMobile", spec := "fnExactIsMobile", apart := false }
def FnExactIsMobileSaid : Prop := fnExactIsMobileRow.holds Try.pinned (OpenSpec.ofChange fnExactIsMobileSpec)

/-- ITS FALSE NEIGHBOUR: 'it returns false'. Refute it at one input. -/
def fnExactIsMobileWrong : ChangeSpec := { name := "fnExactIsMobile", fn := fun _ => fun
  | [d] => { results := [.lit (.bool false)], args := [d] }
  | _ => none }
def FnExactIsMobileWrongFalsely : Prop := fnExactIsMobileRow.holds Try.pinned (OpenSpec.ofChange fnExactIsMobileWrong)

/-- 'laws.FnExactFixLeaf': WHATEVER THE INPUT: true; the input reads as it did. -/
def fnExactFixLeafSpec : ChangeSpec := { name := "fnExactFixLeaf", fn := fun _ => fun
  | [d1, d2, d3] => { results := [.lit (.bool true)], args := [d1, d2, d3] }
  | _ => none }
def fnExactFixLeafRow : OpenClaim := { program := "ytbdajkfihbaapaa", sum := "d29044a15096228782bafb61031072b97986ee21c16acfd6a70b5213dd7e2eea", func := "loop.example/g01159/laws.FnExactFixLeaf", spec := "fnExactFixLeaf", apart := false }
def FnExactFixLeafSaid : Prop := fnExactFixLeafRow.holds Try.pinned (OpenSpec.ofChange fnExactFixLeafSpec)

/-- ITS FALSE NEIGHBOUR: 'it returns false'. Refute it at one input. -/
def fnExactFixLeafWrong : ChangeSpec := { name := "fnExactFixLeaf", fn := fun _ => fun
  | [d1, d2, d3] => { results := [.lit (.bool false)], args := [d1, d2, d3] }
  | _ => none }
def FnExactFixLeafWrongFalsely : Prop := fnExactFixLeafRow.holds Try.pinned (OpenSpec.ofChange fnExactFixLeafWrong)

/-- 'laws.FnExactMirrorMobile': WHATEVER THE INPUT: true; the input reads as it did. -/
def fnExactMirrorMobileSpec : ChangeSpec := { name := "fnExactMirrorMobile", fn := fun _ => fun
  | [d] => { results := [.lit (.bool true)], args := [d] }
  | _ => none }
def fnExactMirrorMobileRow : OpenClaim := { program := "ytbdajkfihbaapaa", sum := "d29044a15096228782bafb61031072b97986ee21c16acfd6a70b5213dd7e2eea", func := "loop.example/g01159/laws.FnExactMirrorMobile", spec := "fnExactMirrorMobile", apart := false }
def FnExactMirrorMobileSaid : Prop := fnExactMirrorMobileRow.holds Try.pinned (OpenSpec.ofChange fnExactMirrorMobileSpec)

/-- ITS FALSE NEIGHBOUR: 'it returns false'. Refute it at one input. -/
def fnExactMirrorMobileWrong : ChangeSpec := { name := "fnExactMirrorMobile", fn := fun _ => fun
  | [d] => { results := [.lit (.bool false)], args := [d] }
  | _ => none }
def FnExactMirrorMobileWrongFalsely : Prop := fnExactMirrorMobileRow.holds Try.pinned (OpenSpec.ofChange fnExactMirrorMobileWrong)

/-- 'laws.FnExactLeavesOf': WHATEVER THE INPUT: true; the input reads as it did. -/
def fnExactLeavesOfSpec : ChangeSpec := { name := "fnExactLeavesOf", fn := fun _ => fun
  | [d] => { results := [.lit (.bool true)], args := [d] }
  | _ => none }
def fnExactLeavesOfRow : OpenClaim := { program := "ytbdajkfihbaapaa", sum := "d29044a15096228782bafb61031072b97986ee21c16acfd6a70b5213dd7e2eea", func := "loop.example/g01159/laws.FnExactLeavesOf", spec := "fnExactLeavesOf", apart := false }
def FnExactLeavesOfSaid : Prop := fnExactLeavesOfRow.holds Try.pinned (OpenSpec.ofChange fnExactLeavesOfSpec)

/-- ITS FALSE NEIGHBOUR: 'it returns false'. Refute it at one input. -/
def fnExactLeavesOfWrong : ChangeSpec := { name := "fnExactLeavesOf", fn := fun _ => fun
  | [d] => { results := [.lit (.bool false)], args := [d] }
  | _ => none }
def FnExactLeavesOfWrongFalsely : Prop := fnExactLeavesOfRow.holds Try.pinned (OpenSpec.ofChange fnExactLeavesOfWrong)

/-- 'laws.FnExactIsLevel': WHATEVER THE INPUT: true; the input reads as it did. -/
def fnExactIsLevelSpec : ChangeSpec := { name := "fnExactIsLevel", fn := fun _ => fun
  | [d] => { results := [.lit (.bool true)], args := [d] }
  | _ => none }
def fnExactIsLevelRow : OpenClaim := { program := "ytbdajkfihbaapaa", sum := "d29044a15096228782bafb61031072b97986ee21c16acfd6a70b5213dd7e2eea", func := "loop.example/g01159/laws.FnExactIsLevel", spec := "fnExactIsLevel", unfollowed := true, recurses := true, apart := false }
def FnExactIsLevelSaid : Prop := fnExactIsLevelRow.holds Try.pinned (OpenSpec.ofChange fnExactIsLevelSpec)

/-- ITS FALSE NEIGHBOUR: 'it returns false'. Refute it at one input. -/
def fnExactIsLevelWrong : ChangeSpec := { name := "fnExactIsLevel", fn := fun _ => fun
  | [d] => { results := [.lit (.bool false)], args := [d] }
  | _ => none }
def FnExactIsLevelWrongFalsely : Prop := fnExactIsLevelRow.holds Try.pinned (OpenSpec.ofChange fnExactIsLevelWrong)

/-- 'laws.FnExactRodWeights': WHATEVER THE INPUT: true; the input reads as it did. -/
def fnExactRodWeightsSpec : ChangeSpec := { name := "fnExactRodWeights", fn := fun _ => fun
  | [d] => { results := [.lit (.bool true)], args := [d] }
  | _ => none }
def fnExactRodWeightsRow : OpenClaim := { program := "ytbdajkfihbaapaa", sum := "d29044a15096228782bafb61031072b97986ee21c16acfd6a70b5213dd7e2eea", func := "loop.example/g01159/laws.FnExactRodWeights", spec := "fnExactRodWeights", apart := false }
def FnExactRodWeightsSaid : Prop := fnExactRodWeightsRow.holds Try.pinned (OpenSpec.ofChange fnExactRodWeightsSpec)

/-- ITS FALSE NEIGHBOUR: 'it returns false'. Refute it at one input. -/
def fnExactRodWeightsWrong : ChangeSpec := { name := "fnExactRodWeights", fn := fun _ => fun
  | [d] => { results := [.lit (.bool false)], args := [d] }
  | _ => none }
def FnExactRodWeightsWrongFalsely : Prop := fnExactRodWeightsRow.holds Try.pinned (OpenSpec.ofChange fnExactRodWeightsWrong)

/-- 'laws.FnExactRodTurns': WHATEVER THE INPUT: true; the input reads as it did. -/
def fnExactRodTurnsSpec : ChangeSpec := { name := "fnExactRodTurns", fn := fun _ => fun
  | [d] => { results := [.lit (.bool true)], args := [d] }
  | _ => none }
def fnExactRodTurnsRow : OpenClaim := { program := "ytbdajkfihbaapaa", sum := "d29044a15096228782bafb61031072b97986ee21c16acfd6a70b5213dd7e2eea", func := "loop.example/g01159/laws.FnExactRodTurns", spec := "fnExactRodTurns", apart := false }
def FnExactRodTurnsSaid : Prop := fnExactRodTurnsRow.holds Try.pinned (OpenSpec.ofChange fnExactRodTurnsSpec)

/-- ITS FALSE NEIGHBOUR: 'it returns false'. Refute it at one input. -/
def fnExactRodTurnsWrong : ChangeSpec := { name := "fnExactRodTurns", fn := fun _ => fun
  | [d] => { results := [.lit (.bool false)], args := [d] }
  | _ => none }
def FnExactRodTurnsWrongFalsely : Prop := fnExactRodTurnsRow.holds Try.pinned (OpenSpec.ofChange fnExactRodTurnsWrong)

/-- 'laws.FnExactLevelArms': WHATEVER THE INPUT: true; the input reads as it did. -/
def fnExactLevelArmsSpec : ChangeSpec := { name := "fnExactLevelArms", fn := fun _ => fun
  | [d] => { results := [.lit (.bool true)], args := [d] }
  | _ => none }
def fnExactLevelArmsRow : OpenClaim := { program := "ytbdajkfihbaapaa", sum := "d29044a15096228782bafb61031072b97986ee21c16acfd6a70b5213dd7e2eea", func := "loop.example/g01159/laws.FnExactLevelArms", spec := "fnExactLevelArms", apart := false }
def FnExactLevelArmsSaid : Prop := fnExactLevelArmsRow.holds Try.pinned (OpenSpec.ofChange fnExactLevelArmsSpec)

/-- ITS FALSE NEIGHBOUR: 'it returns false'. Refute it at one input. -/
def fnExactLevelArmsWrong : ChangeSpec := { name := "fnExactLevelArms", fn := fun _ => fun
  | [d] => { results := [.lit (.bool false)], args := [d] }
  | _ => none }
def FnExactLevelArmsWrongFalsely : Prop := fnExactLevelArmsRow.holds Try.pinned (OpenSpec.ofChange fnExactLevelArmsWrong)

/-- 'laws.FnExactLeafRow': WHATEVER THE INPUT: true; the input reads as it did. -/
def fnExactLeafRowSpec : ChangeSpec := { name := "fnExactLeafRow", fn := fun _ => fun
  | [d1, d2] => { results := [.lit (.bool true)], args := [d1, d2] }
  | _ => none }
def fnExactLeafRowRow : OpenClaim := { program := "ytbdajkfihbaapaa", sum := "d29044a15096228782bafb61031072b97986ee21c16acfd6a70b5213dd7e2eea", func := "loop.example/g01159/laws.FnExactLeafRow", spec := "fnExactLeafRow", unfollowed := true, recurses := true, apart := false }
def FnExactLeafRowSaid : Prop := fnExactLeafRowRow.holds Try.pinned (OpenSpec.ofChange fnExactLeafRowSpec)

/-- ITS FALSE NEIGHBOUR: 'it returns false'. Refute it at one input. -/
def fnExactLeafRowWrong : ChangeSpec := { name := "fnExactLeafRow", fn := fun _ => fun
  | [d1, d2] => { results := [.lit (.bool false)], args := [d1, d2] }
  | _ => none }
def FnExactLeafRowWrongFalsely : Prop := fnExactLeafRowRow.holds Try.pinned (OpenSpec.ofChange fnExactLeafRowWrong)

/-- 'laws.FnExactHangLeaves': WHATEVER THE INPUT: true; the input reads as it did. -/
def fnExactHangLeavesSpec : ChangeSpec := { name := "fnExactHangLeaves", fn := fun _ => fun
  | [d1, d2] => { results := [.lit (.bool true)], args := [d1, d2] }
  | _ => none }
def fnExactHangLeavesRow : OpenClaim := { program := "ytbdajkfihbaapaa", sum := "d29044a15096228782bafb61031072b97986ee21c16acfd6a70b5213dd7e2eea", func := "loop.example/g01159/laws.FnExactHangLeaves", spec := "fnExactHangLeaves", unfollowed := true, recurses := true, apart := false }
def FnExactHangLeavesSaid : Prop := fnExactHangLeavesRow.holds Try.pinned (OpenSpec.ofChange fnExactHangLeavesSpec)

/-- ITS FALSE NEIGHBOUR: 'it returns false'. Refute it at one input. -/
def fnExactHangLeavesWrong : ChangeSpec := { name := "fnExactHangLeaves", fn := fun _ => fun
  | [d1, d2] => { results := [.lit (.bool false)], args := [d1, d2] }
  | _ => none }
def FnExactHangLeavesWrongFalsely : Prop := fnExactHangLeavesRow.holds Try.pinned (OpenSpec.ofChange fnExactHangLeavesWrong)

/-- 'laws.FnExactCutRod': WHATEVER THE INPUT: true; the input reads as it did. -/
def fnExactCutRodSpec : ChangeSpec := { name := "fnExactCutRod", fn := fun _ => fun
  | [d1, d2] => { results := [.lit (.bool true)], args := [d1, d2] }
  | _ => none }
def fnExactCutRodRow : OpenClaim := { program := "ytbdajkfihbaapaa", sum := "d29044a15096228782bafb61031072b97986ee21c16acfd6a70b5213dd7e2eea", func := "loop.example/g01159/laws.FnExactCutRod", spec := "fnExactCutRod", apart := false }
def FnExactCutRodSaid : Prop := fnExactCutRodRow.holds Try.pinned (OpenSpec.ofChange fnExactCutRodSpec)

/-- ITS FALSE NEIGHBOUR: 'it returns false'. Refute it at one input. -/
def fnExactCutRodWrong : ChangeSpec := { name := "fnExactCutRod", fn := fun _ => fun
  | [d1, d2] => { results := [.lit (.bool false)], args := [d1, d2] }
  | _ => none }
def FnExactCutRodWrongFalsely : Prop := fnExactCutRodRow.holds Try.pinned (OpenSpec.ofChange fnExactCutRodWrong)

/-- 'laws.FnExactLevelWeights': WHATEVER THE INPUT: true; the input reads as it did. -/
def fnExactLevelWeightsSpec : ChangeSpec := { name := "fnExactLevelWeights", fn := fun _ => fun
  | [d] => { results := [.lit (.bool true)], args := [d] }
  | _ => none }
def fnExactLevelWeightsRow : OpenClaim := { program := "ytbdajkfihbaapaa", sum := "d29044a15096228782bafb61031072b97986ee21c16acfd6a70b5213dd7e2eea", func := "loop.example/g01159/laws.FnExactLevelWeights", spec := "fnExactLevelWeights", apart := false }
def FnExactLevelWeightsSaid : Prop := fnExactLevelWeightsRow.holds Try.pinned (OpenSpec.ofChange fnExactLevelWeightsSpec)

/-- ITS FALSE NEIGHBOUR: 'it returns false'. Refute it at one input. -/
def fnExactLevelWeightsWrong : ChangeSpec := { name := "fnExactLevelWeights", fn := fun _ => fun
  | [d] => { results := [.lit (.bool false)], args := [d] }
  | _ => none }
def FnExactLevelWeightsWrongFalsely : Prop := fnExactLevelWeightsRow.holds Try.pinned (OpenSpec.ofChange fnExactLevelWeightsWrong)

/- THE SECOND FORM. 'bulk': how many values and letters a reading holds, each counted each time it is reached (what is shared counts as often as it is met; a slice's spare places count too). A statement '..UptoSaid' is the law's where the arguments, and the package variables that the reading takes, are together of bulk at most 1048576: NARROWER than '..Said'. Prove '..Said' where nothing that the law and all that it calls make is longer than what came in: it says more and counts as full. Else prove '..UptoSaid'. A law counts once. -/
mutual
def uptoBulk {H : Type} : DataW H → Nat
  | .lit (.string bytes) => bytes.length + 1
  | .lit _ => 1
  | .nil => 1
  | .ptr d => uptoBulk d + 1
  | .slice elems spare => uptoBulkAll elems + uptoBulkAll spare + 1
  | .agg parts => uptoBulkAll parts + 1
  | .iface _ d => uptoBulk d + 1
  | .map entries => uptoBulkEntries entries + 1
  | .held _ => 1
def uptoBulkAll {H : Type} : List (DataW H) → Nat
  | [] => 0
  | d :: r => uptoBulk d + uptoBulkAll r
def uptoBulkEntries {H : Type} : List (Lit × DataW H) → Nat
  | [] => 0
  | x :: r => uptoBulkEntry x + uptoBulkEntries r
def uptoBulkEntry {H : Type} : Lit × DataW H → Nat
  | (.string bytes, d) => bytes.length + uptoBulk d + 1
  | (_, d) => uptoBulk d + 1
 end
def uptoSmall : (H : Type) → List (DataW H) → Bool := fun _ ds => decide (uptoBulkAll ds ≤ 1048576)
def OpenSpec.upto (s : _root_.Go.ChangeSpec) : _root_.Go.OpenSpec := { _root_.Go.OpenSpec.ofChange s with cond := some uptoSmall }

/-- 'laws.FnExactIsMobile', WHERE WHAT IT READS IS OF BULK AT MOST 1048576: true; the input reads as it did. -/
def fnExactIsMobileUptoRow : OpenClaim := { program := "ytbdajkfihbaapaa", sum := "d29044a15096228782bafb61031072b97986ee21c16acfd6a70b5213dd7e2eea", func := "loop.example/g01159/laws.FnExactIsMobile", spec := "fnExactIsMobile", apart := false, narrowed := true }
def FnExactIsMobileUptoSaid : Prop := fnExactIsMobileUptoRow.holds Try.pinned (OpenSpec.upto fnExactIsMobileSpec)

/-- 'laws.FnExactFixLeaf', WHERE WHAT IT READS IS OF BULK AT MOST 1048576: true; the input reads as it did. -/
def fnExactFixLeafUptoRow : OpenClaim := { program := "ytbdajkfihbaapaa", sum := "d29044a15096228782bafb61031072b97986ee21c16acfd6a70b5213dd7e2eea", func := "loop.example/g01159/laws.FnExactFixLeaf", spec := "fnExactFixLeaf", apart := false, narrowed := true }
def FnExactFixLeafUptoSaid : Prop := fnExactFixLeafUptoRow.holds Try.pinned (OpenSpec.upto fnExactFixLeafSpec)

/-- 'laws.FnExactMirrorMobile', WHERE WHAT IT READS IS OF BULK AT MOST 1048576: true; the input reads as it did. -/
def fnExactMirrorMobileUptoRow : OpenClaim := { program := "ytbdajkfihbaapaa", sum := "d29044a15096228782bafb61031072b97986ee21c16acfd6a70b5213dd7e2eea", func := "loop.example/g01159/laws.FnExactMirrorMobile", spec := "fnExactMirrorMobile", apart := false, narrowed := true }
def FnExactMirrorMobileUptoSaid : Prop := fnExactMirrorMobileUptoRow.holds Try.pinned (OpenSpec.upto fnExactMirrorMobileSpec)

/-- 'laws.FnExactLeavesOf', WHERE WHAT IT READS IS OF BULK AT MOST 1048576: true; the input reads as it did. -/
def fnExactLeavesOfUptoRow : OpenClaim := { program := "ytbdajkfihbaapaa", sum := "d29044a15096228782bafb61031072b97986ee21c16acfd6a70b5213dd7e2eea", func := "loop.example/g01159/laws.FnExactLeavesOf", spec := "fnExactLeavesOf", apart := false, narrowed := true }
def FnExactLeavesOfUptoSaid : Prop := fnExactLeavesOfUptoRow.holds Try.pinned (OpenSpec.upto fnExactLeavesOfSpec)

/-- 'laws.FnExactIsLevel', WHERE WHAT IT READS IS OF BULK AT MOST 1048576: true; the input reads as it did. -/
def fnExactIsLevelUptoRow : OpenClaim := { program := "ytbdajkfihbaapaa", sum := "d29044a15096228782bafb61031072b97986ee21c16acfd6a70b5213dd7e2eea", func := "loop.example/g01159/laws.FnExactIsLevel", spec := "fnExactIsLevel", unfollowed := true, recurses := true, apart := false, narrowed := true }
def FnExactIsLevelUptoSaid : Prop := fnExactIsLevelUptoRow.holds Try.pinned (OpenSpec.upto fnExactIsLevelSpec)

/-- 'laws.FnExactRodWeights', WHERE WHAT IT READS IS OF BULK AT MOST 1048576: true; the input reads as it did. -/
def fnExactRodWeightsUptoRow : OpenClaim := { program := "ytbdajkfihbaapaa", sum := "d29044a15096228782bafb61031072b97986ee21c16acfd6a70b5213dd7e2eea", func := "loop.example/g01159/laws.FnExactRodWeights", spec := "fnExactRodWeights", apart := false, narrowed := true }
def FnExactRodWeightsUptoSaid : Prop := fnExactRodWeightsUptoRow.holds Try.pinned (OpenSpec.upto fnExactRodWeightsSpec)

/-- 'laws.FnExactRodTurns', WHERE WHAT IT READS IS OF BULK AT MOST 1048576: true; the input reads as it did. -/
def fnExactRodTurnsUptoRow : OpenClaim := { program := "ytbdajkfihbaapaa", sum := "d29044a15096228782bafb61031072b97986ee21c16acfd6a70b5213dd7e2eea", func := "loop.example/g01159/laws.FnExactRodTurns", spec := "fnExactRodTurns", apart := false, narrowed := true }
def FnExactRodTurnsUptoSaid : Prop := fnExactRodTurnsUptoRow.holds Try.pinned (OpenSpec.upto fnExactRodTurnsSpec)

/-- 'laws.FnExactLevelArms', WHERE WHAT IT READS IS OF BULK AT MOST 1048576: true; the input reads as it did. -/
def fnExactLevelArmsUptoRow : OpenClaim := { program := "ytbdajkfihbaapaa", sum := "d29044a15096228782bafb61031072b97986ee21c16acfd6a70b5213dd7e2eea", func := "loop.example/g01159/laws.FnExactLevelArms", spec := "fnExactLevelArms", apart := false, narrowed := true }
def FnExactLevelArmsUptoSaid : Prop := fnExactLevelArmsUptoRow.holds Try.pinned (OpenSpec.upto fnExactLevelArmsSpec)

/-- 'laws.FnExactLeafRow', WHERE WHAT IT READS IS OF BULK AT MOST 1048576: true; the input reads as it did. -/
def fnExactLeafRowUptoRow : OpenClaim := { program := "ytbdajkfihbaapaa", sum := "d29044a15096228782bafb61031072b97986ee21c16acfd6a70b5213dd7e2eea", func := "loop.example/g01159/laws.FnExactLeafRow", spec := "fnExactLeafRow", unfollowed := true, recurses := true, apart := false, narrowed := true }
def FnExactLeafRowUptoSaid : Prop := fnExactLeafRowUptoRow.holds Try.pinned (OpenSpec.upto fnExactLeafRowSpec)

/-- 'laws.FnExactHangLeaves', WHERE WHAT IT READS IS OF BULK AT MOST 1048576: true; the input reads as it did. -/
def fnExactHangLeavesUptoRow : OpenClaim := { program := "ytbdajkfihbaapaa", sum := "d29044a15096228782bafb61031072b97986ee21c16acfd6a70b5213dd7e2eea", func := "loop.example/g01159/laws.FnExactHangLeaves", spec := "fnExactHangLeaves", unfollowed := true, recurses := true, apart := false, narrowed := true }
def FnExactHangLeavesUptoSaid : Prop := fnExactHangLeavesUptoRow.holds Try.pinned (OpenSpec.upto fnExactHangLeavesSpec)

/-- 'laws.FnExactCutRod', WHERE WHAT IT READS IS OF BULK AT MOST 1048576: true; the input reads as it did. -/
def fnExactCutRodUptoRow : OpenClaim := { program := "ytbdajkfihbaapaa", sum := "d29044a15096228782bafb61031072b97986ee21c16acfd6a70b5213dd7e2eea", func := "loop.example/g01159/laws.FnExactCutRod", spec := "fnExactCutRod", apart := false, narrowed := true }
def FnExactCutRodUptoSaid : Prop := fnExactCutRodUptoRow.holds Try.pinned (OpenSpec.upto fnExactCutRodSpec)

/-- 'laws.FnExactLevelWeights', WHERE WHAT IT READS IS OF BULK AT MOST 1048576: true; the input reads as it did. -/
def fnExactLevelWeightsUptoRow : OpenClaim := { program := "ytbdajkfihbaapaa", sum := "d29044a15096228782bafb61031072b97986ee21c16acfd6a70b5213dd7e2eea", func := "loop.example/g01159/laws.FnExactLevelWeights", spec := "fnExactLevelWeights", apart := false, narrowed := true }
def FnExactLevelWeightsUptoSaid : Prop := fnExactLevelWeightsUptoRow.holds Try.pinned (OpenSpec.upto fnExactLevelWeightsSpec)

end Rows
end Go.Proofs.Ytbdajkfihbaapaa

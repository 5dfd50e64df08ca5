/-
  No cell of these rows narrows 'for every input' (looked for: loops, veiled, ifaces, maps, wideKeys, modest, calm, conditions, laid).
  DERIVED. THE GIVEN ROWS OF THIS SEAT. 6 by the template 'for every input the law returns true; each argument reads behind the call as it read before'; 0 by the template 'total and deterministic' (their statements: YtjkjipfpgonceaaTotals.lean).
  GIVEN WITH THE SEED: the statements are not yours to turn. If you find one false, say at which input.
  Laid BY PROGRAM, IN A SANDBOX (cutbox-rows.mjs): the forced cells as the released guide's own fill.sh prints them over the translation 7337b9414bcb050c… (all of the seat's roots in one cut). By AI agents, Wed Nov 11 2026. No macro, syntax, notation, axiom, sorry.
-/
import Derived.Test.YtjkjipfpgonceaaChecked
import GoSem.Claim
import GoSem.ClaimJoined
import GoSem.ClaimMapViews
import Derived.JoinedTies
import Derived.KernelRfl
namespace Go.Proofs.Ytjkjipfpgonceaa
/- THE CELL 'sum', in the pinned program and in every row, IS THE sha256 OF THE DUMP (.gsa) THAT YtjkjipfpgonceaaProg.lean LOADS. Nothing in Lean hashes anything: it is a label: what it is worth is what the hold of that sum in a sandbox is worth. -/
noncomputable def Try.pinned : Pinned := { name := "ytjkjipfpgonceaa", sum := "7337b9414bcb050c8063c9218a0608cc9c2a1f1c668009de70257b402a1c92ad", checked := Try.checked }
namespace Rows
def none {H : Type} : Left H := { results := [], args := [] }

/-- 'laws.FnExactIsStage': WHATEVER THE INPUT: true; the input reads as it did. -/
def fnExactIsStageSpec : ChangeSpec := { name := "fnExactIsStage", fn := fun _ => fun
  | [d] => { results := [.lit (.bool true)], args := [d] }
  | _ => none }
def fnExactIsStageRow : OpenClaim := { program := "ytjkjipfpgonceaa", sum := "7337b9414bcb050c8063c9218a0608cc9c2a1f1c668009de70257b402a1c92ad", func := "loop.example/g01159/laws.FnExactIsStage", spec := "fnExactIsStage", apart := false }
def FnExactIsStageSaid : Prop := fnExactIsStageRow.holds Try.pinned (OpenSpec.ofChange fnExactIsStageSpec)

/-- ITS FALSE NEIGHBOUR: 'it returns false'. Refute it at one input. -/
def fnExactIsStageWrong : ChangeSpec := { name := "fnExactIsStage", fn := fun _ => fun
  | [d] => { results := [.lit (.bool false)], args := [d] }
  | _ => none }
def FnExactIsStageWrongFalsely : Prop := fnExactIsStageRow.holds Try.pinned (OpenSpec.ofChange fnExactIsStageWrong)

/-- 'laws.FnExactTurnStage': WHATEVER THE INPUT: true; the input reads as it did. -/
def fnExactTurnStageSpec : ChangeSpec := { name := "fnExactTurnStage", fn := fun _ => fun
  | [d] => { results := [.lit (.bool true)], args := [d] }
  | _ => none }
def fnExactTurnStageRow : OpenClaim := { program := "ytjkjipfpgonceaa", sum := "7337b9414bcb050c8063c9218a0608cc9c2a1f1c668009de70257b402a1c92ad", func := "loop.example/g01159/laws.FnExactTurnStage", spec := "fnExactTurnStage", apart := false }
def FnExactTurnStageSaid : Prop := fnExactTurnStageRow.holds Try.pinned (OpenSpec.ofChange fnExactTurnStageSpec)

/-- ITS FALSE NEIGHBOUR: 'it returns false'. Refute it at one input. -/
def fnExactTurnStageWrong : ChangeSpec := { name := "fnExactTurnStage", fn := fun _ => fun
  | [d] => { results := [.lit (.bool false)], args := [d] }
  | _ => none }
def FnExactTurnStageWrongFalsely : Prop := fnExactTurnStageRow.holds Try.pinned (OpenSpec.ofChange fnExactTurnStageWrong)

/-- 'laws.FnExactLeverRow': WHATEVER THE INPUT: true; the input reads as it did. -/
def fnExactLeverRowSpec : ChangeSpec := { name := "fnExactLeverRow", fn := fun _ => fun
  | [d1, d2, d3] => { results := [.lit (.bool true)], args := [d1, d2, d3] }
  | _ => none }
def fnExactLeverRowRow : OpenClaim := { program := "ytjkjipfpgonceaa", sum := "7337b9414bcb050c8063c9218a0608cc9c2a1f1c668009de70257b402a1c92ad", func := "loop.example/g01159/laws.FnExactLeverRow", spec := "fnExactLeverRow", apart := false }
def FnExactLeverRowSaid : Prop := fnExactLeverRowRow.holds Try.pinned (OpenSpec.ofChange fnExactLeverRowSpec)

/-- ITS FALSE NEIGHBOUR: 'it returns false'. Refute it at one input. -/
def fnExactLeverRowWrong : ChangeSpec := { name := "fnExactLeverRow", fn := fun _ => fun
  | [d1, d2, d3] => { results := [.lit (.bool false)], args := [d1, d2, d3] }
  | _ => none }
def FnExactLeverRowWrongFalsely : Prop := fnExactLeverRowRow.holds Try.pinned (OpenSpec.ofChange fnExactLeverRowWrong)

/-- 'laws.FnExactStageGain': WHATEVER THE INPUT: true; the input reads as it did. -/
def fnExactStageGainSpec : ChangeSpec := { name := "fnExactStageGain", fn := fun _ => fun
  | [d] => { results := [.lit (.bool true)], args := [d] }
  | _ => none }
def fnExactStageGainRow : OpenClaim := { program := "ytjkjipfpgonceaa", sum := "7337b9414bcb050c8063c9218a0608cc9c2a1f1c668009de70257b402a1c92ad", func := "loop.example/g01159/laws.FnExactStageGain", spec := "fnExactStageGain", apart := false }
def FnExactStageGainSaid : Prop := fnExactStageGainRow.holds Try.pinned (OpenSpec.ofChange fnExactStageGainSpec)

/-- ITS FALSE NEIGHBOUR: 'it returns false'. Refute it at one input. -/
def fnExactStageGainWrong : ChangeSpec := { name := "fnExactStageGain", fn := fun _ => fun
  | [d] => { results := [.lit (.bool false)], args := [d] }
  | _ => none }
def FnExactStageGainWrongFalsely : Prop := fnExactStageGainRow.holds Try.pinned (OpenSpec.ofChange fnExactStageGainWrong)

/-- 'laws.FnExactChainGain': WHATEVER THE INPUT: true; the input reads as it did. -/
def fnExactChainGainSpec : ChangeSpec := { name := "fnExactChainGain", fn := fun _ => fun
  | [d] => { results := [.lit (.bool true)], args := [d] }
  | _ => none }
def fnExactChainGainRow : OpenClaim := { program := "ytjkjipfpgonceaa", sum := "7337b9414bcb050c8063c9218a0608cc9c2a1f1c668009de70257b402a1c92ad", func := "loop.example/g01159/laws.FnExactChainGain", spec := "fnExactChainGain", apart := false }
def FnExactChainGainSaid : Prop := fnExactChainGainRow.holds Try.pinned (OpenSpec.ofChange fnExactChainGainSpec)

/-- ITS FALSE NEIGHBOUR: 'it returns false'. Refute it at one input. -/
def fnExactChainGainWrong : ChangeSpec := { name := "fnExactChainGain", fn := fun _ => fun
  | [d] => { results := [.lit (.bool false)], args := [d] }
  | _ => none }
def FnExactChainGainWrongFalsely : Prop := fnExactChainGainRow.holds Try.pinned (OpenSpec.ofChange fnExactChainGainWrong)

/-- 'laws.FnExactLeastPull': WHATEVER THE INPUT: true; the input reads as it did. -/
def fnExactLeastPullSpec : ChangeSpec := { name := "fnExactLeastPull", fn := fun _ => fun
  | [d1, d2] => { results := [.lit (.bool true)], args := [d1, d2] }
  | _ => none }
def fnExactLeastPullRow : OpenClaim := { program := "ytjkjipfpgonceaa", sum := "7337b9414bcb050c8063c9218a0608cc9c2a1f1c668009de70257b402a1c92ad", func := "loop.example/g01159/laws.FnExactLeastPull", spec := "fnExactLeastPull", apart := false }
def FnExactLeastPullSaid : Prop := fnExactLeastPullRow.holds Try.pinned (OpenSpec.ofChange fnExactLeastPullSpec)

/-- ITS FALSE NEIGHBOUR: 'it returns false'. Refute it at one input. -/
def fnExactLeastPullWrong : ChangeSpec := { name := "fnExactLeastPull", fn := fun _ => fun
  | [d1, d2] => { results := [.lit (.bool false)], args := [d1, d2] }
  | _ => none }
def FnExactLeastPullWrongFalsely : Prop := fnExactLeastPullRow.holds Try.pinned (OpenSpec.ofChange fnExactLeastPullWrong)

/- THE SECOND FORM. 'bulk': how many values and letters a reading holds, each counted each time it is reached (what is shared counts as often as it is met; a slice's spare places count too). A statement '..UptoSaid' is the law's where the arguments, and the package variables that the reading takes, are together of bulk at most 1048576: NARROWER than '..Said'. Prove '..Said' where nothing that the law and all that it calls make is longer than what came in: it says more and counts as full. Else prove '..UptoSaid'. A law counts once. -/
mutual
def uptoBulk {H : Type} : DataW H → Nat
  | .lit (.string bytes) => bytes.length + 1
  | .lit _ => 1
  | .nil => 1
  | .ptr d => uptoBulk d + 1
  | .slice elems spare => uptoBulkAll elems + uptoBulkAll spare + 1
  | .agg parts => uptoBulkAll parts + 1
  | .iface _ d => uptoBulk d + 1
  | .map entries => uptoBulkEntries entries + 1
  | .held _ => 1
def uptoBulkAll {H : Type} : List (DataW H) → Nat
  | [] => 0
  | d :: r => uptoBulk d + uptoBulkAll r
def uptoBulkEntries {H : Type} : List (Lit × DataW H) → Nat
  | [] => 0
  | x :: r => uptoBulkEntry x + uptoBulkEntries r
def uptoBulkEntry {H : Type} : Lit × DataW H → Nat
  | (.string bytes, d) => bytes.length + uptoBulk d + 1
  | (_, d) => uptoBulk d + 1
 end
def uptoSmall : (H : Type) → List (DataW H) → Bool := fun _ ds => decide (uptoBulkAll ds ≤ 1048576)
def OpenSpec.upto (s : _root_.Go.ChangeSpec) : _root_.Go.OpenSpec := { _root_.Go.OpenSpec.ofChange s with cond := some uptoSmall }

/-- 'laws.FnExactIsStage', WHERE WHAT IT READS IS OF BULK AT MOST 1048576: true; the input reads as it did. -/
def fnExactIsStageUptoRow : OpenClaim := { program := "ytjkjipfpgonceaa", sum := "7337b9414bcb050c8063c9218a0608cc9c2a1f1c668009de70257b402a1c92ad", func := "loop.example/g01159/laws.FnExactIsStage", spec := "fnExactIsStage", apart := false, narrowed := true }
def FnExactIsStageUptoSaid : Prop := fnExactIsStageUptoRow.holds Try.pinned (OpenSpec.upto fnExactIsStageSpec)

/-- 'laws.FnExactTurnStage', WHERE WHAT IT READS IS OF BULK AT MOST 1048576: true; the input reads as it did. -/
def fnExactTurnStageUptoRow : OpenClaim := { program := "ytjkjipfpgonceaa", sum := "7337b9414bcb050c8063c9218a0608cc9c2a1f1c668009de70257b402a1c92ad", func := "loop.example/g01159/laws.FnExactTurnStage", spec := "fnExactTurnStage", apart := false, narrowed := true }
def FnExactTurnStageUptoSaid : Prop := fnExactTurnStageUptoRow.holds Try.pinned (OpenSpec.upto fnExactTurnStageSpec)

/-- 'laws.FnExactLeverRow', WHERE WHAT IT READS IS OF BULK AT MOST 1048576: true; the input reads as it did. -/
def fnExactLeverRowUptoRow : OpenClaim := { program := "ytjkjipfpgonceaa", sum := "7337b9414bcb050c8063c9218a0608cc9c2a1f1c668009de70257b402a1c92ad", func := "loop.example/g01159/laws.FnExactLeverRow", spec := "fnExactLeverRow", apart := false, narrowed := true }
def FnExactLeverRowUptoSaid : Prop := fnExactLeverRowUptoRow.holds Try.pinned (OpenSpec.upto fnExactLeverRowSpec)

/-- 'laws.FnExactStageGain', WHERE WHAT IT READS IS OF BULK AT MOST 1048576: true; the input reads as it did. -/
def fnExactStageGainUptoRow : OpenClaim := { program := "ytjkjipfpgonceaa", sum := "7337b9414bcb050c8063c9218a0608cc9c2a1f1c668009de70257b402a1c92ad", func := "loop.example/g01159/laws.FnExactStageGain", spec := "fnExactStageGain", apart := false, narrowed := true }
def FnExactStageGainUptoSaid : Prop := fnExactStageGainUptoRow.holds Try.pinned (OpenSpec.upto fnExactStageGainSpec)

/-- 'laws.FnExactChainGain', WHERE WHAT IT READS IS OF BULK AT MOST 1048576: true; the input reads as it did. -/
def fnExactChainGainUptoRow : OpenClaim := { program := "ytjkjipfpgonceaa", sum := "7337b9414bcb050c8063c9218a0608cc9c2a1f1c668009de70257b402a1c92ad", func := "loop.example/g01159/laws.FnExactChainGain", spec := "fnExactChainGain", apart := false, narrowed := true }
def FnExactChainGainUptoSaid : Prop := fnExactChainGainUptoRow.holds Try.pinned (OpenSpec.upto fnExactChainGainSpec)

/-- 'laws.FnExactLeastPull', WHERE WHAT IT READS IS OF BULK AT MOST 1048576: true; the input reads as it did. -/
def fnExactLeastPullUptoRow : OpenClaim := { program := "ytjkjipfpgonceaa", sum := "7337b9414bcb050c8063c9218a0608cc9c2a1f1c668009de70257b402a1c92ad", func := "loop.example/g01159/laws.FnExactLeastPull", spec := "fnExactLeastPull", apart := false, narrowed := true }
def FnExactLeastPullUptoSaid : Prop := fnExactLeastPullUptoRow.holds Try.pinned (OpenSpec.upto fnExactLeastPullSpec)

end Rows
end Go.Proofs.Ytjkjipfpgonceaa

/-
  No cell of these rows narrows 'for every input' (looked for: loops, veiled, ifaces, maps, wideKeys, modest, calm, conditions, laid).
  DERIVED. THE GIVEN ROWS OF THIS SEAT. 4 by the template 'for every input the law returns true; each argument reads behind the call as it read before'; 0 by the template 'total and deterministic' (their statements: YtnnpfekgapikfaaTotals.lean).
  GIVEN WITH THE SEED: the statements are not yours to turn. If you find one false, say at which input.
  Laid BY PROGRAM, IN A SANDBOX (cutbox-rows.mjs): the forced cells as the released guide's own fill.sh prints them over the translation 1952fc89100f7789… (all of the seat's roots in one cut). By AI agents, Wed Nov 11 2026. No macro, syntax, notation, axiom, sorry.
-/
import Derived.Test.YtnnpfekgapikfaaChecked
import GoSem.Claim
import GoSem.ClaimJoined
import GoSem.ClaimMapViews
import Derived.JoinedTies
import Derived.KernelRfl
namespace Go.Proofs.Ytnnpfekgapikfaa
/- THE CELL 'sum', in the pinned program and in every row, IS THE sha256 OF THE DUMP (.gsa) THAT YtnnpfekgapikfaaProg.lean LOADS. Nothing in Lean hashes anything: it is a label: what it is worth is what the hold of that sum in a sandbox is worth. -/
noncomputable def Try.pinned : Pinned := { name := "ytnnpfekgapikfaa", sum := "1952fc89100f7789cde5f95886845a526520092d07e0937ed3e886cf421cf97e", checked := Try.checked }
namespace Rows
def none {H : Type} : Left H := { results := [], args := [] }

/-- 'laws.FnExactGreatestOverhang': WHATEVER THE INPUT: true; the input reads as it did. -/
def fnExactGreatestOverhangSpec : ChangeSpec := { name := "fnExactGreatestOverhang", fn := fun _ => fun
  | [d1, d2] => { results := [.lit (.bool true)], args := [d1, d2] }
  | _ => none }
def fnExactGreatestOverhangRow : OpenClaim := { program := "ytnnpfekgapikfaa", sum := "1952fc89100f7789cde5f95886845a526520092d07e0937ed3e886cf421cf97e", func := "loop.example/g01159/laws.FnExactGreatestOverhang", spec := "fnExactGreatestOverhang", apart := false }
def FnExactGreatestOverhangSaid : Prop := fnExactGreatestOverhangRow.holds Try.pinned (OpenSpec.ofChange fnExactGreatestOverhangSpec)

/-- ITS FALSE NEIGHBOUR: 'it returns false'. Refute it at one input. -/
def fnExactGreatestOverhangWrong : ChangeSpec := { name := "fnExactGreatestOverhang", fn := fun _ => fun
  | [d1, d2] => { results := [.lit (.bool false)], args := [d1, d2] }
  | _ => none }
def FnExactGreatestOverhangWrongFalsely : Prop := fnExactGreatestOverhangRow.holds Try.pinned (OpenSpec.ofChange fnExactGreatestOverhangWrong)

/-- 'laws.FnExactEdgePile': WHATEVER THE INPUT: true; the input reads as it did. -/
def fnExactEdgePileSpec : ChangeSpec := { name := "fnExactEdgePile", fn := fun _ => fun
  | [d1, d2] => { results := [.lit (.bool true)], args := [d1, d2] }
  | _ => none }
def fnExactEdgePileRow : OpenClaim := { program := "ytnnpfekgapikfaa", sum := "1952fc89100f7789cde5f95886845a526520092d07e0937ed3e886cf421cf97e", func := "loop.example/g01159/laws.FnExactEdgePile", spec := "fnExactEdgePile", apart := false }
def FnExactEdgePileSaid : Prop := fnExactEdgePileRow.holds Try.pinned (OpenSpec.ofChange fnExactEdgePileSpec)

/-- ITS FALSE NEIGHBOUR: 'it returns false'. Refute it at one input. -/
def fnExactEdgePileWrong : ChangeSpec := { name := "fnExactEdgePile", fn := fun _ => fun
  | [d1, d2] => { results := [.lit (.bool false)], args := [d1, d2] }
  | _ => none }
def FnExactEdgePileWrongFalsely : Prop := fnExactEdgePileRow.holds Try.pinned (OpenSpec.ofChange fnExactEdgePileWrong)

/-- 'laws.FnPiles': WHATEVER THE INPUT: true; the input reads as it did. -/
def fnPilesSpec : ChangeSpec := { name := "fnPiles", fn := fun _ => fun
  | [d] => { results := [.lit (.bool true)], args := [d] }
  | _ => none }
def fnPilesRow : OpenClaim := { program := "ytnnpfekgapikfaa", sum := "1952fc89100f7789cde5f95886845a526520092d07e0937ed3e886cf421cf97e", func := "loop.example/g01159/laws.FnPiles", spec := "fnPiles", apart := false }
def FnPilesSaid : Prop := fnPilesRow.holds Try.pinned (OpenSpec.ofChange fnPilesSpec)

/-- ITS FALSE NEIGHBOUR: 'it returns false'. Refute it at one input. -/
def fnPilesWrong : ChangeSpec := { name := "fnPiles", fn := fun _ => fun
  | [d] => { results := [.lit (.bool false)], args := [d] }
  | _ => none }
def FnPilesWrongFalsely : Prop := fnPilesRow.holds Try.pinned (OpenSpec.ofChange fnPilesWrong)

/-- 'laws.FnOverhangs': WHATEVER THE INPUT: true; the input reads as it did. -/
def fnOverhangsSpec : ChangeSpec := { name := "fnOverhangs", fn := fun _ => fun
  | [d] => { results := [.lit (.bool true)], args := [d] }
  | _ => none }
def fnOverhangsRow : OpenClaim := { program := "ytnnpfekgapikfaa", sum := "1952fc89100f7789cde5f95886845a526520092d07e0937ed3e886cf421cf97e", func := "loop.example/g01159/laws.FnOverhangs", spec := "fnOverhangs", apart := false }
def FnOverhangsSaid : Prop := fnOverhangsRow.holds Try.pinned (OpenSpec.ofChange fnOverhangsSpec)

/-- ITS FALSE NEIGHBOUR: 'it returns false'. Refute it at one input. -/
def fnOverhangsWrong : ChangeSpec := { name := "fnOverhangs", fn := fun _ => fun
  | [d] => { results := [.lit (.bool false)], args := [d] }
  | _ => none }
def FnOverhangsWrongFalsely : Prop := fnOverhangsRow.holds Try.pinned (OpenSpec.ofChange fnOverhangsWrong)

/- THE SECOND FORM. 'bulk': how many values and letters a reading holds, each counted each time it is reached (what is shared counts as often as it is met; a slice's spare places count too). A statement '..UptoSaid' is the law's where the arguments, and the package variables that the reading takes, are together of bulk at most 1048576: NARROWER than '..Said'. Prove '..Said' where nothing that the law and all that it calls make is longer than what came in: it says more and counts as full. Else prove '..UptoSaid'. A law counts once. -/
mutual
def uptoBulk {H : Type} : DataW H → Nat
  | .lit (.string bytes) => bytes.length + 1
  | .lit _ => 1
  | .nil => 1
  | .ptr d => uptoBulk d + 1
  | .slice elems spare => uptoBulkAll elems + uptoBulkAll spare + 1
  | .agg parts => uptoBulkAll parts + 1
  | .iface _ d => uptoBulk d + 1
  | .map entries => uptoBulkEntries entries + 1
  | .held _ => 1
def uptoBulkAll {H : Type} : List (DataW H) → Nat
  | [] => 0
  | d :: r => uptoBulk d + uptoBulkAll r
def uptoBulkEntries {H : Type} : List (Lit × DataW H) → Nat
  | [] => 0
  | x :: r => uptoBulkEntry x + uptoBulkEntries r
def uptoBulkEntry {H : Type} : Lit × DataW H → Nat
  | (.string bytes, d) => bytes.length + uptoBulk d + 1
  | (_, d) => uptoBulk d + 1
 end
def uptoSmall : (H : Type) → List (DataW H) → Bool := fun _ ds => decide (uptoBulkAll ds ≤ 1048576)
def OpenSpec.upto (s : _root_.Go.ChangeSpec) : _root_.Go.OpenSpec := { _root_.Go.OpenSpec.ofChange s with cond := some uptoSmall }

/-- 'laws.FnExactGreatestOverhang', WHERE WHAT IT READS IS OF BULK AT MOST 1048576: true; the input reads as it did. -/
def fnExactGreatestOverhangUptoRow : OpenClaim := { program := "ytnnpfekgapikfaa", sum := "1952fc89100f7789cde5f95886845a526520092d07e0937ed3e886cf421cf97e", func := "loop.example/g01159/laws.FnExactGreatestOverhang", spec := "fnExactGreatestOverhang", apart := false, narrowed := true }
def FnExactGreatestOverhangUptoSaid : Prop := fnExactGreatestOverhangUptoRow.holds Try.pinned (OpenSpec.upto fnExactGreatestOverhangSpec)

/-- 'laws.FnExactEdgePile', WHERE WHAT IT READS IS OF BULK AT MOST 1048576: true; the input reads as it did. -/
def fnExactEdgePileUptoRow : OpenClaim := { program := "ytnnpfekgapikfaa", sum := "1952fc89100f7789cde5f95886845a526520092d07e0937ed3e886cf421cf97e", func := "loop.example/g01159/laws.FnExactEdgePile", spec := "fnExactEdgePile", apart := false, narrowed := true }
def FnExactEdgePileUptoSaid : Prop := fnExactEdgePileUptoRow.holds Try.pinned (OpenSpec.upto fnExactEdgePileSpec)

/-- 'laws.FnPiles', WHERE WHAT IT READS IS OF BULK AT MOST 1048576: true; the input reads as it did. -/
def fnPilesUptoRow : OpenClaim := { program := "ytnnpfekgapikfaa", sum := "1952fc89100f7789cde5f95886845a526520092d07e0937ed3e886cf421cf97e", func := "loop.example/g01159/laws.FnPiles", spec := "fnPiles", apart := false, narrowed := true }
def FnPilesUptoSaid : Prop := fnPilesUptoRow.holds Try.pinned (OpenSpec.upto fnPilesSpec)

/-- 'laws.FnOverhangs', WHERE WHAT IT READS IS OF BULK AT MOST 1048576: true; the input reads as it did. -/
def fnOverhangsUptoRow : OpenClaim := { program := "ytnnpfekgapikfaa", sum := "1952fc89100f7789cde5f95886845a526520092d07e0937ed3e886cf421cf97e", func := "loop.example/g01159/laws.FnOverhangs", spec := "fnOverhangs", apart := false, narrowed := true }
def FnOverhangsUptoSaid : Prop := fnOverhangsUptoRow.holds Try.pinned (OpenSpec.upto fnOverhangsSpec)

end Rows
end Go.Proofs.Ytnnpfekgapikfaa

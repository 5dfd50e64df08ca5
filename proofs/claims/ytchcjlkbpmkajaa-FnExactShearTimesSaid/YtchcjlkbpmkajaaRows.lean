/-
  No cell of these rows narrows 'for every input' (looked for: loops, veiled, ifaces, maps, wideKeys, modest, calm, conditions, laid).
  DERIVED. THE GIVEN ROWS OF THIS SEAT. 12 by the template 'for every input the law returns true; each argument reads behind the call as it read before'; 0 by the template 'total and deterministic' (their statements: YtchcjlkbpmkajaaTotals.lean).
  GIVEN WITH THE SEED: the statements are not yours to turn. If you find one false, say at which input.
  Laid BY PROGRAM, IN A SANDBOX (cutbox-rows.mjs): the forced cells as the released guide's own fill.sh prints them over the translation 1e5daad6ebef7b33… (all of the seat's roots in one cut). By AI agents, Wed Nov 11 2026. No macro, syntax, notation, axiom, sorry.
-/
import Derived.Test.YtchcjlkbpmkajaaChecked
import GoSem.Claim
import GoSem.ClaimJoined
import GoSem.ClaimMapViews
import Derived.JoinedTies
import Derived.KernelRfl
namespace Go.Proofs.Ytchcjlkbpmkajaa
/- THE CELL 'sum', in the pinned program and in every row, IS THE sha256 OF THE DUMP (.gsa) THAT YtchcjlkbpmkajaaProg.lean LOADS. Nothing in Lean hashes anything: it is a label: what it is worth is what the hold of that sum in a sandbox is worth. -/
noncomputable def Try.pinned : Pinned := { name := "ytchcjlkbpmkajaa", sum := "1e5daad6ebef7b33e9f6531bac4413ab0fce678da8101591151cc895dc6bab61", checked := Try.checked }
namespace Rows
def none {H : Type} : Left H := { results := [], args := [] }

/-- 'laws.FnExactIsBeam': WHATEVER THE INPUT: true; the input reads as it did. -/
def fnExactIsBeamSpec : ChangeSpec := { name := "fnExactIsBeam", fn := fun _ => fun
  | [d] => { results := [.lit (.bool true)], args := [d] }
  | _ => none }
def fnExactIsBeamRow : OpenClaim := { program := "ytchcjlkbpmkajaa", sum := "1e5daad6ebef7b33e9f6531bac4413ab0fce678da8101591151cc895dc6bab61", func := "loop.example/g01159/laws.FnExactIsBeam", spec := "fnExactIsBeam", apart := false }
def FnExactIsBeamSaid : Prop := fnExactIsBeamRow.holds Try.pinned (OpenSpec.ofChange fnExactIsBeamSpec)

/-- ITS FALSE NEIGHBOUR: 'it returns false'. Refute it at one input. -/
def fnExactIsBeamWrong : ChangeSpec := { name := "fnExactIsBeam", fn := fun _ => fun
  | [d] => { results := [.lit (.bool false)], args := [d] }
  | _ => none }
def FnExactIsBeamWrongFalsely : Prop := fnExactIsBeamRow.holds Try.pinned (OpenSpec.ofChange fnExactIsBeamWrong)

/-- 'laws.FnExactMirrorBeam': WHATEVER THE INPUT: true; the input reads as it did. -/
def fnExactMirrorBeamSpec : ChangeSpec := { name := "fnExactMirrorBeam", fn := fun _ => fun
  | [d] => { results := [.lit (.bool true)], args := [d] }
  | _ => none }
def fnExactMirrorBeamRow : OpenClaim := { program := "ytchcjlkbpmkajaa", sum := "1e5daad6ebef7b33e9f6531bac4413ab0fce678da8101591151cc895dc6bab61", func := "loop.example/g01159/laws.FnExactMirrorBeam", spec := "fnExactMirrorBeam", apart := false }
def FnExactMirrorBeamSaid : Prop := fnExactMirrorBeamRow.holds Try.pinned (OpenSpec.ofChange fnExactMirrorBeamSpec)

/-- ITS FALSE NEIGHBOUR: 'it returns false'. Refute it at one input. -/
def fnExactMirrorBeamWrong : ChangeSpec := { name := "fnExactMirrorBeam", fn := fun _ => fun
  | [d] => { results := [.lit (.bool false)], args := [d] }
  | _ => none }
def FnExactMirrorBeamWrongFalsely : Prop := fnExactMirrorBeamRow.holds Try.pinned (OpenSpec.ofChange fnExactMirrorBeamWrong)

/-- 'laws.FnExactIsConvoy': WHATEVER THE INPUT: true; the input reads as it did. -/
def fnExactIsConvoySpec : ChangeSpec := { name := "fnExactIsConvoy", fn := fun _ => fun
  | [d] => { results := [.lit (.bool true)], args := [d] }
  | _ => none }
def fnExactIsConvoyRow : OpenClaim := { program := "ytchcjlkbpmkajaa", sum := "1e5daad6ebef7b33e9f6531bac4413ab0fce678da8101591151cc895dc6bab61", func := "loop.example/g01159/laws.FnExactIsConvoy", spec := "fnExactIsConvoy", apart := false }
def FnExactIsConvoySaid : Prop := fnExactIsConvoyRow.holds Try.pinned (OpenSpec.ofChange fnExactIsConvoySpec)

/-- ITS FALSE NEIGHBOUR: 'it returns false'. Refute it at one input. -/
def fnExactIsConvoyWrong : ChangeSpec := { name := "fnExactIsConvoy", fn := fun _ => fun
  | [d] => { results := [.lit (.bool false)], args := [d] }
  | _ => none }
def FnExactIsConvoyWrongFalsely : Prop := fnExactIsConvoyRow.holds Try.pinned (OpenSpec.ofChange fnExactIsConvoyWrong)

/-- 'laws.FnExactInfluenceOf': WHATEVER THE INPUT: true; the input reads as it did. -/
def fnExactInfluenceOfSpec : ChangeSpec := { name := "fnExactInfluenceOf", fn := fun _ => fun
  | [d1, d2] => { results := [.lit (.bool true)], args := [d1, d2] }
  | _ => none }
def fnExactInfluenceOfRow : OpenClaim := { program := "ytchcjlkbpmkajaa", sum := "1e5daad6ebef7b33e9f6531bac4413ab0fce678da8101591151cc895dc6bab61", func := "loop.example/g01159/laws.FnExactInfluenceOf", spec := "fnExactInfluenceOf", apart := false }
def FnExactInfluenceOfSaid : Prop := fnExactInfluenceOfRow.holds Try.pinned (OpenSpec.ofChange fnExactInfluenceOfSpec)

/-- ITS FALSE NEIGHBOUR: 'it returns false'. Refute it at one input. -/
def fnExactInfluenceOfWrong : ChangeSpec := { name := "fnExactInfluenceOf", fn := fun _ => fun
  | [d1, d2] => { results := [.lit (.bool false)], args := [d1, d2] }
  | _ => none }
def FnExactInfluenceOfWrongFalsely : Prop := fnExactInfluenceOfRow.holds Try.pinned (OpenSpec.ofChange fnExactInfluenceOfWrong)

/-- 'laws.FnExactConvoyRow': WHATEVER THE INPUT: true; the input reads as it did. -/
def fnExactConvoyRowSpec : ChangeSpec := { name := "fnExactConvoyRow", fn := fun _ => fun
  | [d1, d2, d3] => { results := [.lit (.bool true)], args := [d1, d2, d3] }
  | _ => none }
def fnExactConvoyRowRow : OpenClaim := { program := "ytchcjlkbpmkajaa", sum := "1e5daad6ebef7b33e9f6531bac4413ab0fce678da8101591151cc895dc6bab61", func := "loop.example/g01159/laws.FnExactConvoyRow", spec := "fnExactConvoyRow", apart := false }
def FnExactConvoyRowSaid : Prop := fnExactConvoyRowRow.holds Try.pinned (OpenSpec.ofChange fnExactConvoyRowSpec)

/-- ITS FALSE NEIGHBOUR: 'it returns false'. Refute it at one input. -/
def fnExactConvoyRowWrong : ChangeSpec := { name := "fnExactConvoyRow", fn := fun _ => fun
  | [d1, d2, d3] => { results := [.lit (.bool false)], args := [d1, d2, d3] }
  | _ => none }
def FnExactConvoyRowWrongFalsely : Prop := fnExactConvoyRowRow.holds Try.pinned (OpenSpec.ofChange fnExactConvoyRowWrong)

/-- 'laws.FnExactSupportTimes': WHATEVER THE INPUT: true; the input reads as it did. -/
def fnExactSupportTimesSpec : ChangeSpec := { name := "fnExactSupportTimes", fn := fun _ => fun
  | [d1, d2] => { results := [.lit (.bool true)], args := [d1, d2] }
  | _ => none }
def fnExactSupportTimesRow : OpenClaim := { program := "ytchcjlkbpmkajaa", sum := "1e5daad6ebef7b33e9f6531bac4413ab0fce678da8101591151cc895dc6bab61", func := "loop.example/g01159/laws.FnExactSupportTimes", spec := "fnExactSupportTimes", unfollowed := true, recurses := true, apart := false }
def FnExactSupportTimesSaid : Prop := fnExactSupportTimesRow.holds Try.pinned (OpenSpec.ofChange fnExactSupportTimesSpec)

/-- ITS FALSE NEIGHBOUR: 'it returns false'. Refute it at one input. -/
def fnExactSupportTimesWrong : ChangeSpec := { name := "fnExactSupportTimes", fn := fun _ => fun
  | [d1, d2] => { results := [.lit (.bool false)], args := [d1, d2] }
  | _ => none }
def FnExactSupportTimesWrongFalsely : Prop := fnExactSupportTimesRow.holds Try.pinned (OpenSpec.ofChange fnExactSupportTimesWrong)

/-- 'laws.FnExactWorstBend': WHATEVER THE INPUT: true; the input reads as it did. -/
def fnExactWorstBendSpec : ChangeSpec := { name := "fnExactWorstBend", fn := fun _ => fun
  | [d1, d2, d3] => { results := [.lit (.bool true)], args := [d1, d2, d3] }
  | _ => none }
def fnExactWorstBendRow : OpenClaim := { program := "ytchcjlkbpmkajaa", sum := "1e5daad6ebef7b33e9f6531bac4413ab0fce678da8101591151cc895dc6bab61", func := "loop.example/g01159/laws.FnExactWorstBend", spec := "fnExactWorstBend", apart := false }
def FnExactWorstBendSaid : Prop := fnExactWorstBendRow.holds Try.pinned (OpenSpec.ofChange fnExactWorstBendSpec)

/-- ITS FALSE NEIGHBOUR: 'it returns false'. Refute it at one input. -/
def fnExactWorstBendWrong : ChangeSpec := { name := "fnExactWorstBend", fn := fun _ => fun
  | [d1, d2, d3] => { results := [.lit (.bool false)], args := [d1, d2, d3] }
  | _ => none }
def FnExactWorstBendWrongFalsely : Prop := fnExactWorstBendRow.holds Try.pinned (OpenSpec.ofChange fnExactWorstBendWrong)

/-- 'laws.FnExactBendBy': WHATEVER THE INPUT: true; the input reads as it did. -/
def fnExactBendBySpec : ChangeSpec := { name := "fnExactBendBy", fn := fun _ => fun
  | [d1, d2, d3] => { results := [.lit (.bool true)], args := [d1, d2, d3] }
  | _ => none }
def fnExactBendByRow : OpenClaim := { program := "ytchcjlkbpmkajaa", sum := "1e5daad6ebef7b33e9f6531bac4413ab0fce678da8101591151cc895dc6bab61", func := "loop.example/g01159/laws.FnExactBendBy", spec := "fnExactBendBy", unfollowed := true, recurses := true, apart := false }
def FnExactBendBySaid : Prop := fnExactBendByRow.holds Try.pinned (OpenSpec.ofChange fnExactBendBySpec)

/-- ITS FALSE NEIGHBOUR: 'it returns false'. Refute it at one input. -/
def fnExactBendByWrong : ChangeSpec := { name := "fnExactBendBy", fn := fun _ => fun
  | [d1, d2, d3] => { results := [.lit (.bool false)], args := [d1, d2, d3] }
  | _ => none }
def FnExactBendByWrongFalsely : Prop := fnExactBendByRow.holds Try.pinned (OpenSpec.ofChange fnExactBendByWrong)

/-- 'laws.FnExactOutermostPlaces': WHATEVER THE INPUT: true; the input reads as it did. -/
def fnExactOutermostPlacesSpec : ChangeSpec := { name := "fnExactOutermostPlaces", fn := fun _ => fun
  | [d1, d2, d3] => { results := [.lit (.bool true)], args := [d1, d2, d3] }
  | _ => none }
def fnExactOutermostPlacesRow : OpenClaim := { program := "ytchcjlkbpmkajaa", sum := "1e5daad6ebef7b33e9f6531bac4413ab0fce678da8101591151cc895dc6bab61", func := "loop.example/g01159/laws.FnExactOutermostPlaces", spec := "fnExactOutermostPlaces", unfollowed := true, recurses := true, apart := false }
def FnExactOutermostPlacesSaid : Prop := fnExactOutermostPlacesRow.holds Try.pinned (OpenSpec.ofChange fnExactOutermostPlacesSpec)

/-- ITS FALSE NEIGHBOUR: 'it returns false'. Refute it at one input. -/
def fnExactOutermostPlacesWrong : ChangeSpec := { name := "fnExactOutermostPlaces", fn := fun _ => fun
  | [d1, d2, d3] => { results := [.lit (.bool false)], args := [d1, d2, d3] }
  | _ => none }
def FnExactOutermostPlacesWrongFalsely : Prop := fnExactOutermostPlacesRow.holds Try.pinned (OpenSpec.ofChange fnExactOutermostPlacesWrong)

/-- 'laws.FnExactGreatestBend': WHATEVER THE INPUT: true; the input reads as it did. -/
def fnExactGreatestBendSpec : ChangeSpec := { name := "fnExactGreatestBend", fn := fun _ => fun
  | [d1, d2] => { results := [.lit (.bool true)], args := [d1, d2] }
  | _ => none }
def fnExactGreatestBendRow : OpenClaim := { program := "ytchcjlkbpmkajaa", sum := "1e5daad6ebef7b33e9f6531bac4413ab0fce678da8101591151cc895dc6bab61", func := "loop.example/g01159/laws.FnExactGreatestBend", spec := "fnExactGreatestBend", unfollowed := true, recurses := true, apart := false }
def FnExactGreatestBendSaid : Prop := fnExactGreatestBendRow.holds Try.pinned (OpenSpec.ofChange fnExactGreatestBendSpec)

/-- ITS FALSE NEIGHBOUR: 'it returns false'. Refute it at one input. -/
def fnExactGreatestBendWrong : ChangeSpec := { name := "fnExactGreatestBend", fn := fun _ => fun
  | [d1, d2] => { results := [.lit (.bool false)], args := [d1, d2] }
  | _ => none }
def FnExactGreatestBendWrongFalsely : Prop := fnExactGreatestBendRow.holds Try.pinned (OpenSpec.ofChange fnExactGreatestBendWrong)

/-- 'laws.FnExactShearTimes': WHATEVER THE INPUT: true; the input reads as it did. -/
def fnExactShearTimesSpec : ChangeSpec := { name := "fnExactShearTimes", fn := fun _ => fun
  | [d1, d2] => { results := [.lit (.bool true)], args := [d1, d2] }
  | _ => none }
def fnExactShearTimesRow : OpenClaim := { program := "ytchcjlkbpmkajaa", sum := "1e5daad6ebef7b33e9f6531bac4413ab0fce678da8101591151cc895dc6bab61", func := "loop.example/g01159/laws.FnExactShearTimes", spec := "fnExactShearTimes", unfollowed := true, recurses := true, apart := false }
def FnExactShearTimesSaid : Prop := fnExactShearTimesRow.holds Try.pinned (OpenSpec.ofChange fnExactShearTimesSpec)

/-- ITS FALSE NEIGHBOUR: 'it returns false'. Refute it at one input. -/
def fnExactShearTimesWrong : ChangeSpec := { name := "fnExactShearTimes", fn := fun _ => fun
  | [d1, d2] => { results := [.lit (.bool false)], args := [d1, d2] }
  | _ => none }
def FnExactShearTimesWrongFalsely : Prop := fnExactShearTimesRow.holds Try.pinned (OpenSpec.ofChange fnExactShearTimesWrong)

/-- 'laws.FnExactBendTimes': WHATEVER THE INPUT: true; the input reads as it did. -/
def fnExactBendTimesSpec : ChangeSpec := { name := "fnExactBendTimes", fn := fun _ => fun
  | [d1, d2] => { results := [.lit (.bool true)], args := [d1, d2] }
  | _ => none }
def fnExactBendTimesRow : OpenClaim := { program := "ytchcjlkbpmkajaa", sum := "1e5daad6ebef7b33e9f6531bac4413ab0fce678da8101591151cc895dc6bab61", func := "loop.example/g01159/laws.FnExactBendTimes", spec := "fnExactBendTimes", unfollowed := true, recurses := true, apart := false }
def FnExactBendTimesSaid : Prop := fnExactBendTimesRow.holds Try.pinned (OpenSpec.ofChange fnExactBendTimesSpec)

/-- ITS FALSE NEIGHBOUR: 'it returns false'. Refute it at one input. -/
def fnExactBendTimesWrong : ChangeSpec := { name := "fnExactBendTimes", fn := fun _ => fun
  | [d1, d2] => { results := [.lit (.bool false)], args := [d1, d2] }
  | _ => none }
def FnExactBendTimesWrongFalsely : Prop := fnExactBendTimesRow.holds Try.pinned (OpenSpec.ofChange fnExactBendTimesWrong)

/- THE SECOND FORM. 'bulk': how many values and letters a reading holds, each counted each time it is reached (what is shared counts as often as it is met; a slice's spare places count too). A statement '..UptoSaid' is the law's where the arguments, and the package variables that the reading takes, are together of bulk at most 1048576: NARROWER than '..Said'. Prove '..Said' where nothing that the law and all that it calls make is longer than what came in: it says more and counts as full. Else prove '..UptoSaid'. A law counts once. -/
mutual
def uptoBulk {H : Type} : DataW H → Nat
  | .lit (.string bytes) => bytes.length + 1
  | .lit _ => 1
  | .nil => 1
  | .ptr d => uptoBulk d + 1
  | .slice elems spare => uptoBulkAll elems + uptoBulkAll spare + 1
  | .agg parts => uptoBulkAll parts + 1
  | .iface _ d => uptoBulk d + 1
  | .map entries => uptoBulkEntries entries + 1
  | .held _ => 1
def uptoBulkAll {H : Type} : List (DataW H) → Nat
  | [] => 0
  | d :: r => uptoBulk d + uptoBulkAll r
def uptoBulkEntries {H : Type} : List (Lit × DataW H) → Nat
  | [] => 0
  | x :: r => uptoBulkEntry x + uptoBulkEntries r
def uptoBulkEntry {H : Type} : Lit × DataW H → Nat
  | (.string bytes, d) => bytes.length + uptoBulk d + 1
  | (_, d) => uptoBulk d + 1
 end
def uptoSmall : (H : Type) → List (DataW H) → Bool := fun _ ds => decide (uptoBulkAll ds ≤ 1048576)
def OpenSpec.upto (s : _root_.Go.ChangeSpec) : _root_.Go.OpenSpec := { _root_.Go.OpenSpec.ofChange s with cond := some uptoSmall }

/-- 'laws.FnExactIsBeam', WHERE WHAT IT READS IS OF BULK AT MOST 1048576: true; the input reads as it did. -/
def fnExactIsBeamUptoRow : OpenClaim := { program := "ytchcjlkbpmkajaa", sum := "1e5daad6ebef7b33e9f6531bac4413ab0fce678da8101591151cc895dc6bab61", func := "loop.example/g01159/laws.FnExactIsBeam", spec := "fnExactIsBeam", apart := false, narrowed := true }
def FnExactIsBeamUptoSaid : Prop := fnExactIsBeamUptoRow.holds Try.pinned (OpenSpec.upto fnExactIsBeamSpec)

/-- 'laws.FnExactMirrorBeam', WHERE WHAT IT READS IS OF BULK AT MOST 1048576: true; the input reads as it did. -/
def fnExactMirrorBeamUptoRow : OpenClaim := { program := "ytchcjlkbpmkajaa", sum := "1e5daad6ebef7b33e9f6531bac4413ab0fce678da8101591151cc895dc6bab61", func := "loop.example/g01159/laws.FnExactMirrorBeam", spec := "fnExactMirrorBeam", apart := false, narrowed := true }
def FnExactMirrorBeamUptoSaid : Prop := fnExactMirrorBeamUptoRow.holds Try.pinned (OpenSpec.upto fnExactMirrorBeamSpec)

/-- 'laws.FnExactIsConvoy', WHERE WHAT IT READS IS OF BULK AT MOST 1048576: true; the input reads as it did. -/
def fnExactIsConvoyUptoRow : OpenClaim := { program := "ytchcjlkbpmkajaa", sum := "1e5daad6ebef7b33e9f6531bac4413ab0fce678da8101591151cc895dc6bab61", func := "loop.example/g01159/laws.FnExactIsConvoy", spec := "fnExactIsConvoy", apart := false, narrowed := true }
def FnExactIsConvoyUptoSaid : Prop := fnExactIsConvoyUptoRow.holds Try.pinned (OpenSpec.upto fnExactIsConvoySpec)

/-- 'laws.FnExactInfluenceOf', WHERE WHAT IT READS IS OF BULK AT MOST 1048576: true; the input reads as it did. -/
def fnExactInfluenceOfUptoRow : OpenClaim := { program := "ytchcjlkbpmkajaa", sum := "1e5daad6ebef7b33e9f6531bac4413ab0fce678da8101591151cc895dc6bab61", func := "loop.example/g01159/laws.FnExactInfluenceOf", spec := "fnExactInfluenceOf", apart := false, narrowed := true }
def FnExactInfluenceOfUptoSaid : Prop := fnExactInfluenceOfUptoRow.holds Try.pinned (OpenSpec.upto fnExactInfluenceOfSpec)

/-- 'laws.FnExactConvoyRow', WHERE WHAT IT READS IS OF BULK AT MOST 1048576: true; the input reads as it did. -/
def fnExactConvoyRowUptoRow : OpenClaim := { program := "ytchcjlkbpmkajaa", sum := "1e5daad6ebef7b33e9f6531bac4413ab0fce678da8101591151cc895dc6bab61", func := "loop.example/g01159/laws.FnExactConvoyRow", spec := "fnExactConvoyRow", apart := false, narrowed := true }
def FnExactConvoyRowUptoSaid : Prop := fnExactConvoyRowUptoRow.holds Try.pinned (OpenSpec.upto fnExactConvoyRowSpec)

/-- 'laws.FnExactSupportTimes', WHERE WHAT IT READS IS OF BULK AT MOST 1048576: true; the input reads as it did. -/
def fnExactSupportTimesUptoRow : OpenClaim := { program := "ytchcjlkbpmkajaa", sum := "1e5daad6ebef7b33e9f6531bac4413ab0fce678da8101591151cc895dc6bab61", func := "loop.example/g01159/laws.FnExactSupportTimes", spec := "fnExactSupportTimes", unfollowed := true, recurses := true, apart := false, narrowed := true }
def FnExactSupportTimesUptoSaid : Prop := fnExactSupportTimesUptoRow.holds Try.pinned (OpenSpec.upto fnExactSupportTimesSpec)

/-- 'laws.FnExactWorstBend', WHERE WHAT IT READS IS OF BULK AT MOST 1048576: true; the input reads as it did. -/
def fnExactWorstBendUptoRow : OpenClaim := { program := "ytchcjlkbpmkajaa", sum := "1e5daad6ebef7b33e9f6531bac4413ab0fce678da8101591151cc895dc6bab61", func := "loop.example/g01159/laws.FnExactWorstBend", spec := "fnExactWorstBend", apart := false, narrowed := true }
def FnExactWorstBendUptoSaid : Prop := fnExactWorstBendUptoRow.holds Try.pinned (OpenSpec.upto fnExactWorstBendSpec)

/-- 'laws.FnExactBendBy', WHERE WHAT IT READS IS OF BULK AT MOST 1048576: true; the input reads as it did. -/
def fnExactBendByUptoRow : OpenClaim := { program := "ytchcjlkbpmkajaa", sum := "1e5daad6ebef7b33e9f6531bac4413ab0fce678da8101591151cc895dc6bab61", func := "loop.example/g01159/laws.FnExactBendBy", spec := "fnExactBendBy", unfollowed := true, recurses := true, apart := false, narrowed := true }
def FnExactBendByUptoSaid : Prop := fnExactBendByUptoRow.holds Try.pinned (OpenSpec.upto fnExactBendBySpec)

/-- 'laws.FnExactOutermostPlaces', WHERE WHAT IT READS IS OF BULK AT MOST 1048576: true; the input reads as it did. -/
def fnExactOutermostPlacesUptoRow : OpenClaim := { program := "ytchcjlkbpmkajaa", sum := "1e5daad6ebef7b33e9f6531bac4413ab0fce678da8101591151cc895dc6bab61", func := "loop.example/g01159/laws.FnExactOutermostPlaces", spec := "fnExactOutermostPlaces", unfollowed := true, recurses := true, apart := false, narrowed := true }
def FnExactOutermostPlacesUptoSaid : Prop := fnExactOutermostPlacesUptoRow.holds Try.pinned (OpenSpec.upto fnExactOutermostPlacesSpec)

/-- 'laws.FnExactGreatestBend', WHERE WHAT IT READS IS OF BULK AT MOST 1048576: true; the input reads as it did. -/
def fnExactGreatestBendUptoRow : OpenClaim := { program := "ytchcjlkbpmkajaa", sum := "1e5daad6ebef7b33e9f6531bac4413ab0fce678da8101591151cc895dc6bab61", func := "loop.example/g01159/laws.FnExactGreatestBend", spec := "fnExactGreatestBend", unfollowed := true, recurses := true, apart := false, narrowed := true }
def FnExactGreatestBendUptoSaid : Prop := fnExactGreatestBendUptoRow.holds Try.pinned (OpenSpec.upto fnExactGreatestBendSpec)

/-- 'laws.FnExactShearTimes', WHERE WHAT IT READS IS OF BULK AT MOST 1048576: true; the input reads as it did. -/
def fnExactShearTimesUptoRow : OpenClaim := { program := "ytchcjlkbpmkajaa", sum := "1e5daad6ebef7b33e9f6531bac4413ab0fce678da8101591151cc895dc6bab61", func := "loop.example/g01159/laws.FnExactShearTimes", spec := "fnExactShearTimes", unfollowed := true, recurses := true, apart := false, narrowed := true }
def FnExactShearTimesUptoSaid : Prop := fnExactShearTimesUptoRow.holds Try.pinned (OpenSpec.upto fnExactShearTimesSpec)

/-- 'laws.FnExactBendTimes', WHERE WHAT IT READS IS OF BULK AT MOST 1048576: true; the input reads as it did. -/
def fnExactBendTimesUptoRow : OpenClaim := { program := "ytchcjlkbpmkajaa", sum := "1e5daad6ebef7b33e9f6531bac4413ab0fce678da8101591151cc895dc6bab61", func := "loop.example/g01159/laws.FnExactBendTimes", spec := "fnExactBendTimes", unfollowed := true, recurses := true, apart := false, narrowed := true }
def FnExactBendTimesUptoSaid : Prop := fnExactBendTimesUptoRow.holds Try.pinned (OpenSpec.upto fnExactBendTimesSpec)

end Rows
end Go.Proofs.Ytchcjlkbpmkajaa

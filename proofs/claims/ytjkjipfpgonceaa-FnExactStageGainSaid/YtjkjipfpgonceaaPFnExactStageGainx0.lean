/- Printed by the program print2.py over the translation: each function as a Lean function, and the proof that the call comes to its answer. -/
import Derived.Test.YtjkjipfpgonceaaProg
import Derived.Below
import Derived.Deep.Draws
import Derived.Deep.AppendLies
import Derived.Maps.AppendAt
import Derived.OwnWalk
import Derived.Laws.BytesArg
import Derived.Laws.MakeOwn
import Derived.Laws.OwnMore
import Derived.Deep.OwnRows
import Derived.Tactics
import Derived.Lib.ConvBytes
import Derived.Laws.Slices
import Derived.WalkKit
import Derived.KernelRfl
import Derived.RowKit3
import Derived.Deep.LoopGhost
import Derived.Deep.QuietTactic
import Derived.BigQuiet
import Derived.WideLaws
import Derived.Deep.DeepCutAuto
import Derived.Deep.CutBlock
import Derived.Deep.RegionHeld3
import Derived.Laws.Rows
import Derived.Lib.AppendStr
import Derived.ArgAppend
import Derived.Laws.IdiomCopy
import Derived.OrdersHeld
import Derived.Laws.BitsLemmas
import Derived.RowKit
import Derived.Test.YtjkjipfpgonceaaWWords
import Derived.Test.YtjkjipfpgonceaaWLast
import Derived.Test.YtjkjipfpgonceaaWTab
import Derived.Test.YtjkjipfpgonceaaWFour
import Derived.Test.YtjkjipfpgonceaaWQPut
import Derived.Test.YtjkjipfpgonceaaWApart
import Derived.Test.YtjkjipfpgonceaaWArr
import Derived.Test.YtjkjipfpgonceaaWZeros
import Derived.Test.YtjkjipfpgonceaaWFoot
import Derived.Test.YtjkjipfpgonceaaWKept
import Derived.Test.YtjkjipfpgonceaaWShare
import Derived.Test.YtjkjipfpgonceaaWN
import Derived.Test.YtjkjipfpgonceaaWFootNe
import Derived.Test.YtjkjipfpgonceaaWAt
import Derived.Test.YtjkjipfpgonceaaWEqStruct
import Derived.Test.YtjkjipfpgonceaaWRepsOne
import Derived.Test.YtjkjipfpgonceaaWInv
import Derived.Test.YtjkjipfpgonceaaWInvWords
import Derived.Test.YtjkjipfpgonceaaWGuard
import Derived.Test.YtjkjipfpgonceaaWNEv
import Derived.Test.YtjkjipfpgonceaaWMore
namespace Go.Proofs.Ytjkjipfpgonceaa.PFnExactStageGain
open Go.RowKit Go.Proofs.YtjkjipfpgonceaaW.PrintWords Go.Proofs.YtjkjipfpgonceaaW.PrintLast Go.Proofs.YtjkjipfpgonceaaW.PrintMore
attribute [local go_sem] max2_int min2_int max_two min_two max_three min_three max_four min_four   -- for this text's walks alone
set_option linter.unusedVariables false
set_option linter.unusedSimpArgs false



def errW : Option Int → Value
  | none => .nilIface
  | some c => .iface 0 (.int .i64 c)
theorem errW_none : errW none = .nilIface := rfl
theorem errW_some (c : Int) : errW (some c) = .iface 0 (.int .i64 c) := rfl

-- the values' own types

end Go.Proofs.Ytjkjipfpgonceaa.PFnExactStageGain

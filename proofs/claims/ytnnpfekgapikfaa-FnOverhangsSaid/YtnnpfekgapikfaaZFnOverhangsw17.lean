import Derived.Test.YtnnpfekgapikfaaZFnOverhangsw16
import Derived.Test.YtnnpfekgapikfaaZFnOverhangsw12
namespace Go.Proofs.YtnnpfekgapikfaaW.PrintWords
open Go.RowKit
end Go.Proofs.YtnnpfekgapikfaaW.PrintWords
namespace Go.Proofs.YtnnpfekgapikfaaW.PrintLast
section
variable {ops:Array Oper} {a:Act} {o og:Oper} {g:Nat} {t:Tmp} {u:Bool}
end
end Go.Proofs.YtnnpfekgapikfaaW.PrintLast

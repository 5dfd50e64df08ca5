import Derived.Test.YtinlhiakpmcagaaZFnMobilesw16
import Derived.Test.YtinlhiakpmcagaaZFnMobilesw12
namespace Go.Proofs.YtinlhiakpmcagaaW.PrintWords
open Go.RowKit
end Go.Proofs.YtinlhiakpmcagaaW.PrintWords
namespace Go.Proofs.YtinlhiakpmcagaaW.PrintLast
section
variable {ops:Array Oper} {a:Act} {o og:Oper} {g:Nat} {t:Tmp} {u:Bool}
end
end Go.Proofs.YtinlhiakpmcagaaW.PrintLast

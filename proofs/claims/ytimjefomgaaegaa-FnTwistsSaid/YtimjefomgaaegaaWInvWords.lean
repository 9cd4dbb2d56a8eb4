import Derived.Test.YtimjefomgaaegaaWInv
import Derived.Test.YtimjefomgaaegaaWFootNe
namespace Go.Proofs.YtimjefomgaaegaaW.PrintWords
open Go.RowKit
end Go.Proofs.YtimjefomgaaegaaW.PrintWords
namespace Go.Proofs.YtimjefomgaaegaaW.PrintLast
section
variable {ops : Array Oper} {a : Act} {o og : Oper} {g : Nat} {t : Tmp} {u : Bool}
end
end Go.Proofs.YtimjefomgaaegaaW.PrintLast

import Derived.Test.YtepogblkmiidnaaWInv
import Derived.Test.YtepogblkmiidnaaWFootNe
namespace Go.Proofs.YtepogblkmiidnaaW.PrintWords
open Go.RowKit
end Go.Proofs.YtepogblkmiidnaaW.PrintWords
namespace Go.Proofs.YtepogblkmiidnaaW.PrintLast
section
variable {ops : Array Oper} {a : Act} {o og : Oper} {g : Nat} {t : Tmp} {u : Bool}
end
end Go.Proofs.YtepogblkmiidnaaW.PrintLast

import Derived.Test.YtafpbabiahjjaaaGreatDoorWInv
import Derived.Test.YtafpbabiahjjaaaGreatDoorWFootNe
namespace Go.Proofs.YtafpbabiahjjaaaGreatDoorW.PrintWords
open Go.RowKit
end Go.Proofs.YtafpbabiahjjaaaGreatDoorW.PrintWords
namespace Go.Proofs.YtafpbabiahjjaaaGreatDoorW.PrintLast
section
variable {ops : Array Oper} {a : Act} {o og : Oper} {g : Nat} {t : Tmp} {u : Bool}
end
end Go.Proofs.YtafpbabiahjjaaaGreatDoorW.PrintLast

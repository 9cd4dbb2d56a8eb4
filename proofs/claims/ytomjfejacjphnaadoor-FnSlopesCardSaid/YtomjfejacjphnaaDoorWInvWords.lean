import Derived.Test.YtomjfejacjphnaaDoorWInv
import Derived.Test.YtomjfejacjphnaaDoorWFootNe
namespace Go.Proofs.YtomjfejacjphnaaDoorW.PrintWords
open Go.RowKit
end Go.Proofs.YtomjfejacjphnaaDoorW.PrintWords
namespace Go.Proofs.YtomjfejacjphnaaDoorW.PrintLast
section
variable {ops : Array Oper} {a : Act} {o og : Oper} {g : Nat} {t : Tmp} {u : Bool}
end
end Go.Proofs.YtomjfejacjphnaaDoorW.PrintLast

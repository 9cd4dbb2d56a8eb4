import Derived.Test.YtkbkkpgllphdhaaWInv
import Derived.Test.YtkbkkpgllphdhaaWFootNe
namespace Go.Proofs.YtkbkkpgllphdhaaW.PrintWords
open Go.RowKit
end Go.Proofs.YtkbkkpgllphdhaaW.PrintWords
namespace Go.Proofs.YtkbkkpgllphdhaaW.PrintLast
section
variable {ops : Array Oper} {a : Act} {o og : Oper} {g : Nat} {t : Tmp} {u : Bool}
end
end Go.Proofs.YtkbkkpgllphdhaaW.PrintLast

import Derived.Test.YtbchbmfmplfoiaaWInv
import Derived.Test.YtbchbmfmplfoiaaWFootNe
namespace Go.Proofs.YtbchbmfmplfoiaaW.PrintWords
open Go.RowKit
end Go.Proofs.YtbchbmfmplfoiaaW.PrintWords
namespace Go.Proofs.YtbchbmfmplfoiaaW.PrintLast
section
variable {ops : Array Oper} {a : Act} {o og : Oper} {g : Nat} {t : Tmp} {u : Bool}
end
end Go.Proofs.YtbchbmfmplfoiaaW.PrintLast

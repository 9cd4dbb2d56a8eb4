import Derived.Test.YtomjfejacjphnaaDoorProg
import Derived.Below
import Derived.Deep.Draws
import Derived.Deep.AppendLies
import Derived.Maps.AppendAt
import Derived.OwnWalk
import Derived.Laws.BytesArg
import Derived.Laws.MakeOwn
import Derived.Laws.OwnMore
import Derived.Deep.OwnRows
import Derived.Tactics
import Derived.Lib.ConvBytes
import Derived.Laws.Slices
import Derived.WalkKit
import Derived.KernelRfl
import Derived.RowKit3
import Derived.Deep.LoopGhost
import Derived.Deep.QuietTactic
import Derived.BigQuiet
import Derived.WideLaws
import Derived.Deep.DeepCutAuto
import Derived.Deep.CutBlock
import Derived.Deep.RegionHeld3
import Derived.Laws.Rows
import Derived.Lib.AppendStr
import Derived.ArgAppend
import Derived.Laws.IdiomCopy
import Derived.OrdersHeld
import Derived.Deep.RegionLaw
import Derived.Laws.BitsLemmas
import Derived.RowKit
import Derived.Test.YtomjfejacjphnaaDoorWWords
import Derived.Test.YtomjfejacjphnaaDoorWLast
import Derived.Test.YtomjfejacjphnaaDoorWTab
import Derived.Test.YtomjfejacjphnaaDoorWFour
import Derived.Test.YtomjfejacjphnaaDoorWQPut
import Derived.Test.YtomjfejacjphnaaDoorWApart
import Derived.Test.YtomjfejacjphnaaDoorWArr
import Derived.Test.YtomjfejacjphnaaDoorWZeros
import Derived.Test.YtomjfejacjphnaaDoorWFoot
import Derived.Test.YtomjfejacjphnaaDoorWKept
import Derived.Test.YtomjfejacjphnaaDoorWShare
import Derived.Test.YtomjfejacjphnaaDoorWN
import Derived.Test.YtomjfejacjphnaaDoorWFootNe
import Derived.Test.YtomjfejacjphnaaDoorWAt
import Derived.Test.YtomjfejacjphnaaDoorWEqStruct
import Derived.Test.YtomjfejacjphnaaDoorWRepsOne
import Derived.Test.YtomjfejacjphnaaDoorWInv
import Derived.Test.YtomjfejacjphnaaDoorWInvWords
import Derived.Test.YtomjfejacjphnaaDoorWGuard
import Derived.Test.YtomjfejacjphnaaDoorWNEv
import Derived.Test.YtomjfejacjphnaaDoorWMore
namespace Go.Proofs.YtomjfejacjphnaaDoor.PFnSlopes
open Go.RowKit Go.Proofs.YtomjfejacjphnaaDoorW.PrintWords Go.Proofs.YtomjfejacjphnaaDoorW.PrintLast Go.Proofs.YtomjfejacjphnaaDoorW.PrintMore
attribute [local go_sem] max2_int min2_int max_two min_two max_three min_three max_four min_four   -- for this text's walks alone
set_option linter.unusedVariables false
set_option linter.unusedSimpArgs false



def errW : Option Int → Value
 | none => .nilIface
 | some c => .iface 79 (.int .i64 c)
theorem errW_none : errW none = .nilIface := rfl
theorem errW_some (c : Int) : errW (some c) = .iface 79 (.int .i64 c) := rfl

theorem info3 : (Tryd.prog.info? 3).map (fun i => (i.zero, i.size, i.bytes)) = some (some (.int .i64 0), 1, 8) := by kernel_rfl
theorem info5 : (Tryd.prog.info? 5).map (fun i => (i.zero, i.size, i.bytes)) = some (some (.int .u8 0), 1, 1) := by kernel_rfl
theorem info9 : (Tryd.prog.info? 9).map (fun i => (i.zero, i.size, i.bytes)) = some (some (.string ⟨#[]⟩), 1, 16) := by kernel_rfl
-- the values' own types

end Go.Proofs.YtomjfejacjphnaaDoor.PFnSlopes

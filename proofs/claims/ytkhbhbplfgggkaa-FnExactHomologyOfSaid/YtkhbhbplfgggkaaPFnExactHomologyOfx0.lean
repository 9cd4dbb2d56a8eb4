-- PRINTED BY print.sh 35421559b90ae4d0a3588c463048766b98c2df88dd9212a6774a882060cdf62d: not written by this session
import Derived.Test.YtkhbhbplfgggkaaProg
import Derived.Below
import Derived.Deep.Draws
import Derived.Deep.AppendLies
import Derived.Maps.AppendAt
import Derived.OwnWalk
import Derived.Laws.BytesArg
import Derived.Laws.MakeOwn
import Derived.Laws.OwnMore
import Derived.Deep.OwnRows
import Derived.Tactics
import Derived.Lib.ConvBytes
import Derived.Laws.Slices
import Derived.WalkKit
import Derived.KernelRfl
import Derived.RowKit3
import Derived.Deep.LoopGhost
import Derived.Deep.QuietTactic
import Derived.BigQuiet
import Derived.WideLaws
import Derived.Deep.DeepCutAuto
import Derived.Deep.CutBlock
import Derived.Deep.RegionHeld3
import Derived.Laws.Rows
import Derived.Lib.AppendStr
import Derived.ArgAppend
import Derived.Laws.IdiomCopy
import Derived.OrdersHeld
import Derived.Laws.BitsLemmas
import Derived.RowKit
import Derived.Test.YtkhbhbplfgggkaaWWords
import Derived.Test.YtkhbhbplfgggkaaWLast
import Derived.Test.YtkhbhbplfgggkaaWTab
import Derived.Test.YtkhbhbplfgggkaaWFour
import Derived.Test.YtkhbhbplfgggkaaWQPut
import Derived.Test.YtkhbhbplfgggkaaWApart
import Derived.Test.YtkhbhbplfgggkaaWArr
import Derived.Test.YtkhbhbplfgggkaaWZeros
import Derived.Test.YtkhbhbplfgggkaaWFoot
import Derived.Test.YtkhbhbplfgggkaaWKept
import Derived.Test.YtkhbhbplfgggkaaWShare
import Derived.Test.YtkhbhbplfgggkaaWN
import Derived.Test.YtkhbhbplfgggkaaWFootNe
import Derived.Test.YtkhbhbplfgggkaaWAt
import Derived.Test.YtkhbhbplfgggkaaWEqStruct
import Derived.Test.YtkhbhbplfgggkaaWRepsOne
import Derived.Test.YtkhbhbplfgggkaaWInv
import Derived.Test.YtkhbhbplfgggkaaWInvWords
import Derived.Test.YtkhbhbplfgggkaaWGuard
import Derived.Test.YtkhbhbplfgggkaaWNEv
import Derived.Test.YtkhbhbplfgggkaaWMore
namespace Go.Proofs.Ytkhbhbplfgggkaa.PFnExactHomologyOf
open Go.RowKit Go.Proofs.YtkhbhbplfgggkaaW.PrintWords Go.Proofs.YtkhbhbplfgggkaaW.PrintLast Go.Proofs.YtkhbhbplfgggkaaW.PrintMore
attribute [local go_sem] max2_int min2_int max_two min_two max_three min_three max_four min_four   -- for this text's walks alone
set_option linter.unusedVariables false
set_option linter.unusedSimpArgs false



def errW : Option Int → Value
  | none => .nilIface
  | some c => .iface 0 (.int .i64 c)
theorem errW_none : errW none = .nilIface := rfl
theorem errW_some (c : Int) : errW (some c) = .iface 0 (.int .i64 c) := rfl

theorem info3 : (Try.prog.info? 3).map (fun i => (i.zero, i.size, i.bytes)) = some (some (.int .i64 0), 1, 8) := by kernel_rfl
-- the values' own types

end Go.Proofs.Ytkhbhbplfgggkaa.PFnExactHomologyOf

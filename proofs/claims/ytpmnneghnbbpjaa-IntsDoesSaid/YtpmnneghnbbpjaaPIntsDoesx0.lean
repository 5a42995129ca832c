-- PRINTED BY print.sh 35421559b90ae4d0a3588c463048766b98c2df88dd9212a6774a882060cdf62d: not written by this session
import Derived.Test.YtpmnneghnbbpjaaProg
import Derived.Below
import Derived.Deep.Draws
import Derived.Deep.AppendLies
import Derived.Maps.AppendAt
import Derived.OwnWalk
import Derived.Laws.BytesArg
import Derived.Laws.MakeOwn
import Derived.Laws.OwnMore
import Derived.Deep.OwnRows
import Derived.Tactics
import Derived.Lib.ConvBytes
import Derived.Laws.Slices
import Derived.WalkKit
import Derived.KernelRfl
import Derived.RowKit3
import Derived.Deep.LoopGhost
import Derived.Deep.QuietTactic
import Derived.BigQuiet
import Derived.WideLaws
import Derived.Deep.DeepCutAuto
import Derived.Deep.CutBlock
import Derived.Deep.RegionHeld3
import Derived.Laws.Rows
import Derived.Lib.AppendStr
import Derived.ArgAppend
import Derived.Laws.IdiomCopy
import Derived.OrdersHeld
import Derived.Laws.BitsLemmas
import Derived.RowKit
import Derived.Test.YtpmnneghnbbpjaaWWords
import Derived.Test.YtpmnneghnbbpjaaWLast
import Derived.Test.YtpmnneghnbbpjaaWTab
import Derived.Test.YtpmnneghnbbpjaaWFour
import Derived.Test.YtpmnneghnbbpjaaWQPut
import Derived.Test.YtpmnneghnbbpjaaWApart
import Derived.Test.YtpmnneghnbbpjaaWArr
import Derived.Test.YtpmnneghnbbpjaaWZeros
import Derived.Test.YtpmnneghnbbpjaaWFoot
import Derived.Test.YtpmnneghnbbpjaaWKept
import Derived.Test.YtpmnneghnbbpjaaWShare
import Derived.Test.YtpmnneghnbbpjaaWN
import Derived.Test.YtpmnneghnbbpjaaWFootNe
import Derived.Test.YtpmnneghnbbpjaaWAt
import Derived.Test.YtpmnneghnbbpjaaWEqStruct
import Derived.Test.YtpmnneghnbbpjaaWRepsOne
import Derived.Test.YtpmnneghnbbpjaaWInv
import Derived.Test.YtpmnneghnbbpjaaWInvWords
import Derived.Test.YtpmnneghnbbpjaaWGuard
import Derived.Test.YtpmnneghnbbpjaaWNEv
import Derived.Test.YtpmnneghnbbpjaaWMore
namespace Go.Proofs.Ytpmnneghnbbpjaa.PIntsDoes
open Go.RowKit Go.Proofs.YtpmnneghnbbpjaaW.PrintWords Go.Proofs.YtpmnneghnbbpjaaW.PrintLast Go.Proofs.YtpmnneghnbbpjaaW.PrintMore
attribute [local go_sem] max2_int min2_int max_two min_two max_three min_three max_four min_four   -- for this text's walks alone
set_option linter.unusedVariables false
set_option linter.unusedSimpArgs false



def errW : Option Int → Value
  | none => .nilIface
  | some c => .iface 0 (.int .i64 c)
theorem errW_none : errW none = .nilIface := rfl
theorem errW_some (c : Int) : errW (some c) = .iface 0 (.int .i64 c) := rfl

-- the values' own types

end Go.Proofs.Ytpmnneghnbbpjaa.PIntsDoes

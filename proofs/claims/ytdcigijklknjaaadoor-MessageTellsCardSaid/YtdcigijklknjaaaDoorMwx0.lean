/- Each theorem X.calls below says: where the Lean function X.f answers, the Go function X returns that answer, and whatever lay in memory before the call is left as it was. -/
import Derived.Test.YtdcigijklknjaaaDoorProg
import Derived.Below
import Derived.Deep.Draws
import Derived.Deep.AppendLies
import Derived.Maps.AppendAt
import Derived.OwnWalk
import Derived.Laws.BytesArg
import Derived.Laws.MakeOwn
import Derived.Laws.OwnMore
import Derived.Deep.OwnRows
import Derived.Tactics
import Derived.Lib.ConvBytes
import Derived.Laws.Slices
import Derived.WalkKit
import Derived.KernelRfl
import Derived.RowKit3
import Derived.Deep.LoopGhost
import Derived.Deep.QuietTactic
import Derived.BigQuiet
import Derived.WideLaws
import Derived.Deep.DeepCutAuto
import Derived.Deep.CutBlock
import Derived.Deep.RegionHeld3
import Derived.Laws.Rows
import Derived.Lib.AppendStr
import Derived.ArgAppend
import Derived.Laws.IdiomCopy
import Derived.OrdersHeld
import Derived.Laws.BitsLemmas
import Derived.RowKit
import Derived.ChangeKeysEq
import Derived.Shelf.Strings.SlTrimAscii
import Derived.Test.YtdcigijklknjaaaDoorTabs
import Derived.Test.YtdcigijklknjaaaDoorTextB
import Derived.Test.YtdcigijklknjaaaDoorWWords
import Derived.Test.YtdcigijklknjaaaDoorWLast
import Derived.Test.YtdcigijklknjaaaDoorWTab
import Derived.Test.YtdcigijklknjaaaDoorWFour
import Derived.Test.YtdcigijklknjaaaDoorWQPut
import Derived.Test.YtdcigijklknjaaaDoorWApart
import Derived.Test.YtdcigijklknjaaaDoorWArr
import Derived.Test.YtdcigijklknjaaaDoorWZeros
import Derived.Test.YtdcigijklknjaaaDoorWFoot
import Derived.Test.YtdcigijklknjaaaDoorWKept
import Derived.Test.YtdcigijklknjaaaDoorWShare
import Derived.Test.YtdcigijklknjaaaDoorWN
import Derived.Test.YtdcigijklknjaaaDoorWFootNe
import Derived.Test.YtdcigijklknjaaaDoorWAt
import Derived.Test.YtdcigijklknjaaaDoorWEqStruct
import Derived.Test.YtdcigijklknjaaaDoorWRepsOne
import Derived.Test.YtdcigijklknjaaaDoorWInv
import Derived.Test.YtdcigijklknjaaaDoorWInvWords
import Derived.Test.YtdcigijklknjaaaDoorWGuard
import Derived.Test.YtdcigijklknjaaaDoorWNEv
import Derived.Test.YtdcigijklknjaaaDoorWMore
namespace Go.Proofs.YtdcigijklknjaaaDoor.Mw
open Go.RowKit Go.Proofs.YtdcigijklknjaaaDoorW.PrintWords Go.Proofs.YtdcigijklknjaaaDoorW.PrintLast Go.Proofs.YtdcigijklknjaaaDoorW.PrintMore
attribute [local go_sem] max2_int min2_int max_two min_two max_three min_three max_four min_four   -- for this text's walks alone
set_option linter.unusedVariables false
set_option linter.unusedSimpArgs false



def errW : Option Int → Value
  | none => .nilIface
  | some c => .iface 0 (.int .i64 c)
theorem errW_none : errW none = .nilIface := rfl
theorem errW_some (c : Int) : errW (some c) = .iface 0 (.int .i64 c) := rfl

section
variable {P : Program} {d c i n : Nat} {xs ys : Array Value} {e : TypeId} {is : List Nat} {a b : Value} {r s : Bool} {w : World}
theorem eqi_last (ha : (part e xs (i * c)).run P w = .ok a w) (hb : (part e ys (i * c)).run P w = .ok b w) (he : (Op.equalIn d e a b).run P w = .ok r w) : (Op.eqItems d e c xs ys [i]).run P w = .ok r w := by
  simp only [Op.eqItems, Sem.run_bind, ha, hb, he, Result.andThen_ok]
  cases r <;> simp
theorem eqi_cons (ha : (part e xs (i * c)).run P w = .ok a w) (hb : (part e ys (i * c)).run P w = .ok b w) (he : (Op.equalIn d e a b).run P w = .ok r w) (hr : (Op.eqItems d e c xs ys is).run P w = .ok s w) : (Op.eqItems d e c xs ys (i :: is)).run P w = .ok (r && s) w := by
  rw [Op.eqItems]
  simp only [Sem.run_bind, ha, hb, he, Result.andThen_ok]
  cases r
  · simp
  · simpa using hr
theorem eqA_arr {t : TypeId} {i0 : TypeInfo} (hu : P.underlying t = some (.array n e)) (hi : P.info? e = some i0) (hn : List.range n = is) (h : (Op.eqItems d e (P.cellsOf e) xs ys is).run P w = .ok r w) : (Op.equalIn (d + 1) t (.agg xs) (.agg ys)).run P w = .ok r w := by
  rw [run_equalIn_array (P := P) w d xs ys hu hi, hn]
  exact h
end

theorem info2 : (Tryd.prog.info? 2).map (fun i => (i.zero, i.size, i.bytes)) = some (some (.int .i64 0), 1, 8) := by kernel_rfl
theorem info5 : (Tryd.prog.info? 5).map (fun i => (i.zero, i.size, i.bytes)) = some (some (.int .u8 0), 1, 1) := by kernel_rfl
theorem info9 : (Tryd.prog.info? 9).map (fun i => (i.zero, i.size, i.bytes)) = some (some (.string ⟨#[]⟩), 1, 16) := by kernel_rfl
-- the values' own types

end Go.Proofs.YtdcigijklknjaaaDoor.Mw

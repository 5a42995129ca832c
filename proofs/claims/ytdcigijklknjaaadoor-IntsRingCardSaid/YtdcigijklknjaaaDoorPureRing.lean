/- The laws IntsRing and IntsOrder, about whole numbers alone; then each law's walk with them. -/
import Derived.Test.YtdcigijklknjaaaDoorRing
import Derived.Test.YtdcigijklknjaaaDoorPureWritten
namespace Go.Proofs.YtdcigijklknjaaaDoor.PureRing
open Go.RowKit Go.Proofs.YtdcigijklknjaaaDoor.My Go.Proofs.YtdcigijklknjaaaDoor.PureInts Go.Proofs.YtdcigijklknjaaaDoorW.PrintWords Go.Proofs.YtdcigijklknjaaaDoorW.PrintLast Go.Proofs.YtdcigijklknjaaaDoorW.PrintMore

theorem add_l (x y : Int) : wrap64 (wrap64 x + y) = wrap64 (x + y) := by unfold wrap64; omega
theorem add_r (x y : Int) : wrap64 (x + wrap64 y) = wrap64 (x + y) := by unfold wrap64; omega
theorem mul_r (a x : Int) : wrap64 (a * wrap64 x) = wrap64 (a * x) := by
  have : wrap64 x = x - 18446744073709551616 * ((x + 9223372036854775808) / 18446744073709551616) := by unfold wrap64; omega
  rw [this, Int.mul_sub, Int.mul_left_comm]
  unfold wrap64
  omega
theorem mul_l (a x : Int) : wrap64 (wrap64 x * a) = wrap64 (x * a) := by rw [Int.mul_comm, mul_r, Int.mul_comm]
theorem beq_of {x y : Int} (h : x = y) : (x == y) = true := beq_iff_eq.2 h

theorem ring_walk (a b c : Int) (w : World) (h0 : (Lit.int .i64 a).wf = true) (_h1 : (Lit.int .i64 b).wf = true) (_h2 : (Lit.int .i64 c).wf = true) (hT : TabG w) :
    Calls Tryd.prog 8 #[.int .i64 a, .int .i64 b, .int .i64 c] w fun e w' => e = .returned (.bool true) ∧ Below w.heap.size w w' :=
  ring.calls a b c _ _ _ _ _ _ _ _ _ _ _ _ _ _ _ _ _ _ w hT PureWritten.alive_eq rfl rfl rfl rfl rfl rfl rfl rfl rfl rfl rfl rfl rfl rfl rfl rfl rfl rfl
    (beq_of (by rw [Int.add_comm]))
    (beq_of (by rw [add_l, add_r, Int.add_assoc]))
    (beq_of (by rw [Int.mul_comm]))
    (beq_of (by rw [mul_l, mul_r, Int.mul_assoc]))
    (beq_of (by rw [add_r, Int.sub_eq_add_neg]))
    (beq_of (by rw [mul_l, add_l, add_r, Int.add_mul]))
    (beq_of (by rw [Int.add_zero, wrap_in _ (of_wf h0)]))
    (beq_of (by rw [Int.mul_one, wrap_in _ (of_wf h0)]))
end Go.Proofs.YtdcigijklknjaaaDoor.PureRing

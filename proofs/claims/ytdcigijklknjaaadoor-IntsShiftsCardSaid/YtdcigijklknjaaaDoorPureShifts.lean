/- The law IntsShifts, about whole numbers alone; then its walk with it. -/
import Derived.Test.YtdcigijklknjaaaDoorShifts1
import Derived.Test.YtdcigijklknjaaaDoorShifts2
import Derived.Test.YtdcigijklknjaaaDoorShifts3
import Derived.Test.YtdcigijklknjaaaDoorShifts4
import Derived.Test.YtdcigijklknjaaaDoorShifts5
import Derived.Test.YtdcigijklknjaaaDoorPureWritten
namespace Go.Proofs.YtdcigijklknjaaaDoor.PureShifts
open Go.RowKit Go.Proofs.YtdcigijklknjaaaDoor.My Go.Proofs.YtdcigijklknjaaaDoor.PureInts Go.Proofs.YtdcigijklknjaaaDoorW.PrintWords Go.Proofs.YtdcigijklknjaaaDoorW.PrintLast Go.Proofs.YtdcigijklknjaaaDoorW.PrintMore

theorem and63 (n : Int) : bits .and .i64 n 63 = n % 64 := by
  have h63 : (BitVec.ofInt 64 63).toNat = 2 ^ 6 - 1 := by decide
  have key : (BitVec.ofInt 64 n &&& BitVec.ofInt 64 63).toNat = (n % ((2 ^ 64 : Nat) : Int)).toNat % 2 ^ 6 := by
    rw [BitVec.toNat_and, BitVec.toNat_ofInt, h63, Nat.and_two_pow_sub_one_eq_mod]
  show IntKind.i64.wrap ((BitVec.ofInt 64 n &&& BitVec.ofInt 64 63).toNat : Nat) = n % 64
  rw [key, IntKind.wrap_i64]
  omega
theorem mul_r (a x : Int) : wrap64 (a * wrap64 x) = wrap64 (a * x) := by
  have : wrap64 x = x - 18446744073709551616 * ((x + 9223372036854775808) / 18446744073709551616) := by unfold wrap64; omega
  rw [this, Int.mul_sub, Int.mul_left_comm]
  unfold wrap64
  omega
theorem shl_eq (x n : Int) (h : n ≤ 63) : shl .i64 x n = wrap64 (x * 2 ^ n.toNat) := by
  have hb : IntKind.i64.bits = 64 := rfl
  unfold shl
  rw [Nat.min_eq_left (by omega)]
  exact i64_w _
theorem shr_eq (x n : Int) (h : n ≤ 63) : shr .i64 x n = x / 2 ^ n.toNat := by
  have hb : IntKind.i64.bits = 64 := rfl
  unfold shr
  rw [Nat.min_eq_left (by omega)]
theorem do10 (a b : Int) : ints_Do.f 10 a b = some (wrap64 (a * 2 ^ (b % 64).toNat), 0) := by
  show (if 0 ≤ (Go.bits .and .i64 b 63) then some (shl .i64 a (Go.bits .and .i64 b 63), (0 : Int)) else none) = _
  rw [and63, if_pos (by omega), shl_eq _ _ (by omega)]
theorem do11 (a b : Int) : ints_Do.f 11 a b = some (a / 2 ^ (b % 64).toNat, 0) := by
  show (if 0 ≤ (Go.bits .and .i64 b 63) then some (shr .i64 a (Go.bits .and .i64 b 63), (0 : Int)) else none) = _
  rw [and63, if_pos (by omega), shr_eq _ _ (by omega)]
theorem pow_le' (m : Nat) (h : m ≤ 62) : (2 : Int) ^ m ≤ 4611686018427387904 :=
  (by decide +kernel : ∀ m : Fin 63, (2 : Int) ^ m.val ≤ 4611686018427387904) ⟨m, by omega⟩
theorem wrap_pow (P : Int) (h0 : 0 < P) (h1 : P ≤ 4611686018427387904) : wrap64 P = P ∧ wrap64 (-P) = -P := ⟨wrap_in _ (by omega), wrap_in _ (by omega)⟩
theorem pow_pos' (n : Nat) : (0 : Int) < 2 ^ n := Int.pow_pos (by decide)
theorem eqs {x y : Int} (h : x = y) : (x == y) = true ∧ (x != y) = false := ⟨beq_iff_eq.2 h, bne_eq_false_iff_eq.2 h⟩
theorem nes {x y : Int} (h : ¬ x = y) : (x == y) = false ∧ (x != y) = true := ⟨beq_eq_false_iff_ne.2 h, bne_iff_ne.2 h⟩

theorem shifts_walk (a b : Int) (w : World) (h0 : (Lit.int .i64 a).wf = true) (_h1 : (Lit.int .i64 b).wf = true) (hT : TabG w) :
    Calls Tryd.prog 9 #[.int .i64 a, .int .i64 b] w fun e w' => e = .returned (.bool true) ∧ Below w.heap.size w w' := by
  have ra := of_wf h0
  have hN := and63 b
  have hm : wrap64 (b + 64) % 64 = b % 64 := by unfold wrap64; omega
  have hn : bits .and .i64 b 63 % 64 = b % 64 := by rw [hN]; omega
  have D2 := do10 1 (bits .and .i64 b 63)
  have D6 := do10 a (wrap64 (b + 64))
  have D7 := do11 a (wrap64 (b + 64))
  rw [hm] at D6 D7
  rw [hn] at D2
  have E0 : wrap64 (a * 2 ^ (b % 64).toNat) = wrap64 (a * wrap64 (1 * 2 ^ (b % 64).toNat)) := by rw [mul_r, Int.one_mul]
  have c0 : (0 : Int) ≤ wrap64 (62 - min (bits .and .i64 b 63) 62) := by rw [hN]; unfold wrap64; omega
  have hlim : shl .i64 1 (wrap64 (62 - min (bits .and .i64 b 63) 62)) = 2 ^ (62 - (b % 64)).toNat := by
    rw [hN]
    have e : wrap64 (62 - min (b % 64) 62) = ((62 - (b % 64)).toNat : Int) := by unfold wrap64; omega
    rw [e, shl_eq _ _ (by omega), Int.one_mul, Int.toNat_natCast]
    exact (wrap_pow _ (pow_pos' _) (pow_le' _ (by omega))).1
  have l3 : IntKind.i64.wrap (1 * 2 ^ min (wrap64 (62 - min (bits .and .i64 b 63) 62)).toNat 64) = 2 ^ (62 - (b % 64)).toNat := hlim
  have l4 : IntKind.i64.wrap (2 ^ min (wrap64 (62 - min (bits .and .i64 b 63) 62)).toNat 64) = 2 ^ (62 - (b % 64)).toNat := by rw [← l3, Int.one_mul]
  have l5 : wrap64 (1 * 2 ^ min (wrap64 (62 - min (bits .and .i64 b 63) 62)).toNat 64) = 2 ^ (62 - (b % 64)).toNat := (i64_w _).symm.trans l3
  have l6 : wrap64 (2 ^ min (wrap64 (62 - min (bits .and .i64 b 63) 62)).toNat 64) = 2 ^ (62 - (b % 64)).toNat := (i64_w _).symm.trans l4
  have hneg : wrap64 (-(2 : Int) ^ (62 - b % 64).toNat) = -(2 : Int) ^ (62 - b % 64).toNat := (wrap_pow _ (pow_pos' _) (pow_le' _ (by omega))).2
  have sg : (decide (a / 2 ^ (b % 64).toNat < 0) == decide (a < 0)) = true := by
    have hq := pow_pos' (b % 64).toNat
    by_cases h : a < 0
    · rw [decide_eq_true h, decide_eq_true (Int.ediv_neg_of_neg_of_pos h hq)]; rfl
    · have := Int.ediv_nonneg (a := a) (b := 2 ^ (b % 64).toNat) (by omega) (by omega)
      rw [decide_eq_false h, decide_eq_false (by omega)]; rfl
  have bk (h : -9223372036854775808 ≤ a * 2 ^ (b % 64).toNat ∧ a * 2 ^ (b % 64).toNat ≤ 9223372036854775807) : (wrap64 (a * 2 ^ (b % 64).toNat) / 2 ^ (b % 64).toNat == a) = true := by
    have hq := pow_pos' (b % 64).toNat
    rw [wrap_in _ h, Int.mul_ediv_cancel _ (by omega)]
    exact beq_self_eq_true a
  by_cases hz : b % 64 = 0
  · have z : bits .and .i64 b 63 = 0 := by rw [hN, hz]
    exact shifts1.calls a b _ _ _ _ _ _ _ _ _ w hT PureWritten.alive_eq (do10 a b) (do11 a b) D2 rfl (do11 _ b) rfl D6 D7 (eqs E0).1 (eqs E0).2 (eqs rfl).1 (eqs rfl).2 (eqs rfl).1 (eqs rfl).2
      (decide_eq_true c0) (eq_true c0) hlim l3 l4 l5 l6 (eqs z).1 (eqs z).2 (bk (by rw [hz]; simp; omega))
  · have z : ¬ bits .and .i64 b 63 = 0 := by rw [hN]; exact hz
    by_cases h63 : b % 64 < 63
    · by_cases hlo : -(2 : Int) ^ (62 - b % 64).toNat ≤ a
      · by_cases hhi : a < 2 ^ (62 - b % 64).toNat
        · have hprod : (2 : Int) ^ (62 - b % 64).toNat * 2 ^ (b % 64).toNat = 4611686018427387904 := by
            rw [← Int.pow_add, show (62 - b % 64).toNat + (b % 64).toNat = 62 by omega]; rfl
          have hq := pow_pos' (b % 64).toNat
          have m1 := Int.mul_le_mul_of_nonneg_right (c := 2 ^ (b % 64).toNat) hlo (by omega)
          have m2 := Int.mul_le_mul_of_nonneg_right (c := 2 ^ (b % 64).toNat) (Int.le_of_lt hhi) (by omega)
          rw [Int.neg_mul, hprod] at m1
          rw [hprod] at m2
          exact shifts2.calls a b _ _ _ _ _ _ _ _ _ w hT PureWritten.alive_eq (do10 a b) (do11 a b) D2 rfl (do11 _ b) rfl D6 D7 (eqs E0).1 (eqs E0).2 (eqs rfl).1 (eqs rfl).2 (eqs rfl).1 (eqs rfl).2
            (decide_eq_true c0) (eq_true c0) hlim l3 l4 l5 l6 (nes z).1 (nes z).2 (decide_eq_true (by rw [hN]; exact h63)) (decide_eq_true (by rw [hneg]; exact hlo)) (decide_eq_true hhi) (bk (by omega))
        · exact shifts3.calls a b _ _ _ _ _ _ _ _ _ w hT PureWritten.alive_eq (do10 a b) (do11 a b) D2 rfl (do11 _ b) rfl D6 D7 (eqs E0).1 (eqs E0).2 (eqs rfl).1 (eqs rfl).2 (eqs rfl).1 (eqs rfl).2
            (decide_eq_true c0) (eq_true c0) hlim l3 l4 l5 l6 (nes z).1 (nes z).2 (decide_eq_true (by rw [hN]; exact h63)) (decide_eq_true (by rw [hneg]; exact hlo)) (decide_eq_false hhi) sg
      · exact shifts4.calls a b _ _ _ _ _ _ _ _ _ w hT PureWritten.alive_eq (do10 a b) (do11 a b) D2 rfl (do11 _ b) rfl D6 D7 (eqs E0).1 (eqs E0).2 (eqs rfl).1 (eqs rfl).2 (eqs rfl).1 (eqs rfl).2
          (decide_eq_true c0) (eq_true c0) hlim l3 l4 l5 l6 (nes z).1 (nes z).2 (decide_eq_true (by rw [hN]; exact h63)) (decide_eq_false (by rw [hneg]; exact hlo)) sg
    · exact shifts5.calls a b _ _ _ _ _ _ _ _ _ w hT PureWritten.alive_eq (do10 a b) (do11 a b) D2 rfl (do11 _ b) rfl D6 D7 (eqs E0).1 (eqs E0).2 (eqs rfl).1 (eqs rfl).2 (eqs rfl).1 (eqs rfl).2
        (decide_eq_true c0) (eq_true c0) hlim l3 l4 l5 l6 (nes z).1 (nes z).2 (decide_eq_false (by rw [hN]; exact h63)) sg
end Go.Proofs.YtdcigijklknjaaaDoor.PureShifts

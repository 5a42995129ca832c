/- The law IntsOrder, about whole numbers and truth values alone; then its walk with it. -/
import Derived.Test.YtdcigijklknjaaaDoorOrder1
import Derived.Test.YtdcigijklknjaaaDoorOrder2
import Derived.Test.YtdcigijklknjaaaDoorOrder4
import Derived.Test.YtdcigijklknjaaaDoorOrder6
import Derived.Test.YtdcigijklknjaaaDoorPureWritten
namespace Go.Proofs.YtdcigijklknjaaaDoor.PureOrder
open Go.RowKit Go.Proofs.YtdcigijklknjaaaDoor.My Go.Proofs.YtdcigijklknjaaaDoor.PureInts Go.Proofs.YtdcigijklknjaaaDoorW.PrintWords Go.Proofs.YtdcigijklknjaaaDoorW.PrintLast Go.Proofs.YtdcigijklknjaaaDoorW.PrintMore

theorem or_zero (a b : Int) (ha : -9223372036854775808 ≤ a ∧ a ≤ 9223372036854775807) (hb : -9223372036854775808 ≤ b ∧ b ≤ 9223372036854775807) :
    (bits .or .i64 a b != 0) = (a != 0 || b != 0) := by
  have zero (n : Int) (hn : -9223372036854775808 ≤ n ∧ n ≤ 9223372036854775807) : BitVec.ofInt 64 n = 0#64 ↔ n = 0 := by
    constructor
    · intro h
      have h1 := congrArg BitVec.toNat h
      rw [BitVec.toNat_ofInt] at h1
      have h2 : (n % 18446744073709551616).toNat = 0 := h1
      clear h1 h
      omega
    · rintro rfl; rfl
  have e : bits .or .i64 a b = 0 ↔ (a = 0 ∧ b = 0) := by
    show IntKind.i64.wrap ((BitVec.ofInt 64 a ||| BitVec.ofInt 64 b).toNat : Nat) = 0 ↔ _
    rw [IntKind.wrap_i64, ← zero a ha, ← zero b hb, ← BitVec.or_eq_zero_iff]
    show ((BitVec.ofInt 64 a ||| BitVec.ofInt 64 b).toNat + 9223372036854775808 : Int) % 18446744073709551616 - 9223372036854775808 = 0 ↔ (BitVec.ofInt 64 a ||| BitVec.ofInt 64 b) = 0#64
    generalize BitVec.ofInt 64 a ||| BitVec.ofInt 64 b = v
    have hlt : v.toNat < 18446744073709551616 := v.isLt
    constructor
    · intro h
      apply BitVec.eq_of_toNat_eq
      have : v.toNat = 0 := by omega
      rw [this]; rfl
    · intro h
      have : v.toNat = 0 := by rw [h]; rfl
      omega
  rw [Bool.eq_iff_iff]
  simp only [bne_iff_ne, ne_eq, Bool.or_eq_true, e]
  omega

def T (p : Bool) : Int := if p = true then 1 else 0
theorem truth (p : Bool) : ints_truth.f p = some (T p) := by cases p <;> rfl
theorem T_in (p : Bool) : -9223372036854775808 ≤ T p ∧ T p ≤ 9223372036854775807 := by cases p <;> decide +kernel
theorem do12 (a b : Int) : ints_Do.f 12 a b = some (T (decide (a < b)), 0) := by
  show (ints_truth.f (decide (a < b))).bind _ = _
  rw [truth]; rfl
theorem do13 (a b : Int) : ints_Do.f 13 a b = some (T (decide (a ≤ b)), 0) := by
  show (ints_truth.f (decide (a ≤ b))).bind _ = _
  rw [truth]; rfl
theorem do14 (a b : Int) : ints_Do.f 14 a b = some (T (decide (a > b)), 0) := by
  show (ints_truth.f (decide (a > b))).bind _ = _
  rw [truth]; rfl
theorem do15 (a b : Int) : ints_Do.f 15 a b = some (T (decide (a ≥ b)), 0) := by
  show (ints_truth.f (decide (a ≥ b))).bind _ = _
  rw [truth]; rfl
theorem do16 (a b : Int) : ints_Do.f 16 a b = some (T (a == b), 0) := by
  show (ints_truth.f (a == b)).bind _ = _
  rw [truth]; rfl
theorem do17 (a b : Int) : ints_Do.f 17 a b = some (T (a != b), 0) := by
  show (ints_truth.f (a != b)).bind _ = _
  rw [truth]; rfl
theorem do6 (a b : Int) : ints_Do.f 6 a b = some (T (a == 0), 0) := by
  show (ints_truth.f (a == 0)).bind _ = _
  rw [truth]; rfl
theorem do18 (a b : Int) : ints_Do.f 18 a b = some (T (!(a == 0) && !(b == 0)), 0) := by
  show (if a = 0 then (ints_truth.f false).bind _ else (ints_truth.f (b != 0)).bind _) = _
  rw [truth, truth]
  by_cases h : a = 0
  · rw [if_pos h, beq_iff_eq.2 h]; rfl
  · rw [if_neg h, beq_eq_false_iff_ne.2 h]; rfl
theorem do19 (a b : Int) (ha : -9223372036854775808 ≤ a ∧ a ≤ 9223372036854775807) (hb : -9223372036854775808 ≤ b ∧ b ≤ 9223372036854775807) : ints_Do.f 19 a b = some (T (!(a == 0) || !(b == 0)), 0) := by
  show (ints_truth.f (bits .or .i64 a b != 0)).bind _ = _
  rw [or_zero a b ha hb, truth]; rfl

theorem order_walk (a b c : Int) (w : World) (h0 : (Lit.int .i64 a).wf = true) (h1 : (Lit.int .i64 b).wf = true) (_h2 : (Lit.int .i64 c).wf = true) (hT : TabG w) :
    Calls Tryd.prog 10 #[.int .i64 a, .int .i64 b, .int .i64 c] w fun e w' => e = .returned (.bool true) ∧ Below w.heap.size w w' := by
  have f11 : ∀ p : Bool, (wrap64 (T p + T (T p == 0)) == 1) = true := by intro p; cases p <;> decide +kernel
  have f12 : ∀ p : Bool, (wrap64 (T p + T (T p == 0)) != 1) = false := by intro p; cases p <;> decide +kernel
  have f13 : ∀ p : Bool, decide (0 ≤ T p) = true := by intro p; cases p <;> decide +kernel
  have f15 : ∀ p q : Bool, (T (!p && !q) == T (T (!(T p == 0) || !(T q == 0)) == 0)) = true := by intro p q; cases p <;> cases q <;> decide +kernel
  have f16 : ∀ p q : Bool, (T (!p || !q) == T (T (!(T p == 0) && !(T q == 0)) == 0)) = true := by intro p q; cases p <;> cases q <;> decide +kernel
  have ra := of_wf h0
  have rb := of_wf h1
  by_cases e : a = b
  · subst e
    exact order1.calls a a c 0 1 0 1 1 0 _ _ _ _ _ _ _ _ _ _ _ w hT PureWritten.alive_eq
      (by rw [do12, decide_eq_false (by omega)]; rfl) (by rw [do13, decide_eq_true (by omega)]; rfl) (by rw [do14, decide_eq_false (by omega)]; rfl) (by rw [do15, decide_eq_true (by omega)]; rfl) (by rw [do16, beq_self_eq_true]; rfl) (by rw [do17, bne_self_eq_false]; rfl)
      (do12 a c) (do12 a c) (do18 a a) (do19 a a ra ra) (do6 a 0) (do6 _ 0) (do6 a 0) (do19 _ _ (T_in _) (T_in _)) (do6 _ 0) (do18 _ _) (do6 _ 0)
      (by decide +kernel) (by decide +kernel) (by decide +kernel) (by decide +kernel) (by decide +kernel) (by decide +kernel) (by decide +kernel) (by decide +kernel) (by decide +kernel) (by decide +kernel) (by decide +kernel)
      (f11 _) (f12 _) (f13 _) (f13 _) (f15 _ _) (f16 _ _) (by decide +kernel) (by decide +kernel) (by decide +kernel) (by decide +kernel) (by simp) (by simp)
  · have e1 : (a == b) = false := beq_eq_false_iff_ne.2 e
    have e2 : (a != b) = true := bne_iff_ne.2 e
    by_cases h : a < b
    · by_cases hb : b < c
      · exact order6.calls a b c 1 1 0 0 0 1 1 1 _ _ _ _ _ _ _ _ _ w hT PureWritten.alive_eq
          (by rw [do12, decide_eq_true (by omega)]; rfl) (by rw [do13, decide_eq_true (by omega)]; rfl) (by rw [do14, decide_eq_false (by omega)]; rfl) (by rw [do15, decide_eq_false (by omega)]; rfl) (by rw [do16, e1]; rfl) (by rw [do17, e2]; rfl)
          (by rw [do12, decide_eq_true (by omega)]; rfl) (by rw [do12, decide_eq_true (by omega)]; rfl) (do18 a b) (do19 a b ra rb) (do6 a 0) (do6 _ 0) (do6 b 0) (do19 _ _ (T_in _) (T_in _)) (do6 _ 0) (do18 _ _) (do6 _ 0)
          (by decide +kernel) (by decide +kernel) (by decide +kernel) (by decide +kernel) (by decide +kernel) (by decide +kernel) (by decide +kernel) (by decide +kernel) (by decide +kernel) (by decide +kernel) (by decide +kernel)
          (f11 _) (f12 _) (f13 _) (f13 _) (f15 _ _) (f16 _ _) (by decide +kernel) (by decide +kernel) (by decide +kernel) (by decide +kernel) (by decide +kernel) (by decide +kernel) (by decide +kernel) (by decide +kernel) e1 e2
      · exact order4.calls a b c 1 1 0 0 0 1 0 _ _ _ _ _ _ _ _ _ _ w hT PureWritten.alive_eq
          (by rw [do12, decide_eq_true (by omega)]; rfl) (by rw [do13, decide_eq_true (by omega)]; rfl) (by rw [do14, decide_eq_false (by omega)]; rfl) (by rw [do15, decide_eq_false (by omega)]; rfl) (by rw [do16, e1]; rfl) (by rw [do17, e2]; rfl)
          (by rw [do12, decide_eq_false (by omega)]; rfl) (do12 a c) (do18 a b) (do19 a b ra rb) (do6 a 0) (do6 _ 0) (do6 b 0) (do19 _ _ (T_in _) (T_in _)) (do6 _ 0) (do18 _ _) (do6 _ 0)
          (by decide +kernel) (by decide +kernel) (by decide +kernel) (by decide +kernel) (by decide +kernel) (by decide +kernel) (by decide +kernel) (by decide +kernel) (by decide +kernel) (by decide +kernel) (by decide +kernel)
          (f11 _) (f12 _) (f13 _) (f13 _) (f15 _ _) (f16 _ _) (by decide +kernel) (by decide +kernel) (by decide +kernel) (by decide +kernel) (by decide +kernel) (by decide +kernel) e1 e2
    · exact order2.calls a b c 0 0 1 1 0 1 _ _ _ _ _ _ _ _ _ _ _ w hT PureWritten.alive_eq
        (by rw [do12, decide_eq_false (by omega)]; rfl) (by rw [do13, decide_eq_false (by omega)]; rfl) (by rw [do14, decide_eq_true (by omega)]; rfl) (by rw [do15, decide_eq_true (by omega)]; rfl) (by rw [do16, e1]; rfl) (by rw [do17, e2]; rfl)
        (do12 b c) (do12 a c) (do18 a b) (do19 a b ra rb) (do6 a 0) (do6 _ 0) (do6 b 0) (do19 _ _ (T_in _) (T_in _)) (do6 _ 0) (do18 _ _) (do6 _ 0)
        (by decide +kernel) (by decide +kernel) (by decide +kernel) (by decide +kernel) (by decide +kernel) (by decide +kernel) (by decide +kernel) (by decide +kernel) (by decide +kernel) (by decide +kernel) (by decide +kernel)
        (f11 _) (f12 _) (f13 _) (f13 _) (f15 _ _) (f16 _ _) (by decide +kernel) (by decide +kernel) (by decide +kernel) (by decide +kernel) e1 e2
end Go.Proofs.YtdcigijklknjaaaDoor.PureOrder

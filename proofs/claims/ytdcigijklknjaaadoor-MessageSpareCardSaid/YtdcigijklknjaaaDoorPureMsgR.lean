/- What the references' Valid and Check answer. -/
import Derived.Test.YtdcigijklknjaaaDoorPureMsgA
import Derived.Test.YtdcigijklknjaaaDoorMwd
namespace Go.Proofs.YtdcigijklknjaaaDoor.PureMsg
open Go.RowKit Go.Proofs.YtdcigijklknjaaaDoor.Mw

theorem rMark_eq (a : Int) : tailwaterref25_Mark.f a = some (mk a) := by
  unfold tailwaterref25_Mark.f mk tm
  by_cases h : a ≥ -1099511627776
  · rw [if_pos h, decide_eq_true (show -1099511627776 ≤ a from h), Bool.true_and]
    by_cases h2 : a ≤ 1099511627776
    · rw [if_pos h2, decide_eq_true h2]; rfl
    · rw [if_neg h2, decide_eq_false h2]; rfl
  · rw [if_neg h, decide_eq_false (show ¬ -1099511627776 ≤ a from h)]; rfl
theorem rRight_eq (a b c : Int) : tailwaterref25_Right.f a b c = some (tm b) := by
  unfold tailwaterref25_Right.f tm
  by_cases h : b ≥ -1099511627776
  · rw [if_pos h, decide_eq_true (show -1099511627776 ≤ b from h), Bool.true_and]
  · rw [if_neg h, decide_eq_false (show ¬ -1099511627776 ≤ b from h), Bool.false_and]
theorem rRow_eq (a b c d e : Int) : tailwaterref25_Row.f a b c d e = some (sp b c) := by
  unfold tailwaterref25_Row.f sp
  by_cases h1 : b < c
  · rw [if_pos h1, decide_eq_true h1, Bool.true_and]
    by_cases h : b ≥ -2199023255552
    · rw [if_pos h, decide_eq_true (show -2199023255552 ≤ b from h), Bool.true_and]
    · rw [if_neg h, decide_eq_false (show ¬ -2199023255552 ≤ b from h), Bool.false_and]
  · rw [if_neg h1, decide_eq_false h1, Bool.false_and]
theorem valid_eq (k : Nat) (a0 a1 a2 a3 a4 a5 a6 a7 a8 a9 : Int) : tailwaterref25_Valid.f (k + 1) a0 a1 a2 a3 a4 a5 a6 a7 a8 a9 = some (V a0 a1 a2 a3 a4 a5 a6 a7 a8 a9) := by
  have h5 : ∀ b : Bool, tailwaterref25_Valid.j0 (k + 1) a0 b a0 a1 a2 a3 a4 a5 a6 a7 a8 a9 = some (if b = true then tm a2 && (a4 == 0 && (a5 == 0 && ((a6 == 0 && (a7 == 0)) && (a8 == 0 && (a9 == 0))))) else
      if a0 = 2 then mk a4 && ((a1 == 0 && (a2 == 0 && (a3 == 0))) && (a5 == 0 && ((a6 == 0 && (a7 == 0)) && (a8 == 0 && (a9 == 0))))) else if a0 = 3 then sp a6 a7 && ((a1 == 0 && (a2 == 0 && (a3 == 0))) && (a4 == 0)) else false) := by
    intro b
    simp only [tailwaterref25_Valid.j0]
    rw [rRight_eq, rMark_eq, rRow_eq]
    cases b
    · simp only [Bool.false_eq_true, if_false]
      by_cases h2 : a0 = 2
      · simp only [if_pos h2]; cases mk a4 <;> rfl
      · simp only [if_neg h2]
        by_cases h3 : a0 = 3
        · simp only [if_pos h3]; cases sp a6 a7 <;> rfl
        · simp only [if_neg h3]
    · simp only [if_true]; cases tm a2 <;> rfl
  unfold tailwaterref25_Valid.f V
  rw [h5, h5]
  by_cases h1 : a0 = 1
  · rw [if_pos h1, if_pos (by simp [h1]), if_pos (.inl h1)]
  · rw [if_neg h1]
    by_cases h4 : a0 = 4
    · rw [if_pos (by simp [h4]), if_pos (.inr h4)]
    · rw [if_neg (by simp [h4]), if_neg (show ¬ (a0 = 1 ∨ a0 = 4) by omega)]
theorem rcheck_eq (k : Nat) (a0 a1 a2 a3 a4 a5 a6 a7 a8 a9 : Int) : tailwaterref25_Check.f (k + 1) a0 a1 a2 a3 a4 a5 a6 a7 a8 a9 = some (if V a0 a1 a2 a3 a4 a5 a6 a7 a8 a9 = true then 0 else 8) := by
  unfold tailwaterref25_Check.f
  rw [valid_eq, Option.bind_some]
  split <;> rfl
end Go.Proofs.YtdcigijklknjaaaDoor.PureMsg

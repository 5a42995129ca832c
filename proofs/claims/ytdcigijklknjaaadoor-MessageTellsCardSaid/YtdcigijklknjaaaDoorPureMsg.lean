/- What message.Check and the reference's Valid and Check answer, on whole numbers alone. -/
import Derived.Test.YtdcigijklknjaaaDoorMwx7
import Derived.Test.YtdcigijklknjaaaDoorMwx14
import Derived.Test.YtdcigijklknjaaaDoorMwx15
import Derived.Test.YtdcigijklknjaaaDoorMwx22
import Derived.Test.YtdcigijklknjaaaDoorMwx29
import Derived.Test.YtdcigijklknjaaaDoorMwx30
namespace Go.Proofs.YtdcigijklknjaaaDoor.PureMsg
open Go.RowKit Go.Proofs.YtdcigijklknjaaaDoor.Mw

def tm (a : Int) : Bool := decide (-1099511627776 ≤ a) && decide (a ≤ 1099511627776)
def mk (a : Int) : Bool := tm a || (a == 9223372036854775807)
def sp (a b : Int) : Bool := decide (a < b) && (decide (-2199023255552 ≤ a) && decide (b ≤ 2199023255552))
theorem isTime_eq (a : Int) : message_isTime.f a = some (tm a) := by
  unfold message_isTime.f tm
  by_cases h : a ≥ -1099511627776
  · rw [if_pos h, decide_eq_true (show -1099511627776 ≤ a from h), Bool.true_and]
  · rw [if_neg h, decide_eq_false (show ¬ -1099511627776 ≤ a from h), Bool.false_and]
theorem isMark_eq (a : Int) : message_isMark.f a = some (mk a) := by
  unfold message_isMark.f mk
  rw [isTime_eq]
  cases tm a <;> rfl
theorem rMark_eq (a : Int) : tailwaterref25_Mark.f a = some (mk a) := by
  unfold tailwaterref25_Mark.f mk tm
  by_cases h : a ≥ -1099511627776
  · rw [if_pos h, decide_eq_true (show -1099511627776 ≤ a from h), Bool.true_and]
    by_cases h2 : a ≤ 1099511627776
    · rw [if_pos h2, decide_eq_true h2]; rfl
    · rw [if_neg h2, decide_eq_false h2]; rfl
  · rw [if_neg h, decide_eq_false (show ¬ -1099511627776 ≤ a from h)]; rfl
theorem rRight_eq (a b c : Int) : tailwaterref25_Right.f a b c = some (tm b) := by
  unfold tailwaterref25_Right.f tm
  by_cases h : b ≥ -1099511627776
  · rw [if_pos h, decide_eq_true (show -1099511627776 ≤ b from h), Bool.true_and]
  · rw [if_neg h, decide_eq_false (show ¬ -1099511627776 ≤ b from h), Bool.false_and]
theorem rRow_eq (a b c d e : Int) : tailwaterref25_Row.f a b c d e = some (sp b c) := by
  unfold tailwaterref25_Row.f sp
  by_cases h1 : b < c
  · rw [if_pos h1, decide_eq_true h1, Bool.true_and]
    by_cases h : b ≥ -2199023255552
    · rw [if_pos h, decide_eq_true (show -2199023255552 ≤ b from h), Bool.true_and]
    · rw [if_neg h, decide_eq_false (show ¬ -2199023255552 ≤ b from h), Bool.false_and]
  · rw [if_neg h1, decide_eq_false h1, Bool.false_and]

/-- A right message: its kind, and nothing that its kind does not use. -/
def V (a0 a1 a2 a3 a4 a5 a6 a7 a8 a9 : Int) : Bool :=
  if a0 = 1 ∨ a0 = 4 then tm a2 && (a4 == 0 && (a5 == 0 && ((a6 == 0 && (a7 == 0)) && (a8 == 0 && (a9 == 0)))))
  else if a0 = 2 then mk a4 && ((a1 == 0 && (a2 == 0 && (a3 == 0))) && (a5 == 0 && ((a6 == 0 && (a7 == 0)) && (a8 == 0 && (a9 == 0)))))
  else if a0 = 3 then sp a6 a7 && ((a1 == 0 && (a2 == 0 && (a3 == 0))) && (a4 == 0))
  else false
theorem valid_eq (k : Nat) (a0 a1 a2 a3 a4 a5 a6 a7 a8 a9 : Int) : tailwaterref25_Valid.f (k + 1) a0 a1 a2 a3 a4 a5 a6 a7 a8 a9 = some (V a0 a1 a2 a3 a4 a5 a6 a7 a8 a9) := by
  have h5 : ∀ b : Bool, tailwaterref25_Valid.j0 (k + 1) a0 b a0 a1 a2 a3 a4 a5 a6 a7 a8 a9 = some (if b = true then tm a2 && (a4 == 0 && (a5 == 0 && ((a6 == 0 && (a7 == 0)) && (a8 == 0 && (a9 == 0))))) else
      if a0 = 2 then mk a4 && ((a1 == 0 && (a2 == 0 && (a3 == 0))) && (a5 == 0 && ((a6 == 0 && (a7 == 0)) && (a8 == 0 && (a9 == 0))))) else if a0 = 3 then sp a6 a7 && ((a1 == 0 && (a2 == 0 && (a3 == 0))) && (a4 == 0)) else false) := by
    intro b
    simp only [tailwaterref25_Valid.j0]
    rw [rRight_eq, rMark_eq, rRow_eq]
    cases b
    · simp only [Bool.false_eq_true, if_false]
      by_cases h2 : a0 = 2
      · simp only [if_pos h2]; cases mk a4 <;> rfl
      · simp only [if_neg h2]
        by_cases h3 : a0 = 3
        · simp only [if_pos h3]; cases sp a6 a7 <;> rfl
        · simp only [if_neg h3]
    · simp only [if_true]; cases tm a2 <;> rfl
  unfold tailwaterref25_Valid.f V
  rw [h5, h5]
  by_cases h1 : a0 = 1
  · rw [if_pos h1, if_pos (by simp [h1]), if_pos (.inl h1)]
  · rw [if_neg h1]
    by_cases h4 : a0 = 4
    · rw [if_pos (by simp [h4]), if_pos (.inr h4)]
    · rw [if_neg (by simp [h4]), if_neg (show ¬ (a0 = 1 ∨ a0 = 4) by omega)]
theorem rcheck_eq (k : Nat) (a0 a1 a2 a3 a4 a5 a6 a7 a8 a9 : Int) : tailwaterref25_Check.f (k + 1) a0 a1 a2 a3 a4 a5 a6 a7 a8 a9 = some (if V a0 a1 a2 a3 a4 a5 a6 a7 a8 a9 = true then 0 else 8) := by
  unfold tailwaterref25_Check.f
  rw [valid_eq, Option.bind_some]
  split <;> rfl
theorem check_eq (k : Nat) (a0 a1 a2 a3 a4 a5 a6 a7 a8 a9 : Int) : message_Check.f (k + 1) a0 a1 a2 a3 a4 a5 a6 a7 a8 a9 = some (if V a0 a1 a2 a3 a4 a5 a6 a7 a8 a9 = true then 0 else 8) := by
  have h5 : ∀ b : Bool, message_Check.j0 (k + 1) false a0 b a0 a1 a2 a3 a4 a5 a6 a7 a8 a9 a0 0 0 0 0 0 0 0 0 0 = some (if (if b = true then tm a2 && (a4 == 0 && (a5 == 0 && ((a6 == 0 && (a7 == 0)) && (a8 == 0 && (a9 == 0))))) else
      if a0 = 2 then mk a4 && ((a1 == 0 && (a2 == 0 && (a3 == 0))) && (a5 == 0 && ((a6 == 0 && (a7 == 0)) && (a8 == 0 && (a9 == 0))))) else if a0 = 3 then sp a6 a7 && ((a1 == 0 && (a2 == 0 && (a3 == 0))) && (a4 == 0)) else false) = true then 0 else 8) := by
    intro b
    simp only [message_Check.j0, beq_self_eq_true, Bool.not_true, Bool.false_or]
    rw [isTime_eq, isMark_eq]
    cases b
    · simp only [Bool.false_eq_true, if_false]
      by_cases h2 : a0 = 2
      · simp only [if_pos h2, Option.bind_some]
        generalize mk a4 = p, (a1 == 0) = q1, (a2 == 0) = q2, (a3 == 0) = q3, (a5 == 0) = q5, (a6 == 0) = q6, (a7 == 0) = q7, (a8 == 0) = q8, (a9 == 0) = q9
        revert p q1 q2 q3 q5 q6 q7 q8 q9
        decide +kernel
      · simp only [if_neg h2]
        by_cases h3 : a0 = 3
        · simp only [if_pos h3]
          unfold sp
          by_cases g1 : (-2199023255552) ≤ a6
          · rw [if_pos g1, decide_eq_true g1]
            by_cases g2 : a6 < a7
            · rw [if_pos g2, decide_eq_true g2]
              by_cases g3 : a7 ≤ 2199023255552
              · rw [if_pos g3, decide_eq_true g3]
                generalize (a1 == 0) = q1, (a2 == 0) = q2, (a3 == 0) = q3, (a4 == 0) = q4
                revert q1 q2 q3 q4
                decide +kernel
              · rw [if_neg g3, decide_eq_false g3]; rfl
            · rw [if_neg g2, decide_eq_false g2]; rfl
          · rw [if_neg g1, decide_eq_false g1, Bool.false_and, Bool.and_false]; rfl
        · simp only [if_neg h3]; rfl
    · simp only [if_true, Option.bind_some]
      generalize tm a2 = p, (a4 == 0) = q4, (a5 == 0) = q5, (a6 == 0) = q6, (a7 == 0) = q7, (a8 == 0) = q8, (a9 == 0) = q9
      revert p q4 q5 q6 q7 q8 q9
      decide +kernel
  unfold message_Check.f V
  rw [h5, h5]
  by_cases h1 : a0 = 1
  · rw [if_pos h1, if_pos (show (a0 == 1) = true by simp [h1]), if_pos (show a0 = 1 ∨ a0 = 4 from .inl h1)]
  · rw [if_neg h1]
    by_cases h4 : a0 = 4
    · rw [if_pos (show (a0 == 4) = true by simp [h4]), if_pos (show a0 = 1 ∨ a0 = 4 from .inr h4)]
    · rw [if_neg (show ¬ (a0 == 4) = true by simp [h4]), if_neg (show ¬ (a0 = 1 ∨ a0 = 4) by omega)]
end Go.Proofs.YtdcigijklknjaaaDoor.PureMsg

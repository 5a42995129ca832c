/- What message.Check answers, on whole numbers alone. -/
import Derived.Test.YtdcigijklknjaaaDoorMwa
namespace Go.Proofs.YtdcigijklknjaaaDoor.PureMsg
open Go.RowKit Go.Proofs.YtdcigijklknjaaaDoor.Mw

def tm (a : Int) : Bool := decide (-1099511627776 ≤ a) && decide (a ≤ 1099511627776)
def mk (a : Int) : Bool := tm a || (a == 9223372036854775807)
def sp (a b : Int) : Bool := decide (a < b) && (decide (-2199023255552 ≤ a) && decide (b ≤ 2199023255552))
theorem isTime_eq (a : Int) : message_isTime.f a = some (tm a) := by
  unfold message_isTime.f tm
  by_cases h : a ≥ -1099511627776
  · rw [if_pos h, decide_eq_true (show -1099511627776 ≤ a from h), Bool.true_and]
  · rw [if_neg h, decide_eq_false (show ¬ -1099511627776 ≤ a from h), Bool.false_and]
theorem isMark_eq (a : Int) : message_isMark.f a = some (mk a) := by
  unfold message_isMark.f mk
  rw [isTime_eq]
  cases tm a <;> rfl
/-- A right message: its kind, and nothing that its kind does not use. -/
def V (a0 a1 a2 a3 a4 a5 a6 a7 a8 a9 : Int) : Bool :=
  if a0 = 1 ∨ a0 = 4 then tm a2 && (a4 == 0 && (a5 == 0 && ((a6 == 0 && (a7 == 0)) && (a8 == 0 && (a9 == 0)))))
  else if a0 = 2 then mk a4 && ((a1 == 0 && (a2 == 0 && (a3 == 0))) && (a5 == 0 && ((a6 == 0 && (a7 == 0)) && (a8 == 0 && (a9 == 0)))))
  else if a0 = 3 then sp a6 a7 && ((a1 == 0 && (a2 == 0 && (a3 == 0))) && (a4 == 0))
  else false
theorem check_eq (k : Nat) (a0 a1 a2 a3 a4 a5 a6 a7 a8 a9 : Int) : message_Check.f (k + 1) a0 a1 a2 a3 a4 a5 a6 a7 a8 a9 = some (if V a0 a1 a2 a3 a4 a5 a6 a7 a8 a9 = true then 0 else 8) := by
  have h5 : ∀ b : Bool, message_Check.j0 (k + 1) false a0 b a0 a1 a2 a3 a4 a5 a6 a7 a8 a9 a0 0 0 0 0 0 0 0 0 0 = some (if (if b = true then tm a2 && (a4 == 0 && (a5 == 0 && ((a6 == 0 && (a7 == 0)) && (a8 == 0 && (a9 == 0))))) else
      if a0 = 2 then mk a4 && ((a1 == 0 && (a2 == 0 && (a3 == 0))) && (a5 == 0 && ((a6 == 0 && (a7 == 0)) && (a8 == 0 && (a9 == 0))))) else if a0 = 3 then sp a6 a7 && ((a1 == 0 && (a2 == 0 && (a3 == 0))) && (a4 == 0)) else false) = true then 0 else 8) := by
    intro b
    simp only [message_Check.j0, beq_self_eq_true, Bool.not_true, Bool.false_or]
    rw [isTime_eq, isMark_eq]
    cases b
    · simp only [Bool.false_eq_true, if_false]
      by_cases h2 : a0 = 2
      · simp only [if_pos h2, Option.bind_some]
        generalize mk a4 = p, (a1 == 0) = q1, (a2 == 0) = q2, (a3 == 0) = q3, (a5 == 0) = q5, (a6 == 0) = q6, (a7 == 0) = q7, (a8 == 0) = q8, (a9 == 0) = q9
        revert p q1 q2 q3 q5 q6 q7 q8 q9
        decide +kernel
      · simp only [if_neg h2]
        by_cases h3 : a0 = 3
        · simp only [if_pos h3]
          unfold sp
          by_cases g1 : (-2199023255552) ≤ a6
          · rw [if_pos g1, decide_eq_true g1]
            by_cases g2 : a6 < a7
            · rw [if_pos g2, decide_eq_true g2]
              by_cases g3 : a7 ≤ 2199023255552
              · rw [if_pos g3, decide_eq_true g3]
                generalize (a1 == 0) = q1, (a2 == 0) = q2, (a3 == 0) = q3, (a4 == 0) = q4
                revert q1 q2 q3 q4
                decide +kernel
              · rw [if_neg g3, decide_eq_false g3]; rfl
            · rw [if_neg g2, decide_eq_false g2]; rfl
          · rw [if_neg g1, decide_eq_false g1, Bool.false_and, Bool.and_false]; rfl
        · simp only [if_neg h3]; rfl
    · simp only [if_true, Option.bind_some]
      generalize tm a2 = p, (a4 == 0) = q4, (a5 == 0) = q5, (a6 == 0) = q6, (a7 == 0) = q7, (a8 == 0) = q8, (a9 == 0) = q9
      revert p q4 q5 q6 q7 q8 q9
      decide +kernel
  unfold message_Check.f V
  rw [h5, h5]
  by_cases h1 : a0 = 1
  · rw [if_pos h1, if_pos (show (a0 == 1) = true by simp [h1]), if_pos (show a0 = 1 ∨ a0 = 4 from .inl h1)]
  · rw [if_neg h1]
    by_cases h4 : a0 = 4
    · rw [if_pos (show (a0 == 4) = true by simp [h4]), if_pos (show a0 = 1 ∨ a0 = 4 from .inr h4)]
    · rw [if_neg (show ¬ (a0 == 4) = true by simp [h4]), if_neg (show ¬ (a0 = 1 ∨ a0 = 4) by omega)]
end Go.Proofs.YtdcigijklknjaaaDoor.PureMsg

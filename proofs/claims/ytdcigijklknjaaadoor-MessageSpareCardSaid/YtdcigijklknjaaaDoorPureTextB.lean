/- What message.Text and message.Of answer. -/
import Derived.Test.YtdcigijklknjaaaDoorPureTextA
import Derived.Test.YtdcigijklknjaaaDoorMwc
namespace Go.Proofs.YtdcigijklknjaaaDoor.PureTells
open Go.RowKit Go.Proofs.YtdcigijklknjaaaDoor.Mw Go.Proofs.YtdcigijklknjaaaDoor.PureMsg Go.Proofs.YtdcigijklknjaaaDoor.PureSaid

section
variable (k : Nat) (a0 a1 a2 a3 a4 a5 a6 a7 a8 a9 : Int) (h1 : inR a1) (h2 : inR a2) (h3 : inR a3) (h4 : inR a4) (h5 : inR a5) (h6 : inR a6) (h7 : inR a7) (h8 : inR a8) (h9 : inR a9)
include h1 h2 h3 h4 h5 h6 h7 h8 h9
theorem text_eq : message_Text.f (k + 1) a0 a1 a2 a3 a4 a5 a6 a7 a8 a9 = some (if V a0 a1 a2 a3 a4 a5 a6 a7 a8 a9 = true then (msgText a0 a1 a2 a3 a4 a5 a6 a7 a8 a9, 0) else (⟨#[]⟩, 8)) := by
  unfold message_Text.f
  rw [check_eq, Option.bind_some]
  by_cases hv : V a0 a1 a2 a3 a4 a5 a6 a7 a8 a9 = true
  · rw [if_pos hv, if_pos hv, if_pos rfl, Option.bind_some]
    unfold msgText
    simp only [message_Text.j0]
    by_cases e4 : a0 = 4
    · rw [if_pos e4, if_pos e4, if_pos (telling_b (telling3 _ (by decide) _ _ _ h1 h2 h3))]
    · rw [if_neg e4, if_neg e4]
      by_cases e2 : a0 = 2
      · rw [if_pos e2, if_pos e2, if_pos (telling_b (telling1 _ (by decide) _ h4))]
      · rw [if_neg e2, if_neg e2]
        by_cases e3 : a0 = 3
        · rw [if_pos e3, if_pos e3, if_pos (telling_b (telling5 _ (by decide) _ _ _ _ _ h5 h6 h7 h8 h9))]
        · rw [if_neg e3, if_neg e3, if_pos (telling_b (telling3 _ (by decide) _ _ _ h1 h2 h3))]
  · rw [if_neg hv, if_neg hv, if_neg (by decide)]
end
/-- A right event. -/
def E (b : Bool) (a1 a2 a3 a4 : Int) : Bool := if b = true then mk a1 && (a2 == 0 && (a3 == 0 && (a4 == 0))) else (a1 == 0) && tm a3
def ofV (b : Bool) (a1 a2 a3 a4 : Int) : Int × Int × Int × Int × Int × Int × Int × Int × Int × Int × Int :=
  if E b a1 a2 a3 a4 = true then (if b = true then (2, 0, 0, 0, a1, 0, 0, 0, 0, 0, 0) else (1, a2, a3, a4, 0, 0, 0, 0, 0, 0, 0)) else (0, 0, 0, 0, 0, 0, 0, 0, 0, 0, 8)
theorem of_eq (k : Nat) (b : Bool) (a1 a2 a3 a4 : Int) : message_Of.f (k + 1) b a1 a2 a3 a4 = some (ofV b a1 a2 a3 a4) := by
  unfold message_Of.f ofV E
  rw [isMark_eq, isTime_eq]
  simp only [message_Of.j0, Option.bind_some]
  cases b
  · simp only [Bool.false_eq_true, if_false]
    by_cases e : a1 = 0
    · rw [if_pos e, beq_iff_eq.2 e, Bool.true_and]
      cases tm a3 <;> rfl
    · rw [if_neg e, beq_eq_false_iff_ne.2 e, Bool.false_and]
      rfl
  · simp only [if_true]
    generalize mk a1 = p, (a2 == 0) = q2, (a3 == 0) = q3, (a4 == 0) = q4
    cases p <;> cases q2 <;> cases q3 <;> cases q4 <;> rfl
theorem event_eq (k : Nat) (b : Bool) (a1 a2 a3 a4 : Int) : message_Event.f (k + 1) b a1 a2 a3 a4 = some (if E b a1 a2 a3 a4 = true then 0 else 8) := by
  unfold message_Event.f
  rw [of_eq, Option.bind_some]
  unfold ofV
  by_cases h : E b a1 a2 a3 a4 = true
  · rw [if_pos h, if_pos h]
    cases b <;> rfl
  · rw [if_neg h, if_neg h]
end Go.Proofs.YtdcigijklknjaaaDoor.PureTells

/- What the program's Value answers on whole numbers: an aggregate, or an error. -/
import Derived.Test.YtpmnneghnbbpjaaPureJoin
import Derived.Test.YtpmnneghnbbpjaaMyx18
namespace Go.Proofs.Ytpmnneghnbbpjaa.PureJoin
open Go.RowKit Go.Proofs.Ytpmnneghnbbpjaa.My Go.Proofs.YtpmnneghnbbpjaaW.PrintWords Go.Proofs.YtpmnneghnbbpjaaW.PrintLast Go.Proofs.YtpmnneghnbbpjaaW.PrintMore

/-- An aggregate, and its error. -/
def val (g : Int) (a : T) : Int × Int :=
  if g < 1 ∨ g > 4 then (0, 2) else if ¬ ok a then (0, 8) else if a.1 = 0 then (0, 6) else (if g = 1 then a.1 else if g = 2 then a.2.1 else if g = 3 then a.2.2.1 else a.2.2.2, 0)

theorem value_eq (k : Nat) (g : Int) (a : T) : accums_Value.f (k + 2) g a.1 a.2.1 a.2.2.1 a.2.2.2 = some (val g a) := by
  unfold accums_Value.f val
  by_cases h1 : g < 1
  · rw [if_pos h1, if_pos (.inl h1)]
    simp only [accums_Value.j0]
    rfl
  · rw [if_neg h1]
    simp only [accums_Value.j0, decide_eq_true_eq]
    by_cases h4 : g > 4
    · rw [if_pos h4, if_pos (.inr h4)]
    · rw [if_neg h4, check_eq]
      simp only [Option.bind_some]
      by_cases ho : ok a
      · rw [show chk (a.1, a.2.1, a.2.2.1, a.2.2.2) = 0 from chk_yes ho, if_pos rfl, if_neg (show ¬ (g < 1 ∨ g > 4) by omega), if_neg (show ¬ ¬ ok a from fun z => z ho)]
        by_cases hz : a.1 = 0
        · rw [if_pos hz, if_pos hz]
        · rw [if_neg hz, if_neg hz, if_neg (show ¬ g = 0 by omega)]
          by_cases e1 : g = 1
          · rw [if_pos e1, if_pos e1]
          · rw [if_neg e1, if_neg e1]
            by_cases e2 : g = 2
            · rw [if_pos e2, if_pos e2]
            · rw [if_neg e2, if_neg e2]
              by_cases e3 : g = 3
              · rw [if_pos e3, if_pos e3]
              · rw [if_neg e3, if_neg e3, if_pos (by omega)]
      · rw [show chk (a.1, a.2.1, a.2.2.1, a.2.2.2) = 8 from chk_no ho, if_neg (by decide), if_neg (show ¬ (g < 1 ∨ g > 4) by omega), if_pos ho]

theorem val_of (g : Int) (a : T) (h1 : 1 ≤ g) (h4 : g ≤ 4) (ha : ok a) (hn : a.1 ≠ 0) : val g a = (if g = 1 then a.1 else if g = 2 then a.2.1 else if g = 3 then a.2.2.1 else a.2.2.2, 0) := by
  unfold val
  rw [if_neg (by omega), if_neg (show ¬ ¬ ok a from fun z => z ha), if_neg hn]

end Go.Proofs.Ytpmnneghnbbpjaa.PureJoin

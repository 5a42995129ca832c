/- Each theorem X.calls below says: where the Lean function X.f answers, the Go function X returns that answer, and whatever lay in memory before the call is left as it was. -/
import Derived.Test.YtpmnneghnbbpjaaMyx0
namespace Go.Proofs.Ytpmnneghnbbpjaa.My
open Go.RowKit Go.Proofs.YtpmnneghnbbpjaaW.PrintWords Go.Proofs.YtpmnneghnbbpjaaW.PrintLast Go.Proofs.YtpmnneghnbbpjaaW.PrintMore
attribute [local go_sem] max2_int min2_int max_two min_two max_three min_three max_four min_four   -- for this text's walks alone
set_option linter.unusedVariables false
set_option linter.unusedSimpArgs false

/-! ### tailwaterref01_half: function 31 -/
def tailwaterref01_half.f (a0 : Int) : Option (Int) := if (Int.tmod a0 2) < 0 then (some (wrap64 ((wrap64 (Int.tdiv a0 2)) - 1))) else (some (wrap64 (Int.tdiv a0 2)))
set_option maxHeartbeats 8000000 in
set_option maxRecDepth 100000 in
theorem tailwaterref01_half.calls (a0 : Int) (r : Int) (w : World) (h : tailwaterref01_half.f a0 = some r) :
    Calls Try.prog 31 #[.int .i64 a0] w fun e w' => e = .returned (.int .i64 r) ∧ Drawn0 w w' := by
  have H : (if (Int.tmod a0 2) < 0 then (some (wrap64 ((wrap64 (Int.tdiv a0 2)) - 1))) else (some (wrap64 (Int.tdiv a0 2)))) = some r := h
  clear h
  by_cases c2 : (Int.tmod a0 2) < 0
  · rw [if_pos c2] at H
    have c2b0 : decide ((Int.tmod a0 2) < 0) = true := decide_eq_true c2
    clear c2
    obtain rfl := Option.some.inj H
    go_enter Try.func31, Try.ntmps31
    go_wp2
    go_ret
    exact ⟨by first | rfl | (simp; done) | (simp [*]; done), by repeat (first | exact Drawn0.refl _ | apply Drawn0.step)⟩
  · rw [if_neg c2] at H
    have c2b0 : decide ((Int.tmod a0 2) < 0) = false := decide_eq_false c2
    clear c2
    obtain rfl := Option.some.inj H
    go_enter Try.func31, Try.ntmps31
    go_wp2
    go_ret
    exact ⟨by first | rfl | (simp; done) | (simp [*]; done), by repeat (first | exact Drawn0.refl _ | apply Drawn0.step)⟩

end Go.Proofs.Ytpmnneghnbbpjaa.My

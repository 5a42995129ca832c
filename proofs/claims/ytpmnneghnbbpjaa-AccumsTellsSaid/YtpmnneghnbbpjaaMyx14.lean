/- Each theorem X.calls below says: where the Lean function X.f answers, the Go function X returns that answer, and whatever lay in memory before the call is left as it was. -/
import Derived.Test.YtpmnneghnbbpjaaMyx0
namespace Go.Proofs.Ytpmnneghnbbpjaa.My
open Go.RowKit Go.Proofs.YtpmnneghnbbpjaaW.PrintWords Go.Proofs.YtpmnneghnbbpjaaW.PrintLast Go.Proofs.YtpmnneghnbbpjaaW.PrintMore
attribute [local go_sem] max2_int min2_int max_two min_two max_three min_three max_four min_four   -- for this text's walks alone
set_option linter.unusedVariables false
set_option linter.unusedSimpArgs false

/-! ### tailwaterref01_Compare: function 32 -/
def tailwaterref01_Compare.f (a0 : Int) (a1 : Int) (a2 : Int) : Option (Bool) := if a0 = 12 then (some (decide (a1 < a2))) else (if a0 = 13 then (if a1 < a2 then (some true) else (some (a1 == a2))) else (if a0 = 14 then (some (decide (a2 < a1))) else (if a0 = 15 then (if a2 < a1 then (some true) else (some (a1 == a2))) else (if a0 = 16 then (some (a1 == a2)) else (some (a1 != a2))))))
set_option maxHeartbeats 8000000 in
set_option maxRecDepth 100000 in
theorem tailwaterref01_Compare.calls (a0 : Int) (a1 : Int) (a2 : Int) (r : Bool) (w : World) (h : tailwaterref01_Compare.f a0 a1 a2 = some r) :
    Calls Try.prog 32 #[.int .u8 a0, .int .i64 a1, .int .i64 a2] w fun e w' => e = .returned (.bool r) ∧ Drawn0 w w' := by
  have H : (if a0 = 12 then (some (decide (a1 < a2))) else (if a0 = 13 then (if a1 < a2 then (some true) else (some (a1 == a2))) else (if a0 = 14 then (some (decide (a2 < a1))) else (if a0 = 15 then (if a2 < a1 then (some true) else (some (a1 == a2))) else (if a0 = 16 then (some (a1 == a2)) else (some (a1 != a2))))))) = some r := h
  clear h
  by_cases c4 : a0 = 12
  · rw [if_pos c4] at H
    have c4b0 : (a0 == 12) = true := beq_iff_eq.mpr c4
    have c4b1 : (a0 != 12) = false := bne_eq_false_iff_eq.mpr c4
    clear c4
    obtain rfl := Option.some.inj H
    go_enter Try.func32, Try.ntmps32
    go_wp2
    go_ret
    exact ⟨by first | rfl | (simp; done) | (simp [*]; done), by repeat (first | exact Drawn0.refl _ | apply Drawn0.step)⟩
  · rw [if_neg c4] at H
    have c4b0 : (a0 == 12) = false := beq_eq_false_iff_ne.mpr c4
    have c4b1 : (a0 != 12) = true := bne_iff_ne.mpr c4
    by_cases c5 : a0 = 13
    · rw [if_pos c5] at H
      have c5b0 : (a0 == 13) = true := beq_iff_eq.mpr c5
      have c5b1 : (a0 != 13) = false := bne_eq_false_iff_eq.mpr c5
      clear c5
      by_cases c6 : a1 < a2
      · rw [if_pos c6] at H
        have c6b0 : decide (a1 < a2) = true := decide_eq_true c6
        clear c6
        obtain rfl := Option.some.inj H
        go_enter Try.func32, Try.ntmps32
        go_wp2
        go_ret
        exact ⟨by first | rfl | (simp; done) | (simp [*]; done), by repeat (first | exact Drawn0.refl _ | apply Drawn0.step)⟩
      · rw [if_neg c6] at H
        have c6b0 : decide (a1 < a2) = false := decide_eq_false c6
        clear c6
        obtain rfl := Option.some.inj H
        go_enter Try.func32, Try.ntmps32
        go_wp2
        go_ret
        exact ⟨by first | rfl | (simp; done) | (simp [*]; done), by repeat (first | exact Drawn0.refl _ | apply Drawn0.step)⟩
    · rw [if_neg c5] at H
      have c5b0 : (a0 == 13) = false := beq_eq_false_iff_ne.mpr c5
      have c5b1 : (a0 != 13) = true := bne_iff_ne.mpr c5
      by_cases c7 : a0 = 14
      · rw [if_pos c7] at H
        have c7b0 : (a0 == 14) = true := beq_iff_eq.mpr c7
        have c7b1 : (a0 != 14) = false := bne_eq_false_iff_eq.mpr c7
        clear c7
        obtain rfl := Option.some.inj H
        go_enter Try.func32, Try.ntmps32
        go_wp2
        go_ret
        exact ⟨by first | rfl | (simp; done) | (simp [*]; done), by repeat (first | exact Drawn0.refl _ | apply Drawn0.step)⟩
      · rw [if_neg c7] at H
        have c7b0 : (a0 == 14) = false := beq_eq_false_iff_ne.mpr c7
        have c7b1 : (a0 != 14) = true := bne_iff_ne.mpr c7
        by_cases c8 : a0 = 15
        · rw [if_pos c8] at H
          have c8b0 : (a0 == 15) = true := beq_iff_eq.mpr c8
          have c8b1 : (a0 != 15) = false := bne_eq_false_iff_eq.mpr c8
          clear c8
          by_cases c9 : a2 < a1
          · rw [if_pos c9] at H
            have c9b0 : decide (a2 < a1) = true := decide_eq_true c9
            clear c9
            obtain rfl := Option.some.inj H
            go_enter Try.func32, Try.ntmps32
            go_wp2
            go_ret
            exact ⟨by first | rfl | (simp; done) | (simp [*]; done), by repeat (first | exact Drawn0.refl _ | apply Drawn0.step)⟩
          · rw [if_neg c9] at H
            have c9b0 : decide (a2 < a1) = false := decide_eq_false c9
            clear c9
            obtain rfl := Option.some.inj H
            go_enter Try.func32, Try.ntmps32
            go_wp2
            go_ret
            exact ⟨by first | rfl | (simp; done) | (simp [*]; done), by repeat (first | exact Drawn0.refl _ | apply Drawn0.step)⟩
        · rw [if_neg c8] at H
          have c8b0 : (a0 == 15) = false := beq_eq_false_iff_ne.mpr c8
          have c8b1 : (a0 != 15) = true := bne_iff_ne.mpr c8
          by_cases c10 : a0 = 16
          · rw [if_pos c10] at H
            have c10b0 : (a0 == 16) = true := beq_iff_eq.mpr c10
            have c10b1 : (a0 != 16) = false := bne_eq_false_iff_eq.mpr c10
            clear c10
            obtain rfl := Option.some.inj H
            go_enter Try.func32, Try.ntmps32
            go_wp2
            go_ret
            exact ⟨by first | rfl | (simp; done) | (simp [*]; done), by repeat (first | exact Drawn0.refl _ | apply Drawn0.step)⟩
          · rw [if_neg c10] at H
            have c10b0 : (a0 == 16) = false := beq_eq_false_iff_ne.mpr c10
            have c10b1 : (a0 != 16) = true := bne_iff_ne.mpr c10
            obtain rfl := Option.some.inj H
            go_enter Try.func32, Try.ntmps32
            go_wp2
            go_ret
            exact ⟨by first | rfl | (simp; done) | (simp [*]; done), by repeat (first | exact Drawn0.refl _ | apply Drawn0.step)⟩

end Go.Proofs.Ytpmnneghnbbpjaa.My

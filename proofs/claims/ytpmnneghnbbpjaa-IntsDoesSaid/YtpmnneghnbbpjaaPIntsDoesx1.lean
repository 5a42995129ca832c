-- PRINTED BY print.sh 35421559b90ae4d0a3588c463048766b98c2df88dd9212a6774a882060cdf62d: not written by this session
import Derived.Test.YtpmnneghnbbpjaaPIntsDoesx0
namespace Go.Proofs.Ytpmnneghnbbpjaa.PIntsDoes
open Go.RowKit Go.Proofs.YtpmnneghnbbpjaaW.PrintWords Go.Proofs.YtpmnneghnbbpjaaW.PrintLast Go.Proofs.YtpmnneghnbbpjaaW.PrintMore
attribute [local go_sem] max2_int min2_int max_two min_two max_three min_three max_four min_four   -- for this text's walks alone
set_option linter.unusedVariables false
set_option linter.unusedSimpArgs false

/-! ### ints_truth: function 23 -/
def ints_truth.f (a0 : Bool) : Option (Int) := if a0 = true then (some 1) else (some 0)
set_option maxHeartbeats 8000000 in
set_option maxRecDepth 100000 in
theorem ints_truth.calls (a0 : Bool) (r : Int) (w : World) (h : ints_truth.f a0 = some r) :
    Calls Try.prog 23 #[.bool a0] w fun e w' => e = .returned (.int .i64 r) ∧ Drawn0 w w' := by
  have H : (if a0 = true then (some 1) else (some 0)) = some r := h
  clear h
  by_cases c2 : a0 = true
  · subst c2
    have H1 : (some 1) = some r := by rw [if_pos rfl] at H; exact H
    clear H
    have H := H1
    clear H1
    obtain rfl := Option.some.inj H
    go_enter Try.func23, Try.ntmps23
    go_wp2
    go_ret
    exact ⟨by first | rfl | (simp; done) | (simp [*]; done), by repeat (first | exact Drawn0.refl _ | apply Drawn0.step)⟩
  · replace c2 := Bool.eq_false_iff.mpr c2
    subst c2
    have H1 : (some 0) = some r := by rw [if_neg (show ¬ (false = true) by decide)] at H; exact H
    clear H
    have H := H1
    clear H1
    obtain rfl := Option.some.inj H
    go_enter Try.func23, Try.ntmps23
    go_wp2
    go_ret
    exact ⟨by first | rfl | (simp; done) | (simp [*]; done), by repeat (first | exact Drawn0.refl _ | apply Drawn0.step)⟩

/-! ### ints_Do: function 14 -/
def ints_Do.f (a0 : Int) (a1 : Int) (a2 : Int) : Option (Int × Int) := if a0 = 5 then (some (wrap64 (-a1), 0)) else (if a0 = 6 then ((ints_truth.f (a1 == 0)).bind fun t101 => (some (t101, 0))) else (if a0 = 7 then (some (wrap64 (a1 * a2), 0)) else (if a0 = 8 then (some (wrap64 (a1 + a2), 0)) else (if a0 = 9 then (some (wrap64 (a1 - a2), 0)) else (if a0 = 10 then (if 0 ≤ (Go.bits .and .i64 a2 63) then (some (shl .i64 a1 (Go.bits .and .i64 a2 63), 0)) else (none)) else (if a0 = 11 then (if 0 ≤ (Go.bits .and .i64 a2 63) then (some (shr .i64 a1 (Go.bits .and .i64 a2 63), 0)) else (none)) else (if a0 = 12 then ((ints_truth.f (decide (a1 < a2))).bind fun t102 => (some (t102, 0))) else (if a0 = 13 then ((ints_truth.f (decide (a1 ≤ a2))).bind fun t103 => (some (t103, 0))) else (if a0 = 14 then ((ints_truth.f (decide (a1 > a2))).bind fun t104 => (some (t104, 0))) else (if a0 = 15 then ((ints_truth.f (decide (a1 ≥ a2))).bind fun t105 => (some (t105, 0))) else (if a0 = 16 then ((ints_truth.f (a1 == a2)).bind fun t106 => (some (t106, 0))) else (if a0 = 17 then ((ints_truth.f (a1 != a2)).bind fun t107 => (some (t107, 0))) else (if a0 = 18 then (if a1 = 0 then ((ints_truth.f false).bind fun t108 => (some (t108, 0))) else ((ints_truth.f (a2 != 0)).bind fun t109 => (some (t109, 0)))) else (if a0 = 19 then ((ints_truth.f ((Go.bits .or .i64 a1 a2) != 0)).bind fun t110 => (some (t110, 0))) else (some (0, 2))))))))))))))))
set_option maxHeartbeats 8000000 in
set_option maxRecDepth 100000 in
theorem ints_Do.calls (a0 : Int) (a1 : Int) (a2 : Int) (r1 : Int) (r2 : Int) (w : World) (h : ints_Do.f a0 a1 a2 = some (r1, r2)) :
    Calls Try.prog 14 #[.int .u8 a0, .int .i64 a1, .int .i64 a2] w fun e w' => e = .returned (.tuple #[.int .i64 r1, .int .i64 r2]) ∧ Drawn0 w w' := by
  have H : (if a0 = 5 then (some (wrap64 (-a1), 0)) else (if a0 = 6 then ((ints_truth.f (a1 == 0)).bind fun t101 => (some (t101, 0))) else (if a0 = 7 then (some (wrap64 (a1 * a2), 0)) else (if a0 = 8 then (some (wrap64 (a1 + a2), 0)) else (if a0 = 9 then (some (wrap64 (a1 - a2), 0)) else (if a0 = 10 then (if 0 ≤ (Go.bits .and .i64 a2 63) then (some (shl .i64 a1 (Go.bits .and .i64 a2 63), 0)) else (none)) else (if a0 = 11 then (if 0 ≤ (Go.bits .and .i64 a2 63) then (some (shr .i64 a1 (Go.bits .and .i64 a2 63), 0)) else (none)) else (if a0 = 12 then ((ints_truth.f (decide (a1 < a2))).bind fun t102 => (some (t102, 0))) else (if a0 = 13 then ((ints_truth.f (decide (a1 ≤ a2))).bind fun t103 => (some (t103, 0))) else (if a0 = 14 then ((ints_truth.f (decide (a1 > a2))).bind fun t104 => (some (t104, 0))) else (if a0 = 15 then ((ints_truth.f (decide (a1 ≥ a2))).bind fun t105 => (some (t105, 0))) else (if a0 = 16 then ((ints_truth.f (a1 == a2)).bind fun t106 => (some (t106, 0))) else (if a0 = 17 then ((ints_truth.f (a1 != a2)).bind fun t107 => (some (t107, 0))) else (if a0 = 18 then (if a1 = 0 then ((ints_truth.f false).bind fun t108 => (some (t108, 0))) else ((ints_truth.f (a2 != 0)).bind fun t109 => (some (t109, 0)))) else (if a0 = 19 then ((ints_truth.f ((Go.bits .or .i64 a1 a2) != 0)).bind fun t110 => (some (t110, 0))) else (some (0, 2))))))))))))))))) = some (r1, r2) := h
  clear h
  by_cases c4 : a0 = 5
  · rw [if_pos c4] at H
    have c4b0 : (a0 == 5) = true := beq_iff_eq.mpr c4
    have c4b1 : (a0 != 5) = false := bne_eq_false_iff_eq.mpr c4
    clear c4
    simp only [Option.some.injEq, Prod.mk.injEq] at H
    obtain ⟨rfl, rfl⟩ := H
    go_enter Try.func14, Try.ntmps14
    go_wp2
    go_ret2
    exact ⟨by first | rfl | (simp; done) | (simp [*]; done), by repeat (first | exact Drawn0.refl _ | apply Drawn0.step)⟩
  · rw [if_neg c4] at H
    have c4b0 : (a0 == 5) = false := beq_eq_false_iff_ne.mpr c4
    have c4b1 : (a0 != 5) = true := bne_iff_ne.mpr c4
    by_cases c5 : a0 = 6
    · rw [if_pos c5] at H
      have c5b0 : (a0 == 6) = true := beq_iff_eq.mpr c5
      have c5b1 : (a0 != 6) = false := bne_eq_false_iff_eq.mpr c5
      clear c5
      replace H := Option.bind_eq_some_iff.mp H
      obtain ⟨t101, A60, H⟩ := H
      replace H : (some (t101, 0)) = some (r1, r2) := H
      have A6 := Aside0.mk A60
      clear A60
      simp only [Option.some.injEq, Prod.mk.injEq] at H
      obtain ⟨rfl, rfl⟩ := H
      go_enter Try.func14, Try.ntmps14
      go_wp2_with (first | ((with_reducible refine gate_callee (f := 23) rfl ?_); refine goesL_ (some 17) rfl rfl Try.func23 (by kernel_rfl) rfl #[.bool (a1 == 0)] rfl (by (try simp only [List.map_toArray, List.map_cons, List.map_nil]); first | done | rfl | (simp only [List.length_drop, List.length_take]; rfl)) ?_; (with_reducible refine (ints_truth.calls (a1 == 0) t101 _ A6.out).mono ?_); rintro e w' ⟨rfl, ⟨nd, rfl⟩⟩; refine ⟨_, rfl, ?_⟩))
      go_ret2
      exact ⟨by first | rfl | (simp; done) | (simp [*]; done), by repeat (first | exact Drawn0.refl _ | apply Drawn0.step)⟩
    · rw [if_neg c5] at H
      have c5b0 : (a0 == 6) = false := beq_eq_false_iff_ne.mpr c5
      have c5b1 : (a0 != 6) = true := bne_iff_ne.mpr c5
      by_cases c7 : a0 = 7
      · rw [if_pos c7] at H
        have c7b0 : (a0 == 7) = true := beq_iff_eq.mpr c7
        have c7b1 : (a0 != 7) = false := bne_eq_false_iff_eq.mpr c7
        clear c7
        simp only [Option.some.injEq, Prod.mk.injEq] at H
        obtain ⟨rfl, rfl⟩ := H
        go_enter Try.func14, Try.ntmps14
        go_wp2
        go_ret2
        exact ⟨by first | rfl | (simp; done) | (simp [*]; done), by repeat (first | exact Drawn0.refl _ | apply Drawn0.step)⟩
      · rw [if_neg c7] at H
        have c7b0 : (a0 == 7) = false := beq_eq_false_iff_ne.mpr c7
        have c7b1 : (a0 != 7) = true := bne_iff_ne.mpr c7
        by_cases c8 : a0 = 8
        · rw [if_pos c8] at H
          have c8b0 : (a0 == 8) = true := beq_iff_eq.mpr c8
          have c8b1 : (a0 != 8) = false := bne_eq_false_iff_eq.mpr c8
          clear c8
          simp only [Option.some.injEq, Prod.mk.injEq] at H
          obtain ⟨rfl, rfl⟩ := H
          go_enter Try.func14, Try.ntmps14
          go_wp2
          go_ret2
          exact ⟨by first | rfl | (simp; done) | (simp [*]; done), by repeat (first | exact Drawn0.refl _ | apply Drawn0.step)⟩
        · rw [if_neg c8] at H
          have c8b0 : (a0 == 8) = false := beq_eq_false_iff_ne.mpr c8
          have c8b1 : (a0 != 8) = true := bne_iff_ne.mpr c8
          by_cases c9 : a0 = 9
          · rw [if_pos c9] at H
            have c9b0 : (a0 == 9) = true := beq_iff_eq.mpr c9
            have c9b1 : (a0 != 9) = false := bne_eq_false_iff_eq.mpr c9
            clear c9
            simp only [Option.some.injEq, Prod.mk.injEq] at H
            obtain ⟨rfl, rfl⟩ := H
            go_enter Try.func14, Try.ntmps14
            go_wp2
            go_ret2
            exact ⟨by first | rfl | (simp; done) | (simp [*]; done), by repeat (first | exact Drawn0.refl _ | apply Drawn0.step)⟩
          · rw [if_neg c9] at H
            have c9b0 : (a0 == 9) = false := beq_eq_false_iff_ne.mpr c9
            have c9b1 : (a0 != 9) = true := bne_iff_ne.mpr c9
            by_cases c10 : a0 = 10
            · rw [if_pos c10] at H
              have c10b0 : (a0 == 10) = true := beq_iff_eq.mpr c10
              have c10b1 : (a0 != 10) = false := bne_eq_false_iff_eq.mpr c10
              clear c10
              by_cases c11 : 0 ≤ (Go.bits .and .i64 a2 63)
              · rw [if_pos c11] at H
                have c11b0 := eq_true c11
                have c11b1 : decide (0 ≤ (Go.bits .and .i64 a2 63)) = true := decide_eq_true c11
                clear c11
                obtain ⟨ji12, hji12⟩ : ∃ j_ : Int, (shl .i64 a1 (Go.bits .and .i64 a2 63)) = j_ := ⟨_, rfl⟩
                replace H : (some (ji12, 0)) = some (r1, r2) := by first | (rw [hji12] at H; exact H) | (simp only [hji12] at H ⊢; exact H)
                have hji12_ : (IntKind.i64.wrap (a1 * 2 ^ min (Go.bits .and .i64 a2 63).toNat 64)) = ji12 := hji12
                have hji12z : (Go.bits .and .i64 a2 63) ≤ 64 → (IntKind.i64.wrap (a1 * 2 ^ (Go.bits .and .i64 a2 63).toNat)) = ji12 := shl_small hji12
                have hji12y : (wrap64 (a1 * 2 ^ min (Go.bits .and .i64 a2 63).toNat 64)) = ji12 := (i64_w _).symm.trans hji12_
                have hji12x : (Go.bits .and .i64 a2 63) ≤ 64 → (wrap64 (a1 * 2 ^ (Go.bits .and .i64 a2 63).toNat)) = ji12 := fun h_ => (i64_w _).symm.trans (hji12z h_)
                simp only [Option.some.injEq, Prod.mk.injEq] at H
                obtain ⟨rfl, rfl⟩ := H
                go_enter Try.func14, Try.ntmps14
                go_wp2
                go_ret2
                exact ⟨by first | rfl | (simp; done) | (simp only [← hji12] <;> (first | rfl | simp)) | (simp [*]; done), by repeat (first | exact Drawn0.refl _ | apply Drawn0.step)⟩
              · rw [if_neg c11] at H
                exact absurd H (by simp)
            · rw [if_neg c10] at H
              have c10b0 : (a0 == 10) = false := beq_eq_false_iff_ne.mpr c10
              have c10b1 : (a0 != 10) = true := bne_iff_ne.mpr c10
              by_cases c13 : a0 = 11
              · rw [if_pos c13] at H
                have c13b0 : (a0 == 11) = true := beq_iff_eq.mpr c13
                have c13b1 : (a0 != 11) = false := bne_eq_false_iff_eq.mpr c13
                clear c13
                by_cases c14 : 0 ≤ (Go.bits .and .i64 a2 63)
                · rw [if_pos c14] at H
                  have c14b0 := eq_true c14
                  have c14b1 : decide (0 ≤ (Go.bits .and .i64 a2 63)) = true := decide_eq_true c14
                  clear c14
                  obtain ⟨ji15, hji15⟩ : ∃ j_ : Int, (shr .i64 a1 (Go.bits .and .i64 a2 63)) = j_ := ⟨_, rfl⟩
                  replace H : (some (ji15, 0)) = some (r1, r2) := by first | (rw [hji15] at H; exact H) | (simp only [hji15] at H ⊢; exact H)
                  have hji15_ : (a1 / 2 ^ min (Go.bits .and .i64 a2 63).toNat 64) = ji15 := hji15
                  have hji15z : (Go.bits .and .i64 a2 63) ≤ 64 → (a1 / 2 ^ (Go.bits .and .i64 a2 63).toNat) = ji15 := shr_small hji15
                  simp only [Option.some.injEq, Prod.mk.injEq] at H
                  obtain ⟨rfl, rfl⟩ := H
                  go_enter Try.func14, Try.ntmps14
                  go_wp2
                  go_ret2
                  exact ⟨by first | rfl | (simp; done) | (simp only [← hji15] <;> (first | rfl | simp)) | (simp [*]; done), by repeat (first | exact Drawn0.refl _ | apply Drawn0.step)⟩
                · rw [if_neg c14] at H
                  exact absurd H (by simp)
              · rw [if_neg c13] at H
                have c13b0 : (a0 == 11) = false := beq_eq_false_iff_ne.mpr c13
                have c13b1 : (a0 != 11) = true := bne_iff_ne.mpr c13
                by_cases c16 : a0 = 12
                · rw [if_pos c16] at H
                  have c16b0 : (a0 == 12) = true := beq_iff_eq.mpr c16
                  have c16b1 : (a0 != 12) = false := bne_eq_false_iff_eq.mpr c16
                  clear c16
                  replace H := Option.bind_eq_some_iff.mp H
                  obtain ⟨t102, A170, H⟩ := H
                  replace H : (some (t102, 0)) = some (r1, r2) := H
                  have A17 := Aside0.mk A170
                  clear A170
                  simp only [Option.some.injEq, Prod.mk.injEq] at H
                  obtain ⟨rfl, rfl⟩ := H
                  go_enter Try.func14, Try.ntmps14
                  go_wp2_with (first | ((with_reducible refine gate_callee (f := 23) rfl ?_); refine goesL_ (some 50) rfl rfl Try.func23 (by kernel_rfl) rfl #[.bool (decide (a1 < a2))] rfl (by (try simp only [List.map_toArray, List.map_cons, List.map_nil]); first | done | rfl | (simp only [List.length_drop, List.length_take]; rfl)) ?_; (with_reducible refine (ints_truth.calls (decide (a1 < a2)) t102 _ A17.out).mono ?_); rintro e w' ⟨rfl, ⟨nd, rfl⟩⟩; refine ⟨_, rfl, ?_⟩))
                  go_ret2
                  exact ⟨by first | rfl | (simp; done) | (simp [*]; done), by repeat (first | exact Drawn0.refl _ | apply Drawn0.step)⟩
                · rw [if_neg c16] at H
                  have c16b0 : (a0 == 12) = false := beq_eq_false_iff_ne.mpr c16
                  have c16b1 : (a0 != 12) = true := bne_iff_ne.mpr c16
                  by_cases c18 : a0 = 13
                  · rw [if_pos c18] at H
                    have c18b0 : (a0 == 13) = true := beq_iff_eq.mpr c18
                    have c18b1 : (a0 != 13) = false := bne_eq_false_iff_eq.mpr c18
                    clear c18
                    replace H := Option.bind_eq_some_iff.mp H
                    obtain ⟨t103, A190, H⟩ := H
                    replace H : (some (t103, 0)) = some (r1, r2) := H
                    have A19 := Aside0.mk A190
                    clear A190
                    simp only [Option.some.injEq, Prod.mk.injEq] at H
                    obtain ⟨rfl, rfl⟩ := H
                    go_enter Try.func14, Try.ntmps14
                    go_wp2_with (first | ((with_reducible refine gate_callee (f := 23) rfl ?_); refine goesL_ (some 56) rfl rfl Try.func23 (by kernel_rfl) rfl #[.bool (decide (a1 ≤ a2))] rfl (by (try simp only [List.map_toArray, List.map_cons, List.map_nil]); first | done | rfl | (simp only [List.length_drop, List.length_take]; rfl)) ?_; (with_reducible refine (ints_truth.calls (decide (a1 ≤ a2)) t103 _ A19.out).mono ?_); rintro e w' ⟨rfl, ⟨nd, rfl⟩⟩; refine ⟨_, rfl, ?_⟩))
                    go_ret2
                    exact ⟨by first | rfl | (simp; done) | (simp [*]; done), by repeat (first | exact Drawn0.refl _ | apply Drawn0.step)⟩
                  · rw [if_neg c18] at H
                    have c18b0 : (a0 == 13) = false := beq_eq_false_iff_ne.mpr c18
                    have c18b1 : (a0 != 13) = true := bne_iff_ne.mpr c18
                    by_cases c20 : a0 = 14
                    · rw [if_pos c20] at H
                      have c20b0 : (a0 == 14) = true := beq_iff_eq.mpr c20
                      have c20b1 : (a0 != 14) = false := bne_eq_false_iff_eq.mpr c20
                      clear c20
                      replace H := Option.bind_eq_some_iff.mp H
                      obtain ⟨t104, A210, H⟩ := H
                      replace H : (some (t104, 0)) = some (r1, r2) := H
                      have A21 := Aside0.mk A210
                      clear A210
                      simp only [Option.some.injEq, Prod.mk.injEq] at H
                      obtain ⟨rfl, rfl⟩ := H
                      go_enter Try.func14, Try.ntmps14
                      go_wp2_with (first | ((with_reducible refine gate_callee (f := 23) rfl ?_); refine goesL_ (some 62) rfl rfl Try.func23 (by kernel_rfl) rfl #[.bool (decide (a1 > a2))] rfl (by (try simp only [List.map_toArray, List.map_cons, List.map_nil]); first | done | rfl | (simp only [List.length_drop, List.length_take]; rfl)) ?_; (with_reducible refine (ints_truth.calls (decide (a1 > a2)) t104 _ A21.out).mono ?_); rintro e w' ⟨rfl, ⟨nd, rfl⟩⟩; refine ⟨_, rfl, ?_⟩))
                      go_ret2
                      exact ⟨by first | rfl | (simp; done) | (simp [*]; done), by repeat (first | exact Drawn0.refl _ | apply Drawn0.step)⟩
                    · rw [if_neg c20] at H
                      have c20b0 : (a0 == 14) = false := beq_eq_false_iff_ne.mpr c20
                      have c20b1 : (a0 != 14) = true := bne_iff_ne.mpr c20
                      by_cases c22 : a0 = 15
                      · rw [if_pos c22] at H
                        have c22b0 : (a0 == 15) = true := beq_iff_eq.mpr c22
                        have c22b1 : (a0 != 15) = false := bne_eq_false_iff_eq.mpr c22
                        clear c22
                        replace H := Option.bind_eq_some_iff.mp H
                        obtain ⟨t105, A230, H⟩ := H
                        replace H : (some (t105, 0)) = some (r1, r2) := H
                        have A23 := Aside0.mk A230
                        clear A230
                        simp only [Option.some.injEq, Prod.mk.injEq] at H
                        obtain ⟨rfl, rfl⟩ := H
                        go_enter Try.func14, Try.ntmps14
                        go_wp2_with (first | ((with_reducible refine gate_callee (f := 23) rfl ?_); refine goesL_ (some 68) rfl rfl Try.func23 (by kernel_rfl) rfl #[.bool (decide (a1 ≥ a2))] rfl (by (try simp only [List.map_toArray, List.map_cons, List.map_nil]); first | done | rfl | (simp only [List.length_drop, List.length_take]; rfl)) ?_; (with_reducible refine (ints_truth.calls (decide (a1 ≥ a2)) t105 _ A23.out).mono ?_); rintro e w' ⟨rfl, ⟨nd, rfl⟩⟩; refine ⟨_, rfl, ?_⟩))
                        go_ret2
                        exact ⟨by first | rfl | (simp; done) | (simp [*]; done), by repeat (first | exact Drawn0.refl _ | apply Drawn0.step)⟩
                      · rw [if_neg c22] at H
                        have c22b0 : (a0 == 15) = false := beq_eq_false_iff_ne.mpr c22
                        have c22b1 : (a0 != 15) = true := bne_iff_ne.mpr c22
                        by_cases c24 : a0 = 16
                        · rw [if_pos c24] at H
                          have c24b0 : (a0 == 16) = true := beq_iff_eq.mpr c24
                          have c24b1 : (a0 != 16) = false := bne_eq_false_iff_eq.mpr c24
                          clear c24
                          replace H := Option.bind_eq_some_iff.mp H
                          obtain ⟨t106, A250, H⟩ := H
                          replace H : (some (t106, 0)) = some (r1, r2) := H
                          have A25 := Aside0.mk A250
                          clear A250
                          simp only [Option.some.injEq, Prod.mk.injEq] at H
                          obtain ⟨rfl, rfl⟩ := H
                          go_enter Try.func14, Try.ntmps14
                          go_wp2_with (first | ((with_reducible refine gate_callee (f := 23) rfl ?_); refine goesL_ (some 74) rfl rfl Try.func23 (by kernel_rfl) rfl #[.bool (a1 == a2)] rfl (by (try simp only [List.map_toArray, List.map_cons, List.map_nil]); first | done | rfl | (simp only [List.length_drop, List.length_take]; rfl)) ?_; (with_reducible refine (ints_truth.calls (a1 == a2) t106 _ A25.out).mono ?_); rintro e w' ⟨rfl, ⟨nd, rfl⟩⟩; refine ⟨_, rfl, ?_⟩))
                          go_ret2
                          exact ⟨by first | rfl | (simp; done) | (simp [*]; done), by repeat (first | exact Drawn0.refl _ | apply Drawn0.step)⟩
                        · rw [if_neg c24] at H
                          have c24b0 : (a0 == 16) = false := beq_eq_false_iff_ne.mpr c24
                          have c24b1 : (a0 != 16) = true := bne_iff_ne.mpr c24
                          by_cases c26 : a0 = 17
                          · rw [if_pos c26] at H
                            have c26b0 : (a0 == 17) = true := beq_iff_eq.mpr c26
                            have c26b1 : (a0 != 17) = false := bne_eq_false_iff_eq.mpr c26
                            clear c26
                            replace H := Option.bind_eq_some_iff.mp H
                            obtain ⟨t107, A270, H⟩ := H
                            replace H : (some (t107, 0)) = some (r1, r2) := H
                            have A27 := Aside0.mk A270
                            clear A270
                            simp only [Option.some.injEq, Prod.mk.injEq] at H
                            obtain ⟨rfl, rfl⟩ := H
                            go_enter Try.func14, Try.ntmps14
                            go_wp2_with (first | ((with_reducible refine gate_callee (f := 23) rfl ?_); refine goesL_ (some 80) rfl rfl Try.func23 (by kernel_rfl) rfl #[.bool (a1 != a2)] rfl (by (try simp only [List.map_toArray, List.map_cons, List.map_nil]); first | done | rfl | (simp only [List.length_drop, List.length_take]; rfl)) ?_; (with_reducible refine (ints_truth.calls (a1 != a2) t107 _ A27.out).mono ?_); rintro e w' ⟨rfl, ⟨nd, rfl⟩⟩; refine ⟨_, rfl, ?_⟩))
                            go_ret2
                            exact ⟨by first | rfl | (simp; done) | (simp [*]; done), by repeat (first | exact Drawn0.refl _ | apply Drawn0.step)⟩
                          · rw [if_neg c26] at H
                            have c26b0 : (a0 == 17) = false := beq_eq_false_iff_ne.mpr c26
                            have c26b1 : (a0 != 17) = true := bne_iff_ne.mpr c26
                            by_cases c28 : a0 = 18
                            · rw [if_pos c28] at H
                              have c28b0 : (a0 == 18) = true := beq_iff_eq.mpr c28
                              have c28b1 : (a0 != 18) = false := bne_eq_false_iff_eq.mpr c28
                              clear c28
                              by_cases c29 : a1 = 0
                              · rw [if_pos c29] at H
                                have c29b0 : (a1 == 0) = true := beq_iff_eq.mpr c29
                                have c29b1 : (a1 != 0) = false := bne_eq_false_iff_eq.mpr c29
                                clear c29
                                replace H := Option.bind_eq_some_iff.mp H
                                obtain ⟨t108, A300, H⟩ := H
                                replace H : (some (t108, 0)) = some (r1, r2) := H
                                have A30 := Aside0.mk A300
                                clear A300
                                simp only [Option.some.injEq, Prod.mk.injEq] at H
                                obtain ⟨rfl, rfl⟩ := H
                                go_enter Try.func14, Try.ntmps14
                                go_wp2_with (first | ((with_reducible refine gate_callee (f := 23) rfl ?_); refine goesL_ (some 89) rfl rfl Try.func23 (by kernel_rfl) rfl #[.bool false] rfl (by (try simp only [List.map_toArray, List.map_cons, List.map_nil]); first | done | rfl | (simp only [List.length_drop, List.length_take]; rfl)) ?_; (with_reducible refine (ints_truth.calls false t108 _ A30.out).mono ?_); rintro e w' ⟨rfl, ⟨nd, rfl⟩⟩; refine ⟨_, rfl, ?_⟩))
                                go_ret2
                                exact ⟨by first | rfl | (simp; done) | (simp [*]; done), by repeat (first | exact Drawn0.refl _ | apply Drawn0.step)⟩
                              · rw [if_neg c29] at H
                                have c29b0 : (a1 == 0) = false := beq_eq_false_iff_ne.mpr c29
                                have c29b1 : (a1 != 0) = true := bne_iff_ne.mpr c29
                                replace H := Option.bind_eq_some_iff.mp H
                                obtain ⟨t109, A310, H⟩ := H
                                replace H : (some (t109, 0)) = some (r1, r2) := H
                                have A31 := Aside0.mk A310
                                clear A310
                                simp only [Option.some.injEq, Prod.mk.injEq] at H
                                obtain ⟨rfl, rfl⟩ := H
                                go_enter Try.func14, Try.ntmps14
                                go_wp2_with (first | ((with_reducible refine gate_callee (f := 23) rfl ?_); refine goesL_ (some 89) rfl rfl Try.func23 (by kernel_rfl) rfl #[.bool (a2 != 0)] rfl (by (try simp only [List.map_toArray, List.map_cons, List.map_nil]); first | done | rfl | (simp only [List.length_drop, List.length_take]; rfl)) ?_; (with_reducible refine (ints_truth.calls (a2 != 0) t109 _ A31.out).mono ?_); rintro e w' ⟨rfl, ⟨nd, rfl⟩⟩; refine ⟨_, rfl, ?_⟩))
                                go_ret2
                                exact ⟨by first | rfl | (simp; done) | (simp [*]; done), by repeat (first | exact Drawn0.refl _ | apply Drawn0.step)⟩
                            · rw [if_neg c28] at H
                              have c28b0 : (a0 == 18) = false := beq_eq_false_iff_ne.mpr c28
                              have c28b1 : (a0 != 18) = true := bne_iff_ne.mpr c28
                              by_cases c32 : a0 = 19
                              · rw [if_pos c32] at H
                                have c32b0 : (a0 == 19) = true := beq_iff_eq.mpr c32
                                have c32b1 : (a0 != 19) = false := bne_eq_false_iff_eq.mpr c32
                                clear c32
                                replace H := Option.bind_eq_some_iff.mp H
                                obtain ⟨t110, A330, H⟩ := H
                                replace H : (some (t110, 0)) = some (r1, r2) := H
                                have A33 := Aside0.mk A330
                                clear A330
                                simp only [Option.some.injEq, Prod.mk.injEq] at H
                                obtain ⟨rfl, rfl⟩ := H
                                go_enter Try.func14, Try.ntmps14
                                go_wp2_with (first | ((with_reducible refine gate_callee (f := 23) rfl ?_); refine goesL_ (some 96) rfl rfl Try.func23 (by kernel_rfl) rfl #[.bool ((Go.bits .or .i64 a1 a2) != 0)] rfl (by (try simp only [List.map_toArray, List.map_cons, List.map_nil]); first | done | rfl | (simp only [List.length_drop, List.length_take]; rfl)) ?_; (with_reducible refine (ints_truth.calls ((Go.bits .or .i64 a1 a2) != 0) t110 _ A33.out).mono ?_); rintro e w' ⟨rfl, ⟨nd, rfl⟩⟩; refine ⟨_, rfl, ?_⟩))
                                go_ret2
                                exact ⟨by first | rfl | (simp; done) | (simp [*]; done), by repeat (first | exact Drawn0.refl _ | apply Drawn0.step)⟩
                              · rw [if_neg c32] at H
                                have c32b0 : (a0 == 19) = false := beq_eq_false_iff_ne.mpr c32
                                have c32b1 : (a0 != 19) = true := bne_iff_ne.mpr c32
                                simp only [Option.some.injEq, Prod.mk.injEq] at H
                                obtain ⟨rfl, rfl⟩ := H
                                go_enter Try.func14, Try.ntmps14
                                go_wp2
                                go_ret2
                                exact ⟨by first | rfl | (simp; done) | (simp [*]; done), by repeat (first | exact Drawn0.refl _ | apply Drawn0.step)⟩

/-! ### tailwaterref01_Truth: function 28 -/
def tailwaterref01_Truth.f (a0 : Bool) : Option (Int) := if a0 = true then (some 1) else (some 0)
set_option maxHeartbeats 8000000 in
set_option maxRecDepth 100000 in
theorem tailwaterref01_Truth.calls (a0 : Bool) (r : Int) (w : World) (h : tailwaterref01_Truth.f a0 = some r) :
    Calls Try.prog 28 #[.bool a0] w fun e w' => e = .returned (.int .i64 r) ∧ Drawn0 w w' := by
  have H : (if a0 = true then (some 1) else (some 0)) = some r := h
  clear h
  by_cases c2 : a0 = true
  · subst c2
    have H1 : (some 1) = some r := by rw [if_pos rfl] at H; exact H
    clear H
    have H := H1
    clear H1
    obtain rfl := Option.some.inj H
    go_enter Try.func28, Try.ntmps28
    go_wp2
    go_ret
    exact ⟨by first | rfl | (simp; done) | (simp [*]; done), by repeat (first | exact Drawn0.refl _ | apply Drawn0.step)⟩
  · replace c2 := Bool.eq_false_iff.mpr c2
    subst c2
    have H1 : (some 0) = some r := by rw [if_neg (show ¬ (false = true) by decide)] at H; exact H
    clear H
    have H := H1
    clear H1
    obtain rfl := Option.some.inj H
    go_enter Try.func28, Try.ntmps28
    go_wp2
    go_ret
    exact ⟨by first | rfl | (simp; done) | (simp [*]; done), by repeat (first | exact Drawn0.refl _ | apply Drawn0.step)⟩

/-! ### tailwaterref01_power: function 29 -/
def tailwaterref01_power.l0 : Nat → Int → Int → Int → Option (Int)
  | 0, _, _, _ => none
  | k + 1, x0, x3, x4 => if x4 < x0 then (tailwaterref01_power.l0 k x0 (wrap64 (x3 + x3)) (wrap64 (x4 + 1))) else (some x3)
def tailwaterref01_power.f (k : Nat) (a0 : Int) : Option (Int) := tailwaterref01_power.l0 k a0 1 0
theorem tailwaterref01_power.mono_l : ∀ k, (∀ y0 y1 y2, LeO (tailwaterref01_power.l0 k y0 y1 y2) (tailwaterref01_power.l0 (k + 1) y0 y1 y2))
  | 0 => fun _ _ _ r h => by simp [tailwaterref01_power.l0] at h
  | k + 1 => by
    have ih0 := tailwaterref01_power.mono_l k
    · intro y0 y1 y2
      unfold tailwaterref01_power.l0
      repeat' first
      | (with_reducible exact ih0 _ _ _)
      | (with_reducible exact LeO.refl _)
      | (with_reducible exact LeO.none _)
      | (with_reducible refine LeO.ite ?_ ?_)
      | (with_reducible refine LeO.bind ?_ (fun _ => ?_))
      | exact ih0 _ _ _
      | exact LeO.none _
      | refine LeO.ite ?_ ?_
      | refine LeO.bind ?_ (fun _ => ?_)
theorem tailwaterref01_power.mono : ∀ a0 k, LeO (tailwaterref01_power.f k a0) (tailwaterref01_power.f (k + 1) a0) := by
  intro a0 k
  have ih0 := tailwaterref01_power.mono_l k
  unfold tailwaterref01_power.f
  repeat' first
      | (with_reducible exact ih0 _ _ _)
      | (with_reducible exact LeO.refl _)
      | (with_reducible exact LeO.none _)
      | (with_reducible refine LeO.ite ?_ ?_)
      | (with_reducible refine LeO.bind ?_ (fun _ => ?_))
      | exact ih0 _ _ _
      | exact LeO.none _
      | refine LeO.ite ?_ ?_
      | refine LeO.bind ?_ (fun _ => ?_)
set_option maxHeartbeats 8000000 in
set_option maxRecDepth 100000 in
theorem tailwaterref01_power.calls (k : Nat) (a0 : Int) (r : Int) (w : World) (h : tailwaterref01_power.f k a0 = some r) :
    Calls Try.prog 29 #[.int .i64 a0] w fun e w' => e = .returned (.int .i64 r) ∧ Drawn0 w w' := by
  have H : (tailwaterref01_power.l0 k a0 1 0) = some r := h
  clear h
  have H' := Aside0.mk H
  clear H
  go_enter Try.func29, Try.ntmps29
  go_wp2
  go_loopg [3, 4] k (fun kq v3 v4 w' => ∃ (x3_1 : Int) (x4_1 : Int), v3 = .int .i64 x3_1 ∧ v4 = .int .i64 x4_1 ∧ Aside0 (tailwaterref01_power.l0 kq a0 x3_1 x4_1 = some r) ∧ Aside0 (kq ≤ k) ∧ Drawn0 w w')
  case atStart => exact ⟨(1), (0), (by first | rfl | (simp; done) | (simp [*]; done)), (by first | rfl | (simp; done) | (simp [*]; done)), H', ⟨Nat.le_refl _⟩, by repeat (first | exact Drawn0.refl _ | apply Drawn0.step)⟩
  case round =>
    clear H'
    obtain ⟨x3_1, x4_1, rfl, rfl, HA, HK1, ⟨m1, rfl⟩⟩ := hrel
    cases gk with
    | zero => exact absurd HA.out (by simp [tailwaterref01_power.l0])
    | succ k1 =>
      have H := HA.out
      clear HA
      simp only [tailwaterref01_power.l0] at H
      by_cases c2 : x4_1 < a0
      · rw [if_pos c2] at H
        have c2b0 : decide (x4_1 < a0) = true := decide_eq_true c2
        clear c2
        have H' := Aside0.mk H
        clear H
        go_wp2
        go_roundg k1
        case measure => have := HK1.out; omega
        case rel => exact ⟨(wrap64 (x3_1 + x3_1)), (wrap64 (x4_1 + 1)), (by first | rfl | (simp; done) | (simp [*]; done)), (by first | rfl | (simp; done) | (simp [*]; done)), H', ⟨by have := HK1.out; omega⟩, by repeat (first | exact Drawn0.refl _ | apply Drawn0.step)⟩
      · rw [if_neg c2] at H
        have c2b0 : decide (x4_1 < a0) = false := decide_eq_false c2
        clear c2
        obtain rfl := Option.some.inj H
        go_wp2
        go_ret
        exact ⟨by first | rfl | (simp; done) | (simp [*]; done), by repeat (first | exact Drawn0.refl _ | apply Drawn0.step)⟩

/-! ### tailwaterref01_Count: function 30 -/
def tailwaterref01_Count.f (a0 : Int) : Option (Int) := some (wrap64 (Int.tmod (IntKind.u64.wrap (a0)) 64))
set_option maxHeartbeats 8000000 in
set_option maxRecDepth 100000 in
theorem tailwaterref01_Count.calls (a0 : Int) (r : Int) (w : World) (h : tailwaterref01_Count.f a0 = some r) :
    Calls Try.prog 30 #[.int .i64 a0] w fun e w' => e = .returned (.int .i64 r) ∧ Drawn0 w w' := by
  have H : (some (wrap64 (Int.tmod (IntKind.u64.wrap (a0)) 64))) = some r := h
  clear h
  obtain rfl := Option.some.inj H
  go_enter Try.func30, Try.ntmps30
  go_wp2
  go_ret
  exact ⟨by first | rfl | (simp; done) | (simp [*]; done), by repeat (first | exact Drawn0.refl _ | apply Drawn0.step)⟩

/-! ### tailwaterref01_half: function 31 -/
def tailwaterref01_half.f (a0 : Int) : Option (Int) := if (Int.tmod a0 2) < 0 then (some (wrap64 ((wrap64 (Int.tdiv a0 2)) - 1))) else (some (wrap64 (Int.tdiv a0 2)))
set_option maxHeartbeats 8000000 in
set_option maxRecDepth 100000 in
theorem tailwaterref01_half.calls (a0 : Int) (r : Int) (w : World) (h : tailwaterref01_half.f a0 = some r) :
    Calls Try.prog 31 #[.int .i64 a0] w fun e w' => e = .returned (.int .i64 r) ∧ Drawn0 w w' := by
  have H : (if (Int.tmod a0 2) < 0 then (some (wrap64 ((wrap64 (Int.tdiv a0 2)) - 1))) else (some (wrap64 (Int.tdiv a0 2)))) = some r := h
  clear h
  by_cases c2 : (Int.tmod a0 2) < 0
  · rw [if_pos c2] at H
    have c2b0 : decide ((Int.tmod a0 2) < 0) = true := decide_eq_true c2
    clear c2
    obtain rfl := Option.some.inj H
    go_enter Try.func31, Try.ntmps31
    go_wp2
    go_ret
    exact ⟨by first | rfl | (simp; done) | (simp [*]; done), by repeat (first | exact Drawn0.refl _ | apply Drawn0.step)⟩
  · rw [if_neg c2] at H
    have c2b0 : decide ((Int.tmod a0 2) < 0) = false := decide_eq_false c2
    clear c2
    obtain rfl := Option.some.inj H
    go_enter Try.func31, Try.ntmps31
    go_wp2
    go_ret
    exact ⟨by first | rfl | (simp; done) | (simp [*]; done), by repeat (first | exact Drawn0.refl _ | apply Drawn0.step)⟩

/-! ### tailwaterref01_Compare: function 32 -/
def tailwaterref01_Compare.f (a0 : Int) (a1 : Int) (a2 : Int) : Option (Bool) := if a0 = 12 then (some (decide (a1 < a2))) else (if a0 = 13 then (if a1 < a2 then (some true) else (some (a1 == a2))) else (if a0 = 14 then (some (decide (a2 < a1))) else (if a0 = 15 then (if a2 < a1 then (some true) else (some (a1 == a2))) else (if a0 = 16 then (some (a1 == a2)) else (some (a1 != a2))))))
set_option maxHeartbeats 8000000 in
set_option maxRecDepth 100000 in
theorem tailwaterref01_Compare.calls (a0 : Int) (a1 : Int) (a2 : Int) (r : Bool) (w : World) (h : tailwaterref01_Compare.f a0 a1 a2 = some r) :
    Calls Try.prog 32 #[.int .u8 a0, .int .i64 a1, .int .i64 a2] w fun e w' => e = .returned (.bool r) ∧ Drawn0 w w' := by
  have H : (if a0 = 12 then (some (decide (a1 < a2))) else (if a0 = 13 then (if a1 < a2 then (some true) else (some (a1 == a2))) else (if a0 = 14 then (some (decide (a2 < a1))) else (if a0 = 15 then (if a2 < a1 then (some true) else (some (a1 == a2))) else (if a0 = 16 then (some (a1 == a2)) else (some (a1 != a2))))))) = some r := h
  clear h
  by_cases c4 : a0 = 12
  · rw [if_pos c4] at H
    have c4b0 : (a0 == 12) = true := beq_iff_eq.mpr c4
    have c4b1 : (a0 != 12) = false := bne_eq_false_iff_eq.mpr c4
    clear c4
    obtain rfl := Option.some.inj H
    go_enter Try.func32, Try.ntmps32
    go_wp2
    go_ret
    exact ⟨by first | rfl | (simp; done) | (simp [*]; done), by repeat (first | exact Drawn0.refl _ | apply Drawn0.step)⟩
  · rw [if_neg c4] at H
    have c4b0 : (a0 == 12) = false := beq_eq_false_iff_ne.mpr c4
    have c4b1 : (a0 != 12) = true := bne_iff_ne.mpr c4
    by_cases c5 : a0 = 13
    · rw [if_pos c5] at H
      have c5b0 : (a0 == 13) = true := beq_iff_eq.mpr c5
      have c5b1 : (a0 != 13) = false := bne_eq_false_iff_eq.mpr c5
      clear c5
      by_cases c6 : a1 < a2
      · rw [if_pos c6] at H
        have c6b0 : decide (a1 < a2) = true := decide_eq_true c6
        clear c6
        obtain rfl := Option.some.inj H
        go_enter Try.func32, Try.ntmps32
        go_wp2
        go_ret
        exact ⟨by first | rfl | (simp; done) | (simp [*]; done), by repeat (first | exact Drawn0.refl _ | apply Drawn0.step)⟩
      · rw [if_neg c6] at H
        have c6b0 : decide (a1 < a2) = false := decide_eq_false c6
        clear c6
        obtain rfl := Option.some.inj H
        go_enter Try.func32, Try.ntmps32
        go_wp2
        go_ret
        exact ⟨by first | rfl | (simp; done) | (simp [*]; done), by repeat (first | exact Drawn0.refl _ | apply Drawn0.step)⟩
    · rw [if_neg c5] at H
      have c5b0 : (a0 == 13) = false := beq_eq_false_iff_ne.mpr c5
      have c5b1 : (a0 != 13) = true := bne_iff_ne.mpr c5
      by_cases c7 : a0 = 14
      · rw [if_pos c7] at H
        have c7b0 : (a0 == 14) = true := beq_iff_eq.mpr c7
        have c7b1 : (a0 != 14) = false := bne_eq_false_iff_eq.mpr c7
        clear c7
        obtain rfl := Option.some.inj H
        go_enter Try.func32, Try.ntmps32
        go_wp2
        go_ret
        exact ⟨by first | rfl | (simp; done) | (simp [*]; done), by repeat (first | exact Drawn0.refl _ | apply Drawn0.step)⟩
      · rw [if_neg c7] at H
        have c7b0 : (a0 == 14) = false := beq_eq_false_iff_ne.mpr c7
        have c7b1 : (a0 != 14) = true := bne_iff_ne.mpr c7
        by_cases c8 : a0 = 15
        · rw [if_pos c8] at H
          have c8b0 : (a0 == 15) = true := beq_iff_eq.mpr c8
          have c8b1 : (a0 != 15) = false := bne_eq_false_iff_eq.mpr c8
          clear c8
          by_cases c9 : a2 < a1
          · rw [if_pos c9] at H
            have c9b0 : decide (a2 < a1) = true := decide_eq_true c9
            clear c9
            obtain rfl := Option.some.inj H
            go_enter Try.func32, Try.ntmps32
            go_wp2
            go_ret
            exact ⟨by first | rfl | (simp; done) | (simp [*]; done), by repeat (first | exact Drawn0.refl _ | apply Drawn0.step)⟩
          · rw [if_neg c9] at H
            have c9b0 : decide (a2 < a1) = false := decide_eq_false c9
            clear c9
            obtain rfl := Option.some.inj H
            go_enter Try.func32, Try.ntmps32
            go_wp2
            go_ret
            exact ⟨by first | rfl | (simp; done) | (simp [*]; done), by repeat (first | exact Drawn0.refl _ | apply Drawn0.step)⟩
        · rw [if_neg c8] at H
          have c8b0 : (a0 == 15) = false := beq_eq_false_iff_ne.mpr c8
          have c8b1 : (a0 != 15) = true := bne_iff_ne.mpr c8
          by_cases c10 : a0 = 16
          · rw [if_pos c10] at H
            have c10b0 : (a0 == 16) = true := beq_iff_eq.mpr c10
            have c10b1 : (a0 != 16) = false := bne_eq_false_iff_eq.mpr c10
            clear c10
            obtain rfl := Option.some.inj H
            go_enter Try.func32, Try.ntmps32
            go_wp2
            go_ret
            exact ⟨by first | rfl | (simp; done) | (simp [*]; done), by repeat (first | exact Drawn0.refl _ | apply Drawn0.step)⟩
          · rw [if_neg c10] at H
            have c10b0 : (a0 == 16) = false := beq_eq_false_iff_ne.mpr c10
            have c10b1 : (a0 != 16) = true := bne_iff_ne.mpr c10
            obtain rfl := Option.some.inj H
            go_enter Try.func32, Try.ntmps32
            go_wp2
            go_ret
            exact ⟨by first | rfl | (simp; done) | (simp [*]; done), by repeat (first | exact Drawn0.refl _ | apply Drawn0.step)⟩

/-! ### tailwaterref01_Given: function 24 -/
def tailwaterref01_Given.l0 : Nat → Int → Int → Int → Option (Int)
  | 0, _, _, _ => none
  | k + 1, x1, x2, x7 => (tailwaterref01_Count.f x2).bind fun t114 => (if x7 < t114 then ((tailwaterref01_half.f x1).bind fun t115 => (tailwaterref01_Given.l0 k t115 x2 (wrap64 (x7 + 1)))) else (some x1))
def tailwaterref01_Given.f (k : Nat) (a0 : Int) (a1 : Int) (a2 : Int) : Option (Int) := if a0 = 5 then (some (wrap64 (-a1))) else (if a0 = 6 then ((tailwaterref01_Truth.f (a1 == 0)).bind fun t111 => (some t111)) else (if a0 = 7 then (some (wrap64 (a1 * a2))) else (if a0 = 8 then (some (wrap64 (a1 + a2))) else (if a0 = 9 then (some (wrap64 (a1 - a2))) else (if a0 = 10 then ((tailwaterref01_Count.f a2).bind fun t112 => ((tailwaterref01_power.f k t112).bind fun t113 => (some (wrap64 (a1 * t113))))) else (if a0 = 11 then (tailwaterref01_Given.l0 k a1 a2 0) else (if a0 = 18 then (if a1 = 0 then ((tailwaterref01_Truth.f false).bind fun t116 => (some t116)) else ((tailwaterref01_Truth.f (a2 != 0)).bind fun t117 => (some t117))) else (if a0 = 19 then (if a1 = 0 then ((tailwaterref01_Truth.f (a2 != 0)).bind fun t118 => (some t118)) else ((tailwaterref01_Truth.f true).bind fun t119 => (some t119))) else ((tailwaterref01_Compare.f a0 a1 a2).bind fun t120 => ((tailwaterref01_Truth.f t120).bind fun t121 => (some t121)))))))))))
theorem tailwaterref01_Given.mono_l : ∀ k, (∀ y0 y1 y2, LeO (tailwaterref01_Given.l0 k y0 y1 y2) (tailwaterref01_Given.l0 (k + 1) y0 y1 y2))
  | 0 => fun _ _ _ r h => by simp [tailwaterref01_Given.l0] at h
  | k + 1 => by
    have ih0 := tailwaterref01_Given.mono_l k
    · intro y0 y1 y2
      unfold tailwaterref01_Given.l0
      repeat' first
      | (with_reducible exact ih0 _ _ _)
      | (with_reducible exact tailwaterref01_power.mono _ _)
      | (with_reducible exact LeO.refl _)
      | (with_reducible exact LeO.none _)
      | (with_reducible refine LeO.ite ?_ ?_)
      | (with_reducible refine LeO.bind ?_ (fun _ => ?_))
      | exact ih0 _ _ _
      | exact tailwaterref01_power.mono _ _
      | exact LeO.none _
      | refine LeO.ite ?_ ?_
      | refine LeO.bind ?_ (fun _ => ?_)
theorem tailwaterref01_Given.mono : ∀ a0 a1 a2 k, LeO (tailwaterref01_Given.f k a0 a1 a2) (tailwaterref01_Given.f (k + 1) a0 a1 a2) := by
  intro a0 a1 a2 k
  have ih0 := tailwaterref01_Given.mono_l k
  unfold tailwaterref01_Given.f
  repeat' first
      | (with_reducible exact ih0 _ _ _)
      | (with_reducible exact tailwaterref01_power.mono _ _)
      | (with_reducible exact LeO.refl _)
      | (with_reducible exact LeO.none _)
      | (with_reducible refine LeO.ite ?_ ?_)
      | (with_reducible refine LeO.bind ?_ (fun _ => ?_))
      | exact ih0 _ _ _
      | exact tailwaterref01_power.mono _ _
      | exact LeO.none _
      | refine LeO.ite ?_ ?_
      | refine LeO.bind ?_ (fun _ => ?_)
set_option maxHeartbeats 8000000 in
set_option maxRecDepth 100000 in
theorem tailwaterref01_Given.calls (k : Nat) (a0 : Int) (a1 : Int) (a2 : Int) (r : Int) (w : World) (h : tailwaterref01_Given.f k a0 a1 a2 = some r) :
    Calls Try.prog 24 #[.int .u8 a0, .int .i64 a1, .int .i64 a2] w fun e w' => e = .returned (.int .i64 r) ∧ Drawn0 w w' := by
  have H : (if a0 = 5 then (some (wrap64 (-a1))) else (if a0 = 6 then ((tailwaterref01_Truth.f (a1 == 0)).bind fun t111 => (some t111)) else (if a0 = 7 then (some (wrap64 (a1 * a2))) else (if a0 = 8 then (some (wrap64 (a1 + a2))) else (if a0 = 9 then (some (wrap64 (a1 - a2))) else (if a0 = 10 then ((tailwaterref01_Count.f a2).bind fun t112 => ((tailwaterref01_power.f k t112).bind fun t113 => (some (wrap64 (a1 * t113))))) else (if a0 = 11 then (tailwaterref01_Given.l0 k a1 a2 0) else (if a0 = 18 then (if a1 = 0 then ((tailwaterref01_Truth.f false).bind fun t116 => (some t116)) else ((tailwaterref01_Truth.f (a2 != 0)).bind fun t117 => (some t117))) else (if a0 = 19 then (if a1 = 0 then ((tailwaterref01_Truth.f (a2 != 0)).bind fun t118 => (some t118)) else ((tailwaterref01_Truth.f true).bind fun t119 => (some t119))) else ((tailwaterref01_Compare.f a0 a1 a2).bind fun t120 => ((tailwaterref01_Truth.f t120).bind fun t121 => (some t121)))))))))))) = some r := h
  clear h
  by_cases c4 : a0 = 5
  · rw [if_pos c4] at H
    have c4b0 : (a0 == 5) = true := beq_iff_eq.mpr c4
    have c4b1 : (a0 != 5) = false := bne_eq_false_iff_eq.mpr c4
    clear c4
    obtain rfl := Option.some.inj H
    go_enter Try.func24, Try.ntmps24
    go_wp2
    go_ret
    exact ⟨by first | rfl | (simp; done) | (simp [*]; done), by repeat (first | exact Drawn0.refl _ | apply Drawn0.step)⟩
  · rw [if_neg c4] at H
    have c4b0 : (a0 == 5) = false := beq_eq_false_iff_ne.mpr c4
    have c4b1 : (a0 != 5) = true := bne_iff_ne.mpr c4
    by_cases c5 : a0 = 6
    · rw [if_pos c5] at H
      have c5b0 : (a0 == 6) = true := beq_iff_eq.mpr c5
      have c5b1 : (a0 != 6) = false := bne_eq_false_iff_eq.mpr c5
      clear c5
      replace H := Option.bind_eq_some_iff.mp H
      obtain ⟨t111, A60, H⟩ := H
      replace H : (some t111) = some r := H
      have A6 := Aside0.mk A60
      clear A60
      obtain rfl := Option.some.inj H
      go_enter Try.func24, Try.ntmps24
      go_wp2_with (first | ((with_reducible refine gate_callee (f := 28) rfl ?_); refine goesL_ (some 17) rfl rfl Try.func28 (by kernel_rfl) rfl #[.bool (a1 == 0)] rfl (by (try simp only [List.map_toArray, List.map_cons, List.map_nil]); first | done | rfl | (simp only [List.length_drop, List.length_take]; rfl)) ?_; (with_reducible refine (tailwaterref01_Truth.calls (a1 == 0) t111 _ A6.out).mono ?_); rintro e w' ⟨rfl, ⟨nd, rfl⟩⟩; refine ⟨_, rfl, ?_⟩))
      go_ret
      exact ⟨by first | rfl | (simp; done) | (simp [*]; done), by repeat (first | exact Drawn0.refl _ | apply Drawn0.step)⟩
    · rw [if_neg c5] at H
      have c5b0 : (a0 == 6) = false := beq_eq_false_iff_ne.mpr c5
      have c5b1 : (a0 != 6) = true := bne_iff_ne.mpr c5
      by_cases c7 : a0 = 7
      · rw [if_pos c7] at H
        have c7b0 : (a0 == 7) = true := beq_iff_eq.mpr c7
        have c7b1 : (a0 != 7) = false := bne_eq_false_iff_eq.mpr c7
        clear c7
        obtain rfl := Option.some.inj H
        go_enter Try.func24, Try.ntmps24
        go_wp2
        go_ret
        exact ⟨by first | rfl | (simp; done) | (simp [*]; done), by repeat (first | exact Drawn0.refl _ | apply Drawn0.step)⟩
      · rw [if_neg c7] at H
        have c7b0 : (a0 == 7) = false := beq_eq_false_iff_ne.mpr c7
        have c7b1 : (a0 != 7) = true := bne_iff_ne.mpr c7
        by_cases c8 : a0 = 8
        · rw [if_pos c8] at H
          have c8b0 : (a0 == 8) = true := beq_iff_eq.mpr c8
          have c8b1 : (a0 != 8) = false := bne_eq_false_iff_eq.mpr c8
          clear c8
          obtain rfl := Option.some.inj H
          go_enter Try.func24, Try.ntmps24
          go_wp2
          go_ret
          exact ⟨by first | rfl | (simp; done) | (simp [*]; done), by repeat (first | exact Drawn0.refl _ | apply Drawn0.step)⟩
        · rw [if_neg c8] at H
          have c8b0 : (a0 == 8) = false := beq_eq_false_iff_ne.mpr c8
          have c8b1 : (a0 != 8) = true := bne_iff_ne.mpr c8
          by_cases c9 : a0 = 9
          · rw [if_pos c9] at H
            have c9b0 : (a0 == 9) = true := beq_iff_eq.mpr c9
            have c9b1 : (a0 != 9) = false := bne_eq_false_iff_eq.mpr c9
            clear c9
            obtain rfl := Option.some.inj H
            go_enter Try.func24, Try.ntmps24
            go_wp2
            go_ret
            exact ⟨by first | rfl | (simp; done) | (simp [*]; done), by repeat (first | exact Drawn0.refl _ | apply Drawn0.step)⟩
          · rw [if_neg c9] at H
            have c9b0 : (a0 == 9) = false := beq_eq_false_iff_ne.mpr c9
            have c9b1 : (a0 != 9) = true := bne_iff_ne.mpr c9
            by_cases c10 : a0 = 10
            · rw [if_pos c10] at H
              have c10b0 : (a0 == 10) = true := beq_iff_eq.mpr c10
              have c10b1 : (a0 != 10) = false := bne_eq_false_iff_eq.mpr c10
              clear c10
              replace H := Option.bind_eq_some_iff.mp H
              obtain ⟨t112, A110, H⟩ := H
              replace H : ((tailwaterref01_power.f k t112).bind fun t113 => (some (wrap64 (a1 * t113)))) = some r := H
              have A11 := Aside0.mk A110
              clear A110
              replace H := Option.bind_eq_some_iff.mp H
              obtain ⟨t113, A120, H⟩ := H
              replace H : (some (wrap64 (a1 * t113))) = some r := H
              have A12 := Aside0.mk A120
              clear A120
              obtain rfl := Option.some.inj H
              go_enter Try.func24, Try.ntmps24
              go_wp2_with (first | ((with_reducible refine gate_callee (f := 30) rfl ?_); refine goesL_ (some 37) rfl rfl Try.func30 (by kernel_rfl) rfl #[.int .i64 a2] rfl (by (try simp only [List.map_toArray, List.map_cons, List.map_nil]); first | done | rfl | (simp only [List.length_drop, List.length_take]; rfl)) ?_; (with_reducible refine (tailwaterref01_Count.calls a2 t112 _ A11.out).mono ?_); rintro e w' ⟨rfl, ⟨nd, rfl⟩⟩; refine ⟨_, rfl, ?_⟩) | ((with_reducible refine gate_callee (f := 29) rfl ?_); refine goesL_ (some 38) rfl rfl Try.func29 (by kernel_rfl) rfl #[.int .i64 t112] rfl (by (try simp only [List.map_toArray, List.map_cons, List.map_nil]); first | done | rfl | (simp only [List.length_drop, List.length_take]; rfl)) ?_; (with_reducible refine (tailwaterref01_power.calls k t112 t113 _ A12.out).mono ?_); rintro e w' ⟨rfl, ⟨nd, rfl⟩⟩; refine ⟨_, rfl, ?_⟩))
              go_ret
              exact ⟨by first | rfl | (simp; done) | (simp [*]; done), by repeat (first | exact Drawn0.refl _ | apply Drawn0.step)⟩
            · rw [if_neg c10] at H
              have c10b0 : (a0 == 10) = false := beq_eq_false_iff_ne.mpr c10
              have c10b1 : (a0 != 10) = true := bne_iff_ne.mpr c10
              by_cases c13 : a0 = 11
              · rw [if_pos c13] at H
                have c13b0 : (a0 == 11) = true := beq_iff_eq.mpr c13
                have c13b1 : (a0 != 11) = false := bne_eq_false_iff_eq.mpr c13
                clear c13
                have H' := Aside0.mk H
                clear H
                go_enter Try.func24, Try.ntmps24
                go_wp2
                go_loopg [1, 7] k (fun kq v1 v7 w' => ∃ (x1_1 : Int) (x7_1 : Int), v1 = .int .i64 x1_1 ∧ v7 = .int .i64 x7_1 ∧ Aside0 (tailwaterref01_Given.l0 kq x1_1 a2 x7_1 = some r) ∧ Aside0 (kq ≤ k) ∧ Drawn0 w w')
                case atStart => exact ⟨(a1), (0), (by first | rfl | (simp; done) | (simp [*]; done)), (by first | rfl | (simp; done) | (simp [*]; done)), H', ⟨Nat.le_refl _⟩, by repeat (first | exact Drawn0.refl _ | apply Drawn0.step)⟩
                case round =>
                  clear H'
                  try clear c1
                  try clear c2
                  try clear p2
                  try clear c3
                  try clear c4
                  try clear c4b0
                  try clear c4b1
                  try clear c5
                  try clear c5b0
                  try clear c5b1
                  try clear p6
                  try clear c7
                  try clear c7b0
                  try clear c7b1
                  try clear c8
                  try clear c8b0
                  try clear c8b1
                  try clear c9
                  try clear c9b0
                  try clear c9b1
                  try clear c10
                  try clear c10b0
                  try clear c10b1
                  try clear c13
                  try clear c13b0
                  try clear c13b1
                  obtain ⟨x1_1, x7_1, rfl, rfl, HA, HK1, ⟨m1, rfl⟩⟩ := hrel
                  cases gk with
                  | zero => exact absurd HA.out (by simp [tailwaterref01_Given.l0])
                  | succ k1 =>
                    have H := HA.out
                    clear HA
                    simp only [tailwaterref01_Given.l0] at H
                    replace H := Option.bind_eq_some_iff.mp H
                    obtain ⟨t114, A140, H⟩ := H
                    replace H : (if x7_1 < t114 then ((tailwaterref01_half.f x1_1).bind fun t115 => (tailwaterref01_Given.l0 k1 t115 a2 (wrap64 (x7_1 + 1)))) else (some x1_1)) = some r := H
                    have A14 := Aside0.mk A140
                    clear A140
                    by_cases c15 : x7_1 < t114
                    · rw [if_pos c15] at H
                      have c15b0 : decide (x7_1 < t114) = true := decide_eq_true c15
                      clear c15
                      replace H := Option.bind_eq_some_iff.mp H
                      obtain ⟨t115, A160, H⟩ := H
                      replace H : (tailwaterref01_Given.l0 k1 t115 a2 (wrap64 (x7_1 + 1))) = some r := H
                      have A16 := Aside0.mk A160
                      clear A160
                      have H' := Aside0.mk H
                      clear H
                      go_wp2_with (first | ((with_reducible refine gate_callee (f := 30) rfl ?_); refine goesL_ (some 44) rfl rfl Try.func30 (by kernel_rfl) rfl #[.int .i64 a2] rfl (by (try simp only [List.map_toArray, List.map_cons, List.map_nil]); first | done | rfl | (simp only [List.length_drop, List.length_take]; rfl)) ?_; (with_reducible refine (tailwaterref01_Count.calls a2 t114 _ A14.out).mono ?_); rintro e w' ⟨rfl, ⟨nd, rfl⟩⟩; refine ⟨_, rfl, ?_⟩) | ((with_reducible refine gate_callee (f := 31) rfl ?_); refine goesL_ (some 49) rfl rfl Try.func31 (by kernel_rfl) rfl #[.int .i64 x1_1] rfl (by (try simp only [List.map_toArray, List.map_cons, List.map_nil]); first | done | rfl | (simp only [List.length_drop, List.length_take]; rfl)) ?_; (with_reducible refine (tailwaterref01_half.calls x1_1 t115 _ A16.out).mono ?_); rintro e w' ⟨rfl, ⟨nd, rfl⟩⟩; refine ⟨_, rfl, ?_⟩))
                      go_roundg k1
                      case measure => have := HK1.out; omega
                      case rel => exact ⟨(t115), (wrap64 (x7_1 + 1)), (by first | rfl | (simp; done) | (simp [*]; done)), (by first | rfl | (simp; done) | (simp [*]; done)), H', ⟨by have := HK1.out; omega⟩, by repeat (first | exact Drawn0.refl _ | apply Drawn0.step)⟩
                    · rw [if_neg c15] at H
                      have c15b0 : decide (x7_1 < t114) = false := decide_eq_false c15
                      clear c15
                      obtain rfl := Option.some.inj H
                      go_wp2_with (first | ((with_reducible refine gate_callee (f := 30) rfl ?_); refine goesL_ (some 44) rfl rfl Try.func30 (by kernel_rfl) rfl #[.int .i64 a2] rfl (by (try simp only [List.map_toArray, List.map_cons, List.map_nil]); first | done | rfl | (simp only [List.length_drop, List.length_take]; rfl)) ?_; (with_reducible refine (tailwaterref01_Count.calls a2 t114 _ A14.out).mono ?_); rintro e w' ⟨rfl, ⟨nd, rfl⟩⟩; refine ⟨_, rfl, ?_⟩))
                      go_ret
                      exact ⟨by first | rfl | (simp; done) | (simp [*]; done), by repeat (first | exact Drawn0.refl _ | apply Drawn0.step)⟩
              · rw [if_neg c13] at H
                have c13b0 : (a0 == 11) = false := beq_eq_false_iff_ne.mpr c13
                have c13b1 : (a0 != 11) = true := bne_iff_ne.mpr c13
                by_cases c17 : a0 = 18
                · rw [if_pos c17] at H
                  have c17b0 : (a0 == 18) = true := beq_iff_eq.mpr c17
                  have c17b1 : (a0 != 18) = false := bne_eq_false_iff_eq.mpr c17
                  clear c17
                  by_cases c18 : a1 = 0
                  · rw [if_pos c18] at H
                    have c18b0 : (a1 == 0) = true := beq_iff_eq.mpr c18
                    have c18b1 : (a1 != 0) = false := bne_eq_false_iff_eq.mpr c18
                    clear c18
                    replace H := Option.bind_eq_some_iff.mp H
                    obtain ⟨t116, A190, H⟩ := H
                    replace H : (some t116) = some r := H
                    have A19 := Aside0.mk A190
                    clear A190
                    obtain rfl := Option.some.inj H
                    go_enter Try.func24, Try.ntmps24
                    go_wp2_with (first | ((with_reducible refine gate_callee (f := 28) rfl ?_); refine goesL_ (some 59) rfl rfl Try.func28 (by kernel_rfl) rfl #[.bool false] rfl (by (try simp only [List.map_toArray, List.map_cons, List.map_nil]); first | done | rfl | (simp only [List.length_drop, List.length_take]; rfl)) ?_; (with_reducible refine (tailwaterref01_Truth.calls false t116 _ A19.out).mono ?_); rintro e w' ⟨rfl, ⟨nd, rfl⟩⟩; refine ⟨_, rfl, ?_⟩))
                    go_ret
                    exact ⟨by first | rfl | (simp; done) | (simp [*]; done), by repeat (first | exact Drawn0.refl _ | apply Drawn0.step)⟩
                  · rw [if_neg c18] at H
                    have c18b0 : (a1 == 0) = false := beq_eq_false_iff_ne.mpr c18
                    have c18b1 : (a1 != 0) = true := bne_iff_ne.mpr c18
                    replace H := Option.bind_eq_some_iff.mp H
                    obtain ⟨t117, A200, H⟩ := H
                    replace H : (some t117) = some r := H
                    have A20 := Aside0.mk A200
                    clear A200
                    obtain rfl := Option.some.inj H
                    go_enter Try.func24, Try.ntmps24
                    go_wp2_with (first | ((with_reducible refine gate_callee (f := 28) rfl ?_); refine goesL_ (some 59) rfl rfl Try.func28 (by kernel_rfl) rfl #[.bool (a2 != 0)] rfl (by (try simp only [List.map_toArray, List.map_cons, List.map_nil]); first | done | rfl | (simp only [List.length_drop, List.length_take]; rfl)) ?_; (with_reducible refine (tailwaterref01_Truth.calls (a2 != 0) t117 _ A20.out).mono ?_); rintro e w' ⟨rfl, ⟨nd, rfl⟩⟩; refine ⟨_, rfl, ?_⟩))
                    go_ret
                    exact ⟨by first | rfl | (simp; done) | (simp [*]; done), by repeat (first | exact Drawn0.refl _ | apply Drawn0.step)⟩
                · rw [if_neg c17] at H
                  have c17b0 : (a0 == 18) = false := beq_eq_false_iff_ne.mpr c17
                  have c17b1 : (a0 != 18) = true := bne_iff_ne.mpr c17
                  by_cases c21 : a0 = 19
                  · rw [if_pos c21] at H
                    have c21b0 : (a0 == 19) = true := beq_iff_eq.mpr c21
                    have c21b1 : (a0 != 19) = false := bne_eq_false_iff_eq.mpr c21
                    clear c21
                    by_cases c22 : a1 = 0
                    · rw [if_pos c22] at H
                      have c22b0 : (a1 == 0) = true := beq_iff_eq.mpr c22
                      have c22b1 : (a1 != 0) = false := bne_eq_false_iff_eq.mpr c22
                      clear c22
                      replace H := Option.bind_eq_some_iff.mp H
                      obtain ⟨t118, A230, H⟩ := H
                      replace H : (some t118) = some r := H
                      have A23 := Aside0.mk A230
                      clear A230
                      obtain rfl := Option.some.inj H
                      go_enter Try.func24, Try.ntmps24
                      go_wp2_with (first | ((with_reducible refine gate_callee (f := 28) rfl ?_); refine goesL_ (some 68) rfl rfl Try.func28 (by kernel_rfl) rfl #[.bool (a2 != 0)] rfl (by (try simp only [List.map_toArray, List.map_cons, List.map_nil]); first | done | rfl | (simp only [List.length_drop, List.length_take]; rfl)) ?_; (with_reducible refine (tailwaterref01_Truth.calls (a2 != 0) t118 _ A23.out).mono ?_); rintro e w' ⟨rfl, ⟨nd, rfl⟩⟩; refine ⟨_, rfl, ?_⟩))
                      go_ret
                      exact ⟨by first | rfl | (simp; done) | (simp [*]; done), by repeat (first | exact Drawn0.refl _ | apply Drawn0.step)⟩
                    · rw [if_neg c22] at H
                      have c22b0 : (a1 == 0) = false := beq_eq_false_iff_ne.mpr c22
                      have c22b1 : (a1 != 0) = true := bne_iff_ne.mpr c22
                      replace H := Option.bind_eq_some_iff.mp H
                      obtain ⟨t119, A240, H⟩ := H
                      replace H : (some t119) = some r := H
                      have A24 := Aside0.mk A240
                      clear A240
                      obtain rfl := Option.some.inj H
                      go_enter Try.func24, Try.ntmps24
                      go_wp2_with (first | ((with_reducible refine gate_callee (f := 28) rfl ?_); refine goesL_ (some 68) rfl rfl Try.func28 (by kernel_rfl) rfl #[.bool true] rfl (by (try simp only [List.map_toArray, List.map_cons, List.map_nil]); first | done | rfl | (simp only [List.length_drop, List.length_take]; rfl)) ?_; (with_reducible refine (tailwaterref01_Truth.calls true t119 _ A24.out).mono ?_); rintro e w' ⟨rfl, ⟨nd, rfl⟩⟩; refine ⟨_, rfl, ?_⟩))
                      go_ret
                      exact ⟨by first | rfl | (simp; done) | (simp [*]; done), by repeat (first | exact Drawn0.refl _ | apply Drawn0.step)⟩
                  · rw [if_neg c21] at H
                    have c21b0 : (a0 == 19) = false := beq_eq_false_iff_ne.mpr c21
                    have c21b1 : (a0 != 19) = true := bne_iff_ne.mpr c21
                    replace H := Option.bind_eq_some_iff.mp H
                    obtain ⟨t120, A250, H⟩ := H
                    replace H : ((tailwaterref01_Truth.f t120).bind fun t121 => (some t121)) = some r := H
                    have A25 := Aside0.mk A250
                    clear A250
                    replace H := Option.bind_eq_some_iff.mp H
                    obtain ⟨t121, A260, H⟩ := H
                    replace H : (some t121) = some r := H
                    have A26 := Aside0.mk A260
                    clear A260
                    obtain rfl := Option.some.inj H
                    go_enter Try.func24, Try.ntmps24
                    go_wp2_with (first | ((with_reducible refine gate_callee (f := 32) rfl ?_); refine goesL_ (some 72) rfl rfl Try.func32 (by kernel_rfl) rfl #[.int .u8 a0, .int .i64 a1, .int .i64 a2] rfl (by (try simp only [List.map_toArray, List.map_cons, List.map_nil]); first | done | rfl | (simp only [List.length_drop, List.length_take]; rfl)) ?_; (with_reducible refine (tailwaterref01_Compare.calls a0 a1 a2 t120 _ A25.out).mono ?_); rintro e w' ⟨rfl, ⟨nd, rfl⟩⟩; refine ⟨_, rfl, ?_⟩) | ((with_reducible refine gate_callee (f := 28) rfl ?_); refine goesL_ (some 73) rfl rfl Try.func28 (by kernel_rfl) rfl #[.bool t120] rfl (by (try simp only [List.map_toArray, List.map_cons, List.map_nil]); first | done | rfl | (simp only [List.length_drop, List.length_take]; rfl)) ?_; (with_reducible refine (tailwaterref01_Truth.calls t120 t121 _ A26.out).mono ?_); rintro e w' ⟨rfl, ⟨nd, rfl⟩⟩; refine ⟨_, rfl, ?_⟩))
                    go_ret
                    exact ⟨by first | rfl | (simp; done) | (simp [*]; done), by repeat (first | exact Drawn0.refl _ | apply Drawn0.step)⟩

end Go.Proofs.Ytpmnneghnbbpjaa.PIntsDoes

/- Each theorem X.calls below says: where the Lean function X.f answers, the Go function X returns that answer, and whatever lay in memory before the call is left as it was. -/
import Derived.Test.YtpmnneghnbbpjaaMyx0
import Derived.Test.YtpmnneghnbbpjaaMyx1
import Derived.Test.YtpmnneghnbbpjaaMyx2
import Derived.Test.YtpmnneghnbbpjaaMyx3
import Derived.Test.YtpmnneghnbbpjaaMyx4
import Derived.Test.YtpmnneghnbbpjaaMyx6
import Derived.Test.YtpmnneghnbbpjaaMyx18
namespace Go.Proofs.Ytpmnneghnbbpjaa.My
open Go.RowKit Go.Proofs.YtpmnneghnbbpjaaW.PrintWords Go.Proofs.YtpmnneghnbbpjaaW.PrintLast Go.Proofs.YtpmnneghnbbpjaaW.PrintMore
attribute [local go_sem] max2_int min2_int max_two min_two max_three min_three max_four min_four   -- for this text's walks alone
set_option linter.unusedVariables false
set_option linter.unusedSimpArgs false

attribute [local go_sem high] eqA23
/-! ### tailwaterlaw16_AccumsNames: function 6 -/
def tailwaterlaw16_AccumsNames.l0 : Nat → List (S23) → Int → Option (Bool)
  | 0, _, _ => none
  | k + 1, x1, x2 => if x2 < (x1.length : Int) then (if 0 ≤ x2 then ((accums_Join.f k ((rd_T23 x1 x2).f0) ((rd_T23 x1 x2).f1) ((rd_T23 x1 x2).f2) ((rd_T23 x1 x2).f3) 0 0 0 0).bind fun bt267 => ((accums_Of.f 1).bind fun bt273 => ((accums_Join.f k bt273.1 bt273.2.1 bt273.2.2.1 bt273.2.2.2 ((rd_T23 x1 x2).f0) ((rd_T23 x1 x2).f1) ((rd_T23 x1 x2).f2) ((rd_T23 x1 x2).f3)).bind fun bt278 => ((accums_Value.f k 2 ((rd_T23 x1 x2).f0) ((rd_T23 x1 x2).f1) ((rd_T23 x1 x2).f2) ((rd_T23 x1 x2).f3)).bind fun bt285 => ((accums_Value.f k 5 ((rd_T23 x1 x2).f0) ((rd_T23 x1 x2).f1) ((rd_T23 x1 x2).f2) ((rd_T23 x1 x2).f3)).bind fun bt288 => ((accums_Check.f k ((rd_T23 x1 x2).f0) ((rd_T23 x1 x2).f1) ((rd_T23 x1 x2).f2) ((rd_T23 x1 x2).f3)).bind fun t291 => (if t291 = 8 then (if bt267.2.2.2.2 = 8 then (if bt278.2.2.2.2 = 8 then (if bt285.2 = 8 then (if bt288.2 = 2 then (tailwaterlaw16_AccumsNames.l0 k x1 (wrap64 (x2 + 1))) else (some false)) else (some false)) else (some false)) else (some false)) else (some false)))))))) else (none)) else ((accums_Of.f 0).bind fun bt293 => ((accums_Join.f k 1073741824 7 0 0 bt293.1 bt293.2.1 bt293.2.2.1 bt293.2.2.2).bind fun bt297 => ((accums_Join.f k 1073741824 7 0 0 0 0 0 0).bind fun bt303 => ((accums_Value.f k 1 0 0 0 0).bind fun bt309 => ((accums_Value.f k 0 0 0 0 0).bind fun bt311 => ((accums_Value.f k 1 1073741824 7 0 0).bind fun bt313 => ((accums_Of.f (-9)).bind fun bt315 => ((accums_Value.f k 4 bt315.1 bt315.2.1 bt315.2.2.1 bt315.2.2.2).bind fun bt319 => ((tailwaterlaw16_alive.f k).bind fun t321 => (if t321 = true then (if bt297.2.2.2.2 = 4 then (if bt303.2.2.2.2 = 0 then (if (bt303.1 == 1073741824 && (bt303.2.1 == 7 && (bt303.2.2.1 == 0 && (bt303.2.2.2.1 == 0)))) = true then (if bt309.2 = 6 then (if bt311.2 = 2 then (if bt313.2 = 0 then (if bt313.1 = 1073741824 then (if bt319.2 = 0 then (some (bt319.1 == (-9))) else (some false)) else (some false)) else (some false)) else (some false)) else (some false)) else (some false)) else (some false)) else (some false)) else (some false)))))))))))
def tailwaterlaw16_AccumsNames.f (k : Nat)  : Option (Bool) := tailwaterlaw16_AccumsNames.l0 k (([(⟨0, 1, 0, 0⟩ : S23), (⟨0, 0, 1, 0⟩ : S23), (⟨0, 0, 0, (-1)⟩ : S23), (⟨(-1), 0, 0, 0⟩ : S23), (⟨1, 1, 0, 0⟩ : S23), (⟨1, 2, 2, 3⟩ : S23), (⟨2, 0, 1, 0⟩ : S23), (⟨1073741825, 0, 0, 0⟩ : S23)] : List (S23))) 0
theorem tailwaterlaw16_AccumsNames.mono_l : ∀ k, (∀ y0 y1, LeO (tailwaterlaw16_AccumsNames.l0 k y0 y1) (tailwaterlaw16_AccumsNames.l0 (k + 1) y0 y1))
  | 0 => fun _ _ r h => by simp [tailwaterlaw16_AccumsNames.l0] at h
  | k + 1 => by
    have ih0 := tailwaterlaw16_AccumsNames.mono_l k
    · intro y0 y1
      unfold tailwaterlaw16_AccumsNames.l0
      repeat' first
      | (with_reducible exact ih0 _ _)
      | (with_reducible exact accums_Check.mono _ _ _ _ _)
      | (with_reducible exact accums_Join.mono _ _ _ _ _ _ _ _ _)
      | (with_reducible exact accums_Value.mono _ _ _ _ _ _)
      | (with_reducible exact tailwaterlaw16_alive.mono _)
      | (with_reducible exact LeO.refl _)
      | (with_reducible exact LeO.none _)
      | (with_reducible refine LeO.ite ?_ ?_)
      | (with_reducible refine LeO.bind ?_ (fun _ => ?_))
      | exact ih0 _ _
      | exact accums_Check.mono _ _ _ _ _
      | exact accums_Join.mono _ _ _ _ _ _ _ _ _
      | exact accums_Value.mono _ _ _ _ _ _
      | exact tailwaterlaw16_alive.mono _
      | exact LeO.none _
      | refine LeO.ite ?_ ?_
      | refine LeO.bind ?_ (fun _ => ?_)
theorem tailwaterlaw16_AccumsNames.mono : ∀ k, LeO (tailwaterlaw16_AccumsNames.f k ) (tailwaterlaw16_AccumsNames.f (k + 1) ) := by
  intro  k
  have ih0 := tailwaterlaw16_AccumsNames.mono_l k
  unfold tailwaterlaw16_AccumsNames.f
  repeat' first
      | (with_reducible exact ih0 _ _)
      | (with_reducible exact accums_Check.mono _ _ _ _ _)
      | (with_reducible exact accums_Join.mono _ _ _ _ _ _ _ _ _)
      | (with_reducible exact accums_Value.mono _ _ _ _ _ _)
      | (with_reducible exact tailwaterlaw16_alive.mono _)
      | (with_reducible exact LeO.refl _)
      | (with_reducible exact LeO.none _)
      | (with_reducible refine LeO.ite ?_ ?_)
      | (with_reducible refine LeO.bind ?_ (fun _ => ?_))
      | exact ih0 _ _
      | exact accums_Check.mono _ _ _ _ _
      | exact accums_Join.mono _ _ _ _ _ _ _ _ _
      | exact accums_Value.mono _ _ _ _ _ _
      | exact tailwaterlaw16_alive.mono _
      | exact LeO.none _
      | refine LeO.ite ?_ ?_
      | refine LeO.bind ?_ (fun _ => ?_)
def tailwaterlaw16_AccumsNames.T6 : Bool × List (List Nat × List Nat) := (true, [([], []), ([], []), ([], []), ([1, 2], [1, 2]), ([3], [3]), ([0, 4, 0], [0, 4]), ([5], [5]), ([6], [6]), ([6], [6]), ([], []), ([9, 7, 5, 0, 1, 2, 3, 4, 5, 6, 7, 9], [7, 9]), ([8, 10, 0, 1, 2, 3, 4, 5, 6, 7, 8, 9, 10], [8])])
def tailwaterlaw16_AccumsNames.B6 : List Nat := [0, 0, 0, 6, 14, 31, 63, 127, 127, 0, 767, 2047]
theorem tailwaterlaw16_AccumsNames.tab6 : rtab .any (opsOf Try.f6 6) = tailwaterlaw16_AccumsNames.T6 := by kernel_rfl
theorem tailwaterlaw16_AccumsNames.bits6 : waitsOk tailwaterlaw16_AccumsNames.T6.2 tailwaterlaw16_AccumsNames.B6 = true := by kernel_rfl
def tailwaterlaw16_AccumsNames.T12 : Bool × List (List Nat × List Nat) := (true, [([], []), ([], []), ([0, 1, 1], [0, 1]), ([2], [2]), ([3], [3]), ([3], [3]), ([], []), ([6, 4, 2, 0, 1, 2, 3, 4, 6], [4, 6]), ([5, 7, 0, 1, 2, 3, 4, 5, 6, 7], [5])])
def tailwaterlaw16_AccumsNames.B12 : List Nat := [0, 0, 3, 7, 15, 15, 0, 95, 255]
theorem tailwaterlaw16_AccumsNames.tab12 : rtab .any (opsOf Try.f6 12) = tailwaterlaw16_AccumsNames.T12 := by kernel_rfl
theorem tailwaterlaw16_AccumsNames.bits12 : waitsOk tailwaterlaw16_AccumsNames.T12.2 tailwaterlaw16_AccumsNames.B12 = true := by kernel_rfl
set_option maxHeartbeats 8000000 in
set_option maxRecDepth 100000 in
theorem tailwaterlaw16_AccumsNames.calls (k : Nat)  (w : World) (h : tailwaterlaw16_AccumsNames.f k  = some true) :
    Calls Try.prog 6 #[] w fun e w' => e = .returned (.bool true) ∧ Below w.heap.size w w' := by
  have hu23 := Try.underlying23
  have HB := Aside0.mk (Below.refl w.heap.size w)
  have H : (tailwaterlaw16_AccumsNames.l0 k (([(⟨0, 1, 0, 0⟩ : S23), (⟨0, 0, 1, 0⟩ : S23), (⟨0, 0, 0, (-1)⟩ : S23), (⟨(-1), 0, 0, 0⟩ : S23), (⟨1, 1, 0, 0⟩ : S23), (⟨1, 2, 2, 3⟩ : S23), (⟨2, 0, 1, 0⟩ : S23), (⟨1073741825, 0, 0, 0⟩ : S23)] : List (S23))) 0) = some true := h
  clear h
  obtain ⟨y263, hy263⟩ : ∃ y_ : List (S23), y_ = (([(⟨0, 1, 0, 0⟩ : S23), (⟨0, 0, 1, 0⟩ : S23), (⟨0, 0, 0, (-1)⟩ : S23), (⟨(-1), 0, 0, 0⟩ : S23), (⟨1, 1, 0, 0⟩ : S23), (⟨1, 2, 2, 3⟩ : S23), (⟨2, 0, 1, 0⟩ : S23), (⟨1073741825, 0, 0, 0⟩ : S23)] : List (S23))) := ⟨_, rfl⟩
  replace H : (tailwaterlaw16_AccumsNames.l0 k y263 0) = some true := by first | (rw [hy263]; with_reducible exact H) | (have H2_ := (Option.bind_some _ _).symm.trans H; rw [hy263]; with_reducible exact H2_) | (have H2_ := (Option.bind_some _ _).symm.trans H; with_reducible exact H2_) | with_reducible exact H | (rw [hy263]; exact H) | exact H
  have Ny263 := Aside0.mk hy263
  clear hy263
  have H' := Aside0.mk H
  clear H
  go_enter Try.func6, Try.ntmps6
  go_wp2_with (first | ((with_reducible refine gate_dst (N := 32) rfl ?_); refine Kd.R_lit k23 _ 23 ?hg (N := 32) ?hd (xs := ([(⟨0, 1, 0, 0⟩ : S23), (⟨0, 0, 1, 0⟩ : S23), (⟨0, 0, 0, (-1)⟩ : S23), (⟨(-1), 0, 0, 0⟩ : S23), (⟨1, 1, 0, 0⟩ : S23), (⟨1, 2, 2, 3⟩ : S23), (⟨2, 0, 1, 0⟩ : S23), (⟨1073741825, 0, 0, 0⟩ : S23)] : List (S23))) (inner := [.int .i64 0, .int .i64 1, .int .i64 0, .int .i64 0, .int .i64 0, .int .i64 0, .int .i64 1, .int .i64 0, .int .i64 0, .int .i64 0, .int .i64 0, .int .i64 (-1), .int .i64 (-1), .int .i64 0, .int .i64 0, .int .i64 0, .int .i64 1, .int .i64 1, .int .i64 0, .int .i64 0, .int .i64 1, .int .i64 2, .int .i64 2, .int .i64 3, .int .i64 2, .int .i64 0, .int .i64 1, .int .i64 0, .int .i64 1073741825, .int .i64 0, .int .i64 0, .int .i64 0]) (ok := fun _ => True) (okp := fun _ => True) ?hr ?hp (fun _ hk => hk) trivial (Below.refl _ _) (Nat.le_refl _) (by simp) ?_; (case hd => rfl); (case hg => rfl); (case hr => first | (go_simp; done) | (go_simp; rfl)); (case hp => exact (Reps.c4 (show Kd.M k23 _ _ _ (⟨0, 1, 0, 0⟩ : S23) [.int .i64 0, .int .i64 1, .int .i64 0, .int .i64 0] from (k23_mkM _ _ _ (⟨0, 1, 0, 0⟩ : S23) )) (Reps.c4 (show Kd.M k23 _ _ _ (⟨0, 0, 1, 0⟩ : S23) [.int .i64 0, .int .i64 0, .int .i64 1, .int .i64 0] from (k23_mkM _ _ _ (⟨0, 0, 1, 0⟩ : S23) )) (Reps.c4 (show Kd.M k23 _ _ _ (⟨0, 0, 0, (-1)⟩ : S23) [.int .i64 0, .int .i64 0, .int .i64 0, .int .i64 (-1)] from (k23_mkM _ _ _ (⟨0, 0, 0, (-1)⟩ : S23) )) (Reps.c4 (show Kd.M k23 _ _ _ (⟨(-1), 0, 0, 0⟩ : S23) [.int .i64 (-1), .int .i64 0, .int .i64 0, .int .i64 0] from (k23_mkM _ _ _ (⟨(-1), 0, 0, 0⟩ : S23) )) (Reps.c4 (show Kd.M k23 _ _ _ (⟨1, 1, 0, 0⟩ : S23) [.int .i64 1, .int .i64 1, .int .i64 0, .int .i64 0] from (k23_mkM _ _ _ (⟨1, 1, 0, 0⟩ : S23) )) (Reps.c4 (show Kd.M k23 _ _ _ (⟨1, 2, 2, 3⟩ : S23) [.int .i64 1, .int .i64 2, .int .i64 2, .int .i64 3] from (k23_mkM _ _ _ (⟨1, 2, 2, 3⟩ : S23) )) (Reps.c4 (show Kd.M k23 _ _ _ (⟨2, 0, 1, 0⟩ : S23) [.int .i64 2, .int .i64 0, .int .i64 1, .int .i64 0] from (k23_mkM _ _ _ (⟨2, 0, 1, 0⟩ : S23) )) (Reps.c4 (show Kd.M k23 _ _ _ (⟨1073741825, 0, 0, 0⟩ : S23) [.int .i64 1073741825, .int .i64 0, .int .i64 0, .int .i64 0] from (k23_mkM _ _ _ (⟨1073741825, 0, 0, 0⟩ : S23) )) (Reps.none _ _)))))))))); intro v264 w1 ho2 hb hg_ hnew_; clear hg_ hnew_; (first | rw [← Ny263.out] at ho2 | (simp only [Int.reduceToNat] at ho2; rw [← Ny263.out] at ho2)); have n0_ := Aside0.mk (Kd.R_lower ho2 (below_size (by repeat (first | (with_reducible first | exact HB.out | apply below_alloc | apply pw_below_drewN | apply below_drew1) | exact HB.out)))); have n1_ := Aside0.mk (below_step (by repeat (first | (with_reducible first | exact HB.out | apply below_alloc | apply pw_below_drewN | apply below_drew1) | exact HB.out)) hb); clear HB; have HO265 := n0_; have HB := n1_; clear n0_ n1_; clear hb ho2))
  go_loopg [2] k (fun kq v2 w' => ∃ (x2_1 : Int), v2 = .int .i64 x2_1 ∧ Aside0 (tailwaterlaw16_AccumsNames.l0 kq y263 x2_1 = some true) ∧ Aside0 (kq ≤ k) ∧ Aside0 (Kd.R k23 23 w' w.heap.size (fun _ => True) v264 y263) ∧ Aside0 (Below w.heap.size w w'))
  case atStart => exact ⟨(0), (by first | rfl | (simp; done) | (simp [*]; done)), H', ⟨Nat.le_refl _⟩, ⟨by (with_reducible repeat (first | apply Kd.R_alloc | apply Kd.R_drewN | apply Kd.R_drew)); exact HO265.out⟩, ⟨by repeat (first | (with_reducible first | exact HB.out | apply below_alloc | apply pw_below_drewN | apply below_drew1) | exact HB.out)⟩⟩
  case round =>
    clear H'
    try clear p2
    obtain ⟨x2_1, rfl, HA, HK1, HO_1, HB⟩ := hrel
    cases gk with
    | zero => exact absurd HA.out (by simp [tailwaterlaw16_AccumsNames.l0])
    | succ k1 =>
      have H := HA.out
      clear HA
      simp only [tailwaterlaw16_AccumsNames.l0] at H
      by_cases c3 : x2_1 < (y263.length : Int)
      · rw [if_pos c3] at H
        have c3b0 : decide (x2_1 < (y263.length : Int)) = true := decide_eq_true c3
        clear c3
        by_cases c4 : 0 ≤ x2_1
        · rw [if_pos c4] at H
          have c4b0 : decide (0 ≤ x2_1) = true := decide_eq_true c4
          clear c4
          replace H := Option.bind_eq_some_iff.mp H
          obtain ⟨⟨t267, t268, t269, t270, t271⟩, A50, H⟩ := H
          replace H : ((accums_Of.f 1).bind fun bt273 => ((accums_Join.f k1 bt273.1 bt273.2.1 bt273.2.2.1 bt273.2.2.2 ((rd_T23 y263 x2_1).f0) ((rd_T23 y263 x2_1).f1) ((rd_T23 y263 x2_1).f2) ((rd_T23 y263 x2_1).f3)).bind fun bt278 => ((accums_Value.f k1 2 ((rd_T23 y263 x2_1).f0) ((rd_T23 y263 x2_1).f1) ((rd_T23 y263 x2_1).f2) ((rd_T23 y263 x2_1).f3)).bind fun bt285 => ((accums_Value.f k1 5 ((rd_T23 y263 x2_1).f0) ((rd_T23 y263 x2_1).f1) ((rd_T23 y263 x2_1).f2) ((rd_T23 y263 x2_1).f3)).bind fun bt288 => ((accums_Check.f k1 ((rd_T23 y263 x2_1).f0) ((rd_T23 y263 x2_1).f1) ((rd_T23 y263 x2_1).f2) ((rd_T23 y263 x2_1).f3)).bind fun t291 => (if t291 = 8 then (if t271 = 8 then (if bt278.2.2.2.2 = 8 then (if bt285.2 = 8 then (if bt288.2 = 2 then (tailwaterlaw16_AccumsNames.l0 k1 y263 (wrap64 (x2_1 + 1))) else (some false)) else (some false)) else (some false)) else (some false)) else (some false))))))) = some true := H
          have A5 := Aside0.mk A50
          clear A50
          replace H := Option.bind_eq_some_iff.mp H
          obtain ⟨⟨t273, t274, t275, t276⟩, A60, H⟩ := H
          replace H : ((accums_Join.f k1 t273 t274 t275 t276 ((rd_T23 y263 x2_1).f0) ((rd_T23 y263 x2_1).f1) ((rd_T23 y263 x2_1).f2) ((rd_T23 y263 x2_1).f3)).bind fun bt278 => ((accums_Value.f k1 2 ((rd_T23 y263 x2_1).f0) ((rd_T23 y263 x2_1).f1) ((rd_T23 y263 x2_1).f2) ((rd_T23 y263 x2_1).f3)).bind fun bt285 => ((accums_Value.f k1 5 ((rd_T23 y263 x2_1).f0) ((rd_T23 y263 x2_1).f1) ((rd_T23 y263 x2_1).f2) ((rd_T23 y263 x2_1).f3)).bind fun bt288 => ((accums_Check.f k1 ((rd_T23 y263 x2_1).f0) ((rd_T23 y263 x2_1).f1) ((rd_T23 y263 x2_1).f2) ((rd_T23 y263 x2_1).f3)).bind fun t291 => (if t291 = 8 then (if t271 = 8 then (if bt278.2.2.2.2 = 8 then (if bt285.2 = 8 then (if bt288.2 = 2 then (tailwaterlaw16_AccumsNames.l0 k1 y263 (wrap64 (x2_1 + 1))) else (some false)) else (some false)) else (some false)) else (some false)) else (some false)))))) = some true := H
          have A6 := Aside0.mk A60
          clear A60
          replace H := Option.bind_eq_some_iff.mp H
          obtain ⟨⟨t278, t279, t280, t281, t282⟩, A70, H⟩ := H
          replace H : ((accums_Value.f k1 2 ((rd_T23 y263 x2_1).f0) ((rd_T23 y263 x2_1).f1) ((rd_T23 y263 x2_1).f2) ((rd_T23 y263 x2_1).f3)).bind fun bt285 => ((accums_Value.f k1 5 ((rd_T23 y263 x2_1).f0) ((rd_T23 y263 x2_1).f1) ((rd_T23 y263 x2_1).f2) ((rd_T23 y263 x2_1).f3)).bind fun bt288 => ((accums_Check.f k1 ((rd_T23 y263 x2_1).f0) ((rd_T23 y263 x2_1).f1) ((rd_T23 y263 x2_1).f2) ((rd_T23 y263 x2_1).f3)).bind fun t291 => (if t291 = 8 then (if t271 = 8 then (if t282 = 8 then (if bt285.2 = 8 then (if bt288.2 = 2 then (tailwaterlaw16_AccumsNames.l0 k1 y263 (wrap64 (x2_1 + 1))) else (some false)) else (some false)) else (some false)) else (some false)) else (some false))))) = some true := H
          have A7 := Aside0.mk A70
          clear A70
          replace H := Option.bind_eq_some_iff.mp H
          obtain ⟨⟨t285, t286⟩, A80, H⟩ := H
          replace H : ((accums_Value.f k1 5 ((rd_T23 y263 x2_1).f0) ((rd_T23 y263 x2_1).f1) ((rd_T23 y263 x2_1).f2) ((rd_T23 y263 x2_1).f3)).bind fun bt288 => ((accums_Check.f k1 ((rd_T23 y263 x2_1).f0) ((rd_T23 y263 x2_1).f1) ((rd_T23 y263 x2_1).f2) ((rd_T23 y263 x2_1).f3)).bind fun t291 => (if t291 = 8 then (if t271 = 8 then (if t282 = 8 then (if t286 = 8 then (if bt288.2 = 2 then (tailwaterlaw16_AccumsNames.l0 k1 y263 (wrap64 (x2_1 + 1))) else (some false)) else (some false)) else (some false)) else (some false)) else (some false)))) = some true := H
          have A8 := Aside0.mk A80
          clear A80
          replace H := Option.bind_eq_some_iff.mp H
          obtain ⟨⟨t288, t289⟩, A90, H⟩ := H
          replace H : ((accums_Check.f k1 ((rd_T23 y263 x2_1).f0) ((rd_T23 y263 x2_1).f1) ((rd_T23 y263 x2_1).f2) ((rd_T23 y263 x2_1).f3)).bind fun t291 => (if t291 = 8 then (if t271 = 8 then (if t282 = 8 then (if t286 = 8 then (if t289 = 2 then (tailwaterlaw16_AccumsNames.l0 k1 y263 (wrap64 (x2_1 + 1))) else (some false)) else (some false)) else (some false)) else (some false)) else (some false))) = some true := H
          have A9 := Aside0.mk A90
          clear A90
          replace H := Option.bind_eq_some_iff.mp H
          obtain ⟨t291, A100, H⟩ := H
          replace H : (if t291 = 8 then (if t271 = 8 then (if t282 = 8 then (if t286 = 8 then (if t289 = 2 then (tailwaterlaw16_AccumsNames.l0 k1 y263 (wrap64 (x2_1 + 1))) else (some false)) else (some false)) else (some false)) else (some false)) else (some false)) = some true := H
          have A10 := Aside0.mk A100
          clear A100
          by_cases c11 : t291 = 8
          · rw [if_pos c11] at H
            have c11b0 : (t291 == 8) = true := beq_iff_eq.mpr c11
            have c11b1 : (t291 != 8) = false := bne_eq_false_iff_eq.mpr c11
            clear c11
            by_cases c12 : t271 = 8
            · rw [if_pos c12] at H
              have c12b0 : (t271 == 8) = true := beq_iff_eq.mpr c12
              have c12b1 : (t271 != 8) = false := bne_eq_false_iff_eq.mpr c12
              clear c12
              by_cases c13 : t282 = 8
              · rw [if_pos c13] at H
                have c13b0 : (t282 == 8) = true := beq_iff_eq.mpr c13
                have c13b1 : (t282 != 8) = false := bne_eq_false_iff_eq.mpr c13
                clear c13
                by_cases c14 : t286 = 8
                · rw [if_pos c14] at H
                  have c14b0 : (t286 == 8) = true := beq_iff_eq.mpr c14
                  have c14b1 : (t286 != 8) = false := bne_eq_false_iff_eq.mpr c14
                  clear c14
                  by_cases c15 : t289 = 2
                  · rw [if_pos c15] at H
                    have c15b0 : (t289 == 2) = true := beq_iff_eq.mpr c15
                    have c15b1 : (t289 != 2) = false := bne_eq_false_iff_eq.mpr c15
                    clear c15
                    have H' := Aside0.mk H
                    clear H
                    obtain ⟨Ao16, co16, eo16⟩ := Kd.R_slice HO_1.out
                    subst eo16
                    have p266 : 0 ≤ (x2_1 : Int) := of_decide_eq_true (by first | (with_reducible assumption) | assumption)
                    have q266 : x2_1 < (y263.length : Int) := of_decide_eq_true (by first | (with_reducible assumption) | assumption)
                    obtain ⟨ad266, e266, hx266_0, hx266_1, hx266_2, hx266_3⟩ := at_T23 (Kd.R_reads' HO_1.out).2.2 x2_1 p266 q266
                    cases e266
                    replace p266 := eq_true p266
                    replace q266 := eq_true q266
                    try go_wp2_with (first | ((with_reducible refine gate_callee (f := 12) rfl ?_); refine goesL_ (some 45) rfl rfl Try.func12 (by kernel_rfl) rfl #[.agg #[.int .i64 ((rd_T23 y263 x2_1).f0), .int .i64 ((rd_T23 y263 x2_1).f1), .int .i64 ((rd_T23 y263 x2_1).f2), .int .i64 ((rd_T23 y263 x2_1).f3)], .agg #[.int .i64 0, .int .i64 0, .int .i64 0, .int .i64 0]] rfl (by (try simp only [List.map_toArray, List.map_cons, List.map_nil]); first | done | rfl | (simp only [List.length_drop, List.length_take]; rfl)) ?_; (with_reducible refine (accums_Join.calls k1 ((rd_T23 y263 x2_1).f0) ((rd_T23 y263 x2_1).f1) ((rd_T23 y263 x2_1).f2) ((rd_T23 y263 x2_1).f3) 0 0 0 0 t267 t268 t269 t270 t271 _ A5.out).mono ?_); rintro e w17 ⟨rfl, hb⟩; refine ⟨_, rfl, ?_⟩; have n0_ := Aside0.mk (Kd.R_below (by (with_reducible repeat (first | apply Kd.R_alloc | apply Kd.R_drewN | apply Kd.R_drew)); exact HO_1.out) hb); have n1_ := Aside0.mk (below_step (by repeat (first | (with_reducible first | exact HB.out | apply below_alloc | apply pw_below_drewN | apply below_drew1) | exact HB.out)) hb); clear HO_1; clear HB; have HO_1 := n0_; have HB := n1_; clear n0_ n1_; (try clear hb); (try clear hb2); (try clear hk); (try clear hi)) | ((with_reducible refine gate_dst (N := 3) rfl ?_); refine box_event ?hg (N := 3) ?hd (cs := #[.int .i64 0, .int .i64 0, .int .i64 0, .int .i64 0]) (t := 23) ?hr ?_; (case hd => rfl); (case hg => rfl); (case hr => first | (go_simp; done) | (go_simp; rfl)); intro gb272 hg w18 hbox hb; have n0_ := Aside0.mk (Kd.R_below (Kd.R_elderB (by (with_reducible repeat (first | apply Kd.R_alloc | apply Kd.R_drewN | apply Kd.R_drew)); exact HO_1.out) gb272 (Nat.le_of_eq hg.symm)) hb); have n1_ := Aside0.mk (below_step (by repeat (first | (with_reducible first | exact HB.out | apply below_alloc | apply pw_below_drewN | apply below_drew1) | exact HB.out)) hb); have n2_ := Aside0.mk (hbox); have n3_ := Aside0.mk ((by rw [hg]; exact (below_size (by repeat (first | (with_reducible first | exact HB.out | apply below_alloc | apply pw_below_drewN | apply below_drew1) | exact HB.out))) : w.heap.size ≤ gb272)); have n4_ := Aside0.mk ((by rw [hg]; exact (below_size (by repeat (first | (with_reducible first | exact HB.out | apply below_alloc | apply pw_below_drewN | apply below_drew1) | exact HB.out))) : w.heap.size ≤ gb272)); clear HO_1; clear HB; have HO_1 := n0_; have HB := n1_; have BK272 := n2_; have GW272 := n3_; have GE272 := n4_; clear n0_ n1_ n2_ n3_ n4_; clear hb hbox hg; have hcz19_0 : w18.cell? ⟨gb272, 0, none⟩ = some (.int .i64 0) := (blk_cell BK272.out 0).trans rfl; have hcz19_1 : w18.cell? ⟨gb272, 1, none⟩ = some (.int .i64 0) := (blk_cell BK272.out 1).trans rfl; have hcz19_2 : w18.cell? ⟨gb272, 2, none⟩ = some (.int .i64 0) := (blk_cell BK272.out 2).trans rfl; have hcz19_3 : w18.cell? ⟨gb272, 3, none⟩ = some (.int .i64 0) := (blk_cell BK272.out 3).trans rfl; have hfz19_0 := blk_frozen BK272.out 0; have hfz19_1 := blk_frozen BK272.out 1; have hfz19_2 := blk_frozen BK272.out 2; have hfz19_3 := blk_frozen BK272.out 3))
                    have n0_ : Aside0 (Kd.R k23 23 ((((w18.setCell ⟨gb272, 0, none⟩ (.int .i64 t267)).setCell ⟨gb272, 1, none⟩ (.int .i64 t268)).setCell ⟨gb272, 2, none⟩ (.int .i64 t269)).setCell ⟨gb272, 3, none⟩ (.int .i64 t270)) w.heap.size (fun k_ => k_ ≠ gb272) (.slice (some ad266) y263.length co16) y263) := ⟨by (with_reducible repeat (first | apply Kd.R_alloc | apply Kd.R_drewN | apply Kd.R_drew)); exact Kd.R_mono (Kd.R_far (p := ⟨gb272, 3, none⟩) (Kd.R_far (p := ⟨gb272, 2, none⟩) (Kd.R_far (p := ⟨gb272, 1, none⟩) (Kd.R_far (p := ⟨gb272, 0, none⟩) (Kd.R_mono HO_1.out (fun k_ hk => (⟨hk, hk.2⟩ : _ ∧ k_ ≠ gb272))) (fun _ hk => hk.2) (.int .i64 t267)) (fun _ hk => hk.2) (.int .i64 t268)) (fun _ hk => hk.2) (.int .i64 t269)) (fun _ hk => hk.2) (.int .i64 t270)) (fun _ hk => hk.1.2)⟩
                    have n1_ : Aside0 (((((w18.setCell ⟨gb272, 0, none⟩ (.int .i64 t267)).setCell ⟨gb272, 1, none⟩ (.int .i64 t268)).setCell ⟨gb272, 2, none⟩ (.int .i64 t269)).setCell ⟨gb272, 3, none⟩ (.int .i64 t270)).heap[gb272]? = some (.cells #[.int .i64 t267, .int .i64 t268, .int .i64 t269, .int .i64 t270] 23 (0, 0))) := ⟨by (with_reducible repeat (first | refine blk_drewN ?_ _ | refine blk_drew ?_ | refine blk_alloc ?_ _)); refine blk_put (cs := #[.int .i64 t267, .int .i64 t268, .int .i64 t269, .int .i64 0]) ?_ 3 _ rfl; (with_reducible repeat (first | refine blk_drewN ?_ _ | refine blk_drew ?_ | refine blk_alloc ?_ _)); refine blk_put (cs := #[.int .i64 t267, .int .i64 t268, .int .i64 0, .int .i64 0]) ?_ 2 _ rfl; (with_reducible repeat (first | refine blk_drewN ?_ _ | refine blk_drew ?_ | refine blk_alloc ?_ _)); refine blk_put (cs := #[.int .i64 t267, .int .i64 0, .int .i64 0, .int .i64 0]) ?_ 1 _ rfl; (with_reducible repeat (first | refine blk_drewN ?_ _ | refine blk_drew ?_ | refine blk_alloc ?_ _)); refine blk_put (cs := #[.int .i64 0, .int .i64 0, .int .i64 0, .int .i64 0]) ?_ 0 _ rfl; (with_reducible repeat (first | refine blk_drewN ?_ _ | refine blk_drew ?_ | refine blk_alloc ?_ _)); exact BK272.out⟩
                    have n2_ : Aside0 (Below w.heap.size w ((((w18.setCell ⟨gb272, 0, none⟩ (.int .i64 t267)).setCell ⟨gb272, 1, none⟩ (.int .i64 t268)).setCell ⟨gb272, 2, none⟩ (.int .i64 t269)).setCell ⟨gb272, 3, none⟩ (.int .i64 t270))) := ⟨by repeat (first | (with_reducible first | exact HB.out | apply below_alloc | apply pw_below_drewN | apply below_drew1 | refine below_set ?_ GE272.out) | exact HB.out)⟩
                    (try clear HO_1)
                    (try clear BK272)
                    (try clear HB)
                    generalize ((((w18.setCell ⟨gb272, 0, none⟩ (.int .i64 t267)).setCell ⟨gb272, 1, none⟩ (.int .i64 t268)).setCell ⟨gb272, 2, none⟩ (.int .i64 t269)).setCell ⟨gb272, 3, none⟩ (.int .i64 t270)) = w20 at n0_ n1_ n2_ ⊢
                    have HO_1 := n0_
                    have BK272 := n1_
                    have HB := n2_
                    clear n0_ n1_ n2_
                    have n0_ := Aside0.mk (Kd.R_drew HO_1.out)
                    have n1_ := Aside0.mk (blk_drew BK272.out)
                    have n2_ := Aside0.mk (below_drew1 HB.out)
                    clear HO_1
                    clear BK272
                    clear HB
                    have HO_1 := n0_
                    have BK272 := n1_
                    have HB := n2_
                    clear n0_ n1_ n2_
                    have p277 : 0 ≤ (x2_1 : Int) := of_decide_eq_true (by first | (with_reducible assumption) | assumption)
                    have q277 : x2_1 < (y263.length : Int) := of_decide_eq_true (by first | (with_reducible assumption) | assumption)
                    obtain ⟨ad277, e277, hx277_0, hx277_1, hx277_2, hx277_3⟩ := at_T23 (Kd.R_reads' HO_1.out).2.2 x2_1 p277 q277
                    obtain rfl : ad266 = ad277 := (by injection e277)
                    replace p277 := eq_true p277
                    replace q277 := eq_true q277
                    refine start_ (n := 12) (S := fun w' => w'.cell? (ad266.add ((x2_1).toNat * 4)) = some (.int .i64 ((rd_T23 y263 x2_1).f0)) ∧ w'.cell? ⟨(ad266.add ((x2_1).toNat * 4)).block, (ad266.add ((x2_1).toNat * 4)).off + 1, none⟩ = some (.int .i64 ((rd_T23 y263 x2_1).f1)) ∧ w'.cell? ⟨(ad266.add ((x2_1).toNat * 4)).block, (ad266.add ((x2_1).toNat * 4)).off + 2, none⟩ = some (.int .i64 ((rd_T23 y263 x2_1).f2)) ∧ w'.cell? ⟨(ad266.add ((x2_1).toNat * 4)).block, (ad266.add ((x2_1).toNat * 4)).off + 3, none⟩ = some (.int .i64 ((rd_T23 y263 x2_1).f3))) (ds := []) #[false, false, false, false, false, false, false, false, false, false, false, false] (by kernel_rfl) rfl rfl ⟨hx277_0, hx277_1, hx277_2, hx277_3⟩ (fun hHeld => ?_); refine with_tabW tailwaterlaw16_AccumsNames.tab6 tailwaterlaw16_AccumsNames.bits6 (fun HT_ HW_ => ?_)
                    generalize w20.drew = w21 at HO_1 BK272 HB hx277_0 hx277_1 hx277_2 hx277_3 hHeld ⊢
                    refine pure_ (i := 1) (N := some 50) (v := ?_) (a' := ?_) #[false, true, false, false, false, false, false, false, false, false, false, false] rfl rfl (any_of HT_.out (by kernel_rfl)) (fun _ _ _ h => h) (Or.inl ⟨by rfl, ?_⟩) ?_ ?_
                    rotate_left
                    · intro w'
                      go_simp
                      with_reducible rfl
                    rotate_left
                    · simp only [Act.put, List.setIfInBounds_toArray, List.set_cons_zero, List.set_cons_succ, i64_w, i32_w]
                      rfl
                    refine pure_ (i := 2) (N := some 51) (v := ?_) (a' := ?_) #[false, true, true, false, false, false, false, false, false, false, false, false] rfl rfl (any_of HT_.out (by kernel_rfl)) (fun _ _ _ h => h) (Or.inl ⟨by rfl, ?_⟩) ?_ ?_
                    rotate_left
                    · intro w'
                      go_simp
                      with_reducible rfl
                    rotate_left
                    · simp only [Act.put, List.setIfInBounds_toArray, List.set_cons_zero, List.set_cons_succ, i64_w, i32_w]
                      rfl
                    refine pure_ (i := 3) (N := some 52) (v := ?_) (a' := ?_) #[false, true, true, true, false, false, false, false, false, false, false, false] rfl rfl (any_of HT_.out (by kernel_rfl)) (fun _ _ _ h => h) (Or.inl ⟨by rfl, ?_⟩) ?_ ?_
                    rotate_left
                    · intro w'
                      go_simp
                      with_reducible rfl
                    rotate_left
                    · simp only [Act.put, List.setIfInBounds_toArray, List.set_cons_zero, List.set_cons_succ, i64_w, i32_w]
                      rfl
                    refine take_ (i := 4) (N := some 53) (v := ?_) (a' := ?_) #[false, true, true, true, true, false, false, false, false, false, false, false] rfl rfl (take_ofW HT_.out HW_.out (by kernel_rfl)) (fun _ _ _ h => h) (Or.inl ⟨by rfl, ?_⟩) hHeld ?_ ?_
                    rotate_left
                    · rintro w' ⟨s0, s1, s2, s3⟩
                      go_simp
                      with_reducible rfl
                    rotate_left
                    · simp only [Act.put, List.setIfInBounds_toArray, List.set_cons_zero, List.set_cons_succ, i64_w, i32_w]
                      rfl
                    refine join_ (σ := Nat) 2 #[true, true, true, true, true, true, true, true, true, true, false, false] (fun s_ => [(49, .agg #[.int .i64 t273, .int .i64 t274, .int .i64 t275, .int .i64 t276]), (54, .tuple #[.agg #[.int .i64 t278, .int .i64 t279, .int .i64 t280, .int .i64 t281], .int .i64 t282]), (5, .pointer (some ⟨s_, 0, none⟩)), (48, .tuple #[.agg #[.int .i64 t278, .int .i64 t279, .int .i64 t280, .int .i64 t281], .int .i64 t282]), (55, .agg #[.int .i64 t278, .int .i64 t279, .int .i64 t280, .int .i64 t281]), (56, .int .i64 t282)]) (fun s_ w' => (w'.cell? (ad266.add ((x2_1).toNat * 4)) = some (.int .i64 ((rd_T23 y263 x2_1).f0)) ∧ w'.cell? ⟨(ad266.add ((x2_1).toNat * 4)).block, (ad266.add ((x2_1).toNat * 4)).off + 1, none⟩ = some (.int .i64 ((rd_T23 y263 x2_1).f1)) ∧ w'.cell? ⟨(ad266.add ((x2_1).toNat * 4)).block, (ad266.add ((x2_1).toNat * 4)).off + 2, none⟩ = some (.int .i64 ((rd_T23 y263 x2_1).f2)) ∧ w'.cell? ⟨(ad266.add ((x2_1).toNat * 4)).block, (ad266.add ((x2_1).toNat * 4)).off + 3, none⟩ = some (.int .i64 ((rd_T23 y263 x2_1).f3))) ∧ (Kd.R k23 23 w' w.heap.size (fun k_ => k_ ≠ gb272 ∧ k_ ≠ s_) (.slice (some ad266) y263.length co16) y263) ∧ (w'.heap[gb272]? = some (.cells #[.int .i64 t267, .int .i64 t268, .int .i64 t269, .int .i64 t270] 23 (0, 0))) ∧ (w'.heap[s_]? = some (.cells #[.int .i64 0, .int .i64 0, .int .i64 0, .int .i64 0] 23 (0, 0))) ∧ (w.heap.size ≤ s_) ∧ (w.heap.size ≤ s_) ∧ (gb272 ≠ s_) ∧ (s_ ≠ gb272) ∧ (Below w.heap.size w w')) ?_ ?_
                    rotate_left
                    · intro hCont
                      refine two_ (i := 0) (j := 9) (Ni := some 49) (Nj := some 5) #[true, true, true, true, true, false, false, false, false, false, false, false] #[false, true, true, true, true, false, false, false, false, true, false, false] rfl rfl rfl rfl (two_of HT_.out (by kernel_rfl)) (by decide) (by decide) (fun K hK => ?_) (fun K hK => ?_)
                      · skip
                        refine goes_ Try.func20 (by kernel_rfl) rfl #[.int .i64 1] (by rfl) rfl rfl (by (try simp only [List.map_toArray, List.map_cons, List.map_nil]); first | done | rfl | (simp only [List.length_drop, List.length_take]; rfl)) ?_
                        with_reducible refine (accums_Of.calls 1 t273 t274 t275 t276 _ A6.out).mono ?_
                        rintro e w22 ⟨rfl, hb⟩
                        have HS0_ := (hb.cell (World.block_lt_of_cell? _ _ (hHeld.1))).trans (hHeld.1)
                        have HS1_ := (hb.cell (World.block_lt_of_cell? _ _ (hHeld.2.1))).trans (hHeld.2.1)
                        have HS2_ := (hb.cell (World.block_lt_of_cell? _ _ (hHeld.2.2.1))).trans (hHeld.2.2.1)
                        have HS3_ := (hb.cell (World.block_lt_of_cell? _ _ (hHeld.2.2.2))).trans (hHeld.2.2.2)
                        refine ⟨_, rfl, ?_⟩
                        have n0_ := Aside0.mk (Kd.R_below (by (with_reducible repeat (first | apply Kd.R_alloc | apply Kd.R_drewN | apply Kd.R_drew)); exact HO_1.out) hb)
                        have n1_ := Aside0.mk (blk_below (g := gb272) (o := .cells #[.int .i64 t267, .int .i64 t268, .int .i64 t269, .int .i64 t270] 23 (0, 0)) (by (with_reducible repeat (first | refine blk_drewN ?_ _ | refine blk_drew ?_ | refine blk_alloc ?_ _)); exact BK272.out) hb)
                        have n2_ := Aside0.mk (below_step (by repeat (first | (with_reducible first | exact HB.out | apply below_alloc | apply pw_below_drewN | apply below_drew1 | refine below_set ?_ GE272.out) | exact HB.out)) hb)
                        clear HO_1
                        clear BK272
                        clear HB
                        have HO_1 := n0_
                        have BK272 := n1_
                        have HB := n2_
                        clear n0_ n1_ n2_
                        (try clear hb)
                        (try clear hb2)
                        (try clear hk)
                        (try clear hi)
                        refine hK.out _ _ ⟨HS0_, HS1_, HS2_, HS3_⟩ (fun hHeld => ?_)
                        clear hK K
                        refine norm_ (a' := ?_) ?_ ?_
                        rotate_left
                        · show Act.put _ (some 49) _ = _
                          simp only [Act.put, List.setIfInBounds_toArray, List.set_cons_zero, List.set_cons_succ, i64_w, i32_w]
                          rfl
                        refine two_ (i := 5) (j := 9) (Ni := some 54) (Nj := some 5) #[true, true, true, true, true, true, false, false, false, false, false, false] #[true, true, true, true, true, false, false, false, false, true, false, false] rfl rfl rfl rfl (two_of HT_.out (by kernel_rfl)) (by decide) (by decide) (fun K hK => ?_) (fun K hK => ?_)
                        · skip
                          refine goes_ Try.func12 (by kernel_rfl) rfl #[.agg #[.int .i64 t273, .int .i64 t274, .int .i64 t275, .int .i64 t276], .agg #[.int .i64 ((rd_T23 y263 x2_1).f0), .int .i64 ((rd_T23 y263 x2_1).f1), .int .i64 ((rd_T23 y263 x2_1).f2), .int .i64 ((rd_T23 y263 x2_1).f3)]] (by rfl) rfl rfl (by (try simp only [List.map_toArray, List.map_cons, List.map_nil]); first | done | rfl | (simp only [List.length_drop, List.length_take]; rfl)) ?_
                          with_reducible refine (accums_Join.calls k1 t273 t274 t275 t276 ((rd_T23 y263 x2_1).f0) ((rd_T23 y263 x2_1).f1) ((rd_T23 y263 x2_1).f2) ((rd_T23 y263 x2_1).f3) t278 t279 t280 t281 t282 _ A7.out).mono ?_
                          rintro e w23 ⟨rfl, hb⟩
                          have HS0_ := (hb.cell (World.block_lt_of_cell? _ _ (hHeld.1))).trans (hHeld.1)
                          have HS1_ := (hb.cell (World.block_lt_of_cell? _ _ (hHeld.2.1))).trans (hHeld.2.1)
                          have HS2_ := (hb.cell (World.block_lt_of_cell? _ _ (hHeld.2.2.1))).trans (hHeld.2.2.1)
                          have HS3_ := (hb.cell (World.block_lt_of_cell? _ _ (hHeld.2.2.2))).trans (hHeld.2.2.2)
                          refine ⟨_, rfl, ?_⟩
                          have n0_ := Aside0.mk (Kd.R_below (by (with_reducible repeat (first | apply Kd.R_alloc | apply Kd.R_drewN | apply Kd.R_drew)); exact HO_1.out) hb)
                          have n1_ := Aside0.mk (blk_below (g := gb272) (o := .cells #[.int .i64 t267, .int .i64 t268, .int .i64 t269, .int .i64 t270] 23 (0, 0)) (by (with_reducible repeat (first | refine blk_drewN ?_ _ | refine blk_drew ?_ | refine blk_alloc ?_ _)); exact BK272.out) hb)
                          have n2_ := Aside0.mk (below_step (by repeat (first | (with_reducible first | exact HB.out | apply below_alloc | apply pw_below_drewN | apply below_drew1 | refine below_set ?_ GE272.out) | exact HB.out)) hb)
                          clear HO_1
                          clear BK272
                          clear HB
                          have HO_1 := n0_
                          have BK272 := n1_
                          have HB := n2_
                          clear n0_ n1_ n2_
                          (try clear hb)
                          (try clear hb2)
                          (try clear hk)
                          (try clear hi)
                          refine hK.out _ _ ⟨HS0_, HS1_, HS2_, HS3_⟩ (fun hHeld => ?_)
                          clear hK K
                          refine norm_ (a' := ?_) ?_ ?_
                          rotate_left
                          · show Act.put _ (some 54) _ = _
                            simp only [Act.put, List.setIfInBounds_toArray, List.set_cons_zero, List.set_cons_succ, i64_w, i32_w]
                            rfl
                          refine pure_ (i := 6) (N := some 48) (v := ?_) (a' := ?_) #[true, true, true, true, true, true, true, false, false, false, false, false] rfl rfl (any_of HT_.out (by kernel_rfl)) (fun _ _ _ h => h) (Or.inl ⟨by rfl, ?_⟩) ?_ ?_
                          rotate_left
                          · intro w'
                            go_simp
                            with_reducible rfl
                          rotate_left
                          · simp only [Act.put, List.setIfInBounds_toArray, List.set_cons_zero, List.set_cons_succ, i64_w, i32_w]
                            rfl
                          refine pure_ (i := 7) (N := some 55) (v := ?_) (a' := ?_) #[true, true, true, true, true, true, true, true, false, false, false, false] rfl rfl (any_of HT_.out (by kernel_rfl)) (fun _ _ _ h => h) (Or.inl ⟨by rfl, ?_⟩) ?_ ?_
                          rotate_left
                          · intro w'
                            go_simp
                            with_reducible rfl
                          rotate_left
                          · simp only [Act.put, List.setIfInBounds_toArray, List.set_cons_zero, List.set_cons_succ, i64_w, i32_w]
                            rfl
                          refine pure_ (i := 8) (N := some 56) (v := ?_) (a' := ?_) #[true, true, true, true, true, true, true, true, true, false, false, false] rfl rfl (any_of HT_.out (by kernel_rfl)) (fun _ _ _ h => h) (Or.inl ⟨by rfl, ?_⟩) ?_ ?_
                          rotate_left
                          · intro w'
                            go_simp
                            with_reducible rfl
                          rotate_left
                          · simp only [Act.put, List.setIfInBounds_toArray, List.set_cons_zero, List.set_cons_succ, i64_w, i32_w]
                            rfl
                          refine one_ (i := 9) (N := some 5) #[true, true, true, true, true, true, true, true, true, true, false, false] rfl rfl (one_of HT_.out (by kernel_rfl)) (by decide) (fun K hK => ?_)
                          refine box_step ?hg (N := 5) ?hd (cs := #[.int .i64 0, .int .i64 0, .int .i64 0, .int .i64 0]) (t := 23) ?hr ?_; (case hd => rfl); (case hg => rfl); (case hr => first | (go_simp; done) | (go_simp; rfl))
                          intro gb283 hg w24 hbox hb
                          have HS0_ := (hb.cell (World.block_lt_of_cell? _ _ (hHeld.1))).trans (hHeld.1)
                          have HS1_ := (hb.cell (World.block_lt_of_cell? _ _ (hHeld.2.1))).trans (hHeld.2.1)
                          have HS2_ := (hb.cell (World.block_lt_of_cell? _ _ (hHeld.2.2.1))).trans (hHeld.2.2.1)
                          have HS3_ := (hb.cell (World.block_lt_of_cell? _ _ (hHeld.2.2.2))).trans (hHeld.2.2.2)
                          have n0_ := Aside0.mk (Kd.R_below (Kd.R_elderB (by (with_reducible repeat (first | apply Kd.R_alloc | apply Kd.R_drewN | apply Kd.R_drew)); exact HO_1.out) gb283 (Nat.le_of_eq hg.symm)) hb)
                          have n1_ := Aside0.mk (blk_below (g := gb272) (o := .cells #[.int .i64 t267, .int .i64 t268, .int .i64 t269, .int .i64 t270] 23 (0, 0)) (by (with_reducible repeat (first | refine blk_drewN ?_ _ | refine blk_drew ?_ | refine blk_alloc ?_ _)); exact BK272.out) hb)
                          have n2_ := Aside0.mk (below_step (by repeat (first | (with_reducible first | exact HB.out | apply below_alloc | apply pw_below_drewN | apply below_drew1 | refine below_set ?_ GE272.out) | exact HB.out)) hb)
                          have n3_ := Aside0.mk (hbox)
                          have n4_ := Aside0.mk ((by rw [hg]; exact (below_size (by repeat (first | (with_reducible first | exact HB.out | apply below_alloc | apply pw_below_drewN | apply below_drew1 | refine below_set ?_ GE272.out) | exact HB.out))) : w.heap.size ≤ gb283))
                          have n5_ := Aside0.mk ((by rw [hg]; exact (below_size (by repeat (first | (with_reducible first | exact HB.out | apply below_alloc | apply pw_below_drewN | apply below_drew1 | refine below_set ?_ GE272.out) | exact HB.out))) : w.heap.size ≤ gb283))
                          have n6_ := Aside0.mk ((by rw [hg]; exact Nat.ne_of_lt (blk_lt (g := gb272) (o := .cells #[.int .i64 t267, .int .i64 t268, .int .i64 t269, .int .i64 t270] 23 (0, 0)) (by (with_reducible repeat (first | refine blk_drewN ?_ _ | refine blk_drew ?_ | refine blk_alloc ?_ _)); exact BK272.out)) : gb272 ≠ gb283))
                          have n7_ := Aside0.mk ((by rw [hg]; exact Nat.ne_of_gt (blk_lt (g := gb272) (o := .cells #[.int .i64 t267, .int .i64 t268, .int .i64 t269, .int .i64 t270] 23 (0, 0)) (by (with_reducible repeat (first | refine blk_drewN ?_ _ | refine blk_drew ?_ | refine blk_alloc ?_ _)); exact BK272.out)) : gb283 ≠ gb272))
                          clear HO_1
                          clear BK272
                          clear HB
                          have HO_1 := n0_
                          have BK272 := n1_
                          have HB := n2_
                          have BK283 := n3_
                          have GW283 := n4_
                          have GE283 := n5_
                          have NB272_283 := n6_
                          have NB283_272 := n7_
                          clear n0_ n1_ n2_ n3_ n4_ n5_ n6_ n7_
                          clear hb hbox hg
                          refine hK.out _ _ ⟨HS0_, HS1_, HS2_, HS3_⟩ (fun hHeld => ?_)
                          clear hK K
                          refine norm_ (a' := ?_) ?_ ?_
                          rotate_left
                          · show Act.put _ (some 5) _ = _
                            simp only [Act.put, List.setIfInBounds_toArray, List.set_cons_zero, List.set_cons_succ, i64_w, i32_w]
                            rfl
                          exact norm_ (by simp only [putAll, Act.put, List.setIfInBounds_toArray, List.set_cons_zero, List.set_cons_succ]) (hCont (gb283) _ ⟨hHeld, (by (with_reducible repeat (first | apply Kd.R_alloc | apply Kd.R_drewN | apply Kd.R_drew)); exact HO_1.out), (by (with_reducible repeat (first | refine blk_drewN ?_ _ | refine blk_drew ?_ | refine blk_alloc ?_ _)); exact BK272.out), (by (with_reducible repeat (first | refine blk_drewN ?_ _ | refine blk_drew ?_ | refine blk_alloc ?_ _)); exact BK283.out), GW283.out, GE283.out, NB272_283.out, NB283_272.out, (by repeat (first | (with_reducible first | exact HB.out | apply below_alloc | apply pw_below_drewN | apply below_drew1 | refine below_set ?_ GE272.out | refine below_set ?_ GE283.out) | exact HB.out))⟩)
                        · skip
                          refine box_step ?hg (N := 5) ?hd (cs := #[.int .i64 0, .int .i64 0, .int .i64 0, .int .i64 0]) (t := 23) ?hr ?_; (case hd => rfl); (case hg => rfl); (case hr => first | (go_simp; done) | (go_simp; rfl))
                          intro gb283 hg w23 hbox hb
                          have HS0_ := (hb.cell (World.block_lt_of_cell? _ _ (hHeld.1))).trans (hHeld.1)
                          have HS1_ := (hb.cell (World.block_lt_of_cell? _ _ (hHeld.2.1))).trans (hHeld.2.1)
                          have HS2_ := (hb.cell (World.block_lt_of_cell? _ _ (hHeld.2.2.1))).trans (hHeld.2.2.1)
                          have HS3_ := (hb.cell (World.block_lt_of_cell? _ _ (hHeld.2.2.2))).trans (hHeld.2.2.2)
                          have n0_ := Aside0.mk (Kd.R_below (Kd.R_elderB (by (with_reducible repeat (first | apply Kd.R_alloc | apply Kd.R_drewN | apply Kd.R_drew)); exact HO_1.out) gb283 (Nat.le_of_eq hg.symm)) hb)
                          have n1_ := Aside0.mk (blk_below (g := gb272) (o := .cells #[.int .i64 t267, .int .i64 t268, .int .i64 t269, .int .i64 t270] 23 (0, 0)) (by (with_reducible repeat (first | refine blk_drewN ?_ _ | refine blk_drew ?_ | refine blk_alloc ?_ _)); exact BK272.out) hb)
                          have n2_ := Aside0.mk (below_step (by repeat (first | (with_reducible first | exact HB.out | apply below_alloc | apply pw_below_drewN | apply below_drew1 | refine below_set ?_ GE272.out) | exact HB.out)) hb)
                          have n3_ := Aside0.mk (hbox)
                          have n4_ := Aside0.mk ((by rw [hg]; exact (below_size (by repeat (first | (with_reducible first | exact HB.out | apply below_alloc | apply pw_below_drewN | apply below_drew1 | refine below_set ?_ GE272.out) | exact HB.out))) : w.heap.size ≤ gb283))
                          have n5_ := Aside0.mk ((by rw [hg]; exact (below_size (by repeat (first | (with_reducible first | exact HB.out | apply below_alloc | apply pw_below_drewN | apply below_drew1 | refine below_set ?_ GE272.out) | exact HB.out))) : w.heap.size ≤ gb283))
                          have n6_ := Aside0.mk ((by rw [hg]; exact Nat.ne_of_lt (blk_lt (g := gb272) (o := .cells #[.int .i64 t267, .int .i64 t268, .int .i64 t269, .int .i64 t270] 23 (0, 0)) (by (with_reducible repeat (first | refine blk_drewN ?_ _ | refine blk_drew ?_ | refine blk_alloc ?_ _)); exact BK272.out)) : gb272 ≠ gb283))
                          have n7_ := Aside0.mk ((by rw [hg]; exact Nat.ne_of_gt (blk_lt (g := gb272) (o := .cells #[.int .i64 t267, .int .i64 t268, .int .i64 t269, .int .i64 t270] 23 (0, 0)) (by (with_reducible repeat (first | refine blk_drewN ?_ _ | refine blk_drew ?_ | refine blk_alloc ?_ _)); exact BK272.out)) : gb283 ≠ gb272))
                          clear HO_1
                          clear BK272
                          clear HB
                          have HO_1 := n0_
                          have BK272 := n1_
                          have HB := n2_
                          have BK283 := n3_
                          have GW283 := n4_
                          have GE283 := n5_
                          have NB272_283 := n6_
                          have NB283_272 := n7_
                          clear n0_ n1_ n2_ n3_ n4_ n5_ n6_ n7_
                          clear hb hbox hg
                          refine hK.out _ _ ⟨HS0_, HS1_, HS2_, HS3_⟩ (fun hHeld => ?_)
                          clear hK K
                          refine norm_ (a' := ?_) ?_ ?_
                          rotate_left
                          · show Act.put _ (some 5) _ = _
                            simp only [Act.put, List.setIfInBounds_toArray, List.set_cons_zero, List.set_cons_succ, i64_w, i32_w]
                            rfl
                          refine one_ (i := 5) (N := some 54) #[true, true, true, true, true, true, false, false, false, true, false, false] rfl rfl (one_of HT_.out (by kernel_rfl)) (by decide) (fun K hK => ?_)
                          refine goes_ Try.func12 (by kernel_rfl) rfl #[.agg #[.int .i64 t273, .int .i64 t274, .int .i64 t275, .int .i64 t276], .agg #[.int .i64 ((rd_T23 y263 x2_1).f0), .int .i64 ((rd_T23 y263 x2_1).f1), .int .i64 ((rd_T23 y263 x2_1).f2), .int .i64 ((rd_T23 y263 x2_1).f3)]] (by rfl) rfl rfl (by (try simp only [List.map_toArray, List.map_cons, List.map_nil]); first | done | rfl | (simp only [List.length_drop, List.length_take]; rfl)) ?_
                          with_reducible refine (accums_Join.calls k1 t273 t274 t275 t276 ((rd_T23 y263 x2_1).f0) ((rd_T23 y263 x2_1).f1) ((rd_T23 y263 x2_1).f2) ((rd_T23 y263 x2_1).f3) t278 t279 t280 t281 t282 _ A7.out).mono ?_
                          rintro e w24 ⟨rfl, hb⟩
                          have HS0_ := (hb.cell (World.block_lt_of_cell? _ _ (hHeld.1))).trans (hHeld.1)
                          have HS1_ := (hb.cell (World.block_lt_of_cell? _ _ (hHeld.2.1))).trans (hHeld.2.1)
                          have HS2_ := (hb.cell (World.block_lt_of_cell? _ _ (hHeld.2.2.1))).trans (hHeld.2.2.1)
                          have HS3_ := (hb.cell (World.block_lt_of_cell? _ _ (hHeld.2.2.2))).trans (hHeld.2.2.2)
                          refine ⟨_, rfl, ?_⟩
                          have n0_ := Aside0.mk (Kd.R_below (by (with_reducible repeat (first | apply Kd.R_alloc | apply Kd.R_drewN | apply Kd.R_drew)); exact HO_1.out) hb)
                          have n1_ := Aside0.mk (blk_below (g := gb272) (o := .cells #[.int .i64 t267, .int .i64 t268, .int .i64 t269, .int .i64 t270] 23 (0, 0)) (by (with_reducible repeat (first | refine blk_drewN ?_ _ | refine blk_drew ?_ | refine blk_alloc ?_ _)); exact BK272.out) hb)
                          have n2_ := Aside0.mk (blk_below (g := gb283) (o := .cells #[.int .i64 0, .int .i64 0, .int .i64 0, .int .i64 0] 23 (0, 0)) (by (with_reducible repeat (first | refine blk_drewN ?_ _ | refine blk_drew ?_ | refine blk_alloc ?_ _)); exact BK283.out) hb)
                          have n3_ := Aside0.mk (below_step (by repeat (first | (with_reducible first | exact HB.out | apply below_alloc | apply pw_below_drewN | apply below_drew1 | refine below_set ?_ GE272.out | refine below_set ?_ GE283.out) | exact HB.out)) hb)
                          clear HO_1
                          clear BK272
                          clear BK283
                          clear HB
                          have HO_1 := n0_
                          have BK272 := n1_
                          have BK283 := n2_
                          have HB := n3_
                          clear n0_ n1_ n2_ n3_
                          (try clear hb)
                          (try clear hb2)
                          (try clear hk)
                          (try clear hi)
                          refine hK.out _ _ ⟨HS0_, HS1_, HS2_, HS3_⟩ (fun hHeld => ?_)
                          clear hK K
                          refine norm_ (a' := ?_) ?_ ?_
                          rotate_left
                          · show Act.put _ (some 54) _ = _
                            simp only [Act.put, List.setIfInBounds_toArray, List.set_cons_zero, List.set_cons_succ, i64_w, i32_w]
                            rfl
                          refine pure_ (i := 6) (N := some 48) (v := ?_) (a' := ?_) #[true, true, true, true, true, true, true, false, false, true, false, false] rfl rfl (any_of HT_.out (by kernel_rfl)) (fun _ _ _ h => h) (Or.inl ⟨by rfl, ?_⟩) ?_ ?_
                          rotate_left
                          · intro w'
                            go_simp
                            with_reducible rfl
                          rotate_left
                          · simp only [Act.put, List.setIfInBounds_toArray, List.set_cons_zero, List.set_cons_succ, i64_w, i32_w]
                            rfl
                          refine pure_ (i := 7) (N := some 55) (v := ?_) (a' := ?_) #[true, true, true, true, true, true, true, true, false, true, false, false] rfl rfl (any_of HT_.out (by kernel_rfl)) (fun _ _ _ h => h) (Or.inl ⟨by rfl, ?_⟩) ?_ ?_
                          rotate_left
                          · intro w'
                            go_simp
                            with_reducible rfl
                          rotate_left
                          · simp only [Act.put, List.setIfInBounds_toArray, List.set_cons_zero, List.set_cons_succ, i64_w, i32_w]
                            rfl
                          refine pure_ (i := 8) (N := some 56) (v := ?_) (a' := ?_) #[true, true, true, true, true, true, true, true, true, true, false, false] rfl rfl (any_of HT_.out (by kernel_rfl)) (fun _ _ _ h => h) (Or.inl ⟨by rfl, ?_⟩) ?_ ?_
                          rotate_left
                          · intro w'
                            go_simp
                            with_reducible rfl
                          rotate_left
                          · simp only [Act.put, List.setIfInBounds_toArray, List.set_cons_zero, List.set_cons_succ, i64_w, i32_w]
                            rfl
                          exact norm_ (by simp only [putAll, Act.put, List.setIfInBounds_toArray, List.set_cons_zero, List.set_cons_succ]) (hCont (gb283) _ ⟨hHeld, (by (with_reducible repeat (first | apply Kd.R_alloc | apply Kd.R_drewN | apply Kd.R_drew)); exact HO_1.out), (by (with_reducible repeat (first | refine blk_drewN ?_ _ | refine blk_drew ?_ | refine blk_alloc ?_ _)); exact BK272.out), (by (with_reducible repeat (first | refine blk_drewN ?_ _ | refine blk_drew ?_ | refine blk_alloc ?_ _)); exact BK283.out), GW283.out, GE283.out, NB272_283.out, NB283_272.out, (by repeat (first | (with_reducible first | exact HB.out | apply below_alloc | apply pw_below_drewN | apply below_drew1 | refine below_set ?_ GE272.out | refine below_set ?_ GE283.out) | exact HB.out))⟩)
                      · skip
                        refine box_step ?hg (N := 5) ?hd (cs := #[.int .i64 0, .int .i64 0, .int .i64 0, .int .i64 0]) (t := 23) ?hr ?_; (case hd => rfl); (case hg => rfl); (case hr => first | (go_simp; done) | (go_simp; rfl))
                        intro gb283 hg w22 hbox hb
                        have HS0_ := (hb.cell (World.block_lt_of_cell? _ _ (hHeld.1))).trans (hHeld.1)
                        have HS1_ := (hb.cell (World.block_lt_of_cell? _ _ (hHeld.2.1))).trans (hHeld.2.1)
                        have HS2_ := (hb.cell (World.block_lt_of_cell? _ _ (hHeld.2.2.1))).trans (hHeld.2.2.1)
                        have HS3_ := (hb.cell (World.block_lt_of_cell? _ _ (hHeld.2.2.2))).trans (hHeld.2.2.2)
                        have n0_ := Aside0.mk (Kd.R_below (Kd.R_elderB (by (with_reducible repeat (first | apply Kd.R_alloc | apply Kd.R_drewN | apply Kd.R_drew)); exact HO_1.out) gb283 (Nat.le_of_eq hg.symm)) hb)
                        have n1_ := Aside0.mk (blk_below (g := gb272) (o := .cells #[.int .i64 t267, .int .i64 t268, .int .i64 t269, .int .i64 t270] 23 (0, 0)) (by (with_reducible repeat (first | refine blk_drewN ?_ _ | refine blk_drew ?_ | refine blk_alloc ?_ _)); exact BK272.out) hb)
                        have n2_ := Aside0.mk (below_step (by repeat (first | (with_reducible first | exact HB.out | apply below_alloc | apply pw_below_drewN | apply below_drew1 | refine below_set ?_ GE272.out) | exact HB.out)) hb)
                        have n3_ := Aside0.mk (hbox)
                        have n4_ := Aside0.mk ((by rw [hg]; exact (below_size (by repeat (first | (with_reducible first | exact HB.out | apply below_alloc | apply pw_below_drewN | apply below_drew1 | refine below_set ?_ GE272.out) | exact HB.out))) : w.heap.size ≤ gb283))
                        have n5_ := Aside0.mk ((by rw [hg]; exact (below_size (by repeat (first | (with_reducible first | exact HB.out | apply below_alloc | apply pw_below_drewN | apply below_drew1 | refine below_set ?_ GE272.out) | exact HB.out))) : w.heap.size ≤ gb283))
                        have n6_ := Aside0.mk ((by rw [hg]; exact Nat.ne_of_lt (blk_lt (g := gb272) (o := .cells #[.int .i64 t267, .int .i64 t268, .int .i64 t269, .int .i64 t270] 23 (0, 0)) (by (with_reducible repeat (first | refine blk_drewN ?_ _ | refine blk_drew ?_ | refine blk_alloc ?_ _)); exact BK272.out)) : gb272 ≠ gb283))
                        have n7_ := Aside0.mk ((by rw [hg]; exact Nat.ne_of_gt (blk_lt (g := gb272) (o := .cells #[.int .i64 t267, .int .i64 t268, .int .i64 t269, .int .i64 t270] 23 (0, 0)) (by (with_reducible repeat (first | refine blk_drewN ?_ _ | refine blk_drew ?_ | refine blk_alloc ?_ _)); exact BK272.out)) : gb283 ≠ gb272))
                        clear HO_1
                        clear BK272
                        clear HB
                        have HO_1 := n0_
                        have BK272 := n1_
                        have HB := n2_
                        have BK283 := n3_
                        have GW283 := n4_
                        have GE283 := n5_
                        have NB272_283 := n6_
                        have NB283_272 := n7_
                        clear n0_ n1_ n2_ n3_ n4_ n5_ n6_ n7_
                        clear hb hbox hg
                        refine hK.out _ _ ⟨HS0_, HS1_, HS2_, HS3_⟩ (fun hHeld => ?_)
                        clear hK K
                        refine norm_ (a' := ?_) ?_ ?_
                        rotate_left
                        · show Act.put _ (some 5) _ = _
                          simp only [Act.put, List.setIfInBounds_toArray, List.set_cons_zero, List.set_cons_succ, i64_w, i32_w]
                          rfl
                        refine one_ (i := 0) (N := some 49) #[true, true, true, true, true, false, false, false, false, true, false, false] rfl rfl (one_of HT_.out (by kernel_rfl)) (by decide) (fun K hK => ?_)
                        refine goes_ Try.func20 (by kernel_rfl) rfl #[.int .i64 1] (by rfl) rfl rfl (by (try simp only [List.map_toArray, List.map_cons, List.map_nil]); first | done | rfl | (simp only [List.length_drop, List.length_take]; rfl)) ?_
                        with_reducible refine (accums_Of.calls 1 t273 t274 t275 t276 _ A6.out).mono ?_
                        rintro e w23 ⟨rfl, hb⟩
                        have HS0_ := (hb.cell (World.block_lt_of_cell? _ _ (hHeld.1))).trans (hHeld.1)
                        have HS1_ := (hb.cell (World.block_lt_of_cell? _ _ (hHeld.2.1))).trans (hHeld.2.1)
                        have HS2_ := (hb.cell (World.block_lt_of_cell? _ _ (hHeld.2.2.1))).trans (hHeld.2.2.1)
                        have HS3_ := (hb.cell (World.block_lt_of_cell? _ _ (hHeld.2.2.2))).trans (hHeld.2.2.2)
                        refine ⟨_, rfl, ?_⟩
                        have n0_ := Aside0.mk (Kd.R_below (by (with_reducible repeat (first | apply Kd.R_alloc | apply Kd.R_drewN | apply Kd.R_drew)); exact HO_1.out) hb)
                        have n1_ := Aside0.mk (blk_below (g := gb272) (o := .cells #[.int .i64 t267, .int .i64 t268, .int .i64 t269, .int .i64 t270] 23 (0, 0)) (by (with_reducible repeat (first | refine blk_drewN ?_ _ | refine blk_drew ?_ | refine blk_alloc ?_ _)); exact BK272.out) hb)
                        have n2_ := Aside0.mk (blk_below (g := gb283) (o := .cells #[.int .i64 0, .int .i64 0, .int .i64 0, .int .i64 0] 23 (0, 0)) (by (with_reducible repeat (first | refine blk_drewN ?_ _ | refine blk_drew ?_ | refine blk_alloc ?_ _)); exact BK283.out) hb)
                        have n3_ := Aside0.mk (below_step (by repeat (first | (with_reducible first | exact HB.out | apply below_alloc | apply pw_below_drewN | apply below_drew1 | refine below_set ?_ GE272.out | refine below_set ?_ GE283.out) | exact HB.out)) hb)
                        clear HO_1
                        clear BK272
                        clear BK283
                        clear HB
                        have HO_1 := n0_
                        have BK272 := n1_
                        have BK283 := n2_
                        have HB := n3_
                        clear n0_ n1_ n2_ n3_
                        (try clear hb)
                        (try clear hb2)
                        (try clear hk)
                        (try clear hi)
                        refine hK.out _ _ ⟨HS0_, HS1_, HS2_, HS3_⟩ (fun hHeld => ?_)
                        clear hK K
                        refine norm_ (a' := ?_) ?_ ?_
                        rotate_left
                        · show Act.put _ (some 49) _ = _
                          simp only [Act.put, List.setIfInBounds_toArray, List.set_cons_zero, List.set_cons_succ, i64_w, i32_w]
                          rfl
                        refine one_ (i := 5) (N := some 54) #[true, true, true, true, true, true, false, false, false, true, false, false] rfl rfl (one_of HT_.out (by kernel_rfl)) (by decide) (fun K hK => ?_)
                        refine goes_ Try.func12 (by kernel_rfl) rfl #[.agg #[.int .i64 t273, .int .i64 t274, .int .i64 t275, .int .i64 t276], .agg #[.int .i64 ((rd_T23 y263 x2_1).f0), .int .i64 ((rd_T23 y263 x2_1).f1), .int .i64 ((rd_T23 y263 x2_1).f2), .int .i64 ((rd_T23 y263 x2_1).f3)]] (by rfl) rfl rfl (by (try simp only [List.map_toArray, List.map_cons, List.map_nil]); first | done | rfl | (simp only [List.length_drop, List.length_take]; rfl)) ?_
                        with_reducible refine (accums_Join.calls k1 t273 t274 t275 t276 ((rd_T23 y263 x2_1).f0) ((rd_T23 y263 x2_1).f1) ((rd_T23 y263 x2_1).f2) ((rd_T23 y263 x2_1).f3) t278 t279 t280 t281 t282 _ A7.out).mono ?_
                        rintro e w24 ⟨rfl, hb⟩
                        have HS0_ := (hb.cell (World.block_lt_of_cell? _ _ (hHeld.1))).trans (hHeld.1)
                        have HS1_ := (hb.cell (World.block_lt_of_cell? _ _ (hHeld.2.1))).trans (hHeld.2.1)
                        have HS2_ := (hb.cell (World.block_lt_of_cell? _ _ (hHeld.2.2.1))).trans (hHeld.2.2.1)
                        have HS3_ := (hb.cell (World.block_lt_of_cell? _ _ (hHeld.2.2.2))).trans (hHeld.2.2.2)
                        refine ⟨_, rfl, ?_⟩
                        have n0_ := Aside0.mk (Kd.R_below (by (with_reducible repeat (first | apply Kd.R_alloc | apply Kd.R_drewN | apply Kd.R_drew)); exact HO_1.out) hb)
                        have n1_ := Aside0.mk (blk_below (g := gb272) (o := .cells #[.int .i64 t267, .int .i64 t268, .int .i64 t269, .int .i64 t270] 23 (0, 0)) (by (with_reducible repeat (first | refine blk_drewN ?_ _ | refine blk_drew ?_ | refine blk_alloc ?_ _)); exact BK272.out) hb)
                        have n2_ := Aside0.mk (blk_below (g := gb283) (o := .cells #[.int .i64 0, .int .i64 0, .int .i64 0, .int .i64 0] 23 (0, 0)) (by (with_reducible repeat (first | refine blk_drewN ?_ _ | refine blk_drew ?_ | refine blk_alloc ?_ _)); exact BK283.out) hb)
                        have n3_ := Aside0.mk (below_step (by repeat (first | (with_reducible first | exact HB.out | apply below_alloc | apply pw_below_drewN | apply below_drew1 | refine below_set ?_ GE272.out | refine below_set ?_ GE283.out) | exact HB.out)) hb)
                        clear HO_1
                        clear BK272
                        clear BK283
                        clear HB
                        have HO_1 := n0_
                        have BK272 := n1_
                        have BK283 := n2_
                        have HB := n3_
                        clear n0_ n1_ n2_ n3_
                        (try clear hb)
                        (try clear hb2)
                        (try clear hk)
                        (try clear hi)
                        refine hK.out _ _ ⟨HS0_, HS1_, HS2_, HS3_⟩ (fun hHeld => ?_)
                        clear hK K
                        refine norm_ (a' := ?_) ?_ ?_
                        rotate_left
                        · show Act.put _ (some 54) _ = _
                          simp only [Act.put, List.setIfInBounds_toArray, List.set_cons_zero, List.set_cons_succ, i64_w, i32_w]
                          rfl
                        refine pure_ (i := 6) (N := some 48) (v := ?_) (a' := ?_) #[true, true, true, true, true, true, true, false, false, true, false, false] rfl rfl (any_of HT_.out (by kernel_rfl)) (fun _ _ _ h => h) (Or.inl ⟨by rfl, ?_⟩) ?_ ?_
                        rotate_left
                        · intro w'
                          go_simp
                          with_reducible rfl
                        rotate_left
                        · simp only [Act.put, List.setIfInBounds_toArray, List.set_cons_zero, List.set_cons_succ, i64_w, i32_w]
                          rfl
                        refine pure_ (i := 7) (N := some 55) (v := ?_) (a' := ?_) #[true, true, true, true, true, true, true, true, false, true, false, false] rfl rfl (any_of HT_.out (by kernel_rfl)) (fun _ _ _ h => h) (Or.inl ⟨by rfl, ?_⟩) ?_ ?_
                        rotate_left
                        · intro w'
                          go_simp
                          with_reducible rfl
                        rotate_left
                        · simp only [Act.put, List.setIfInBounds_toArray, List.set_cons_zero, List.set_cons_succ, i64_w, i32_w]
                          rfl
                        refine pure_ (i := 8) (N := some 56) (v := ?_) (a' := ?_) #[true, true, true, true, true, true, true, true, true, true, false, false] rfl rfl (any_of HT_.out (by kernel_rfl)) (fun _ _ _ h => h) (Or.inl ⟨by rfl, ?_⟩) ?_ ?_
                        rotate_left
                        · intro w'
                          go_simp
                          with_reducible rfl
                        rotate_left
                        · simp only [Act.put, List.setIfInBounds_toArray, List.set_cons_zero, List.set_cons_succ, i64_w, i32_w]
                          rfl
                        exact norm_ (by simp only [putAll, Act.put, List.setIfInBounds_toArray, List.set_cons_zero, List.set_cons_succ]) (hCont (gb283) _ ⟨hHeld, (by (with_reducible repeat (first | apply Kd.R_alloc | apply Kd.R_drewN | apply Kd.R_drew)); exact HO_1.out), (by (with_reducible repeat (first | refine blk_drewN ?_ _ | refine blk_drew ?_ | refine blk_alloc ?_ _)); exact BK272.out), (by (with_reducible repeat (first | refine blk_drewN ?_ _ | refine blk_drew ?_ | refine blk_alloc ?_ _)); exact BK283.out), GW283.out, GE283.out, NB272_283.out, NB283_272.out, (by repeat (first | (with_reducible first | exact HB.out | apply below_alloc | apply pw_below_drewN | apply below_drew1 | refine below_set ?_ GE272.out | refine below_set ?_ GE283.out) | exact HB.out))⟩)
                    rintro gb283 w25 ⟨hS_, h0_, h1_, h2_, h3_, h4_, h5_, h6_, h7_⟩
                    have n0_ : Aside0 (Kd.R k23 23 w25 w.heap.size (fun k_ => k_ ≠ gb272 ∧ k_ ≠ gb283) (.slice (some ad266) y263.length co16) y263) := ⟨h0_⟩
                    have n1_ : Aside0 (w25.heap[gb272]? = some (.cells #[.int .i64 t267, .int .i64 t268, .int .i64 t269, .int .i64 t270] 23 (0, 0))) := ⟨h1_⟩
                    have n2_ : Aside0 (w25.heap[gb283]? = some (.cells #[.int .i64 0, .int .i64 0, .int .i64 0, .int .i64 0] 23 (0, 0))) := ⟨h2_⟩
                    have n3_ : Aside0 (w.heap.size ≤ gb283) := ⟨h3_⟩
                    have n4_ : Aside0 (w.heap.size ≤ gb283) := ⟨h4_⟩
                    have n5_ : Aside0 (gb272 ≠ gb283) := ⟨h5_⟩
                    have n6_ : Aside0 (gb283 ≠ gb272) := ⟨h6_⟩
                    have n7_ : Aside0 (Below w.heap.size w w25) := ⟨h7_⟩
                    clear HO_1
                    clear BK272
                    clear HB
                    clear h0_ h1_ h2_ h3_ h4_ h5_ h6_ h7_
                    have HO_1 := n0_
                    have BK272 := n1_
                    have BK283 := n2_
                    have GW283 := n3_
                    have GE283 := n4_
                    have NB272_283 := n5_
                    have NB283_272 := n6_
                    have HB := n7_
                    clear n0_ n1_ n2_ n3_ n4_ n5_ n6_ n7_
                    have hHeld : w25.cell? (ad266.add ((x2_1).toNat * 4)) = some (.int .i64 ((rd_T23 y263 x2_1).f0)) ∧ w25.cell? ⟨(ad266.add ((x2_1).toNat * 4)).block, (ad266.add ((x2_1).toNat * 4)).off + 1, none⟩ = some (.int .i64 ((rd_T23 y263 x2_1).f1)) ∧ w25.cell? ⟨(ad266.add ((x2_1).toNat * 4)).block, (ad266.add ((x2_1).toNat * 4)).off + 2, none⟩ = some (.int .i64 ((rd_T23 y263 x2_1).f2)) ∧ w25.cell? ⟨(ad266.add ((x2_1).toNat * 4)).block, (ad266.add ((x2_1).toNat * 4)).off + 3, none⟩ = some (.int .i64 ((rd_T23 y263 x2_1).f3)) := hS_
                    refine norm_ (a' := ?_) ?_ ?_
                    rotate_left
                    · simp only [putAll, Act.put, List.setIfInBounds_toArray, List.set_cons_zero, List.set_cons_succ]
                      rfl
                    refine one_ (i := 10) (N := none) #[true, true, true, true, true, true, true, true, true, true, true, false] rfl rfl (one_of HT_.out (by kernel_rfl)) (by decide) (fun K hK => ?_)
                    have hs26 : w25.cell? ⟨gb283, 0, none⟩ = some (.int .i64 0) := (blk_cell BK283.out 0).trans rfl
                    have hfs26 := blk_frozen BK283.out 0
                    have hns26_0 := NB272_283.out
                    have hms26_0 := NB283_272.out
                    have hs27 : w25.cell? ⟨gb283, 1, none⟩ = some (.int .i64 0) := (blk_cell BK283.out 1).trans rfl
                    have hfs27 := blk_frozen BK283.out 1
                    have hns27_0 := NB272_283.out
                    have hms27_0 := NB283_272.out
                    have hs28 : w25.cell? ⟨gb283, 2, none⟩ = some (.int .i64 0) := (blk_cell BK283.out 2).trans rfl
                    have hfs28 := blk_frozen BK283.out 2
                    have hns28_0 := NB272_283.out
                    have hms28_0 := NB283_272.out
                    have hs29 : w25.cell? ⟨gb283, 3, none⟩ = some (.int .i64 0) := (blk_cell BK283.out 3).trans rfl
                    have hfs29 := blk_frozen BK283.out 3
                    have hns29_0 := NB272_283.out
                    have hms29_0 := NB283_272.out
                    refine skip_ (w1 := ?_) (by rfl) rfl ?_ ?_
                    rotate_left
                    · go_simp
                      rfl
                    refine hK.out _ _ ⟨((cell_far (p := ⟨gb283, _, none⟩) (by first | exact Kd.own_blk (Kd.R_away HO_1.out (fun _ hk => hk.2)) | (rw [add_block]; exact Kd.own_blk (Kd.R_away HO_1.out (fun _ hk => hk.2))) | (show (Addr.add _ _).block ≠ _; rw [add_block]; exact Kd.own_blk (Kd.R_away HO_1.out (fun _ hk => hk.2))) | (dsimp only; exact Kd.own_blk (Kd.R_away HO_1.out (fun _ hk => hk.2)))) _).trans (((cell_far (p := ⟨gb283, _, none⟩) (by first | exact Kd.own_blk (Kd.R_away HO_1.out (fun _ hk => hk.2)) | (rw [add_block]; exact Kd.own_blk (Kd.R_away HO_1.out (fun _ hk => hk.2))) | (show (Addr.add _ _).block ≠ _; rw [add_block]; exact Kd.own_blk (Kd.R_away HO_1.out (fun _ hk => hk.2))) | (dsimp only; exact Kd.own_blk (Kd.R_away HO_1.out (fun _ hk => hk.2)))) _).trans (((cell_far (p := ⟨gb283, _, none⟩) (by first | exact Kd.own_blk (Kd.R_away HO_1.out (fun _ hk => hk.2)) | (rw [add_block]; exact Kd.own_blk (Kd.R_away HO_1.out (fun _ hk => hk.2))) | (show (Addr.add _ _).block ≠ _; rw [add_block]; exact Kd.own_blk (Kd.R_away HO_1.out (fun _ hk => hk.2))) | (dsimp only; exact Kd.own_blk (Kd.R_away HO_1.out (fun _ hk => hk.2)))) _).trans (((cell_far (p := ⟨gb283, _, none⟩) (by first | exact Kd.own_blk (Kd.R_away HO_1.out (fun _ hk => hk.2)) | (rw [add_block]; exact Kd.own_blk (Kd.R_away HO_1.out (fun _ hk => hk.2))) | (show (Addr.add _ _).block ≠ _; rw [add_block]; exact Kd.own_blk (Kd.R_away HO_1.out (fun _ hk => hk.2))) | (dsimp only; exact Kd.own_blk (Kd.R_away HO_1.out (fun _ hk => hk.2)))) _).trans (hHeld.1)))))))), ((cell_far (p := ⟨gb283, _, none⟩) (by first | exact Kd.own_blk (Kd.R_away HO_1.out (fun _ hk => hk.2)) | (rw [add_block]; exact Kd.own_blk (Kd.R_away HO_1.out (fun _ hk => hk.2))) | (show (Addr.add _ _).block ≠ _; rw [add_block]; exact Kd.own_blk (Kd.R_away HO_1.out (fun _ hk => hk.2))) | (dsimp only; exact Kd.own_blk (Kd.R_away HO_1.out (fun _ hk => hk.2)))) _).trans (((cell_far (p := ⟨gb283, _, none⟩) (by first | exact Kd.own_blk (Kd.R_away HO_1.out (fun _ hk => hk.2)) | (rw [add_block]; exact Kd.own_blk (Kd.R_away HO_1.out (fun _ hk => hk.2))) | (show (Addr.add _ _).block ≠ _; rw [add_block]; exact Kd.own_blk (Kd.R_away HO_1.out (fun _ hk => hk.2))) | (dsimp only; exact Kd.own_blk (Kd.R_away HO_1.out (fun _ hk => hk.2)))) _).trans (((cell_far (p := ⟨gb283, _, none⟩) (by first | exact Kd.own_blk (Kd.R_away HO_1.out (fun _ hk => hk.2)) | (rw [add_block]; exact Kd.own_blk (Kd.R_away HO_1.out (fun _ hk => hk.2))) | (show (Addr.add _ _).block ≠ _; rw [add_block]; exact Kd.own_blk (Kd.R_away HO_1.out (fun _ hk => hk.2))) | (dsimp only; exact Kd.own_blk (Kd.R_away HO_1.out (fun _ hk => hk.2)))) _).trans (((cell_far (p := ⟨gb283, _, none⟩) (by first | exact Kd.own_blk (Kd.R_away HO_1.out (fun _ hk => hk.2)) | (rw [add_block]; exact Kd.own_blk (Kd.R_away HO_1.out (fun _ hk => hk.2))) | (show (Addr.add _ _).block ≠ _; rw [add_block]; exact Kd.own_blk (Kd.R_away HO_1.out (fun _ hk => hk.2))) | (dsimp only; exact Kd.own_blk (Kd.R_away HO_1.out (fun _ hk => hk.2)))) _).trans (hHeld.2.1)))))))), ((cell_far (p := ⟨gb283, _, none⟩) (by first | exact Kd.own_blk (Kd.R_away HO_1.out (fun _ hk => hk.2)) | (rw [add_block]; exact Kd.own_blk (Kd.R_away HO_1.out (fun _ hk => hk.2))) | (show (Addr.add _ _).block ≠ _; rw [add_block]; exact Kd.own_blk (Kd.R_away HO_1.out (fun _ hk => hk.2))) | (dsimp only; exact Kd.own_blk (Kd.R_away HO_1.out (fun _ hk => hk.2)))) _).trans (((cell_far (p := ⟨gb283, _, none⟩) (by first | exact Kd.own_blk (Kd.R_away HO_1.out (fun _ hk => hk.2)) | (rw [add_block]; exact Kd.own_blk (Kd.R_away HO_1.out (fun _ hk => hk.2))) | (show (Addr.add _ _).block ≠ _; rw [add_block]; exact Kd.own_blk (Kd.R_away HO_1.out (fun _ hk => hk.2))) | (dsimp only; exact Kd.own_blk (Kd.R_away HO_1.out (fun _ hk => hk.2)))) _).trans (((cell_far (p := ⟨gb283, _, none⟩) (by first | exact Kd.own_blk (Kd.R_away HO_1.out (fun _ hk => hk.2)) | (rw [add_block]; exact Kd.own_blk (Kd.R_away HO_1.out (fun _ hk => hk.2))) | (show (Addr.add _ _).block ≠ _; rw [add_block]; exact Kd.own_blk (Kd.R_away HO_1.out (fun _ hk => hk.2))) | (dsimp only; exact Kd.own_blk (Kd.R_away HO_1.out (fun _ hk => hk.2)))) _).trans (((cell_far (p := ⟨gb283, _, none⟩) (by first | exact Kd.own_blk (Kd.R_away HO_1.out (fun _ hk => hk.2)) | (rw [add_block]; exact Kd.own_blk (Kd.R_away HO_1.out (fun _ hk => hk.2))) | (show (Addr.add _ _).block ≠ _; rw [add_block]; exact Kd.own_blk (Kd.R_away HO_1.out (fun _ hk => hk.2))) | (dsimp only; exact Kd.own_blk (Kd.R_away HO_1.out (fun _ hk => hk.2)))) _).trans (hHeld.2.2.1)))))))), ((cell_far (p := ⟨gb283, _, none⟩) (by first | exact Kd.own_blk (Kd.R_away HO_1.out (fun _ hk => hk.2)) | (rw [add_block]; exact Kd.own_blk (Kd.R_away HO_1.out (fun _ hk => hk.2))) | (show (Addr.add _ _).block ≠ _; rw [add_block]; exact Kd.own_blk (Kd.R_away HO_1.out (fun _ hk => hk.2))) | (dsimp only; exact Kd.own_blk (Kd.R_away HO_1.out (fun _ hk => hk.2)))) _).trans (((cell_far (p := ⟨gb283, _, none⟩) (by first | exact Kd.own_blk (Kd.R_away HO_1.out (fun _ hk => hk.2)) | (rw [add_block]; exact Kd.own_blk (Kd.R_away HO_1.out (fun _ hk => hk.2))) | (show (Addr.add _ _).block ≠ _; rw [add_block]; exact Kd.own_blk (Kd.R_away HO_1.out (fun _ hk => hk.2))) | (dsimp only; exact Kd.own_blk (Kd.R_away HO_1.out (fun _ hk => hk.2)))) _).trans (((cell_far (p := ⟨gb283, _, none⟩) (by first | exact Kd.own_blk (Kd.R_away HO_1.out (fun _ hk => hk.2)) | (rw [add_block]; exact Kd.own_blk (Kd.R_away HO_1.out (fun _ hk => hk.2))) | (show (Addr.add _ _).block ≠ _; rw [add_block]; exact Kd.own_blk (Kd.R_away HO_1.out (fun _ hk => hk.2))) | (dsimp only; exact Kd.own_blk (Kd.R_away HO_1.out (fun _ hk => hk.2)))) _).trans (((cell_far (p := ⟨gb283, _, none⟩) (by first | exact Kd.own_blk (Kd.R_away HO_1.out (fun _ hk => hk.2)) | (rw [add_block]; exact Kd.own_blk (Kd.R_away HO_1.out (fun _ hk => hk.2))) | (show (Addr.add _ _).block ≠ _; rw [add_block]; exact Kd.own_blk (Kd.R_away HO_1.out (fun _ hk => hk.2))) | (dsimp only; exact Kd.own_blk (Kd.R_away HO_1.out (fun _ hk => hk.2)))) _).trans (hHeld.2.2.2))))))))⟩ (fun hHeld => ?_)
                    clear hK K
                    refine pure_ (i := 11) (N := some 6) (v := ?_) (a' := ?_) #[true, true, true, true, true, true, true, true, true, true, true, true] rfl rfl (any_of HT_.out (by kernel_rfl)) (fun _ _ _ h => h) (Or.inl ⟨by rfl, ?_⟩) ?_ ?_
                    rotate_left
                    · intro w'
                      go_simp
                      with_reducible rfl
                    rotate_left
                    · simp only [Act.put, List.setIfInBounds_toArray, List.set_cons_zero, List.set_cons_succ, i64_w, i32_w]
                      rfl
                    refine done_ (done_of HT_.out (by kernel_rfl)) ?_
                    have p284 : 0 ≤ (x2_1 : Int) := of_decide_eq_true (by first | (with_reducible assumption) | assumption)
                    have q284 : x2_1 < (y263.length : Int) := of_decide_eq_true (by first | (with_reducible assumption) | assumption)
                    obtain ⟨ad284, e284, hx284_0, hx284_1, hx284_2, hx284_3⟩ := at_T23 (Kd.R_reads' HO_1.out).2.2 x2_1 p284 q284
                    obtain rfl : ad266 = ad284 := (by injection e284)
                    have hn284_0 : ad266.block ≠ gb283 := Kd.own_blk (by first | exact Kd.R_ne HO_1.out BK283.out (by decide) | exact Kd.R_away HO_1.out (fun _ hk => hk) | exact Kd.R_away HO_1.out (fun _ hk => hk.1) | exact Kd.R_away HO_1.out (fun _ hk => hk.2) | exact Kd.R_away HO_1.out (fun _ hk => hk.1.1) | exact Kd.R_away HO_1.out (fun _ hk => hk.1.2) | exact Kd.R_away HO_1.out (fun _ hk => hk.2.1) | exact Kd.R_away HO_1.out (fun _ hk => hk.2.2) | exact Kd.R_away HO_1.out (fun _ hk => hk.2.2.1) | exact Kd.R_away HO_1.out (fun _ hk => hk.2.2.2) | exact Kd.R_away HO_1.out (fun _ hk => hk.1.1.1) | exact Kd.R_away HO_1.out (fun _ hk => hk.1.1.2))
                    have hn284_1 : ad266.block ≠ gb283 := Kd.own_blk (by first | exact Kd.R_ne HO_1.out BK283.out (by decide) | exact Kd.R_away HO_1.out (fun _ hk => hk) | exact Kd.R_away HO_1.out (fun _ hk => hk.1) | exact Kd.R_away HO_1.out (fun _ hk => hk.2) | exact Kd.R_away HO_1.out (fun _ hk => hk.1.1) | exact Kd.R_away HO_1.out (fun _ hk => hk.1.2) | exact Kd.R_away HO_1.out (fun _ hk => hk.2.1) | exact Kd.R_away HO_1.out (fun _ hk => hk.2.2) | exact Kd.R_away HO_1.out (fun _ hk => hk.2.2.1) | exact Kd.R_away HO_1.out (fun _ hk => hk.2.2.2) | exact Kd.R_away HO_1.out (fun _ hk => hk.1.1.1) | exact Kd.R_away HO_1.out (fun _ hk => hk.1.1.2))
                    have hn284_2 : ad266.block ≠ gb283 := Kd.own_blk (by first | exact Kd.R_ne HO_1.out BK283.out (by decide) | exact Kd.R_away HO_1.out (fun _ hk => hk) | exact Kd.R_away HO_1.out (fun _ hk => hk.1) | exact Kd.R_away HO_1.out (fun _ hk => hk.2) | exact Kd.R_away HO_1.out (fun _ hk => hk.1.1) | exact Kd.R_away HO_1.out (fun _ hk => hk.1.2) | exact Kd.R_away HO_1.out (fun _ hk => hk.2.1) | exact Kd.R_away HO_1.out (fun _ hk => hk.2.2) | exact Kd.R_away HO_1.out (fun _ hk => hk.2.2.1) | exact Kd.R_away HO_1.out (fun _ hk => hk.2.2.2) | exact Kd.R_away HO_1.out (fun _ hk => hk.1.1.1) | exact Kd.R_away HO_1.out (fun _ hk => hk.1.1.2))
                    have hn284_3 : ad266.block ≠ gb283 := Kd.own_blk (by first | exact Kd.R_ne HO_1.out BK283.out (by decide) | exact Kd.R_away HO_1.out (fun _ hk => hk) | exact Kd.R_away HO_1.out (fun _ hk => hk.1) | exact Kd.R_away HO_1.out (fun _ hk => hk.2) | exact Kd.R_away HO_1.out (fun _ hk => hk.1.1) | exact Kd.R_away HO_1.out (fun _ hk => hk.1.2) | exact Kd.R_away HO_1.out (fun _ hk => hk.2.1) | exact Kd.R_away HO_1.out (fun _ hk => hk.2.2) | exact Kd.R_away HO_1.out (fun _ hk => hk.2.2.1) | exact Kd.R_away HO_1.out (fun _ hk => hk.2.2.2) | exact Kd.R_away HO_1.out (fun _ hk => hk.1.1.1) | exact Kd.R_away HO_1.out (fun _ hk => hk.1.1.2))
                    replace hx284_0 := (cell_far (p := ⟨gb283, 0, none⟩) (by first | (rw [add_block]; exact hn284_0) | (show (Addr.add _ _).block ≠ _; rw [add_block]; exact hn284_0) | exact hn284_0) (.int .i64 t278)).trans hx284_0
                    replace hx284_1 := (cell_far (p := ⟨gb283, 0, none⟩) (by first | (rw [add_block]; exact hn284_0) | (show (Addr.add _ _).block ≠ _; rw [add_block]; exact hn284_0) | exact hn284_0) (.int .i64 t278)).trans hx284_1
                    replace hx284_2 := (cell_far (p := ⟨gb283, 0, none⟩) (by first | (rw [add_block]; exact hn284_0) | (show (Addr.add _ _).block ≠ _; rw [add_block]; exact hn284_0) | exact hn284_0) (.int .i64 t278)).trans hx284_2
                    replace hx284_3 := (cell_far (p := ⟨gb283, 0, none⟩) (by first | (rw [add_block]; exact hn284_0) | (show (Addr.add _ _).block ≠ _; rw [add_block]; exact hn284_0) | exact hn284_0) (.int .i64 t278)).trans hx284_3
                    replace hx284_0 := (cell_far (p := ⟨gb283, 1, none⟩) (by first | (rw [add_block]; exact hn284_1) | (show (Addr.add _ _).block ≠ _; rw [add_block]; exact hn284_1) | exact hn284_1) (.int .i64 t279)).trans hx284_0
                    replace hx284_1 := (cell_far (p := ⟨gb283, 1, none⟩) (by first | (rw [add_block]; exact hn284_1) | (show (Addr.add _ _).block ≠ _; rw [add_block]; exact hn284_1) | exact hn284_1) (.int .i64 t279)).trans hx284_1
                    replace hx284_2 := (cell_far (p := ⟨gb283, 1, none⟩) (by first | (rw [add_block]; exact hn284_1) | (show (Addr.add _ _).block ≠ _; rw [add_block]; exact hn284_1) | exact hn284_1) (.int .i64 t279)).trans hx284_2
                    replace hx284_3 := (cell_far (p := ⟨gb283, 1, none⟩) (by first | (rw [add_block]; exact hn284_1) | (show (Addr.add _ _).block ≠ _; rw [add_block]; exact hn284_1) | exact hn284_1) (.int .i64 t279)).trans hx284_3
                    replace hx284_0 := (cell_far (p := ⟨gb283, 2, none⟩) (by first | (rw [add_block]; exact hn284_2) | (show (Addr.add _ _).block ≠ _; rw [add_block]; exact hn284_2) | exact hn284_2) (.int .i64 t280)).trans hx284_0
                    replace hx284_1 := (cell_far (p := ⟨gb283, 2, none⟩) (by first | (rw [add_block]; exact hn284_2) | (show (Addr.add _ _).block ≠ _; rw [add_block]; exact hn284_2) | exact hn284_2) (.int .i64 t280)).trans hx284_1
                    replace hx284_2 := (cell_far (p := ⟨gb283, 2, none⟩) (by first | (rw [add_block]; exact hn284_2) | (show (Addr.add _ _).block ≠ _; rw [add_block]; exact hn284_2) | exact hn284_2) (.int .i64 t280)).trans hx284_2
                    replace hx284_3 := (cell_far (p := ⟨gb283, 2, none⟩) (by first | (rw [add_block]; exact hn284_2) | (show (Addr.add _ _).block ≠ _; rw [add_block]; exact hn284_2) | exact hn284_2) (.int .i64 t280)).trans hx284_3
                    replace hx284_0 := (cell_far (p := ⟨gb283, 3, none⟩) (by first | (rw [add_block]; exact hn284_3) | (show (Addr.add _ _).block ≠ _; rw [add_block]; exact hn284_3) | exact hn284_3) (.int .i64 t281)).trans hx284_0
                    replace hx284_1 := (cell_far (p := ⟨gb283, 3, none⟩) (by first | (rw [add_block]; exact hn284_3) | (show (Addr.add _ _).block ≠ _; rw [add_block]; exact hn284_3) | exact hn284_3) (.int .i64 t281)).trans hx284_1
                    replace hx284_2 := (cell_far (p := ⟨gb283, 3, none⟩) (by first | (rw [add_block]; exact hn284_3) | (show (Addr.add _ _).block ≠ _; rw [add_block]; exact hn284_3) | exact hn284_3) (.int .i64 t281)).trans hx284_2
                    replace hx284_3 := (cell_far (p := ⟨gb283, 3, none⟩) (by first | (rw [add_block]; exact hn284_3) | (show (Addr.add _ _).block ≠ _; rw [add_block]; exact hn284_3) | exact hn284_3) (.int .i64 t281)).trans hx284_3
                    clear hn284_0
                    clear hn284_1
                    clear hn284_2
                    clear hn284_3
                    replace p284 := eq_true p284
                    replace q284 := eq_true q284
                    try go_wp2_with (first | ((with_reducible refine gate_callee (f := 17) rfl ?_); refine goesL_ (some 62) rfl rfl Try.func17 (by kernel_rfl) rfl #[.int .u8 2, .agg #[.int .i64 ((rd_T23 y263 x2_1).f0), .int .i64 ((rd_T23 y263 x2_1).f1), .int .i64 ((rd_T23 y263 x2_1).f2), .int .i64 ((rd_T23 y263 x2_1).f3)]] rfl (by (try simp only [List.map_toArray, List.map_cons, List.map_nil]); first | done | rfl | (simp only [List.length_drop, List.length_take]; rfl)) ?_; (with_reducible refine (accums_Value.calls k1 2 ((rd_T23 y263 x2_1).f0) ((rd_T23 y263 x2_1).f1) ((rd_T23 y263 x2_1).f2) ((rd_T23 y263 x2_1).f3) t285 t286 _ A8.out).mono ?_); rintro e w30 ⟨rfl, hb⟩; refine ⟨_, rfl, ?_⟩; have n0_ := Aside0.mk (Kd.R_below (by (with_reducible repeat (first | apply Kd.R_alloc | apply Kd.R_drewN | apply Kd.R_drew)); exact (Kd.R_mono (Kd.R_far (p := ⟨gb283, 3, none⟩) (Kd.R_far (p := ⟨gb283, 2, none⟩) (Kd.R_far (p := ⟨gb283, 1, none⟩) (Kd.R_far (p := ⟨gb283, 0, none⟩) (Kd.R_mono HO_1.out (fun k_ hk => (⟨hk, hk.2⟩ : _ ∧ k_ ≠ gb283))) (fun _ hk => hk.2) (.int .i64 t278)) (fun _ hk => hk.2) (.int .i64 t279)) (fun _ hk => hk.2) (.int .i64 t280)) (fun _ hk => hk.2) (.int .i64 t281)) (fun _ h_ => h_.1))) hb); have n1_ := Aside0.mk (blk_below (g := gb272) (o := .cells #[.int .i64 t267, .int .i64 t268, .int .i64 t269, .int .i64 t270] 23 (0, 0)) (by (with_reducible repeat (first | refine blk_drewN ?_ _ | refine blk_drew ?_ | refine blk_alloc ?_ _)); refine blk_far ?_ NB272_283.out _; (with_reducible repeat (first | refine blk_drewN ?_ _ | refine blk_drew ?_ | refine blk_alloc ?_ _)); refine blk_far ?_ NB272_283.out _; (with_reducible repeat (first | refine blk_drewN ?_ _ | refine blk_drew ?_ | refine blk_alloc ?_ _)); refine blk_far ?_ NB272_283.out _; (with_reducible repeat (first | refine blk_drewN ?_ _ | refine blk_drew ?_ | refine blk_alloc ?_ _)); refine blk_far ?_ NB272_283.out _; (with_reducible repeat (first | refine blk_drewN ?_ _ | refine blk_drew ?_ | refine blk_alloc ?_ _)); exact BK272.out) hb); have n2_ := Aside0.mk (blk_below (g := gb283) (o := .cells #[.int .i64 t278, .int .i64 t279, .int .i64 t280, .int .i64 t281] 23 (0, 0)) (by (with_reducible repeat (first | refine blk_drewN ?_ _ | refine blk_drew ?_ | refine blk_alloc ?_ _)); refine blk_put (cs := #[.int .i64 t278, .int .i64 t279, .int .i64 t280, .int .i64 0]) ?_ 3 _ rfl; (with_reducible repeat (first | refine blk_drewN ?_ _ | refine blk_drew ?_ | refine blk_alloc ?_ _)); refine blk_put (cs := #[.int .i64 t278, .int .i64 t279, .int .i64 0, .int .i64 0]) ?_ 2 _ rfl; (with_reducible repeat (first | refine blk_drewN ?_ _ | refine blk_drew ?_ | refine blk_alloc ?_ _)); refine blk_put (cs := #[.int .i64 t278, .int .i64 0, .int .i64 0, .int .i64 0]) ?_ 1 _ rfl; (with_reducible repeat (first | refine blk_drewN ?_ _ | refine blk_drew ?_ | refine blk_alloc ?_ _)); refine blk_put (cs := #[.int .i64 0, .int .i64 0, .int .i64 0, .int .i64 0]) ?_ 0 _ rfl; (with_reducible repeat (first | refine blk_drewN ?_ _ | refine blk_drew ?_ | refine blk_alloc ?_ _)); exact BK283.out) hb); have n3_ := Aside0.mk (below_step (by repeat (first | (with_reducible first | exact HB.out | apply below_alloc | apply pw_below_drewN | apply below_drew1 | refine below_set ?_ GE272.out | refine below_set ?_ GE283.out) | exact HB.out)) hb); clear HO_1; clear BK272; clear BK283; clear HB; have HO_1 := n0_; have BK272 := n1_; have BK283 := n2_; have HB := n3_; clear n0_ n1_ n2_ n3_; (try clear hb); (try clear hb2); (try clear hk); (try clear hi); have p287 : 0 ≤ (x2_1 : Int) := of_decide_eq_true (by first | (with_reducible assumption) | assumption); have q287 : x2_1 < (y263.length : Int) := of_decide_eq_true (by first | (with_reducible assumption) | assumption); obtain ⟨ad287, e287, hx287_0, hx287_1, hx287_2, hx287_3⟩ := at_T23 (Kd.R_reads' HO_1.out).2.2 x2_1 p287 q287; obtain rfl : ad266 = ad287 := (by injection e287); replace p287 := eq_true p287; replace q287 := eq_true q287) | ((with_reducible refine gate_callee (f := 17) rfl ?_); refine goesL_ (some 70) rfl rfl Try.func17 (by kernel_rfl) rfl #[.int .u8 5, .agg #[.int .i64 ((rd_T23 y263 x2_1).f0), .int .i64 ((rd_T23 y263 x2_1).f1), .int .i64 ((rd_T23 y263 x2_1).f2), .int .i64 ((rd_T23 y263 x2_1).f3)]] rfl (by (try simp only [List.map_toArray, List.map_cons, List.map_nil]); first | done | rfl | (simp only [List.length_drop, List.length_take]; rfl)) ?_; (with_reducible refine (accums_Value.calls k1 5 ((rd_T23 y263 x2_1).f0) ((rd_T23 y263 x2_1).f1) ((rd_T23 y263 x2_1).f2) ((rd_T23 y263 x2_1).f3) t288 t289 _ A9.out).mono ?_); rintro e w31 ⟨rfl, hb⟩; refine ⟨_, rfl, ?_⟩; have n0_ := Aside0.mk (Kd.R_below (by (with_reducible repeat (first | apply Kd.R_alloc | apply Kd.R_drewN | apply Kd.R_drew)); exact HO_1.out) hb); have n1_ := Aside0.mk (blk_below (g := gb272) (o := .cells #[.int .i64 t267, .int .i64 t268, .int .i64 t269, .int .i64 t270] 23 (0, 0)) (by (with_reducible repeat (first | refine blk_drewN ?_ _ | refine blk_drew ?_ | refine blk_alloc ?_ _)); exact BK272.out) hb); have n2_ := Aside0.mk (blk_below (g := gb283) (o := .cells #[.int .i64 t278, .int .i64 t279, .int .i64 t280, .int .i64 t281] 23 (0, 0)) (by (with_reducible repeat (first | refine blk_drewN ?_ _ | refine blk_drew ?_ | refine blk_alloc ?_ _)); exact BK283.out) hb); have n3_ := Aside0.mk (below_step (by repeat (first | (with_reducible first | exact HB.out | apply below_alloc | apply pw_below_drewN | apply below_drew1 | refine below_set ?_ GE272.out | refine below_set ?_ GE283.out) | exact HB.out)) hb); clear HO_1; clear BK272; clear BK283; clear HB; have HO_1 := n0_; have BK272 := n1_; have BK283 := n2_; have HB := n3_; clear n0_ n1_ n2_ n3_; (try clear hb); (try clear hb2); (try clear hk); (try clear hi); have p290 : 0 ≤ (x2_1 : Int) := of_decide_eq_true (by first | (with_reducible assumption) | assumption); have q290 : x2_1 < (y263.length : Int) := of_decide_eq_true (by first | (with_reducible assumption) | assumption); obtain ⟨ad290, e290, hx290_0, hx290_1, hx290_2, hx290_3⟩ := at_T23 (Kd.R_reads' HO_1.out).2.2 x2_1 p290 q290; obtain rfl : ad266 = ad290 := (by injection e290); replace p290 := eq_true p290; replace q290 := eq_true q290) | ((with_reducible refine gate_callee (f := 13) rfl ?_); refine goesL_ (some 77) rfl rfl Try.func13 (by kernel_rfl) rfl #[.agg #[.int .i64 ((rd_T23 y263 x2_1).f0), .int .i64 ((rd_T23 y263 x2_1).f1), .int .i64 ((rd_T23 y263 x2_1).f2), .int .i64 ((rd_T23 y263 x2_1).f3)]] rfl (by (try simp only [List.map_toArray, List.map_cons, List.map_nil]); first | done | rfl | (simp only [List.length_drop, List.length_take]; rfl)) ?_; (with_reducible refine (accums_Check.calls k1 ((rd_T23 y263 x2_1).f0) ((rd_T23 y263 x2_1).f1) ((rd_T23 y263 x2_1).f2) ((rd_T23 y263 x2_1).f3) t291 _ A10.out).mono ?_); rintro e w32 ⟨rfl, hb⟩; refine ⟨_, rfl, ?_⟩; have n0_ := Aside0.mk (Kd.R_below (by (with_reducible repeat (first | apply Kd.R_alloc | apply Kd.R_drewN | apply Kd.R_drew)); exact HO_1.out) hb); have n1_ := Aside0.mk (blk_below (g := gb272) (o := .cells #[.int .i64 t267, .int .i64 t268, .int .i64 t269, .int .i64 t270] 23 (0, 0)) (by (with_reducible repeat (first | refine blk_drewN ?_ _ | refine blk_drew ?_ | refine blk_alloc ?_ _)); exact BK272.out) hb); have n2_ := Aside0.mk (blk_below (g := gb283) (o := .cells #[.int .i64 t278, .int .i64 t279, .int .i64 t280, .int .i64 t281] 23 (0, 0)) (by (with_reducible repeat (first | refine blk_drewN ?_ _ | refine blk_drew ?_ | refine blk_alloc ?_ _)); exact BK283.out) hb); have n3_ := Aside0.mk (below_step (by repeat (first | (with_reducible first | exact HB.out | apply below_alloc | apply pw_below_drewN | apply below_drew1 | refine below_set ?_ GE272.out | refine below_set ?_ GE283.out) | exact HB.out)) hb); clear HO_1; clear BK272; clear BK283; clear HB; have HO_1 := n0_; have BK272 := n1_; have BK283 := n2_; have HB := n3_; clear n0_ n1_ n2_ n3_; (try clear hb); (try clear hb2); (try clear hk); (try clear hi)))
                    go_roundg k1
                    case measure => have := HK1.out; omega
                    case rel => exact ⟨(wrap64 (x2_1 + 1)), (by first | rfl | (simp; done) | (simp [*]; done)), H', ⟨by have := HK1.out; omega⟩, ⟨by (with_reducible repeat (first | apply Kd.R_alloc | apply Kd.R_drewN | apply Kd.R_drew)); exact Kd.R_mono HO_1.out (fun _ hk => trivial)⟩, ⟨by repeat (first | (with_reducible first | exact HB.out | apply below_alloc | apply pw_below_drewN | apply below_drew1 | refine below_set ?_ GE272.out | refine below_set ?_ GE283.out) | exact HB.out)⟩⟩
                  · rw [if_neg c15] at H
                    have c15b0 : (t289 == 2) = false := beq_eq_false_iff_ne.mpr c15
                    have c15b1 : (t289 != 2) = true := bne_iff_ne.mpr c15
                    exact absurd H (by simp)
                · rw [if_neg c14] at H
                  have c14b0 : (t286 == 8) = false := beq_eq_false_iff_ne.mpr c14
                  have c14b1 : (t286 != 8) = true := bne_iff_ne.mpr c14
                  exact absurd H (by simp)
              · rw [if_neg c13] at H
                have c13b0 : (t282 == 8) = false := beq_eq_false_iff_ne.mpr c13
                have c13b1 : (t282 != 8) = true := bne_iff_ne.mpr c13
                exact absurd H (by simp)
            · rw [if_neg c12] at H
              have c12b0 : (t271 == 8) = false := beq_eq_false_iff_ne.mpr c12
              have c12b1 : (t271 != 8) = true := bne_iff_ne.mpr c12
              exact absurd H (by simp)
          · rw [if_neg c11] at H
            have c11b0 : (t291 == 8) = false := beq_eq_false_iff_ne.mpr c11
            have c11b1 : (t291 != 8) = true := bne_iff_ne.mpr c11
            exact absurd H (by simp)
        · rw [if_neg c4] at H
          exact absurd H (by simp)
      · rw [if_neg c3] at H
        have c3b0 : decide (x2_1 < (y263.length : Int)) = false := decide_eq_false c3
        clear c3
        replace H := Option.bind_eq_some_iff.mp H
        obtain ⟨⟨t293, t294, t295, t296⟩, A330, H⟩ := H
        replace H : ((accums_Join.f k1 1073741824 7 0 0 t293 t294 t295 t296).bind fun bt297 => ((accums_Join.f k1 1073741824 7 0 0 0 0 0 0).bind fun bt303 => ((accums_Value.f k1 1 0 0 0 0).bind fun bt309 => ((accums_Value.f k1 0 0 0 0 0).bind fun bt311 => ((accums_Value.f k1 1 1073741824 7 0 0).bind fun bt313 => ((accums_Of.f (-9)).bind fun bt315 => ((accums_Value.f k1 4 bt315.1 bt315.2.1 bt315.2.2.1 bt315.2.2.2).bind fun bt319 => ((tailwaterlaw16_alive.f k1).bind fun t321 => (if t321 = true then (if bt297.2.2.2.2 = 4 then (if bt303.2.2.2.2 = 0 then (if (bt303.1 == 1073741824 && (bt303.2.1 == 7 && (bt303.2.2.1 == 0 && (bt303.2.2.2.1 == 0)))) = true then (if bt309.2 = 6 then (if bt311.2 = 2 then (if bt313.2 = 0 then (if bt313.1 = 1073741824 then (if bt319.2 = 0 then (some (bt319.1 == (-9))) else (some false)) else (some false)) else (some false)) else (some false)) else (some false)) else (some false)) else (some false)) else (some false)) else (some false)))))))))) = some true := H
        have A33 := Aside0.mk A330
        clear A330
        replace H := Option.bind_eq_some_iff.mp H
        obtain ⟨⟨t297, t298, t299, t300, t301⟩, A340, H⟩ := H
        replace H : ((accums_Join.f k1 1073741824 7 0 0 0 0 0 0).bind fun bt303 => ((accums_Value.f k1 1 0 0 0 0).bind fun bt309 => ((accums_Value.f k1 0 0 0 0 0).bind fun bt311 => ((accums_Value.f k1 1 1073741824 7 0 0).bind fun bt313 => ((accums_Of.f (-9)).bind fun bt315 => ((accums_Value.f k1 4 bt315.1 bt315.2.1 bt315.2.2.1 bt315.2.2.2).bind fun bt319 => ((tailwaterlaw16_alive.f k1).bind fun t321 => (if t321 = true then (if t301 = 4 then (if bt303.2.2.2.2 = 0 then (if (bt303.1 == 1073741824 && (bt303.2.1 == 7 && (bt303.2.2.1 == 0 && (bt303.2.2.2.1 == 0)))) = true then (if bt309.2 = 6 then (if bt311.2 = 2 then (if bt313.2 = 0 then (if bt313.1 = 1073741824 then (if bt319.2 = 0 then (some (bt319.1 == (-9))) else (some false)) else (some false)) else (some false)) else (some false)) else (some false)) else (some false)) else (some false)) else (some false)) else (some false))))))))) = some true := H
        have A34 := Aside0.mk A340
        clear A340
        replace H := Option.bind_eq_some_iff.mp H
        obtain ⟨⟨t303, t304, t305, t306, t307⟩, A350, H⟩ := H
        replace H : ((accums_Value.f k1 1 0 0 0 0).bind fun bt309 => ((accums_Value.f k1 0 0 0 0 0).bind fun bt311 => ((accums_Value.f k1 1 1073741824 7 0 0).bind fun bt313 => ((accums_Of.f (-9)).bind fun bt315 => ((accums_Value.f k1 4 bt315.1 bt315.2.1 bt315.2.2.1 bt315.2.2.2).bind fun bt319 => ((tailwaterlaw16_alive.f k1).bind fun t321 => (if t321 = true then (if t301 = 4 then (if t307 = 0 then (if (t303 == 1073741824 && (t304 == 7 && (t305 == 0 && (t306 == 0)))) = true then (if bt309.2 = 6 then (if bt311.2 = 2 then (if bt313.2 = 0 then (if bt313.1 = 1073741824 then (if bt319.2 = 0 then (some (bt319.1 == (-9))) else (some false)) else (some false)) else (some false)) else (some false)) else (some false)) else (some false)) else (some false)) else (some false)) else (some false)))))))) = some true := H
        have A35 := Aside0.mk A350
        clear A350
        replace H := Option.bind_eq_some_iff.mp H
        obtain ⟨⟨t309, t310⟩, A360, H⟩ := H
        replace H : ((accums_Value.f k1 0 0 0 0 0).bind fun bt311 => ((accums_Value.f k1 1 1073741824 7 0 0).bind fun bt313 => ((accums_Of.f (-9)).bind fun bt315 => ((accums_Value.f k1 4 bt315.1 bt315.2.1 bt315.2.2.1 bt315.2.2.2).bind fun bt319 => ((tailwaterlaw16_alive.f k1).bind fun t321 => (if t321 = true then (if t301 = 4 then (if t307 = 0 then (if (t303 == 1073741824 && (t304 == 7 && (t305 == 0 && (t306 == 0)))) = true then (if t310 = 6 then (if bt311.2 = 2 then (if bt313.2 = 0 then (if bt313.1 = 1073741824 then (if bt319.2 = 0 then (some (bt319.1 == (-9))) else (some false)) else (some false)) else (some false)) else (some false)) else (some false)) else (some false)) else (some false)) else (some false)) else (some false))))))) = some true := H
        have A36 := Aside0.mk A360
        clear A360
        replace H := Option.bind_eq_some_iff.mp H
        obtain ⟨⟨t311, t312⟩, A370, H⟩ := H
        replace H : ((accums_Value.f k1 1 1073741824 7 0 0).bind fun bt313 => ((accums_Of.f (-9)).bind fun bt315 => ((accums_Value.f k1 4 bt315.1 bt315.2.1 bt315.2.2.1 bt315.2.2.2).bind fun bt319 => ((tailwaterlaw16_alive.f k1).bind fun t321 => (if t321 = true then (if t301 = 4 then (if t307 = 0 then (if (t303 == 1073741824 && (t304 == 7 && (t305 == 0 && (t306 == 0)))) = true then (if t310 = 6 then (if t312 = 2 then (if bt313.2 = 0 then (if bt313.1 = 1073741824 then (if bt319.2 = 0 then (some (bt319.1 == (-9))) else (some false)) else (some false)) else (some false)) else (some false)) else (some false)) else (some false)) else (some false)) else (some false)) else (some false)))))) = some true := H
        have A37 := Aside0.mk A370
        clear A370
        replace H := Option.bind_eq_some_iff.mp H
        obtain ⟨⟨t313, t314⟩, A380, H⟩ := H
        replace H : ((accums_Of.f (-9)).bind fun bt315 => ((accums_Value.f k1 4 bt315.1 bt315.2.1 bt315.2.2.1 bt315.2.2.2).bind fun bt319 => ((tailwaterlaw16_alive.f k1).bind fun t321 => (if t321 = true then (if t301 = 4 then (if t307 = 0 then (if (t303 == 1073741824 && (t304 == 7 && (t305 == 0 && (t306 == 0)))) = true then (if t310 = 6 then (if t312 = 2 then (if t314 = 0 then (if t313 = 1073741824 then (if bt319.2 = 0 then (some (bt319.1 == (-9))) else (some false)) else (some false)) else (some false)) else (some false)) else (some false)) else (some false)) else (some false)) else (some false)) else (some false))))) = some true := H
        have A38 := Aside0.mk A380
        clear A380
        replace H := Option.bind_eq_some_iff.mp H
        obtain ⟨⟨t315, t316, t317, t318⟩, A390, H⟩ := H
        replace H : ((accums_Value.f k1 4 t315 t316 t317 t318).bind fun bt319 => ((tailwaterlaw16_alive.f k1).bind fun t321 => (if t321 = true then (if t301 = 4 then (if t307 = 0 then (if (t303 == 1073741824 && (t304 == 7 && (t305 == 0 && (t306 == 0)))) = true then (if t310 = 6 then (if t312 = 2 then (if t314 = 0 then (if t313 = 1073741824 then (if bt319.2 = 0 then (some (bt319.1 == (-9))) else (some false)) else (some false)) else (some false)) else (some false)) else (some false)) else (some false)) else (some false)) else (some false)) else (some false)))) = some true := H
        have A39 := Aside0.mk A390
        clear A390
        replace H := Option.bind_eq_some_iff.mp H
        obtain ⟨⟨t319, t320⟩, A400, H⟩ := H
        replace H : ((tailwaterlaw16_alive.f k1).bind fun t321 => (if t321 = true then (if t301 = 4 then (if t307 = 0 then (if (t303 == 1073741824 && (t304 == 7 && (t305 == 0 && (t306 == 0)))) = true then (if t310 = 6 then (if t312 = 2 then (if t314 = 0 then (if t313 = 1073741824 then (if t320 = 0 then (some (t319 == (-9))) else (some false)) else (some false)) else (some false)) else (some false)) else (some false)) else (some false)) else (some false)) else (some false)) else (some false))) = some true := H
        have A40 := Aside0.mk A400
        clear A400
        replace H := Option.bind_eq_some_iff.mp H
        obtain ⟨t321, A410, H⟩ := H
        replace H : (if t321 = true then (if t301 = 4 then (if t307 = 0 then (if (t303 == 1073741824 && (t304 == 7 && (t305 == 0 && (t306 == 0)))) = true then (if t310 = 6 then (if t312 = 2 then (if t314 = 0 then (if t313 = 1073741824 then (if t320 = 0 then (some (t319 == (-9))) else (some false)) else (some false)) else (some false)) else (some false)) else (some false)) else (some false)) else (some false)) else (some false)) else (some false)) = some true := H
        have A41 := Aside0.mk A410
        clear A410
        by_cases c42 : t321 = true
        · subst c42
          have H1 : (if t301 = 4 then (if t307 = 0 then (if (t303 == 1073741824 && (t304 == 7 && (t305 == 0 && (t306 == 0)))) = true then (if t310 = 6 then (if t312 = 2 then (if t314 = 0 then (if t313 = 1073741824 then (if t320 = 0 then (some (t319 == (-9))) else (some false)) else (some false)) else (some false)) else (some false)) else (some false)) else (some false)) else (some false)) else (some false)) = some true := by rw [if_pos rfl] at H; exact H
          clear H
          have H := H1
          clear H1
          by_cases c43 : t301 = 4
          · rw [if_pos c43] at H
            have c43b0 : (t301 == 4) = true := beq_iff_eq.mpr c43
            have c43b1 : (t301 != 4) = false := bne_eq_false_iff_eq.mpr c43
            clear c43
            by_cases c44 : t307 = 0
            · rw [if_pos c44] at H
              have c44b0 : (t307 == 0) = true := beq_iff_eq.mpr c44
              have c44b1 : (t307 != 0) = false := bne_eq_false_iff_eq.mpr c44
              clear c44
              by_cases c45 : (t303 == 1073741824 && (t304 == 7 && (t305 == 0 && (t306 == 0)))) = true
              · rw [if_pos c45] at H
                (try (have c45b0 : (t303 == 1073741824) = true := (Bool.and_eq_true_iff.mp (show ((t303 == 1073741824 && (t304 == 7 && (t305 == 0 && (t306 == 0))))) = true from c45)).1))
                (try (have c45b1 : (t304 == 7) = true := (Bool.and_eq_true_iff.mp (Bool.and_eq_true_iff.mp (show ((t303 == 1073741824 && (t304 == 7 && (t305 == 0 && (t306 == 0))))) = true from c45)).2).1))
                (try (have c45b2 : (t305 == 0) = true := (Bool.and_eq_true_iff.mp (Bool.and_eq_true_iff.mp (Bool.and_eq_true_iff.mp (show ((t303 == 1073741824 && (t304 == 7 && (t305 == 0 && (t306 == 0))))) = true from c45)).2).2).1))
                (try (have c45b3 : (t306 == 0) = true := (Bool.and_eq_true_iff.mp (Bool.and_eq_true_iff.mp (Bool.and_eq_true_iff.mp (show ((t303 == 1073741824 && (t304 == 7 && (t305 == 0 && (t306 == 0))))) = true from c45)).2).2).2))
                have c45b4 : (t303 == 1073741824 && (t304 == 7 && (t305 == 0 && (t306 == 0)))) = true := c45
                (try (have c45b5 : decide (t303 = 1073741824 && (t304 == 7 && (t305 == 0 && (t306 == 0)))) = true := by simpa using c45))
                (try (have c45b6 : (t303 == 1073741824 && (t304 == 7 && (t305 == 0 && (t306 == 0)))) = true := by simpa using c45))
                clear c45
                by_cases c46 : t310 = 6
                · rw [if_pos c46] at H
                  have c46b0 : (t310 == 6) = true := beq_iff_eq.mpr c46
                  have c46b1 : (t310 != 6) = false := bne_eq_false_iff_eq.mpr c46
                  clear c46
                  by_cases c47 : t312 = 2
                  · rw [if_pos c47] at H
                    have c47b0 : (t312 == 2) = true := beq_iff_eq.mpr c47
                    have c47b1 : (t312 != 2) = false := bne_eq_false_iff_eq.mpr c47
                    clear c47
                    by_cases c48 : t314 = 0
                    · rw [if_pos c48] at H
                      have c48b0 : (t314 == 0) = true := beq_iff_eq.mpr c48
                      have c48b1 : (t314 != 0) = false := bne_eq_false_iff_eq.mpr c48
                      clear c48
                      by_cases c49 : t313 = 1073741824
                      · rw [if_pos c49] at H
                        have c49b0 : (t313 == 1073741824) = true := beq_iff_eq.mpr c49
                        have c49b1 : (t313 != 1073741824) = false := bne_eq_false_iff_eq.mpr c49
                        clear c49
                        by_cases c50 : t320 = 0
                        · rw [if_pos c50] at H
                          have c50b0 : (t320 == 0) = true := beq_iff_eq.mpr c50
                          have c50b1 : (t320 != 0) = false := bne_eq_false_iff_eq.mpr c50
                          clear c50
                          have HE := Aside0.mk (Option.some.inj H)
                          clear H
                          obtain ⟨Ao51, co51, eo51⟩ := Kd.R_slice HO_1.out
                          subst eo51
                          try go_wp2_with (first | ((with_reducible refine gate_dst (N := 11) rfl ?_); refine box_event ?hg (N := 11) ?hd (cs := #[.int .i64 0, .int .i64 0, .int .i64 0, .int .i64 0]) (t := 23) ?hr ?_; (case hd => rfl); (case hg => rfl); (case hr => first | (go_simp; done) | (go_simp; rfl)); intro gb292 hg w52 hbox hb; have n0_ := Aside0.mk (Kd.R_below (Kd.R_elderB (by (with_reducible repeat (first | apply Kd.R_alloc | apply Kd.R_drewN | apply Kd.R_drew)); exact HO_1.out) gb292 (Nat.le_of_eq hg.symm)) hb); have n1_ := Aside0.mk (below_step (by repeat (first | (with_reducible first | exact HB.out | apply below_alloc | apply pw_below_drewN | apply below_drew1) | exact HB.out)) hb); have n2_ := Aside0.mk (hbox); have n3_ := Aside0.mk ((by rw [hg]; exact (below_size (by repeat (first | (with_reducible first | exact HB.out | apply below_alloc | apply pw_below_drewN | apply below_drew1) | exact HB.out))) : w.heap.size ≤ gb292)); have n4_ := Aside0.mk ((by rw [hg]; exact (below_size (by repeat (first | (with_reducible first | exact HB.out | apply below_alloc | apply pw_below_drewN | apply below_drew1) | exact HB.out))) : w.heap.size ≤ gb292)); clear HO_1; clear HB; have HO_1 := n0_; have HB := n1_; have BK292 := n2_; have GW292 := n3_; have GE292 := n4_; clear n0_ n1_ n2_ n3_ n4_; clear hb hbox hg; have hcz53_0 : w52.cell? ⟨gb292, 0, none⟩ = some (.int .i64 0) := (blk_cell BK292.out 0).trans rfl; have hcz53_1 : w52.cell? ⟨gb292, 1, none⟩ = some (.int .i64 0) := (blk_cell BK292.out 1).trans rfl; have hcz53_2 : w52.cell? ⟨gb292, 2, none⟩ = some (.int .i64 0) := (blk_cell BK292.out 2).trans rfl; have hcz53_3 : w52.cell? ⟨gb292, 3, none⟩ = some (.int .i64 0) := (blk_cell BK292.out 3).trans rfl; have hfz53_0 := blk_frozen BK292.out 0; have hfz53_1 := blk_frozen BK292.out 1; have hfz53_2 := blk_frozen BK292.out 2; have hfz53_3 := blk_frozen BK292.out 3))
                          have n0_ : Aside0 (Kd.R k23 23 ((((w52.setCell ⟨gb292, 0, none⟩ (.int .i64 1073741824)).setCell ⟨gb292, 1, none⟩ (.int .i64 7)).setCell ⟨gb292, 2, none⟩ (.int .i64 0)).setCell ⟨gb292, 3, none⟩ (.int .i64 0)) w.heap.size (fun k_ => k_ ≠ gb292) (.slice Ao51 y263.length co51) y263) := ⟨by (with_reducible repeat (first | apply Kd.R_alloc | apply Kd.R_drewN | apply Kd.R_drew)); exact Kd.R_mono (Kd.R_far (p := ⟨gb292, 3, none⟩) (Kd.R_far (p := ⟨gb292, 2, none⟩) (Kd.R_far (p := ⟨gb292, 1, none⟩) (Kd.R_far (p := ⟨gb292, 0, none⟩) (Kd.R_mono HO_1.out (fun k_ hk => (⟨hk, hk.2⟩ : _ ∧ k_ ≠ gb292))) (fun _ hk => hk.2) (.int .i64 1073741824)) (fun _ hk => hk.2) (.int .i64 7)) (fun _ hk => hk.2) (.int .i64 0)) (fun _ hk => hk.2) (.int .i64 0)) (fun _ hk => hk.1.2)⟩
                          have n1_ : Aside0 (((((w52.setCell ⟨gb292, 0, none⟩ (.int .i64 1073741824)).setCell ⟨gb292, 1, none⟩ (.int .i64 7)).setCell ⟨gb292, 2, none⟩ (.int .i64 0)).setCell ⟨gb292, 3, none⟩ (.int .i64 0)).heap[gb292]? = some (.cells #[.int .i64 1073741824, .int .i64 7, .int .i64 0, .int .i64 0] 23 (0, 0))) := ⟨by (with_reducible repeat (first | refine blk_drewN ?_ _ | refine blk_drew ?_ | refine blk_alloc ?_ _)); refine blk_put (cs := #[.int .i64 1073741824, .int .i64 7, .int .i64 0, .int .i64 0]) ?_ 3 _ rfl; (with_reducible repeat (first | refine blk_drewN ?_ _ | refine blk_drew ?_ | refine blk_alloc ?_ _)); refine blk_put (cs := #[.int .i64 1073741824, .int .i64 7, .int .i64 0, .int .i64 0]) ?_ 2 _ rfl; (with_reducible repeat (first | refine blk_drewN ?_ _ | refine blk_drew ?_ | refine blk_alloc ?_ _)); refine blk_put (cs := #[.int .i64 1073741824, .int .i64 0, .int .i64 0, .int .i64 0]) ?_ 1 _ rfl; (with_reducible repeat (first | refine blk_drewN ?_ _ | refine blk_drew ?_ | refine blk_alloc ?_ _)); refine blk_put (cs := #[.int .i64 0, .int .i64 0, .int .i64 0, .int .i64 0]) ?_ 0 _ rfl; (with_reducible repeat (first | refine blk_drewN ?_ _ | refine blk_drew ?_ | refine blk_alloc ?_ _)); exact BK292.out⟩
                          have n2_ : Aside0 (Below w.heap.size w ((((w52.setCell ⟨gb292, 0, none⟩ (.int .i64 1073741824)).setCell ⟨gb292, 1, none⟩ (.int .i64 7)).setCell ⟨gb292, 2, none⟩ (.int .i64 0)).setCell ⟨gb292, 3, none⟩ (.int .i64 0))) := ⟨by repeat (first | (with_reducible first | exact HB.out | apply below_alloc | apply pw_below_drewN | apply below_drew1 | refine below_set ?_ GE292.out) | exact HB.out)⟩
                          (try clear HO_1)
                          (try clear BK292)
                          (try clear HB)
                          generalize ((((w52.setCell ⟨gb292, 0, none⟩ (.int .i64 1073741824)).setCell ⟨gb292, 1, none⟩ (.int .i64 7)).setCell ⟨gb292, 2, none⟩ (.int .i64 0)).setCell ⟨gb292, 3, none⟩ (.int .i64 0)) = w54 at n0_ n1_ n2_ ⊢
                          have HO_1 := n0_
                          have BK292 := n1_
                          have HB := n2_
                          clear n0_ n1_ n2_
                          have n0_ := Aside0.mk (Kd.R_drew HO_1.out)
                          have n1_ := Aside0.mk (blk_drew BK292.out)
                          have n2_ := Aside0.mk (below_drew1 HB.out)
                          clear HO_1
                          clear BK292
                          clear HB
                          have HO_1 := n0_
                          have BK292 := n1_
                          have HB := n2_
                          clear n0_ n1_ n2_
                          refine start_ (n := 9) (S := fun w' => w'.cell? ⟨gb292, 0, none⟩ = some (.int .i64 1073741824) ∧ w'.cell? ⟨gb292, 1, none⟩ = some (.int .i64 7) ∧ w'.cell? ⟨gb292, 2, none⟩ = some (.int .i64 0) ∧ w'.cell? ⟨gb292, 3, none⟩ = some (.int .i64 0)) (ds := []) #[false, false, false, false, false, false, false, false, false] (by kernel_rfl) rfl rfl ⟨(blk_cell BK292.out 0).trans rfl, (blk_cell BK292.out 1).trans rfl, (blk_cell BK292.out 2).trans rfl, (blk_cell BK292.out 3).trans rfl⟩ (fun hHeld => ?_); refine with_tabW tailwaterlaw16_AccumsNames.tab12 tailwaterlaw16_AccumsNames.bits12 (fun HT_ HW_ => ?_)
                          generalize w54.drew = w55 at HO_1 BK292 HB hHeld ⊢
                          refine take_ (i := 0) (N := some 97) (v := ?_) (a' := ?_) #[true, false, false, false, false, false, false, false, false] rfl rfl (take_ofW HT_.out HW_.out (by kernel_rfl)) (fun _ _ _ h => h) (Or.inl ⟨by rfl, ?_⟩) hHeld ?_ ?_
                          rotate_left
                          · rintro w' ⟨s0, s1, s2, s3⟩
                            go_simp
                            with_reducible rfl
                          rotate_left
                          · simp only [Act.put, List.setIfInBounds_toArray, List.set_cons_zero, List.set_cons_succ, i64_w, i32_w]
                            rfl
                          refine join_ (σ := Nat) 2 #[true, true, true, true, true, true, true, false, false] (fun s_ => [(98, .agg #[.int .i64 t293, .int .i64 t294, .int .i64 t295, .int .i64 t296]), (99, .tuple #[.agg #[.int .i64 t297, .int .i64 t298, .int .i64 t299, .int .i64 t300], .int .i64 t301]), (12, .pointer (some ⟨s_, 0, none⟩)), (96, .tuple #[.agg #[.int .i64 t297, .int .i64 t298, .int .i64 t299, .int .i64 t300], .int .i64 t301]), (100, .agg #[.int .i64 t297, .int .i64 t298, .int .i64 t299, .int .i64 t300]), (101, .int .i64 t301)]) (fun s_ w' => (w'.cell? ⟨gb292, 0, none⟩ = some (.int .i64 1073741824) ∧ w'.cell? ⟨gb292, 1, none⟩ = some (.int .i64 7) ∧ w'.cell? ⟨gb292, 2, none⟩ = some (.int .i64 0) ∧ w'.cell? ⟨gb292, 3, none⟩ = some (.int .i64 0)) ∧ (Kd.R k23 23 w' w.heap.size (fun k_ => k_ ≠ gb292 ∧ k_ ≠ s_) (.slice Ao51 y263.length co51) y263) ∧ (w'.heap[gb292]? = some (.cells #[.int .i64 1073741824, .int .i64 7, .int .i64 0, .int .i64 0] 23 (0, 0))) ∧ (w'.heap[s_]? = some (.cells #[.int .i64 0, .int .i64 0, .int .i64 0, .int .i64 0] 23 (0, 0))) ∧ (w.heap.size ≤ s_) ∧ (w.heap.size ≤ s_) ∧ (gb292 ≠ s_) ∧ (s_ ≠ gb292) ∧ (Below w.heap.size w w')) ?_ ?_
                          rotate_left
                          · intro hCont
                            refine two_ (i := 1) (j := 6) (Ni := some 98) (Nj := some 12) #[true, true, false, false, false, false, false, false, false] #[true, false, false, false, false, false, true, false, false] rfl rfl rfl rfl (two_of HT_.out (by kernel_rfl)) (by decide) (by decide) (fun K hK => ?_) (fun K hK => ?_)
                            · skip
                              refine goes_ Try.func20 (by kernel_rfl) rfl #[.int .i64 0] (by rfl) rfl rfl (by (try simp only [List.map_toArray, List.map_cons, List.map_nil]); first | done | rfl | (simp only [List.length_drop, List.length_take]; rfl)) ?_
                              with_reducible refine (accums_Of.calls 0 t293 t294 t295 t296 _ A33.out).mono ?_
                              rintro e w56 ⟨rfl, hb⟩
                              refine ⟨_, rfl, ?_⟩
                              have n0_ := Aside0.mk (Kd.R_below (by (with_reducible repeat (first | apply Kd.R_alloc | apply Kd.R_drewN | apply Kd.R_drew)); exact HO_1.out) hb)
                              have n1_ := Aside0.mk (blk_below (g := gb292) (o := .cells #[.int .i64 1073741824, .int .i64 7, .int .i64 0, .int .i64 0] 23 (0, 0)) (by (with_reducible repeat (first | refine blk_drewN ?_ _ | refine blk_drew ?_ | refine blk_alloc ?_ _)); exact BK292.out) hb)
                              have n2_ := Aside0.mk (below_step (by repeat (first | (with_reducible first | exact HB.out | apply below_alloc | apply pw_below_drewN | apply below_drew1 | refine below_set ?_ GE292.out) | exact HB.out)) hb)
                              clear HO_1
                              clear BK292
                              clear HB
                              have HO_1 := n0_
                              have BK292 := n1_
                              have HB := n2_
                              clear n0_ n1_ n2_
                              (try clear hb)
                              (try clear hb2)
                              (try clear hk)
                              (try clear hi)
                              refine hK.out _ _ ⟨(blk_cell BK292.out 0).trans rfl, (blk_cell BK292.out 1).trans rfl, (blk_cell BK292.out 2).trans rfl, (blk_cell BK292.out 3).trans rfl⟩ (fun hHeld => ?_)
                              clear hK K
                              refine norm_ (a' := ?_) ?_ ?_
                              rotate_left
                              · show Act.put _ (some 98) _ = _
                                simp only [Act.put, List.setIfInBounds_toArray, List.set_cons_zero, List.set_cons_succ, i64_w, i32_w]
                                rfl
                              refine two_ (i := 2) (j := 6) (Ni := some 99) (Nj := some 12) #[true, true, true, false, false, false, false, false, false] #[true, true, false, false, false, false, true, false, false] rfl rfl rfl rfl (two_of HT_.out (by kernel_rfl)) (by decide) (by decide) (fun K hK => ?_) (fun K hK => ?_)
                              · skip
                                refine goes_ Try.func12 (by kernel_rfl) rfl #[.agg #[.int .i64 1073741824, .int .i64 7, .int .i64 0, .int .i64 0], .agg #[.int .i64 t293, .int .i64 t294, .int .i64 t295, .int .i64 t296]] (by rfl) rfl rfl (by (try simp only [List.map_toArray, List.map_cons, List.map_nil]); first | done | rfl | (simp only [List.length_drop, List.length_take]; rfl)) ?_
                                with_reducible refine (accums_Join.calls k1 1073741824 7 0 0 t293 t294 t295 t296 t297 t298 t299 t300 t301 _ A34.out).mono ?_
                                rintro e w57 ⟨rfl, hb⟩
                                refine ⟨_, rfl, ?_⟩
                                have n0_ := Aside0.mk (Kd.R_below (by (with_reducible repeat (first | apply Kd.R_alloc | apply Kd.R_drewN | apply Kd.R_drew)); exact HO_1.out) hb)
                                have n1_ := Aside0.mk (blk_below (g := gb292) (o := .cells #[.int .i64 1073741824, .int .i64 7, .int .i64 0, .int .i64 0] 23 (0, 0)) (by (with_reducible repeat (first | refine blk_drewN ?_ _ | refine blk_drew ?_ | refine blk_alloc ?_ _)); exact BK292.out) hb)
                                have n2_ := Aside0.mk (below_step (by repeat (first | (with_reducible first | exact HB.out | apply below_alloc | apply pw_below_drewN | apply below_drew1 | refine below_set ?_ GE292.out) | exact HB.out)) hb)
                                clear HO_1
                                clear BK292
                                clear HB
                                have HO_1 := n0_
                                have BK292 := n1_
                                have HB := n2_
                                clear n0_ n1_ n2_
                                (try clear hb)
                                (try clear hb2)
                                (try clear hk)
                                (try clear hi)
                                refine hK.out _ _ ⟨(blk_cell BK292.out 0).trans rfl, (blk_cell BK292.out 1).trans rfl, (blk_cell BK292.out 2).trans rfl, (blk_cell BK292.out 3).trans rfl⟩ (fun hHeld => ?_)
                                clear hK K
                                refine norm_ (a' := ?_) ?_ ?_
                                rotate_left
                                · show Act.put _ (some 99) _ = _
                                  simp only [Act.put, List.setIfInBounds_toArray, List.set_cons_zero, List.set_cons_succ, i64_w, i32_w]
                                  rfl
                                refine pure_ (i := 3) (N := some 96) (v := ?_) (a' := ?_) #[true, true, true, true, false, false, false, false, false] rfl rfl (any_of HT_.out (by kernel_rfl)) (fun _ _ _ h => h) (Or.inl ⟨by rfl, ?_⟩) ?_ ?_
                                rotate_left
                                · intro w'
                                  go_simp
                                  with_reducible rfl
                                rotate_left
                                · simp only [Act.put, List.setIfInBounds_toArray, List.set_cons_zero, List.set_cons_succ, i64_w, i32_w]
                                  rfl
                                refine pure_ (i := 4) (N := some 100) (v := ?_) (a' := ?_) #[true, true, true, true, true, false, false, false, false] rfl rfl (any_of HT_.out (by kernel_rfl)) (fun _ _ _ h => h) (Or.inl ⟨by rfl, ?_⟩) ?_ ?_
                                rotate_left
                                · intro w'
                                  go_simp
                                  with_reducible rfl
                                rotate_left
                                · simp only [Act.put, List.setIfInBounds_toArray, List.set_cons_zero, List.set_cons_succ, i64_w, i32_w]
                                  rfl
                                refine pure_ (i := 5) (N := some 101) (v := ?_) (a' := ?_) #[true, true, true, true, true, true, false, false, false] rfl rfl (any_of HT_.out (by kernel_rfl)) (fun _ _ _ h => h) (Or.inl ⟨by rfl, ?_⟩) ?_ ?_
                                rotate_left
                                · intro w'
                                  go_simp
                                  with_reducible rfl
                                rotate_left
                                · simp only [Act.put, List.setIfInBounds_toArray, List.set_cons_zero, List.set_cons_succ, i64_w, i32_w]
                                  rfl
                                refine one_ (i := 6) (N := some 12) #[true, true, true, true, true, true, true, false, false] rfl rfl (one_of HT_.out (by kernel_rfl)) (by decide) (fun K hK => ?_)
                                refine box_step ?hg (N := 12) ?hd (cs := #[.int .i64 0, .int .i64 0, .int .i64 0, .int .i64 0]) (t := 23) ?hr ?_; (case hd => rfl); (case hg => rfl); (case hr => first | (go_simp; done) | (go_simp; rfl))
                                intro gb302 hg w58 hbox hb
                                have n0_ := Aside0.mk (Kd.R_below (Kd.R_elderB (by (with_reducible repeat (first | apply Kd.R_alloc | apply Kd.R_drewN | apply Kd.R_drew)); exact HO_1.out) gb302 (Nat.le_of_eq hg.symm)) hb)
                                have n1_ := Aside0.mk (blk_below (g := gb292) (o := .cells #[.int .i64 1073741824, .int .i64 7, .int .i64 0, .int .i64 0] 23 (0, 0)) (by (with_reducible repeat (first | refine blk_drewN ?_ _ | refine blk_drew ?_ | refine blk_alloc ?_ _)); exact BK292.out) hb)
                                have n2_ := Aside0.mk (below_step (by repeat (first | (with_reducible first | exact HB.out | apply below_alloc | apply pw_below_drewN | apply below_drew1 | refine below_set ?_ GE292.out) | exact HB.out)) hb)
                                have n3_ := Aside0.mk (hbox)
                                have n4_ := Aside0.mk ((by rw [hg]; exact (below_size (by repeat (first | (with_reducible first | exact HB.out | apply below_alloc | apply pw_below_drewN | apply below_drew1 | refine below_set ?_ GE292.out) | exact HB.out))) : w.heap.size ≤ gb302))
                                have n5_ := Aside0.mk ((by rw [hg]; exact (below_size (by repeat (first | (with_reducible first | exact HB.out | apply below_alloc | apply pw_below_drewN | apply below_drew1 | refine below_set ?_ GE292.out) | exact HB.out))) : w.heap.size ≤ gb302))
                                have n6_ := Aside0.mk ((by rw [hg]; exact Nat.ne_of_lt (blk_lt (g := gb292) (o := .cells #[.int .i64 1073741824, .int .i64 7, .int .i64 0, .int .i64 0] 23 (0, 0)) (by (with_reducible repeat (first | refine blk_drewN ?_ _ | refine blk_drew ?_ | refine blk_alloc ?_ _)); exact BK292.out)) : gb292 ≠ gb302))
                                have n7_ := Aside0.mk ((by rw [hg]; exact Nat.ne_of_gt (blk_lt (g := gb292) (o := .cells #[.int .i64 1073741824, .int .i64 7, .int .i64 0, .int .i64 0] 23 (0, 0)) (by (with_reducible repeat (first | refine blk_drewN ?_ _ | refine blk_drew ?_ | refine blk_alloc ?_ _)); exact BK292.out)) : gb302 ≠ gb292))
                                clear HO_1
                                clear BK292
                                clear HB
                                have HO_1 := n0_
                                have BK292 := n1_
                                have HB := n2_
                                have BK302 := n3_
                                have GW302 := n4_
                                have GE302 := n5_
                                have NB292_302 := n6_
                                have NB302_292 := n7_
                                clear n0_ n1_ n2_ n3_ n4_ n5_ n6_ n7_
                                clear hb hbox hg
                                refine hK.out _ _ ⟨(blk_cell BK292.out 0).trans rfl, (blk_cell BK292.out 1).trans rfl, (blk_cell BK292.out 2).trans rfl, (blk_cell BK292.out 3).trans rfl⟩ (fun hHeld => ?_)
                                clear hK K
                                refine norm_ (a' := ?_) ?_ ?_
                                rotate_left
                                · show Act.put _ (some 12) _ = _
                                  simp only [Act.put, List.setIfInBounds_toArray, List.set_cons_zero, List.set_cons_succ, i64_w, i32_w]
                                  rfl
                                exact norm_ (by simp only [putAll, Act.put, List.setIfInBounds_toArray, List.set_cons_zero, List.set_cons_succ]) (hCont (gb302) _ ⟨hHeld, (by (with_reducible repeat (first | apply Kd.R_alloc | apply Kd.R_drewN | apply Kd.R_drew)); exact HO_1.out), (by (with_reducible repeat (first | refine blk_drewN ?_ _ | refine blk_drew ?_ | refine blk_alloc ?_ _)); exact BK292.out), (by (with_reducible repeat (first | refine blk_drewN ?_ _ | refine blk_drew ?_ | refine blk_alloc ?_ _)); exact BK302.out), GW302.out, GE302.out, NB292_302.out, NB302_292.out, (by repeat (first | (with_reducible first | exact HB.out | apply below_alloc | apply pw_below_drewN | apply below_drew1 | refine below_set ?_ GE292.out | refine below_set ?_ GE302.out) | exact HB.out))⟩)
                              · skip
                                refine box_step ?hg (N := 12) ?hd (cs := #[.int .i64 0, .int .i64 0, .int .i64 0, .int .i64 0]) (t := 23) ?hr ?_; (case hd => rfl); (case hg => rfl); (case hr => first | (go_simp; done) | (go_simp; rfl))
                                intro gb302 hg w57 hbox hb
                                have n0_ := Aside0.mk (Kd.R_below (Kd.R_elderB (by (with_reducible repeat (first | apply Kd.R_alloc | apply Kd.R_drewN | apply Kd.R_drew)); exact HO_1.out) gb302 (Nat.le_of_eq hg.symm)) hb)
                                have n1_ := Aside0.mk (blk_below (g := gb292) (o := .cells #[.int .i64 1073741824, .int .i64 7, .int .i64 0, .int .i64 0] 23 (0, 0)) (by (with_reducible repeat (first | refine blk_drewN ?_ _ | refine blk_drew ?_ | refine blk_alloc ?_ _)); exact BK292.out) hb)
                                have n2_ := Aside0.mk (below_step (by repeat (first | (with_reducible first | exact HB.out | apply below_alloc | apply pw_below_drewN | apply below_drew1 | refine below_set ?_ GE292.out) | exact HB.out)) hb)
                                have n3_ := Aside0.mk (hbox)
                                have n4_ := Aside0.mk ((by rw [hg]; exact (below_size (by repeat (first | (with_reducible first | exact HB.out | apply below_alloc | apply pw_below_drewN | apply below_drew1 | refine below_set ?_ GE292.out) | exact HB.out))) : w.heap.size ≤ gb302))
                                have n5_ := Aside0.mk ((by rw [hg]; exact (below_size (by repeat (first | (with_reducible first | exact HB.out | apply below_alloc | apply pw_below_drewN | apply below_drew1 | refine below_set ?_ GE292.out) | exact HB.out))) : w.heap.size ≤ gb302))
                                have n6_ := Aside0.mk ((by rw [hg]; exact Nat.ne_of_lt (blk_lt (g := gb292) (o := .cells #[.int .i64 1073741824, .int .i64 7, .int .i64 0, .int .i64 0] 23 (0, 0)) (by (with_reducible repeat (first | refine blk_drewN ?_ _ | refine blk_drew ?_ | refine blk_alloc ?_ _)); exact BK292.out)) : gb292 ≠ gb302))
                                have n7_ := Aside0.mk ((by rw [hg]; exact Nat.ne_of_gt (blk_lt (g := gb292) (o := .cells #[.int .i64 1073741824, .int .i64 7, .int .i64 0, .int .i64 0] 23 (0, 0)) (by (with_reducible repeat (first | refine blk_drewN ?_ _ | refine blk_drew ?_ | refine blk_alloc ?_ _)); exact BK292.out)) : gb302 ≠ gb292))
                                clear HO_1
                                clear BK292
                                clear HB
                                have HO_1 := n0_
                                have BK292 := n1_
                                have HB := n2_
                                have BK302 := n3_
                                have GW302 := n4_
                                have GE302 := n5_
                                have NB292_302 := n6_
                                have NB302_292 := n7_
                                clear n0_ n1_ n2_ n3_ n4_ n5_ n6_ n7_
                                clear hb hbox hg
                                refine hK.out _ _ ⟨(blk_cell BK292.out 0).trans rfl, (blk_cell BK292.out 1).trans rfl, (blk_cell BK292.out 2).trans rfl, (blk_cell BK292.out 3).trans rfl⟩ (fun hHeld => ?_)
                                clear hK K
                                refine norm_ (a' := ?_) ?_ ?_
                                rotate_left
                                · show Act.put _ (some 12) _ = _
                                  simp only [Act.put, List.setIfInBounds_toArray, List.set_cons_zero, List.set_cons_succ, i64_w, i32_w]
                                  rfl
                                refine one_ (i := 2) (N := some 99) #[true, true, true, false, false, false, true, false, false] rfl rfl (one_of HT_.out (by kernel_rfl)) (by decide) (fun K hK => ?_)
                                refine goes_ Try.func12 (by kernel_rfl) rfl #[.agg #[.int .i64 1073741824, .int .i64 7, .int .i64 0, .int .i64 0], .agg #[.int .i64 t293, .int .i64 t294, .int .i64 t295, .int .i64 t296]] (by rfl) rfl rfl (by (try simp only [List.map_toArray, List.map_cons, List.map_nil]); first | done | rfl | (simp only [List.length_drop, List.length_take]; rfl)) ?_
                                with_reducible refine (accums_Join.calls k1 1073741824 7 0 0 t293 t294 t295 t296 t297 t298 t299 t300 t301 _ A34.out).mono ?_
                                rintro e w58 ⟨rfl, hb⟩
                                refine ⟨_, rfl, ?_⟩
                                have n0_ := Aside0.mk (Kd.R_below (by (with_reducible repeat (first | apply Kd.R_alloc | apply Kd.R_drewN | apply Kd.R_drew)); exact HO_1.out) hb)
                                have n1_ := Aside0.mk (blk_below (g := gb292) (o := .cells #[.int .i64 1073741824, .int .i64 7, .int .i64 0, .int .i64 0] 23 (0, 0)) (by (with_reducible repeat (first | refine blk_drewN ?_ _ | refine blk_drew ?_ | refine blk_alloc ?_ _)); exact BK292.out) hb)
                                have n2_ := Aside0.mk (blk_below (g := gb302) (o := .cells #[.int .i64 0, .int .i64 0, .int .i64 0, .int .i64 0] 23 (0, 0)) (by (with_reducible repeat (first | refine blk_drewN ?_ _ | refine blk_drew ?_ | refine blk_alloc ?_ _)); exact BK302.out) hb)
                                have n3_ := Aside0.mk (below_step (by repeat (first | (with_reducible first | exact HB.out | apply below_alloc | apply pw_below_drewN | apply below_drew1 | refine below_set ?_ GE292.out | refine below_set ?_ GE302.out) | exact HB.out)) hb)
                                clear HO_1
                                clear BK292
                                clear BK302
                                clear HB
                                have HO_1 := n0_
                                have BK292 := n1_
                                have BK302 := n2_
                                have HB := n3_
                                clear n0_ n1_ n2_ n3_
                                (try clear hb)
                                (try clear hb2)
                                (try clear hk)
                                (try clear hi)
                                refine hK.out _ _ ⟨(blk_cell BK292.out 0).trans rfl, (blk_cell BK292.out 1).trans rfl, (blk_cell BK292.out 2).trans rfl, (blk_cell BK292.out 3).trans rfl⟩ (fun hHeld => ?_)
                                clear hK K
                                refine norm_ (a' := ?_) ?_ ?_
                                rotate_left
                                · show Act.put _ (some 99) _ = _
                                  simp only [Act.put, List.setIfInBounds_toArray, List.set_cons_zero, List.set_cons_succ, i64_w, i32_w]
                                  rfl
                                refine pure_ (i := 3) (N := some 96) (v := ?_) (a' := ?_) #[true, true, true, true, false, false, true, false, false] rfl rfl (any_of HT_.out (by kernel_rfl)) (fun _ _ _ h => h) (Or.inl ⟨by rfl, ?_⟩) ?_ ?_
                                rotate_left
                                · intro w'
                                  go_simp
                                  with_reducible rfl
                                rotate_left
                                · simp only [Act.put, List.setIfInBounds_toArray, List.set_cons_zero, List.set_cons_succ, i64_w, i32_w]
                                  rfl
                                refine pure_ (i := 4) (N := some 100) (v := ?_) (a' := ?_) #[true, true, true, true, true, false, true, false, false] rfl rfl (any_of HT_.out (by kernel_rfl)) (fun _ _ _ h => h) (Or.inl ⟨by rfl, ?_⟩) ?_ ?_
                                rotate_left
                                · intro w'
                                  go_simp
                                  with_reducible rfl
                                rotate_left
                                · simp only [Act.put, List.setIfInBounds_toArray, List.set_cons_zero, List.set_cons_succ, i64_w, i32_w]
                                  rfl
                                refine pure_ (i := 5) (N := some 101) (v := ?_) (a' := ?_) #[true, true, true, true, true, true, true, false, false] rfl rfl (any_of HT_.out (by kernel_rfl)) (fun _ _ _ h => h) (Or.inl ⟨by rfl, ?_⟩) ?_ ?_
                                rotate_left
                                · intro w'
                                  go_simp
                                  with_reducible rfl
                                rotate_left
                                · simp only [Act.put, List.setIfInBounds_toArray, List.set_cons_zero, List.set_cons_succ, i64_w, i32_w]
                                  rfl
                                exact norm_ (by simp only [putAll, Act.put, List.setIfInBounds_toArray, List.set_cons_zero, List.set_cons_succ]) (hCont (gb302) _ ⟨hHeld, (by (with_reducible repeat (first | apply Kd.R_alloc | apply Kd.R_drewN | apply Kd.R_drew)); exact HO_1.out), (by (with_reducible repeat (first | refine blk_drewN ?_ _ | refine blk_drew ?_ | refine blk_alloc ?_ _)); exact BK292.out), (by (with_reducible repeat (first | refine blk_drewN ?_ _ | refine blk_drew ?_ | refine blk_alloc ?_ _)); exact BK302.out), GW302.out, GE302.out, NB292_302.out, NB302_292.out, (by repeat (first | (with_reducible first | exact HB.out | apply below_alloc | apply pw_below_drewN | apply below_drew1 | refine below_set ?_ GE292.out | refine below_set ?_ GE302.out) | exact HB.out))⟩)
                            · skip
                              refine box_step ?hg (N := 12) ?hd (cs := #[.int .i64 0, .int .i64 0, .int .i64 0, .int .i64 0]) (t := 23) ?hr ?_; (case hd => rfl); (case hg => rfl); (case hr => first | (go_simp; done) | (go_simp; rfl))
                              intro gb302 hg w56 hbox hb
                              have n0_ := Aside0.mk (Kd.R_below (Kd.R_elderB (by (with_reducible repeat (first | apply Kd.R_alloc | apply Kd.R_drewN | apply Kd.R_drew)); exact HO_1.out) gb302 (Nat.le_of_eq hg.symm)) hb)
                              have n1_ := Aside0.mk (blk_below (g := gb292) (o := .cells #[.int .i64 1073741824, .int .i64 7, .int .i64 0, .int .i64 0] 23 (0, 0)) (by (with_reducible repeat (first | refine blk_drewN ?_ _ | refine blk_drew ?_ | refine blk_alloc ?_ _)); exact BK292.out) hb)
                              have n2_ := Aside0.mk (below_step (by repeat (first | (with_reducible first | exact HB.out | apply below_alloc | apply pw_below_drewN | apply below_drew1 | refine below_set ?_ GE292.out) | exact HB.out)) hb)
                              have n3_ := Aside0.mk (hbox)
                              have n4_ := Aside0.mk ((by rw [hg]; exact (below_size (by repeat (first | (with_reducible first | exact HB.out | apply below_alloc | apply pw_below_drewN | apply below_drew1 | refine below_set ?_ GE292.out) | exact HB.out))) : w.heap.size ≤ gb302))
                              have n5_ := Aside0.mk ((by rw [hg]; exact (below_size (by repeat (first | (with_reducible first | exact HB.out | apply below_alloc | apply pw_below_drewN | apply below_drew1 | refine below_set ?_ GE292.out) | exact HB.out))) : w.heap.size ≤ gb302))
                              have n6_ := Aside0.mk ((by rw [hg]; exact Nat.ne_of_lt (blk_lt (g := gb292) (o := .cells #[.int .i64 1073741824, .int .i64 7, .int .i64 0, .int .i64 0] 23 (0, 0)) (by (with_reducible repeat (first | refine blk_drewN ?_ _ | refine blk_drew ?_ | refine blk_alloc ?_ _)); exact BK292.out)) : gb292 ≠ gb302))
                              have n7_ := Aside0.mk ((by rw [hg]; exact Nat.ne_of_gt (blk_lt (g := gb292) (o := .cells #[.int .i64 1073741824, .int .i64 7, .int .i64 0, .int .i64 0] 23 (0, 0)) (by (with_reducible repeat (first | refine blk_drewN ?_ _ | refine blk_drew ?_ | refine blk_alloc ?_ _)); exact BK292.out)) : gb302 ≠ gb292))
                              clear HO_1
                              clear BK292
                              clear HB
                              have HO_1 := n0_
                              have BK292 := n1_
                              have HB := n2_
                              have BK302 := n3_
                              have GW302 := n4_
                              have GE302 := n5_
                              have NB292_302 := n6_
                              have NB302_292 := n7_
                              clear n0_ n1_ n2_ n3_ n4_ n5_ n6_ n7_
                              clear hb hbox hg
                              refine hK.out _ _ ⟨(blk_cell BK292.out 0).trans rfl, (blk_cell BK292.out 1).trans rfl, (blk_cell BK292.out 2).trans rfl, (blk_cell BK292.out 3).trans rfl⟩ (fun hHeld => ?_)
                              clear hK K
                              refine norm_ (a' := ?_) ?_ ?_
                              rotate_left
                              · show Act.put _ (some 12) _ = _
                                simp only [Act.put, List.setIfInBounds_toArray, List.set_cons_zero, List.set_cons_succ, i64_w, i32_w]
                                rfl
                              refine one_ (i := 1) (N := some 98) #[true, true, false, false, false, false, true, false, false] rfl rfl (one_of HT_.out (by kernel_rfl)) (by decide) (fun K hK => ?_)
                              refine goes_ Try.func20 (by kernel_rfl) rfl #[.int .i64 0] (by rfl) rfl rfl (by (try simp only [List.map_toArray, List.map_cons, List.map_nil]); first | done | rfl | (simp only [List.length_drop, List.length_take]; rfl)) ?_
                              with_reducible refine (accums_Of.calls 0 t293 t294 t295 t296 _ A33.out).mono ?_
                              rintro e w57 ⟨rfl, hb⟩
                              refine ⟨_, rfl, ?_⟩
                              have n0_ := Aside0.mk (Kd.R_below (by (with_reducible repeat (first | apply Kd.R_alloc | apply Kd.R_drewN | apply Kd.R_drew)); exact HO_1.out) hb)
                              have n1_ := Aside0.mk (blk_below (g := gb292) (o := .cells #[.int .i64 1073741824, .int .i64 7, .int .i64 0, .int .i64 0] 23 (0, 0)) (by (with_reducible repeat (first | refine blk_drewN ?_ _ | refine blk_drew ?_ | refine blk_alloc ?_ _)); exact BK292.out) hb)
                              have n2_ := Aside0.mk (blk_below (g := gb302) (o := .cells #[.int .i64 0, .int .i64 0, .int .i64 0, .int .i64 0] 23 (0, 0)) (by (with_reducible repeat (first | refine blk_drewN ?_ _ | refine blk_drew ?_ | refine blk_alloc ?_ _)); exact BK302.out) hb)
                              have n3_ := Aside0.mk (below_step (by repeat (first | (with_reducible first | exact HB.out | apply below_alloc | apply pw_below_drewN | apply below_drew1 | refine below_set ?_ GE292.out | refine below_set ?_ GE302.out) | exact HB.out)) hb)
                              clear HO_1
                              clear BK292
                              clear BK302
                              clear HB
                              have HO_1 := n0_
                              have BK292 := n1_
                              have BK302 := n2_
                              have HB := n3_
                              clear n0_ n1_ n2_ n3_
                              (try clear hb)
                              (try clear hb2)
                              (try clear hk)
                              (try clear hi)
                              refine hK.out _ _ ⟨(blk_cell BK292.out 0).trans rfl, (blk_cell BK292.out 1).trans rfl, (blk_cell BK292.out 2).trans rfl, (blk_cell BK292.out 3).trans rfl⟩ (fun hHeld => ?_)
                              clear hK K
                              refine norm_ (a' := ?_) ?_ ?_
                              rotate_left
                              · show Act.put _ (some 98) _ = _
                                simp only [Act.put, List.setIfInBounds_toArray, List.set_cons_zero, List.set_cons_succ, i64_w, i32_w]
                                rfl
                              refine one_ (i := 2) (N := some 99) #[true, true, true, false, false, false, true, false, false] rfl rfl (one_of HT_.out (by kernel_rfl)) (by decide) (fun K hK => ?_)
                              refine goes_ Try.func12 (by kernel_rfl) rfl #[.agg #[.int .i64 1073741824, .int .i64 7, .int .i64 0, .int .i64 0], .agg #[.int .i64 t293, .int .i64 t294, .int .i64 t295, .int .i64 t296]] (by rfl) rfl rfl (by (try simp only [List.map_toArray, List.map_cons, List.map_nil]); first | done | rfl | (simp only [List.length_drop, List.length_take]; rfl)) ?_
                              with_reducible refine (accums_Join.calls k1 1073741824 7 0 0 t293 t294 t295 t296 t297 t298 t299 t300 t301 _ A34.out).mono ?_
                              rintro e w58 ⟨rfl, hb⟩
                              refine ⟨_, rfl, ?_⟩
                              have n0_ := Aside0.mk (Kd.R_below (by (with_reducible repeat (first | apply Kd.R_alloc | apply Kd.R_drewN | apply Kd.R_drew)); exact HO_1.out) hb)
                              have n1_ := Aside0.mk (blk_below (g := gb292) (o := .cells #[.int .i64 1073741824, .int .i64 7, .int .i64 0, .int .i64 0] 23 (0, 0)) (by (with_reducible repeat (first | refine blk_drewN ?_ _ | refine blk_drew ?_ | refine blk_alloc ?_ _)); exact BK292.out) hb)
                              have n2_ := Aside0.mk (blk_below (g := gb302) (o := .cells #[.int .i64 0, .int .i64 0, .int .i64 0, .int .i64 0] 23 (0, 0)) (by (with_reducible repeat (first | refine blk_drewN ?_ _ | refine blk_drew ?_ | refine blk_alloc ?_ _)); exact BK302.out) hb)
                              have n3_ := Aside0.mk (below_step (by repeat (first | (with_reducible first | exact HB.out | apply below_alloc | apply pw_below_drewN | apply below_drew1 | refine below_set ?_ GE292.out | refine below_set ?_ GE302.out) | exact HB.out)) hb)
                              clear HO_1
                              clear BK292
                              clear BK302
                              clear HB
                              have HO_1 := n0_
                              have BK292 := n1_
                              have BK302 := n2_
                              have HB := n3_
                              clear n0_ n1_ n2_ n3_
                              (try clear hb)
                              (try clear hb2)
                              (try clear hk)
                              (try clear hi)
                              refine hK.out _ _ ⟨(blk_cell BK292.out 0).trans rfl, (blk_cell BK292.out 1).trans rfl, (blk_cell BK292.out 2).trans rfl, (blk_cell BK292.out 3).trans rfl⟩ (fun hHeld => ?_)
                              clear hK K
                              refine norm_ (a' := ?_) ?_ ?_
                              rotate_left
                              · show Act.put _ (some 99) _ = _
                                simp only [Act.put, List.setIfInBounds_toArray, List.set_cons_zero, List.set_cons_succ, i64_w, i32_w]
                                rfl
                              refine pure_ (i := 3) (N := some 96) (v := ?_) (a' := ?_) #[true, true, true, true, false, false, true, false, false] rfl rfl (any_of HT_.out (by kernel_rfl)) (fun _ _ _ h => h) (Or.inl ⟨by rfl, ?_⟩) ?_ ?_
                              rotate_left
                              · intro w'
                                go_simp
                                with_reducible rfl
                              rotate_left
                              · simp only [Act.put, List.setIfInBounds_toArray, List.set_cons_zero, List.set_cons_succ, i64_w, i32_w]
                                rfl
                              refine pure_ (i := 4) (N := some 100) (v := ?_) (a' := ?_) #[true, true, true, true, true, false, true, false, false] rfl rfl (any_of HT_.out (by kernel_rfl)) (fun _ _ _ h => h) (Or.inl ⟨by rfl, ?_⟩) ?_ ?_
                              rotate_left
                              · intro w'
                                go_simp
                                with_reducible rfl
                              rotate_left
                              · simp only [Act.put, List.setIfInBounds_toArray, List.set_cons_zero, List.set_cons_succ, i64_w, i32_w]
                                rfl
                              refine pure_ (i := 5) (N := some 101) (v := ?_) (a' := ?_) #[true, true, true, true, true, true, true, false, false] rfl rfl (any_of HT_.out (by kernel_rfl)) (fun _ _ _ h => h) (Or.inl ⟨by rfl, ?_⟩) ?_ ?_
                              rotate_left
                              · intro w'
                                go_simp
                                with_reducible rfl
                              rotate_left
                              · simp only [Act.put, List.setIfInBounds_toArray, List.set_cons_zero, List.set_cons_succ, i64_w, i32_w]
                                rfl
                              exact norm_ (by simp only [putAll, Act.put, List.setIfInBounds_toArray, List.set_cons_zero, List.set_cons_succ]) (hCont (gb302) _ ⟨hHeld, (by (with_reducible repeat (first | apply Kd.R_alloc | apply Kd.R_drewN | apply Kd.R_drew)); exact HO_1.out), (by (with_reducible repeat (first | refine blk_drewN ?_ _ | refine blk_drew ?_ | refine blk_alloc ?_ _)); exact BK292.out), (by (with_reducible repeat (first | refine blk_drewN ?_ _ | refine blk_drew ?_ | refine blk_alloc ?_ _)); exact BK302.out), GW302.out, GE302.out, NB292_302.out, NB302_292.out, (by repeat (first | (with_reducible first | exact HB.out | apply below_alloc | apply pw_below_drewN | apply below_drew1 | refine below_set ?_ GE292.out | refine below_set ?_ GE302.out) | exact HB.out))⟩)
                          rintro gb302 w59 ⟨hS_, h0_, h1_, h2_, h3_, h4_, h5_, h6_, h7_⟩
                          have n0_ : Aside0 (Kd.R k23 23 w59 w.heap.size (fun k_ => k_ ≠ gb292 ∧ k_ ≠ gb302) (.slice Ao51 y263.length co51) y263) := ⟨h0_⟩
                          have n1_ : Aside0 (w59.heap[gb292]? = some (.cells #[.int .i64 1073741824, .int .i64 7, .int .i64 0, .int .i64 0] 23 (0, 0))) := ⟨h1_⟩
                          have n2_ : Aside0 (w59.heap[gb302]? = some (.cells #[.int .i64 0, .int .i64 0, .int .i64 0, .int .i64 0] 23 (0, 0))) := ⟨h2_⟩
                          have n3_ : Aside0 (w.heap.size ≤ gb302) := ⟨h3_⟩
                          have n4_ : Aside0 (w.heap.size ≤ gb302) := ⟨h4_⟩
                          have n5_ : Aside0 (gb292 ≠ gb302) := ⟨h5_⟩
                          have n6_ : Aside0 (gb302 ≠ gb292) := ⟨h6_⟩
                          have n7_ : Aside0 (Below w.heap.size w w59) := ⟨h7_⟩
                          clear HO_1
                          clear BK292
                          clear HB
                          clear h0_ h1_ h2_ h3_ h4_ h5_ h6_ h7_
                          have HO_1 := n0_
                          have BK292 := n1_
                          have BK302 := n2_
                          have GW302 := n3_
                          have GE302 := n4_
                          have NB292_302 := n5_
                          have NB302_292 := n6_
                          have HB := n7_
                          clear n0_ n1_ n2_ n3_ n4_ n5_ n6_ n7_
                          have hHeld : w59.cell? ⟨gb292, 0, none⟩ = some (.int .i64 1073741824) ∧ w59.cell? ⟨gb292, 1, none⟩ = some (.int .i64 7) ∧ w59.cell? ⟨gb292, 2, none⟩ = some (.int .i64 0) ∧ w59.cell? ⟨gb292, 3, none⟩ = some (.int .i64 0) := hS_
                          refine norm_ (a' := ?_) ?_ ?_
                          rotate_left
                          · simp only [putAll, Act.put, List.setIfInBounds_toArray, List.set_cons_zero, List.set_cons_succ]
                            rfl
                          refine one_ (i := 7) (N := none) #[true, true, true, true, true, true, true, true, false] rfl rfl (one_of HT_.out (by kernel_rfl)) (by decide) (fun K hK => ?_)
                          have hs60 : w59.cell? ⟨gb302, 0, none⟩ = some (.int .i64 0) := (blk_cell BK302.out 0).trans rfl
                          have hfs60 := blk_frozen BK302.out 0
                          have hns60_0 := NB292_302.out
                          have hms60_0 := NB302_292.out
                          have hs61 : w59.cell? ⟨gb302, 1, none⟩ = some (.int .i64 0) := (blk_cell BK302.out 1).trans rfl
                          have hfs61 := blk_frozen BK302.out 1
                          have hns61_0 := NB292_302.out
                          have hms61_0 := NB302_292.out
                          have hs62 : w59.cell? ⟨gb302, 2, none⟩ = some (.int .i64 0) := (blk_cell BK302.out 2).trans rfl
                          have hfs62 := blk_frozen BK302.out 2
                          have hns62_0 := NB292_302.out
                          have hms62_0 := NB302_292.out
                          have hs63 : w59.cell? ⟨gb302, 3, none⟩ = some (.int .i64 0) := (blk_cell BK302.out 3).trans rfl
                          have hfs63 := blk_frozen BK302.out 3
                          have hns63_0 := NB292_302.out
                          have hms63_0 := NB302_292.out
                          refine skip_ (w1 := ?_) (by rfl) rfl ?_ ?_
                          rotate_left
                          · go_simp
                            rfl
                          refine hK.out _ _ ⟨((cell_far (p := ⟨gb302, _, none⟩) NB292_302.out _).trans (((cell_far (p := ⟨gb302, _, none⟩) NB292_302.out _).trans (((cell_far (p := ⟨gb302, _, none⟩) NB292_302.out _).trans (((cell_far (p := ⟨gb302, _, none⟩) NB292_302.out _).trans (hHeld.1)))))))), ((cell_far (p := ⟨gb302, _, none⟩) NB292_302.out _).trans (((cell_far (p := ⟨gb302, _, none⟩) NB292_302.out _).trans (((cell_far (p := ⟨gb302, _, none⟩) NB292_302.out _).trans (((cell_far (p := ⟨gb302, _, none⟩) NB292_302.out _).trans (hHeld.2.1)))))))), ((cell_far (p := ⟨gb302, _, none⟩) NB292_302.out _).trans (((cell_far (p := ⟨gb302, _, none⟩) NB292_302.out _).trans (((cell_far (p := ⟨gb302, _, none⟩) NB292_302.out _).trans (((cell_far (p := ⟨gb302, _, none⟩) NB292_302.out _).trans (hHeld.2.2.1)))))))), ((cell_far (p := ⟨gb302, _, none⟩) NB292_302.out _).trans (((cell_far (p := ⟨gb302, _, none⟩) NB292_302.out _).trans (((cell_far (p := ⟨gb302, _, none⟩) NB292_302.out _).trans (((cell_far (p := ⟨gb302, _, none⟩) NB292_302.out _).trans (hHeld.2.2.2))))))))⟩ (fun hHeld => ?_)
                          clear hK K
                          refine pure_ (i := 8) (N := some 13) (v := ?_) (a' := ?_) #[true, true, true, true, true, true, true, true, true] rfl rfl (any_of HT_.out (by kernel_rfl)) (fun _ _ _ h => h) (Or.inl ⟨by rfl, ?_⟩) ?_ ?_
                          rotate_left
                          · intro w'
                            go_simp
                            with_reducible rfl
                          rotate_left
                          · simp only [Act.put, List.setIfInBounds_toArray, List.set_cons_zero, List.set_cons_succ, i64_w, i32_w]
                            rfl
                          refine done_ (done_of HT_.out (by kernel_rfl)) ?_
                          have hnb64 := NB292_302.out
                          have hnc64 := NB302_292.out
                          have hcz65_0 : w59.cell? ⟨gb292, 0, none⟩ = some (.int .i64 1073741824) := (blk_cell BK292.out 0).trans rfl
                          have hcz65_1 : w59.cell? ⟨gb292, 1, none⟩ = some (.int .i64 7) := (blk_cell BK292.out 1).trans rfl
                          have hcz65_2 : w59.cell? ⟨gb292, 2, none⟩ = some (.int .i64 0) := (blk_cell BK292.out 2).trans rfl
                          have hcz65_3 : w59.cell? ⟨gb292, 3, none⟩ = some (.int .i64 0) := (blk_cell BK292.out 3).trans rfl
                          have hfz65_0 := blk_frozen BK292.out 0
                          have hfz65_1 := blk_frozen BK292.out 1
                          have hfz65_2 := blk_frozen BK292.out 2
                          have hfz65_3 := blk_frozen BK292.out 3
                          try go_wp2_with (first | ((with_reducible refine gate_callee (f := 12) rfl ?_); refine goesL_ (some 105) rfl rfl Try.func12 (by kernel_rfl) rfl #[.agg #[.int .i64 1073741824, .int .i64 7, .int .i64 0, .int .i64 0], .agg #[.int .i64 0, .int .i64 0, .int .i64 0, .int .i64 0]] rfl (by (try simp only [List.map_toArray, List.map_cons, List.map_nil]); first | done | rfl | (simp only [List.length_drop, List.length_take]; rfl)) ?_; (with_reducible refine (accums_Join.calls k1 1073741824 7 0 0 0 0 0 0 t303 t304 t305 t306 t307 _ A35.out).mono ?_); rintro e w66 ⟨rfl, hb⟩; refine ⟨_, rfl, ?_⟩; have n0_ := Aside0.mk (Kd.R_below (by (with_reducible repeat (first | apply Kd.R_alloc | apply Kd.R_drewN | apply Kd.R_drew)); exact (Kd.R_mono (Kd.R_far (p := ⟨gb302, 3, none⟩) (Kd.R_far (p := ⟨gb302, 2, none⟩) (Kd.R_far (p := ⟨gb302, 1, none⟩) (Kd.R_far (p := ⟨gb302, 0, none⟩) (Kd.R_mono HO_1.out (fun k_ hk => (⟨hk, hk.2⟩ : _ ∧ k_ ≠ gb302))) (fun _ hk => hk.2) (.int .i64 t297)) (fun _ hk => hk.2) (.int .i64 t298)) (fun _ hk => hk.2) (.int .i64 t299)) (fun _ hk => hk.2) (.int .i64 t300)) (fun _ h_ => h_.1))) hb); have n1_ := Aside0.mk (blk_below (g := gb292) (o := .cells #[.int .i64 1073741824, .int .i64 7, .int .i64 0, .int .i64 0] 23 (0, 0)) (by (with_reducible repeat (first | refine blk_drewN ?_ _ | refine blk_drew ?_ | refine blk_alloc ?_ _)); refine blk_far ?_ NB292_302.out _; (with_reducible repeat (first | refine blk_drewN ?_ _ | refine blk_drew ?_ | refine blk_alloc ?_ _)); refine blk_far ?_ NB292_302.out _; (with_reducible repeat (first | refine blk_drewN ?_ _ | refine blk_drew ?_ | refine blk_alloc ?_ _)); refine blk_far ?_ NB292_302.out _; (with_reducible repeat (first | refine blk_drewN ?_ _ | refine blk_drew ?_ | refine blk_alloc ?_ _)); refine blk_far ?_ NB292_302.out _; (with_reducible repeat (first | refine blk_drewN ?_ _ | refine blk_drew ?_ | refine blk_alloc ?_ _)); exact BK292.out) hb); have n2_ := Aside0.mk (blk_below (g := gb302) (o := .cells #[.int .i64 t297, .int .i64 t298, .int .i64 t299, .int .i64 t300] 23 (0, 0)) (by (with_reducible repeat (first | refine blk_drewN ?_ _ | refine blk_drew ?_ | refine blk_alloc ?_ _)); refine blk_put (cs := #[.int .i64 t297, .int .i64 t298, .int .i64 t299, .int .i64 0]) ?_ 3 _ rfl; (with_reducible repeat (first | refine blk_drewN ?_ _ | refine blk_drew ?_ | refine blk_alloc ?_ _)); refine blk_put (cs := #[.int .i64 t297, .int .i64 t298, .int .i64 0, .int .i64 0]) ?_ 2 _ rfl; (with_reducible repeat (first | refine blk_drewN ?_ _ | refine blk_drew ?_ | refine blk_alloc ?_ _)); refine blk_put (cs := #[.int .i64 t297, .int .i64 0, .int .i64 0, .int .i64 0]) ?_ 1 _ rfl; (with_reducible repeat (first | refine blk_drewN ?_ _ | refine blk_drew ?_ | refine blk_alloc ?_ _)); refine blk_put (cs := #[.int .i64 0, .int .i64 0, .int .i64 0, .int .i64 0]) ?_ 0 _ rfl; (with_reducible repeat (first | refine blk_drewN ?_ _ | refine blk_drew ?_ | refine blk_alloc ?_ _)); exact BK302.out) hb); have n3_ := Aside0.mk (below_step (by repeat (first | (with_reducible first | exact HB.out | apply below_alloc | apply pw_below_drewN | apply below_drew1 | refine below_set ?_ GE292.out | refine below_set ?_ GE302.out) | exact HB.out)) hb); clear HO_1; clear BK292; clear BK302; clear HB; have HO_1 := n0_; have BK292 := n1_; have BK302 := n2_; have HB := n3_; clear n0_ n1_ n2_ n3_; (try clear hb); (try clear hb2); (try clear hk); (try clear hi)) | ((with_reducible refine gate_dst (N := 14) rfl ?_); refine box_event ?hg (N := 14) ?hd (cs := #[.int .i64 0, .int .i64 0, .int .i64 0, .int .i64 0]) (t := 23) ?hr ?_; (case hd => rfl); (case hg => rfl); (case hr => first | (go_simp; done) | (go_simp; rfl)); intro gb308 hg w67 hbox hb; have n0_ := Aside0.mk (Kd.R_below (Kd.R_elderB (by (with_reducible repeat (first | apply Kd.R_alloc | apply Kd.R_drewN | apply Kd.R_drew)); exact HO_1.out) gb308 (Nat.le_of_eq hg.symm)) hb); have n1_ := Aside0.mk (blk_below (g := gb292) (o := .cells #[.int .i64 1073741824, .int .i64 7, .int .i64 0, .int .i64 0] 23 (0, 0)) (by (with_reducible repeat (first | refine blk_drewN ?_ _ | refine blk_drew ?_ | refine blk_alloc ?_ _)); exact BK292.out) hb); have n2_ := Aside0.mk (blk_below (g := gb302) (o := .cells #[.int .i64 t297, .int .i64 t298, .int .i64 t299, .int .i64 t300] 23 (0, 0)) (by (with_reducible repeat (first | refine blk_drewN ?_ _ | refine blk_drew ?_ | refine blk_alloc ?_ _)); exact BK302.out) hb); have n3_ := Aside0.mk (below_step (by repeat (first | (with_reducible first | exact HB.out | apply below_alloc | apply pw_below_drewN | apply below_drew1 | refine below_set ?_ GE292.out | refine below_set ?_ GE302.out) | exact HB.out)) hb); have n4_ := Aside0.mk (hbox); have n5_ := Aside0.mk ((by rw [hg]; exact (below_size (by repeat (first | (with_reducible first | exact HB.out | apply below_alloc | apply pw_below_drewN | apply below_drew1 | refine below_set ?_ GE292.out | refine below_set ?_ GE302.out) | exact HB.out))) : w.heap.size ≤ gb308)); have n6_ := Aside0.mk ((by rw [hg]; exact (below_size (by repeat (first | (with_reducible first | exact HB.out | apply below_alloc | apply pw_below_drewN | apply below_drew1 | refine below_set ?_ GE292.out | refine below_set ?_ GE302.out) | exact HB.out))) : w.heap.size ≤ gb308)); have n7_ := Aside0.mk ((by rw [hg]; exact Nat.ne_of_lt (blk_lt (g := gb292) (o := .cells #[.int .i64 1073741824, .int .i64 7, .int .i64 0, .int .i64 0] 23 (0, 0)) (by (with_reducible repeat (first | refine blk_drewN ?_ _ | refine blk_drew ?_ | refine blk_alloc ?_ _)); exact BK292.out)) : gb292 ≠ gb308)); have n8_ := Aside0.mk ((by rw [hg]; exact Nat.ne_of_gt (blk_lt (g := gb292) (o := .cells #[.int .i64 1073741824, .int .i64 7, .int .i64 0, .int .i64 0] 23 (0, 0)) (by (with_reducible repeat (first | refine blk_drewN ?_ _ | refine blk_drew ?_ | refine blk_alloc ?_ _)); exact BK292.out)) : gb308 ≠ gb292)); have n9_ := Aside0.mk ((by rw [hg]; exact Nat.ne_of_lt (blk_lt (g := gb302) (o := .cells #[.int .i64 t297, .int .i64 t298, .int .i64 t299, .int .i64 t300] 23 (0, 0)) (by (with_reducible repeat (first | refine blk_drewN ?_ _ | refine blk_drew ?_ | refine blk_alloc ?_ _)); exact BK302.out)) : gb302 ≠ gb308)); have n10_ := Aside0.mk ((by rw [hg]; exact Nat.ne_of_gt (blk_lt (g := gb302) (o := .cells #[.int .i64 t297, .int .i64 t298, .int .i64 t299, .int .i64 t300] 23 (0, 0)) (by (with_reducible repeat (first | refine blk_drewN ?_ _ | refine blk_drew ?_ | refine blk_alloc ?_ _)); exact BK302.out)) : gb308 ≠ gb302)); clear HO_1; clear BK292; clear BK302; clear HB; have HO_1 := n0_; have BK292 := n1_; have BK302 := n2_; have HB := n3_; have BK308 := n4_; have GW308 := n5_; have GE308 := n6_; have NB292_308 := n7_; have NB308_292 := n8_; have NB302_308 := n9_; have NB308_302 := n10_; clear n0_ n1_ n2_ n3_ n4_ n5_ n6_ n7_ n8_ n9_ n10_; clear hb hbox hg; have hnb68 := NB308_292.out; have hnc68 := NB292_308.out; have hnb69 := NB308_302.out; have hnc69 := NB302_308.out; have hcz70_0 : w67.cell? ⟨gb308, 0, none⟩ = some (.int .i64 0) := (blk_cell BK308.out 0).trans rfl; have hcz70_1 : w67.cell? ⟨gb308, 1, none⟩ = some (.int .i64 0) := (blk_cell BK308.out 1).trans rfl; have hcz70_2 : w67.cell? ⟨gb308, 2, none⟩ = some (.int .i64 0) := (blk_cell BK308.out 2).trans rfl; have hcz70_3 : w67.cell? ⟨gb308, 3, none⟩ = some (.int .i64 0) := (blk_cell BK308.out 3).trans rfl; have hfz70_0 := blk_frozen BK308.out 0; have hfz70_1 := blk_frozen BK308.out 1; have hfz70_2 := blk_frozen BK308.out 2; have hfz70_3 := blk_frozen BK308.out 3) | ((with_reducible refine gate_callee (f := 17) rfl ?_); refine goesL_ (some 110) rfl rfl Try.func17 (by kernel_rfl) rfl #[.int .u8 1, .agg #[.int .i64 0, .int .i64 0, .int .i64 0, .int .i64 0]] rfl (by (try simp only [List.map_toArray, List.map_cons, List.map_nil]); first | done | rfl | (simp only [List.length_drop, List.length_take]; rfl)) ?_; (with_reducible refine (accums_Value.calls k1 1 0 0 0 0 t309 t310 _ A36.out).mono ?_); rintro e w71 ⟨rfl, hb⟩; refine ⟨_, rfl, ?_⟩; have n0_ := Aside0.mk (Kd.R_below (by (with_reducible repeat (first | apply Kd.R_alloc | apply Kd.R_drewN | apply Kd.R_drew)); exact (Kd.R_mono (Kd.R_far (p := ⟨gb308, 3, none⟩) (Kd.R_far (p := ⟨gb308, 2, none⟩) (Kd.R_far (p := ⟨gb308, 1, none⟩) (Kd.R_far (p := ⟨gb308, 0, none⟩) (Kd.R_mono HO_1.out (fun k_ hk => (⟨hk, hk.2⟩ : _ ∧ k_ ≠ gb308))) (fun _ hk => hk.2) (.int .i64 t303)) (fun _ hk => hk.2) (.int .i64 t304)) (fun _ hk => hk.2) (.int .i64 t305)) (fun _ hk => hk.2) (.int .i64 t306)) (fun _ h_ => h_.1))) hb); have n1_ := Aside0.mk (blk_below (g := gb292) (o := .cells #[.int .i64 1073741824, .int .i64 7, .int .i64 0, .int .i64 0] 23 (0, 0)) (by (with_reducible repeat (first | refine blk_drewN ?_ _ | refine blk_drew ?_ | refine blk_alloc ?_ _)); refine blk_far ?_ NB292_308.out _; (with_reducible repeat (first | refine blk_drewN ?_ _ | refine blk_drew ?_ | refine blk_alloc ?_ _)); refine blk_far ?_ NB292_308.out _; (with_reducible repeat (first | refine blk_drewN ?_ _ | refine blk_drew ?_ | refine blk_alloc ?_ _)); refine blk_far ?_ NB292_308.out _; (with_reducible repeat (first | refine blk_drewN ?_ _ | refine blk_drew ?_ | refine blk_alloc ?_ _)); refine blk_far ?_ NB292_308.out _; (with_reducible repeat (first | refine blk_drewN ?_ _ | refine blk_drew ?_ | refine blk_alloc ?_ _)); exact BK292.out) hb); have n2_ := Aside0.mk (blk_below (g := gb302) (o := .cells #[.int .i64 t297, .int .i64 t298, .int .i64 t299, .int .i64 t300] 23 (0, 0)) (by (with_reducible repeat (first | refine blk_drewN ?_ _ | refine blk_drew ?_ | refine blk_alloc ?_ _)); refine blk_far ?_ NB302_308.out _; (with_reducible repeat (first | refine blk_drewN ?_ _ | refine blk_drew ?_ | refine blk_alloc ?_ _)); refine blk_far ?_ NB302_308.out _; (with_reducible repeat (first | refine blk_drewN ?_ _ | refine blk_drew ?_ | refine blk_alloc ?_ _)); refine blk_far ?_ NB302_308.out _; (with_reducible repeat (first | refine blk_drewN ?_ _ | refine blk_drew ?_ | refine blk_alloc ?_ _)); refine blk_far ?_ NB302_308.out _; (with_reducible repeat (first | refine blk_drewN ?_ _ | refine blk_drew ?_ | refine blk_alloc ?_ _)); exact BK302.out) hb); have n3_ := Aside0.mk (blk_below (g := gb308) (o := .cells #[.int .i64 t303, .int .i64 t304, .int .i64 t305, .int .i64 t306] 23 (0, 0)) (by (with_reducible repeat (first | refine blk_drewN ?_ _ | refine blk_drew ?_ | refine blk_alloc ?_ _)); refine blk_put (cs := #[.int .i64 t303, .int .i64 t304, .int .i64 t305, .int .i64 0]) ?_ 3 _ rfl; (with_reducible repeat (first | refine blk_drewN ?_ _ | refine blk_drew ?_ | refine blk_alloc ?_ _)); refine blk_put (cs := #[.int .i64 t303, .int .i64 t304, .int .i64 0, .int .i64 0]) ?_ 2 _ rfl; (with_reducible repeat (first | refine blk_drewN ?_ _ | refine blk_drew ?_ | refine blk_alloc ?_ _)); refine blk_put (cs := #[.int .i64 t303, .int .i64 0, .int .i64 0, .int .i64 0]) ?_ 1 _ rfl; (with_reducible repeat (first | refine blk_drewN ?_ _ | refine blk_drew ?_ | refine blk_alloc ?_ _)); refine blk_put (cs := #[.int .i64 0, .int .i64 0, .int .i64 0, .int .i64 0]) ?_ 0 _ rfl; (with_reducible repeat (first | refine blk_drewN ?_ _ | refine blk_drew ?_ | refine blk_alloc ?_ _)); exact BK308.out) hb); have n4_ := Aside0.mk (below_step (by repeat (first | (with_reducible first | exact HB.out | apply below_alloc | apply pw_below_drewN | apply below_drew1 | refine below_set ?_ GE292.out | refine below_set ?_ GE302.out | refine below_set ?_ GE308.out) | exact HB.out)) hb); clear HO_1; clear BK292; clear BK302; clear BK308; clear HB; have HO_1 := n0_; have BK292 := n1_; have BK302 := n2_; have BK308 := n3_; have HB := n4_; clear n0_ n1_ n2_ n3_ n4_; (try clear hb); (try clear hb2); (try clear hk); (try clear hi)) | ((with_reducible refine gate_callee (f := 17) rfl ?_); refine goesL_ (some 115) rfl rfl Try.func17 (by kernel_rfl) rfl #[.int .u8 0, .agg #[.int .i64 0, .int .i64 0, .int .i64 0, .int .i64 0]] rfl (by (try simp only [List.map_toArray, List.map_cons, List.map_nil]); first | done | rfl | (simp only [List.length_drop, List.length_take]; rfl)) ?_; (with_reducible refine (accums_Value.calls k1 0 0 0 0 0 t311 t312 _ A37.out).mono ?_); rintro e w72 ⟨rfl, hb⟩; refine ⟨_, rfl, ?_⟩; have n0_ := Aside0.mk (Kd.R_below (by (with_reducible repeat (first | apply Kd.R_alloc | apply Kd.R_drewN | apply Kd.R_drew)); exact HO_1.out) hb); have n1_ := Aside0.mk (blk_below (g := gb292) (o := .cells #[.int .i64 1073741824, .int .i64 7, .int .i64 0, .int .i64 0] 23 (0, 0)) (by (with_reducible repeat (first | refine blk_drewN ?_ _ | refine blk_drew ?_ | refine blk_alloc ?_ _)); exact BK292.out) hb); have n2_ := Aside0.mk (blk_below (g := gb302) (o := .cells #[.int .i64 t297, .int .i64 t298, .int .i64 t299, .int .i64 t300] 23 (0, 0)) (by (with_reducible repeat (first | refine blk_drewN ?_ _ | refine blk_drew ?_ | refine blk_alloc ?_ _)); exact BK302.out) hb); have n3_ := Aside0.mk (blk_below (g := gb308) (o := .cells #[.int .i64 t303, .int .i64 t304, .int .i64 t305, .int .i64 t306] 23 (0, 0)) (by (with_reducible repeat (first | refine blk_drewN ?_ _ | refine blk_drew ?_ | refine blk_alloc ?_ _)); exact BK308.out) hb); have n4_ := Aside0.mk (below_step (by repeat (first | (with_reducible first | exact HB.out | apply below_alloc | apply pw_below_drewN | apply below_drew1 | refine below_set ?_ GE292.out | refine below_set ?_ GE302.out | refine below_set ?_ GE308.out) | exact HB.out)) hb); clear HO_1; clear BK292; clear BK302; clear BK308; clear HB; have HO_1 := n0_; have BK292 := n1_; have BK302 := n2_; have BK308 := n3_; have HB := n4_; clear n0_ n1_ n2_ n3_ n4_; (try clear hb); (try clear hb2); (try clear hk); (try clear hi); have hcz73_0 : w72.cell? ⟨gb292, 0, none⟩ = some (.int .i64 1073741824) := (blk_cell BK292.out 0).trans rfl; have hcz73_1 : w72.cell? ⟨gb292, 1, none⟩ = some (.int .i64 7) := (blk_cell BK292.out 1).trans rfl; have hcz73_2 : w72.cell? ⟨gb292, 2, none⟩ = some (.int .i64 0) := (blk_cell BK292.out 2).trans rfl; have hcz73_3 : w72.cell? ⟨gb292, 3, none⟩ = some (.int .i64 0) := (blk_cell BK292.out 3).trans rfl; have hfz73_0 := blk_frozen BK292.out 0; have hfz73_1 := blk_frozen BK292.out 1; have hfz73_2 := blk_frozen BK292.out 2; have hfz73_3 := blk_frozen BK292.out 3) | ((with_reducible refine gate_callee (f := 17) rfl ?_); refine goesL_ (some 120) rfl rfl Try.func17 (by kernel_rfl) rfl #[.int .u8 1, .agg #[.int .i64 1073741824, .int .i64 7, .int .i64 0, .int .i64 0]] rfl (by (try simp only [List.map_toArray, List.map_cons, List.map_nil]); first | done | rfl | (simp only [List.length_drop, List.length_take]; rfl)) ?_; (with_reducible refine (accums_Value.calls k1 1 1073741824 7 0 0 t313 t314 _ A38.out).mono ?_); rintro e w74 ⟨rfl, hb⟩; refine ⟨_, rfl, ?_⟩; have n0_ := Aside0.mk (Kd.R_below (by (with_reducible repeat (first | apply Kd.R_alloc | apply Kd.R_drewN | apply Kd.R_drew)); exact HO_1.out) hb); have n1_ := Aside0.mk (blk_below (g := gb292) (o := .cells #[.int .i64 1073741824, .int .i64 7, .int .i64 0, .int .i64 0] 23 (0, 0)) (by (with_reducible repeat (first | refine blk_drewN ?_ _ | refine blk_drew ?_ | refine blk_alloc ?_ _)); exact BK292.out) hb); have n2_ := Aside0.mk (blk_below (g := gb302) (o := .cells #[.int .i64 t297, .int .i64 t298, .int .i64 t299, .int .i64 t300] 23 (0, 0)) (by (with_reducible repeat (first | refine blk_drewN ?_ _ | refine blk_drew ?_ | refine blk_alloc ?_ _)); exact BK302.out) hb); have n3_ := Aside0.mk (blk_below (g := gb308) (o := .cells #[.int .i64 t303, .int .i64 t304, .int .i64 t305, .int .i64 t306] 23 (0, 0)) (by (with_reducible repeat (first | refine blk_drewN ?_ _ | refine blk_drew ?_ | refine blk_alloc ?_ _)); exact BK308.out) hb); have n4_ := Aside0.mk (below_step (by repeat (first | (with_reducible first | exact HB.out | apply below_alloc | apply pw_below_drewN | apply below_drew1 | refine below_set ?_ GE292.out | refine below_set ?_ GE302.out | refine below_set ?_ GE308.out) | exact HB.out)) hb); clear HO_1; clear BK292; clear BK302; clear BK308; clear HB; have HO_1 := n0_; have BK292 := n1_; have BK302 := n2_; have BK308 := n3_; have HB := n4_; clear n0_ n1_ n2_ n3_ n4_; (try clear hb); (try clear hb2); (try clear hk); (try clear hi)) | ((with_reducible refine gate_callee (f := 20) rfl ?_); refine goesL_ (some 124) rfl rfl Try.func20 (by kernel_rfl) rfl #[.int .i64 (-9)] rfl (by (try simp only [List.map_toArray, List.map_cons, List.map_nil]); first | done | rfl | (simp only [List.length_drop, List.length_take]; rfl)) ?_; (with_reducible refine (accums_Of.calls (-9) t315 t316 t317 t318 _ A39.out).mono ?_); rintro e w75 ⟨rfl, hb⟩; refine ⟨_, rfl, ?_⟩; have n0_ := Aside0.mk (Kd.R_below (by (with_reducible repeat (first | apply Kd.R_alloc | apply Kd.R_drewN | apply Kd.R_drew)); exact HO_1.out) hb); have n1_ := Aside0.mk (blk_below (g := gb292) (o := .cells #[.int .i64 1073741824, .int .i64 7, .int .i64 0, .int .i64 0] 23 (0, 0)) (by (with_reducible repeat (first | refine blk_drewN ?_ _ | refine blk_drew ?_ | refine blk_alloc ?_ _)); exact BK292.out) hb); have n2_ := Aside0.mk (blk_below (g := gb302) (o := .cells #[.int .i64 t297, .int .i64 t298, .int .i64 t299, .int .i64 t300] 23 (0, 0)) (by (with_reducible repeat (first | refine blk_drewN ?_ _ | refine blk_drew ?_ | refine blk_alloc ?_ _)); exact BK302.out) hb); have n3_ := Aside0.mk (blk_below (g := gb308) (o := .cells #[.int .i64 t303, .int .i64 t304, .int .i64 t305, .int .i64 t306] 23 (0, 0)) (by (with_reducible repeat (first | refine blk_drewN ?_ _ | refine blk_drew ?_ | refine blk_alloc ?_ _)); exact BK308.out) hb); have n4_ := Aside0.mk (below_step (by repeat (first | (with_reducible first | exact HB.out | apply below_alloc | apply pw_below_drewN | apply below_drew1 | refine below_set ?_ GE292.out | refine below_set ?_ GE302.out | refine below_set ?_ GE308.out) | exact HB.out)) hb); clear HO_1; clear BK292; clear BK302; clear BK308; clear HB; have HO_1 := n0_; have BK292 := n1_; have BK302 := n2_; have BK308 := n3_; have HB := n4_; clear n0_ n1_ n2_ n3_ n4_; (try clear hb); (try clear hb2); (try clear hk); (try clear hi)) | ((with_reducible refine gate_callee (f := 17) rfl ?_); refine goesL_ (some 125) rfl rfl Try.func17 (by kernel_rfl) rfl #[.int .u8 4, .agg #[.int .i64 t315, .int .i64 t316, .int .i64 t317, .int .i64 t318]] rfl (by (try simp only [List.map_toArray, List.map_cons, List.map_nil]); first | done | rfl | (simp only [List.length_drop, List.length_take]; rfl)) ?_; (with_reducible refine (accums_Value.calls k1 4 t315 t316 t317 t318 t319 t320 _ A40.out).mono ?_); rintro e w76 ⟨rfl, hb⟩; refine ⟨_, rfl, ?_⟩; have n0_ := Aside0.mk (Kd.R_below (by (with_reducible repeat (first | apply Kd.R_alloc | apply Kd.R_drewN | apply Kd.R_drew)); exact HO_1.out) hb); have n1_ := Aside0.mk (blk_below (g := gb292) (o := .cells #[.int .i64 1073741824, .int .i64 7, .int .i64 0, .int .i64 0] 23 (0, 0)) (by (with_reducible repeat (first | refine blk_drewN ?_ _ | refine blk_drew ?_ | refine blk_alloc ?_ _)); exact BK292.out) hb); have n2_ := Aside0.mk (blk_below (g := gb302) (o := .cells #[.int .i64 t297, .int .i64 t298, .int .i64 t299, .int .i64 t300] 23 (0, 0)) (by (with_reducible repeat (first | refine blk_drewN ?_ _ | refine blk_drew ?_ | refine blk_alloc ?_ _)); exact BK302.out) hb); have n3_ := Aside0.mk (blk_below (g := gb308) (o := .cells #[.int .i64 t303, .int .i64 t304, .int .i64 t305, .int .i64 t306] 23 (0, 0)) (by (with_reducible repeat (first | refine blk_drewN ?_ _ | refine blk_drew ?_ | refine blk_alloc ?_ _)); exact BK308.out) hb); have n4_ := Aside0.mk (below_step (by repeat (first | (with_reducible first | exact HB.out | apply below_alloc | apply pw_below_drewN | apply below_drew1 | refine below_set ?_ GE292.out | refine below_set ?_ GE302.out | refine below_set ?_ GE308.out) | exact HB.out)) hb); clear HO_1; clear BK292; clear BK302; clear BK308; clear HB; have HO_1 := n0_; have BK292 := n1_; have BK302 := n2_; have BK308 := n3_; have HB := n4_; clear n0_ n1_ n2_ n3_ n4_; (try clear hb); (try clear hb2); (try clear hk); (try clear hi)) | (go_at_call 10; (with_reducible refine (tailwaterlaw16_alive.calls k1  true _ A41.out).mono ?_); rintro e w77 ⟨rfl, hb⟩; have n0_ := Aside0.mk (Kd.R_below (by (with_reducible repeat (first | apply Kd.R_alloc | apply Kd.R_drewN | apply Kd.R_drew)); exact HO_1.out) hb); have n1_ := Aside0.mk (blk_below (g := gb292) (o := .cells #[.int .i64 1073741824, .int .i64 7, .int .i64 0, .int .i64 0] 23 (0, 0)) (by (with_reducible repeat (first | refine blk_drewN ?_ _ | refine blk_drew ?_ | refine blk_alloc ?_ _)); exact BK292.out) hb); have n2_ := Aside0.mk (blk_below (g := gb302) (o := .cells #[.int .i64 t297, .int .i64 t298, .int .i64 t299, .int .i64 t300] 23 (0, 0)) (by (with_reducible repeat (first | refine blk_drewN ?_ _ | refine blk_drew ?_ | refine blk_alloc ?_ _)); exact BK302.out) hb); have n3_ := Aside0.mk (blk_below (g := gb308) (o := .cells #[.int .i64 t303, .int .i64 t304, .int .i64 t305, .int .i64 t306] 23 (0, 0)) (by (with_reducible repeat (first | refine blk_drewN ?_ _ | refine blk_drew ?_ | refine blk_alloc ?_ _)); exact BK308.out) hb); have n4_ := Aside0.mk (below_step (by repeat (first | (with_reducible first | exact HB.out | apply below_alloc | apply pw_below_drewN | apply below_drew1 | refine below_set ?_ GE292.out | refine below_set ?_ GE302.out | refine below_set ?_ GE308.out) | exact HB.out)) hb); clear HO_1; clear BK292; clear BK302; clear BK308; clear HB; have HO_1 := n0_; have BK292 := n1_; have BK302 := n2_; have BK308 := n3_; have HB := n4_; clear n0_ n1_ n2_ n3_ n4_; (try clear hb); (try clear hb2); (try clear hk); (try clear hi); have hcz78_0 : w77.cell? ⟨gb308, 0, none⟩ = some (.int .i64 t303) := (blk_cell BK308.out 0).trans rfl; have hcz78_1 : w77.cell? ⟨gb308, 1, none⟩ = some (.int .i64 t304) := (blk_cell BK308.out 1).trans rfl; have hcz78_2 : w77.cell? ⟨gb308, 2, none⟩ = some (.int .i64 t305) := (blk_cell BK308.out 2).trans rfl; have hcz78_3 : w77.cell? ⟨gb308, 3, none⟩ = some (.int .i64 t306) := (blk_cell BK308.out 3).trans rfl; have hfz78_0 := blk_frozen BK308.out 0; have hfz78_1 := blk_frozen BK308.out 1; have hfz78_2 := blk_frozen BK308.out 2; have hfz78_3 := blk_frozen BK308.out 3; have hcz79_0 : w77.cell? ⟨gb292, 0, none⟩ = some (.int .i64 1073741824) := (blk_cell BK292.out 0).trans rfl; have hcz79_1 : w77.cell? ⟨gb292, 1, none⟩ = some (.int .i64 7) := (blk_cell BK292.out 1).trans rfl; have hcz79_2 : w77.cell? ⟨gb292, 2, none⟩ = some (.int .i64 0) := (blk_cell BK292.out 2).trans rfl; have hcz79_3 : w77.cell? ⟨gb292, 3, none⟩ = some (.int .i64 0) := (blk_cell BK292.out 3).trans rfl; have hfz79_0 := blk_frozen BK292.out 0; have hfz79_1 := blk_frozen BK292.out 1; have hfz79_2 := blk_frozen BK292.out 2; have hfz79_3 := blk_frozen BK292.out 3))
                          go_ret
                          exact ⟨by first | rfl | exact congrArg (fun b_ : Bool => Ending.returned (.bool b_)) HE.out | ((try simp only [Bool.not_not] at HE); exact congrArg (fun b_ : Bool => Ending.returned (.bool b_)) HE.out) | (have h_ := HE.out; simp at h_ ⊢; simp [*]), by repeat (first | (with_reducible first | exact HB.out | apply below_alloc | apply pw_below_drewN | apply below_drew1 | refine below_set ?_ GE292.out | refine below_set ?_ GE302.out | refine below_set ?_ GE308.out) | exact HB.out)⟩
                        · rw [if_neg c50] at H
                          have c50b0 : (t320 == 0) = false := beq_eq_false_iff_ne.mpr c50
                          have c50b1 : (t320 != 0) = true := bne_iff_ne.mpr c50
                          exact absurd H (by simp)
                      · rw [if_neg c49] at H
                        have c49b0 : (t313 == 1073741824) = false := beq_eq_false_iff_ne.mpr c49
                        have c49b1 : (t313 != 1073741824) = true := bne_iff_ne.mpr c49
                        exact absurd H (by simp)
                    · rw [if_neg c48] at H
                      have c48b0 : (t314 == 0) = false := beq_eq_false_iff_ne.mpr c48
                      have c48b1 : (t314 != 0) = true := bne_iff_ne.mpr c48
                      exact absurd H (by simp)
                  · rw [if_neg c47] at H
                    have c47b0 : (t312 == 2) = false := beq_eq_false_iff_ne.mpr c47
                    have c47b1 : (t312 != 2) = true := bne_iff_ne.mpr c47
                    exact absurd H (by simp)
                · rw [if_neg c46] at H
                  have c46b0 : (t310 == 6) = false := beq_eq_false_iff_ne.mpr c46
                  have c46b1 : (t310 != 6) = true := bne_iff_ne.mpr c46
                  exact absurd H (by simp)
              · rw [if_neg c45] at H
                (try (have c45b0 : (t304 == 7 && (t305 == 0 && (t306 == 0))) = false := by (have h_ := Bool.eq_false_iff.mpr c45; clear c45; simp only [*, Bool.true_and, Bool.not_true, Bool.not_false] at h_; first | exact h_ | simpa using h_)))
                (try (have c45b1 : (t305 == 0 && (t306 == 0)) = false := by (have h_ := Bool.eq_false_iff.mpr c45; clear c45; simp only [*, Bool.true_and, Bool.not_true, Bool.not_false] at h_; first | exact h_ | simpa using h_)))
                (try (have c45b2 : (t306 == 0) = false := by (have h_ := Bool.eq_false_iff.mpr c45; clear c45; simp only [*, Bool.true_and, Bool.not_true, Bool.not_false] at h_; first | exact h_ | simpa using h_)))
                have c45b3 : (t303 == 1073741824 && (t304 == 7 && (t305 == 0 && (t306 == 0)))) = false := by simpa using c45
                (try (have c45b4 : decide (t303 = 1073741824 && (t304 == 7 && (t305 == 0 && (t306 == 0)))) = false := by simpa using c45))
                (try (have c45b5 : (t303 == 1073741824 && (t304 == 7 && (t305 == 0 && (t306 == 0)))) = false := by simpa using c45))
                (try (have c45b6 : ¬ (t303 = 1073741824 && (t304 == 7 && (t305 == 0 && (t306 == 0)))) := by simpa using c45))
                clear c45
                exact absurd H (by simp)
            · rw [if_neg c44] at H
              have c44b0 : (t307 == 0) = false := beq_eq_false_iff_ne.mpr c44
              have c44b1 : (t307 != 0) = true := bne_iff_ne.mpr c44
              exact absurd H (by simp)
          · rw [if_neg c43] at H
            have c43b0 : (t301 == 4) = false := beq_eq_false_iff_ne.mpr c43
            have c43b1 : (t301 != 4) = true := bne_iff_ne.mpr c43
            exact absurd H (by simp)
        · replace c42 := Bool.eq_false_iff.mpr c42
          subst c42
          have H1 : (some false) = some true := by rw [if_neg (show ¬ (false = true) by decide)] at H; exact H
          clear H
          have H := H1
          clear H1
          exact absurd H (by simp)

/-- THE ONE PURE STATEMENT of tailwaterlaw16_AccumsNames: yours. -/
def tailwaterlaw16_AccumsNames.Pure : Prop := ∃ k, tailwaterlaw16_AccumsNames.f k  = some true
theorem tailwaterlaw16_AccumsNames.walk (P : tailwaterlaw16_AccumsNames.Pure)  (w : World)   :
    Calls Try.prog 6 #[] w fun e w' => e = .returned (.bool true) ∧ Below w.heap.size w w' := by
  obtain ⟨k, h⟩ := P  
  refine (tailwaterlaw16_AccumsNames.calls k  w h).mono ?_
  rintro e w' ⟨rfl, hd⟩
  exact ⟨rfl, hd⟩

end Go.Proofs.Ytpmnneghnbbpjaa.My

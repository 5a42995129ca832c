/- Each theorem X.calls below says: where the Lean function X.f answers, the Go function X returns that answer, and whatever lay in memory before the call is left as it was. -/
import Derived.Test.YtpmnneghnbbpjaaMyx0
import Derived.Test.YtpmnneghnbbpjaaMyx2
import Derived.Test.YtpmnneghnbbpjaaMyx4
import Derived.Test.YtpmnneghnbbpjaaMyx6
import Derived.Test.YtpmnneghnbbpjaaMyx18
namespace Go.Proofs.Ytpmnneghnbbpjaa.My
open Go.RowKit Go.Proofs.YtpmnneghnbbpjaaW.PrintWords Go.Proofs.YtpmnneghnbbpjaaW.PrintLast Go.Proofs.YtpmnneghnbbpjaaW.PrintMore
attribute [local go_sem] max2_int min2_int max_two min_two max_three min_three max_four min_four   -- for this text's walks alone
set_option linter.unusedVariables false
set_option linter.unusedSimpArgs false

/-! ### tailwaterlaw16_AccumsOne: function 8 -/
def tailwaterlaw16_AccumsOne.f (k : Nat) (a0 : Int) : Option (Bool) := (accums_Of.f a0).bind fun bt339 => ((accums_Value.f k 1 bt339.1 bt339.2.1 bt339.2.2.1 bt339.2.2.2).bind fun bt344 => ((accums_Value.f k 2 bt339.1 bt339.2.1 bt339.2.2.1 bt339.2.2.2).bind fun bt346 => ((accums_Value.f k 3 bt339.1 bt339.2.1 bt339.2.2.1 bt339.2.2.2).bind fun bt348 => ((accums_Value.f k 4 bt339.1 bt339.2.1 bt339.2.2.1 bt339.2.2.2).bind fun bt350 => ((tailwaterlaw16_alive.f k).bind fun t352 => (if t352 = true then ((accums_Check.f k bt339.1 bt339.2.1 bt339.2.2.1 bt339.2.2.2).bind fun t353 => (if t353 = 0 then (if bt344.2 = 0 then (if bt346.2 = 0 then (if bt348.2 = 0 then (if bt350.2 = 0 then (if bt344.1 = 1 then (if bt346.1 = a0 then (if bt348.1 = a0 then (some (bt350.1 == a0)) else (some false)) else (some false)) else (some false)) else (some false)) else (some false)) else (some false)) else (some false)) else (some false))) else (some false)))))))
theorem tailwaterlaw16_AccumsOne.mono : ∀ a0 k, LeO (tailwaterlaw16_AccumsOne.f k a0) (tailwaterlaw16_AccumsOne.f (k + 1) a0) := by
  intro a0 k
  unfold tailwaterlaw16_AccumsOne.f
  repeat' first
      | (with_reducible exact accums_Check.mono _ _ _ _ _)
      | (with_reducible exact accums_Value.mono _ _ _ _ _ _)
      | (with_reducible exact tailwaterlaw16_alive.mono _)
      | (with_reducible exact LeO.refl _)
      | (with_reducible exact LeO.none _)
      | (with_reducible refine LeO.ite ?_ ?_)
      | (with_reducible refine LeO.bind ?_ (fun _ => ?_))
      | exact accums_Check.mono _ _ _ _ _
      | exact accums_Value.mono _ _ _ _ _ _
      | exact tailwaterlaw16_alive.mono _
      | exact LeO.none _
      | refine LeO.ite ?_ ?_
      | refine LeO.bind ?_ (fun _ => ?_)
set_option maxHeartbeats 8000000 in
set_option maxRecDepth 100000 in
theorem tailwaterlaw16_AccumsOne.calls (k : Nat) (a0 : Int) (w : World) (h : tailwaterlaw16_AccumsOne.f k a0 = some true) :
    Calls Try.prog 8 #[.int .i64 a0] w fun e w' => e = .returned (.bool true) ∧ Below w.heap.size w w' := by
  have hu23 := Try.underlying23
  have HB := Aside0.mk (Below.refl w.heap.size w)
  have H : ((accums_Of.f a0).bind fun bt339 => ((accums_Value.f k 1 bt339.1 bt339.2.1 bt339.2.2.1 bt339.2.2.2).bind fun bt344 => ((accums_Value.f k 2 bt339.1 bt339.2.1 bt339.2.2.1 bt339.2.2.2).bind fun bt346 => ((accums_Value.f k 3 bt339.1 bt339.2.1 bt339.2.2.1 bt339.2.2.2).bind fun bt348 => ((accums_Value.f k 4 bt339.1 bt339.2.1 bt339.2.2.1 bt339.2.2.2).bind fun bt350 => ((tailwaterlaw16_alive.f k).bind fun t352 => (if t352 = true then ((accums_Check.f k bt339.1 bt339.2.1 bt339.2.2.1 bt339.2.2.2).bind fun t353 => (if t353 = 0 then (if bt344.2 = 0 then (if bt346.2 = 0 then (if bt348.2 = 0 then (if bt350.2 = 0 then (if bt344.1 = 1 then (if bt346.1 = a0 then (if bt348.1 = a0 then (some (bt350.1 == a0)) else (some false)) else (some false)) else (some false)) else (some false)) else (some false)) else (some false)) else (some false)) else (some false))) else (some false)))))))) = some true := h
  clear h
  replace H := Option.bind_eq_some_iff.mp H
  obtain ⟨⟨t339, t340, t341, t342⟩, A20, H⟩ := H
  replace H : ((accums_Value.f k 1 t339 t340 t341 t342).bind fun bt344 => ((accums_Value.f k 2 t339 t340 t341 t342).bind fun bt346 => ((accums_Value.f k 3 t339 t340 t341 t342).bind fun bt348 => ((accums_Value.f k 4 t339 t340 t341 t342).bind fun bt350 => ((tailwaterlaw16_alive.f k).bind fun t352 => (if t352 = true then ((accums_Check.f k t339 t340 t341 t342).bind fun t353 => (if t353 = 0 then (if bt344.2 = 0 then (if bt346.2 = 0 then (if bt348.2 = 0 then (if bt350.2 = 0 then (if bt344.1 = 1 then (if bt346.1 = a0 then (if bt348.1 = a0 then (some (bt350.1 == a0)) else (some false)) else (some false)) else (some false)) else (some false)) else (some false)) else (some false)) else (some false)) else (some false))) else (some false))))))) = some true := H
  have A2 := Aside0.mk A20
  clear A20
  replace H := Option.bind_eq_some_iff.mp H
  obtain ⟨⟨t344, t345⟩, A30, H⟩ := H
  replace H : ((accums_Value.f k 2 t339 t340 t341 t342).bind fun bt346 => ((accums_Value.f k 3 t339 t340 t341 t342).bind fun bt348 => ((accums_Value.f k 4 t339 t340 t341 t342).bind fun bt350 => ((tailwaterlaw16_alive.f k).bind fun t352 => (if t352 = true then ((accums_Check.f k t339 t340 t341 t342).bind fun t353 => (if t353 = 0 then (if t345 = 0 then (if bt346.2 = 0 then (if bt348.2 = 0 then (if bt350.2 = 0 then (if t344 = 1 then (if bt346.1 = a0 then (if bt348.1 = a0 then (some (bt350.1 == a0)) else (some false)) else (some false)) else (some false)) else (some false)) else (some false)) else (some false)) else (some false)) else (some false))) else (some false)))))) = some true := H
  have A3 := Aside0.mk A30
  clear A30
  replace H := Option.bind_eq_some_iff.mp H
  obtain ⟨⟨t346, t347⟩, A40, H⟩ := H
  replace H : ((accums_Value.f k 3 t339 t340 t341 t342).bind fun bt348 => ((accums_Value.f k 4 t339 t340 t341 t342).bind fun bt350 => ((tailwaterlaw16_alive.f k).bind fun t352 => (if t352 = true then ((accums_Check.f k t339 t340 t341 t342).bind fun t353 => (if t353 = 0 then (if t345 = 0 then (if t347 = 0 then (if bt348.2 = 0 then (if bt350.2 = 0 then (if t344 = 1 then (if t346 = a0 then (if bt348.1 = a0 then (some (bt350.1 == a0)) else (some false)) else (some false)) else (some false)) else (some false)) else (some false)) else (some false)) else (some false)) else (some false))) else (some false))))) = some true := H
  have A4 := Aside0.mk A40
  clear A40
  replace H := Option.bind_eq_some_iff.mp H
  obtain ⟨⟨t348, t349⟩, A50, H⟩ := H
  replace H : ((accums_Value.f k 4 t339 t340 t341 t342).bind fun bt350 => ((tailwaterlaw16_alive.f k).bind fun t352 => (if t352 = true then ((accums_Check.f k t339 t340 t341 t342).bind fun t353 => (if t353 = 0 then (if t345 = 0 then (if t347 = 0 then (if t349 = 0 then (if bt350.2 = 0 then (if t344 = 1 then (if t346 = a0 then (if t348 = a0 then (some (bt350.1 == a0)) else (some false)) else (some false)) else (some false)) else (some false)) else (some false)) else (some false)) else (some false)) else (some false))) else (some false)))) = some true := H
  have A5 := Aside0.mk A50
  clear A50
  replace H := Option.bind_eq_some_iff.mp H
  obtain ⟨⟨t350, t351⟩, A60, H⟩ := H
  replace H : ((tailwaterlaw16_alive.f k).bind fun t352 => (if t352 = true then ((accums_Check.f k t339 t340 t341 t342).bind fun t353 => (if t353 = 0 then (if t345 = 0 then (if t347 = 0 then (if t349 = 0 then (if t351 = 0 then (if t344 = 1 then (if t346 = a0 then (if t348 = a0 then (some (t350 == a0)) else (some false)) else (some false)) else (some false)) else (some false)) else (some false)) else (some false)) else (some false)) else (some false))) else (some false))) = some true := H
  have A6 := Aside0.mk A60
  clear A60
  replace H := Option.bind_eq_some_iff.mp H
  obtain ⟨t352, A70, H⟩ := H
  replace H : (if t352 = true then ((accums_Check.f k t339 t340 t341 t342).bind fun t353 => (if t353 = 0 then (if t345 = 0 then (if t347 = 0 then (if t349 = 0 then (if t351 = 0 then (if t344 = 1 then (if t346 = a0 then (if t348 = a0 then (some (t350 == a0)) else (some false)) else (some false)) else (some false)) else (some false)) else (some false)) else (some false)) else (some false)) else (some false))) else (some false)) = some true := H
  have A7 := Aside0.mk A70
  clear A70
  by_cases c8 : t352 = true
  · subst c8
    have H1 : ((accums_Check.f k t339 t340 t341 t342).bind fun t353 => (if t353 = 0 then (if t345 = 0 then (if t347 = 0 then (if t349 = 0 then (if t351 = 0 then (if t344 = 1 then (if t346 = a0 then (if t348 = a0 then (some (t350 == a0)) else (some false)) else (some false)) else (some false)) else (some false)) else (some false)) else (some false)) else (some false)) else (some false))) = some true := by rw [if_pos rfl] at H; exact H
    clear H
    have H := H1
    clear H1
    replace H := Option.bind_eq_some_iff.mp H
    obtain ⟨t353, A90, H⟩ := H
    replace H : (if t353 = 0 then (if t345 = 0 then (if t347 = 0 then (if t349 = 0 then (if t351 = 0 then (if t344 = 1 then (if t346 = a0 then (if t348 = a0 then (some (t350 == a0)) else (some false)) else (some false)) else (some false)) else (some false)) else (some false)) else (some false)) else (some false)) else (some false)) = some true := H
    have A9 := Aside0.mk A90
    clear A90
    by_cases c10 : t353 = 0
    · rw [if_pos c10] at H
      have c10b0 : (t353 == 0) = true := beq_iff_eq.mpr c10
      have c10b1 : (t353 != 0) = false := bne_eq_false_iff_eq.mpr c10
      clear c10
      by_cases c11 : t345 = 0
      · rw [if_pos c11] at H
        have c11b0 : (t345 == 0) = true := beq_iff_eq.mpr c11
        have c11b1 : (t345 != 0) = false := bne_eq_false_iff_eq.mpr c11
        clear c11
        by_cases c12 : t347 = 0
        · rw [if_pos c12] at H
          have c12b0 : (t347 == 0) = true := beq_iff_eq.mpr c12
          have c12b1 : (t347 != 0) = false := bne_eq_false_iff_eq.mpr c12
          clear c12
          by_cases c13 : t349 = 0
          · rw [if_pos c13] at H
            have c13b0 : (t349 == 0) = true := beq_iff_eq.mpr c13
            have c13b1 : (t349 != 0) = false := bne_eq_false_iff_eq.mpr c13
            clear c13
            by_cases c14 : t351 = 0
            · rw [if_pos c14] at H
              have c14b0 : (t351 == 0) = true := beq_iff_eq.mpr c14
              have c14b1 : (t351 != 0) = false := bne_eq_false_iff_eq.mpr c14
              clear c14
              by_cases c15 : t344 = 1
              · rw [if_pos c15] at H
                have c15b0 : (t344 == 1) = true := beq_iff_eq.mpr c15
                have c15b1 : (t344 != 1) = false := bne_eq_false_iff_eq.mpr c15
                clear c15
                by_cases c16 : t346 = a0
                · rw [if_pos c16] at H
                  have c16b0 : (t346 == a0) = true := beq_iff_eq.mpr c16
                  have c16b1 : (t346 != a0) = false := bne_eq_false_iff_eq.mpr c16
                  clear c16
                  by_cases c17 : t348 = a0
                  · rw [if_pos c17] at H
                    have c17b0 : (t348 == a0) = true := beq_iff_eq.mpr c17
                    have c17b1 : (t348 != a0) = false := bne_eq_false_iff_eq.mpr c17
                    clear c17
                    have HE := Aside0.mk (Option.some.inj H)
                    clear H
                    go_enter Try.func8, Try.ntmps8
                    go_wp2_with (first | ((with_reducible refine gate_callee (f := 20) rfl ?_); refine goesL_ (some 13) rfl rfl Try.func20 (by kernel_rfl) rfl #[.int .i64 a0] rfl (by (try simp only [List.map_toArray, List.map_cons, List.map_nil]); first | done | rfl | (simp only [List.length_drop, List.length_take]; rfl)) ?_; (with_reducible refine (accums_Of.calls a0 t339 t340 t341 t342 _ A2.out).mono ?_); rintro e w18 ⟨rfl, hb⟩; refine ⟨_, rfl, ?_⟩; have n0_ := Aside0.mk (below_step (by repeat (first | (with_reducible first | exact HB.out | apply below_alloc | apply pw_below_drewN | apply below_drew1) | exact HB.out)) hb); clear HB; have HB := n0_; clear n0_; (try clear hb); (try clear hb2); (try clear hk); (try clear hi)) | ((with_reducible refine gate_dst (N := 3) rfl ?_); refine box_event ?hg (N := 3) ?hd (cs := #[.int .i64 0, .int .i64 0, .int .i64 0, .int .i64 0]) (t := 23) ?hr ?_; (case hd => rfl); (case hg => rfl); (case hr => first | (go_simp; done) | (go_simp; rfl)); intro gb343 hg w19 hbox hb; have n0_ := Aside0.mk (below_step (by repeat (first | (with_reducible first | exact HB.out | apply below_alloc | apply pw_below_drewN | apply below_drew1) | exact HB.out)) hb); have n1_ := Aside0.mk (hbox); have n2_ := Aside0.mk ((by rw [hg]; exact (below_size (by repeat (first | (with_reducible first | exact HB.out | apply below_alloc | apply pw_below_drewN | apply below_drew1) | exact HB.out))) : w.heap.size ≤ gb343)); have n3_ := Aside0.mk ((by rw [hg]; exact (below_size (by repeat (first | (with_reducible first | exact HB.out | apply below_alloc | apply pw_below_drewN | apply below_drew1) | exact HB.out))) : w.heap.size ≤ gb343)); clear HB; have HB := n0_; have BK343 := n1_; have GW343 := n2_; have GE343 := n3_; clear n0_ n1_ n2_ n3_; clear hb hbox hg; have hcz20_0 : w19.cell? ⟨gb343, 0, none⟩ = some (.int .i64 0) := (blk_cell BK343.out 0).trans rfl; have hcz20_1 : w19.cell? ⟨gb343, 1, none⟩ = some (.int .i64 0) := (blk_cell BK343.out 1).trans rfl; have hcz20_2 : w19.cell? ⟨gb343, 2, none⟩ = some (.int .i64 0) := (blk_cell BK343.out 2).trans rfl; have hcz20_3 : w19.cell? ⟨gb343, 3, none⟩ = some (.int .i64 0) := (blk_cell BK343.out 3).trans rfl; have hfz20_0 := blk_frozen BK343.out 0; have hfz20_1 := blk_frozen BK343.out 1; have hfz20_2 := blk_frozen BK343.out 2; have hfz20_3 := blk_frozen BK343.out 3) | ((with_reducible refine gate_callee (f := 17) rfl ?_); refine goesL_ (some 16) rfl rfl Try.func17 (by kernel_rfl) rfl #[.int .u8 1, .agg #[.int .i64 t339, .int .i64 t340, .int .i64 t341, .int .i64 t342]] rfl (by (try simp only [List.map_toArray, List.map_cons, List.map_nil]); first | done | rfl | (simp only [List.length_drop, List.length_take]; rfl)) ?_; (with_reducible refine (accums_Value.calls k 1 t339 t340 t341 t342 t344 t345 _ A3.out).mono ?_); rintro e w21 ⟨rfl, hb⟩; refine ⟨_, rfl, ?_⟩; have n0_ := Aside0.mk (blk_below (g := gb343) (o := .cells #[.int .i64 t339, .int .i64 t340, .int .i64 t341, .int .i64 t342] 23 (0, 0)) (by (with_reducible repeat (first | refine blk_drewN ?_ _ | refine blk_drew ?_ | refine blk_alloc ?_ _)); refine blk_put (cs := #[.int .i64 t339, .int .i64 t340, .int .i64 t341, .int .i64 0]) ?_ 3 _ rfl; (with_reducible repeat (first | refine blk_drewN ?_ _ | refine blk_drew ?_ | refine blk_alloc ?_ _)); refine blk_put (cs := #[.int .i64 t339, .int .i64 t340, .int .i64 0, .int .i64 0]) ?_ 2 _ rfl; (with_reducible repeat (first | refine blk_drewN ?_ _ | refine blk_drew ?_ | refine blk_alloc ?_ _)); refine blk_put (cs := #[.int .i64 t339, .int .i64 0, .int .i64 0, .int .i64 0]) ?_ 1 _ rfl; (with_reducible repeat (first | refine blk_drewN ?_ _ | refine blk_drew ?_ | refine blk_alloc ?_ _)); refine blk_put (cs := #[.int .i64 0, .int .i64 0, .int .i64 0, .int .i64 0]) ?_ 0 _ rfl; (with_reducible repeat (first | refine blk_drewN ?_ _ | refine blk_drew ?_ | refine blk_alloc ?_ _)); exact BK343.out) hb); have n1_ := Aside0.mk (below_step (by repeat (first | (with_reducible first | exact HB.out | apply below_alloc | apply pw_below_drewN | apply below_drew1 | refine below_set ?_ GE343.out) | exact HB.out)) hb); clear BK343; clear HB; have BK343 := n0_; have HB := n1_; clear n0_ n1_; (try clear hb); (try clear hb2); (try clear hk); (try clear hi); have hcz22_0 : w21.cell? ⟨gb343, 0, none⟩ = some (.int .i64 t339) := (blk_cell BK343.out 0).trans rfl; have hcz22_1 : w21.cell? ⟨gb343, 1, none⟩ = some (.int .i64 t340) := (blk_cell BK343.out 1).trans rfl; have hcz22_2 : w21.cell? ⟨gb343, 2, none⟩ = some (.int .i64 t341) := (blk_cell BK343.out 2).trans rfl; have hcz22_3 : w21.cell? ⟨gb343, 3, none⟩ = some (.int .i64 t342) := (blk_cell BK343.out 3).trans rfl; have hfz22_0 := blk_frozen BK343.out 0; have hfz22_1 := blk_frozen BK343.out 1; have hfz22_2 := blk_frozen BK343.out 2; have hfz22_3 := blk_frozen BK343.out 3) | ((with_reducible refine gate_callee (f := 17) rfl ?_); refine goesL_ (some 21) rfl rfl Try.func17 (by kernel_rfl) rfl #[.int .u8 2, .agg #[.int .i64 t339, .int .i64 t340, .int .i64 t341, .int .i64 t342]] rfl (by (try simp only [List.map_toArray, List.map_cons, List.map_nil]); first | done | rfl | (simp only [List.length_drop, List.length_take]; rfl)) ?_; (with_reducible refine (accums_Value.calls k 2 t339 t340 t341 t342 t346 t347 _ A4.out).mono ?_); rintro e w23 ⟨rfl, hb⟩; refine ⟨_, rfl, ?_⟩; have n0_ := Aside0.mk (blk_below (g := gb343) (o := .cells #[.int .i64 t339, .int .i64 t340, .int .i64 t341, .int .i64 t342] 23 (0, 0)) (by (with_reducible repeat (first | refine blk_drewN ?_ _ | refine blk_drew ?_ | refine blk_alloc ?_ _)); exact BK343.out) hb); have n1_ := Aside0.mk (below_step (by repeat (first | (with_reducible first | exact HB.out | apply below_alloc | apply pw_below_drewN | apply below_drew1 | refine below_set ?_ GE343.out) | exact HB.out)) hb); clear BK343; clear HB; have BK343 := n0_; have HB := n1_; clear n0_ n1_; (try clear hb); (try clear hb2); (try clear hk); (try clear hi); have hcz24_0 : w23.cell? ⟨gb343, 0, none⟩ = some (.int .i64 t339) := (blk_cell BK343.out 0).trans rfl; have hcz24_1 : w23.cell? ⟨gb343, 1, none⟩ = some (.int .i64 t340) := (blk_cell BK343.out 1).trans rfl; have hcz24_2 : w23.cell? ⟨gb343, 2, none⟩ = some (.int .i64 t341) := (blk_cell BK343.out 2).trans rfl; have hcz24_3 : w23.cell? ⟨gb343, 3, none⟩ = some (.int .i64 t342) := (blk_cell BK343.out 3).trans rfl; have hfz24_0 := blk_frozen BK343.out 0; have hfz24_1 := blk_frozen BK343.out 1; have hfz24_2 := blk_frozen BK343.out 2; have hfz24_3 := blk_frozen BK343.out 3) | ((with_reducible refine gate_callee (f := 17) rfl ?_); refine goesL_ (some 26) rfl rfl Try.func17 (by kernel_rfl) rfl #[.int .u8 3, .agg #[.int .i64 t339, .int .i64 t340, .int .i64 t341, .int .i64 t342]] rfl (by (try simp only [List.map_toArray, List.map_cons, List.map_nil]); first | done | rfl | (simp only [List.length_drop, List.length_take]; rfl)) ?_; (with_reducible refine (accums_Value.calls k 3 t339 t340 t341 t342 t348 t349 _ A5.out).mono ?_); rintro e w25 ⟨rfl, hb⟩; refine ⟨_, rfl, ?_⟩; have n0_ := Aside0.mk (blk_below (g := gb343) (o := .cells #[.int .i64 t339, .int .i64 t340, .int .i64 t341, .int .i64 t342] 23 (0, 0)) (by (with_reducible repeat (first | refine blk_drewN ?_ _ | refine blk_drew ?_ | refine blk_alloc ?_ _)); exact BK343.out) hb); have n1_ := Aside0.mk (below_step (by repeat (first | (with_reducible first | exact HB.out | apply below_alloc | apply pw_below_drewN | apply below_drew1 | refine below_set ?_ GE343.out) | exact HB.out)) hb); clear BK343; clear HB; have BK343 := n0_; have HB := n1_; clear n0_ n1_; (try clear hb); (try clear hb2); (try clear hk); (try clear hi); have hcz26_0 : w25.cell? ⟨gb343, 0, none⟩ = some (.int .i64 t339) := (blk_cell BK343.out 0).trans rfl; have hcz26_1 : w25.cell? ⟨gb343, 1, none⟩ = some (.int .i64 t340) := (blk_cell BK343.out 1).trans rfl; have hcz26_2 : w25.cell? ⟨gb343, 2, none⟩ = some (.int .i64 t341) := (blk_cell BK343.out 2).trans rfl; have hcz26_3 : w25.cell? ⟨gb343, 3, none⟩ = some (.int .i64 t342) := (blk_cell BK343.out 3).trans rfl; have hfz26_0 := blk_frozen BK343.out 0; have hfz26_1 := blk_frozen BK343.out 1; have hfz26_2 := blk_frozen BK343.out 2; have hfz26_3 := blk_frozen BK343.out 3) | ((with_reducible refine gate_callee (f := 17) rfl ?_); refine goesL_ (some 31) rfl rfl Try.func17 (by kernel_rfl) rfl #[.int .u8 4, .agg #[.int .i64 t339, .int .i64 t340, .int .i64 t341, .int .i64 t342]] rfl (by (try simp only [List.map_toArray, List.map_cons, List.map_nil]); first | done | rfl | (simp only [List.length_drop, List.length_take]; rfl)) ?_; (with_reducible refine (accums_Value.calls k 4 t339 t340 t341 t342 t350 t351 _ A6.out).mono ?_); rintro e w27 ⟨rfl, hb⟩; refine ⟨_, rfl, ?_⟩; have n0_ := Aside0.mk (blk_below (g := gb343) (o := .cells #[.int .i64 t339, .int .i64 t340, .int .i64 t341, .int .i64 t342] 23 (0, 0)) (by (with_reducible repeat (first | refine blk_drewN ?_ _ | refine blk_drew ?_ | refine blk_alloc ?_ _)); exact BK343.out) hb); have n1_ := Aside0.mk (below_step (by repeat (first | (with_reducible first | exact HB.out | apply below_alloc | apply pw_below_drewN | apply below_drew1 | refine below_set ?_ GE343.out) | exact HB.out)) hb); clear BK343; clear HB; have BK343 := n0_; have HB := n1_; clear n0_ n1_; (try clear hb); (try clear hb2); (try clear hk); (try clear hi)) | ((with_reducible refine gate_callee (f := 10) rfl ?_); refine goesL_ (some 34) rfl rfl Try.func10 (by kernel_rfl) rfl #[] rfl (by (try simp only [List.map_toArray, List.map_cons, List.map_nil]); first | done | rfl | (simp only [List.length_drop, List.length_take]; rfl)) ?_; (with_reducible refine (tailwaterlaw16_alive.calls k  true _ A7.out).mono ?_); rintro e w28 ⟨rfl, hb⟩; refine ⟨_, rfl, ?_⟩; have n0_ := Aside0.mk (blk_below (g := gb343) (o := .cells #[.int .i64 t339, .int .i64 t340, .int .i64 t341, .int .i64 t342] 23 (0, 0)) (by (with_reducible repeat (first | refine blk_drewN ?_ _ | refine blk_drew ?_ | refine blk_alloc ?_ _)); exact BK343.out) hb); have n1_ := Aside0.mk (below_step (by repeat (first | (with_reducible first | exact HB.out | apply below_alloc | apply pw_below_drewN | apply below_drew1 | refine below_set ?_ GE343.out) | exact HB.out)) hb); clear BK343; clear HB; have BK343 := n0_; have HB := n1_; clear n0_ n1_; (try clear hb); (try clear hb2); (try clear hk); (try clear hi); have hcz29_0 : w28.cell? ⟨gb343, 0, none⟩ = some (.int .i64 t339) := (blk_cell BK343.out 0).trans rfl; have hcz29_1 : w28.cell? ⟨gb343, 1, none⟩ = some (.int .i64 t340) := (blk_cell BK343.out 1).trans rfl; have hcz29_2 : w28.cell? ⟨gb343, 2, none⟩ = some (.int .i64 t341) := (blk_cell BK343.out 2).trans rfl; have hcz29_3 : w28.cell? ⟨gb343, 3, none⟩ = some (.int .i64 t342) := (blk_cell BK343.out 3).trans rfl; have hfz29_0 := blk_frozen BK343.out 0; have hfz29_1 := blk_frozen BK343.out 1; have hfz29_2 := blk_frozen BK343.out 2; have hfz29_3 := blk_frozen BK343.out 3) | (go_at_call 13; (with_reducible refine (accums_Check.calls k t339 t340 t341 t342 t353 _ A9.out).mono ?_); rintro e w30 ⟨rfl, hb⟩; have n0_ := Aside0.mk (blk_below (g := gb343) (o := .cells #[.int .i64 t339, .int .i64 t340, .int .i64 t341, .int .i64 t342] 23 (0, 0)) (by (with_reducible repeat (first | refine blk_drewN ?_ _ | refine blk_drew ?_ | refine blk_alloc ?_ _)); exact BK343.out) hb); have n1_ := Aside0.mk (below_step (by repeat (first | (with_reducible first | exact HB.out | apply below_alloc | apply pw_below_drewN | apply below_drew1 | refine below_set ?_ GE343.out) | exact HB.out)) hb); clear BK343; clear HB; have BK343 := n0_; have HB := n1_; clear n0_ n1_; (try clear hb); (try clear hb2); (try clear hk); (try clear hi)))
                    go_ret
                    exact ⟨by first | rfl | exact congrArg (fun b_ : Bool => Ending.returned (.bool b_)) HE.out | ((try simp only [Bool.not_not] at HE); exact congrArg (fun b_ : Bool => Ending.returned (.bool b_)) HE.out) | (have h_ := HE.out; simp at h_ ⊢; simp [*]), by repeat (first | (with_reducible first | exact HB.out | apply below_alloc | apply pw_below_drewN | apply below_drew1 | refine below_set ?_ GE343.out) | exact HB.out)⟩
                  · rw [if_neg c17] at H
                    have c17b0 : (t348 == a0) = false := beq_eq_false_iff_ne.mpr c17
                    have c17b1 : (t348 != a0) = true := bne_iff_ne.mpr c17
                    exact absurd H (by simp)
                · rw [if_neg c16] at H
                  have c16b0 : (t346 == a0) = false := beq_eq_false_iff_ne.mpr c16
                  have c16b1 : (t346 != a0) = true := bne_iff_ne.mpr c16
                  exact absurd H (by simp)
              · rw [if_neg c15] at H
                have c15b0 : (t344 == 1) = false := beq_eq_false_iff_ne.mpr c15
                have c15b1 : (t344 != 1) = true := bne_iff_ne.mpr c15
                exact absurd H (by simp)
            · rw [if_neg c14] at H
              have c14b0 : (t351 == 0) = false := beq_eq_false_iff_ne.mpr c14
              have c14b1 : (t351 != 0) = true := bne_iff_ne.mpr c14
              exact absurd H (by simp)
          · rw [if_neg c13] at H
            have c13b0 : (t349 == 0) = false := beq_eq_false_iff_ne.mpr c13
            have c13b1 : (t349 != 0) = true := bne_iff_ne.mpr c13
            exact absurd H (by simp)
        · rw [if_neg c12] at H
          have c12b0 : (t347 == 0) = false := beq_eq_false_iff_ne.mpr c12
          have c12b1 : (t347 != 0) = true := bne_iff_ne.mpr c12
          exact absurd H (by simp)
      · rw [if_neg c11] at H
        have c11b0 : (t345 == 0) = false := beq_eq_false_iff_ne.mpr c11
        have c11b1 : (t345 != 0) = true := bne_iff_ne.mpr c11
        exact absurd H (by simp)
    · rw [if_neg c10] at H
      have c10b0 : (t353 == 0) = false := beq_eq_false_iff_ne.mpr c10
      have c10b1 : (t353 != 0) = true := bne_iff_ne.mpr c10
      exact absurd H (by simp)
  · replace c8 := Bool.eq_false_iff.mpr c8
    subst c8
    have H1 : (some false) = some true := by rw [if_neg (show ¬ (false = true) by decide)] at H; exact H
    clear H
    have H := H1
    clear H1
    exact absurd H (by simp)

/-- THE ONE PURE STATEMENT of tailwaterlaw16_AccumsOne: yours. -/
def tailwaterlaw16_AccumsOne.Pure : Prop := ∀ (a0 : Int), (Lit.int .i64 a0).wf = true → ∃ k, tailwaterlaw16_AccumsOne.f k a0 = some true
theorem tailwaterlaw16_AccumsOne.walk (P : tailwaterlaw16_AccumsOne.Pure) (a0 : Int) (w : World) (w0 : (Lit.int .i64 a0).wf = true)  :
    Calls Try.prog 8 #[.int .i64 a0] w fun e w' => e = .returned (.bool true) ∧ Below w.heap.size w w' := by
  obtain ⟨k, h⟩ := P a0 w0
  refine (tailwaterlaw16_AccumsOne.calls k a0 w h).mono ?_
  rintro e w' ⟨rfl, hd⟩
  exact ⟨rfl, hd⟩

end Go.Proofs.Ytpmnneghnbbpjaa.My

/- Each theorem X.calls below says: where the Lean function X.f answers, the Go function X returns that answer, and whatever lay in memory before the call is left as it was. -/
import Derived.Test.YtdcigijklknjaaaDoorMwa
import Derived.Test.YtdcigijklknjaaaDoorMwc
import Derived.Test.YtdcigijklknjaaaDoorMwb
namespace Go.Proofs.YtdcigijklknjaaaDoor.Mw
open Go.RowKit Go.Proofs.YtdcigijklknjaaaDoorW.PrintWords Go.Proofs.YtdcigijklknjaaaDoorW.PrintLast Go.Proofs.YtdcigijklknjaaaDoorW.PrintMore
attribute [local go_sem] max2_int min2_int max_two min_two max_three min_three max_four min_four   -- for this text's walks alone
set_option linter.unusedVariables false
set_option linter.unusedSimpArgs false

attribute [local go_sem high] eqA31
/-! ### tailwaterlaw25_MessageBack: function 14 -/
def tailwaterlaw25_MessageBack.j0 : Nat → ByteArray → Bool → Bool → Option (Bool)
  | 0, _, _, _ => none
  | k + 1, x0, x3, x15 => if x15 = true then (some x3) else ((message_Read.f k x0).bind fun bt441 => (if bt441.2.2.2.2.2.2.2.2.2.2 = 0 then ((message_Text.f k bt441.1 bt441.2.1 bt441.2.2.1 bt441.2.2.2.1 bt441.2.2.2.2.1 bt441.2.2.2.2.2.1 bt441.2.2.2.2.2.2.1 bt441.2.2.2.2.2.2.2.1 bt441.2.2.2.2.2.2.2.2.1 bt441.2.2.2.2.2.2.2.2.2.1).bind fun bt453 => (if x3 = true then (if bt453.2 = 0 then (if x0.toList = bt453.1.toList then ((message_Check.f k bt441.1 bt441.2.1 bt441.2.2.1 bt441.2.2.2.1 bt441.2.2.2.2.1 bt441.2.2.2.2.2.1 bt441.2.2.2.2.2.2.1 bt441.2.2.2.2.2.2.2.1 bt441.2.2.2.2.2.2.2.2.1 bt441.2.2.2.2.2.2.2.2.2.1).bind fun t455 => (some (t455 == 0))) else (some false)) else (some false)) else (some false))) else (if x3 = true then (if bt441.2.2.2.2.2.2.2.2.2.2 = 12 then (some (bt441.1 == 0 && ((bt441.2.1 == 0 && (bt441.2.2.1 == 0 && (bt441.2.2.2.1 == 0))) && (bt441.2.2.2.2.1 == 0 && ((bt441.2.2.2.2.2.1 == 0 && ((bt441.2.2.2.2.2.2.1 == 0 && (bt441.2.2.2.2.2.2.2.1 == 0)) && ((bt441.2.2.2.2.2.2.2.2.1 == 0 && (bt441.2.2.2.2.2.2.2.2.2.1 == 0)))))))))) else (some false)) else (some false))))
def tailwaterlaw25_MessageBack.f (k : Nat) (a0 : ByteArray) : Option (Bool) := (tailwaterlaw25_alive.f k).bind fun t440 => (if (a0.size : Int) > 200 then (tailwaterlaw25_MessageBack.j0 k a0 t440 true) else (tailwaterlaw25_MessageBack.j0 k a0 t440 (!t440)))
theorem tailwaterlaw25_MessageBack.mono_l : ∀ k, (∀ y0 y1 y2, LeO (tailwaterlaw25_MessageBack.j0 k y0 y1 y2) (tailwaterlaw25_MessageBack.j0 (k + 1) y0 y1 y2))
  | 0 => fun _ _ _ r h => by simp [tailwaterlaw25_MessageBack.j0] at h
  | k + 1 => by
    have ih0 := tailwaterlaw25_MessageBack.mono_l k
    · intro y0 y1 y2
      unfold tailwaterlaw25_MessageBack.j0
      repeat' first
      | (with_reducible exact ih0 _ _ _)
      | (with_reducible exact message_Check.mono _ _ _ _ _ _ _ _ _ _ _)
      | (with_reducible exact message_Read.mono _ _)
      | (with_reducible exact message_Text.mono _ _ _ _ _ _ _ _ _ _ _)
      | (with_reducible exact tailwaterlaw25_alive.mono _)
      | (with_reducible exact LeO.refl _)
      | (with_reducible exact LeO.none _)
      | (with_reducible refine LeO.ite ?_ ?_)
      | (with_reducible refine LeO.bind ?_ (fun _ => ?_))
      | exact ih0 _ _ _
      | exact message_Check.mono _ _ _ _ _ _ _ _ _ _ _
      | exact message_Read.mono _ _
      | exact message_Text.mono _ _ _ _ _ _ _ _ _ _ _
      | exact tailwaterlaw25_alive.mono _
      | exact LeO.none _
      | refine LeO.ite ?_ ?_
      | refine LeO.bind ?_ (fun _ => ?_)
theorem tailwaterlaw25_MessageBack.mono : ∀ a0 k, LeO (tailwaterlaw25_MessageBack.f k a0) (tailwaterlaw25_MessageBack.f (k + 1) a0) := by
  intro a0 k
  have ih0 := tailwaterlaw25_MessageBack.mono_l k
  unfold tailwaterlaw25_MessageBack.f
  repeat' first
      | (with_reducible exact ih0 _ _ _)
      | (with_reducible exact message_Check.mono _ _ _ _ _ _ _ _ _ _ _)
      | (with_reducible exact message_Read.mono _ _)
      | (with_reducible exact message_Text.mono _ _ _ _ _ _ _ _ _ _ _)
      | (with_reducible exact tailwaterlaw25_alive.mono _)
      | (with_reducible exact LeO.refl _)
      | (with_reducible exact LeO.none _)
      | (with_reducible refine LeO.ite ?_ ?_)
      | (with_reducible refine LeO.bind ?_ (fun _ => ?_))
      | exact ih0 _ _ _
      | exact message_Check.mono _ _ _ _ _ _ _ _ _ _ _
      | exact message_Read.mono _ _
      | exact message_Text.mono _ _ _ _ _ _ _ _ _ _ _
      | exact tailwaterlaw25_alive.mono _
      | exact LeO.none _
      | refine LeO.ite ?_ ?_
      | refine LeO.bind ?_ (fun _ => ?_)
set_option maxHeartbeats 8000000 in
set_option maxRecDepth 100000 in
theorem tailwaterlaw25_MessageBack.calls (k : Nat) (a0 : ByteArray) (w : World) (hT : TabG w) (h : tailwaterlaw25_MessageBack.f k a0 = some true) :
    Calls Tryd.prog 14 #[.string a0] w fun e w' => e = .returned (.bool true) ∧ Below w.heap.size w w' := by
  have hu31 := Tryd.underlying31
  have HB := Aside0.mk (Below.refl w.heap.size w)
  have HT0 := Aside0.mk hT
  clear hT
  have H : ((tailwaterlaw25_alive.f k).bind fun t440 => (if (a0.size : Int) > 200 then (tailwaterlaw25_MessageBack.j0 k a0 t440 true) else (tailwaterlaw25_MessageBack.j0 k a0 t440 (!t440)))) = some true := h
  clear h
  replace H := Option.bind_eq_some_iff.mp H
  obtain ⟨t440, A20, H⟩ := H
  replace H : (if (a0.size : Int) > 200 then (tailwaterlaw25_MessageBack.j0 k a0 t440 true) else (tailwaterlaw25_MessageBack.j0 k a0 t440 (!t440))) = some true := H
  have A2 := Aside0.mk A20
  clear A20
  have HC3 := Aside0.mk H
  clear H
  go_enter Tryd.func14, Tryd.ntmps14
  go_upto_region 2 with (first | ((with_reducible refine gate_callee (f := 21) rfl ?_); refine goesL_ (some 8) rfl rfl Tryd.func21 (by kernel_rfl) rfl #[] rfl (by (try simp only [List.map_toArray, List.map_cons, List.map_nil]); first | done | rfl | (simp only [List.length_drop, List.length_take]; rfl)) ?_; (with_reducible refine (tailwaterlaw25_alive.calls k  t440 _ ?side1 A2.out).mono ?_); (case side1 => exact TabG.below HT0.out (by repeat (first | (with_reducible first | exact HB.out | apply below_alloc | apply pw_below_drewN | apply below_drew1) | exact HB.out))); rintro e w4 ⟨rfl, hb⟩; refine ⟨_, rfl, ?_⟩; have n0_ := Aside0.mk (below_step (by repeat (first | (with_reducible first | exact HB.out | apply below_alloc | apply pw_below_drewN | apply below_drew1) | exact HB.out)) hb); clear HB; have HB := n0_; clear n0_; (try clear hb); (try clear hb2); (try clear hk); (try clear hi)))
  (try simp only [Act.put, List.setIfInBounds_toArray, List.set_cons_zero, List.set_cons_succ])
  go_cut [15] (fun v15 wc => ∃ (kq : Nat) (x15_2 : Bool), v15 = .bool x15_2 ∧ Aside0 (tailwaterlaw25_MessageBack.j0 kq a0 t440 x15_2 = some true) ∧ Aside0 (kq ≤ k) ∧ Aside0 (Below w.heap.size w wc))
  case first =>
    have H := HC3.out
    clear HC3
    by_cases c5 : (a0.size : Int) > 200
    · rw [if_pos c5] at H
      have c5b0 : decide (200 < (a0.size : Int)) = true := decide_eq_true c5
      have c5b1 : decide (200 < a0.size) = true := decide_eq_true (by omega)
      clear c5
      (first | rw [c5b0] | (simp only [i64_w, i32_w]; rw [c5b0]) | skip)
      have H' := Aside0.mk H
      clear H
      go_wp2
      go_meet
      case rel => exact ⟨_, (true), (by first | rfl | (simp; done) | (simp [*]; done)), H', ⟨by first | omega | exact Nat.le_refl _⟩, ⟨by repeat (first | (with_reducible first | exact HB.out | apply below_alloc | apply pw_below_drewN | apply below_drew1) | exact HB.out)⟩⟩
    · rw [if_neg c5] at H
      have c5b0 : decide (200 < (a0.size : Int)) = false := decide_eq_false c5
      have c5b1 : decide (200 < a0.size) = false := decide_eq_false (by omega)
      clear c5
      (first | rw [c5b0] | (simp only [i64_w, i32_w]; rw [c5b0]) | skip)
      have H' := Aside0.mk H
      clear H
      go_wp2
      go_meet
      case rel => exact ⟨_, (!t440), (by first | rfl | (simp; done) | (simp [*]; done)), H', ⟨by first | omega | exact Nat.le_refl _⟩, ⟨by repeat (first | (with_reducible first | exact HB.out | apply below_alloc | apply pw_below_drewN | apply below_drew1) | exact HB.out)⟩⟩
  case rest =>
    clear HC3
    try clear c1
    try clear c2
    try clear p2
    try clear c5
    try clear c5b0
    try clear c5b1
    obtain ⟨kq, x15_2, rfl, HA, HJ2, HB⟩ := hcut
    cases kq with
    | zero => exact absurd HA.out (by simp [tailwaterlaw25_MessageBack.j0])
    | succ kj2 =>
      have H := HA.out
      clear HA
      simp only [tailwaterlaw25_MessageBack.j0] at H
      by_cases c6 : x15_2 = true
      · subst c6
        have H1 : (some t440) = some true := by rw [if_pos rfl] at H; exact H
        clear H
        have H := H1
        clear H1
        have HE := Aside0.mk (Option.some.inj H)
        clear H
        go_wp2
        go_ret
        exact ⟨by first | rfl | exact congrArg (fun b_ : Bool => Ending.returned (.bool b_)) HE.out | ((try simp only [Bool.not_not] at HE); exact congrArg (fun b_ : Bool => Ending.returned (.bool b_)) HE.out) | (have h_ := HE.out; simp at h_ ⊢; simp [*]), by repeat (first | (with_reducible first | exact HB.out | apply below_alloc | apply pw_below_drewN | apply below_drew1) | exact HB.out)⟩
      · replace c6 := Bool.eq_false_iff.mpr c6
        subst c6
        have H1 : ((message_Read.f kj2 a0).bind fun bt441 => (if bt441.2.2.2.2.2.2.2.2.2.2 = 0 then ((message_Text.f kj2 bt441.1 bt441.2.1 bt441.2.2.1 bt441.2.2.2.1 bt441.2.2.2.2.1 bt441.2.2.2.2.2.1 bt441.2.2.2.2.2.2.1 bt441.2.2.2.2.2.2.2.1 bt441.2.2.2.2.2.2.2.2.1 bt441.2.2.2.2.2.2.2.2.2.1).bind fun bt453 => (if t440 = true then (if bt453.2 = 0 then (if a0.toList = bt453.1.toList then ((message_Check.f kj2 bt441.1 bt441.2.1 bt441.2.2.1 bt441.2.2.2.1 bt441.2.2.2.2.1 bt441.2.2.2.2.2.1 bt441.2.2.2.2.2.2.1 bt441.2.2.2.2.2.2.2.1 bt441.2.2.2.2.2.2.2.2.1 bt441.2.2.2.2.2.2.2.2.2.1).bind fun t455 => (some (t455 == 0))) else (some false)) else (some false)) else (some false))) else (if t440 = true then (if bt441.2.2.2.2.2.2.2.2.2.2 = 12 then (some (bt441.1 == 0 && ((bt441.2.1 == 0 && (bt441.2.2.1 == 0 && (bt441.2.2.2.1 == 0))) && (bt441.2.2.2.2.1 == 0 && ((bt441.2.2.2.2.2.1 == 0 && ((bt441.2.2.2.2.2.2.1 == 0 && (bt441.2.2.2.2.2.2.2.1 == 0)) && ((bt441.2.2.2.2.2.2.2.2.1 == 0 && (bt441.2.2.2.2.2.2.2.2.2.1 == 0)))))))))) else (some false)) else (some false)))) = some true := by rw [if_neg (show ¬ (false = true) by decide)] at H; exact H
        clear H
        have H := H1
        clear H1
        replace H := Option.bind_eq_some_iff.mp H
        obtain ⟨⟨t441, t442, t443, t444, t445, t446, t447, t448, t449, t450, t451⟩, A70, H⟩ := H
        replace H : (if t451 = 0 then ((message_Text.f kj2 t441 t442 t443 t444 t445 t446 t447 t448 t449 t450).bind fun bt453 => (if t440 = true then (if bt453.2 = 0 then (if a0.toList = bt453.1.toList then ((message_Check.f kj2 t441 t442 t443 t444 t445 t446 t447 t448 t449 t450).bind fun t455 => (some (t455 == 0))) else (some false)) else (some false)) else (some false))) else (if t440 = true then (if t451 = 12 then (some (t441 == 0 && ((t442 == 0 && (t443 == 0 && (t444 == 0))) && (t445 == 0 && ((t446 == 0 && ((t447 == 0 && (t448 == 0)) && ((t449 == 0 && (t450 == 0)))))))))) else (some false)) else (some false))) = some true := H
        have A7 := Aside0.mk A70
        clear A70
        by_cases c8 : t451 = 0
        · rw [if_pos c8] at H
          have c8b0 : (t451 == 0) = true := beq_iff_eq.mpr c8
          have c8b1 : (t451 != 0) = false := bne_eq_false_iff_eq.mpr c8
          clear c8
          replace H := Option.bind_eq_some_iff.mp H
          obtain ⟨⟨t453, t454⟩, A90, H⟩ := H
          replace H : (if t440 = true then (if t454 = 0 then (if a0.toList = t453.toList then ((message_Check.f kj2 t441 t442 t443 t444 t445 t446 t447 t448 t449 t450).bind fun t455 => (some (t455 == 0))) else (some false)) else (some false)) else (some false)) = some true := H
          have A9 := Aside0.mk A90
          clear A90
          by_cases c10 : t440 = true
          · subst c10
            have H1 : (if t454 = 0 then (if a0.toList = t453.toList then ((message_Check.f kj2 t441 t442 t443 t444 t445 t446 t447 t448 t449 t450).bind fun t455 => (some (t455 == 0))) else (some false)) else (some false)) = some true := by rw [if_pos rfl] at H; exact H
            clear H
            have H := H1
            clear H1
            by_cases c11 : t454 = 0
            · rw [if_pos c11] at H
              have c11b0 : (t454 == 0) = true := beq_iff_eq.mpr c11
              have c11b1 : (t454 != 0) = false := bne_eq_false_iff_eq.mpr c11
              clear c11
              by_cases c12 : a0.toList = t453.toList
              · rw [if_pos c12] at H
                have c12b0 : (a0.toList == t453.toList) = true := beq_iff_eq.mpr c12
                have c12b1 : (a0.toList != t453.toList) = false := bne_eq_false_iff_eq.mpr c12
                clear c12
                replace H := Option.bind_eq_some_iff.mp H
                obtain ⟨t455, A130, H⟩ := H
                replace H : (some (t455 == 0)) = some true := H
                have A13 := Aside0.mk A130
                clear A130
                have HE := Aside0.mk (Option.some.inj H)
                clear H
                go_wp2_with (first | ((with_reducible refine gate_callee (f := 32) rfl ?_); refine goesL_ (some 19) rfl rfl Tryd.func32 (by kernel_rfl) rfl #[.string a0] rfl (by (try simp only [List.map_toArray, List.map_cons, List.map_nil]); first | done | rfl | (simp only [List.length_drop, List.length_take]; rfl)) ?_; (with_reducible refine (message_Read.calls kj2 a0 t441 t442 t443 t444 t445 t446 t447 t448 t449 t450 t451 _ ?side1 A7.out).mono ?_); (case side1 => exact TabG.below HT0.out (by repeat (first | (with_reducible first | exact HB.out | apply below_alloc | apply pw_below_drewN | apply below_drew1) | exact HB.out))); rintro e w14 ⟨rfl, hb⟩; refine ⟨_, rfl, ?_⟩; have n0_ := Aside0.mk (below_step (by repeat (first | (with_reducible first | exact HB.out | apply below_alloc | apply pw_below_drewN | apply below_drew1) | exact HB.out)) hb); clear HB; have HB := n0_; clear n0_; (try clear hb); (try clear hb2); (try clear hk); (try clear hi)) | ((with_reducible refine gate_dst (N := 4) rfl ?_); refine box_event ?hg (N := 4) ?hd (cs := #[.int .u8 0, .int .i64 0, .int .i64 0, .int .i64 0, .int .i64 0, .int .i64 0, .int .i64 0, .int .i64 0, .int .i64 0, .int .i64 0]) (t := 31) ?hr ?_; (case hd => rfl); (case hg => rfl); (case hr => first | (go_simp; done) | (go_simp; rfl)); intro gb452 hg w15 hbox hb; have n0_ := Aside0.mk (below_step (by repeat (first | (with_reducible first | exact HB.out | apply below_alloc | apply pw_below_drewN | apply below_drew1) | exact HB.out)) hb); have n1_ := Aside0.mk (hbox); have n2_ := Aside0.mk ((by rw [hg]; exact (below_size (by repeat (first | (with_reducible first | exact HB.out | apply below_alloc | apply pw_below_drewN | apply below_drew1) | exact HB.out))) : w.heap.size ≤ gb452)); have n3_ := Aside0.mk ((by rw [hg]; exact (below_size (by repeat (first | (with_reducible first | exact HB.out | apply below_alloc | apply pw_below_drewN | apply below_drew1) | exact HB.out))) : w.heap.size ≤ gb452)); clear HB; have HB := n0_; have BK452 := n1_; have GW452 := n2_; have GE452 := n3_; clear n0_ n1_ n2_ n3_; clear hb hbox hg; obtain ⟨hcz16_0, hcz16_1, hcz16_2, hcz16_3, hcz16_4, hcz16_5, hcz16_6, hcz16_7, hcz16_8, hcz16_9⟩ := cells10 BK452.out; obtain ⟨hfz16_0, hfz16_1, hfz16_2, hfz16_3, hfz16_4, hfz16_5, hfz16_6, hfz16_7, hfz16_8, hfz16_9⟩ := froz10 BK452.out) | ((with_reducible refine gate_callee (f := 23) rfl ?_); refine goesL_ (some 36) rfl rfl Tryd.func23 (by kernel_rfl) rfl #[.agg #[.int .u8 t441, .int .i64 t442, .int .i64 t443, .int .i64 t444, .int .i64 t445, .int .i64 t446, .int .i64 t447, .int .i64 t448, .int .i64 t449, .int .i64 t450]] rfl (by (try simp only [List.map_toArray, List.map_cons, List.map_nil]); first | done | rfl | (simp only [List.length_drop, List.length_take]; rfl)) ?_; (with_reducible refine (message_Text.calls kj2 t441 t442 t443 t444 t445 t446 t447 t448 t449 t450 t453 t454 _ ?side1 A9.out).mono ?_); (case side1 => exact (TabG.below HT0.out (by repeat (first | (with_reducible first | exact HB.out | apply below_alloc | apply pw_below_drewN | apply below_drew1 | refine below_set ?_ GE452.out) | exact HB.out))).tab); rintro e w17 ⟨rfl, hb⟩; refine ⟨_, rfl, ?_⟩; have n0_ := Aside0.mk (blk_below (g := gb452) (o := .cells #[.int .u8 t441, .int .i64 t442, .int .i64 t443, .int .i64 t444, .int .i64 t445, .int .i64 t446, .int .i64 t447, .int .i64 t448, .int .i64 t449, .int .i64 t450] 31 (0, 0)) (by (with_reducible repeat (first | refine blk_drewN ?_ _ | refine blk_drew ?_ | refine blk_alloc ?_ _)); refine blk_put (cs := #[.int .u8 t441, .int .i64 t442, .int .i64 t443, .int .i64 t444, .int .i64 t445, .int .i64 t446, .int .i64 t447, .int .i64 t448, .int .i64 t449, .int .i64 0]) ?_ 9 _ rfl; (with_reducible repeat (first | refine blk_drewN ?_ _ | refine blk_drew ?_ | refine blk_alloc ?_ _)); refine blk_put (cs := #[.int .u8 t441, .int .i64 t442, .int .i64 t443, .int .i64 t444, .int .i64 t445, .int .i64 t446, .int .i64 t447, .int .i64 t448, .int .i64 0, .int .i64 0]) ?_ 8 _ rfl; (with_reducible repeat (first | refine blk_drewN ?_ _ | refine blk_drew ?_ | refine blk_alloc ?_ _)); refine blk_put (cs := #[.int .u8 t441, .int .i64 t442, .int .i64 t443, .int .i64 t444, .int .i64 t445, .int .i64 t446, .int .i64 t447, .int .i64 0, .int .i64 0, .int .i64 0]) ?_ 7 _ rfl; (with_reducible repeat (first | refine blk_drewN ?_ _ | refine blk_drew ?_ | refine blk_alloc ?_ _)); refine blk_put (cs := #[.int .u8 t441, .int .i64 t442, .int .i64 t443, .int .i64 t444, .int .i64 t445, .int .i64 t446, .int .i64 0, .int .i64 0, .int .i64 0, .int .i64 0]) ?_ 6 _ rfl; (with_reducible repeat (first | refine blk_drewN ?_ _ | refine blk_drew ?_ | refine blk_alloc ?_ _)); refine blk_put (cs := #[.int .u8 t441, .int .i64 t442, .int .i64 t443, .int .i64 t444, .int .i64 t445, .int .i64 0, .int .i64 0, .int .i64 0, .int .i64 0, .int .i64 0]) ?_ 5 _ rfl; (with_reducible repeat (first | refine blk_drewN ?_ _ | refine blk_drew ?_ | refine blk_alloc ?_ _)); refine blk_put (cs := #[.int .u8 t441, .int .i64 t442, .int .i64 t443, .int .i64 t444, .int .i64 0, .int .i64 0, .int .i64 0, .int .i64 0, .int .i64 0, .int .i64 0]) ?_ 4 _ rfl; (with_reducible repeat (first | refine blk_drewN ?_ _ | refine blk_drew ?_ | refine blk_alloc ?_ _)); refine blk_put (cs := #[.int .u8 t441, .int .i64 t442, .int .i64 t443, .int .i64 0, .int .i64 0, .int .i64 0, .int .i64 0, .int .i64 0, .int .i64 0, .int .i64 0]) ?_ 3 _ rfl; (with_reducible repeat (first | refine blk_drewN ?_ _ | refine blk_drew ?_ | refine blk_alloc ?_ _)); refine blk_put (cs := #[.int .u8 t441, .int .i64 t442, .int .i64 0, .int .i64 0, .int .i64 0, .int .i64 0, .int .i64 0, .int .i64 0, .int .i64 0, .int .i64 0]) ?_ 2 _ rfl; (with_reducible repeat (first | refine blk_drewN ?_ _ | refine blk_drew ?_ | refine blk_alloc ?_ _)); refine blk_put (cs := #[.int .u8 t441, .int .i64 0, .int .i64 0, .int .i64 0, .int .i64 0, .int .i64 0, .int .i64 0, .int .i64 0, .int .i64 0, .int .i64 0]) ?_ 1 _ rfl; (with_reducible repeat (first | refine blk_drewN ?_ _ | refine blk_drew ?_ | refine blk_alloc ?_ _)); refine blk_put (cs := #[.int .u8 0, .int .i64 0, .int .i64 0, .int .i64 0, .int .i64 0, .int .i64 0, .int .i64 0, .int .i64 0, .int .i64 0, .int .i64 0]) ?_ 0 _ rfl; (with_reducible repeat (first | refine blk_drewN ?_ _ | refine blk_drew ?_ | refine blk_alloc ?_ _)); exact BK452.out) hb); have n1_ := Aside0.mk (below_step (by repeat (first | (with_reducible first | exact HB.out | apply below_alloc | apply pw_below_drewN | apply below_drew1 | refine below_set ?_ GE452.out) | exact HB.out)) hb); clear BK452; clear HB; have BK452 := n0_; have HB := n1_; clear n0_ n1_; (try clear hb); (try clear hb2); (try clear hk); (try clear hi); obtain ⟨hcz18_0, hcz18_1, hcz18_2, hcz18_3, hcz18_4, hcz18_5, hcz18_6, hcz18_7, hcz18_8, hcz18_9⟩ := cells10 BK452.out; obtain ⟨hfz18_0, hfz18_1, hfz18_2, hfz18_3, hfz18_4, hfz18_5, hfz18_6, hfz18_7, hfz18_8, hfz18_9⟩ := froz10 BK452.out) | (go_at_call 22; (with_reducible refine (message_Check.calls kj2 t441 t442 t443 t444 t445 t446 t447 t448 t449 t450 t455 _ A13.out).mono ?_); rintro e w19 ⟨rfl, hb⟩; have n0_ := Aside0.mk (blk_below (g := gb452) (o := .cells #[.int .u8 t441, .int .i64 t442, .int .i64 t443, .int .i64 t444, .int .i64 t445, .int .i64 t446, .int .i64 t447, .int .i64 t448, .int .i64 t449, .int .i64 t450] 31 (0, 0)) (by (with_reducible repeat (first | refine blk_drewN ?_ _ | refine blk_drew ?_ | refine blk_alloc ?_ _)); exact BK452.out) hb); have n1_ := Aside0.mk (below_step (by repeat (first | (with_reducible first | exact HB.out | apply below_alloc | apply pw_below_drewN | apply below_drew1 | refine below_set ?_ GE452.out) | exact HB.out)) hb); clear BK452; clear HB; have BK452 := n0_; have HB := n1_; clear n0_ n1_; (try clear hb); (try clear hb2); (try clear hk); (try clear hi)))
                go_ret
                exact ⟨by first | rfl | exact congrArg (fun b_ : Bool => Ending.returned (.bool b_)) HE.out | ((try simp only [Bool.not_not] at HE); exact congrArg (fun b_ : Bool => Ending.returned (.bool b_)) HE.out) | (have h_ := HE.out; simp at h_ ⊢; simp [*]), by repeat (first | (with_reducible first | exact HB.out | apply below_alloc | apply pw_below_drewN | apply below_drew1 | refine below_set ?_ GE452.out) | exact HB.out)⟩
              · rw [if_neg c12] at H
                have c12b0 : (a0.toList == t453.toList) = false := beq_eq_false_iff_ne.mpr c12
                have c12b1 : (a0.toList != t453.toList) = true := bne_iff_ne.mpr c12
                exact absurd H (by simp)
            · rw [if_neg c11] at H
              have c11b0 : (t454 == 0) = false := beq_eq_false_iff_ne.mpr c11
              have c11b1 : (t454 != 0) = true := bne_iff_ne.mpr c11
              exact absurd H (by simp)
          · replace c10 := Bool.eq_false_iff.mpr c10
            subst c10
            have H1 : (some false) = some true := by rw [if_neg (show ¬ (false = true) by decide)] at H; exact H
            clear H
            have H := H1
            clear H1
            exact absurd H (by simp)
        · rw [if_neg c8] at H
          have c8b0 : (t451 == 0) = false := beq_eq_false_iff_ne.mpr c8
          have c8b1 : (t451 != 0) = true := bne_iff_ne.mpr c8
          by_cases c20 : t440 = true
          · subst c20
            have H1 : (if t451 = 12 then (some (t441 == 0 && ((t442 == 0 && (t443 == 0 && (t444 == 0))) && (t445 == 0 && ((t446 == 0 && ((t447 == 0 && (t448 == 0)) && ((t449 == 0 && (t450 == 0)))))))))) else (some false)) = some true := by rw [if_pos rfl] at H; exact H
            clear H
            have H := H1
            clear H1
            by_cases c21 : t451 = 12
            · rw [if_pos c21] at H
              have c21b0 : (t451 == 12) = true := beq_iff_eq.mpr c21
              have c21b1 : (t451 != 12) = false := bne_eq_false_iff_eq.mpr c21
              clear c21
              have HE := Aside0.mk (Option.some.inj H)
              clear H
              go_wp2_with (first | ((with_reducible refine gate_callee (f := 32) rfl ?_); refine goesL_ (some 19) rfl rfl Tryd.func32 (by kernel_rfl) rfl #[.string a0] rfl (by (try simp only [List.map_toArray, List.map_cons, List.map_nil]); first | done | rfl | (simp only [List.length_drop, List.length_take]; rfl)) ?_; (with_reducible refine (message_Read.calls kj2 a0 t441 t442 t443 t444 t445 t446 t447 t448 t449 t450 t451 _ ?side1 A7.out).mono ?_); (case side1 => exact TabG.below HT0.out (by repeat (first | (with_reducible first | exact HB.out | apply below_alloc | apply pw_below_drewN | apply below_drew1) | exact HB.out))); rintro e w22 ⟨rfl, hb⟩; refine ⟨_, rfl, ?_⟩; have n0_ := Aside0.mk (below_step (by repeat (first | (with_reducible first | exact HB.out | apply below_alloc | apply pw_below_drewN | apply below_drew1) | exact HB.out)) hb); clear HB; have HB := n0_; clear n0_; (try clear hb); (try clear hb2); (try clear hk); (try clear hi)) | ((with_reducible refine gate_dst (N := 4) rfl ?_); refine box_event ?hg (N := 4) ?hd (cs := #[.int .u8 0, .int .i64 0, .int .i64 0, .int .i64 0, .int .i64 0, .int .i64 0, .int .i64 0, .int .i64 0, .int .i64 0, .int .i64 0]) (t := 31) ?hr ?_; (case hd => rfl); (case hg => rfl); (case hr => first | (go_simp; done) | (go_simp; rfl)); intro gb452 hg w23 hbox hb; have n0_ := Aside0.mk (below_step (by repeat (first | (with_reducible first | exact HB.out | apply below_alloc | apply pw_below_drewN | apply below_drew1) | exact HB.out)) hb); have n1_ := Aside0.mk (hbox); have n2_ := Aside0.mk ((by rw [hg]; exact (below_size (by repeat (first | (with_reducible first | exact HB.out | apply below_alloc | apply pw_below_drewN | apply below_drew1) | exact HB.out))) : w.heap.size ≤ gb452)); have n3_ := Aside0.mk ((by rw [hg]; exact (below_size (by repeat (first | (with_reducible first | exact HB.out | apply below_alloc | apply pw_below_drewN | apply below_drew1) | exact HB.out))) : w.heap.size ≤ gb452)); clear HB; have HB := n0_; have BK452 := n1_; have GW452 := n2_; have GE452 := n3_; clear n0_ n1_ n2_ n3_; clear hb hbox hg; obtain ⟨hcz24_0, hcz24_1, hcz24_2, hcz24_3, hcz24_4, hcz24_5, hcz24_6, hcz24_7, hcz24_8, hcz24_9⟩ := cells10 BK452.out; obtain ⟨hfz24_0, hfz24_1, hfz24_2, hfz24_3, hfz24_4, hfz24_5, hfz24_6, hfz24_7, hfz24_8, hfz24_9⟩ := froz10 BK452.out))
              go_ret
              exact ⟨by first | rfl | exact congrArg (fun b_ : Bool => Ending.returned (.bool b_)) HE.out | ((try simp only [Bool.not_not] at HE); exact congrArg (fun b_ : Bool => Ending.returned (.bool b_)) HE.out) | (have h_ := HE.out; simp at h_ ⊢; simp [*]), by repeat (first | (with_reducible first | exact HB.out | apply below_alloc | apply pw_below_drewN | apply below_drew1 | refine below_set ?_ GE452.out) | exact HB.out)⟩
            · rw [if_neg c21] at H
              have c21b0 : (t451 == 12) = false := beq_eq_false_iff_ne.mpr c21
              have c21b1 : (t451 != 12) = true := bne_iff_ne.mpr c21
              exact absurd H (by simp)
          · replace c20 := Bool.eq_false_iff.mpr c20
            subst c20
            have H1 : (some false) = some true := by rw [if_neg (show ¬ (false = true) by decide)] at H; exact H
            clear H
            have H := H1
            clear H1
            exact absurd H (by simp)

/-- THE ONE PURE STATEMENT of tailwaterlaw25_MessageBack: yours. -/
def tailwaterlaw25_MessageBack.Pure : Prop := ∀ (a0 : ByteArray), a0.size ≤ 140737488351232 → ∃ k, tailwaterlaw25_MessageBack.f k a0 = some true
theorem tailwaterlaw25_MessageBack.walk (P : tailwaterlaw25_MessageBack.Pure) (a0 : ByteArray) (w : World) (w0 : a0.size ≤ 140737488351232)  (hT : TabG w) :
    Calls Tryd.prog 14 #[.string a0] w fun e w' => e = .returned (.bool true) ∧ Below w.heap.size w w' := by
  obtain ⟨k, h⟩ := P a0 w0
  refine (tailwaterlaw25_MessageBack.calls k a0 w hT h).mono ?_
  rintro e w' ⟨rfl, hd⟩
  exact ⟨rfl, hd⟩

end Go.Proofs.YtdcigijklknjaaaDoor.Mw

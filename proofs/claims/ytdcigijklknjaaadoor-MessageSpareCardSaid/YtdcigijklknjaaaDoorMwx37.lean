/- Each theorem X.calls below says: where the Lean function X.f answers, the Go function X returns that answer, and whatever lay in memory before the call is left as it was. -/
import Derived.Test.YtdcigijklknjaaaDoorMwa
import Derived.Test.YtdcigijklknjaaaDoorMwc
import Derived.Test.YtdcigijklknjaaaDoorMwd
namespace Go.Proofs.YtdcigijklknjaaaDoor.Mw
open Go.RowKit Go.Proofs.YtdcigijklknjaaaDoorW.PrintWords Go.Proofs.YtdcigijklknjaaaDoorW.PrintLast Go.Proofs.YtdcigijklknjaaaDoorW.PrintMore
attribute [local go_sem] max2_int min2_int max_two min_two max_three min_three max_four min_four   -- for this text's walks alone
set_option linter.unusedVariables false
set_option linter.unusedSimpArgs false

/-! ### tailwaterlaw25_MessageSpare: function 15 -/
mutual
def tailwaterlaw25_MessageSpare.j0 : Nat → Int → Bool → Bool → Int → Int → Int → Int → Int → Int → Int → Int → Int → Int → Option (Bool)
  | 0, _, _, _, _, _, _, _, _, _, _, _, _, _ => none
  | k + 1, x1, x5, x20, x455000, x455001, x455002, x455003, x455004, x455005, x455006, x455007, x455008, x455009 => if x20 = true then (some x5) else (if x455000 = 2 then (if x455000 = 1 then (tailwaterlaw25_MessageSpare.j1 k x5 false x455000 x455001 x455002 x455003 x455004 x455005 x455006 x455007 x455008 x455009 x455000 x455001 x455002 x455003 x455004 x1 x455006 x455007 x455008 x455009) else (if x455000 = 4 then (tailwaterlaw25_MessageSpare.j1 k x5 false x455000 x455001 x455002 x455003 x455004 x455005 x455006 x455007 x455008 x455009 x455000 x455001 x455002 x455003 x455004 x1 x455006 x455007 x455008 x455009) else ((tailwaterlaw25_bad.f k x455000 x1 x455002 x455003 x455004 x455005 x455006 x455007 x455008 x455009).bind fun t460 => (tailwaterlaw25_MessageSpare.j1 k x5 (!t460) x455000 x455001 x455002 x455003 x455004 x455005 x455006 x455007 x455008 x455009 x455000 x455001 x455002 x455003 x455004 x1 x455006 x455007 x455008 x455009)))) else ((tailwaterlaw25_bad.f k x455000 x455001 x455002 x455003 x1 x455005 x455006 x455007 x455008 x455009).bind fun t461 => (if t461 = true then (if x455000 = 1 then (tailwaterlaw25_MessageSpare.j1 k x5 false x455000 x455001 x455002 x455003 x455004 x455005 x455006 x455007 x455008 x455009 x455000 x455001 x455002 x455003 x455004 x1 x455006 x455007 x455008 x455009) else (if x455000 = 4 then (tailwaterlaw25_MessageSpare.j1 k x5 false x455000 x455001 x455002 x455003 x455004 x455005 x455006 x455007 x455008 x455009 x455000 x455001 x455002 x455003 x455004 x1 x455006 x455007 x455008 x455009) else ((tailwaterlaw25_bad.f k x455000 x1 x455002 x455003 x455004 x455005 x455006 x455007 x455008 x455009).bind fun t462 => (tailwaterlaw25_MessageSpare.j1 k x5 (!t462) x455000 x455001 x455002 x455003 x455004 x455005 x455006 x455007 x455008 x455009 x455000 x455001 x455002 x455003 x455004 x1 x455006 x455007 x455008 x455009)))) else (tailwaterlaw25_MessageSpare.j1 k x5 true x455000 x455001 x455002 x455003 x455004 x455005 x455006 x455007 x455008 x455009 x455000 x455001 x455002 x455003 x455004 x1 x455006 x455007 x455008 x455009))))
def tailwaterlaw25_MessageSpare.j1 : Nat → Bool → Bool → Int → Int → Int → Int → Int → Int → Int → Int → Int → Int → Int → Int → Int → Int → Int → Int → Int → Int → Int → Int → Option (Bool)
  | 0, _, _, _, _, _, _, _, _, _, _, _, _, _, _, _, _, _, _, _, _, _, _ => none
  | k + 1, x5, x55, x455000, x455001, x455002, x455003, x455004, x455005, x455006, x455007, x455008, x455009, x460000, x460001, x460002, x460003, x460004, x460005, x460006, x460007, x460008, x460009 => if x55 = true then (some false) else (if x5 = true then (if x455000 = 3 then (some true) else ((tailwaterlaw25_bad.f k x460000 x460001 x460002 x460003 x460004 x460005 x460006 x460007 x460008 x460009).bind fun t463 => (some t463))) else (some false))
end
def tailwaterlaw25_MessageSpare.f (k : Nat) (a0_0 : Int) (a0_1 : Int) (a0_2 : Int) (a0_3 : Int) (a0_4 : Int) (a0_5 : Int) (a0_6 : Int) (a0_7 : Int) (a0_8 : Int) (a0_9 : Int) (a1 : Int) : Option (Bool) := (tailwaterlaw25_alive.f k).bind fun t455 => ((tailwaterref25_Check.f k a0_0 a0_1 a0_2 a0_3 a0_4 a0_5 a0_6 a0_7 a0_8 a0_9).bind fun t456 => (if t456 = 0 then (if a1 = 0 then (tailwaterlaw25_MessageSpare.j0 k a1 t455 true a0_0 a0_1 a0_2 a0_3 a0_4 a0_5 a0_6 a0_7 a0_8 a0_9) else (tailwaterlaw25_MessageSpare.j0 k a1 t455 (!t455) a0_0 a0_1 a0_2 a0_3 a0_4 a0_5 a0_6 a0_7 a0_8 a0_9)) else (tailwaterlaw25_MessageSpare.j0 k a1 t455 true a0_0 a0_1 a0_2 a0_3 a0_4 a0_5 a0_6 a0_7 a0_8 a0_9)))
theorem tailwaterlaw25_MessageSpare.mono_l : ∀ k, (∀ y0 y1 y2 y3 y4 y5 y6 y7 y8 y9 y10 y11 y12, LeO (tailwaterlaw25_MessageSpare.j0 k y0 y1 y2 y3 y4 y5 y6 y7 y8 y9 y10 y11 y12) (tailwaterlaw25_MessageSpare.j0 (k + 1) y0 y1 y2 y3 y4 y5 y6 y7 y8 y9 y10 y11 y12)) ∧ (∀ y0 y1 y2 y3 y4 y5 y6 y7 y8 y9 y10 y11 y12 y13 y14 y15 y16 y17 y18 y19 y20 y21, LeO (tailwaterlaw25_MessageSpare.j1 k y0 y1 y2 y3 y4 y5 y6 y7 y8 y9 y10 y11 y12 y13 y14 y15 y16 y17 y18 y19 y20 y21) (tailwaterlaw25_MessageSpare.j1 (k + 1) y0 y1 y2 y3 y4 y5 y6 y7 y8 y9 y10 y11 y12 y13 y14 y15 y16 y17 y18 y19 y20 y21))
  | 0 => ⟨fun _ _ _ _ _ _ _ _ _ _ _ _ _ r h => by simp [tailwaterlaw25_MessageSpare.j0] at h, fun _ _ _ _ _ _ _ _ _ _ _ _ _ _ _ _ _ _ _ _ _ _ r h => by simp [tailwaterlaw25_MessageSpare.j1] at h⟩
  | k + 1 => by
    obtain ⟨ih0, ih1⟩ := tailwaterlaw25_MessageSpare.mono_l k
    refine ⟨?_, ?_⟩
    · intro y0 y1 y2 y3 y4 y5 y6 y7 y8 y9 y10 y11 y12
      unfold tailwaterlaw25_MessageSpare.j0
      repeat' first
      | (with_reducible exact ih0 _ _ _ _ _ _ _ _ _ _ _ _ _)
      | (with_reducible exact ih1 _ _ _ _ _ _ _ _ _ _ _ _ _ _ _ _ _ _ _ _ _ _)
      | (with_reducible exact tailwaterlaw25_alive.mono _)
      | (with_reducible exact tailwaterlaw25_bad.mono _ _ _ _ _ _ _ _ _ _ _)
      | (with_reducible exact tailwaterref25_Check.mono _ _ _ _ _ _ _ _ _ _ _)
      | (with_reducible exact LeO.refl _)
      | (with_reducible exact LeO.none _)
      | (with_reducible refine LeO.ite ?_ ?_)
      | (with_reducible refine LeO.bind ?_ (fun _ => ?_))
      | exact ih0 _ _ _ _ _ _ _ _ _ _ _ _ _
      | exact ih1 _ _ _ _ _ _ _ _ _ _ _ _ _ _ _ _ _ _ _ _ _ _
      | exact tailwaterlaw25_alive.mono _
      | exact tailwaterlaw25_bad.mono _ _ _ _ _ _ _ _ _ _ _
      | exact tailwaterref25_Check.mono _ _ _ _ _ _ _ _ _ _ _
      | exact LeO.none _
      | refine LeO.ite ?_ ?_
      | refine LeO.bind ?_ (fun _ => ?_)
    · intro y0 y1 y2 y3 y4 y5 y6 y7 y8 y9 y10 y11 y12 y13 y14 y15 y16 y17 y18 y19 y20 y21
      unfold tailwaterlaw25_MessageSpare.j1
      repeat' first
      | (with_reducible exact ih0 _ _ _ _ _ _ _ _ _ _ _ _ _)
      | (with_reducible exact ih1 _ _ _ _ _ _ _ _ _ _ _ _ _ _ _ _ _ _ _ _ _ _)
      | (with_reducible exact tailwaterlaw25_alive.mono _)
      | (with_reducible exact tailwaterlaw25_bad.mono _ _ _ _ _ _ _ _ _ _ _)
      | (with_reducible exact tailwaterref25_Check.mono _ _ _ _ _ _ _ _ _ _ _)
      | (with_reducible exact LeO.refl _)
      | (with_reducible exact LeO.none _)
      | (with_reducible refine LeO.ite ?_ ?_)
      | (with_reducible refine LeO.bind ?_ (fun _ => ?_))
      | exact ih0 _ _ _ _ _ _ _ _ _ _ _ _ _
      | exact ih1 _ _ _ _ _ _ _ _ _ _ _ _ _ _ _ _ _ _ _ _ _ _
      | exact tailwaterlaw25_alive.mono _
      | exact tailwaterlaw25_bad.mono _ _ _ _ _ _ _ _ _ _ _
      | exact tailwaterref25_Check.mono _ _ _ _ _ _ _ _ _ _ _
      | exact LeO.none _
      | refine LeO.ite ?_ ?_
      | refine LeO.bind ?_ (fun _ => ?_)
theorem tailwaterlaw25_MessageSpare.mono : ∀ a0 a1 a2 a3 a4 a5 a6 a7 a8 a9 a10 k, LeO (tailwaterlaw25_MessageSpare.f k a0 a1 a2 a3 a4 a5 a6 a7 a8 a9 a10) (tailwaterlaw25_MessageSpare.f (k + 1) a0 a1 a2 a3 a4 a5 a6 a7 a8 a9 a10) := by
  intro a0 a1 a2 a3 a4 a5 a6 a7 a8 a9 a10 k
  obtain ⟨ih0, ih1⟩ := tailwaterlaw25_MessageSpare.mono_l k
  unfold tailwaterlaw25_MessageSpare.f
  repeat' first
      | (with_reducible exact ih0 _ _ _ _ _ _ _ _ _ _ _ _ _)
      | (with_reducible exact ih1 _ _ _ _ _ _ _ _ _ _ _ _ _ _ _ _ _ _ _ _ _ _)
      | (with_reducible exact tailwaterlaw25_alive.mono _)
      | (with_reducible exact tailwaterlaw25_bad.mono _ _ _ _ _ _ _ _ _ _ _)
      | (with_reducible exact tailwaterref25_Check.mono _ _ _ _ _ _ _ _ _ _ _)
      | (with_reducible exact LeO.refl _)
      | (with_reducible exact LeO.none _)
      | (with_reducible refine LeO.ite ?_ ?_)
      | (with_reducible refine LeO.bind ?_ (fun _ => ?_))
      | exact ih0 _ _ _ _ _ _ _ _ _ _ _ _ _
      | exact ih1 _ _ _ _ _ _ _ _ _ _ _ _ _ _ _ _ _ _ _ _ _ _
      | exact tailwaterlaw25_alive.mono _
      | exact tailwaterlaw25_bad.mono _ _ _ _ _ _ _ _ _ _ _
      | exact tailwaterref25_Check.mono _ _ _ _ _ _ _ _ _ _ _
      | exact LeO.none _
      | refine LeO.ite ?_ ?_
      | refine LeO.bind ?_ (fun _ => ?_)
def tailwaterlaw25_MessageSpare.T4 : Bool × List (List Nat × List Nat) := (true, [([], []), ([], []), ([], []), ([], []), ([], []), ([], []), ([3, 0, 0, 3, 4, 5], [0, 3]), ([4, 1, 6, 0, 1, 3, 4, 5, 6], [1, 4]), ([5, 2, 7, 0, 1, 2, 3, 4, 5, 6, 7], [2, 5])])
def tailwaterlaw25_MessageSpare.B4 : List Nat := [0, 0, 0, 0, 0, 0, 57, 123, 255]
theorem tailwaterlaw25_MessageSpare.tab4 : rtab .any (opsOf Tryd.f15 4) = tailwaterlaw25_MessageSpare.T4 := by kernel_rfl
theorem tailwaterlaw25_MessageSpare.bits4 : waitsOk tailwaterlaw25_MessageSpare.T4.2 tailwaterlaw25_MessageSpare.B4 = true := by kernel_rfl
set_option maxHeartbeats 8000000 in
set_option maxRecDepth 100000 in
theorem tailwaterlaw25_MessageSpare.calls (k : Nat) (a0_0 : Int) (a0_1 : Int) (a0_2 : Int) (a0_3 : Int) (a0_4 : Int) (a0_5 : Int) (a0_6 : Int) (a0_7 : Int) (a0_8 : Int) (a0_9 : Int) (a1 : Int) (w : World) (hT : TabG w) (h : tailwaterlaw25_MessageSpare.f k a0_0 a0_1 a0_2 a0_3 a0_4 a0_5 a0_6 a0_7 a0_8 a0_9 a1 = some true) :
    Calls Tryd.prog 15 #[.agg #[.int .u8 a0_0, .int .i64 a0_1, .int .i64 a0_2, .int .i64 a0_3, .int .i64 a0_4, .int .i64 a0_5, .int .i64 a0_6, .int .i64 a0_7, .int .i64 a0_8, .int .i64 a0_9], .int .i64 a1] w fun e w' => e = .returned (.bool true) ∧ Below w.heap.size w w' := by
  have hu31 := Tryd.underlying31
  have HB := Aside0.mk (Below.refl w.heap.size w)
  have HT0 := Aside0.mk hT
  clear hT
  have H : ((tailwaterlaw25_alive.f k).bind fun t455 => ((tailwaterref25_Check.f k a0_0 a0_1 a0_2 a0_3 a0_4 a0_5 a0_6 a0_7 a0_8 a0_9).bind fun t456 => (if t456 = 0 then (if a1 = 0 then (tailwaterlaw25_MessageSpare.j0 k a1 t455 true a0_0 a0_1 a0_2 a0_3 a0_4 a0_5 a0_6 a0_7 a0_8 a0_9) else (tailwaterlaw25_MessageSpare.j0 k a1 t455 (!t455) a0_0 a0_1 a0_2 a0_3 a0_4 a0_5 a0_6 a0_7 a0_8 a0_9)) else (tailwaterlaw25_MessageSpare.j0 k a1 t455 true a0_0 a0_1 a0_2 a0_3 a0_4 a0_5 a0_6 a0_7 a0_8 a0_9)))) = some true := h
  clear h
  replace H := Option.bind_eq_some_iff.mp H
  obtain ⟨t455, A30, H⟩ := H
  replace H : ((tailwaterref25_Check.f k a0_0 a0_1 a0_2 a0_3 a0_4 a0_5 a0_6 a0_7 a0_8 a0_9).bind fun t456 => (if t456 = 0 then (if a1 = 0 then (tailwaterlaw25_MessageSpare.j0 k a1 t455 true a0_0 a0_1 a0_2 a0_3 a0_4 a0_5 a0_6 a0_7 a0_8 a0_9) else (tailwaterlaw25_MessageSpare.j0 k a1 t455 (!t455) a0_0 a0_1 a0_2 a0_3 a0_4 a0_5 a0_6 a0_7 a0_8 a0_9)) else (tailwaterlaw25_MessageSpare.j0 k a1 t455 true a0_0 a0_1 a0_2 a0_3 a0_4 a0_5 a0_6 a0_7 a0_8 a0_9))) = some true := H
  have A3 := Aside0.mk A30
  clear A30
  have HC4 := Aside0.mk H
  clear H
  go_enter Tryd.func15, Tryd.ntmps15
  go_upto_region 2 with (first | ((with_reducible refine gate_dst (N := 2) rfl ?_); refine box_event ?hg (N := 2) ?hd (cs := #[.int .u8 a0_0, .int .i64 a0_1, .int .i64 a0_2, .int .i64 a0_3, .int .i64 a0_4, .int .i64 a0_5, .int .i64 a0_6, .int .i64 a0_7, .int .i64 a0_8, .int .i64 a0_9]) (t := 31) ?hr ?_; (case hd => rfl); (case hg => rfl); (case hr => first | (go_simp; done) | (go_simp; rfl)); intro gb454 hg w5 hbox hb; have n0_ := Aside0.mk (below_step (by repeat (first | (with_reducible first | exact HB.out | apply below_alloc | apply pw_below_drewN | apply below_drew1) | exact HB.out)) hb); have n1_ := Aside0.mk (hbox); have n2_ := Aside0.mk ((by rw [hg]; exact (below_size (by repeat (first | (with_reducible first | exact HB.out | apply below_alloc | apply pw_below_drewN | apply below_drew1) | exact HB.out))) : w.heap.size ≤ gb454)); have n3_ := Aside0.mk ((by rw [hg]; exact (below_size (by repeat (first | (with_reducible first | exact HB.out | apply below_alloc | apply pw_below_drewN | apply below_drew1) | exact HB.out))) : w.heap.size ≤ gb454)); clear HB; have HB := n0_; have BK454 := n1_; have GW454 := n2_; have GE454 := n3_; clear n0_ n1_ n2_ n3_; clear hb hbox hg) | ((with_reducible refine gate_callee (f := 21) rfl ?_); refine goesL_ (some 9) rfl rfl Tryd.func21 (by kernel_rfl) rfl #[] rfl (by (try simp only [List.map_toArray, List.map_cons, List.map_nil]); first | done | rfl | (simp only [List.length_drop, List.length_take]; rfl)) ?_; (with_reducible refine (tailwaterlaw25_alive.calls k  t455 _ ?side1 A3.out).mono ?_); (case side1 => exact TabG.below HT0.out (by repeat (first | (with_reducible first | exact HB.out | apply below_alloc | apply pw_below_drewN | apply below_drew1 | refine below_set ?_ GE454.out) | exact HB.out))); rintro e w6 ⟨rfl, hb⟩; refine ⟨_, rfl, ?_⟩; have n0_ := Aside0.mk (blk_below (g := gb454) (o := .cells #[.int .u8 a0_0, .int .i64 a0_1, .int .i64 a0_2, .int .i64 a0_3, .int .i64 a0_4, .int .i64 a0_5, .int .i64 a0_6, .int .i64 a0_7, .int .i64 a0_8, .int .i64 a0_9] 31 (0, 0)) (by (with_reducible repeat (first | refine blk_drewN ?_ _ | refine blk_drew ?_ | refine blk_alloc ?_ _)); exact BK454.out) hb); have n1_ := Aside0.mk (below_step (by repeat (first | (with_reducible first | exact HB.out | apply below_alloc | apply pw_below_drewN | apply below_drew1 | refine below_set ?_ GE454.out) | exact HB.out)) hb); clear BK454; clear HB; have BK454 := n0_; have HB := n1_; clear n0_ n1_; (try clear hb); (try clear hb2); (try clear hk); (try clear hi)))
  (try simp only [Act.put, List.setIfInBounds_toArray, List.set_cons_zero, List.set_cons_succ])
  go_cut [20] (fun v20 wc => ∃ (kq : Nat) (x20_3 : Bool), v20 = .bool x20_3 ∧ Aside0 (tailwaterlaw25_MessageSpare.j0 kq a1 t455 x20_3 a0_0 a0_1 a0_2 a0_3 a0_4 a0_5 a0_6 a0_7 a0_8 a0_9 = some true) ∧ Aside0 (kq ≤ k) ∧ Aside0 (wc.heap[gb454]? = some (.cells #[.int .u8 a0_0, .int .i64 a0_1, .int .i64 a0_2, .int .i64 a0_3, .int .i64 a0_4, .int .i64 a0_5, .int .i64 a0_6, .int .i64 a0_7, .int .i64 a0_8, .int .i64 a0_9] 31 (0, 0))) ∧ Aside0 (Below w.heap.size w wc))
  case first =>
    have H := HC4.out
    clear HC4
    replace H := Option.bind_eq_some_iff.mp H
    obtain ⟨t456, A70, H⟩ := H
    replace H : (if t456 = 0 then (if a1 = 0 then (tailwaterlaw25_MessageSpare.j0 k a1 t455 true a0_0 a0_1 a0_2 a0_3 a0_4 a0_5 a0_6 a0_7 a0_8 a0_9) else (tailwaterlaw25_MessageSpare.j0 k a1 t455 (!t455) a0_0 a0_1 a0_2 a0_3 a0_4 a0_5 a0_6 a0_7 a0_8 a0_9)) else (tailwaterlaw25_MessageSpare.j0 k a1 t455 true a0_0 a0_1 a0_2 a0_3 a0_4 a0_5 a0_6 a0_7 a0_8 a0_9)) = some true := H
    have A7 := Aside0.mk A70
    clear A70
    by_cases c8 : t456 = 0
    · rw [if_pos c8] at H
      have c8b0 : (t456 == 0) = true := beq_iff_eq.mpr c8
      have c8b1 : (t456 != 0) = false := bne_eq_false_iff_eq.mpr c8
      clear c8
      (first | rw [c8b0] | (simp only [i64_w, i32_w]; rw [c8b0]) | skip)
      by_cases c9 : a1 = 0
      · rw [if_pos c9] at H
        have c9b0 : (a1 == 0) = true := beq_iff_eq.mpr c9
        have c9b1 : (a1 != 0) = false := bne_eq_false_iff_eq.mpr c9
        clear c9
        have H' := Aside0.mk H
        clear H
        obtain ⟨hcz10_0, hcz10_1, hcz10_2, hcz10_3, hcz10_4, hcz10_5, hcz10_6, hcz10_7, hcz10_8, hcz10_9⟩ := cells10 BK454.out
        obtain ⟨hfz10_0, hfz10_1, hfz10_2, hfz10_3, hfz10_4, hfz10_5, hfz10_6, hfz10_7, hfz10_8, hfz10_9⟩ := froz10 BK454.out
        go_wp2_with (first | ((with_reducible refine gate_callee (f := 26) rfl ?_); refine goesL_ (some 11) rfl rfl Tryd.func26 (by kernel_rfl) rfl #[.agg #[.int .u8 a0_0, .int .i64 a0_1, .int .i64 a0_2, .int .i64 a0_3, .int .i64 a0_4, .int .i64 a0_5, .int .i64 a0_6, .int .i64 a0_7, .int .i64 a0_8, .int .i64 a0_9]] rfl (by (try simp only [List.map_toArray, List.map_cons, List.map_nil]); first | done | rfl | (simp only [List.length_drop, List.length_take]; rfl)) ?_; (with_reducible refine (tailwaterref25_Check.calls k a0_0 a0_1 a0_2 a0_3 a0_4 a0_5 a0_6 a0_7 a0_8 a0_9 t456 _ A7.out).mono ?_); rintro e w11 ⟨rfl, hb⟩; refine ⟨_, rfl, ?_⟩; have n0_ := Aside0.mk (blk_below (g := gb454) (o := .cells #[.int .u8 a0_0, .int .i64 a0_1, .int .i64 a0_2, .int .i64 a0_3, .int .i64 a0_4, .int .i64 a0_5, .int .i64 a0_6, .int .i64 a0_7, .int .i64 a0_8, .int .i64 a0_9] 31 (0, 0)) (by (with_reducible repeat (first | refine blk_drewN ?_ _ | refine blk_drew ?_ | refine blk_alloc ?_ _)); exact BK454.out) hb); have n1_ := Aside0.mk (below_step (by repeat (first | (with_reducible first | exact HB.out | apply below_alloc | apply pw_below_drewN | apply below_drew1 | refine below_set ?_ GE454.out) | exact HB.out)) hb); clear BK454; clear HB; have BK454 := n0_; have HB := n1_; clear n0_ n1_; (try clear hb); (try clear hb2); (try clear hk); (try clear hi)))
        go_meet
        case rel => exact ⟨_, (true), (by first | rfl | (simp; done) | (simp [*]; done)), H', ⟨by first | omega | exact Nat.le_refl _⟩, ⟨by (with_reducible repeat (first | refine blk_drewN ?_ _ | refine blk_drew ?_ | refine blk_alloc ?_ _)); exact BK454.out⟩, ⟨by repeat (first | (with_reducible first | exact HB.out | apply below_alloc | apply pw_below_drewN | apply below_drew1 | refine below_set ?_ GE454.out) | exact HB.out)⟩⟩
      · rw [if_neg c9] at H
        have c9b0 : (a1 == 0) = false := beq_eq_false_iff_ne.mpr c9
        have c9b1 : (a1 != 0) = true := bne_iff_ne.mpr c9
        have H' := Aside0.mk H
        clear H
        obtain ⟨hcz12_0, hcz12_1, hcz12_2, hcz12_3, hcz12_4, hcz12_5, hcz12_6, hcz12_7, hcz12_8, hcz12_9⟩ := cells10 BK454.out
        obtain ⟨hfz12_0, hfz12_1, hfz12_2, hfz12_3, hfz12_4, hfz12_5, hfz12_6, hfz12_7, hfz12_8, hfz12_9⟩ := froz10 BK454.out
        go_wp2_with (first | ((with_reducible refine gate_callee (f := 26) rfl ?_); refine goesL_ (some 11) rfl rfl Tryd.func26 (by kernel_rfl) rfl #[.agg #[.int .u8 a0_0, .int .i64 a0_1, .int .i64 a0_2, .int .i64 a0_3, .int .i64 a0_4, .int .i64 a0_5, .int .i64 a0_6, .int .i64 a0_7, .int .i64 a0_8, .int .i64 a0_9]] rfl (by (try simp only [List.map_toArray, List.map_cons, List.map_nil]); first | done | rfl | (simp only [List.length_drop, List.length_take]; rfl)) ?_; (with_reducible refine (tailwaterref25_Check.calls k a0_0 a0_1 a0_2 a0_3 a0_4 a0_5 a0_6 a0_7 a0_8 a0_9 t456 _ A7.out).mono ?_); rintro e w13 ⟨rfl, hb⟩; refine ⟨_, rfl, ?_⟩; have n0_ := Aside0.mk (blk_below (g := gb454) (o := .cells #[.int .u8 a0_0, .int .i64 a0_1, .int .i64 a0_2, .int .i64 a0_3, .int .i64 a0_4, .int .i64 a0_5, .int .i64 a0_6, .int .i64 a0_7, .int .i64 a0_8, .int .i64 a0_9] 31 (0, 0)) (by (with_reducible repeat (first | refine blk_drewN ?_ _ | refine blk_drew ?_ | refine blk_alloc ?_ _)); exact BK454.out) hb); have n1_ := Aside0.mk (below_step (by repeat (first | (with_reducible first | exact HB.out | apply below_alloc | apply pw_below_drewN | apply below_drew1 | refine below_set ?_ GE454.out) | exact HB.out)) hb); clear BK454; clear HB; have BK454 := n0_; have HB := n1_; clear n0_ n1_; (try clear hb); (try clear hb2); (try clear hk); (try clear hi)))
        go_meet
        case rel => exact ⟨_, (!t455), (by first | rfl | (simp; done) | (simp [*]; done)), H', ⟨by first | omega | exact Nat.le_refl _⟩, ⟨by (with_reducible repeat (first | refine blk_drewN ?_ _ | refine blk_drew ?_ | refine blk_alloc ?_ _)); exact BK454.out⟩, ⟨by repeat (first | (with_reducible first | exact HB.out | apply below_alloc | apply pw_below_drewN | apply below_drew1 | refine below_set ?_ GE454.out) | exact HB.out)⟩⟩
    · rw [if_neg c8] at H
      have c8b0 : (t456 == 0) = false := beq_eq_false_iff_ne.mpr c8
      have c8b1 : (t456 != 0) = true := bne_iff_ne.mpr c8
      (first | rw [c8b0] | (simp only [i64_w, i32_w]; rw [c8b0]) | skip)
      have H' := Aside0.mk H
      clear H
      obtain ⟨hcz14_0, hcz14_1, hcz14_2, hcz14_3, hcz14_4, hcz14_5, hcz14_6, hcz14_7, hcz14_8, hcz14_9⟩ := cells10 BK454.out
      obtain ⟨hfz14_0, hfz14_1, hfz14_2, hfz14_3, hfz14_4, hfz14_5, hfz14_6, hfz14_7, hfz14_8, hfz14_9⟩ := froz10 BK454.out
      go_wp2_with (first | ((with_reducible refine gate_callee (f := 26) rfl ?_); refine goesL_ (some 11) rfl rfl Tryd.func26 (by kernel_rfl) rfl #[.agg #[.int .u8 a0_0, .int .i64 a0_1, .int .i64 a0_2, .int .i64 a0_3, .int .i64 a0_4, .int .i64 a0_5, .int .i64 a0_6, .int .i64 a0_7, .int .i64 a0_8, .int .i64 a0_9]] rfl (by (try simp only [List.map_toArray, List.map_cons, List.map_nil]); first | done | rfl | (simp only [List.length_drop, List.length_take]; rfl)) ?_; (with_reducible refine (tailwaterref25_Check.calls k a0_0 a0_1 a0_2 a0_3 a0_4 a0_5 a0_6 a0_7 a0_8 a0_9 t456 _ A7.out).mono ?_); rintro e w15 ⟨rfl, hb⟩; refine ⟨_, rfl, ?_⟩; have n0_ := Aside0.mk (blk_below (g := gb454) (o := .cells #[.int .u8 a0_0, .int .i64 a0_1, .int .i64 a0_2, .int .i64 a0_3, .int .i64 a0_4, .int .i64 a0_5, .int .i64 a0_6, .int .i64 a0_7, .int .i64 a0_8, .int .i64 a0_9] 31 (0, 0)) (by (with_reducible repeat (first | refine blk_drewN ?_ _ | refine blk_drew ?_ | refine blk_alloc ?_ _)); exact BK454.out) hb); have n1_ := Aside0.mk (below_step (by repeat (first | (with_reducible first | exact HB.out | apply below_alloc | apply pw_below_drewN | apply below_drew1 | refine below_set ?_ GE454.out) | exact HB.out)) hb); clear BK454; clear HB; have BK454 := n0_; have HB := n1_; clear n0_ n1_; (try clear hb); (try clear hb2); (try clear hk); (try clear hi)))
      go_meet
      case rel => exact ⟨_, (true), (by first | rfl | (simp; done) | (simp [*]; done)), H', ⟨by first | omega | exact Nat.le_refl _⟩, ⟨by (with_reducible repeat (first | refine blk_drewN ?_ _ | refine blk_drew ?_ | refine blk_alloc ?_ _)); exact BK454.out⟩, ⟨by repeat (first | (with_reducible first | exact HB.out | apply below_alloc | apply pw_below_drewN | apply below_drew1 | refine below_set ?_ GE454.out) | exact HB.out)⟩⟩
  case rest =>
    clear HC4
    try clear c1
    try clear c2
    try clear p2
    try clear c8
    try clear c8b0
    try clear c8b1
    try clear c9
    try clear c9b0
    try clear c9b1
    try clear c15
    try clear hcz10_0
    try clear hcz10_1
    try clear hcz10_2
    try clear hcz10_3
    try clear hcz10_4
    try clear hcz10_5
    try clear hcz10_6
    try clear hcz10_7
    try clear hcz10_8
    try clear hcz10_9
    try clear hcz12_0
    try clear hcz12_1
    try clear hcz12_2
    try clear hcz12_3
    try clear hcz12_4
    try clear hcz12_5
    try clear hcz12_6
    try clear hcz12_7
    try clear hcz12_8
    try clear hcz12_9
    try clear hcz14_0
    try clear hcz14_1
    try clear hcz14_2
    try clear hcz14_3
    try clear hcz14_4
    try clear hcz14_5
    try clear hcz14_6
    try clear hcz14_7
    try clear hcz14_8
    try clear hcz14_9
    try clear hfz10_0
    try clear hfz10_1
    try clear hfz10_2
    try clear hfz10_3
    try clear hfz10_4
    try clear hfz10_5
    try clear hfz10_6
    try clear hfz10_7
    try clear hfz10_8
    try clear hfz10_9
    try clear hfz12_0
    try clear hfz12_1
    try clear hfz12_2
    try clear hfz12_3
    try clear hfz12_4
    try clear hfz12_5
    try clear hfz12_6
    try clear hfz12_7
    try clear hfz12_8
    try clear hfz12_9
    try clear hfz14_0
    try clear hfz14_1
    try clear hfz14_2
    try clear hfz14_3
    try clear hfz14_4
    try clear hfz14_5
    try clear hfz14_6
    try clear hfz14_7
    try clear hfz14_8
    try clear hfz14_9
    obtain ⟨kq, x20_3, rfl, HA, HJ3, BK454, HB⟩ := hcut
    cases kq with
    | zero => exact absurd HA.out (by simp [tailwaterlaw25_MessageSpare.j0])
    | succ kj3 =>
      have H := HA.out
      clear HA
      simp only [tailwaterlaw25_MessageSpare.j0] at H
      by_cases c16 : x20_3 = true
      · subst c16
        have H1 : (some t455) = some true := by rw [if_pos rfl] at H; exact H
        clear H
        have H := H1
        clear H1
        have HE := Aside0.mk (Option.some.inj H)
        clear H
        go_wp2
        go_ret
        exact ⟨by first | rfl | exact congrArg (fun b_ : Bool => Ending.returned (.bool b_)) HE.out | ((try simp only [Bool.not_not] at HE); exact congrArg (fun b_ : Bool => Ending.returned (.bool b_)) HE.out) | (have h_ := HE.out; simp at h_ ⊢; simp [*]), by repeat (first | (with_reducible first | exact HB.out | apply below_alloc | apply pw_below_drewN | apply below_drew1 | refine below_set ?_ GE454.out) | exact HB.out)⟩
      · replace c16 := Bool.eq_false_iff.mpr c16
        subst c16
        have H1 : (if a0_0 = 2 then (if a0_0 = 1 then (tailwaterlaw25_MessageSpare.j1 kj3 t455 false a0_0 a0_1 a0_2 a0_3 a0_4 a0_5 a0_6 a0_7 a0_8 a0_9 a0_0 a0_1 a0_2 a0_3 a0_4 a1 a0_6 a0_7 a0_8 a0_9) else (if a0_0 = 4 then (tailwaterlaw25_MessageSpare.j1 kj3 t455 false a0_0 a0_1 a0_2 a0_3 a0_4 a0_5 a0_6 a0_7 a0_8 a0_9 a0_0 a0_1 a0_2 a0_3 a0_4 a1 a0_6 a0_7 a0_8 a0_9) else ((tailwaterlaw25_bad.f kj3 a0_0 a1 a0_2 a0_3 a0_4 a0_5 a0_6 a0_7 a0_8 a0_9).bind fun t460 => (tailwaterlaw25_MessageSpare.j1 kj3 t455 (!t460) a0_0 a0_1 a0_2 a0_3 a0_4 a0_5 a0_6 a0_7 a0_8 a0_9 a0_0 a0_1 a0_2 a0_3 a0_4 a1 a0_6 a0_7 a0_8 a0_9)))) else ((tailwaterlaw25_bad.f kj3 a0_0 a0_1 a0_2 a0_3 a1 a0_5 a0_6 a0_7 a0_8 a0_9).bind fun t461 => (if t461 = true then (if a0_0 = 1 then (tailwaterlaw25_MessageSpare.j1 kj3 t455 false a0_0 a0_1 a0_2 a0_3 a0_4 a0_5 a0_6 a0_7 a0_8 a0_9 a0_0 a0_1 a0_2 a0_3 a0_4 a1 a0_6 a0_7 a0_8 a0_9) else (if a0_0 = 4 then (tailwaterlaw25_MessageSpare.j1 kj3 t455 false a0_0 a0_1 a0_2 a0_3 a0_4 a0_5 a0_6 a0_7 a0_8 a0_9 a0_0 a0_1 a0_2 a0_3 a0_4 a1 a0_6 a0_7 a0_8 a0_9) else ((tailwaterlaw25_bad.f kj3 a0_0 a1 a0_2 a0_3 a0_4 a0_5 a0_6 a0_7 a0_8 a0_9).bind fun t462 => (tailwaterlaw25_MessageSpare.j1 kj3 t455 (!t462) a0_0 a0_1 a0_2 a0_3 a0_4 a0_5 a0_6 a0_7 a0_8 a0_9 a0_0 a0_1 a0_2 a0_3 a0_4 a1 a0_6 a0_7 a0_8 a0_9)))) else (tailwaterlaw25_MessageSpare.j1 kj3 t455 true a0_0 a0_1 a0_2 a0_3 a0_4 a0_5 a0_6 a0_7 a0_8 a0_9 a0_0 a0_1 a0_2 a0_3 a0_4 a1 a0_6 a0_7 a0_8 a0_9)))) = some true := by rw [if_neg (show ¬ (false = true) by decide)] at H; exact H
        clear H
        have H := H1
        clear H1
        have HC17 := Aside0.mk H
        clear H
        try go_wp2
        have n0_ := Aside0.mk (blk_drew BK454.out)
        have n1_ := Aside0.mk (below_drew1 HB.out)
        clear BK454
        clear HB
        have BK454 := n0_
        have HB := n1_
        clear n0_ n1_
        refine start_ (n := 9) (S := fun w' => w'.cell? ⟨gb454, 0, none⟩ = some (.int .u8 a0_0) ∧ w'.cell? ⟨gb454, 1, none⟩ = some (.int .i64 a0_1) ∧ w'.cell? ⟨gb454, 2, none⟩ = some (.int .i64 a0_2) ∧ w'.cell? ⟨gb454, 3, none⟩ = some (.int .i64 a0_3) ∧ w'.cell? ⟨gb454, 4, none⟩ = some (.int .i64 a0_4) ∧ w'.cell? ⟨gb454, 5, none⟩ = some (.int .i64 a0_5) ∧ w'.cell? ⟨gb454, 6, none⟩ = some (.int .i64 a0_6) ∧ w'.cell? ⟨gb454, 7, none⟩ = some (.int .i64 a0_7) ∧ w'.cell? ⟨gb454, 8, none⟩ = some (.int .i64 a0_8) ∧ w'.cell? ⟨gb454, 9, none⟩ = some (.int .i64 a0_9)) (ds := []) #[false, false, false, false, false, false, false, false, false] (by kernel_rfl) rfl rfl ⟨(blk_cell BK454.out 0).trans rfl, (blk_cell BK454.out 1).trans rfl, (blk_cell BK454.out 2).trans rfl, (blk_cell BK454.out 3).trans rfl, (blk_cell BK454.out 4).trans rfl, (blk_cell BK454.out 5).trans rfl, (blk_cell BK454.out 6).trans rfl, (blk_cell BK454.out 7).trans rfl, (blk_cell BK454.out 8).trans rfl, (blk_cell BK454.out 9).trans rfl⟩ (fun hHeld => ?_); refine with_tabW tailwaterlaw25_MessageSpare.tab4 tailwaterlaw25_MessageSpare.bits4 (fun HT_ HW_ => ?_)
        generalize wc.drew = w18 at BK454 HB hHeld ⊢
        refine take_ (i := 0) (N := some 22) (v := ?_) (a' := ?_) #[true, false, false, false, false, false, false, false, false] rfl rfl (take_ofW HT_.out HW_.out (by kernel_rfl)) (fun _ _ _ h => h) (Or.inl ⟨by rfl, ?_⟩) hHeld ?_ ?_
        rotate_left
        · rintro w' ⟨s0, s1, s2, s3, s4, s5, s6, s7, s8, s9⟩
          go_simp
          with_reducible rfl
        rotate_left
        · simp only [Act.put, List.setIfInBounds_toArray, List.set_cons_zero, List.set_cons_succ, i64_w, i32_w]
          rfl
        refine take_ (i := 1) (N := some 23) (v := ?_) (a' := ?_) #[true, true, false, false, false, false, false, false, false] rfl rfl (take_ofW HT_.out HW_.out (by kernel_rfl)) (fun _ _ _ h => h) (Or.inl ⟨by rfl, ?_⟩) hHeld ?_ ?_
        rotate_left
        · rintro w' ⟨s0, s1, s2, s3, s4, s5, s6, s7, s8, s9⟩
          go_simp
          with_reducible rfl
        rotate_left
        · simp only [Act.put, List.setIfInBounds_toArray, List.set_cons_zero, List.set_cons_succ, i64_w, i32_w]
          rfl
        refine take_ (i := 2) (N := some 24) (v := ?_) (a' := ?_) #[true, true, true, false, false, false, false, false, false] rfl rfl (take_ofW HT_.out HW_.out (by kernel_rfl)) (fun _ _ _ h => h) (Or.inl ⟨by rfl, ?_⟩) hHeld ?_ ?_
        rotate_left
        · rintro w' ⟨s0, s1, s2, s3, s4, s5, s6, s7, s8, s9⟩
          go_simp
          with_reducible rfl
        rotate_left
        · simp only [Act.put, List.setIfInBounds_toArray, List.set_cons_zero, List.set_cons_succ, i64_w, i32_w]
          rfl
        refine join_ (σ := Nat × Nat × Nat) 3 #[true, true, true, true, true, true, false, false, false] (fun s_ => [(6, .pointer (some ⟨s_.1, 0, none⟩)), (7, .pointer (some ⟨s_.2.1, 0, none⟩)), (8, .pointer (some ⟨s_.2.2, 0, none⟩))]) (fun s_ w' => (w'.cell? ⟨gb454, 0, none⟩ = some (.int .u8 a0_0) ∧ w'.cell? ⟨gb454, 1, none⟩ = some (.int .i64 a0_1) ∧ w'.cell? ⟨gb454, 2, none⟩ = some (.int .i64 a0_2) ∧ w'.cell? ⟨gb454, 3, none⟩ = some (.int .i64 a0_3) ∧ w'.cell? ⟨gb454, 4, none⟩ = some (.int .i64 a0_4) ∧ w'.cell? ⟨gb454, 5, none⟩ = some (.int .i64 a0_5) ∧ w'.cell? ⟨gb454, 6, none⟩ = some (.int .i64 a0_6) ∧ w'.cell? ⟨gb454, 7, none⟩ = some (.int .i64 a0_7) ∧ w'.cell? ⟨gb454, 8, none⟩ = some (.int .i64 a0_8) ∧ w'.cell? ⟨gb454, 9, none⟩ = some (.int .i64 a0_9)) ∧ (w'.heap[gb454]? = some (.cells #[.int .u8 a0_0, .int .i64 a0_1, .int .i64 a0_2, .int .i64 a0_3, .int .i64 a0_4, .int .i64 a0_5, .int .i64 a0_6, .int .i64 a0_7, .int .i64 a0_8, .int .i64 a0_9] 31 (0, 0))) ∧ (w'.heap[s_.1]? = some (.cells #[.int .u8 0, .int .i64 0, .int .i64 0, .int .i64 0, .int .i64 0, .int .i64 0, .int .i64 0, .int .i64 0, .int .i64 0, .int .i64 0] 31 (0, 0))) ∧ (w'.heap[s_.2.1]? = some (.cells #[.int .u8 0, .int .i64 0, .int .i64 0, .int .i64 0, .int .i64 0, .int .i64 0, .int .i64 0, .int .i64 0, .int .i64 0, .int .i64 0] 31 (0, 0))) ∧ (w'.heap[s_.2.2]? = some (.cells #[.int .u8 0, .int .i64 0, .int .i64 0, .int .i64 0, .int .i64 0, .int .i64 0, .int .i64 0, .int .i64 0, .int .i64 0, .int .i64 0] 31 (0, 0))) ∧ (w.heap.size ≤ s_.1) ∧ (w.heap.size ≤ s_.1) ∧ (gb454 ≠ s_.1) ∧ (s_.1 ≠ gb454) ∧ (s_.2.1 ≠ s_.1) ∧ (s_.1 ≠ s_.2.1) ∧ (s_.2.2 ≠ s_.1) ∧ (s_.1 ≠ s_.2.2) ∧ (w.heap.size ≤ s_.2.1) ∧ (w.heap.size ≤ s_.2.1) ∧ (gb454 ≠ s_.2.1) ∧ (s_.2.1 ≠ gb454) ∧ (s_.2.2 ≠ s_.2.1) ∧ (s_.2.1 ≠ s_.2.2) ∧ (w.heap.size ≤ s_.2.2) ∧ (w.heap.size ≤ s_.2.2) ∧ (gb454 ≠ s_.2.2) ∧ (s_.2.2 ≠ gb454) ∧ (Below w.heap.size w w')) ?_ ?_
        rotate_left
        · intro hJ3_4_5
          refine join_ (σ := Nat × Nat) 4 #[true, true, true, true, true, false, false, false, false] (fun s_ => [(6, .pointer (some ⟨s_.1, 0, none⟩)), (7, .pointer (some ⟨s_.2, 0, none⟩))]) (fun s_ w' => (w'.cell? ⟨gb454, 0, none⟩ = some (.int .u8 a0_0) ∧ w'.cell? ⟨gb454, 1, none⟩ = some (.int .i64 a0_1) ∧ w'.cell? ⟨gb454, 2, none⟩ = some (.int .i64 a0_2) ∧ w'.cell? ⟨gb454, 3, none⟩ = some (.int .i64 a0_3) ∧ w'.cell? ⟨gb454, 4, none⟩ = some (.int .i64 a0_4) ∧ w'.cell? ⟨gb454, 5, none⟩ = some (.int .i64 a0_5) ∧ w'.cell? ⟨gb454, 6, none⟩ = some (.int .i64 a0_6) ∧ w'.cell? ⟨gb454, 7, none⟩ = some (.int .i64 a0_7) ∧ w'.cell? ⟨gb454, 8, none⟩ = some (.int .i64 a0_8) ∧ w'.cell? ⟨gb454, 9, none⟩ = some (.int .i64 a0_9)) ∧ (w'.heap[gb454]? = some (.cells #[.int .u8 a0_0, .int .i64 a0_1, .int .i64 a0_2, .int .i64 a0_3, .int .i64 a0_4, .int .i64 a0_5, .int .i64 a0_6, .int .i64 a0_7, .int .i64 a0_8, .int .i64 a0_9] 31 (0, 0))) ∧ (w'.heap[s_.1]? = some (.cells #[.int .u8 0, .int .i64 0, .int .i64 0, .int .i64 0, .int .i64 0, .int .i64 0, .int .i64 0, .int .i64 0, .int .i64 0, .int .i64 0] 31 (0, 0))) ∧ (w'.heap[s_.2]? = some (.cells #[.int .u8 0, .int .i64 0, .int .i64 0, .int .i64 0, .int .i64 0, .int .i64 0, .int .i64 0, .int .i64 0, .int .i64 0, .int .i64 0] 31 (0, 0))) ∧ (w.heap.size ≤ s_.1) ∧ (w.heap.size ≤ s_.1) ∧ (gb454 ≠ s_.1) ∧ (s_.1 ≠ gb454) ∧ (s_.2 ≠ s_.1) ∧ (s_.1 ≠ s_.2) ∧ (w.heap.size ≤ s_.2) ∧ (w.heap.size ≤ s_.2) ∧ (gb454 ≠ s_.2) ∧ (s_.2 ≠ gb454) ∧ (Below w.heap.size w w')) ?_ ?_
          rotate_left
          · intro hJ3_4
            refine join_ (σ := Nat × Nat) 4 #[true, true, true, true, false, true, false, false, false] (fun s_ => [(6, .pointer (some ⟨s_.1, 0, none⟩)), (8, .pointer (some ⟨s_.2, 0, none⟩))]) (fun s_ w' => (w'.cell? ⟨gb454, 0, none⟩ = some (.int .u8 a0_0) ∧ w'.cell? ⟨gb454, 1, none⟩ = some (.int .i64 a0_1) ∧ w'.cell? ⟨gb454, 2, none⟩ = some (.int .i64 a0_2) ∧ w'.cell? ⟨gb454, 3, none⟩ = some (.int .i64 a0_3) ∧ w'.cell? ⟨gb454, 4, none⟩ = some (.int .i64 a0_4) ∧ w'.cell? ⟨gb454, 5, none⟩ = some (.int .i64 a0_5) ∧ w'.cell? ⟨gb454, 6, none⟩ = some (.int .i64 a0_6) ∧ w'.cell? ⟨gb454, 7, none⟩ = some (.int .i64 a0_7) ∧ w'.cell? ⟨gb454, 8, none⟩ = some (.int .i64 a0_8) ∧ w'.cell? ⟨gb454, 9, none⟩ = some (.int .i64 a0_9)) ∧ (w'.heap[gb454]? = some (.cells #[.int .u8 a0_0, .int .i64 a0_1, .int .i64 a0_2, .int .i64 a0_3, .int .i64 a0_4, .int .i64 a0_5, .int .i64 a0_6, .int .i64 a0_7, .int .i64 a0_8, .int .i64 a0_9] 31 (0, 0))) ∧ (w'.heap[s_.1]? = some (.cells #[.int .u8 0, .int .i64 0, .int .i64 0, .int .i64 0, .int .i64 0, .int .i64 0, .int .i64 0, .int .i64 0, .int .i64 0, .int .i64 0] 31 (0, 0))) ∧ (w'.heap[s_.2]? = some (.cells #[.int .u8 0, .int .i64 0, .int .i64 0, .int .i64 0, .int .i64 0, .int .i64 0, .int .i64 0, .int .i64 0, .int .i64 0, .int .i64 0] 31 (0, 0))) ∧ (w.heap.size ≤ s_.1) ∧ (w.heap.size ≤ s_.1) ∧ (gb454 ≠ s_.1) ∧ (s_.1 ≠ gb454) ∧ (s_.2 ≠ s_.1) ∧ (s_.1 ≠ s_.2) ∧ (w.heap.size ≤ s_.2) ∧ (w.heap.size ≤ s_.2) ∧ (gb454 ≠ s_.2) ∧ (s_.2 ≠ gb454) ∧ (Below w.heap.size w w')) ?_ ?_
            rotate_left
            · intro hJ3_5
              refine join_ (σ := Nat × Nat) 4 #[true, true, true, false, true, true, false, false, false] (fun s_ => [(7, .pointer (some ⟨s_.1, 0, none⟩)), (8, .pointer (some ⟨s_.2, 0, none⟩))]) (fun s_ w' => (w'.cell? ⟨gb454, 0, none⟩ = some (.int .u8 a0_0) ∧ w'.cell? ⟨gb454, 1, none⟩ = some (.int .i64 a0_1) ∧ w'.cell? ⟨gb454, 2, none⟩ = some (.int .i64 a0_2) ∧ w'.cell? ⟨gb454, 3, none⟩ = some (.int .i64 a0_3) ∧ w'.cell? ⟨gb454, 4, none⟩ = some (.int .i64 a0_4) ∧ w'.cell? ⟨gb454, 5, none⟩ = some (.int .i64 a0_5) ∧ w'.cell? ⟨gb454, 6, none⟩ = some (.int .i64 a0_6) ∧ w'.cell? ⟨gb454, 7, none⟩ = some (.int .i64 a0_7) ∧ w'.cell? ⟨gb454, 8, none⟩ = some (.int .i64 a0_8) ∧ w'.cell? ⟨gb454, 9, none⟩ = some (.int .i64 a0_9)) ∧ (w'.heap[gb454]? = some (.cells #[.int .u8 a0_0, .int .i64 a0_1, .int .i64 a0_2, .int .i64 a0_3, .int .i64 a0_4, .int .i64 a0_5, .int .i64 a0_6, .int .i64 a0_7, .int .i64 a0_8, .int .i64 a0_9] 31 (0, 0))) ∧ (w'.heap[s_.1]? = some (.cells #[.int .u8 0, .int .i64 0, .int .i64 0, .int .i64 0, .int .i64 0, .int .i64 0, .int .i64 0, .int .i64 0, .int .i64 0, .int .i64 0] 31 (0, 0))) ∧ (w'.heap[s_.2]? = some (.cells #[.int .u8 0, .int .i64 0, .int .i64 0, .int .i64 0, .int .i64 0, .int .i64 0, .int .i64 0, .int .i64 0, .int .i64 0, .int .i64 0] 31 (0, 0))) ∧ (w.heap.size ≤ s_.1) ∧ (w.heap.size ≤ s_.1) ∧ (gb454 ≠ s_.1) ∧ (s_.1 ≠ gb454) ∧ (s_.2 ≠ s_.1) ∧ (s_.1 ≠ s_.2) ∧ (w.heap.size ≤ s_.2) ∧ (w.heap.size ≤ s_.2) ∧ (gb454 ≠ s_.2) ∧ (s_.2 ≠ gb454) ∧ (Below w.heap.size w w')) ?_ ?_
              rotate_left
              · intro hJ4_5
                refine join_ (σ := Nat) 5 #[true, true, true, true, false, false, false, false, false] (fun s_ => [(6, .pointer (some ⟨s_, 0, none⟩))]) (fun s_ w' => (w'.cell? ⟨gb454, 0, none⟩ = some (.int .u8 a0_0) ∧ w'.cell? ⟨gb454, 1, none⟩ = some (.int .i64 a0_1) ∧ w'.cell? ⟨gb454, 2, none⟩ = some (.int .i64 a0_2) ∧ w'.cell? ⟨gb454, 3, none⟩ = some (.int .i64 a0_3) ∧ w'.cell? ⟨gb454, 4, none⟩ = some (.int .i64 a0_4) ∧ w'.cell? ⟨gb454, 5, none⟩ = some (.int .i64 a0_5) ∧ w'.cell? ⟨gb454, 6, none⟩ = some (.int .i64 a0_6) ∧ w'.cell? ⟨gb454, 7, none⟩ = some (.int .i64 a0_7) ∧ w'.cell? ⟨gb454, 8, none⟩ = some (.int .i64 a0_8) ∧ w'.cell? ⟨gb454, 9, none⟩ = some (.int .i64 a0_9)) ∧ (w'.heap[gb454]? = some (.cells #[.int .u8 a0_0, .int .i64 a0_1, .int .i64 a0_2, .int .i64 a0_3, .int .i64 a0_4, .int .i64 a0_5, .int .i64 a0_6, .int .i64 a0_7, .int .i64 a0_8, .int .i64 a0_9] 31 (0, 0))) ∧ (w'.heap[s_]? = some (.cells #[.int .u8 0, .int .i64 0, .int .i64 0, .int .i64 0, .int .i64 0, .int .i64 0, .int .i64 0, .int .i64 0, .int .i64 0, .int .i64 0] 31 (0, 0))) ∧ (w.heap.size ≤ s_) ∧ (w.heap.size ≤ s_) ∧ (gb454 ≠ s_) ∧ (s_ ≠ gb454) ∧ (Below w.heap.size w w')) ?_ ?_
                rotate_left
                · intro hJ3
                  refine join_ (σ := Nat) 5 #[true, true, true, false, true, false, false, false, false] (fun s_ => [(7, .pointer (some ⟨s_, 0, none⟩))]) (fun s_ w' => (w'.cell? ⟨gb454, 0, none⟩ = some (.int .u8 a0_0) ∧ w'.cell? ⟨gb454, 1, none⟩ = some (.int .i64 a0_1) ∧ w'.cell? ⟨gb454, 2, none⟩ = some (.int .i64 a0_2) ∧ w'.cell? ⟨gb454, 3, none⟩ = some (.int .i64 a0_3) ∧ w'.cell? ⟨gb454, 4, none⟩ = some (.int .i64 a0_4) ∧ w'.cell? ⟨gb454, 5, none⟩ = some (.int .i64 a0_5) ∧ w'.cell? ⟨gb454, 6, none⟩ = some (.int .i64 a0_6) ∧ w'.cell? ⟨gb454, 7, none⟩ = some (.int .i64 a0_7) ∧ w'.cell? ⟨gb454, 8, none⟩ = some (.int .i64 a0_8) ∧ w'.cell? ⟨gb454, 9, none⟩ = some (.int .i64 a0_9)) ∧ (w'.heap[gb454]? = some (.cells #[.int .u8 a0_0, .int .i64 a0_1, .int .i64 a0_2, .int .i64 a0_3, .int .i64 a0_4, .int .i64 a0_5, .int .i64 a0_6, .int .i64 a0_7, .int .i64 a0_8, .int .i64 a0_9] 31 (0, 0))) ∧ (w'.heap[s_]? = some (.cells #[.int .u8 0, .int .i64 0, .int .i64 0, .int .i64 0, .int .i64 0, .int .i64 0, .int .i64 0, .int .i64 0, .int .i64 0, .int .i64 0] 31 (0, 0))) ∧ (w.heap.size ≤ s_) ∧ (w.heap.size ≤ s_) ∧ (gb454 ≠ s_) ∧ (s_ ≠ gb454) ∧ (Below w.heap.size w w')) ?_ ?_
                  rotate_left
                  · intro hJ4
                    refine join_ (σ := Nat) 5 #[true, true, true, false, false, true, false, false, false] (fun s_ => [(8, .pointer (some ⟨s_, 0, none⟩))]) (fun s_ w' => (w'.cell? ⟨gb454, 0, none⟩ = some (.int .u8 a0_0) ∧ w'.cell? ⟨gb454, 1, none⟩ = some (.int .i64 a0_1) ∧ w'.cell? ⟨gb454, 2, none⟩ = some (.int .i64 a0_2) ∧ w'.cell? ⟨gb454, 3, none⟩ = some (.int .i64 a0_3) ∧ w'.cell? ⟨gb454, 4, none⟩ = some (.int .i64 a0_4) ∧ w'.cell? ⟨gb454, 5, none⟩ = some (.int .i64 a0_5) ∧ w'.cell? ⟨gb454, 6, none⟩ = some (.int .i64 a0_6) ∧ w'.cell? ⟨gb454, 7, none⟩ = some (.int .i64 a0_7) ∧ w'.cell? ⟨gb454, 8, none⟩ = some (.int .i64 a0_8) ∧ w'.cell? ⟨gb454, 9, none⟩ = some (.int .i64 a0_9)) ∧ (w'.heap[gb454]? = some (.cells #[.int .u8 a0_0, .int .i64 a0_1, .int .i64 a0_2, .int .i64 a0_3, .int .i64 a0_4, .int .i64 a0_5, .int .i64 a0_6, .int .i64 a0_7, .int .i64 a0_8, .int .i64 a0_9] 31 (0, 0))) ∧ (w'.heap[s_]? = some (.cells #[.int .u8 0, .int .i64 0, .int .i64 0, .int .i64 0, .int .i64 0, .int .i64 0, .int .i64 0, .int .i64 0, .int .i64 0, .int .i64 0] 31 (0, 0))) ∧ (w.heap.size ≤ s_) ∧ (w.heap.size ≤ s_) ∧ (gb454 ≠ s_) ∧ (s_ ≠ gb454) ∧ (Below w.heap.size w w')) ?_ ?_
                    rotate_left
                    · intro hJ5
                      refine three_ (i := 3) (j := 4) (k := 5) (Ni := some 6) (Nj := some 7) (Nk := some 8) #[true, true, true, true, false, false, false, false, false] #[true, true, true, false, true, false, false, false, false] #[true, true, true, false, false, true, false, false, false] rfl rfl rfl rfl rfl rfl (three_of HT_.out (by kernel_rfl)) (by decide) (by decide) (by decide) (fun K hK => ?_) (fun K hK => ?_) (fun K hK => ?_)
                      · skip
                        refine box_step ?hg (N := 6) ?hd (cs := #[.int .u8 0, .int .i64 0, .int .i64 0, .int .i64 0, .int .i64 0, .int .i64 0, .int .i64 0, .int .i64 0, .int .i64 0, .int .i64 0]) (t := 31) ?hr ?_; (case hd => rfl); (case hg => rfl); (case hr => first | (go_simp; done) | (go_simp; rfl))
                        intro gb457 hg w19 hbox hb
                        have n0_ := Aside0.mk (blk_below (g := gb454) (o := .cells #[.int .u8 a0_0, .int .i64 a0_1, .int .i64 a0_2, .int .i64 a0_3, .int .i64 a0_4, .int .i64 a0_5, .int .i64 a0_6, .int .i64 a0_7, .int .i64 a0_8, .int .i64 a0_9] 31 (0, 0)) (by (with_reducible repeat (first | refine blk_drewN ?_ _ | refine blk_drew ?_ | refine blk_alloc ?_ _)); exact BK454.out) hb)
                        have n1_ := Aside0.mk (below_step (by repeat (first | (with_reducible first | exact HB.out | apply below_alloc | apply pw_below_drewN | apply below_drew1 | refine below_set ?_ GE454.out) | exact HB.out)) hb)
                        have n2_ := Aside0.mk (hbox)
                        have n3_ := Aside0.mk ((by rw [hg]; exact (below_size (by repeat (first | (with_reducible first | exact HB.out | apply below_alloc | apply pw_below_drewN | apply below_drew1 | refine below_set ?_ GE454.out) | exact HB.out))) : w.heap.size ≤ gb457))
                        have n4_ := Aside0.mk ((by rw [hg]; exact (below_size (by repeat (first | (with_reducible first | exact HB.out | apply below_alloc | apply pw_below_drewN | apply below_drew1 | refine below_set ?_ GE454.out) | exact HB.out))) : w.heap.size ≤ gb457))
                        have n5_ := Aside0.mk ((by rw [hg]; exact Nat.ne_of_lt (blk_lt (g := gb454) (o := .cells #[.int .u8 a0_0, .int .i64 a0_1, .int .i64 a0_2, .int .i64 a0_3, .int .i64 a0_4, .int .i64 a0_5, .int .i64 a0_6, .int .i64 a0_7, .int .i64 a0_8, .int .i64 a0_9] 31 (0, 0)) (by (with_reducible repeat (first | refine blk_drewN ?_ _ | refine blk_drew ?_ | refine blk_alloc ?_ _)); exact BK454.out)) : gb454 ≠ gb457))
                        have n6_ := Aside0.mk ((by rw [hg]; exact Nat.ne_of_gt (blk_lt (g := gb454) (o := .cells #[.int .u8 a0_0, .int .i64 a0_1, .int .i64 a0_2, .int .i64 a0_3, .int .i64 a0_4, .int .i64 a0_5, .int .i64 a0_6, .int .i64 a0_7, .int .i64 a0_8, .int .i64 a0_9] 31 (0, 0)) (by (with_reducible repeat (first | refine blk_drewN ?_ _ | refine blk_drew ?_ | refine blk_alloc ?_ _)); exact BK454.out)) : gb457 ≠ gb454))
                        clear BK454
                        clear HB
                        have BK454 := n0_
                        have HB := n1_
                        have BK457 := n2_
                        have GW457 := n3_
                        have GE457 := n4_
                        have NB454_457 := n5_
                        have NB457_454 := n6_
                        clear n0_ n1_ n2_ n3_ n4_ n5_ n6_
                        clear hb hbox hg
                        refine hK.out _ _ ⟨(blk_cell BK454.out 0).trans rfl, (blk_cell BK454.out 1).trans rfl, (blk_cell BK454.out 2).trans rfl, (blk_cell BK454.out 3).trans rfl, (blk_cell BK454.out 4).trans rfl, (blk_cell BK454.out 5).trans rfl, (blk_cell BK454.out 6).trans rfl, (blk_cell BK454.out 7).trans rfl, (blk_cell BK454.out 8).trans rfl, (blk_cell BK454.out 9).trans rfl⟩ (fun hHeld => ?_)
                        clear hK K
                        refine norm_ (a' := ?_) ?_ ?_
                        rotate_left
                        · show Act.put _ (some 6) _ = _
                          simp only [Act.put, List.setIfInBounds_toArray, List.set_cons_zero, List.set_cons_succ, i64_w, i32_w]
                          rfl
                        exact norm_ (by first | (simp only [putAll, Act.put, List.setIfInBounds_toArray, List.set_cons_zero, List.set_cons_succ]; done) | (simp only [putAll, Act.put, List.setIfInBounds_toArray, List.set_cons_zero, List.set_cons_succ]; rfl)) (hJ3 (gb457) _ ⟨hHeld, (by (with_reducible repeat (first | refine blk_drewN ?_ _ | refine blk_drew ?_ | refine blk_alloc ?_ _)); exact BK454.out), (by (with_reducible repeat (first | refine blk_drewN ?_ _ | refine blk_drew ?_ | refine blk_alloc ?_ _)); exact BK457.out), GW457.out, GE457.out, NB454_457.out, NB457_454.out, (by repeat (first | (with_reducible first | exact HB.out | apply below_alloc | apply pw_below_drewN | apply below_drew1 | refine below_set ?_ GE454.out | refine below_set ?_ GE457.out) | exact HB.out))⟩)
                      · skip
                        refine box_step ?hg (N := 7) ?hd (cs := #[.int .u8 0, .int .i64 0, .int .i64 0, .int .i64 0, .int .i64 0, .int .i64 0, .int .i64 0, .int .i64 0, .int .i64 0, .int .i64 0]) (t := 31) ?hr ?_; (case hd => rfl); (case hg => rfl); (case hr => first | (go_simp; done) | (go_simp; rfl))
                        intro gb458 hg w19 hbox hb
                        have n0_ := Aside0.mk (blk_below (g := gb454) (o := .cells #[.int .u8 a0_0, .int .i64 a0_1, .int .i64 a0_2, .int .i64 a0_3, .int .i64 a0_4, .int .i64 a0_5, .int .i64 a0_6, .int .i64 a0_7, .int .i64 a0_8, .int .i64 a0_9] 31 (0, 0)) (by (with_reducible repeat (first | refine blk_drewN ?_ _ | refine blk_drew ?_ | refine blk_alloc ?_ _)); exact BK454.out) hb)
                        have n1_ := Aside0.mk (below_step (by repeat (first | (with_reducible first | exact HB.out | apply below_alloc | apply pw_below_drewN | apply below_drew1 | refine below_set ?_ GE454.out) | exact HB.out)) hb)
                        have n2_ := Aside0.mk (hbox)
                        have n3_ := Aside0.mk ((by rw [hg]; exact (below_size (by repeat (first | (with_reducible first | exact HB.out | apply below_alloc | apply pw_below_drewN | apply below_drew1 | refine below_set ?_ GE454.out) | exact HB.out))) : w.heap.size ≤ gb458))
                        have n4_ := Aside0.mk ((by rw [hg]; exact (below_size (by repeat (first | (with_reducible first | exact HB.out | apply below_alloc | apply pw_below_drewN | apply below_drew1 | refine below_set ?_ GE454.out) | exact HB.out))) : w.heap.size ≤ gb458))
                        have n5_ := Aside0.mk ((by rw [hg]; exact Nat.ne_of_lt (blk_lt (g := gb454) (o := .cells #[.int .u8 a0_0, .int .i64 a0_1, .int .i64 a0_2, .int .i64 a0_3, .int .i64 a0_4, .int .i64 a0_5, .int .i64 a0_6, .int .i64 a0_7, .int .i64 a0_8, .int .i64 a0_9] 31 (0, 0)) (by (with_reducible repeat (first | refine blk_drewN ?_ _ | refine blk_drew ?_ | refine blk_alloc ?_ _)); exact BK454.out)) : gb454 ≠ gb458))
                        have n6_ := Aside0.mk ((by rw [hg]; exact Nat.ne_of_gt (blk_lt (g := gb454) (o := .cells #[.int .u8 a0_0, .int .i64 a0_1, .int .i64 a0_2, .int .i64 a0_3, .int .i64 a0_4, .int .i64 a0_5, .int .i64 a0_6, .int .i64 a0_7, .int .i64 a0_8, .int .i64 a0_9] 31 (0, 0)) (by (with_reducible repeat (first | refine blk_drewN ?_ _ | refine blk_drew ?_ | refine blk_alloc ?_ _)); exact BK454.out)) : gb458 ≠ gb454))
                        clear BK454
                        clear HB
                        have BK454 := n0_
                        have HB := n1_
                        have BK458 := n2_
                        have GW458 := n3_
                        have GE458 := n4_
                        have NB454_458 := n5_
                        have NB458_454 := n6_
                        clear n0_ n1_ n2_ n3_ n4_ n5_ n6_
                        clear hb hbox hg
                        refine hK.out _ _ ⟨(blk_cell BK454.out 0).trans rfl, (blk_cell BK454.out 1).trans rfl, (blk_cell BK454.out 2).trans rfl, (blk_cell BK454.out 3).trans rfl, (blk_cell BK454.out 4).trans rfl, (blk_cell BK454.out 5).trans rfl, (blk_cell BK454.out 6).trans rfl, (blk_cell BK454.out 7).trans rfl, (blk_cell BK454.out 8).trans rfl, (blk_cell BK454.out 9).trans rfl⟩ (fun hHeld => ?_)
                        clear hK K
                        refine norm_ (a' := ?_) ?_ ?_
                        rotate_left
                        · show Act.put _ (some 7) _ = _
                          simp only [Act.put, List.setIfInBounds_toArray, List.set_cons_zero, List.set_cons_succ, i64_w, i32_w]
                          rfl
                        exact norm_ (by first | (simp only [putAll, Act.put, List.setIfInBounds_toArray, List.set_cons_zero, List.set_cons_succ]; done) | (simp only [putAll, Act.put, List.setIfInBounds_toArray, List.set_cons_zero, List.set_cons_succ]; rfl)) (hJ4 (gb458) _ ⟨hHeld, (by (with_reducible repeat (first | refine blk_drewN ?_ _ | refine blk_drew ?_ | refine blk_alloc ?_ _)); exact BK454.out), (by (with_reducible repeat (first | refine blk_drewN ?_ _ | refine blk_drew ?_ | refine blk_alloc ?_ _)); exact BK458.out), GW458.out, GE458.out, NB454_458.out, NB458_454.out, (by repeat (first | (with_reducible first | exact HB.out | apply below_alloc | apply pw_below_drewN | apply below_drew1 | refine below_set ?_ GE454.out | refine below_set ?_ GE458.out) | exact HB.out))⟩)
                      · skip
                        refine box_step ?hg (N := 8) ?hd (cs := #[.int .u8 0, .int .i64 0, .int .i64 0, .int .i64 0, .int .i64 0, .int .i64 0, .int .i64 0, .int .i64 0, .int .i64 0, .int .i64 0]) (t := 31) ?hr ?_; (case hd => rfl); (case hg => rfl); (case hr => first | (go_simp; done) | (go_simp; rfl))
                        intro gb459 hg w19 hbox hb
                        have n0_ := Aside0.mk (blk_below (g := gb454) (o := .cells #[.int .u8 a0_0, .int .i64 a0_1, .int .i64 a0_2, .int .i64 a0_3, .int .i64 a0_4, .int .i64 a0_5, .int .i64 a0_6, .int .i64 a0_7, .int .i64 a0_8, .int .i64 a0_9] 31 (0, 0)) (by (with_reducible repeat (first | refine blk_drewN ?_ _ | refine blk_drew ?_ | refine blk_alloc ?_ _)); exact BK454.out) hb)
                        have n1_ := Aside0.mk (below_step (by repeat (first | (with_reducible first | exact HB.out | apply below_alloc | apply pw_below_drewN | apply below_drew1 | refine below_set ?_ GE454.out) | exact HB.out)) hb)
                        have n2_ := Aside0.mk (hbox)
                        have n3_ := Aside0.mk ((by rw [hg]; exact (below_size (by repeat (first | (with_reducible first | exact HB.out | apply below_alloc | apply pw_below_drewN | apply below_drew1 | refine below_set ?_ GE454.out) | exact HB.out))) : w.heap.size ≤ gb459))
                        have n4_ := Aside0.mk ((by rw [hg]; exact (below_size (by repeat (first | (with_reducible first | exact HB.out | apply below_alloc | apply pw_below_drewN | apply below_drew1 | refine below_set ?_ GE454.out) | exact HB.out))) : w.heap.size ≤ gb459))
                        have n5_ := Aside0.mk ((by rw [hg]; exact Nat.ne_of_lt (blk_lt (g := gb454) (o := .cells #[.int .u8 a0_0, .int .i64 a0_1, .int .i64 a0_2, .int .i64 a0_3, .int .i64 a0_4, .int .i64 a0_5, .int .i64 a0_6, .int .i64 a0_7, .int .i64 a0_8, .int .i64 a0_9] 31 (0, 0)) (by (with_reducible repeat (first | refine blk_drewN ?_ _ | refine blk_drew ?_ | refine blk_alloc ?_ _)); exact BK454.out)) : gb454 ≠ gb459))
                        have n6_ := Aside0.mk ((by rw [hg]; exact Nat.ne_of_gt (blk_lt (g := gb454) (o := .cells #[.int .u8 a0_0, .int .i64 a0_1, .int .i64 a0_2, .int .i64 a0_3, .int .i64 a0_4, .int .i64 a0_5, .int .i64 a0_6, .int .i64 a0_7, .int .i64 a0_8, .int .i64 a0_9] 31 (0, 0)) (by (with_reducible repeat (first | refine blk_drewN ?_ _ | refine blk_drew ?_ | refine blk_alloc ?_ _)); exact BK454.out)) : gb459 ≠ gb454))
                        clear BK454
                        clear HB
                        have BK454 := n0_
                        have HB := n1_
                        have BK459 := n2_
                        have GW459 := n3_
                        have GE459 := n4_
                        have NB454_459 := n5_
                        have NB459_454 := n6_
                        clear n0_ n1_ n2_ n3_ n4_ n5_ n6_
                        clear hb hbox hg
                        refine hK.out _ _ ⟨(blk_cell BK454.out 0).trans rfl, (blk_cell BK454.out 1).trans rfl, (blk_cell BK454.out 2).trans rfl, (blk_cell BK454.out 3).trans rfl, (blk_cell BK454.out 4).trans rfl, (blk_cell BK454.out 5).trans rfl, (blk_cell BK454.out 6).trans rfl, (blk_cell BK454.out 7).trans rfl, (blk_cell BK454.out 8).trans rfl, (blk_cell BK454.out 9).trans rfl⟩ (fun hHeld => ?_)
                        clear hK K
                        refine norm_ (a' := ?_) ?_ ?_
                        rotate_left
                        · show Act.put _ (some 8) _ = _
                          simp only [Act.put, List.setIfInBounds_toArray, List.set_cons_zero, List.set_cons_succ, i64_w, i32_w]
                          rfl
                        exact norm_ (by first | (simp only [putAll, Act.put, List.setIfInBounds_toArray, List.set_cons_zero, List.set_cons_succ]; done) | (simp only [putAll, Act.put, List.setIfInBounds_toArray, List.set_cons_zero, List.set_cons_succ]; rfl)) (hJ5 (gb459) _ ⟨hHeld, (by (with_reducible repeat (first | refine blk_drewN ?_ _ | refine blk_drew ?_ | refine blk_alloc ?_ _)); exact BK454.out), (by (with_reducible repeat (first | refine blk_drewN ?_ _ | refine blk_drew ?_ | refine blk_alloc ?_ _)); exact BK459.out), GW459.out, GE459.out, NB454_459.out, NB459_454.out, (by repeat (first | (with_reducible first | exact HB.out | apply below_alloc | apply pw_below_drewN | apply below_drew1 | refine below_set ?_ GE454.out | refine below_set ?_ GE459.out) | exact HB.out))⟩)
                    · skip
                      rintro gb459 w20 ⟨hS_, h0_, h1_, h2_, h3_, h4_, h5_, h6_⟩
                      have n0_ : Aside0 (w20.heap[gb454]? = some (.cells #[.int .u8 a0_0, .int .i64 a0_1, .int .i64 a0_2, .int .i64 a0_3, .int .i64 a0_4, .int .i64 a0_5, .int .i64 a0_6, .int .i64 a0_7, .int .i64 a0_8, .int .i64 a0_9] 31 (0, 0))) := ⟨h0_⟩
                      have n1_ : Aside0 (w20.heap[gb459]? = some (.cells #[.int .u8 0, .int .i64 0, .int .i64 0, .int .i64 0, .int .i64 0, .int .i64 0, .int .i64 0, .int .i64 0, .int .i64 0, .int .i64 0] 31 (0, 0))) := ⟨h1_⟩
                      have n2_ : Aside0 (w.heap.size ≤ gb459) := ⟨h2_⟩
                      have n3_ : Aside0 (w.heap.size ≤ gb459) := ⟨h3_⟩
                      have n4_ : Aside0 (gb454 ≠ gb459) := ⟨h4_⟩
                      have n5_ : Aside0 (gb459 ≠ gb454) := ⟨h5_⟩
                      have n6_ : Aside0 (Below w.heap.size w w20) := ⟨h6_⟩
                      clear BK454
                      clear HB
                      clear h0_ h1_ h2_ h3_ h4_ h5_ h6_
                      have BK454 := n0_
                      have BK459 := n1_
                      have GW459 := n2_
                      have GE459 := n3_
                      have NB454_459 := n4_
                      have NB459_454 := n5_
                      have HB := n6_
                      clear n0_ n1_ n2_ n3_ n4_ n5_ n6_
                      have hHeld : w20.cell? ⟨gb454, 0, none⟩ = some (.int .u8 a0_0) ∧ w20.cell? ⟨gb454, 1, none⟩ = some (.int .i64 a0_1) ∧ w20.cell? ⟨gb454, 2, none⟩ = some (.int .i64 a0_2) ∧ w20.cell? ⟨gb454, 3, none⟩ = some (.int .i64 a0_3) ∧ w20.cell? ⟨gb454, 4, none⟩ = some (.int .i64 a0_4) ∧ w20.cell? ⟨gb454, 5, none⟩ = some (.int .i64 a0_5) ∧ w20.cell? ⟨gb454, 6, none⟩ = some (.int .i64 a0_6) ∧ w20.cell? ⟨gb454, 7, none⟩ = some (.int .i64 a0_7) ∧ w20.cell? ⟨gb454, 8, none⟩ = some (.int .i64 a0_8) ∧ w20.cell? ⟨gb454, 9, none⟩ = some (.int .i64 a0_9) := hS_
                      refine norm_ (a' := ?_) ?_ ?_
                      rotate_left
                      · simp only [putAll, Act.put, List.setIfInBounds_toArray, List.set_cons_zero, List.set_cons_succ]
                        rfl
                      refine two_ (i := 3) (j := 4) (Ni := some 6) (Nj := some 7) #[true, true, true, true, false, true, false, false, false] #[true, true, true, false, true, true, false, false, false] rfl rfl rfl rfl (two_of HT_.out (by kernel_rfl)) (by decide) (by decide) (fun K hK => ?_) (fun K hK => ?_)
                      · skip
                        refine box_step ?hg (N := 6) ?hd (cs := #[.int .u8 0, .int .i64 0, .int .i64 0, .int .i64 0, .int .i64 0, .int .i64 0, .int .i64 0, .int .i64 0, .int .i64 0, .int .i64 0]) (t := 31) ?hr ?_; (case hd => rfl); (case hg => rfl); (case hr => first | (go_simp; done) | (go_simp; rfl))
                        intro gb457 hg w21 hbox hb
                        have n0_ := Aside0.mk (blk_below (g := gb454) (o := .cells #[.int .u8 a0_0, .int .i64 a0_1, .int .i64 a0_2, .int .i64 a0_3, .int .i64 a0_4, .int .i64 a0_5, .int .i64 a0_6, .int .i64 a0_7, .int .i64 a0_8, .int .i64 a0_9] 31 (0, 0)) (by (with_reducible repeat (first | refine blk_drewN ?_ _ | refine blk_drew ?_ | refine blk_alloc ?_ _)); exact BK454.out) hb)
                        have n1_ := Aside0.mk (blk_below (g := gb459) (o := .cells #[.int .u8 0, .int .i64 0, .int .i64 0, .int .i64 0, .int .i64 0, .int .i64 0, .int .i64 0, .int .i64 0, .int .i64 0, .int .i64 0] 31 (0, 0)) (by (with_reducible repeat (first | refine blk_drewN ?_ _ | refine blk_drew ?_ | refine blk_alloc ?_ _)); exact BK459.out) hb)
                        have n2_ := Aside0.mk (below_step (by repeat (first | (with_reducible first | exact HB.out | apply below_alloc | apply pw_below_drewN | apply below_drew1 | refine below_set ?_ GE454.out | refine below_set ?_ GE459.out) | exact HB.out)) hb)
                        have n3_ := Aside0.mk (hbox)
                        have n4_ := Aside0.mk ((by rw [hg]; exact (below_size (by repeat (first | (with_reducible first | exact HB.out | apply below_alloc | apply pw_below_drewN | apply below_drew1 | refine below_set ?_ GE454.out | refine below_set ?_ GE459.out) | exact HB.out))) : w.heap.size ≤ gb457))
                        have n5_ := Aside0.mk ((by rw [hg]; exact (below_size (by repeat (first | (with_reducible first | exact HB.out | apply below_alloc | apply pw_below_drewN | apply below_drew1 | refine below_set ?_ GE454.out | refine below_set ?_ GE459.out) | exact HB.out))) : w.heap.size ≤ gb457))
                        have n6_ := Aside0.mk ((by rw [hg]; exact Nat.ne_of_lt (blk_lt (g := gb454) (o := .cells #[.int .u8 a0_0, .int .i64 a0_1, .int .i64 a0_2, .int .i64 a0_3, .int .i64 a0_4, .int .i64 a0_5, .int .i64 a0_6, .int .i64 a0_7, .int .i64 a0_8, .int .i64 a0_9] 31 (0, 0)) (by (with_reducible repeat (first | refine blk_drewN ?_ _ | refine blk_drew ?_ | refine blk_alloc ?_ _)); exact BK454.out)) : gb454 ≠ gb457))
                        have n7_ := Aside0.mk ((by rw [hg]; exact Nat.ne_of_gt (blk_lt (g := gb454) (o := .cells #[.int .u8 a0_0, .int .i64 a0_1, .int .i64 a0_2, .int .i64 a0_3, .int .i64 a0_4, .int .i64 a0_5, .int .i64 a0_6, .int .i64 a0_7, .int .i64 a0_8, .int .i64 a0_9] 31 (0, 0)) (by (with_reducible repeat (first | refine blk_drewN ?_ _ | refine blk_drew ?_ | refine blk_alloc ?_ _)); exact BK454.out)) : gb457 ≠ gb454))
                        have n8_ := Aside0.mk ((by rw [hg]; exact Nat.ne_of_lt (blk_lt (g := gb459) (o := .cells #[.int .u8 0, .int .i64 0, .int .i64 0, .int .i64 0, .int .i64 0, .int .i64 0, .int .i64 0, .int .i64 0, .int .i64 0, .int .i64 0] 31 (0, 0)) (by (with_reducible repeat (first | refine blk_drewN ?_ _ | refine blk_drew ?_ | refine blk_alloc ?_ _)); exact BK459.out)) : gb459 ≠ gb457))
                        have n9_ := Aside0.mk ((by rw [hg]; exact Nat.ne_of_gt (blk_lt (g := gb459) (o := .cells #[.int .u8 0, .int .i64 0, .int .i64 0, .int .i64 0, .int .i64 0, .int .i64 0, .int .i64 0, .int .i64 0, .int .i64 0, .int .i64 0] 31 (0, 0)) (by (with_reducible repeat (first | refine blk_drewN ?_ _ | refine blk_drew ?_ | refine blk_alloc ?_ _)); exact BK459.out)) : gb457 ≠ gb459))
                        clear BK454
                        clear BK459
                        clear HB
                        have BK454 := n0_
                        have BK459 := n1_
                        have HB := n2_
                        have BK457 := n3_
                        have GW457 := n4_
                        have GE457 := n5_
                        have NB454_457 := n6_
                        have NB457_454 := n7_
                        have NB459_457 := n8_
                        have NB457_459 := n9_
                        clear n0_ n1_ n2_ n3_ n4_ n5_ n6_ n7_ n8_ n9_
                        clear hb hbox hg
                        refine hK.out _ _ ⟨(blk_cell BK454.out 0).trans rfl, (blk_cell BK454.out 1).trans rfl, (blk_cell BK454.out 2).trans rfl, (blk_cell BK454.out 3).trans rfl, (blk_cell BK454.out 4).trans rfl, (blk_cell BK454.out 5).trans rfl, (blk_cell BK454.out 6).trans rfl, (blk_cell BK454.out 7).trans rfl, (blk_cell BK454.out 8).trans rfl, (blk_cell BK454.out 9).trans rfl⟩ (fun hHeld => ?_)
                        clear hK K
                        refine norm_ (a' := ?_) ?_ ?_
                        rotate_left
                        · show Act.put _ (some 6) _ = _
                          simp only [Act.put, List.setIfInBounds_toArray, List.set_cons_zero, List.set_cons_succ, i64_w, i32_w]
                          rfl
                        exact norm_ (by first | (simp only [putAll, Act.put, List.setIfInBounds_toArray, List.set_cons_zero, List.set_cons_succ]; done) | (simp only [putAll, Act.put, List.setIfInBounds_toArray, List.set_cons_zero, List.set_cons_succ]; rfl)) (hJ3_5 (gb457, gb459) _ ⟨hHeld, (by (with_reducible repeat (first | refine blk_drewN ?_ _ | refine blk_drew ?_ | refine blk_alloc ?_ _)); exact BK454.out), (by (with_reducible repeat (first | refine blk_drewN ?_ _ | refine blk_drew ?_ | refine blk_alloc ?_ _)); exact BK457.out), (by (with_reducible repeat (first | refine blk_drewN ?_ _ | refine blk_drew ?_ | refine blk_alloc ?_ _)); exact BK459.out), GW457.out, GE457.out, NB454_457.out, NB457_454.out, NB459_457.out, NB457_459.out, GW459.out, GE459.out, NB454_459.out, NB459_454.out, (by repeat (first | (with_reducible first | exact HB.out | apply below_alloc | apply pw_below_drewN | apply below_drew1 | refine below_set ?_ GE454.out | refine below_set ?_ GE459.out | refine below_set ?_ GE457.out) | exact HB.out))⟩)
                      · skip
                        refine box_step ?hg (N := 7) ?hd (cs := #[.int .u8 0, .int .i64 0, .int .i64 0, .int .i64 0, .int .i64 0, .int .i64 0, .int .i64 0, .int .i64 0, .int .i64 0, .int .i64 0]) (t := 31) ?hr ?_; (case hd => rfl); (case hg => rfl); (case hr => first | (go_simp; done) | (go_simp; rfl))
                        intro gb458 hg w21 hbox hb
                        have n0_ := Aside0.mk (blk_below (g := gb454) (o := .cells #[.int .u8 a0_0, .int .i64 a0_1, .int .i64 a0_2, .int .i64 a0_3, .int .i64 a0_4, .int .i64 a0_5, .int .i64 a0_6, .int .i64 a0_7, .int .i64 a0_8, .int .i64 a0_9] 31 (0, 0)) (by (with_reducible repeat (first | refine blk_drewN ?_ _ | refine blk_drew ?_ | refine blk_alloc ?_ _)); exact BK454.out) hb)
                        have n1_ := Aside0.mk (blk_below (g := gb459) (o := .cells #[.int .u8 0, .int .i64 0, .int .i64 0, .int .i64 0, .int .i64 0, .int .i64 0, .int .i64 0, .int .i64 0, .int .i64 0, .int .i64 0] 31 (0, 0)) (by (with_reducible repeat (first | refine blk_drewN ?_ _ | refine blk_drew ?_ | refine blk_alloc ?_ _)); exact BK459.out) hb)
                        have n2_ := Aside0.mk (below_step (by repeat (first | (with_reducible first | exact HB.out | apply below_alloc | apply pw_below_drewN | apply below_drew1 | refine below_set ?_ GE454.out | refine below_set ?_ GE459.out) | exact HB.out)) hb)
                        have n3_ := Aside0.mk (hbox)
                        have n4_ := Aside0.mk ((by rw [hg]; exact (below_size (by repeat (first | (with_reducible first | exact HB.out | apply below_alloc | apply pw_below_drewN | apply below_drew1 | refine below_set ?_ GE454.out | refine below_set ?_ GE459.out) | exact HB.out))) : w.heap.size ≤ gb458))
                        have n5_ := Aside0.mk ((by rw [hg]; exact (below_size (by repeat (first | (with_reducible first | exact HB.out | apply below_alloc | apply pw_below_drewN | apply below_drew1 | refine below_set ?_ GE454.out | refine below_set ?_ GE459.out) | exact HB.out))) : w.heap.size ≤ gb458))
                        have n6_ := Aside0.mk ((by rw [hg]; exact Nat.ne_of_lt (blk_lt (g := gb454) (o := .cells #[.int .u8 a0_0, .int .i64 a0_1, .int .i64 a0_2, .int .i64 a0_3, .int .i64 a0_4, .int .i64 a0_5, .int .i64 a0_6, .int .i64 a0_7, .int .i64 a0_8, .int .i64 a0_9] 31 (0, 0)) (by (with_reducible repeat (first | refine blk_drewN ?_ _ | refine blk_drew ?_ | refine blk_alloc ?_ _)); exact BK454.out)) : gb454 ≠ gb458))
                        have n7_ := Aside0.mk ((by rw [hg]; exact Nat.ne_of_gt (blk_lt (g := gb454) (o := .cells #[.int .u8 a0_0, .int .i64 a0_1, .int .i64 a0_2, .int .i64 a0_3, .int .i64 a0_4, .int .i64 a0_5, .int .i64 a0_6, .int .i64 a0_7, .int .i64 a0_8, .int .i64 a0_9] 31 (0, 0)) (by (with_reducible repeat (first | refine blk_drewN ?_ _ | refine blk_drew ?_ | refine blk_alloc ?_ _)); exact BK454.out)) : gb458 ≠ gb454))
                        have n8_ := Aside0.mk ((by rw [hg]; exact Nat.ne_of_lt (blk_lt (g := gb459) (o := .cells #[.int .u8 0, .int .i64 0, .int .i64 0, .int .i64 0, .int .i64 0, .int .i64 0, .int .i64 0, .int .i64 0, .int .i64 0, .int .i64 0] 31 (0, 0)) (by (with_reducible repeat (first | refine blk_drewN ?_ _ | refine blk_drew ?_ | refine blk_alloc ?_ _)); exact BK459.out)) : gb459 ≠ gb458))
                        have n9_ := Aside0.mk ((by rw [hg]; exact Nat.ne_of_gt (blk_lt (g := gb459) (o := .cells #[.int .u8 0, .int .i64 0, .int .i64 0, .int .i64 0, .int .i64 0, .int .i64 0, .int .i64 0, .int .i64 0, .int .i64 0, .int .i64 0] 31 (0, 0)) (by (with_reducible repeat (first | refine blk_drewN ?_ _ | refine blk_drew ?_ | refine blk_alloc ?_ _)); exact BK459.out)) : gb458 ≠ gb459))
                        clear BK454
                        clear BK459
                        clear HB
                        have BK454 := n0_
                        have BK459 := n1_
                        have HB := n2_
                        have BK458 := n3_
                        have GW458 := n4_
                        have GE458 := n5_
                        have NB454_458 := n6_
                        have NB458_454 := n7_
                        have NB459_458 := n8_
                        have NB458_459 := n9_
                        clear n0_ n1_ n2_ n3_ n4_ n5_ n6_ n7_ n8_ n9_
                        clear hb hbox hg
                        refine hK.out _ _ ⟨(blk_cell BK454.out 0).trans rfl, (blk_cell BK454.out 1).trans rfl, (blk_cell BK454.out 2).trans rfl, (blk_cell BK454.out 3).trans rfl, (blk_cell BK454.out 4).trans rfl, (blk_cell BK454.out 5).trans rfl, (blk_cell BK454.out 6).trans rfl, (blk_cell BK454.out 7).trans rfl, (blk_cell BK454.out 8).trans rfl, (blk_cell BK454.out 9).trans rfl⟩ (fun hHeld => ?_)
                        clear hK K
                        refine norm_ (a' := ?_) ?_ ?_
                        rotate_left
                        · show Act.put _ (some 7) _ = _
                          simp only [Act.put, List.setIfInBounds_toArray, List.set_cons_zero, List.set_cons_succ, i64_w, i32_w]
                          rfl
                        exact norm_ (by first | (simp only [putAll, Act.put, List.setIfInBounds_toArray, List.set_cons_zero, List.set_cons_succ]; done) | (simp only [putAll, Act.put, List.setIfInBounds_toArray, List.set_cons_zero, List.set_cons_succ]; rfl)) (hJ4_5 (gb458, gb459) _ ⟨hHeld, (by (with_reducible repeat (first | refine blk_drewN ?_ _ | refine blk_drew ?_ | refine blk_alloc ?_ _)); exact BK454.out), (by (with_reducible repeat (first | refine blk_drewN ?_ _ | refine blk_drew ?_ | refine blk_alloc ?_ _)); exact BK458.out), (by (with_reducible repeat (first | refine blk_drewN ?_ _ | refine blk_drew ?_ | refine blk_alloc ?_ _)); exact BK459.out), GW458.out, GE458.out, NB454_458.out, NB458_454.out, NB459_458.out, NB458_459.out, GW459.out, GE459.out, NB454_459.out, NB459_454.out, (by repeat (first | (with_reducible first | exact HB.out | apply below_alloc | apply pw_below_drewN | apply below_drew1 | refine below_set ?_ GE454.out | refine below_set ?_ GE459.out | refine below_set ?_ GE458.out) | exact HB.out))⟩)
                  · skip
                    rintro gb458 w20 ⟨hS_, h0_, h1_, h2_, h3_, h4_, h5_, h6_⟩
                    have n0_ : Aside0 (w20.heap[gb454]? = some (.cells #[.int .u8 a0_0, .int .i64 a0_1, .int .i64 a0_2, .int .i64 a0_3, .int .i64 a0_4, .int .i64 a0_5, .int .i64 a0_6, .int .i64 a0_7, .int .i64 a0_8, .int .i64 a0_9] 31 (0, 0))) := ⟨h0_⟩
                    have n1_ : Aside0 (w20.heap[gb458]? = some (.cells #[.int .u8 0, .int .i64 0, .int .i64 0, .int .i64 0, .int .i64 0, .int .i64 0, .int .i64 0, .int .i64 0, .int .i64 0, .int .i64 0] 31 (0, 0))) := ⟨h1_⟩
                    have n2_ : Aside0 (w.heap.size ≤ gb458) := ⟨h2_⟩
                    have n3_ : Aside0 (w.heap.size ≤ gb458) := ⟨h3_⟩
                    have n4_ : Aside0 (gb454 ≠ gb458) := ⟨h4_⟩
                    have n5_ : Aside0 (gb458 ≠ gb454) := ⟨h5_⟩
                    have n6_ : Aside0 (Below w.heap.size w w20) := ⟨h6_⟩
                    clear BK454
                    clear HB
                    clear h0_ h1_ h2_ h3_ h4_ h5_ h6_
                    have BK454 := n0_
                    have BK458 := n1_
                    have GW458 := n2_
                    have GE458 := n3_
                    have NB454_458 := n4_
                    have NB458_454 := n5_
                    have HB := n6_
                    clear n0_ n1_ n2_ n3_ n4_ n5_ n6_
                    have hHeld : w20.cell? ⟨gb454, 0, none⟩ = some (.int .u8 a0_0) ∧ w20.cell? ⟨gb454, 1, none⟩ = some (.int .i64 a0_1) ∧ w20.cell? ⟨gb454, 2, none⟩ = some (.int .i64 a0_2) ∧ w20.cell? ⟨gb454, 3, none⟩ = some (.int .i64 a0_3) ∧ w20.cell? ⟨gb454, 4, none⟩ = some (.int .i64 a0_4) ∧ w20.cell? ⟨gb454, 5, none⟩ = some (.int .i64 a0_5) ∧ w20.cell? ⟨gb454, 6, none⟩ = some (.int .i64 a0_6) ∧ w20.cell? ⟨gb454, 7, none⟩ = some (.int .i64 a0_7) ∧ w20.cell? ⟨gb454, 8, none⟩ = some (.int .i64 a0_8) ∧ w20.cell? ⟨gb454, 9, none⟩ = some (.int .i64 a0_9) := hS_
                    refine norm_ (a' := ?_) ?_ ?_
                    rotate_left
                    · simp only [putAll, Act.put, List.setIfInBounds_toArray, List.set_cons_zero, List.set_cons_succ]
                      rfl
                    refine two_ (i := 3) (j := 5) (Ni := some 6) (Nj := some 8) #[true, true, true, true, true, false, false, false, false] #[true, true, true, false, true, true, false, false, false] rfl rfl rfl rfl (two_of HT_.out (by kernel_rfl)) (by decide) (by decide) (fun K hK => ?_) (fun K hK => ?_)
                    · skip
                      refine box_step ?hg (N := 6) ?hd (cs := #[.int .u8 0, .int .i64 0, .int .i64 0, .int .i64 0, .int .i64 0, .int .i64 0, .int .i64 0, .int .i64 0, .int .i64 0, .int .i64 0]) (t := 31) ?hr ?_; (case hd => rfl); (case hg => rfl); (case hr => first | (go_simp; done) | (go_simp; rfl))
                      intro gb457 hg w21 hbox hb
                      have n0_ := Aside0.mk (blk_below (g := gb454) (o := .cells #[.int .u8 a0_0, .int .i64 a0_1, .int .i64 a0_2, .int .i64 a0_3, .int .i64 a0_4, .int .i64 a0_5, .int .i64 a0_6, .int .i64 a0_7, .int .i64 a0_8, .int .i64 a0_9] 31 (0, 0)) (by (with_reducible repeat (first | refine blk_drewN ?_ _ | refine blk_drew ?_ | refine blk_alloc ?_ _)); exact BK454.out) hb)
                      have n1_ := Aside0.mk (blk_below (g := gb458) (o := .cells #[.int .u8 0, .int .i64 0, .int .i64 0, .int .i64 0, .int .i64 0, .int .i64 0, .int .i64 0, .int .i64 0, .int .i64 0, .int .i64 0] 31 (0, 0)) (by (with_reducible repeat (first | refine blk_drewN ?_ _ | refine blk_drew ?_ | refine blk_alloc ?_ _)); exact BK458.out) hb)
                      have n2_ := Aside0.mk (below_step (by repeat (first | (with_reducible first | exact HB.out | apply below_alloc | apply pw_below_drewN | apply below_drew1 | refine below_set ?_ GE454.out | refine below_set ?_ GE458.out) | exact HB.out)) hb)
                      have n3_ := Aside0.mk (hbox)
                      have n4_ := Aside0.mk ((by rw [hg]; exact (below_size (by repeat (first | (with_reducible first | exact HB.out | apply below_alloc | apply pw_below_drewN | apply below_drew1 | refine below_set ?_ GE454.out | refine below_set ?_ GE458.out) | exact HB.out))) : w.heap.size ≤ gb457))
                      have n5_ := Aside0.mk ((by rw [hg]; exact (below_size (by repeat (first | (with_reducible first | exact HB.out | apply below_alloc | apply pw_below_drewN | apply below_drew1 | refine below_set ?_ GE454.out | refine below_set ?_ GE458.out) | exact HB.out))) : w.heap.size ≤ gb457))
                      have n6_ := Aside0.mk ((by rw [hg]; exact Nat.ne_of_lt (blk_lt (g := gb454) (o := .cells #[.int .u8 a0_0, .int .i64 a0_1, .int .i64 a0_2, .int .i64 a0_3, .int .i64 a0_4, .int .i64 a0_5, .int .i64 a0_6, .int .i64 a0_7, .int .i64 a0_8, .int .i64 a0_9] 31 (0, 0)) (by (with_reducible repeat (first | refine blk_drewN ?_ _ | refine blk_drew ?_ | refine blk_alloc ?_ _)); exact BK454.out)) : gb454 ≠ gb457))
                      have n7_ := Aside0.mk ((by rw [hg]; exact Nat.ne_of_gt (blk_lt (g := gb454) (o := .cells #[.int .u8 a0_0, .int .i64 a0_1, .int .i64 a0_2, .int .i64 a0_3, .int .i64 a0_4, .int .i64 a0_5, .int .i64 a0_6, .int .i64 a0_7, .int .i64 a0_8, .int .i64 a0_9] 31 (0, 0)) (by (with_reducible repeat (first | refine blk_drewN ?_ _ | refine blk_drew ?_ | refine blk_alloc ?_ _)); exact BK454.out)) : gb457 ≠ gb454))
                      have n8_ := Aside0.mk ((by rw [hg]; exact Nat.ne_of_lt (blk_lt (g := gb458) (o := .cells #[.int .u8 0, .int .i64 0, .int .i64 0, .int .i64 0, .int .i64 0, .int .i64 0, .int .i64 0, .int .i64 0, .int .i64 0, .int .i64 0] 31 (0, 0)) (by (with_reducible repeat (first | refine blk_drewN ?_ _ | refine blk_drew ?_ | refine blk_alloc ?_ _)); exact BK458.out)) : gb458 ≠ gb457))
                      have n9_ := Aside0.mk ((by rw [hg]; exact Nat.ne_of_gt (blk_lt (g := gb458) (o := .cells #[.int .u8 0, .int .i64 0, .int .i64 0, .int .i64 0, .int .i64 0, .int .i64 0, .int .i64 0, .int .i64 0, .int .i64 0, .int .i64 0] 31 (0, 0)) (by (with_reducible repeat (first | refine blk_drewN ?_ _ | refine blk_drew ?_ | refine blk_alloc ?_ _)); exact BK458.out)) : gb457 ≠ gb458))
                      clear BK454
                      clear BK458
                      clear HB
                      have BK454 := n0_
                      have BK458 := n1_
                      have HB := n2_
                      have BK457 := n3_
                      have GW457 := n4_
                      have GE457 := n5_
                      have NB454_457 := n6_
                      have NB457_454 := n7_
                      have NB458_457 := n8_
                      have NB457_458 := n9_
                      clear n0_ n1_ n2_ n3_ n4_ n5_ n6_ n7_ n8_ n9_
                      clear hb hbox hg
                      refine hK.out _ _ ⟨(blk_cell BK454.out 0).trans rfl, (blk_cell BK454.out 1).trans rfl, (blk_cell BK454.out 2).trans rfl, (blk_cell BK454.out 3).trans rfl, (blk_cell BK454.out 4).trans rfl, (blk_cell BK454.out 5).trans rfl, (blk_cell BK454.out 6).trans rfl, (blk_cell BK454.out 7).trans rfl, (blk_cell BK454.out 8).trans rfl, (blk_cell BK454.out 9).trans rfl⟩ (fun hHeld => ?_)
                      clear hK K
                      refine norm_ (a' := ?_) ?_ ?_
                      rotate_left
                      · show Act.put _ (some 6) _ = _
                        simp only [Act.put, List.setIfInBounds_toArray, List.set_cons_zero, List.set_cons_succ, i64_w, i32_w]
                        rfl
                      exact norm_ (by first | (simp only [putAll, Act.put, List.setIfInBounds_toArray, List.set_cons_zero, List.set_cons_succ]; done) | (simp only [putAll, Act.put, List.setIfInBounds_toArray, List.set_cons_zero, List.set_cons_succ]; rfl)) (hJ3_4 (gb457, gb458) _ ⟨hHeld, (by (with_reducible repeat (first | refine blk_drewN ?_ _ | refine blk_drew ?_ | refine blk_alloc ?_ _)); exact BK454.out), (by (with_reducible repeat (first | refine blk_drewN ?_ _ | refine blk_drew ?_ | refine blk_alloc ?_ _)); exact BK457.out), (by (with_reducible repeat (first | refine blk_drewN ?_ _ | refine blk_drew ?_ | refine blk_alloc ?_ _)); exact BK458.out), GW457.out, GE457.out, NB454_457.out, NB457_454.out, NB458_457.out, NB457_458.out, GW458.out, GE458.out, NB454_458.out, NB458_454.out, (by repeat (first | (with_reducible first | exact HB.out | apply below_alloc | apply pw_below_drewN | apply below_drew1 | refine below_set ?_ GE454.out | refine below_set ?_ GE458.out | refine below_set ?_ GE457.out) | exact HB.out))⟩)
                    · skip
                      refine box_step ?hg (N := 8) ?hd (cs := #[.int .u8 0, .int .i64 0, .int .i64 0, .int .i64 0, .int .i64 0, .int .i64 0, .int .i64 0, .int .i64 0, .int .i64 0, .int .i64 0]) (t := 31) ?hr ?_; (case hd => rfl); (case hg => rfl); (case hr => first | (go_simp; done) | (go_simp; rfl))
                      intro gb459 hg w21 hbox hb
                      have n0_ := Aside0.mk (blk_below (g := gb454) (o := .cells #[.int .u8 a0_0, .int .i64 a0_1, .int .i64 a0_2, .int .i64 a0_3, .int .i64 a0_4, .int .i64 a0_5, .int .i64 a0_6, .int .i64 a0_7, .int .i64 a0_8, .int .i64 a0_9] 31 (0, 0)) (by (with_reducible repeat (first | refine blk_drewN ?_ _ | refine blk_drew ?_ | refine blk_alloc ?_ _)); exact BK454.out) hb)
                      have n1_ := Aside0.mk (blk_below (g := gb458) (o := .cells #[.int .u8 0, .int .i64 0, .int .i64 0, .int .i64 0, .int .i64 0, .int .i64 0, .int .i64 0, .int .i64 0, .int .i64 0, .int .i64 0] 31 (0, 0)) (by (with_reducible repeat (first | refine blk_drewN ?_ _ | refine blk_drew ?_ | refine blk_alloc ?_ _)); exact BK458.out) hb)
                      have n2_ := Aside0.mk (below_step (by repeat (first | (with_reducible first | exact HB.out | apply below_alloc | apply pw_below_drewN | apply below_drew1 | refine below_set ?_ GE454.out | refine below_set ?_ GE458.out) | exact HB.out)) hb)
                      have n3_ := Aside0.mk (hbox)
                      have n4_ := Aside0.mk ((by rw [hg]; exact (below_size (by repeat (first | (with_reducible first | exact HB.out | apply below_alloc | apply pw_below_drewN | apply below_drew1 | refine below_set ?_ GE454.out | refine below_set ?_ GE458.out) | exact HB.out))) : w.heap.size ≤ gb459))
                      have n5_ := Aside0.mk ((by rw [hg]; exact (below_size (by repeat (first | (with_reducible first | exact HB.out | apply below_alloc | apply pw_below_drewN | apply below_drew1 | refine below_set ?_ GE454.out | refine below_set ?_ GE458.out) | exact HB.out))) : w.heap.size ≤ gb459))
                      have n6_ := Aside0.mk ((by rw [hg]; exact Nat.ne_of_lt (blk_lt (g := gb454) (o := .cells #[.int .u8 a0_0, .int .i64 a0_1, .int .i64 a0_2, .int .i64 a0_3, .int .i64 a0_4, .int .i64 a0_5, .int .i64 a0_6, .int .i64 a0_7, .int .i64 a0_8, .int .i64 a0_9] 31 (0, 0)) (by (with_reducible repeat (first | refine blk_drewN ?_ _ | refine blk_drew ?_ | refine blk_alloc ?_ _)); exact BK454.out)) : gb454 ≠ gb459))
                      have n7_ := Aside0.mk ((by rw [hg]; exact Nat.ne_of_gt (blk_lt (g := gb454) (o := .cells #[.int .u8 a0_0, .int .i64 a0_1, .int .i64 a0_2, .int .i64 a0_3, .int .i64 a0_4, .int .i64 a0_5, .int .i64 a0_6, .int .i64 a0_7, .int .i64 a0_8, .int .i64 a0_9] 31 (0, 0)) (by (with_reducible repeat (first | refine blk_drewN ?_ _ | refine blk_drew ?_ | refine blk_alloc ?_ _)); exact BK454.out)) : gb459 ≠ gb454))
                      have n8_ := Aside0.mk ((by rw [hg]; exact Nat.ne_of_lt (blk_lt (g := gb458) (o := .cells #[.int .u8 0, .int .i64 0, .int .i64 0, .int .i64 0, .int .i64 0, .int .i64 0, .int .i64 0, .int .i64 0, .int .i64 0, .int .i64 0] 31 (0, 0)) (by (with_reducible repeat (first | refine blk_drewN ?_ _ | refine blk_drew ?_ | refine blk_alloc ?_ _)); exact BK458.out)) : gb458 ≠ gb459))
                      have n9_ := Aside0.mk ((by rw [hg]; exact Nat.ne_of_gt (blk_lt (g := gb458) (o := .cells #[.int .u8 0, .int .i64 0, .int .i64 0, .int .i64 0, .int .i64 0, .int .i64 0, .int .i64 0, .int .i64 0, .int .i64 0, .int .i64 0] 31 (0, 0)) (by (with_reducible repeat (first | refine blk_drewN ?_ _ | refine blk_drew ?_ | refine blk_alloc ?_ _)); exact BK458.out)) : gb459 ≠ gb458))
                      clear BK454
                      clear BK458
                      clear HB
                      have BK454 := n0_
                      have BK458 := n1_
                      have HB := n2_
                      have BK459 := n3_
                      have GW459 := n4_
                      have GE459 := n5_
                      have NB454_459 := n6_
                      have NB459_454 := n7_
                      have NB458_459 := n8_
                      have NB459_458 := n9_
                      clear n0_ n1_ n2_ n3_ n4_ n5_ n6_ n7_ n8_ n9_
                      clear hb hbox hg
                      refine hK.out _ _ ⟨(blk_cell BK454.out 0).trans rfl, (blk_cell BK454.out 1).trans rfl, (blk_cell BK454.out 2).trans rfl, (blk_cell BK454.out 3).trans rfl, (blk_cell BK454.out 4).trans rfl, (blk_cell BK454.out 5).trans rfl, (blk_cell BK454.out 6).trans rfl, (blk_cell BK454.out 7).trans rfl, (blk_cell BK454.out 8).trans rfl, (blk_cell BK454.out 9).trans rfl⟩ (fun hHeld => ?_)
                      clear hK K
                      refine norm_ (a' := ?_) ?_ ?_
                      rotate_left
                      · show Act.put _ (some 8) _ = _
                        simp only [Act.put, List.setIfInBounds_toArray, List.set_cons_zero, List.set_cons_succ, i64_w, i32_w]
                        rfl
                      exact norm_ (by first | (simp only [putAll, Act.put, List.setIfInBounds_toArray, List.set_cons_zero, List.set_cons_succ]; done) | (simp only [putAll, Act.put, List.setIfInBounds_toArray, List.set_cons_zero, List.set_cons_succ]; rfl)) (hJ4_5 (gb458, gb459) _ ⟨hHeld, (by (with_reducible repeat (first | refine blk_drewN ?_ _ | refine blk_drew ?_ | refine blk_alloc ?_ _)); exact BK454.out), (by (with_reducible repeat (first | refine blk_drewN ?_ _ | refine blk_drew ?_ | refine blk_alloc ?_ _)); exact BK458.out), (by (with_reducible repeat (first | refine blk_drewN ?_ _ | refine blk_drew ?_ | refine blk_alloc ?_ _)); exact BK459.out), GW458.out, GE458.out, NB454_458.out, NB458_454.out, NB459_458.out, NB458_459.out, GW459.out, GE459.out, NB454_459.out, NB459_454.out, (by repeat (first | (with_reducible first | exact HB.out | apply below_alloc | apply pw_below_drewN | apply below_drew1 | refine below_set ?_ GE454.out | refine below_set ?_ GE458.out | refine below_set ?_ GE459.out) | exact HB.out))⟩)
                · skip
                  rintro gb457 w20 ⟨hS_, h0_, h1_, h2_, h3_, h4_, h5_, h6_⟩
                  have n0_ : Aside0 (w20.heap[gb454]? = some (.cells #[.int .u8 a0_0, .int .i64 a0_1, .int .i64 a0_2, .int .i64 a0_3, .int .i64 a0_4, .int .i64 a0_5, .int .i64 a0_6, .int .i64 a0_7, .int .i64 a0_8, .int .i64 a0_9] 31 (0, 0))) := ⟨h0_⟩
                  have n1_ : Aside0 (w20.heap[gb457]? = some (.cells #[.int .u8 0, .int .i64 0, .int .i64 0, .int .i64 0, .int .i64 0, .int .i64 0, .int .i64 0, .int .i64 0, .int .i64 0, .int .i64 0] 31 (0, 0))) := ⟨h1_⟩
                  have n2_ : Aside0 (w.heap.size ≤ gb457) := ⟨h2_⟩
                  have n3_ : Aside0 (w.heap.size ≤ gb457) := ⟨h3_⟩
                  have n4_ : Aside0 (gb454 ≠ gb457) := ⟨h4_⟩
                  have n5_ : Aside0 (gb457 ≠ gb454) := ⟨h5_⟩
                  have n6_ : Aside0 (Below w.heap.size w w20) := ⟨h6_⟩
                  clear BK454
                  clear HB
                  clear h0_ h1_ h2_ h3_ h4_ h5_ h6_
                  have BK454 := n0_
                  have BK457 := n1_
                  have GW457 := n2_
                  have GE457 := n3_
                  have NB454_457 := n4_
                  have NB457_454 := n5_
                  have HB := n6_
                  clear n0_ n1_ n2_ n3_ n4_ n5_ n6_
                  have hHeld : w20.cell? ⟨gb454, 0, none⟩ = some (.int .u8 a0_0) ∧ w20.cell? ⟨gb454, 1, none⟩ = some (.int .i64 a0_1) ∧ w20.cell? ⟨gb454, 2, none⟩ = some (.int .i64 a0_2) ∧ w20.cell? ⟨gb454, 3, none⟩ = some (.int .i64 a0_3) ∧ w20.cell? ⟨gb454, 4, none⟩ = some (.int .i64 a0_4) ∧ w20.cell? ⟨gb454, 5, none⟩ = some (.int .i64 a0_5) ∧ w20.cell? ⟨gb454, 6, none⟩ = some (.int .i64 a0_6) ∧ w20.cell? ⟨gb454, 7, none⟩ = some (.int .i64 a0_7) ∧ w20.cell? ⟨gb454, 8, none⟩ = some (.int .i64 a0_8) ∧ w20.cell? ⟨gb454, 9, none⟩ = some (.int .i64 a0_9) := hS_
                  refine norm_ (a' := ?_) ?_ ?_
                  rotate_left
                  · simp only [putAll, Act.put, List.setIfInBounds_toArray, List.set_cons_zero, List.set_cons_succ]
                    rfl
                  refine two_ (i := 4) (j := 5) (Ni := some 7) (Nj := some 8) #[true, true, true, true, true, false, false, false, false] #[true, true, true, true, false, true, false, false, false] rfl rfl rfl rfl (two_of HT_.out (by kernel_rfl)) (by decide) (by decide) (fun K hK => ?_) (fun K hK => ?_)
                  · skip
                    refine box_step ?hg (N := 7) ?hd (cs := #[.int .u8 0, .int .i64 0, .int .i64 0, .int .i64 0, .int .i64 0, .int .i64 0, .int .i64 0, .int .i64 0, .int .i64 0, .int .i64 0]) (t := 31) ?hr ?_; (case hd => rfl); (case hg => rfl); (case hr => first | (go_simp; done) | (go_simp; rfl))
                    intro gb458 hg w21 hbox hb
                    have n0_ := Aside0.mk (blk_below (g := gb454) (o := .cells #[.int .u8 a0_0, .int .i64 a0_1, .int .i64 a0_2, .int .i64 a0_3, .int .i64 a0_4, .int .i64 a0_5, .int .i64 a0_6, .int .i64 a0_7, .int .i64 a0_8, .int .i64 a0_9] 31 (0, 0)) (by (with_reducible repeat (first | refine blk_drewN ?_ _ | refine blk_drew ?_ | refine blk_alloc ?_ _)); exact BK454.out) hb)
                    have n1_ := Aside0.mk (blk_below (g := gb457) (o := .cells #[.int .u8 0, .int .i64 0, .int .i64 0, .int .i64 0, .int .i64 0, .int .i64 0, .int .i64 0, .int .i64 0, .int .i64 0, .int .i64 0] 31 (0, 0)) (by (with_reducible repeat (first | refine blk_drewN ?_ _ | refine blk_drew ?_ | refine blk_alloc ?_ _)); exact BK457.out) hb)
                    have n2_ := Aside0.mk (below_step (by repeat (first | (with_reducible first | exact HB.out | apply below_alloc | apply pw_below_drewN | apply below_drew1 | refine below_set ?_ GE454.out | refine below_set ?_ GE457.out) | exact HB.out)) hb)
                    have n3_ := Aside0.mk (hbox)
                    have n4_ := Aside0.mk ((by rw [hg]; exact (below_size (by repeat (first | (with_reducible first | exact HB.out | apply below_alloc | apply pw_below_drewN | apply below_drew1 | refine below_set ?_ GE454.out | refine below_set ?_ GE457.out) | exact HB.out))) : w.heap.size ≤ gb458))
                    have n5_ := Aside0.mk ((by rw [hg]; exact (below_size (by repeat (first | (with_reducible first | exact HB.out | apply below_alloc | apply pw_below_drewN | apply below_drew1 | refine below_set ?_ GE454.out | refine below_set ?_ GE457.out) | exact HB.out))) : w.heap.size ≤ gb458))
                    have n6_ := Aside0.mk ((by rw [hg]; exact Nat.ne_of_lt (blk_lt (g := gb454) (o := .cells #[.int .u8 a0_0, .int .i64 a0_1, .int .i64 a0_2, .int .i64 a0_3, .int .i64 a0_4, .int .i64 a0_5, .int .i64 a0_6, .int .i64 a0_7, .int .i64 a0_8, .int .i64 a0_9] 31 (0, 0)) (by (with_reducible repeat (first | refine blk_drewN ?_ _ | refine blk_drew ?_ | refine blk_alloc ?_ _)); exact BK454.out)) : gb454 ≠ gb458))
                    have n7_ := Aside0.mk ((by rw [hg]; exact Nat.ne_of_gt (blk_lt (g := gb454) (o := .cells #[.int .u8 a0_0, .int .i64 a0_1, .int .i64 a0_2, .int .i64 a0_3, .int .i64 a0_4, .int .i64 a0_5, .int .i64 a0_6, .int .i64 a0_7, .int .i64 a0_8, .int .i64 a0_9] 31 (0, 0)) (by (with_reducible repeat (first | refine blk_drewN ?_ _ | refine blk_drew ?_ | refine blk_alloc ?_ _)); exact BK454.out)) : gb458 ≠ gb454))
                    have n8_ := Aside0.mk ((by rw [hg]; exact Nat.ne_of_lt (blk_lt (g := gb457) (o := .cells #[.int .u8 0, .int .i64 0, .int .i64 0, .int .i64 0, .int .i64 0, .int .i64 0, .int .i64 0, .int .i64 0, .int .i64 0, .int .i64 0] 31 (0, 0)) (by (with_reducible repeat (first | refine blk_drewN ?_ _ | refine blk_drew ?_ | refine blk_alloc ?_ _)); exact BK457.out)) : gb457 ≠ gb458))
                    have n9_ := Aside0.mk ((by rw [hg]; exact Nat.ne_of_gt (blk_lt (g := gb457) (o := .cells #[.int .u8 0, .int .i64 0, .int .i64 0, .int .i64 0, .int .i64 0, .int .i64 0, .int .i64 0, .int .i64 0, .int .i64 0, .int .i64 0] 31 (0, 0)) (by (with_reducible repeat (first | refine blk_drewN ?_ _ | refine blk_drew ?_ | refine blk_alloc ?_ _)); exact BK457.out)) : gb458 ≠ gb457))
                    clear BK454
                    clear BK457
                    clear HB
                    have BK454 := n0_
                    have BK457 := n1_
                    have HB := n2_
                    have BK458 := n3_
                    have GW458 := n4_
                    have GE458 := n5_
                    have NB454_458 := n6_
                    have NB458_454 := n7_
                    have NB457_458 := n8_
                    have NB458_457 := n9_
                    clear n0_ n1_ n2_ n3_ n4_ n5_ n6_ n7_ n8_ n9_
                    clear hb hbox hg
                    refine hK.out _ _ ⟨(blk_cell BK454.out 0).trans rfl, (blk_cell BK454.out 1).trans rfl, (blk_cell BK454.out 2).trans rfl, (blk_cell BK454.out 3).trans rfl, (blk_cell BK454.out 4).trans rfl, (blk_cell BK454.out 5).trans rfl, (blk_cell BK454.out 6).trans rfl, (blk_cell BK454.out 7).trans rfl, (blk_cell BK454.out 8).trans rfl, (blk_cell BK454.out 9).trans rfl⟩ (fun hHeld => ?_)
                    clear hK K
                    refine norm_ (a' := ?_) ?_ ?_
                    rotate_left
                    · show Act.put _ (some 7) _ = _
                      simp only [Act.put, List.setIfInBounds_toArray, List.set_cons_zero, List.set_cons_succ, i64_w, i32_w]
                      rfl
                    exact norm_ (by first | (simp only [putAll, Act.put, List.setIfInBounds_toArray, List.set_cons_zero, List.set_cons_succ]; done) | (simp only [putAll, Act.put, List.setIfInBounds_toArray, List.set_cons_zero, List.set_cons_succ]; rfl)) (hJ3_4 (gb457, gb458) _ ⟨hHeld, (by (with_reducible repeat (first | refine blk_drewN ?_ _ | refine blk_drew ?_ | refine blk_alloc ?_ _)); exact BK454.out), (by (with_reducible repeat (first | refine blk_drewN ?_ _ | refine blk_drew ?_ | refine blk_alloc ?_ _)); exact BK457.out), (by (with_reducible repeat (first | refine blk_drewN ?_ _ | refine blk_drew ?_ | refine blk_alloc ?_ _)); exact BK458.out), GW457.out, GE457.out, NB454_457.out, NB457_454.out, NB458_457.out, NB457_458.out, GW458.out, GE458.out, NB454_458.out, NB458_454.out, (by repeat (first | (with_reducible first | exact HB.out | apply below_alloc | apply pw_below_drewN | apply below_drew1 | refine below_set ?_ GE454.out | refine below_set ?_ GE457.out | refine below_set ?_ GE458.out) | exact HB.out))⟩)
                  · skip
                    refine box_step ?hg (N := 8) ?hd (cs := #[.int .u8 0, .int .i64 0, .int .i64 0, .int .i64 0, .int .i64 0, .int .i64 0, .int .i64 0, .int .i64 0, .int .i64 0, .int .i64 0]) (t := 31) ?hr ?_; (case hd => rfl); (case hg => rfl); (case hr => first | (go_simp; done) | (go_simp; rfl))
                    intro gb459 hg w21 hbox hb
                    have n0_ := Aside0.mk (blk_below (g := gb454) (o := .cells #[.int .u8 a0_0, .int .i64 a0_1, .int .i64 a0_2, .int .i64 a0_3, .int .i64 a0_4, .int .i64 a0_5, .int .i64 a0_6, .int .i64 a0_7, .int .i64 a0_8, .int .i64 a0_9] 31 (0, 0)) (by (with_reducible repeat (first | refine blk_drewN ?_ _ | refine blk_drew ?_ | refine blk_alloc ?_ _)); exact BK454.out) hb)
                    have n1_ := Aside0.mk (blk_below (g := gb457) (o := .cells #[.int .u8 0, .int .i64 0, .int .i64 0, .int .i64 0, .int .i64 0, .int .i64 0, .int .i64 0, .int .i64 0, .int .i64 0, .int .i64 0] 31 (0, 0)) (by (with_reducible repeat (first | refine blk_drewN ?_ _ | refine blk_drew ?_ | refine blk_alloc ?_ _)); exact BK457.out) hb)
                    have n2_ := Aside0.mk (below_step (by repeat (first | (with_reducible first | exact HB.out | apply below_alloc | apply pw_below_drewN | apply below_drew1 | refine below_set ?_ GE454.out | refine below_set ?_ GE457.out) | exact HB.out)) hb)
                    have n3_ := Aside0.mk (hbox)
                    have n4_ := Aside0.mk ((by rw [hg]; exact (below_size (by repeat (first | (with_reducible first | exact HB.out | apply below_alloc | apply pw_below_drewN | apply below_drew1 | refine below_set ?_ GE454.out | refine below_set ?_ GE457.out) | exact HB.out))) : w.heap.size ≤ gb459))
                    have n5_ := Aside0.mk ((by rw [hg]; exact (below_size (by repeat (first | (with_reducible first | exact HB.out | apply below_alloc | apply pw_below_drewN | apply below_drew1 | refine below_set ?_ GE454.out | refine below_set ?_ GE457.out) | exact HB.out))) : w.heap.size ≤ gb459))
                    have n6_ := Aside0.mk ((by rw [hg]; exact Nat.ne_of_lt (blk_lt (g := gb454) (o := .cells #[.int .u8 a0_0, .int .i64 a0_1, .int .i64 a0_2, .int .i64 a0_3, .int .i64 a0_4, .int .i64 a0_5, .int .i64 a0_6, .int .i64 a0_7, .int .i64 a0_8, .int .i64 a0_9] 31 (0, 0)) (by (with_reducible repeat (first | refine blk_drewN ?_ _ | refine blk_drew ?_ | refine blk_alloc ?_ _)); exact BK454.out)) : gb454 ≠ gb459))
                    have n7_ := Aside0.mk ((by rw [hg]; exact Nat.ne_of_gt (blk_lt (g := gb454) (o := .cells #[.int .u8 a0_0, .int .i64 a0_1, .int .i64 a0_2, .int .i64 a0_3, .int .i64 a0_4, .int .i64 a0_5, .int .i64 a0_6, .int .i64 a0_7, .int .i64 a0_8, .int .i64 a0_9] 31 (0, 0)) (by (with_reducible repeat (first | refine blk_drewN ?_ _ | refine blk_drew ?_ | refine blk_alloc ?_ _)); exact BK454.out)) : gb459 ≠ gb454))
                    have n8_ := Aside0.mk ((by rw [hg]; exact Nat.ne_of_lt (blk_lt (g := gb457) (o := .cells #[.int .u8 0, .int .i64 0, .int .i64 0, .int .i64 0, .int .i64 0, .int .i64 0, .int .i64 0, .int .i64 0, .int .i64 0, .int .i64 0] 31 (0, 0)) (by (with_reducible repeat (first | refine blk_drewN ?_ _ | refine blk_drew ?_ | refine blk_alloc ?_ _)); exact BK457.out)) : gb457 ≠ gb459))
                    have n9_ := Aside0.mk ((by rw [hg]; exact Nat.ne_of_gt (blk_lt (g := gb457) (o := .cells #[.int .u8 0, .int .i64 0, .int .i64 0, .int .i64 0, .int .i64 0, .int .i64 0, .int .i64 0, .int .i64 0, .int .i64 0, .int .i64 0] 31 (0, 0)) (by (with_reducible repeat (first | refine blk_drewN ?_ _ | refine blk_drew ?_ | refine blk_alloc ?_ _)); exact BK457.out)) : gb459 ≠ gb457))
                    clear BK454
                    clear BK457
                    clear HB
                    have BK454 := n0_
                    have BK457 := n1_
                    have HB := n2_
                    have BK459 := n3_
                    have GW459 := n4_
                    have GE459 := n5_
                    have NB454_459 := n6_
                    have NB459_454 := n7_
                    have NB457_459 := n8_
                    have NB459_457 := n9_
                    clear n0_ n1_ n2_ n3_ n4_ n5_ n6_ n7_ n8_ n9_
                    clear hb hbox hg
                    refine hK.out _ _ ⟨(blk_cell BK454.out 0).trans rfl, (blk_cell BK454.out 1).trans rfl, (blk_cell BK454.out 2).trans rfl, (blk_cell BK454.out 3).trans rfl, (blk_cell BK454.out 4).trans rfl, (blk_cell BK454.out 5).trans rfl, (blk_cell BK454.out 6).trans rfl, (blk_cell BK454.out 7).trans rfl, (blk_cell BK454.out 8).trans rfl, (blk_cell BK454.out 9).trans rfl⟩ (fun hHeld => ?_)
                    clear hK K
                    refine norm_ (a' := ?_) ?_ ?_
                    rotate_left
                    · show Act.put _ (some 8) _ = _
                      simp only [Act.put, List.setIfInBounds_toArray, List.set_cons_zero, List.set_cons_succ, i64_w, i32_w]
                      rfl
                    exact norm_ (by first | (simp only [putAll, Act.put, List.setIfInBounds_toArray, List.set_cons_zero, List.set_cons_succ]; done) | (simp only [putAll, Act.put, List.setIfInBounds_toArray, List.set_cons_zero, List.set_cons_succ]; rfl)) (hJ3_5 (gb457, gb459) _ ⟨hHeld, (by (with_reducible repeat (first | refine blk_drewN ?_ _ | refine blk_drew ?_ | refine blk_alloc ?_ _)); exact BK454.out), (by (with_reducible repeat (first | refine blk_drewN ?_ _ | refine blk_drew ?_ | refine blk_alloc ?_ _)); exact BK457.out), (by (with_reducible repeat (first | refine blk_drewN ?_ _ | refine blk_drew ?_ | refine blk_alloc ?_ _)); exact BK459.out), GW457.out, GE457.out, NB454_457.out, NB457_454.out, NB459_457.out, NB457_459.out, GW459.out, GE459.out, NB454_459.out, NB459_454.out, (by repeat (first | (with_reducible first | exact HB.out | apply below_alloc | apply pw_below_drewN | apply below_drew1 | refine below_set ?_ GE454.out | refine below_set ?_ GE457.out | refine below_set ?_ GE459.out) | exact HB.out))⟩)
              · skip
                rintro ⟨gb458, gb459⟩ w21 ⟨hS_, h0_, h1_, h2_, h3_, h4_, h5_, h6_, h7_, h8_, h9_, h10_, h11_, h12_, h13_⟩
                have n0_ : Aside0 (w21.heap[gb454]? = some (.cells #[.int .u8 a0_0, .int .i64 a0_1, .int .i64 a0_2, .int .i64 a0_3, .int .i64 a0_4, .int .i64 a0_5, .int .i64 a0_6, .int .i64 a0_7, .int .i64 a0_8, .int .i64 a0_9] 31 (0, 0))) := ⟨h0_⟩
                have n1_ : Aside0 (w21.heap[gb458]? = some (.cells #[.int .u8 0, .int .i64 0, .int .i64 0, .int .i64 0, .int .i64 0, .int .i64 0, .int .i64 0, .int .i64 0, .int .i64 0, .int .i64 0] 31 (0, 0))) := ⟨h1_⟩
                have n2_ : Aside0 (w21.heap[gb459]? = some (.cells #[.int .u8 0, .int .i64 0, .int .i64 0, .int .i64 0, .int .i64 0, .int .i64 0, .int .i64 0, .int .i64 0, .int .i64 0, .int .i64 0] 31 (0, 0))) := ⟨h2_⟩
                have n3_ : Aside0 (w.heap.size ≤ gb458) := ⟨h3_⟩
                have n4_ : Aside0 (w.heap.size ≤ gb458) := ⟨h4_⟩
                have n5_ : Aside0 (gb454 ≠ gb458) := ⟨h5_⟩
                have n6_ : Aside0 (gb458 ≠ gb454) := ⟨h6_⟩
                have n7_ : Aside0 (gb459 ≠ gb458) := ⟨h7_⟩
                have n8_ : Aside0 (gb458 ≠ gb459) := ⟨h8_⟩
                have n9_ : Aside0 (w.heap.size ≤ gb459) := ⟨h9_⟩
                have n10_ : Aside0 (w.heap.size ≤ gb459) := ⟨h10_⟩
                have n11_ : Aside0 (gb454 ≠ gb459) := ⟨h11_⟩
                have n12_ : Aside0 (gb459 ≠ gb454) := ⟨h12_⟩
                have n13_ : Aside0 (Below w.heap.size w w21) := ⟨h13_⟩
                clear BK454
                clear HB
                clear h0_ h1_ h2_ h3_ h4_ h5_ h6_ h7_ h8_ h9_ h10_ h11_ h12_ h13_
                have BK454 := n0_
                have BK458 := n1_
                have BK459 := n2_
                have GW458 := n3_
                have GE458 := n4_
                have NB454_458 := n5_
                have NB458_454 := n6_
                have NB459_458 := n7_
                have NB458_459 := n8_
                have GW459 := n9_
                have GE459 := n10_
                have NB454_459 := n11_
                have NB459_454 := n12_
                have HB := n13_
                clear n0_ n1_ n2_ n3_ n4_ n5_ n6_ n7_ n8_ n9_ n10_ n11_ n12_ n13_
                have hHeld : w21.cell? ⟨gb454, 0, none⟩ = some (.int .u8 a0_0) ∧ w21.cell? ⟨gb454, 1, none⟩ = some (.int .i64 a0_1) ∧ w21.cell? ⟨gb454, 2, none⟩ = some (.int .i64 a0_2) ∧ w21.cell? ⟨gb454, 3, none⟩ = some (.int .i64 a0_3) ∧ w21.cell? ⟨gb454, 4, none⟩ = some (.int .i64 a0_4) ∧ w21.cell? ⟨gb454, 5, none⟩ = some (.int .i64 a0_5) ∧ w21.cell? ⟨gb454, 6, none⟩ = some (.int .i64 a0_6) ∧ w21.cell? ⟨gb454, 7, none⟩ = some (.int .i64 a0_7) ∧ w21.cell? ⟨gb454, 8, none⟩ = some (.int .i64 a0_8) ∧ w21.cell? ⟨gb454, 9, none⟩ = some (.int .i64 a0_9) := hS_
                refine norm_ (a' := ?_) ?_ ?_
                rotate_left
                · simp only [putAll, Act.put, List.setIfInBounds_toArray, List.set_cons_zero, List.set_cons_succ]
                  rfl
                refine one_ (i := 3) (N := some 6) #[true, true, true, true, true, true, false, false, false] rfl rfl (one_of HT_.out (by kernel_rfl)) (by decide) (fun K hK => ?_)
                refine box_step ?hg (N := 6) ?hd (cs := #[.int .u8 0, .int .i64 0, .int .i64 0, .int .i64 0, .int .i64 0, .int .i64 0, .int .i64 0, .int .i64 0, .int .i64 0, .int .i64 0]) (t := 31) ?hr ?_; (case hd => rfl); (case hg => rfl); (case hr => first | (go_simp; done) | (go_simp; rfl))
                intro gb457 hg w22 hbox hb
                have n0_ := Aside0.mk (blk_below (g := gb454) (o := .cells #[.int .u8 a0_0, .int .i64 a0_1, .int .i64 a0_2, .int .i64 a0_3, .int .i64 a0_4, .int .i64 a0_5, .int .i64 a0_6, .int .i64 a0_7, .int .i64 a0_8, .int .i64 a0_9] 31 (0, 0)) (by (with_reducible repeat (first | refine blk_drewN ?_ _ | refine blk_drew ?_ | refine blk_alloc ?_ _)); exact BK454.out) hb)
                have n1_ := Aside0.mk (blk_below (g := gb458) (o := .cells #[.int .u8 0, .int .i64 0, .int .i64 0, .int .i64 0, .int .i64 0, .int .i64 0, .int .i64 0, .int .i64 0, .int .i64 0, .int .i64 0] 31 (0, 0)) (by (with_reducible repeat (first | refine blk_drewN ?_ _ | refine blk_drew ?_ | refine blk_alloc ?_ _)); exact BK458.out) hb)
                have n2_ := Aside0.mk (blk_below (g := gb459) (o := .cells #[.int .u8 0, .int .i64 0, .int .i64 0, .int .i64 0, .int .i64 0, .int .i64 0, .int .i64 0, .int .i64 0, .int .i64 0, .int .i64 0] 31 (0, 0)) (by (with_reducible repeat (first | refine blk_drewN ?_ _ | refine blk_drew ?_ | refine blk_alloc ?_ _)); exact BK459.out) hb)
                have n3_ := Aside0.mk (below_step (by repeat (first | (with_reducible first | exact HB.out | apply below_alloc | apply pw_below_drewN | apply below_drew1 | refine below_set ?_ GE454.out | refine below_set ?_ GE458.out | refine below_set ?_ GE459.out) | exact HB.out)) hb)
                have n4_ := Aside0.mk (hbox)
                have n5_ := Aside0.mk ((by rw [hg]; exact (below_size (by repeat (first | (with_reducible first | exact HB.out | apply below_alloc | apply pw_below_drewN | apply below_drew1 | refine below_set ?_ GE454.out | refine below_set ?_ GE458.out | refine below_set ?_ GE459.out) | exact HB.out))) : w.heap.size ≤ gb457))
                have n6_ := Aside0.mk ((by rw [hg]; exact (below_size (by repeat (first | (with_reducible first | exact HB.out | apply below_alloc | apply pw_below_drewN | apply below_drew1 | refine below_set ?_ GE454.out | refine below_set ?_ GE458.out | refine below_set ?_ GE459.out) | exact HB.out))) : w.heap.size ≤ gb457))
                have n7_ := Aside0.mk ((by rw [hg]; exact Nat.ne_of_lt (blk_lt (g := gb454) (o := .cells #[.int .u8 a0_0, .int .i64 a0_1, .int .i64 a0_2, .int .i64 a0_3, .int .i64 a0_4, .int .i64 a0_5, .int .i64 a0_6, .int .i64 a0_7, .int .i64 a0_8, .int .i64 a0_9] 31 (0, 0)) (by (with_reducible repeat (first | refine blk_drewN ?_ _ | refine blk_drew ?_ | refine blk_alloc ?_ _)); exact BK454.out)) : gb454 ≠ gb457))
                have n8_ := Aside0.mk ((by rw [hg]; exact Nat.ne_of_gt (blk_lt (g := gb454) (o := .cells #[.int .u8 a0_0, .int .i64 a0_1, .int .i64 a0_2, .int .i64 a0_3, .int .i64 a0_4, .int .i64 a0_5, .int .i64 a0_6, .int .i64 a0_7, .int .i64 a0_8, .int .i64 a0_9] 31 (0, 0)) (by (with_reducible repeat (first | refine blk_drewN ?_ _ | refine blk_drew ?_ | refine blk_alloc ?_ _)); exact BK454.out)) : gb457 ≠ gb454))
                have n9_ := Aside0.mk ((by rw [hg]; exact Nat.ne_of_lt (blk_lt (g := gb458) (o := .cells #[.int .u8 0, .int .i64 0, .int .i64 0, .int .i64 0, .int .i64 0, .int .i64 0, .int .i64 0, .int .i64 0, .int .i64 0, .int .i64 0] 31 (0, 0)) (by (with_reducible repeat (first | refine blk_drewN ?_ _ | refine blk_drew ?_ | refine blk_alloc ?_ _)); exact BK458.out)) : gb458 ≠ gb457))
                have n10_ := Aside0.mk ((by rw [hg]; exact Nat.ne_of_gt (blk_lt (g := gb458) (o := .cells #[.int .u8 0, .int .i64 0, .int .i64 0, .int .i64 0, .int .i64 0, .int .i64 0, .int .i64 0, .int .i64 0, .int .i64 0, .int .i64 0] 31 (0, 0)) (by (with_reducible repeat (first | refine blk_drewN ?_ _ | refine blk_drew ?_ | refine blk_alloc ?_ _)); exact BK458.out)) : gb457 ≠ gb458))
                have n11_ := Aside0.mk ((by rw [hg]; exact Nat.ne_of_lt (blk_lt (g := gb459) (o := .cells #[.int .u8 0, .int .i64 0, .int .i64 0, .int .i64 0, .int .i64 0, .int .i64 0, .int .i64 0, .int .i64 0, .int .i64 0, .int .i64 0] 31 (0, 0)) (by (with_reducible repeat (first | refine blk_drewN ?_ _ | refine blk_drew ?_ | refine blk_alloc ?_ _)); exact BK459.out)) : gb459 ≠ gb457))
                have n12_ := Aside0.mk ((by rw [hg]; exact Nat.ne_of_gt (blk_lt (g := gb459) (o := .cells #[.int .u8 0, .int .i64 0, .int .i64 0, .int .i64 0, .int .i64 0, .int .i64 0, .int .i64 0, .int .i64 0, .int .i64 0, .int .i64 0] 31 (0, 0)) (by (with_reducible repeat (first | refine blk_drewN ?_ _ | refine blk_drew ?_ | refine blk_alloc ?_ _)); exact BK459.out)) : gb457 ≠ gb459))
                clear BK454
                clear BK458
                clear BK459
                clear HB
                have BK454 := n0_
                have BK458 := n1_
                have BK459 := n2_
                have HB := n3_
                have BK457 := n4_
                have GW457 := n5_
                have GE457 := n6_
                have NB454_457 := n7_
                have NB457_454 := n8_
                have NB458_457 := n9_
                have NB457_458 := n10_
                have NB459_457 := n11_
                have NB457_459 := n12_
                clear n0_ n1_ n2_ n3_ n4_ n5_ n6_ n7_ n8_ n9_ n10_ n11_ n12_
                clear hb hbox hg
                refine hK.out _ _ ⟨(blk_cell BK454.out 0).trans rfl, (blk_cell BK454.out 1).trans rfl, (blk_cell BK454.out 2).trans rfl, (blk_cell BK454.out 3).trans rfl, (blk_cell BK454.out 4).trans rfl, (blk_cell BK454.out 5).trans rfl, (blk_cell BK454.out 6).trans rfl, (blk_cell BK454.out 7).trans rfl, (blk_cell BK454.out 8).trans rfl, (blk_cell BK454.out 9).trans rfl⟩ (fun hHeld => ?_)
                clear hK K
                refine norm_ (a' := ?_) ?_ ?_
                rotate_left
                · show Act.put _ (some 6) _ = _
                  simp only [Act.put, List.setIfInBounds_toArray, List.set_cons_zero, List.set_cons_succ, i64_w, i32_w]
                  rfl
                exact norm_ (by first | (simp only [putAll, Act.put, List.setIfInBounds_toArray, List.set_cons_zero, List.set_cons_succ]; done) | (simp only [putAll, Act.put, List.setIfInBounds_toArray, List.set_cons_zero, List.set_cons_succ]; rfl)) (hJ3_4_5 (gb457, gb458, gb459) _ ⟨hHeld, (by (with_reducible repeat (first | refine blk_drewN ?_ _ | refine blk_drew ?_ | refine blk_alloc ?_ _)); exact BK454.out), (by (with_reducible repeat (first | refine blk_drewN ?_ _ | refine blk_drew ?_ | refine blk_alloc ?_ _)); exact BK457.out), (by (with_reducible repeat (first | refine blk_drewN ?_ _ | refine blk_drew ?_ | refine blk_alloc ?_ _)); exact BK458.out), (by (with_reducible repeat (first | refine blk_drewN ?_ _ | refine blk_drew ?_ | refine blk_alloc ?_ _)); exact BK459.out), GW457.out, GE457.out, NB454_457.out, NB457_454.out, NB458_457.out, NB457_458.out, NB459_457.out, NB457_459.out, GW458.out, GE458.out, NB454_458.out, NB458_454.out, NB459_458.out, NB458_459.out, GW459.out, GE459.out, NB454_459.out, NB459_454.out, (by repeat (first | (with_reducible first | exact HB.out | apply below_alloc | apply pw_below_drewN | apply below_drew1 | refine below_set ?_ GE454.out | refine below_set ?_ GE458.out | refine below_set ?_ GE459.out | refine below_set ?_ GE457.out) | exact HB.out))⟩)
            · skip
              rintro ⟨gb457, gb459⟩ w21 ⟨hS_, h0_, h1_, h2_, h3_, h4_, h5_, h6_, h7_, h8_, h9_, h10_, h11_, h12_, h13_⟩
              have n0_ : Aside0 (w21.heap[gb454]? = some (.cells #[.int .u8 a0_0, .int .i64 a0_1, .int .i64 a0_2, .int .i64 a0_3, .int .i64 a0_4, .int .i64 a0_5, .int .i64 a0_6, .int .i64 a0_7, .int .i64 a0_8, .int .i64 a0_9] 31 (0, 0))) := ⟨h0_⟩
              have n1_ : Aside0 (w21.heap[gb457]? = some (.cells #[.int .u8 0, .int .i64 0, .int .i64 0, .int .i64 0, .int .i64 0, .int .i64 0, .int .i64 0, .int .i64 0, .int .i64 0, .int .i64 0] 31 (0, 0))) := ⟨h1_⟩
              have n2_ : Aside0 (w21.heap[gb459]? = some (.cells #[.int .u8 0, .int .i64 0, .int .i64 0, .int .i64 0, .int .i64 0, .int .i64 0, .int .i64 0, .int .i64 0, .int .i64 0, .int .i64 0] 31 (0, 0))) := ⟨h2_⟩
              have n3_ : Aside0 (w.heap.size ≤ gb457) := ⟨h3_⟩
              have n4_ : Aside0 (w.heap.size ≤ gb457) := ⟨h4_⟩
              have n5_ : Aside0 (gb454 ≠ gb457) := ⟨h5_⟩
              have n6_ : Aside0 (gb457 ≠ gb454) := ⟨h6_⟩
              have n7_ : Aside0 (gb459 ≠ gb457) := ⟨h7_⟩
              have n8_ : Aside0 (gb457 ≠ gb459) := ⟨h8_⟩
              have n9_ : Aside0 (w.heap.size ≤ gb459) := ⟨h9_⟩
              have n10_ : Aside0 (w.heap.size ≤ gb459) := ⟨h10_⟩
              have n11_ : Aside0 (gb454 ≠ gb459) := ⟨h11_⟩
              have n12_ : Aside0 (gb459 ≠ gb454) := ⟨h12_⟩
              have n13_ : Aside0 (Below w.heap.size w w21) := ⟨h13_⟩
              clear BK454
              clear HB
              clear h0_ h1_ h2_ h3_ h4_ h5_ h6_ h7_ h8_ h9_ h10_ h11_ h12_ h13_
              have BK454 := n0_
              have BK457 := n1_
              have BK459 := n2_
              have GW457 := n3_
              have GE457 := n4_
              have NB454_457 := n5_
              have NB457_454 := n6_
              have NB459_457 := n7_
              have NB457_459 := n8_
              have GW459 := n9_
              have GE459 := n10_
              have NB454_459 := n11_
              have NB459_454 := n12_
              have HB := n13_
              clear n0_ n1_ n2_ n3_ n4_ n5_ n6_ n7_ n8_ n9_ n10_ n11_ n12_ n13_
              have hHeld : w21.cell? ⟨gb454, 0, none⟩ = some (.int .u8 a0_0) ∧ w21.cell? ⟨gb454, 1, none⟩ = some (.int .i64 a0_1) ∧ w21.cell? ⟨gb454, 2, none⟩ = some (.int .i64 a0_2) ∧ w21.cell? ⟨gb454, 3, none⟩ = some (.int .i64 a0_3) ∧ w21.cell? ⟨gb454, 4, none⟩ = some (.int .i64 a0_4) ∧ w21.cell? ⟨gb454, 5, none⟩ = some (.int .i64 a0_5) ∧ w21.cell? ⟨gb454, 6, none⟩ = some (.int .i64 a0_6) ∧ w21.cell? ⟨gb454, 7, none⟩ = some (.int .i64 a0_7) ∧ w21.cell? ⟨gb454, 8, none⟩ = some (.int .i64 a0_8) ∧ w21.cell? ⟨gb454, 9, none⟩ = some (.int .i64 a0_9) := hS_
              refine norm_ (a' := ?_) ?_ ?_
              rotate_left
              · simp only [putAll, Act.put, List.setIfInBounds_toArray, List.set_cons_zero, List.set_cons_succ]
                rfl
              refine one_ (i := 4) (N := some 7) #[true, true, true, true, true, true, false, false, false] rfl rfl (one_of HT_.out (by kernel_rfl)) (by decide) (fun K hK => ?_)
              refine box_step ?hg (N := 7) ?hd (cs := #[.int .u8 0, .int .i64 0, .int .i64 0, .int .i64 0, .int .i64 0, .int .i64 0, .int .i64 0, .int .i64 0, .int .i64 0, .int .i64 0]) (t := 31) ?hr ?_; (case hd => rfl); (case hg => rfl); (case hr => first | (go_simp; done) | (go_simp; rfl))
              intro gb458 hg w22 hbox hb
              have n0_ := Aside0.mk (blk_below (g := gb454) (o := .cells #[.int .u8 a0_0, .int .i64 a0_1, .int .i64 a0_2, .int .i64 a0_3, .int .i64 a0_4, .int .i64 a0_5, .int .i64 a0_6, .int .i64 a0_7, .int .i64 a0_8, .int .i64 a0_9] 31 (0, 0)) (by (with_reducible repeat (first | refine blk_drewN ?_ _ | refine blk_drew ?_ | refine blk_alloc ?_ _)); exact BK454.out) hb)
              have n1_ := Aside0.mk (blk_below (g := gb457) (o := .cells #[.int .u8 0, .int .i64 0, .int .i64 0, .int .i64 0, .int .i64 0, .int .i64 0, .int .i64 0, .int .i64 0, .int .i64 0, .int .i64 0] 31 (0, 0)) (by (with_reducible repeat (first | refine blk_drewN ?_ _ | refine blk_drew ?_ | refine blk_alloc ?_ _)); exact BK457.out) hb)
              have n2_ := Aside0.mk (blk_below (g := gb459) (o := .cells #[.int .u8 0, .int .i64 0, .int .i64 0, .int .i64 0, .int .i64 0, .int .i64 0, .int .i64 0, .int .i64 0, .int .i64 0, .int .i64 0] 31 (0, 0)) (by (with_reducible repeat (first | refine blk_drewN ?_ _ | refine blk_drew ?_ | refine blk_alloc ?_ _)); exact BK459.out) hb)
              have n3_ := Aside0.mk (below_step (by repeat (first | (with_reducible first | exact HB.out | apply below_alloc | apply pw_below_drewN | apply below_drew1 | refine below_set ?_ GE454.out | refine below_set ?_ GE457.out | refine below_set ?_ GE459.out) | exact HB.out)) hb)
              have n4_ := Aside0.mk (hbox)
              have n5_ := Aside0.mk ((by rw [hg]; exact (below_size (by repeat (first | (with_reducible first | exact HB.out | apply below_alloc | apply pw_below_drewN | apply below_drew1 | refine below_set ?_ GE454.out | refine below_set ?_ GE457.out | refine below_set ?_ GE459.out) | exact HB.out))) : w.heap.size ≤ gb458))
              have n6_ := Aside0.mk ((by rw [hg]; exact (below_size (by repeat (first | (with_reducible first | exact HB.out | apply below_alloc | apply pw_below_drewN | apply below_drew1 | refine below_set ?_ GE454.out | refine below_set ?_ GE457.out | refine below_set ?_ GE459.out) | exact HB.out))) : w.heap.size ≤ gb458))
              have n7_ := Aside0.mk ((by rw [hg]; exact Nat.ne_of_lt (blk_lt (g := gb454) (o := .cells #[.int .u8 a0_0, .int .i64 a0_1, .int .i64 a0_2, .int .i64 a0_3, .int .i64 a0_4, .int .i64 a0_5, .int .i64 a0_6, .int .i64 a0_7, .int .i64 a0_8, .int .i64 a0_9] 31 (0, 0)) (by (with_reducible repeat (first | refine blk_drewN ?_ _ | refine blk_drew ?_ | refine blk_alloc ?_ _)); exact BK454.out)) : gb454 ≠ gb458))
              have n8_ := Aside0.mk ((by rw [hg]; exact Nat.ne_of_gt (blk_lt (g := gb454) (o := .cells #[.int .u8 a0_0, .int .i64 a0_1, .int .i64 a0_2, .int .i64 a0_3, .int .i64 a0_4, .int .i64 a0_5, .int .i64 a0_6, .int .i64 a0_7, .int .i64 a0_8, .int .i64 a0_9] 31 (0, 0)) (by (with_reducible repeat (first | refine blk_drewN ?_ _ | refine blk_drew ?_ | refine blk_alloc ?_ _)); exact BK454.out)) : gb458 ≠ gb454))
              have n9_ := Aside0.mk ((by rw [hg]; exact Nat.ne_of_lt (blk_lt (g := gb457) (o := .cells #[.int .u8 0, .int .i64 0, .int .i64 0, .int .i64 0, .int .i64 0, .int .i64 0, .int .i64 0, .int .i64 0, .int .i64 0, .int .i64 0] 31 (0, 0)) (by (with_reducible repeat (first | refine blk_drewN ?_ _ | refine blk_drew ?_ | refine blk_alloc ?_ _)); exact BK457.out)) : gb457 ≠ gb458))
              have n10_ := Aside0.mk ((by rw [hg]; exact Nat.ne_of_gt (blk_lt (g := gb457) (o := .cells #[.int .u8 0, .int .i64 0, .int .i64 0, .int .i64 0, .int .i64 0, .int .i64 0, .int .i64 0, .int .i64 0, .int .i64 0, .int .i64 0] 31 (0, 0)) (by (with_reducible repeat (first | refine blk_drewN ?_ _ | refine blk_drew ?_ | refine blk_alloc ?_ _)); exact BK457.out)) : gb458 ≠ gb457))
              have n11_ := Aside0.mk ((by rw [hg]; exact Nat.ne_of_lt (blk_lt (g := gb459) (o := .cells #[.int .u8 0, .int .i64 0, .int .i64 0, .int .i64 0, .int .i64 0, .int .i64 0, .int .i64 0, .int .i64 0, .int .i64 0, .int .i64 0] 31 (0, 0)) (by (with_reducible repeat (first | refine blk_drewN ?_ _ | refine blk_drew ?_ | refine blk_alloc ?_ _)); exact BK459.out)) : gb459 ≠ gb458))
              have n12_ := Aside0.mk ((by rw [hg]; exact Nat.ne_of_gt (blk_lt (g := gb459) (o := .cells #[.int .u8 0, .int .i64 0, .int .i64 0, .int .i64 0, .int .i64 0, .int .i64 0, .int .i64 0, .int .i64 0, .int .i64 0, .int .i64 0] 31 (0, 0)) (by (with_reducible repeat (first | refine blk_drewN ?_ _ | refine blk_drew ?_ | refine blk_alloc ?_ _)); exact BK459.out)) : gb458 ≠ gb459))
              clear BK454
              clear BK457
              clear BK459
              clear HB
              have BK454 := n0_
              have BK457 := n1_
              have BK459 := n2_
              have HB := n3_
              have BK458 := n4_
              have GW458 := n5_
              have GE458 := n6_
              have NB454_458 := n7_
              have NB458_454 := n8_
              have NB457_458 := n9_
              have NB458_457 := n10_
              have NB459_458 := n11_
              have NB458_459 := n12_
              clear n0_ n1_ n2_ n3_ n4_ n5_ n6_ n7_ n8_ n9_ n10_ n11_ n12_
              clear hb hbox hg
              refine hK.out _ _ ⟨(blk_cell BK454.out 0).trans rfl, (blk_cell BK454.out 1).trans rfl, (blk_cell BK454.out 2).trans rfl, (blk_cell BK454.out 3).trans rfl, (blk_cell BK454.out 4).trans rfl, (blk_cell BK454.out 5).trans rfl, (blk_cell BK454.out 6).trans rfl, (blk_cell BK454.out 7).trans rfl, (blk_cell BK454.out 8).trans rfl, (blk_cell BK454.out 9).trans rfl⟩ (fun hHeld => ?_)
              clear hK K
              refine norm_ (a' := ?_) ?_ ?_
              rotate_left
              · show Act.put _ (some 7) _ = _
                simp only [Act.put, List.setIfInBounds_toArray, List.set_cons_zero, List.set_cons_succ, i64_w, i32_w]
                rfl
              exact norm_ (by first | (simp only [putAll, Act.put, List.setIfInBounds_toArray, List.set_cons_zero, List.set_cons_succ]; done) | (simp only [putAll, Act.put, List.setIfInBounds_toArray, List.set_cons_zero, List.set_cons_succ]; rfl)) (hJ3_4_5 (gb457, gb458, gb459) _ ⟨hHeld, (by (with_reducible repeat (first | refine blk_drewN ?_ _ | refine blk_drew ?_ | refine blk_alloc ?_ _)); exact BK454.out), (by (with_reducible repeat (first | refine blk_drewN ?_ _ | refine blk_drew ?_ | refine blk_alloc ?_ _)); exact BK457.out), (by (with_reducible repeat (first | refine blk_drewN ?_ _ | refine blk_drew ?_ | refine blk_alloc ?_ _)); exact BK458.out), (by (with_reducible repeat (first | refine blk_drewN ?_ _ | refine blk_drew ?_ | refine blk_alloc ?_ _)); exact BK459.out), GW457.out, GE457.out, NB454_457.out, NB457_454.out, NB458_457.out, NB457_458.out, NB459_457.out, NB457_459.out, GW458.out, GE458.out, NB454_458.out, NB458_454.out, NB459_458.out, NB458_459.out, GW459.out, GE459.out, NB454_459.out, NB459_454.out, (by repeat (first | (with_reducible first | exact HB.out | apply below_alloc | apply pw_below_drewN | apply below_drew1 | refine below_set ?_ GE454.out | refine below_set ?_ GE457.out | refine below_set ?_ GE459.out | refine below_set ?_ GE458.out) | exact HB.out))⟩)
          · skip
            rintro ⟨gb457, gb458⟩ w21 ⟨hS_, h0_, h1_, h2_, h3_, h4_, h5_, h6_, h7_, h8_, h9_, h10_, h11_, h12_, h13_⟩
            have n0_ : Aside0 (w21.heap[gb454]? = some (.cells #[.int .u8 a0_0, .int .i64 a0_1, .int .i64 a0_2, .int .i64 a0_3, .int .i64 a0_4, .int .i64 a0_5, .int .i64 a0_6, .int .i64 a0_7, .int .i64 a0_8, .int .i64 a0_9] 31 (0, 0))) := ⟨h0_⟩
            have n1_ : Aside0 (w21.heap[gb457]? = some (.cells #[.int .u8 0, .int .i64 0, .int .i64 0, .int .i64 0, .int .i64 0, .int .i64 0, .int .i64 0, .int .i64 0, .int .i64 0, .int .i64 0] 31 (0, 0))) := ⟨h1_⟩
            have n2_ : Aside0 (w21.heap[gb458]? = some (.cells #[.int .u8 0, .int .i64 0, .int .i64 0, .int .i64 0, .int .i64 0, .int .i64 0, .int .i64 0, .int .i64 0, .int .i64 0, .int .i64 0] 31 (0, 0))) := ⟨h2_⟩
            have n3_ : Aside0 (w.heap.size ≤ gb457) := ⟨h3_⟩
            have n4_ : Aside0 (w.heap.size ≤ gb457) := ⟨h4_⟩
            have n5_ : Aside0 (gb454 ≠ gb457) := ⟨h5_⟩
            have n6_ : Aside0 (gb457 ≠ gb454) := ⟨h6_⟩
            have n7_ : Aside0 (gb458 ≠ gb457) := ⟨h7_⟩
            have n8_ : Aside0 (gb457 ≠ gb458) := ⟨h8_⟩
            have n9_ : Aside0 (w.heap.size ≤ gb458) := ⟨h9_⟩
            have n10_ : Aside0 (w.heap.size ≤ gb458) := ⟨h10_⟩
            have n11_ : Aside0 (gb454 ≠ gb458) := ⟨h11_⟩
            have n12_ : Aside0 (gb458 ≠ gb454) := ⟨h12_⟩
            have n13_ : Aside0 (Below w.heap.size w w21) := ⟨h13_⟩
            clear BK454
            clear HB
            clear h0_ h1_ h2_ h3_ h4_ h5_ h6_ h7_ h8_ h9_ h10_ h11_ h12_ h13_
            have BK454 := n0_
            have BK457 := n1_
            have BK458 := n2_
            have GW457 := n3_
            have GE457 := n4_
            have NB454_457 := n5_
            have NB457_454 := n6_
            have NB458_457 := n7_
            have NB457_458 := n8_
            have GW458 := n9_
            have GE458 := n10_
            have NB454_458 := n11_
            have NB458_454 := n12_
            have HB := n13_
            clear n0_ n1_ n2_ n3_ n4_ n5_ n6_ n7_ n8_ n9_ n10_ n11_ n12_ n13_
            have hHeld : w21.cell? ⟨gb454, 0, none⟩ = some (.int .u8 a0_0) ∧ w21.cell? ⟨gb454, 1, none⟩ = some (.int .i64 a0_1) ∧ w21.cell? ⟨gb454, 2, none⟩ = some (.int .i64 a0_2) ∧ w21.cell? ⟨gb454, 3, none⟩ = some (.int .i64 a0_3) ∧ w21.cell? ⟨gb454, 4, none⟩ = some (.int .i64 a0_4) ∧ w21.cell? ⟨gb454, 5, none⟩ = some (.int .i64 a0_5) ∧ w21.cell? ⟨gb454, 6, none⟩ = some (.int .i64 a0_6) ∧ w21.cell? ⟨gb454, 7, none⟩ = some (.int .i64 a0_7) ∧ w21.cell? ⟨gb454, 8, none⟩ = some (.int .i64 a0_8) ∧ w21.cell? ⟨gb454, 9, none⟩ = some (.int .i64 a0_9) := hS_
            refine norm_ (a' := ?_) ?_ ?_
            rotate_left
            · simp only [putAll, Act.put, List.setIfInBounds_toArray, List.set_cons_zero, List.set_cons_succ]
              rfl
            refine one_ (i := 5) (N := some 8) #[true, true, true, true, true, true, false, false, false] rfl rfl (one_of HT_.out (by kernel_rfl)) (by decide) (fun K hK => ?_)
            refine box_step ?hg (N := 8) ?hd (cs := #[.int .u8 0, .int .i64 0, .int .i64 0, .int .i64 0, .int .i64 0, .int .i64 0, .int .i64 0, .int .i64 0, .int .i64 0, .int .i64 0]) (t := 31) ?hr ?_; (case hd => rfl); (case hg => rfl); (case hr => first | (go_simp; done) | (go_simp; rfl))
            intro gb459 hg w22 hbox hb
            have n0_ := Aside0.mk (blk_below (g := gb454) (o := .cells #[.int .u8 a0_0, .int .i64 a0_1, .int .i64 a0_2, .int .i64 a0_3, .int .i64 a0_4, .int .i64 a0_5, .int .i64 a0_6, .int .i64 a0_7, .int .i64 a0_8, .int .i64 a0_9] 31 (0, 0)) (by (with_reducible repeat (first | refine blk_drewN ?_ _ | refine blk_drew ?_ | refine blk_alloc ?_ _)); exact BK454.out) hb)
            have n1_ := Aside0.mk (blk_below (g := gb457) (o := .cells #[.int .u8 0, .int .i64 0, .int .i64 0, .int .i64 0, .int .i64 0, .int .i64 0, .int .i64 0, .int .i64 0, .int .i64 0, .int .i64 0] 31 (0, 0)) (by (with_reducible repeat (first | refine blk_drewN ?_ _ | refine blk_drew ?_ | refine blk_alloc ?_ _)); exact BK457.out) hb)
            have n2_ := Aside0.mk (blk_below (g := gb458) (o := .cells #[.int .u8 0, .int .i64 0, .int .i64 0, .int .i64 0, .int .i64 0, .int .i64 0, .int .i64 0, .int .i64 0, .int .i64 0, .int .i64 0] 31 (0, 0)) (by (with_reducible repeat (first | refine blk_drewN ?_ _ | refine blk_drew ?_ | refine blk_alloc ?_ _)); exact BK458.out) hb)
            have n3_ := Aside0.mk (below_step (by repeat (first | (with_reducible first | exact HB.out | apply below_alloc | apply pw_below_drewN | apply below_drew1 | refine below_set ?_ GE454.out | refine below_set ?_ GE457.out | refine below_set ?_ GE458.out) | exact HB.out)) hb)
            have n4_ := Aside0.mk (hbox)
            have n5_ := Aside0.mk ((by rw [hg]; exact (below_size (by repeat (first | (with_reducible first | exact HB.out | apply below_alloc | apply pw_below_drewN | apply below_drew1 | refine below_set ?_ GE454.out | refine below_set ?_ GE457.out | refine below_set ?_ GE458.out) | exact HB.out))) : w.heap.size ≤ gb459))
            have n6_ := Aside0.mk ((by rw [hg]; exact (below_size (by repeat (first | (with_reducible first | exact HB.out | apply below_alloc | apply pw_below_drewN | apply below_drew1 | refine below_set ?_ GE454.out | refine below_set ?_ GE457.out | refine below_set ?_ GE458.out) | exact HB.out))) : w.heap.size ≤ gb459))
            have n7_ := Aside0.mk ((by rw [hg]; exact Nat.ne_of_lt (blk_lt (g := gb454) (o := .cells #[.int .u8 a0_0, .int .i64 a0_1, .int .i64 a0_2, .int .i64 a0_3, .int .i64 a0_4, .int .i64 a0_5, .int .i64 a0_6, .int .i64 a0_7, .int .i64 a0_8, .int .i64 a0_9] 31 (0, 0)) (by (with_reducible repeat (first | refine blk_drewN ?_ _ | refine blk_drew ?_ | refine blk_alloc ?_ _)); exact BK454.out)) : gb454 ≠ gb459))
            have n8_ := Aside0.mk ((by rw [hg]; exact Nat.ne_of_gt (blk_lt (g := gb454) (o := .cells #[.int .u8 a0_0, .int .i64 a0_1, .int .i64 a0_2, .int .i64 a0_3, .int .i64 a0_4, .int .i64 a0_5, .int .i64 a0_6, .int .i64 a0_7, .int .i64 a0_8, .int .i64 a0_9] 31 (0, 0)) (by (with_reducible repeat (first | refine blk_drewN ?_ _ | refine blk_drew ?_ | refine blk_alloc ?_ _)); exact BK454.out)) : gb459 ≠ gb454))
            have n9_ := Aside0.mk ((by rw [hg]; exact Nat.ne_of_lt (blk_lt (g := gb457) (o := .cells #[.int .u8 0, .int .i64 0, .int .i64 0, .int .i64 0, .int .i64 0, .int .i64 0, .int .i64 0, .int .i64 0, .int .i64 0, .int .i64 0] 31 (0, 0)) (by (with_reducible repeat (first | refine blk_drewN ?_ _ | refine blk_drew ?_ | refine blk_alloc ?_ _)); exact BK457.out)) : gb457 ≠ gb459))
            have n10_ := Aside0.mk ((by rw [hg]; exact Nat.ne_of_gt (blk_lt (g := gb457) (o := .cells #[.int .u8 0, .int .i64 0, .int .i64 0, .int .i64 0, .int .i64 0, .int .i64 0, .int .i64 0, .int .i64 0, .int .i64 0, .int .i64 0] 31 (0, 0)) (by (with_reducible repeat (first | refine blk_drewN ?_ _ | refine blk_drew ?_ | refine blk_alloc ?_ _)); exact BK457.out)) : gb459 ≠ gb457))
            have n11_ := Aside0.mk ((by rw [hg]; exact Nat.ne_of_lt (blk_lt (g := gb458) (o := .cells #[.int .u8 0, .int .i64 0, .int .i64 0, .int .i64 0, .int .i64 0, .int .i64 0, .int .i64 0, .int .i64 0, .int .i64 0, .int .i64 0] 31 (0, 0)) (by (with_reducible repeat (first | refine blk_drewN ?_ _ | refine blk_drew ?_ | refine blk_alloc ?_ _)); exact BK458.out)) : gb458 ≠ gb459))
            have n12_ := Aside0.mk ((by rw [hg]; exact Nat.ne_of_gt (blk_lt (g := gb458) (o := .cells #[.int .u8 0, .int .i64 0, .int .i64 0, .int .i64 0, .int .i64 0, .int .i64 0, .int .i64 0, .int .i64 0, .int .i64 0, .int .i64 0] 31 (0, 0)) (by (with_reducible repeat (first | refine blk_drewN ?_ _ | refine blk_drew ?_ | refine blk_alloc ?_ _)); exact BK458.out)) : gb459 ≠ gb458))
            clear BK454
            clear BK457
            clear BK458
            clear HB
            have BK454 := n0_
            have BK457 := n1_
            have BK458 := n2_
            have HB := n3_
            have BK459 := n4_
            have GW459 := n5_
            have GE459 := n6_
            have NB454_459 := n7_
            have NB459_454 := n8_
            have NB457_459 := n9_
            have NB459_457 := n10_
            have NB458_459 := n11_
            have NB459_458 := n12_
            clear n0_ n1_ n2_ n3_ n4_ n5_ n6_ n7_ n8_ n9_ n10_ n11_ n12_
            clear hb hbox hg
            refine hK.out _ _ ⟨(blk_cell BK454.out 0).trans rfl, (blk_cell BK454.out 1).trans rfl, (blk_cell BK454.out 2).trans rfl, (blk_cell BK454.out 3).trans rfl, (blk_cell BK454.out 4).trans rfl, (blk_cell BK454.out 5).trans rfl, (blk_cell BK454.out 6).trans rfl, (blk_cell BK454.out 7).trans rfl, (blk_cell BK454.out 8).trans rfl, (blk_cell BK454.out 9).trans rfl⟩ (fun hHeld => ?_)
            clear hK K
            refine norm_ (a' := ?_) ?_ ?_
            rotate_left
            · show Act.put _ (some 8) _ = _
              simp only [Act.put, List.setIfInBounds_toArray, List.set_cons_zero, List.set_cons_succ, i64_w, i32_w]
              rfl
            exact norm_ (by first | (simp only [putAll, Act.put, List.setIfInBounds_toArray, List.set_cons_zero, List.set_cons_succ]; done) | (simp only [putAll, Act.put, List.setIfInBounds_toArray, List.set_cons_zero, List.set_cons_succ]; rfl)) (hJ3_4_5 (gb457, gb458, gb459) _ ⟨hHeld, (by (with_reducible repeat (first | refine blk_drewN ?_ _ | refine blk_drew ?_ | refine blk_alloc ?_ _)); exact BK454.out), (by (with_reducible repeat (first | refine blk_drewN ?_ _ | refine blk_drew ?_ | refine blk_alloc ?_ _)); exact BK457.out), (by (with_reducible repeat (first | refine blk_drewN ?_ _ | refine blk_drew ?_ | refine blk_alloc ?_ _)); exact BK458.out), (by (with_reducible repeat (first | refine blk_drewN ?_ _ | refine blk_drew ?_ | refine blk_alloc ?_ _)); exact BK459.out), GW457.out, GE457.out, NB454_457.out, NB457_454.out, NB458_457.out, NB457_458.out, NB459_457.out, NB457_459.out, GW458.out, GE458.out, NB454_458.out, NB458_454.out, NB459_458.out, NB458_459.out, GW459.out, GE459.out, NB454_459.out, NB459_454.out, (by repeat (first | (with_reducible first | exact HB.out | apply below_alloc | apply pw_below_drewN | apply below_drew1 | refine below_set ?_ GE454.out | refine below_set ?_ GE457.out | refine below_set ?_ GE458.out | refine below_set ?_ GE459.out) | exact HB.out))⟩)
        rintro ⟨gb457, gb458, gb459⟩ w22 ⟨hS_, h0_, h1_, h2_, h3_, h4_, h5_, h6_, h7_, h8_, h9_, h10_, h11_, h12_, h13_, h14_, h15_, h16_, h17_, h18_, h19_, h20_, h21_, h22_⟩
        have n0_ : Aside0 (w22.heap[gb454]? = some (.cells #[.int .u8 a0_0, .int .i64 a0_1, .int .i64 a0_2, .int .i64 a0_3, .int .i64 a0_4, .int .i64 a0_5, .int .i64 a0_6, .int .i64 a0_7, .int .i64 a0_8, .int .i64 a0_9] 31 (0, 0))) := ⟨h0_⟩
        have n1_ : Aside0 (w22.heap[gb457]? = some (.cells #[.int .u8 0, .int .i64 0, .int .i64 0, .int .i64 0, .int .i64 0, .int .i64 0, .int .i64 0, .int .i64 0, .int .i64 0, .int .i64 0] 31 (0, 0))) := ⟨h1_⟩
        have n2_ : Aside0 (w22.heap[gb458]? = some (.cells #[.int .u8 0, .int .i64 0, .int .i64 0, .int .i64 0, .int .i64 0, .int .i64 0, .int .i64 0, .int .i64 0, .int .i64 0, .int .i64 0] 31 (0, 0))) := ⟨h2_⟩
        have n3_ : Aside0 (w22.heap[gb459]? = some (.cells #[.int .u8 0, .int .i64 0, .int .i64 0, .int .i64 0, .int .i64 0, .int .i64 0, .int .i64 0, .int .i64 0, .int .i64 0, .int .i64 0] 31 (0, 0))) := ⟨h3_⟩
        have n4_ : Aside0 (w.heap.size ≤ gb457) := ⟨h4_⟩
        have n5_ : Aside0 (w.heap.size ≤ gb457) := ⟨h5_⟩
        have n6_ : Aside0 (gb454 ≠ gb457) := ⟨h6_⟩
        have n7_ : Aside0 (gb457 ≠ gb454) := ⟨h7_⟩
        have n8_ : Aside0 (gb458 ≠ gb457) := ⟨h8_⟩
        have n9_ : Aside0 (gb457 ≠ gb458) := ⟨h9_⟩
        have n10_ : Aside0 (gb459 ≠ gb457) := ⟨h10_⟩
        have n11_ : Aside0 (gb457 ≠ gb459) := ⟨h11_⟩
        have n12_ : Aside0 (w.heap.size ≤ gb458) := ⟨h12_⟩
        have n13_ : Aside0 (w.heap.size ≤ gb458) := ⟨h13_⟩
        have n14_ : Aside0 (gb454 ≠ gb458) := ⟨h14_⟩
        have n15_ : Aside0 (gb458 ≠ gb454) := ⟨h15_⟩
        have n16_ : Aside0 (gb459 ≠ gb458) := ⟨h16_⟩
        have n17_ : Aside0 (gb458 ≠ gb459) := ⟨h17_⟩
        have n18_ : Aside0 (w.heap.size ≤ gb459) := ⟨h18_⟩
        have n19_ : Aside0 (w.heap.size ≤ gb459) := ⟨h19_⟩
        have n20_ : Aside0 (gb454 ≠ gb459) := ⟨h20_⟩
        have n21_ : Aside0 (gb459 ≠ gb454) := ⟨h21_⟩
        have n22_ : Aside0 (Below w.heap.size w w22) := ⟨h22_⟩
        clear BK454
        clear HB
        clear h0_ h1_ h2_ h3_ h4_ h5_ h6_ h7_ h8_ h9_ h10_ h11_ h12_ h13_ h14_ h15_ h16_ h17_ h18_ h19_ h20_ h21_ h22_
        have BK454 := n0_
        have BK457 := n1_
        have BK458 := n2_
        have BK459 := n3_
        have GW457 := n4_
        have GE457 := n5_
        have NB454_457 := n6_
        have NB457_454 := n7_
        have NB458_457 := n8_
        have NB457_458 := n9_
        have NB459_457 := n10_
        have NB457_459 := n11_
        have GW458 := n12_
        have GE458 := n13_
        have NB454_458 := n14_
        have NB458_454 := n15_
        have NB459_458 := n16_
        have NB458_459 := n17_
        have GW459 := n18_
        have GE459 := n19_
        have NB454_459 := n20_
        have NB459_454 := n21_
        have HB := n22_
        clear n0_ n1_ n2_ n3_ n4_ n5_ n6_ n7_ n8_ n9_ n10_ n11_ n12_ n13_ n14_ n15_ n16_ n17_ n18_ n19_ n20_ n21_ n22_
        have hHeld : w22.cell? ⟨gb454, 0, none⟩ = some (.int .u8 a0_0) ∧ w22.cell? ⟨gb454, 1, none⟩ = some (.int .i64 a0_1) ∧ w22.cell? ⟨gb454, 2, none⟩ = some (.int .i64 a0_2) ∧ w22.cell? ⟨gb454, 3, none⟩ = some (.int .i64 a0_3) ∧ w22.cell? ⟨gb454, 4, none⟩ = some (.int .i64 a0_4) ∧ w22.cell? ⟨gb454, 5, none⟩ = some (.int .i64 a0_5) ∧ w22.cell? ⟨gb454, 6, none⟩ = some (.int .i64 a0_6) ∧ w22.cell? ⟨gb454, 7, none⟩ = some (.int .i64 a0_7) ∧ w22.cell? ⟨gb454, 8, none⟩ = some (.int .i64 a0_8) ∧ w22.cell? ⟨gb454, 9, none⟩ = some (.int .i64 a0_9) := hS_
        refine norm_ (a' := ?_) ?_ ?_
        rotate_left
        · simp only [putAll, Act.put, List.setIfInBounds_toArray, List.set_cons_zero, List.set_cons_succ]
          rfl
        refine one_ (i := 6) (N := none) #[true, true, true, true, true, true, true, false, false] rfl rfl (one_of HT_.out (by kernel_rfl)) (by decide) (fun K hK => ?_)
        have hs23 : w22.cell? ⟨gb457, 0, none⟩ = some (.int .u8 0) := (blk_cell BK457.out 0).trans rfl
        have hfs23 := blk_frozen BK457.out 0
        have hns23_0 := NB454_457.out
        have hns23_2 := NB458_457.out
        have hns23_3 := NB459_457.out
        have hms23_0 := NB457_454.out
        have hms23_2 := NB457_458.out
        have hms23_3 := NB457_459.out
        have hs24 : w22.cell? ⟨gb457, 1, none⟩ = some (.int .i64 0) := (blk_cell BK457.out 1).trans rfl
        have hfs24 := blk_frozen BK457.out 1
        have hns24_0 := NB454_457.out
        have hns24_2 := NB458_457.out
        have hns24_3 := NB459_457.out
        have hms24_0 := NB457_454.out
        have hms24_2 := NB457_458.out
        have hms24_3 := NB457_459.out
        have hs25 : w22.cell? ⟨gb457, 2, none⟩ = some (.int .i64 0) := (blk_cell BK457.out 2).trans rfl
        have hfs25 := blk_frozen BK457.out 2
        have hns25_0 := NB454_457.out
        have hns25_2 := NB458_457.out
        have hns25_3 := NB459_457.out
        have hms25_0 := NB457_454.out
        have hms25_2 := NB457_458.out
        have hms25_3 := NB457_459.out
        have hs26 : w22.cell? ⟨gb457, 3, none⟩ = some (.int .i64 0) := (blk_cell BK457.out 3).trans rfl
        have hfs26 := blk_frozen BK457.out 3
        have hns26_0 := NB454_457.out
        have hns26_2 := NB458_457.out
        have hns26_3 := NB459_457.out
        have hms26_0 := NB457_454.out
        have hms26_2 := NB457_458.out
        have hms26_3 := NB457_459.out
        have hs27 : w22.cell? ⟨gb457, 4, none⟩ = some (.int .i64 0) := (blk_cell BK457.out 4).trans rfl
        have hfs27 := blk_frozen BK457.out 4
        have hns27_0 := NB454_457.out
        have hns27_2 := NB458_457.out
        have hns27_3 := NB459_457.out
        have hms27_0 := NB457_454.out
        have hms27_2 := NB457_458.out
        have hms27_3 := NB457_459.out
        have hs28 : w22.cell? ⟨gb457, 5, none⟩ = some (.int .i64 0) := (blk_cell BK457.out 5).trans rfl
        have hfs28 := blk_frozen BK457.out 5
        have hns28_0 := NB454_457.out
        have hns28_2 := NB458_457.out
        have hns28_3 := NB459_457.out
        have hms28_0 := NB457_454.out
        have hms28_2 := NB457_458.out
        have hms28_3 := NB457_459.out
        have hs29 : w22.cell? ⟨gb457, 6, none⟩ = some (.int .i64 0) := (blk_cell BK457.out 6).trans rfl
        have hfs29 := blk_frozen BK457.out 6
        have hns29_0 := NB454_457.out
        have hns29_2 := NB458_457.out
        have hns29_3 := NB459_457.out
        have hms29_0 := NB457_454.out
        have hms29_2 := NB457_458.out
        have hms29_3 := NB457_459.out
        have hs30 : w22.cell? ⟨gb457, 7, none⟩ = some (.int .i64 0) := (blk_cell BK457.out 7).trans rfl
        have hfs30 := blk_frozen BK457.out 7
        have hns30_0 := NB454_457.out
        have hns30_2 := NB458_457.out
        have hns30_3 := NB459_457.out
        have hms30_0 := NB457_454.out
        have hms30_2 := NB457_458.out
        have hms30_3 := NB457_459.out
        have hs31 : w22.cell? ⟨gb457, 8, none⟩ = some (.int .i64 0) := (blk_cell BK457.out 8).trans rfl
        have hfs31 := blk_frozen BK457.out 8
        have hns31_0 := NB454_457.out
        have hns31_2 := NB458_457.out
        have hns31_3 := NB459_457.out
        have hms31_0 := NB457_454.out
        have hms31_2 := NB457_458.out
        have hms31_3 := NB457_459.out
        have hs32 : w22.cell? ⟨gb457, 9, none⟩ = some (.int .i64 0) := (blk_cell BK457.out 9).trans rfl
        have hfs32 := blk_frozen BK457.out 9
        have hns32_0 := NB454_457.out
        have hns32_2 := NB458_457.out
        have hns32_3 := NB459_457.out
        have hms32_0 := NB457_454.out
        have hms32_2 := NB457_458.out
        have hms32_3 := NB457_459.out
        refine skip_ (w1 := ?_) (by rfl) rfl ?_ ?_
        rotate_left
        · go_simp
          rfl
        refine hK.out _ _ ⟨((cell_far (p := ⟨gb457, _, none⟩) NB454_457.out _).trans (((cell_far (p := ⟨gb457, _, none⟩) NB454_457.out _).trans (((cell_far (p := ⟨gb457, _, none⟩) NB454_457.out _).trans (((cell_far (p := ⟨gb457, _, none⟩) NB454_457.out _).trans (((cell_far (p := ⟨gb457, _, none⟩) NB454_457.out _).trans (((cell_far (p := ⟨gb457, _, none⟩) NB454_457.out _).trans (((cell_far (p := ⟨gb457, _, none⟩) NB454_457.out _).trans (((cell_far (p := ⟨gb457, _, none⟩) NB454_457.out _).trans (((cell_far (p := ⟨gb457, _, none⟩) NB454_457.out _).trans (((cell_far (p := ⟨gb457, _, none⟩) NB454_457.out _).trans (hHeld.1)))))))))))))))))))), ((cell_far (p := ⟨gb457, _, none⟩) NB454_457.out _).trans (((cell_far (p := ⟨gb457, _, none⟩) NB454_457.out _).trans (((cell_far (p := ⟨gb457, _, none⟩) NB454_457.out _).trans (((cell_far (p := ⟨gb457, _, none⟩) NB454_457.out _).trans (((cell_far (p := ⟨gb457, _, none⟩) NB454_457.out _).trans (((cell_far (p := ⟨gb457, _, none⟩) NB454_457.out _).trans (((cell_far (p := ⟨gb457, _, none⟩) NB454_457.out _).trans (((cell_far (p := ⟨gb457, _, none⟩) NB454_457.out _).trans (((cell_far (p := ⟨gb457, _, none⟩) NB454_457.out _).trans (((cell_far (p := ⟨gb457, _, none⟩) NB454_457.out _).trans (hHeld.2.1)))))))))))))))))))), ((cell_far (p := ⟨gb457, _, none⟩) NB454_457.out _).trans (((cell_far (p := ⟨gb457, _, none⟩) NB454_457.out _).trans (((cell_far (p := ⟨gb457, _, none⟩) NB454_457.out _).trans (((cell_far (p := ⟨gb457, _, none⟩) NB454_457.out _).trans (((cell_far (p := ⟨gb457, _, none⟩) NB454_457.out _).trans (((cell_far (p := ⟨gb457, _, none⟩) NB454_457.out _).trans (((cell_far (p := ⟨gb457, _, none⟩) NB454_457.out _).trans (((cell_far (p := ⟨gb457, _, none⟩) NB454_457.out _).trans (((cell_far (p := ⟨gb457, _, none⟩) NB454_457.out _).trans (((cell_far (p := ⟨gb457, _, none⟩) NB454_457.out _).trans (hHeld.2.2.1)))))))))))))))))))), ((cell_far (p := ⟨gb457, _, none⟩) NB454_457.out _).trans (((cell_far (p := ⟨gb457, _, none⟩) NB454_457.out _).trans (((cell_far (p := ⟨gb457, _, none⟩) NB454_457.out _).trans (((cell_far (p := ⟨gb457, _, none⟩) NB454_457.out _).trans (((cell_far (p := ⟨gb457, _, none⟩) NB454_457.out _).trans (((cell_far (p := ⟨gb457, _, none⟩) NB454_457.out _).trans (((cell_far (p := ⟨gb457, _, none⟩) NB454_457.out _).trans (((cell_far (p := ⟨gb457, _, none⟩) NB454_457.out _).trans (((cell_far (p := ⟨gb457, _, none⟩) NB454_457.out _).trans (((cell_far (p := ⟨gb457, _, none⟩) NB454_457.out _).trans (hHeld.2.2.2.1)))))))))))))))))))), ((cell_far (p := ⟨gb457, _, none⟩) NB454_457.out _).trans (((cell_far (p := ⟨gb457, _, none⟩) NB454_457.out _).trans (((cell_far (p := ⟨gb457, _, none⟩) NB454_457.out _).trans (((cell_far (p := ⟨gb457, _, none⟩) NB454_457.out _).trans (((cell_far (p := ⟨gb457, _, none⟩) NB454_457.out _).trans (((cell_far (p := ⟨gb457, _, none⟩) NB454_457.out _).trans (((cell_far (p := ⟨gb457, _, none⟩) NB454_457.out _).trans (((cell_far (p := ⟨gb457, _, none⟩) NB454_457.out _).trans (((cell_far (p := ⟨gb457, _, none⟩) NB454_457.out _).trans (((cell_far (p := ⟨gb457, _, none⟩) NB454_457.out _).trans (hHeld.2.2.2.2.1)))))))))))))))))))), ((cell_far (p := ⟨gb457, _, none⟩) NB454_457.out _).trans (((cell_far (p := ⟨gb457, _, none⟩) NB454_457.out _).trans (((cell_far (p := ⟨gb457, _, none⟩) NB454_457.out _).trans (((cell_far (p := ⟨gb457, _, none⟩) NB454_457.out _).trans (((cell_far (p := ⟨gb457, _, none⟩) NB454_457.out _).trans (((cell_far (p := ⟨gb457, _, none⟩) NB454_457.out _).trans (((cell_far (p := ⟨gb457, _, none⟩) NB454_457.out _).trans (((cell_far (p := ⟨gb457, _, none⟩) NB454_457.out _).trans (((cell_far (p := ⟨gb457, _, none⟩) NB454_457.out _).trans (((cell_far (p := ⟨gb457, _, none⟩) NB454_457.out _).trans (hHeld.2.2.2.2.2.1)))))))))))))))))))), ((cell_far (p := ⟨gb457, _, none⟩) NB454_457.out _).trans (((cell_far (p := ⟨gb457, _, none⟩) NB454_457.out _).trans (((cell_far (p := ⟨gb457, _, none⟩) NB454_457.out _).trans (((cell_far (p := ⟨gb457, _, none⟩) NB454_457.out _).trans (((cell_far (p := ⟨gb457, _, none⟩) NB454_457.out _).trans (((cell_far (p := ⟨gb457, _, none⟩) NB454_457.out _).trans (((cell_far (p := ⟨gb457, _, none⟩) NB454_457.out _).trans (((cell_far (p := ⟨gb457, _, none⟩) NB454_457.out _).trans (((cell_far (p := ⟨gb457, _, none⟩) NB454_457.out _).trans (((cell_far (p := ⟨gb457, _, none⟩) NB454_457.out _).trans (hHeld.2.2.2.2.2.2.1)))))))))))))))))))), ((cell_far (p := ⟨gb457, _, none⟩) NB454_457.out _).trans (((cell_far (p := ⟨gb457, _, none⟩) NB454_457.out _).trans (((cell_far (p := ⟨gb457, _, none⟩) NB454_457.out _).trans (((cell_far (p := ⟨gb457, _, none⟩) NB454_457.out _).trans (((cell_far (p := ⟨gb457, _, none⟩) NB454_457.out _).trans (((cell_far (p := ⟨gb457, _, none⟩) NB454_457.out _).trans (((cell_far (p := ⟨gb457, _, none⟩) NB454_457.out _).trans (((cell_far (p := ⟨gb457, _, none⟩) NB454_457.out _).trans (((cell_far (p := ⟨gb457, _, none⟩) NB454_457.out _).trans (((cell_far (p := ⟨gb457, _, none⟩) NB454_457.out _).trans (hHeld.2.2.2.2.2.2.2.1)))))))))))))))))))), ((cell_far (p := ⟨gb457, _, none⟩) NB454_457.out _).trans (((cell_far (p := ⟨gb457, _, none⟩) NB454_457.out _).trans (((cell_far (p := ⟨gb457, _, none⟩) NB454_457.out _).trans (((cell_far (p := ⟨gb457, _, none⟩) NB454_457.out _).trans (((cell_far (p := ⟨gb457, _, none⟩) NB454_457.out _).trans (((cell_far (p := ⟨gb457, _, none⟩) NB454_457.out _).trans (((cell_far (p := ⟨gb457, _, none⟩) NB454_457.out _).trans (((cell_far (p := ⟨gb457, _, none⟩) NB454_457.out _).trans (((cell_far (p := ⟨gb457, _, none⟩) NB454_457.out _).trans (((cell_far (p := ⟨gb457, _, none⟩) NB454_457.out _).trans (hHeld.2.2.2.2.2.2.2.2.1)))))))))))))))))))), ((cell_far (p := ⟨gb457, _, none⟩) NB454_457.out _).trans (((cell_far (p := ⟨gb457, _, none⟩) NB454_457.out _).trans (((cell_far (p := ⟨gb457, _, none⟩) NB454_457.out _).trans (((cell_far (p := ⟨gb457, _, none⟩) NB454_457.out _).trans (((cell_far (p := ⟨gb457, _, none⟩) NB454_457.out _).trans (((cell_far (p := ⟨gb457, _, none⟩) NB454_457.out _).trans (((cell_far (p := ⟨gb457, _, none⟩) NB454_457.out _).trans (((cell_far (p := ⟨gb457, _, none⟩) NB454_457.out _).trans (((cell_far (p := ⟨gb457, _, none⟩) NB454_457.out _).trans (((cell_far (p := ⟨gb457, _, none⟩) NB454_457.out _).trans (hHeld.2.2.2.2.2.2.2.2.2))))))))))))))))))))⟩ (fun hHeld => ?_)
        clear hK K
        clear hs23 hfs23 hns23_0 hns23_2 hns23_3 hms23_0 hms23_2 hms23_3 hs24 hfs24 hns24_0 hns24_2 hns24_3 hms24_0 hms24_2 hms24_3 hs25 hfs25 hns25_0 hns25_2 hns25_3 hms25_0 hms25_2 hms25_3 hs26 hfs26 hns26_0 hns26_2 hns26_3 hms26_0 hms26_2 hms26_3 hs27 hfs27 hns27_0 hns27_2 hns27_3 hms27_0 hms27_2 hms27_3 hs28 hfs28 hns28_0 hns28_2 hns28_3 hms28_0 hms28_2 hms28_3 hs29 hfs29 hns29_0 hns29_2 hns29_3 hms29_0 hms29_2 hms29_3 hs30 hfs30 hns30_0 hns30_2 hns30_3 hms30_0 hms30_2 hms30_3 hs31 hfs31 hns31_0 hns31_2 hns31_3 hms31_0 hms31_2 hms31_3 hs32 hfs32 hns32_0 hns32_2 hns32_3 hms32_0 hms32_2 hms32_3
        generalize hW_ : World.setCell _ _ _ = Wa_ at hHeld ⊢
        have q454 : Wa_.heap[gb454]? = some (.cells #[.int .u8 a0_0, .int .i64 a0_1, .int .i64 a0_2, .int .i64 a0_3, .int .i64 a0_4, .int .i64 a0_5, .int .i64 a0_6, .int .i64 a0_7, .int .i64 a0_8, .int .i64 a0_9] 31 (0, 0)) := by rw [← hW_]; (with_reducible repeat (first | refine blk_far ?_ NB454_457.out _ | refine blk_far ?_ NB454_458.out _ | refine blk_far ?_ NB454_459.out _)); exact BK454.out
        have q457 : Wa_.heap[gb457]? = some (.cells #[.int .u8 a0_0, .int .i64 a0_1, .int .i64 a0_2, .int .i64 a0_3, .int .i64 a0_4, .int .i64 a0_5, .int .i64 a0_6, .int .i64 a0_7, .int .i64 a0_8, .int .i64 a0_9] 31 (0, 0)) := by rw [← hW_]; (with_reducible repeat (first | refine blk_far ?_ NB457_454.out _ | refine blk_far ?_ NB457_458.out _ | refine blk_far ?_ NB457_459.out _)); refine blk_put (cs := #[.int .u8 a0_0, .int .i64 a0_1, .int .i64 a0_2, .int .i64 a0_3, .int .i64 a0_4, .int .i64 a0_5, .int .i64 a0_6, .int .i64 a0_7, .int .i64 a0_8, .int .i64 0]) ?_ 9 _ rfl; refine blk_put (cs := #[.int .u8 a0_0, .int .i64 a0_1, .int .i64 a0_2, .int .i64 a0_3, .int .i64 a0_4, .int .i64 a0_5, .int .i64 a0_6, .int .i64 a0_7, .int .i64 0, .int .i64 0]) ?_ 8 _ rfl; refine blk_put (cs := #[.int .u8 a0_0, .int .i64 a0_1, .int .i64 a0_2, .int .i64 a0_3, .int .i64 a0_4, .int .i64 a0_5, .int .i64 a0_6, .int .i64 0, .int .i64 0, .int .i64 0]) ?_ 7 _ rfl; refine blk_put (cs := #[.int .u8 a0_0, .int .i64 a0_1, .int .i64 a0_2, .int .i64 a0_3, .int .i64 a0_4, .int .i64 a0_5, .int .i64 0, .int .i64 0, .int .i64 0, .int .i64 0]) ?_ 6 _ rfl; refine blk_put (cs := #[.int .u8 a0_0, .int .i64 a0_1, .int .i64 a0_2, .int .i64 a0_3, .int .i64 a0_4, .int .i64 0, .int .i64 0, .int .i64 0, .int .i64 0, .int .i64 0]) ?_ 5 _ rfl; refine blk_put (cs := #[.int .u8 a0_0, .int .i64 a0_1, .int .i64 a0_2, .int .i64 a0_3, .int .i64 0, .int .i64 0, .int .i64 0, .int .i64 0, .int .i64 0, .int .i64 0]) ?_ 4 _ rfl; refine blk_put (cs := #[.int .u8 a0_0, .int .i64 a0_1, .int .i64 a0_2, .int .i64 0, .int .i64 0, .int .i64 0, .int .i64 0, .int .i64 0, .int .i64 0, .int .i64 0]) ?_ 3 _ rfl; refine blk_put (cs := #[.int .u8 a0_0, .int .i64 a0_1, .int .i64 0, .int .i64 0, .int .i64 0, .int .i64 0, .int .i64 0, .int .i64 0, .int .i64 0, .int .i64 0]) ?_ 2 _ rfl; refine blk_put (cs := #[.int .u8 a0_0, .int .i64 0, .int .i64 0, .int .i64 0, .int .i64 0, .int .i64 0, .int .i64 0, .int .i64 0, .int .i64 0, .int .i64 0]) ?_ 1 _ rfl; refine blk_put (cs := #[.int .u8 0, .int .i64 0, .int .i64 0, .int .i64 0, .int .i64 0, .int .i64 0, .int .i64 0, .int .i64 0, .int .i64 0, .int .i64 0]) ?_ 0 _ rfl; (with_reducible repeat (first | refine blk_far ?_ NB457_454.out _ | refine blk_far ?_ NB457_458.out _ | refine blk_far ?_ NB457_459.out _)); exact BK457.out
        have q458 : Wa_.heap[gb458]? = some (.cells #[.int .u8 0, .int .i64 0, .int .i64 0, .int .i64 0, .int .i64 0, .int .i64 0, .int .i64 0, .int .i64 0, .int .i64 0, .int .i64 0] 31 (0, 0)) := by rw [← hW_]; (with_reducible repeat (first | refine blk_far ?_ NB458_454.out _ | refine blk_far ?_ NB458_457.out _ | refine blk_far ?_ NB458_459.out _)); exact BK458.out
        have q459 : Wa_.heap[gb459]? = some (.cells #[.int .u8 0, .int .i64 0, .int .i64 0, .int .i64 0, .int .i64 0, .int .i64 0, .int .i64 0, .int .i64 0, .int .i64 0, .int .i64 0] 31 (0, 0)) := by rw [← hW_]; (with_reducible repeat (first | refine blk_far ?_ NB459_454.out _ | refine blk_far ?_ NB459_457.out _ | refine blk_far ?_ NB459_458.out _)); exact BK459.out
        have qB : Below w.heap.size w Wa_ := by rw [← hW_]; repeat (first | (with_reducible first | exact HB.out | refine below_set ?_ GE454.out | refine below_set ?_ GE457.out | refine below_set ?_ GE458.out | refine below_set ?_ GE459.out) | exact HB.out)
        clear hW_
        clear BK454 BK457 BK458 BK459 HB
        have BK454 := Aside0.mk q454
        have BK457 := Aside0.mk q457
        have BK458 := Aside0.mk q458
        have BK459 := Aside0.mk q459
        have HB := Aside0.mk qB
        clear q454 q457 q458 q459 qB
        refine one_ (i := 7) (N := none) #[true, true, true, true, true, true, true, true, false] rfl rfl (one_of HT_.out (by kernel_rfl)) (by decide) (fun K hK => ?_)
        have hs33 : Wa_.cell? ⟨gb458, 0, none⟩ = some (.int .u8 0) := (blk_cell BK458.out 0).trans rfl
        have hfs33 := blk_frozen BK458.out 0
        have hns33_0 := NB454_458.out
        have hns33_1 := NB457_458.out
        have hns33_3 := NB459_458.out
        have hms33_0 := NB458_454.out
        have hms33_1 := NB458_457.out
        have hms33_3 := NB458_459.out
        have hs34 : Wa_.cell? ⟨gb458, 1, none⟩ = some (.int .i64 0) := (blk_cell BK458.out 1).trans rfl
        have hfs34 := blk_frozen BK458.out 1
        have hns34_0 := NB454_458.out
        have hns34_1 := NB457_458.out
        have hns34_3 := NB459_458.out
        have hms34_0 := NB458_454.out
        have hms34_1 := NB458_457.out
        have hms34_3 := NB458_459.out
        have hs35 : Wa_.cell? ⟨gb458, 2, none⟩ = some (.int .i64 0) := (blk_cell BK458.out 2).trans rfl
        have hfs35 := blk_frozen BK458.out 2
        have hns35_0 := NB454_458.out
        have hns35_1 := NB457_458.out
        have hns35_3 := NB459_458.out
        have hms35_0 := NB458_454.out
        have hms35_1 := NB458_457.out
        have hms35_3 := NB458_459.out
        have hs36 : Wa_.cell? ⟨gb458, 3, none⟩ = some (.int .i64 0) := (blk_cell BK458.out 3).trans rfl
        have hfs36 := blk_frozen BK458.out 3
        have hns36_0 := NB454_458.out
        have hns36_1 := NB457_458.out
        have hns36_3 := NB459_458.out
        have hms36_0 := NB458_454.out
        have hms36_1 := NB458_457.out
        have hms36_3 := NB458_459.out
        have hs37 : Wa_.cell? ⟨gb458, 4, none⟩ = some (.int .i64 0) := (blk_cell BK458.out 4).trans rfl
        have hfs37 := blk_frozen BK458.out 4
        have hns37_0 := NB454_458.out
        have hns37_1 := NB457_458.out
        have hns37_3 := NB459_458.out
        have hms37_0 := NB458_454.out
        have hms37_1 := NB458_457.out
        have hms37_3 := NB458_459.out
        have hs38 : Wa_.cell? ⟨gb458, 5, none⟩ = some (.int .i64 0) := (blk_cell BK458.out 5).trans rfl
        have hfs38 := blk_frozen BK458.out 5
        have hns38_0 := NB454_458.out
        have hns38_1 := NB457_458.out
        have hns38_3 := NB459_458.out
        have hms38_0 := NB458_454.out
        have hms38_1 := NB458_457.out
        have hms38_3 := NB458_459.out
        have hs39 : Wa_.cell? ⟨gb458, 6, none⟩ = some (.int .i64 0) := (blk_cell BK458.out 6).trans rfl
        have hfs39 := blk_frozen BK458.out 6
        have hns39_0 := NB454_458.out
        have hns39_1 := NB457_458.out
        have hns39_3 := NB459_458.out
        have hms39_0 := NB458_454.out
        have hms39_1 := NB458_457.out
        have hms39_3 := NB458_459.out
        have hs40 : Wa_.cell? ⟨gb458, 7, none⟩ = some (.int .i64 0) := (blk_cell BK458.out 7).trans rfl
        have hfs40 := blk_frozen BK458.out 7
        have hns40_0 := NB454_458.out
        have hns40_1 := NB457_458.out
        have hns40_3 := NB459_458.out
        have hms40_0 := NB458_454.out
        have hms40_1 := NB458_457.out
        have hms40_3 := NB458_459.out
        have hs41 : Wa_.cell? ⟨gb458, 8, none⟩ = some (.int .i64 0) := (blk_cell BK458.out 8).trans rfl
        have hfs41 := blk_frozen BK458.out 8
        have hns41_0 := NB454_458.out
        have hns41_1 := NB457_458.out
        have hns41_3 := NB459_458.out
        have hms41_0 := NB458_454.out
        have hms41_1 := NB458_457.out
        have hms41_3 := NB458_459.out
        have hs42 : Wa_.cell? ⟨gb458, 9, none⟩ = some (.int .i64 0) := (blk_cell BK458.out 9).trans rfl
        have hfs42 := blk_frozen BK458.out 9
        have hns42_0 := NB454_458.out
        have hns42_1 := NB457_458.out
        have hns42_3 := NB459_458.out
        have hms42_0 := NB458_454.out
        have hms42_1 := NB458_457.out
        have hms42_3 := NB458_459.out
        refine skip_ (w1 := ?_) (by rfl) rfl ?_ ?_
        rotate_left
        · go_simp
          rfl
        refine hK.out _ _ ⟨((cell_far (p := ⟨gb458, _, none⟩) NB454_458.out _).trans (((cell_far (p := ⟨gb458, _, none⟩) NB454_458.out _).trans (((cell_far (p := ⟨gb458, _, none⟩) NB454_458.out _).trans (((cell_far (p := ⟨gb458, _, none⟩) NB454_458.out _).trans (((cell_far (p := ⟨gb458, _, none⟩) NB454_458.out _).trans (((cell_far (p := ⟨gb458, _, none⟩) NB454_458.out _).trans (((cell_far (p := ⟨gb458, _, none⟩) NB454_458.out _).trans (((cell_far (p := ⟨gb458, _, none⟩) NB454_458.out _).trans (((cell_far (p := ⟨gb458, _, none⟩) NB454_458.out _).trans (((cell_far (p := ⟨gb458, _, none⟩) NB454_458.out _).trans (hHeld.1)))))))))))))))))))), ((cell_far (p := ⟨gb458, _, none⟩) NB454_458.out _).trans (((cell_far (p := ⟨gb458, _, none⟩) NB454_458.out _).trans (((cell_far (p := ⟨gb458, _, none⟩) NB454_458.out _).trans (((cell_far (p := ⟨gb458, _, none⟩) NB454_458.out _).trans (((cell_far (p := ⟨gb458, _, none⟩) NB454_458.out _).trans (((cell_far (p := ⟨gb458, _, none⟩) NB454_458.out _).trans (((cell_far (p := ⟨gb458, _, none⟩) NB454_458.out _).trans (((cell_far (p := ⟨gb458, _, none⟩) NB454_458.out _).trans (((cell_far (p := ⟨gb458, _, none⟩) NB454_458.out _).trans (((cell_far (p := ⟨gb458, _, none⟩) NB454_458.out _).trans (hHeld.2.1)))))))))))))))))))), ((cell_far (p := ⟨gb458, _, none⟩) NB454_458.out _).trans (((cell_far (p := ⟨gb458, _, none⟩) NB454_458.out _).trans (((cell_far (p := ⟨gb458, _, none⟩) NB454_458.out _).trans (((cell_far (p := ⟨gb458, _, none⟩) NB454_458.out _).trans (((cell_far (p := ⟨gb458, _, none⟩) NB454_458.out _).trans (((cell_far (p := ⟨gb458, _, none⟩) NB454_458.out _).trans (((cell_far (p := ⟨gb458, _, none⟩) NB454_458.out _).trans (((cell_far (p := ⟨gb458, _, none⟩) NB454_458.out _).trans (((cell_far (p := ⟨gb458, _, none⟩) NB454_458.out _).trans (((cell_far (p := ⟨gb458, _, none⟩) NB454_458.out _).trans (hHeld.2.2.1)))))))))))))))))))), ((cell_far (p := ⟨gb458, _, none⟩) NB454_458.out _).trans (((cell_far (p := ⟨gb458, _, none⟩) NB454_458.out _).trans (((cell_far (p := ⟨gb458, _, none⟩) NB454_458.out _).trans (((cell_far (p := ⟨gb458, _, none⟩) NB454_458.out _).trans (((cell_far (p := ⟨gb458, _, none⟩) NB454_458.out _).trans (((cell_far (p := ⟨gb458, _, none⟩) NB454_458.out _).trans (((cell_far (p := ⟨gb458, _, none⟩) NB454_458.out _).trans (((cell_far (p := ⟨gb458, _, none⟩) NB454_458.out _).trans (((cell_far (p := ⟨gb458, _, none⟩) NB454_458.out _).trans (((cell_far (p := ⟨gb458, _, none⟩) NB454_458.out _).trans (hHeld.2.2.2.1)))))))))))))))))))), ((cell_far (p := ⟨gb458, _, none⟩) NB454_458.out _).trans (((cell_far (p := ⟨gb458, _, none⟩) NB454_458.out _).trans (((cell_far (p := ⟨gb458, _, none⟩) NB454_458.out _).trans (((cell_far (p := ⟨gb458, _, none⟩) NB454_458.out _).trans (((cell_far (p := ⟨gb458, _, none⟩) NB454_458.out _).trans (((cell_far (p := ⟨gb458, _, none⟩) NB454_458.out _).trans (((cell_far (p := ⟨gb458, _, none⟩) NB454_458.out _).trans (((cell_far (p := ⟨gb458, _, none⟩) NB454_458.out _).trans (((cell_far (p := ⟨gb458, _, none⟩) NB454_458.out _).trans (((cell_far (p := ⟨gb458, _, none⟩) NB454_458.out _).trans (hHeld.2.2.2.2.1)))))))))))))))))))), ((cell_far (p := ⟨gb458, _, none⟩) NB454_458.out _).trans (((cell_far (p := ⟨gb458, _, none⟩) NB454_458.out _).trans (((cell_far (p := ⟨gb458, _, none⟩) NB454_458.out _).trans (((cell_far (p := ⟨gb458, _, none⟩) NB454_458.out _).trans (((cell_far (p := ⟨gb458, _, none⟩) NB454_458.out _).trans (((cell_far (p := ⟨gb458, _, none⟩) NB454_458.out _).trans (((cell_far (p := ⟨gb458, _, none⟩) NB454_458.out _).trans (((cell_far (p := ⟨gb458, _, none⟩) NB454_458.out _).trans (((cell_far (p := ⟨gb458, _, none⟩) NB454_458.out _).trans (((cell_far (p := ⟨gb458, _, none⟩) NB454_458.out _).trans (hHeld.2.2.2.2.2.1)))))))))))))))))))), ((cell_far (p := ⟨gb458, _, none⟩) NB454_458.out _).trans (((cell_far (p := ⟨gb458, _, none⟩) NB454_458.out _).trans (((cell_far (p := ⟨gb458, _, none⟩) NB454_458.out _).trans (((cell_far (p := ⟨gb458, _, none⟩) NB454_458.out _).trans (((cell_far (p := ⟨gb458, _, none⟩) NB454_458.out _).trans (((cell_far (p := ⟨gb458, _, none⟩) NB454_458.out _).trans (((cell_far (p := ⟨gb458, _, none⟩) NB454_458.out _).trans (((cell_far (p := ⟨gb458, _, none⟩) NB454_458.out _).trans (((cell_far (p := ⟨gb458, _, none⟩) NB454_458.out _).trans (((cell_far (p := ⟨gb458, _, none⟩) NB454_458.out _).trans (hHeld.2.2.2.2.2.2.1)))))))))))))))))))), ((cell_far (p := ⟨gb458, _, none⟩) NB454_458.out _).trans (((cell_far (p := ⟨gb458, _, none⟩) NB454_458.out _).trans (((cell_far (p := ⟨gb458, _, none⟩) NB454_458.out _).trans (((cell_far (p := ⟨gb458, _, none⟩) NB454_458.out _).trans (((cell_far (p := ⟨gb458, _, none⟩) NB454_458.out _).trans (((cell_far (p := ⟨gb458, _, none⟩) NB454_458.out _).trans (((cell_far (p := ⟨gb458, _, none⟩) NB454_458.out _).trans (((cell_far (p := ⟨gb458, _, none⟩) NB454_458.out _).trans (((cell_far (p := ⟨gb458, _, none⟩) NB454_458.out _).trans (((cell_far (p := ⟨gb458, _, none⟩) NB454_458.out _).trans (hHeld.2.2.2.2.2.2.2.1)))))))))))))))))))), ((cell_far (p := ⟨gb458, _, none⟩) NB454_458.out _).trans (((cell_far (p := ⟨gb458, _, none⟩) NB454_458.out _).trans (((cell_far (p := ⟨gb458, _, none⟩) NB454_458.out _).trans (((cell_far (p := ⟨gb458, _, none⟩) NB454_458.out _).trans (((cell_far (p := ⟨gb458, _, none⟩) NB454_458.out _).trans (((cell_far (p := ⟨gb458, _, none⟩) NB454_458.out _).trans (((cell_far (p := ⟨gb458, _, none⟩) NB454_458.out _).trans (((cell_far (p := ⟨gb458, _, none⟩) NB454_458.out _).trans (((cell_far (p := ⟨gb458, _, none⟩) NB454_458.out _).trans (((cell_far (p := ⟨gb458, _, none⟩) NB454_458.out _).trans (hHeld.2.2.2.2.2.2.2.2.1)))))))))))))))))))), ((cell_far (p := ⟨gb458, _, none⟩) NB454_458.out _).trans (((cell_far (p := ⟨gb458, _, none⟩) NB454_458.out _).trans (((cell_far (p := ⟨gb458, _, none⟩) NB454_458.out _).trans (((cell_far (p := ⟨gb458, _, none⟩) NB454_458.out _).trans (((cell_far (p := ⟨gb458, _, none⟩) NB454_458.out _).trans (((cell_far (p := ⟨gb458, _, none⟩) NB454_458.out _).trans (((cell_far (p := ⟨gb458, _, none⟩) NB454_458.out _).trans (((cell_far (p := ⟨gb458, _, none⟩) NB454_458.out _).trans (((cell_far (p := ⟨gb458, _, none⟩) NB454_458.out _).trans (((cell_far (p := ⟨gb458, _, none⟩) NB454_458.out _).trans (hHeld.2.2.2.2.2.2.2.2.2))))))))))))))))))))⟩ (fun hHeld => ?_)
        clear hK K
        clear hs33 hfs33 hns33_0 hns33_1 hns33_3 hms33_0 hms33_1 hms33_3 hs34 hfs34 hns34_0 hns34_1 hns34_3 hms34_0 hms34_1 hms34_3 hs35 hfs35 hns35_0 hns35_1 hns35_3 hms35_0 hms35_1 hms35_3 hs36 hfs36 hns36_0 hns36_1 hns36_3 hms36_0 hms36_1 hms36_3 hs37 hfs37 hns37_0 hns37_1 hns37_3 hms37_0 hms37_1 hms37_3 hs38 hfs38 hns38_0 hns38_1 hns38_3 hms38_0 hms38_1 hms38_3 hs39 hfs39 hns39_0 hns39_1 hns39_3 hms39_0 hms39_1 hms39_3 hs40 hfs40 hns40_0 hns40_1 hns40_3 hms40_0 hms40_1 hms40_3 hs41 hfs41 hns41_0 hns41_1 hns41_3 hms41_0 hms41_1 hms41_3 hs42 hfs42 hns42_0 hns42_1 hns42_3 hms42_0 hms42_1 hms42_3
        generalize hW_ : World.setCell _ _ _ = Wb_ at hHeld ⊢
        have q454 : Wb_.heap[gb454]? = some (.cells #[.int .u8 a0_0, .int .i64 a0_1, .int .i64 a0_2, .int .i64 a0_3, .int .i64 a0_4, .int .i64 a0_5, .int .i64 a0_6, .int .i64 a0_7, .int .i64 a0_8, .int .i64 a0_9] 31 (0, 0)) := by rw [← hW_]; (with_reducible repeat (first | refine blk_far ?_ NB454_457.out _ | refine blk_far ?_ NB454_458.out _ | refine blk_far ?_ NB454_459.out _)); exact BK454.out
        have q457 : Wb_.heap[gb457]? = some (.cells #[.int .u8 a0_0, .int .i64 a0_1, .int .i64 a0_2, .int .i64 a0_3, .int .i64 a0_4, .int .i64 a0_5, .int .i64 a0_6, .int .i64 a0_7, .int .i64 a0_8, .int .i64 a0_9] 31 (0, 0)) := by rw [← hW_]; (with_reducible repeat (first | refine blk_far ?_ NB457_454.out _ | refine blk_far ?_ NB457_458.out _ | refine blk_far ?_ NB457_459.out _)); exact BK457.out
        have q458 : Wb_.heap[gb458]? = some (.cells #[.int .u8 a0_0, .int .i64 a0_1, .int .i64 a0_2, .int .i64 a0_3, .int .i64 a0_4, .int .i64 a0_5, .int .i64 a0_6, .int .i64 a0_7, .int .i64 a0_8, .int .i64 a0_9] 31 (0, 0)) := by rw [← hW_]; (with_reducible repeat (first | refine blk_far ?_ NB458_454.out _ | refine blk_far ?_ NB458_457.out _ | refine blk_far ?_ NB458_459.out _)); refine blk_put (cs := #[.int .u8 a0_0, .int .i64 a0_1, .int .i64 a0_2, .int .i64 a0_3, .int .i64 a0_4, .int .i64 a0_5, .int .i64 a0_6, .int .i64 a0_7, .int .i64 a0_8, .int .i64 0]) ?_ 9 _ rfl; refine blk_put (cs := #[.int .u8 a0_0, .int .i64 a0_1, .int .i64 a0_2, .int .i64 a0_3, .int .i64 a0_4, .int .i64 a0_5, .int .i64 a0_6, .int .i64 a0_7, .int .i64 0, .int .i64 0]) ?_ 8 _ rfl; refine blk_put (cs := #[.int .u8 a0_0, .int .i64 a0_1, .int .i64 a0_2, .int .i64 a0_3, .int .i64 a0_4, .int .i64 a0_5, .int .i64 a0_6, .int .i64 0, .int .i64 0, .int .i64 0]) ?_ 7 _ rfl; refine blk_put (cs := #[.int .u8 a0_0, .int .i64 a0_1, .int .i64 a0_2, .int .i64 a0_3, .int .i64 a0_4, .int .i64 a0_5, .int .i64 0, .int .i64 0, .int .i64 0, .int .i64 0]) ?_ 6 _ rfl; refine blk_put (cs := #[.int .u8 a0_0, .int .i64 a0_1, .int .i64 a0_2, .int .i64 a0_3, .int .i64 a0_4, .int .i64 0, .int .i64 0, .int .i64 0, .int .i64 0, .int .i64 0]) ?_ 5 _ rfl; refine blk_put (cs := #[.int .u8 a0_0, .int .i64 a0_1, .int .i64 a0_2, .int .i64 a0_3, .int .i64 0, .int .i64 0, .int .i64 0, .int .i64 0, .int .i64 0, .int .i64 0]) ?_ 4 _ rfl; refine blk_put (cs := #[.int .u8 a0_0, .int .i64 a0_1, .int .i64 a0_2, .int .i64 0, .int .i64 0, .int .i64 0, .int .i64 0, .int .i64 0, .int .i64 0, .int .i64 0]) ?_ 3 _ rfl; refine blk_put (cs := #[.int .u8 a0_0, .int .i64 a0_1, .int .i64 0, .int .i64 0, .int .i64 0, .int .i64 0, .int .i64 0, .int .i64 0, .int .i64 0, .int .i64 0]) ?_ 2 _ rfl; refine blk_put (cs := #[.int .u8 a0_0, .int .i64 0, .int .i64 0, .int .i64 0, .int .i64 0, .int .i64 0, .int .i64 0, .int .i64 0, .int .i64 0, .int .i64 0]) ?_ 1 _ rfl; refine blk_put (cs := #[.int .u8 0, .int .i64 0, .int .i64 0, .int .i64 0, .int .i64 0, .int .i64 0, .int .i64 0, .int .i64 0, .int .i64 0, .int .i64 0]) ?_ 0 _ rfl; (with_reducible repeat (first | refine blk_far ?_ NB458_454.out _ | refine blk_far ?_ NB458_457.out _ | refine blk_far ?_ NB458_459.out _)); exact BK458.out
        have q459 : Wb_.heap[gb459]? = some (.cells #[.int .u8 0, .int .i64 0, .int .i64 0, .int .i64 0, .int .i64 0, .int .i64 0, .int .i64 0, .int .i64 0, .int .i64 0, .int .i64 0] 31 (0, 0)) := by rw [← hW_]; (with_reducible repeat (first | refine blk_far ?_ NB459_454.out _ | refine blk_far ?_ NB459_457.out _ | refine blk_far ?_ NB459_458.out _)); exact BK459.out
        have qB : Below w.heap.size w Wb_ := by rw [← hW_]; repeat (first | (with_reducible first | exact HB.out | refine below_set ?_ GE454.out | refine below_set ?_ GE457.out | refine below_set ?_ GE458.out | refine below_set ?_ GE459.out) | exact HB.out)
        clear hW_
        clear BK454 BK457 BK458 BK459 HB
        have BK454 := Aside0.mk q454
        have BK457 := Aside0.mk q457
        have BK458 := Aside0.mk q458
        have BK459 := Aside0.mk q459
        have HB := Aside0.mk qB
        clear q454 q457 q458 q459 qB
        refine one_ (i := 8) (N := none) #[true, true, true, true, true, true, true, true, true] rfl rfl (one_of HT_.out (by kernel_rfl)) (by decide) (fun K hK => ?_)
        have hs43 : Wb_.cell? ⟨gb459, 0, none⟩ = some (.int .u8 0) := (blk_cell BK459.out 0).trans rfl
        have hfs43 := blk_frozen BK459.out 0
        have hns43_0 := NB454_459.out
        have hns43_1 := NB457_459.out
        have hns43_2 := NB458_459.out
        have hms43_0 := NB459_454.out
        have hms43_1 := NB459_457.out
        have hms43_2 := NB459_458.out
        have hs44 : Wb_.cell? ⟨gb459, 1, none⟩ = some (.int .i64 0) := (blk_cell BK459.out 1).trans rfl
        have hfs44 := blk_frozen BK459.out 1
        have hns44_0 := NB454_459.out
        have hns44_1 := NB457_459.out
        have hns44_2 := NB458_459.out
        have hms44_0 := NB459_454.out
        have hms44_1 := NB459_457.out
        have hms44_2 := NB459_458.out
        have hs45 : Wb_.cell? ⟨gb459, 2, none⟩ = some (.int .i64 0) := (blk_cell BK459.out 2).trans rfl
        have hfs45 := blk_frozen BK459.out 2
        have hns45_0 := NB454_459.out
        have hns45_1 := NB457_459.out
        have hns45_2 := NB458_459.out
        have hms45_0 := NB459_454.out
        have hms45_1 := NB459_457.out
        have hms45_2 := NB459_458.out
        have hs46 : Wb_.cell? ⟨gb459, 3, none⟩ = some (.int .i64 0) := (blk_cell BK459.out 3).trans rfl
        have hfs46 := blk_frozen BK459.out 3
        have hns46_0 := NB454_459.out
        have hns46_1 := NB457_459.out
        have hns46_2 := NB458_459.out
        have hms46_0 := NB459_454.out
        have hms46_1 := NB459_457.out
        have hms46_2 := NB459_458.out
        have hs47 : Wb_.cell? ⟨gb459, 4, none⟩ = some (.int .i64 0) := (blk_cell BK459.out 4).trans rfl
        have hfs47 := blk_frozen BK459.out 4
        have hns47_0 := NB454_459.out
        have hns47_1 := NB457_459.out
        have hns47_2 := NB458_459.out
        have hms47_0 := NB459_454.out
        have hms47_1 := NB459_457.out
        have hms47_2 := NB459_458.out
        have hs48 : Wb_.cell? ⟨gb459, 5, none⟩ = some (.int .i64 0) := (blk_cell BK459.out 5).trans rfl
        have hfs48 := blk_frozen BK459.out 5
        have hns48_0 := NB454_459.out
        have hns48_1 := NB457_459.out
        have hns48_2 := NB458_459.out
        have hms48_0 := NB459_454.out
        have hms48_1 := NB459_457.out
        have hms48_2 := NB459_458.out
        have hs49 : Wb_.cell? ⟨gb459, 6, none⟩ = some (.int .i64 0) := (blk_cell BK459.out 6).trans rfl
        have hfs49 := blk_frozen BK459.out 6
        have hns49_0 := NB454_459.out
        have hns49_1 := NB457_459.out
        have hns49_2 := NB458_459.out
        have hms49_0 := NB459_454.out
        have hms49_1 := NB459_457.out
        have hms49_2 := NB459_458.out
        have hs50 : Wb_.cell? ⟨gb459, 7, none⟩ = some (.int .i64 0) := (blk_cell BK459.out 7).trans rfl
        have hfs50 := blk_frozen BK459.out 7
        have hns50_0 := NB454_459.out
        have hns50_1 := NB457_459.out
        have hns50_2 := NB458_459.out
        have hms50_0 := NB459_454.out
        have hms50_1 := NB459_457.out
        have hms50_2 := NB459_458.out
        have hs51 : Wb_.cell? ⟨gb459, 8, none⟩ = some (.int .i64 0) := (blk_cell BK459.out 8).trans rfl
        have hfs51 := blk_frozen BK459.out 8
        have hns51_0 := NB454_459.out
        have hns51_1 := NB457_459.out
        have hns51_2 := NB458_459.out
        have hms51_0 := NB459_454.out
        have hms51_1 := NB459_457.out
        have hms51_2 := NB459_458.out
        have hs52 : Wb_.cell? ⟨gb459, 9, none⟩ = some (.int .i64 0) := (blk_cell BK459.out 9).trans rfl
        have hfs52 := blk_frozen BK459.out 9
        have hns52_0 := NB454_459.out
        have hns52_1 := NB457_459.out
        have hns52_2 := NB458_459.out
        have hms52_0 := NB459_454.out
        have hms52_1 := NB459_457.out
        have hms52_2 := NB459_458.out
        refine skip_ (w1 := ?_) (by rfl) rfl ?_ ?_
        rotate_left
        · go_simp
          rfl
        refine hK.out _ _ ⟨((cell_far (p := ⟨gb459, _, none⟩) NB454_459.out _).trans (((cell_far (p := ⟨gb459, _, none⟩) NB454_459.out _).trans (((cell_far (p := ⟨gb459, _, none⟩) NB454_459.out _).trans (((cell_far (p := ⟨gb459, _, none⟩) NB454_459.out _).trans (((cell_far (p := ⟨gb459, _, none⟩) NB454_459.out _).trans (((cell_far (p := ⟨gb459, _, none⟩) NB454_459.out _).trans (((cell_far (p := ⟨gb459, _, none⟩) NB454_459.out _).trans (((cell_far (p := ⟨gb459, _, none⟩) NB454_459.out _).trans (((cell_far (p := ⟨gb459, _, none⟩) NB454_459.out _).trans (((cell_far (p := ⟨gb459, _, none⟩) NB454_459.out _).trans (hHeld.1)))))))))))))))))))), ((cell_far (p := ⟨gb459, _, none⟩) NB454_459.out _).trans (((cell_far (p := ⟨gb459, _, none⟩) NB454_459.out _).trans (((cell_far (p := ⟨gb459, _, none⟩) NB454_459.out _).trans (((cell_far (p := ⟨gb459, _, none⟩) NB454_459.out _).trans (((cell_far (p := ⟨gb459, _, none⟩) NB454_459.out _).trans (((cell_far (p := ⟨gb459, _, none⟩) NB454_459.out _).trans (((cell_far (p := ⟨gb459, _, none⟩) NB454_459.out _).trans (((cell_far (p := ⟨gb459, _, none⟩) NB454_459.out _).trans (((cell_far (p := ⟨gb459, _, none⟩) NB454_459.out _).trans (((cell_far (p := ⟨gb459, _, none⟩) NB454_459.out _).trans (hHeld.2.1)))))))))))))))))))), ((cell_far (p := ⟨gb459, _, none⟩) NB454_459.out _).trans (((cell_far (p := ⟨gb459, _, none⟩) NB454_459.out _).trans (((cell_far (p := ⟨gb459, _, none⟩) NB454_459.out _).trans (((cell_far (p := ⟨gb459, _, none⟩) NB454_459.out _).trans (((cell_far (p := ⟨gb459, _, none⟩) NB454_459.out _).trans (((cell_far (p := ⟨gb459, _, none⟩) NB454_459.out _).trans (((cell_far (p := ⟨gb459, _, none⟩) NB454_459.out _).trans (((cell_far (p := ⟨gb459, _, none⟩) NB454_459.out _).trans (((cell_far (p := ⟨gb459, _, none⟩) NB454_459.out _).trans (((cell_far (p := ⟨gb459, _, none⟩) NB454_459.out _).trans (hHeld.2.2.1)))))))))))))))))))), ((cell_far (p := ⟨gb459, _, none⟩) NB454_459.out _).trans (((cell_far (p := ⟨gb459, _, none⟩) NB454_459.out _).trans (((cell_far (p := ⟨gb459, _, none⟩) NB454_459.out _).trans (((cell_far (p := ⟨gb459, _, none⟩) NB454_459.out _).trans (((cell_far (p := ⟨gb459, _, none⟩) NB454_459.out _).trans (((cell_far (p := ⟨gb459, _, none⟩) NB454_459.out _).trans (((cell_far (p := ⟨gb459, _, none⟩) NB454_459.out _).trans (((cell_far (p := ⟨gb459, _, none⟩) NB454_459.out _).trans (((cell_far (p := ⟨gb459, _, none⟩) NB454_459.out _).trans (((cell_far (p := ⟨gb459, _, none⟩) NB454_459.out _).trans (hHeld.2.2.2.1)))))))))))))))))))), ((cell_far (p := ⟨gb459, _, none⟩) NB454_459.out _).trans (((cell_far (p := ⟨gb459, _, none⟩) NB454_459.out _).trans (((cell_far (p := ⟨gb459, _, none⟩) NB454_459.out _).trans (((cell_far (p := ⟨gb459, _, none⟩) NB454_459.out _).trans (((cell_far (p := ⟨gb459, _, none⟩) NB454_459.out _).trans (((cell_far (p := ⟨gb459, _, none⟩) NB454_459.out _).trans (((cell_far (p := ⟨gb459, _, none⟩) NB454_459.out _).trans (((cell_far (p := ⟨gb459, _, none⟩) NB454_459.out _).trans (((cell_far (p := ⟨gb459, _, none⟩) NB454_459.out _).trans (((cell_far (p := ⟨gb459, _, none⟩) NB454_459.out _).trans (hHeld.2.2.2.2.1)))))))))))))))))))), ((cell_far (p := ⟨gb459, _, none⟩) NB454_459.out _).trans (((cell_far (p := ⟨gb459, _, none⟩) NB454_459.out _).trans (((cell_far (p := ⟨gb459, _, none⟩) NB454_459.out _).trans (((cell_far (p := ⟨gb459, _, none⟩) NB454_459.out _).trans (((cell_far (p := ⟨gb459, _, none⟩) NB454_459.out _).trans (((cell_far (p := ⟨gb459, _, none⟩) NB454_459.out _).trans (((cell_far (p := ⟨gb459, _, none⟩) NB454_459.out _).trans (((cell_far (p := ⟨gb459, _, none⟩) NB454_459.out _).trans (((cell_far (p := ⟨gb459, _, none⟩) NB454_459.out _).trans (((cell_far (p := ⟨gb459, _, none⟩) NB454_459.out _).trans (hHeld.2.2.2.2.2.1)))))))))))))))))))), ((cell_far (p := ⟨gb459, _, none⟩) NB454_459.out _).trans (((cell_far (p := ⟨gb459, _, none⟩) NB454_459.out _).trans (((cell_far (p := ⟨gb459, _, none⟩) NB454_459.out _).trans (((cell_far (p := ⟨gb459, _, none⟩) NB454_459.out _).trans (((cell_far (p := ⟨gb459, _, none⟩) NB454_459.out _).trans (((cell_far (p := ⟨gb459, _, none⟩) NB454_459.out _).trans (((cell_far (p := ⟨gb459, _, none⟩) NB454_459.out _).trans (((cell_far (p := ⟨gb459, _, none⟩) NB454_459.out _).trans (((cell_far (p := ⟨gb459, _, none⟩) NB454_459.out _).trans (((cell_far (p := ⟨gb459, _, none⟩) NB454_459.out _).trans (hHeld.2.2.2.2.2.2.1)))))))))))))))))))), ((cell_far (p := ⟨gb459, _, none⟩) NB454_459.out _).trans (((cell_far (p := ⟨gb459, _, none⟩) NB454_459.out _).trans (((cell_far (p := ⟨gb459, _, none⟩) NB454_459.out _).trans (((cell_far (p := ⟨gb459, _, none⟩) NB454_459.out _).trans (((cell_far (p := ⟨gb459, _, none⟩) NB454_459.out _).trans (((cell_far (p := ⟨gb459, _, none⟩) NB454_459.out _).trans (((cell_far (p := ⟨gb459, _, none⟩) NB454_459.out _).trans (((cell_far (p := ⟨gb459, _, none⟩) NB454_459.out _).trans (((cell_far (p := ⟨gb459, _, none⟩) NB454_459.out _).trans (((cell_far (p := ⟨gb459, _, none⟩) NB454_459.out _).trans (hHeld.2.2.2.2.2.2.2.1)))))))))))))))))))), ((cell_far (p := ⟨gb459, _, none⟩) NB454_459.out _).trans (((cell_far (p := ⟨gb459, _, none⟩) NB454_459.out _).trans (((cell_far (p := ⟨gb459, _, none⟩) NB454_459.out _).trans (((cell_far (p := ⟨gb459, _, none⟩) NB454_459.out _).trans (((cell_far (p := ⟨gb459, _, none⟩) NB454_459.out _).trans (((cell_far (p := ⟨gb459, _, none⟩) NB454_459.out _).trans (((cell_far (p := ⟨gb459, _, none⟩) NB454_459.out _).trans (((cell_far (p := ⟨gb459, _, none⟩) NB454_459.out _).trans (((cell_far (p := ⟨gb459, _, none⟩) NB454_459.out _).trans (((cell_far (p := ⟨gb459, _, none⟩) NB454_459.out _).trans (hHeld.2.2.2.2.2.2.2.2.1)))))))))))))))))))), ((cell_far (p := ⟨gb459, _, none⟩) NB454_459.out _).trans (((cell_far (p := ⟨gb459, _, none⟩) NB454_459.out _).trans (((cell_far (p := ⟨gb459, _, none⟩) NB454_459.out _).trans (((cell_far (p := ⟨gb459, _, none⟩) NB454_459.out _).trans (((cell_far (p := ⟨gb459, _, none⟩) NB454_459.out _).trans (((cell_far (p := ⟨gb459, _, none⟩) NB454_459.out _).trans (((cell_far (p := ⟨gb459, _, none⟩) NB454_459.out _).trans (((cell_far (p := ⟨gb459, _, none⟩) NB454_459.out _).trans (((cell_far (p := ⟨gb459, _, none⟩) NB454_459.out _).trans (((cell_far (p := ⟨gb459, _, none⟩) NB454_459.out _).trans (hHeld.2.2.2.2.2.2.2.2.2))))))))))))))))))))⟩ (fun hHeld => ?_)
        clear hK K
        refine done_ (done_of HT_.out (by kernel_rfl)) ?_
        clear hs43 hfs43 hns43_0 hns43_1 hns43_2 hms43_0 hms43_1 hms43_2 hs44 hfs44 hns44_0 hns44_1 hns44_2 hms44_0 hms44_1 hms44_2 hs45 hfs45 hns45_0 hns45_1 hns45_2 hms45_0 hms45_1 hms45_2 hs46 hfs46 hns46_0 hns46_1 hns46_2 hms46_0 hms46_1 hms46_2 hs47 hfs47 hns47_0 hns47_1 hns47_2 hms47_0 hms47_1 hms47_2 hs48 hfs48 hns48_0 hns48_1 hns48_2 hms48_0 hms48_1 hms48_2 hs49 hfs49 hns49_0 hns49_1 hns49_2 hms49_0 hms49_1 hms49_2 hs50 hfs50 hns50_0 hns50_1 hns50_2 hms50_0 hms50_1 hms50_2 hs51 hfs51 hns51_0 hns51_1 hns51_2 hms51_0 hms51_1 hms51_2 hs52 hfs52 hns52_0 hns52_1 hns52_2 hms52_0 hms52_1 hms52_2
        generalize hW_ : World.setCell _ _ _ = W1_
        have q454 : W1_.heap[gb454]? = some (.cells #[.int .u8 a0_0, .int .i64 a0_1, .int .i64 a0_2, .int .i64 a0_3, .int .i64 a0_4, .int .i64 a0_5, .int .i64 a0_6, .int .i64 a0_7, .int .i64 a0_8, .int .i64 a0_9] 31 (0, 0)) := by rw [← hW_]; (with_reducible repeat (first | refine blk_far ?_ NB454_457.out _ | refine blk_far ?_ NB454_458.out _ | refine blk_far ?_ NB454_459.out _)); exact BK454.out
        have q457 : W1_.heap[gb457]? = some (.cells #[.int .u8 a0_0, .int .i64 a0_1, .int .i64 a0_2, .int .i64 a0_3, .int .i64 a0_4, .int .i64 a0_5, .int .i64 a0_6, .int .i64 a0_7, .int .i64 a0_8, .int .i64 a0_9] 31 (0, 0)) := by rw [← hW_]; (with_reducible repeat (first | refine blk_far ?_ NB457_454.out _ | refine blk_far ?_ NB457_458.out _ | refine blk_far ?_ NB457_459.out _)); exact BK457.out
        have q458 : W1_.heap[gb458]? = some (.cells #[.int .u8 a0_0, .int .i64 a0_1, .int .i64 a0_2, .int .i64 a0_3, .int .i64 a0_4, .int .i64 a0_5, .int .i64 a0_6, .int .i64 a0_7, .int .i64 a0_8, .int .i64 a0_9] 31 (0, 0)) := by rw [← hW_]; (with_reducible repeat (first | refine blk_far ?_ NB458_454.out _ | refine blk_far ?_ NB458_457.out _ | refine blk_far ?_ NB458_459.out _)); exact BK458.out
        have q459 : W1_.heap[gb459]? = some (.cells #[.int .u8 a0_0, .int .i64 a0_1, .int .i64 a0_2, .int .i64 a0_3, .int .i64 a0_4, .int .i64 a0_5, .int .i64 a0_6, .int .i64 a0_7, .int .i64 a0_8, .int .i64 a0_9] 31 (0, 0)) := by rw [← hW_]; (with_reducible repeat (first | refine blk_far ?_ NB459_454.out _ | refine blk_far ?_ NB459_457.out _ | refine blk_far ?_ NB459_458.out _)); refine blk_put (cs := #[.int .u8 a0_0, .int .i64 a0_1, .int .i64 a0_2, .int .i64 a0_3, .int .i64 a0_4, .int .i64 a0_5, .int .i64 a0_6, .int .i64 a0_7, .int .i64 a0_8, .int .i64 0]) ?_ 9 _ rfl; refine blk_put (cs := #[.int .u8 a0_0, .int .i64 a0_1, .int .i64 a0_2, .int .i64 a0_3, .int .i64 a0_4, .int .i64 a0_5, .int .i64 a0_6, .int .i64 a0_7, .int .i64 0, .int .i64 0]) ?_ 8 _ rfl; refine blk_put (cs := #[.int .u8 a0_0, .int .i64 a0_1, .int .i64 a0_2, .int .i64 a0_3, .int .i64 a0_4, .int .i64 a0_5, .int .i64 a0_6, .int .i64 0, .int .i64 0, .int .i64 0]) ?_ 7 _ rfl; refine blk_put (cs := #[.int .u8 a0_0, .int .i64 a0_1, .int .i64 a0_2, .int .i64 a0_3, .int .i64 a0_4, .int .i64 a0_5, .int .i64 0, .int .i64 0, .int .i64 0, .int .i64 0]) ?_ 6 _ rfl; refine blk_put (cs := #[.int .u8 a0_0, .int .i64 a0_1, .int .i64 a0_2, .int .i64 a0_3, .int .i64 a0_4, .int .i64 0, .int .i64 0, .int .i64 0, .int .i64 0, .int .i64 0]) ?_ 5 _ rfl; refine blk_put (cs := #[.int .u8 a0_0, .int .i64 a0_1, .int .i64 a0_2, .int .i64 a0_3, .int .i64 0, .int .i64 0, .int .i64 0, .int .i64 0, .int .i64 0, .int .i64 0]) ?_ 4 _ rfl; refine blk_put (cs := #[.int .u8 a0_0, .int .i64 a0_1, .int .i64 a0_2, .int .i64 0, .int .i64 0, .int .i64 0, .int .i64 0, .int .i64 0, .int .i64 0, .int .i64 0]) ?_ 3 _ rfl; refine blk_put (cs := #[.int .u8 a0_0, .int .i64 a0_1, .int .i64 0, .int .i64 0, .int .i64 0, .int .i64 0, .int .i64 0, .int .i64 0, .int .i64 0, .int .i64 0]) ?_ 2 _ rfl; refine blk_put (cs := #[.int .u8 a0_0, .int .i64 0, .int .i64 0, .int .i64 0, .int .i64 0, .int .i64 0, .int .i64 0, .int .i64 0, .int .i64 0, .int .i64 0]) ?_ 1 _ rfl; refine blk_put (cs := #[.int .u8 0, .int .i64 0, .int .i64 0, .int .i64 0, .int .i64 0, .int .i64 0, .int .i64 0, .int .i64 0, .int .i64 0, .int .i64 0]) ?_ 0 _ rfl; (with_reducible repeat (first | refine blk_far ?_ NB459_454.out _ | refine blk_far ?_ NB459_457.out _ | refine blk_far ?_ NB459_458.out _)); exact BK459.out
        have qB : Below w.heap.size w W1_ := by rw [← hW_]; repeat (first | (with_reducible first | exact HB.out | refine below_set ?_ GE454.out | refine below_set ?_ GE457.out | refine below_set ?_ GE458.out | refine below_set ?_ GE459.out) | exact HB.out)
        clear hW_
        try clear hHeld
        try clear HT_
        try clear HW_
        clear BK454 BK457 BK458 BK459 HB
        have BK454 := Aside0.mk q454
        have BK457 := Aside0.mk q457
        have BK458 := Aside0.mk q458
        have BK459 := Aside0.mk q459
        have HB := Aside0.mk qB
        clear q454 q457 q458 q459 qB
        have hnb53 := NB457_454.out
        have hnc53 := NB454_457.out
        have hnb54 := NB457_458.out
        have hnc54 := NB458_457.out
        have hnb55 := NB457_459.out
        have hnc55 := NB459_457.out
        have hcz56_0 : W1_.cell? ⟨gb457, 0, none⟩ = some (.int .u8 a0_0) := (blk_cell BK457.out 0).trans rfl
        have hcz56_1 : W1_.cell? ⟨gb457, 1, none⟩ = some (.int .i64 a0_1) := (blk_cell BK457.out 1).trans rfl
        have hcz56_2 : W1_.cell? ⟨gb457, 2, none⟩ = some (.int .i64 a0_2) := (blk_cell BK457.out 2).trans rfl
        have hcz56_3 : W1_.cell? ⟨gb457, 3, none⟩ = some (.int .i64 a0_3) := (blk_cell BK457.out 3).trans rfl
        have hcz56_4 : W1_.cell? ⟨gb457, 4, none⟩ = some (.int .i64 a0_4) := (blk_cell BK457.out 4).trans rfl
        have hcz56_5 : W1_.cell? ⟨gb457, 5, none⟩ = some (.int .i64 a0_5) := (blk_cell BK457.out 5).trans rfl
        have hcz56_6 : W1_.cell? ⟨gb457, 6, none⟩ = some (.int .i64 a0_6) := (blk_cell BK457.out 6).trans rfl
        have hcz56_7 : W1_.cell? ⟨gb457, 7, none⟩ = some (.int .i64 a0_7) := (blk_cell BK457.out 7).trans rfl
        have hcz56_8 : W1_.cell? ⟨gb457, 8, none⟩ = some (.int .i64 a0_8) := (blk_cell BK457.out 8).trans rfl
        have hcz56_9 : W1_.cell? ⟨gb457, 9, none⟩ = some (.int .i64 a0_9) := (blk_cell BK457.out 9).trans rfl
        obtain ⟨hfz56_0, hfz56_1, hfz56_2, hfz56_3, hfz56_4, hfz56_5, hfz56_6, hfz56_7, hfz56_8, hfz56_9⟩ := froz10 BK457.out
        have hnb57 := NB458_454.out
        have hnc57 := NB454_458.out
        have hnb58 := NB458_459.out
        have hnc58 := NB459_458.out
        have hcz59_0 : W1_.cell? ⟨gb458, 0, none⟩ = some (.int .u8 a0_0) := (blk_cell BK458.out 0).trans rfl
        have hcz59_1 : W1_.cell? ⟨gb458, 1, none⟩ = some (.int .i64 a0_1) := (blk_cell BK458.out 1).trans rfl
        have hcz59_2 : W1_.cell? ⟨gb458, 2, none⟩ = some (.int .i64 a0_2) := (blk_cell BK458.out 2).trans rfl
        have hcz59_3 : W1_.cell? ⟨gb458, 3, none⟩ = some (.int .i64 a0_3) := (blk_cell BK458.out 3).trans rfl
        have hcz59_4 : W1_.cell? ⟨gb458, 4, none⟩ = some (.int .i64 a0_4) := (blk_cell BK458.out 4).trans rfl
        have hcz59_5 : W1_.cell? ⟨gb458, 5, none⟩ = some (.int .i64 a0_5) := (blk_cell BK458.out 5).trans rfl
        have hcz59_6 : W1_.cell? ⟨gb458, 6, none⟩ = some (.int .i64 a0_6) := (blk_cell BK458.out 6).trans rfl
        have hcz59_7 : W1_.cell? ⟨gb458, 7, none⟩ = some (.int .i64 a0_7) := (blk_cell BK458.out 7).trans rfl
        have hcz59_8 : W1_.cell? ⟨gb458, 8, none⟩ = some (.int .i64 a0_8) := (blk_cell BK458.out 8).trans rfl
        have hcz59_9 : W1_.cell? ⟨gb458, 9, none⟩ = some (.int .i64 a0_9) := (blk_cell BK458.out 9).trans rfl
        obtain ⟨hfz59_0, hfz59_1, hfz59_2, hfz59_3, hfz59_4, hfz59_5, hfz59_6, hfz59_7, hfz59_8, hfz59_9⟩ := froz10 BK458.out
        have hnb60 := NB459_454.out
        have hnc60 := NB454_459.out
        have hcz61_0 : W1_.cell? ⟨gb459, 0, none⟩ = some (.int .u8 a0_0) := (blk_cell BK459.out 0).trans rfl
        have hcz61_1 : W1_.cell? ⟨gb459, 1, none⟩ = some (.int .i64 a0_1) := (blk_cell BK459.out 1).trans rfl
        have hcz61_2 : W1_.cell? ⟨gb459, 2, none⟩ = some (.int .i64 a0_2) := (blk_cell BK459.out 2).trans rfl
        have hcz61_3 : W1_.cell? ⟨gb459, 3, none⟩ = some (.int .i64 a0_3) := (blk_cell BK459.out 3).trans rfl
        have hcz61_4 : W1_.cell? ⟨gb459, 4, none⟩ = some (.int .i64 a0_4) := (blk_cell BK459.out 4).trans rfl
        have hcz61_5 : W1_.cell? ⟨gb459, 5, none⟩ = some (.int .i64 a0_5) := (blk_cell BK459.out 5).trans rfl
        have hcz61_6 : W1_.cell? ⟨gb459, 6, none⟩ = some (.int .i64 a0_6) := (blk_cell BK459.out 6).trans rfl
        have hcz61_7 : W1_.cell? ⟨gb459, 7, none⟩ = some (.int .i64 a0_7) := (blk_cell BK459.out 7).trans rfl
        have hcz61_8 : W1_.cell? ⟨gb459, 8, none⟩ = some (.int .i64 a0_8) := (blk_cell BK459.out 8).trans rfl
        have hcz61_9 : W1_.cell? ⟨gb459, 9, none⟩ = some (.int .i64 a0_9) := (blk_cell BK459.out 9).trans rfl
        obtain ⟨hfz61_0, hfz61_1, hfz61_2, hfz61_3, hfz61_4, hfz61_5, hfz61_6, hfz61_7, hfz61_8, hfz61_9⟩ := froz10 BK459.out
        go_upto_region 6 with (fail)
        try clear hnb53
        try clear hnc53
        try clear hnb54
        try clear hnc54
        try clear hnb55
        try clear hnc55
        try clear hcz56_0
        try clear hcz56_1
        try clear hcz56_2
        try clear hcz56_3
        try clear hcz56_4
        try clear hcz56_5
        try clear hcz56_6
        try clear hcz56_7
        try clear hcz56_8
        try clear hcz56_9
        try clear hfz56_0
        try clear hfz56_1
        try clear hfz56_2
        try clear hfz56_3
        try clear hfz56_4
        try clear hfz56_5
        try clear hfz56_6
        try clear hfz56_7
        try clear hfz56_8
        try clear hfz56_9
        try clear hnb57
        try clear hnc57
        try clear hnb58
        try clear hnc58
        try clear hcz59_0
        try clear hcz59_1
        try clear hcz59_2
        try clear hcz59_3
        try clear hcz59_4
        try clear hcz59_5
        try clear hcz59_6
        try clear hcz59_7
        try clear hcz59_8
        try clear hcz59_9
        try clear hfz59_0
        try clear hfz59_1
        try clear hfz59_2
        try clear hfz59_3
        try clear hfz59_4
        try clear hfz59_5
        try clear hfz59_6
        try clear hfz59_7
        try clear hfz59_8
        try clear hfz59_9
        try clear hnb60
        try clear hnc60
        try clear hcz61_0
        try clear hcz61_1
        try clear hcz61_2
        try clear hcz61_3
        try clear hcz61_4
        try clear hcz61_5
        try clear hcz61_6
        try clear hcz61_7
        try clear hcz61_8
        try clear hcz61_9
        try clear hfz61_0
        try clear hfz61_1
        try clear hfz61_2
        try clear hfz61_3
        try clear hfz61_4
        try clear hfz61_5
        try clear hfz61_6
        try clear hfz61_7
        try clear hfz61_8
        try clear hfz61_9
        generalize hW_ : World.setCell _ _ _ = W2_
        have q454 : W2_.heap[gb454]? = some (.cells #[.int .u8 a0_0, .int .i64 a0_1, .int .i64 a0_2, .int .i64 a0_3, .int .i64 a0_4, .int .i64 a0_5, .int .i64 a0_6, .int .i64 a0_7, .int .i64 a0_8, .int .i64 a0_9] 31 (0, 0)) := by rw [← hW_]; (with_reducible repeat (first | refine blk_far ?_ NB454_457.out _ | refine blk_far ?_ NB454_458.out _ | refine blk_far ?_ NB454_459.out _)); exact BK454.out
        have q457 : W2_.heap[gb457]? = some (.cells #[.int .u8 a0_0, .int .i64 a0_1, .int .i64 a0_2, .int .i64 a0_3, .int .i64 a1, .int .i64 a0_5, .int .i64 a0_6, .int .i64 a0_7, .int .i64 a0_8, .int .i64 a0_9] 31 (0, 0)) := by rw [← hW_]; (with_reducible repeat (first | refine blk_far ?_ NB457_454.out _ | refine blk_far ?_ NB457_458.out _ | refine blk_far ?_ NB457_459.out _)); refine blk_put (cs := #[.int .u8 a0_0, .int .i64 a0_1, .int .i64 a0_2, .int .i64 a0_3, .int .i64 a0_4, .int .i64 a0_5, .int .i64 a0_6, .int .i64 a0_7, .int .i64 a0_8, .int .i64 a0_9]) ?_ 4 _ rfl; (with_reducible repeat (first | refine blk_far ?_ NB457_454.out _ | refine blk_far ?_ NB457_458.out _ | refine blk_far ?_ NB457_459.out _)); exact BK457.out
        have q458 : W2_.heap[gb458]? = some (.cells #[.int .u8 a0_0, .int .i64 a1, .int .i64 a0_2, .int .i64 a0_3, .int .i64 a0_4, .int .i64 a0_5, .int .i64 a0_6, .int .i64 a0_7, .int .i64 a0_8, .int .i64 a0_9] 31 (0, 0)) := by rw [← hW_]; (with_reducible repeat (first | refine blk_far ?_ NB458_454.out _ | refine blk_far ?_ NB458_457.out _ | refine blk_far ?_ NB458_459.out _)); refine blk_put (cs := #[.int .u8 a0_0, .int .i64 a0_1, .int .i64 a0_2, .int .i64 a0_3, .int .i64 a0_4, .int .i64 a0_5, .int .i64 a0_6, .int .i64 a0_7, .int .i64 a0_8, .int .i64 a0_9]) ?_ 1 _ rfl; (with_reducible repeat (first | refine blk_far ?_ NB458_454.out _ | refine blk_far ?_ NB458_457.out _ | refine blk_far ?_ NB458_459.out _)); exact BK458.out
        have q459 : W2_.heap[gb459]? = some (.cells #[.int .u8 a0_0, .int .i64 a0_1, .int .i64 a0_2, .int .i64 a0_3, .int .i64 a0_4, .int .i64 a1, .int .i64 a0_6, .int .i64 a0_7, .int .i64 a0_8, .int .i64 a0_9] 31 (0, 0)) := by rw [← hW_]; (with_reducible repeat (first | refine blk_far ?_ NB459_454.out _ | refine blk_far ?_ NB459_457.out _ | refine blk_far ?_ NB459_458.out _)); refine blk_put (cs := #[.int .u8 a0_0, .int .i64 a0_1, .int .i64 a0_2, .int .i64 a0_3, .int .i64 a0_4, .int .i64 a0_5, .int .i64 a0_6, .int .i64 a0_7, .int .i64 a0_8, .int .i64 a0_9]) ?_ 5 _ rfl; (with_reducible repeat (first | refine blk_far ?_ NB459_454.out _ | refine blk_far ?_ NB459_457.out _ | refine blk_far ?_ NB459_458.out _)); exact BK459.out
        have qB : Below w.heap.size w W2_ := by rw [← hW_]; repeat (first | (with_reducible first | exact HB.out | refine below_set ?_ GE454.out | refine below_set ?_ GE457.out | refine below_set ?_ GE458.out | refine below_set ?_ GE459.out) | exact HB.out)
        clear hW_
        try clear hHeld
        try clear HT_
        try clear HW_
        clear BK454 BK457 BK458 BK459 HB
        have BK454 := Aside0.mk q454
        have BK457 := Aside0.mk q457
        have BK458 := Aside0.mk q458
        have BK459 := Aside0.mk q459
        have HB := Aside0.mk qB
        clear q454 q457 q458 q459 qB
        go_cut [55] (fun v55 wc => ∃ (kq : Nat) (x55_16 : Bool), v55 = .bool x55_16 ∧ Aside0 (tailwaterlaw25_MessageSpare.j1 kq t455 x55_16 a0_0 a0_1 a0_2 a0_3 a0_4 a0_5 a0_6 a0_7 a0_8 a0_9 a0_0 a0_1 a0_2 a0_3 a0_4 a1 a0_6 a0_7 a0_8 a0_9 = some true) ∧ Aside0 (kq ≤ kj3) ∧ Aside0 (wc.heap[gb454]? = some (.cells #[.int .u8 a0_0, .int .i64 a0_1, .int .i64 a0_2, .int .i64 a0_3, .int .i64 a0_4, .int .i64 a0_5, .int .i64 a0_6, .int .i64 a0_7, .int .i64 a0_8, .int .i64 a0_9] 31 (0, 0))) ∧ Aside0 (wc.heap[gb457]? = some (.cells #[.int .u8 a0_0, .int .i64 a0_1, .int .i64 a0_2, .int .i64 a0_3, .int .i64 a1, .int .i64 a0_5, .int .i64 a0_6, .int .i64 a0_7, .int .i64 a0_8, .int .i64 a0_9] 31 (0, 0))) ∧ Aside0 (wc.heap[gb458]? = some (.cells #[.int .u8 a0_0, .int .i64 a1, .int .i64 a0_2, .int .i64 a0_3, .int .i64 a0_4, .int .i64 a0_5, .int .i64 a0_6, .int .i64 a0_7, .int .i64 a0_8, .int .i64 a0_9] 31 (0, 0))) ∧ Aside0 (wc.heap[gb459]? = some (.cells #[.int .u8 a0_0, .int .i64 a0_1, .int .i64 a0_2, .int .i64 a0_3, .int .i64 a0_4, .int .i64 a1, .int .i64 a0_6, .int .i64 a0_7, .int .i64 a0_8, .int .i64 a0_9] 31 (0, 0))) ∧ Aside0 (Below w.heap.size w wc))
        case first =>
          have H := HC17.out
          clear HC17
          by_cases c62 : a0_0 = 2
          · rw [if_pos c62] at H
            have c62b0 : (a0_0 == 2) = true := beq_iff_eq.mpr c62
            have c62b1 : (a0_0 != 2) = false := bne_eq_false_iff_eq.mpr c62
            clear c62
            (first | rw [c62b0] | (simp only [i64_w, i32_w]; rw [c62b0]) | skip)
            by_cases c63 : a0_0 = 1
            · rw [if_pos c63] at H
              have c63b0 : (a0_0 == 1) = true := beq_iff_eq.mpr c63
              have c63b1 : (a0_0 != 1) = false := bne_eq_false_iff_eq.mpr c63
              clear c63
              have H' := Aside0.mk H
              clear H
              have hnb64 := NB454_457.out
              have hnc64 := NB457_454.out
              have hnb65 := NB454_458.out
              have hnc65 := NB458_454.out
              have hnb66 := NB454_459.out
              have hnc66 := NB459_454.out
              have hcz67_0 : W2_.cell? ⟨gb454, 0, none⟩ = some (.int .u8 a0_0) := (blk_cell BK454.out 0).trans rfl
              have hcz67_1 : W2_.cell? ⟨gb454, 1, none⟩ = some (.int .i64 a0_1) := (blk_cell BK454.out 1).trans rfl
              have hcz67_2 : W2_.cell? ⟨gb454, 2, none⟩ = some (.int .i64 a0_2) := (blk_cell BK454.out 2).trans rfl
              have hcz67_3 : W2_.cell? ⟨gb454, 3, none⟩ = some (.int .i64 a0_3) := (blk_cell BK454.out 3).trans rfl
              have hcz67_4 : W2_.cell? ⟨gb454, 4, none⟩ = some (.int .i64 a0_4) := (blk_cell BK454.out 4).trans rfl
              have hcz67_5 : W2_.cell? ⟨gb454, 5, none⟩ = some (.int .i64 a0_5) := (blk_cell BK454.out 5).trans rfl
              have hcz67_6 : W2_.cell? ⟨gb454, 6, none⟩ = some (.int .i64 a0_6) := (blk_cell BK454.out 6).trans rfl
              have hcz67_7 : W2_.cell? ⟨gb454, 7, none⟩ = some (.int .i64 a0_7) := (blk_cell BK454.out 7).trans rfl
              have hcz67_8 : W2_.cell? ⟨gb454, 8, none⟩ = some (.int .i64 a0_8) := (blk_cell BK454.out 8).trans rfl
              have hcz67_9 : W2_.cell? ⟨gb454, 9, none⟩ = some (.int .i64 a0_9) := (blk_cell BK454.out 9).trans rfl
              obtain ⟨hfz67_0, hfz67_1, hfz67_2, hfz67_3, hfz67_4, hfz67_5, hfz67_6, hfz67_7, hfz67_8, hfz67_9⟩ := froz10 BK454.out
              go_wp2
              go_meet
              case rel => exact ⟨_, (false), (by first | rfl | (simp; done) | (simp [*]; done)), H', ⟨by have := HJ3.out; first | omega | exact Nat.le_refl _⟩, ⟨by (with_reducible repeat (first | refine blk_drewN ?_ _ | refine blk_drew ?_ | refine blk_alloc ?_ _)); exact BK454.out⟩, ⟨by (with_reducible repeat (first | refine blk_drewN ?_ _ | refine blk_drew ?_ | refine blk_alloc ?_ _)); exact BK457.out⟩, ⟨by (with_reducible repeat (first | refine blk_drewN ?_ _ | refine blk_drew ?_ | refine blk_alloc ?_ _)); exact BK458.out⟩, ⟨by (with_reducible repeat (first | refine blk_drewN ?_ _ | refine blk_drew ?_ | refine blk_alloc ?_ _)); exact BK459.out⟩, ⟨by repeat (first | (with_reducible first | exact HB.out | apply below_alloc | apply pw_below_drewN | apply below_drew1 | refine below_set ?_ GE454.out | refine below_set ?_ GE457.out | refine below_set ?_ GE458.out | refine below_set ?_ GE459.out) | exact HB.out)⟩⟩
            · rw [if_neg c63] at H
              have c63b0 : (a0_0 == 1) = false := beq_eq_false_iff_ne.mpr c63
              have c63b1 : (a0_0 != 1) = true := bne_iff_ne.mpr c63
              by_cases c68 : a0_0 = 4
              · rw [if_pos c68] at H
                have c68b0 : (a0_0 == 4) = true := beq_iff_eq.mpr c68
                have c68b1 : (a0_0 != 4) = false := bne_eq_false_iff_eq.mpr c68
                clear c68
                have H' := Aside0.mk H
                clear H
                have hnb69 := NB454_457.out
                have hnc69 := NB457_454.out
                have hnb70 := NB454_458.out
                have hnc70 := NB458_454.out
                have hnb71 := NB454_459.out
                have hnc71 := NB459_454.out
                have hcz72_0 : W2_.cell? ⟨gb454, 0, none⟩ = some (.int .u8 a0_0) := (blk_cell BK454.out 0).trans rfl
                have hcz72_1 : W2_.cell? ⟨gb454, 1, none⟩ = some (.int .i64 a0_1) := (blk_cell BK454.out 1).trans rfl
                have hcz72_2 : W2_.cell? ⟨gb454, 2, none⟩ = some (.int .i64 a0_2) := (blk_cell BK454.out 2).trans rfl
                have hcz72_3 : W2_.cell? ⟨gb454, 3, none⟩ = some (.int .i64 a0_3) := (blk_cell BK454.out 3).trans rfl
                have hcz72_4 : W2_.cell? ⟨gb454, 4, none⟩ = some (.int .i64 a0_4) := (blk_cell BK454.out 4).trans rfl
                have hcz72_5 : W2_.cell? ⟨gb454, 5, none⟩ = some (.int .i64 a0_5) := (blk_cell BK454.out 5).trans rfl
                have hcz72_6 : W2_.cell? ⟨gb454, 6, none⟩ = some (.int .i64 a0_6) := (blk_cell BK454.out 6).trans rfl
                have hcz72_7 : W2_.cell? ⟨gb454, 7, none⟩ = some (.int .i64 a0_7) := (blk_cell BK454.out 7).trans rfl
                have hcz72_8 : W2_.cell? ⟨gb454, 8, none⟩ = some (.int .i64 a0_8) := (blk_cell BK454.out 8).trans rfl
                have hcz72_9 : W2_.cell? ⟨gb454, 9, none⟩ = some (.int .i64 a0_9) := (blk_cell BK454.out 9).trans rfl
                obtain ⟨hfz72_0, hfz72_1, hfz72_2, hfz72_3, hfz72_4, hfz72_5, hfz72_6, hfz72_7, hfz72_8, hfz72_9⟩ := froz10 BK454.out
                go_wp2
                go_meet
                case rel => exact ⟨_, (false), (by first | rfl | (simp; done) | (simp [*]; done)), H', ⟨by have := HJ3.out; first | omega | exact Nat.le_refl _⟩, ⟨by (with_reducible repeat (first | refine blk_drewN ?_ _ | refine blk_drew ?_ | refine blk_alloc ?_ _)); exact BK454.out⟩, ⟨by (with_reducible repeat (first | refine blk_drewN ?_ _ | refine blk_drew ?_ | refine blk_alloc ?_ _)); exact BK457.out⟩, ⟨by (with_reducible repeat (first | refine blk_drewN ?_ _ | refine blk_drew ?_ | refine blk_alloc ?_ _)); exact BK458.out⟩, ⟨by (with_reducible repeat (first | refine blk_drewN ?_ _ | refine blk_drew ?_ | refine blk_alloc ?_ _)); exact BK459.out⟩, ⟨by repeat (first | (with_reducible first | exact HB.out | apply below_alloc | apply pw_below_drewN | apply below_drew1 | refine below_set ?_ GE454.out | refine below_set ?_ GE457.out | refine below_set ?_ GE458.out | refine below_set ?_ GE459.out) | exact HB.out)⟩⟩
              · rw [if_neg c68] at H
                have c68b0 : (a0_0 == 4) = false := beq_eq_false_iff_ne.mpr c68
                have c68b1 : (a0_0 != 4) = true := bne_iff_ne.mpr c68
                replace H := Option.bind_eq_some_iff.mp H
                obtain ⟨t460, A730, H⟩ := H
                replace H : (tailwaterlaw25_MessageSpare.j1 kj3 t455 (!t460) a0_0 a0_1 a0_2 a0_3 a0_4 a0_5 a0_6 a0_7 a0_8 a0_9 a0_0 a0_1 a0_2 a0_3 a0_4 a1 a0_6 a0_7 a0_8 a0_9) = some true := H
                have A73 := Aside0.mk A730
                clear A730
                have H' := Aside0.mk H
                clear H
                have hnb74 := NB454_457.out
                have hnc74 := NB457_454.out
                have hnb75 := NB454_458.out
                have hnc75 := NB458_454.out
                have hnb76 := NB454_459.out
                have hnc76 := NB459_454.out
                have hcz77_0 : W2_.cell? ⟨gb454, 0, none⟩ = some (.int .u8 a0_0) := (blk_cell BK454.out 0).trans rfl
                have hcz77_1 : W2_.cell? ⟨gb454, 1, none⟩ = some (.int .i64 a0_1) := (blk_cell BK454.out 1).trans rfl
                have hcz77_2 : W2_.cell? ⟨gb454, 2, none⟩ = some (.int .i64 a0_2) := (blk_cell BK454.out 2).trans rfl
                have hcz77_3 : W2_.cell? ⟨gb454, 3, none⟩ = some (.int .i64 a0_3) := (blk_cell BK454.out 3).trans rfl
                have hcz77_4 : W2_.cell? ⟨gb454, 4, none⟩ = some (.int .i64 a0_4) := (blk_cell BK454.out 4).trans rfl
                have hcz77_5 : W2_.cell? ⟨gb454, 5, none⟩ = some (.int .i64 a0_5) := (blk_cell BK454.out 5).trans rfl
                have hcz77_6 : W2_.cell? ⟨gb454, 6, none⟩ = some (.int .i64 a0_6) := (blk_cell BK454.out 6).trans rfl
                have hcz77_7 : W2_.cell? ⟨gb454, 7, none⟩ = some (.int .i64 a0_7) := (blk_cell BK454.out 7).trans rfl
                have hcz77_8 : W2_.cell? ⟨gb454, 8, none⟩ = some (.int .i64 a0_8) := (blk_cell BK454.out 8).trans rfl
                have hcz77_9 : W2_.cell? ⟨gb454, 9, none⟩ = some (.int .i64 a0_9) := (blk_cell BK454.out 9).trans rfl
                obtain ⟨hfz77_0, hfz77_1, hfz77_2, hfz77_3, hfz77_4, hfz77_5, hfz77_6, hfz77_7, hfz77_8, hfz77_9⟩ := froz10 BK454.out
                have hnb78 := NB458_457.out
                have hnc78 := NB457_458.out
                have hnb79 := NB458_459.out
                have hnc79 := NB459_458.out
                have hcz80_0 : W2_.cell? ⟨gb458, 0, none⟩ = some (.int .u8 a0_0) := (blk_cell BK458.out 0).trans rfl
                have hcz80_1 : W2_.cell? ⟨gb458, 1, none⟩ = some (.int .i64 a1) := (blk_cell BK458.out 1).trans rfl
                have hcz80_2 : W2_.cell? ⟨gb458, 2, none⟩ = some (.int .i64 a0_2) := (blk_cell BK458.out 2).trans rfl
                have hcz80_3 : W2_.cell? ⟨gb458, 3, none⟩ = some (.int .i64 a0_3) := (blk_cell BK458.out 3).trans rfl
                have hcz80_4 : W2_.cell? ⟨gb458, 4, none⟩ = some (.int .i64 a0_4) := (blk_cell BK458.out 4).trans rfl
                have hcz80_5 : W2_.cell? ⟨gb458, 5, none⟩ = some (.int .i64 a0_5) := (blk_cell BK458.out 5).trans rfl
                have hcz80_6 : W2_.cell? ⟨gb458, 6, none⟩ = some (.int .i64 a0_6) := (blk_cell BK458.out 6).trans rfl
                have hcz80_7 : W2_.cell? ⟨gb458, 7, none⟩ = some (.int .i64 a0_7) := (blk_cell BK458.out 7).trans rfl
                have hcz80_8 : W2_.cell? ⟨gb458, 8, none⟩ = some (.int .i64 a0_8) := (blk_cell BK458.out 8).trans rfl
                have hcz80_9 : W2_.cell? ⟨gb458, 9, none⟩ = some (.int .i64 a0_9) := (blk_cell BK458.out 9).trans rfl
                obtain ⟨hfz80_0, hfz80_1, hfz80_2, hfz80_3, hfz80_4, hfz80_5, hfz80_6, hfz80_7, hfz80_8, hfz80_9⟩ := froz10 BK458.out
                go_wp2_with (first | (go_at_call 17; (with_reducible refine (tailwaterlaw25_bad.calls kj3 a0_0 a1 a0_2 a0_3 a0_4 a0_5 a0_6 a0_7 a0_8 a0_9 t460 _ ?side1 A73.out).mono ?_); (case side1 => exact (TabG.below HT0.out (by repeat (first | (with_reducible first | exact HB.out | apply below_alloc | apply pw_below_drewN | apply below_drew1 | refine below_set ?_ GE454.out | refine below_set ?_ GE457.out | refine below_set ?_ GE458.out | refine below_set ?_ GE459.out) | exact HB.out))).tab); rintro e w81 ⟨rfl, hb⟩; have n0_ := Aside0.mk (blk_below (g := gb454) (o := .cells #[.int .u8 a0_0, .int .i64 a0_1, .int .i64 a0_2, .int .i64 a0_3, .int .i64 a0_4, .int .i64 a0_5, .int .i64 a0_6, .int .i64 a0_7, .int .i64 a0_8, .int .i64 a0_9] 31 (0, 0)) (by (with_reducible repeat (first | refine blk_drewN ?_ _ | refine blk_drew ?_ | refine blk_alloc ?_ _)); exact BK454.out) hb); have n1_ := Aside0.mk (blk_below (g := gb457) (o := .cells #[.int .u8 a0_0, .int .i64 a0_1, .int .i64 a0_2, .int .i64 a0_3, .int .i64 a1, .int .i64 a0_5, .int .i64 a0_6, .int .i64 a0_7, .int .i64 a0_8, .int .i64 a0_9] 31 (0, 0)) (by (with_reducible repeat (first | refine blk_drewN ?_ _ | refine blk_drew ?_ | refine blk_alloc ?_ _)); exact BK457.out) hb); have n2_ := Aside0.mk (blk_below (g := gb458) (o := .cells #[.int .u8 a0_0, .int .i64 a1, .int .i64 a0_2, .int .i64 a0_3, .int .i64 a0_4, .int .i64 a0_5, .int .i64 a0_6, .int .i64 a0_7, .int .i64 a0_8, .int .i64 a0_9] 31 (0, 0)) (by (with_reducible repeat (first | refine blk_drewN ?_ _ | refine blk_drew ?_ | refine blk_alloc ?_ _)); exact BK458.out) hb); have n3_ := Aside0.mk (blk_below (g := gb459) (o := .cells #[.int .u8 a0_0, .int .i64 a0_1, .int .i64 a0_2, .int .i64 a0_3, .int .i64 a0_4, .int .i64 a1, .int .i64 a0_6, .int .i64 a0_7, .int .i64 a0_8, .int .i64 a0_9] 31 (0, 0)) (by (with_reducible repeat (first | refine blk_drewN ?_ _ | refine blk_drew ?_ | refine blk_alloc ?_ _)); exact BK459.out) hb); have n4_ := Aside0.mk (below_step (by repeat (first | (with_reducible first | exact HB.out | apply below_alloc | apply pw_below_drewN | apply below_drew1 | refine below_set ?_ GE454.out | refine below_set ?_ GE457.out | refine below_set ?_ GE458.out | refine below_set ?_ GE459.out) | exact HB.out)) hb); clear BK454; clear BK457; clear BK458; clear BK459; clear HB; have BK454 := n0_; have BK457 := n1_; have BK458 := n2_; have BK459 := n3_; have HB := n4_; clear n0_ n1_ n2_ n3_ n4_; (try clear hb); (try clear hb2); (try clear hk); (try clear hi)))
                go_meet
                case rel => exact ⟨_, (!t460), (by first | rfl | (simp; done) | (simp [*]; done)), H', ⟨by have := HJ3.out; first | omega | exact Nat.le_refl _⟩, ⟨by (with_reducible repeat (first | refine blk_drewN ?_ _ | refine blk_drew ?_ | refine blk_alloc ?_ _)); exact BK454.out⟩, ⟨by (with_reducible repeat (first | refine blk_drewN ?_ _ | refine blk_drew ?_ | refine blk_alloc ?_ _)); exact BK457.out⟩, ⟨by (with_reducible repeat (first | refine blk_drewN ?_ _ | refine blk_drew ?_ | refine blk_alloc ?_ _)); exact BK458.out⟩, ⟨by (with_reducible repeat (first | refine blk_drewN ?_ _ | refine blk_drew ?_ | refine blk_alloc ?_ _)); exact BK459.out⟩, ⟨by repeat (first | (with_reducible first | exact HB.out | apply below_alloc | apply pw_below_drewN | apply below_drew1 | refine below_set ?_ GE454.out | refine below_set ?_ GE457.out | refine below_set ?_ GE458.out | refine below_set ?_ GE459.out) | exact HB.out)⟩⟩
          · rw [if_neg c62] at H
            have c62b0 : (a0_0 == 2) = false := beq_eq_false_iff_ne.mpr c62
            have c62b1 : (a0_0 != 2) = true := bne_iff_ne.mpr c62
            (first | rw [c62b0] | (simp only [i64_w, i32_w]; rw [c62b0]) | skip)
            replace H := Option.bind_eq_some_iff.mp H
            obtain ⟨t461, A820, H⟩ := H
            replace H : (if t461 = true then (if a0_0 = 1 then (tailwaterlaw25_MessageSpare.j1 kj3 t455 false a0_0 a0_1 a0_2 a0_3 a0_4 a0_5 a0_6 a0_7 a0_8 a0_9 a0_0 a0_1 a0_2 a0_3 a0_4 a1 a0_6 a0_7 a0_8 a0_9) else (if a0_0 = 4 then (tailwaterlaw25_MessageSpare.j1 kj3 t455 false a0_0 a0_1 a0_2 a0_3 a0_4 a0_5 a0_6 a0_7 a0_8 a0_9 a0_0 a0_1 a0_2 a0_3 a0_4 a1 a0_6 a0_7 a0_8 a0_9) else ((tailwaterlaw25_bad.f kj3 a0_0 a1 a0_2 a0_3 a0_4 a0_5 a0_6 a0_7 a0_8 a0_9).bind fun t462 => (tailwaterlaw25_MessageSpare.j1 kj3 t455 (!t462) a0_0 a0_1 a0_2 a0_3 a0_4 a0_5 a0_6 a0_7 a0_8 a0_9 a0_0 a0_1 a0_2 a0_3 a0_4 a1 a0_6 a0_7 a0_8 a0_9)))) else (tailwaterlaw25_MessageSpare.j1 kj3 t455 true a0_0 a0_1 a0_2 a0_3 a0_4 a0_5 a0_6 a0_7 a0_8 a0_9 a0_0 a0_1 a0_2 a0_3 a0_4 a1 a0_6 a0_7 a0_8 a0_9)) = some true := H
            have A82 := Aside0.mk A820
            clear A820
            by_cases c83 : t461 = true
            · subst c83
              have H1 : (if a0_0 = 1 then (tailwaterlaw25_MessageSpare.j1 kj3 t455 false a0_0 a0_1 a0_2 a0_3 a0_4 a0_5 a0_6 a0_7 a0_8 a0_9 a0_0 a0_1 a0_2 a0_3 a0_4 a1 a0_6 a0_7 a0_8 a0_9) else (if a0_0 = 4 then (tailwaterlaw25_MessageSpare.j1 kj3 t455 false a0_0 a0_1 a0_2 a0_3 a0_4 a0_5 a0_6 a0_7 a0_8 a0_9 a0_0 a0_1 a0_2 a0_3 a0_4 a1 a0_6 a0_7 a0_8 a0_9) else ((tailwaterlaw25_bad.f kj3 a0_0 a1 a0_2 a0_3 a0_4 a0_5 a0_6 a0_7 a0_8 a0_9).bind fun t462 => (tailwaterlaw25_MessageSpare.j1 kj3 t455 (!t462) a0_0 a0_1 a0_2 a0_3 a0_4 a0_5 a0_6 a0_7 a0_8 a0_9 a0_0 a0_1 a0_2 a0_3 a0_4 a1 a0_6 a0_7 a0_8 a0_9)))) = some true := by rw [if_pos rfl] at H; exact H
              clear H
              have H := H1
              clear H1
              by_cases c84 : a0_0 = 1
              · rw [if_pos c84] at H
                have c84b0 : (a0_0 == 1) = true := beq_iff_eq.mpr c84
                have c84b1 : (a0_0 != 1) = false := bne_eq_false_iff_eq.mpr c84
                clear c84
                have H' := Aside0.mk H
                clear H
                have hnb85 := NB454_457.out
                have hnc85 := NB457_454.out
                have hnb86 := NB454_458.out
                have hnc86 := NB458_454.out
                have hnb87 := NB454_459.out
                have hnc87 := NB459_454.out
                have hcz88_0 : W2_.cell? ⟨gb454, 0, none⟩ = some (.int .u8 a0_0) := (blk_cell BK454.out 0).trans rfl
                have hcz88_1 : W2_.cell? ⟨gb454, 1, none⟩ = some (.int .i64 a0_1) := (blk_cell BK454.out 1).trans rfl
                have hcz88_2 : W2_.cell? ⟨gb454, 2, none⟩ = some (.int .i64 a0_2) := (blk_cell BK454.out 2).trans rfl
                have hcz88_3 : W2_.cell? ⟨gb454, 3, none⟩ = some (.int .i64 a0_3) := (blk_cell BK454.out 3).trans rfl
                have hcz88_4 : W2_.cell? ⟨gb454, 4, none⟩ = some (.int .i64 a0_4) := (blk_cell BK454.out 4).trans rfl
                have hcz88_5 : W2_.cell? ⟨gb454, 5, none⟩ = some (.int .i64 a0_5) := (blk_cell BK454.out 5).trans rfl
                have hcz88_6 : W2_.cell? ⟨gb454, 6, none⟩ = some (.int .i64 a0_6) := (blk_cell BK454.out 6).trans rfl
                have hcz88_7 : W2_.cell? ⟨gb454, 7, none⟩ = some (.int .i64 a0_7) := (blk_cell BK454.out 7).trans rfl
                have hcz88_8 : W2_.cell? ⟨gb454, 8, none⟩ = some (.int .i64 a0_8) := (blk_cell BK454.out 8).trans rfl
                have hcz88_9 : W2_.cell? ⟨gb454, 9, none⟩ = some (.int .i64 a0_9) := (blk_cell BK454.out 9).trans rfl
                obtain ⟨hfz88_0, hfz88_1, hfz88_2, hfz88_3, hfz88_4, hfz88_5, hfz88_6, hfz88_7, hfz88_8, hfz88_9⟩ := froz10 BK454.out
                have hnb89 := NB457_458.out
                have hnc89 := NB458_457.out
                have hnb90 := NB457_459.out
                have hnc90 := NB459_457.out
                have hcz91_0 : W2_.cell? ⟨gb457, 0, none⟩ = some (.int .u8 a0_0) := (blk_cell BK457.out 0).trans rfl
                have hcz91_1 : W2_.cell? ⟨gb457, 1, none⟩ = some (.int .i64 a0_1) := (blk_cell BK457.out 1).trans rfl
                have hcz91_2 : W2_.cell? ⟨gb457, 2, none⟩ = some (.int .i64 a0_2) := (blk_cell BK457.out 2).trans rfl
                have hcz91_3 : W2_.cell? ⟨gb457, 3, none⟩ = some (.int .i64 a0_3) := (blk_cell BK457.out 3).trans rfl
                have hcz91_4 : W2_.cell? ⟨gb457, 4, none⟩ = some (.int .i64 a1) := (blk_cell BK457.out 4).trans rfl
                have hcz91_5 : W2_.cell? ⟨gb457, 5, none⟩ = some (.int .i64 a0_5) := (blk_cell BK457.out 5).trans rfl
                have hcz91_6 : W2_.cell? ⟨gb457, 6, none⟩ = some (.int .i64 a0_6) := (blk_cell BK457.out 6).trans rfl
                have hcz91_7 : W2_.cell? ⟨gb457, 7, none⟩ = some (.int .i64 a0_7) := (blk_cell BK457.out 7).trans rfl
                have hcz91_8 : W2_.cell? ⟨gb457, 8, none⟩ = some (.int .i64 a0_8) := (blk_cell BK457.out 8).trans rfl
                have hcz91_9 : W2_.cell? ⟨gb457, 9, none⟩ = some (.int .i64 a0_9) := (blk_cell BK457.out 9).trans rfl
                obtain ⟨hfz91_0, hfz91_1, hfz91_2, hfz91_3, hfz91_4, hfz91_5, hfz91_6, hfz91_7, hfz91_8, hfz91_9⟩ := froz10 BK457.out
                go_wp2_with (first | (go_at_call 17; (with_reducible refine (tailwaterlaw25_bad.calls kj3 a0_0 a0_1 a0_2 a0_3 a1 a0_5 a0_6 a0_7 a0_8 a0_9 true _ ?side1 A82.out).mono ?_); (case side1 => exact (TabG.below HT0.out (by repeat (first | (with_reducible first | exact HB.out | apply below_alloc | apply pw_below_drewN | apply below_drew1 | refine below_set ?_ GE454.out | refine below_set ?_ GE457.out | refine below_set ?_ GE458.out | refine below_set ?_ GE459.out) | exact HB.out))).tab); rintro e w92 ⟨rfl, hb⟩; have n0_ := Aside0.mk (blk_below (g := gb454) (o := .cells #[.int .u8 a0_0, .int .i64 a0_1, .int .i64 a0_2, .int .i64 a0_3, .int .i64 a0_4, .int .i64 a0_5, .int .i64 a0_6, .int .i64 a0_7, .int .i64 a0_8, .int .i64 a0_9] 31 (0, 0)) (by (with_reducible repeat (first | refine blk_drewN ?_ _ | refine blk_drew ?_ | refine blk_alloc ?_ _)); exact BK454.out) hb); have n1_ := Aside0.mk (blk_below (g := gb457) (o := .cells #[.int .u8 a0_0, .int .i64 a0_1, .int .i64 a0_2, .int .i64 a0_3, .int .i64 a1, .int .i64 a0_5, .int .i64 a0_6, .int .i64 a0_7, .int .i64 a0_8, .int .i64 a0_9] 31 (0, 0)) (by (with_reducible repeat (first | refine blk_drewN ?_ _ | refine blk_drew ?_ | refine blk_alloc ?_ _)); exact BK457.out) hb); have n2_ := Aside0.mk (blk_below (g := gb458) (o := .cells #[.int .u8 a0_0, .int .i64 a1, .int .i64 a0_2, .int .i64 a0_3, .int .i64 a0_4, .int .i64 a0_5, .int .i64 a0_6, .int .i64 a0_7, .int .i64 a0_8, .int .i64 a0_9] 31 (0, 0)) (by (with_reducible repeat (first | refine blk_drewN ?_ _ | refine blk_drew ?_ | refine blk_alloc ?_ _)); exact BK458.out) hb); have n3_ := Aside0.mk (blk_below (g := gb459) (o := .cells #[.int .u8 a0_0, .int .i64 a0_1, .int .i64 a0_2, .int .i64 a0_3, .int .i64 a0_4, .int .i64 a1, .int .i64 a0_6, .int .i64 a0_7, .int .i64 a0_8, .int .i64 a0_9] 31 (0, 0)) (by (with_reducible repeat (first | refine blk_drewN ?_ _ | refine blk_drew ?_ | refine blk_alloc ?_ _)); exact BK459.out) hb); have n4_ := Aside0.mk (below_step (by repeat (first | (with_reducible first | exact HB.out | apply below_alloc | apply pw_below_drewN | apply below_drew1 | refine below_set ?_ GE454.out | refine below_set ?_ GE457.out | refine below_set ?_ GE458.out | refine below_set ?_ GE459.out) | exact HB.out)) hb); clear BK454; clear BK457; clear BK458; clear BK459; clear HB; have BK454 := n0_; have BK457 := n1_; have BK458 := n2_; have BK459 := n3_; have HB := n4_; clear n0_ n1_ n2_ n3_ n4_; (try clear hb); (try clear hb2); (try clear hk); (try clear hi); obtain ⟨hcz93_0, hcz93_1, hcz93_2, hcz93_3, hcz93_4, hcz93_5, hcz93_6, hcz93_7, hcz93_8, hcz93_9⟩ := cells10 BK454.out; obtain ⟨hfz93_0, hfz93_1, hfz93_2, hfz93_3, hfz93_4, hfz93_5, hfz93_6, hfz93_7, hfz93_8, hfz93_9⟩ := froz10 BK454.out))
                go_meet
                case rel => exact ⟨_, (false), (by first | rfl | (simp; done) | (simp [*]; done)), H', ⟨by have := HJ3.out; first | omega | exact Nat.le_refl _⟩, ⟨by (with_reducible repeat (first | refine blk_drewN ?_ _ | refine blk_drew ?_ | refine blk_alloc ?_ _)); exact BK454.out⟩, ⟨by (with_reducible repeat (first | refine blk_drewN ?_ _ | refine blk_drew ?_ | refine blk_alloc ?_ _)); exact BK457.out⟩, ⟨by (with_reducible repeat (first | refine blk_drewN ?_ _ | refine blk_drew ?_ | refine blk_alloc ?_ _)); exact BK458.out⟩, ⟨by (with_reducible repeat (first | refine blk_drewN ?_ _ | refine blk_drew ?_ | refine blk_alloc ?_ _)); exact BK459.out⟩, ⟨by repeat (first | (with_reducible first | exact HB.out | apply below_alloc | apply pw_below_drewN | apply below_drew1 | refine below_set ?_ GE454.out | refine below_set ?_ GE457.out | refine below_set ?_ GE458.out | refine below_set ?_ GE459.out) | exact HB.out)⟩⟩
              · rw [if_neg c84] at H
                have c84b0 : (a0_0 == 1) = false := beq_eq_false_iff_ne.mpr c84
                have c84b1 : (a0_0 != 1) = true := bne_iff_ne.mpr c84
                by_cases c94 : a0_0 = 4
                · rw [if_pos c94] at H
                  have c94b0 : (a0_0 == 4) = true := beq_iff_eq.mpr c94
                  have c94b1 : (a0_0 != 4) = false := bne_eq_false_iff_eq.mpr c94
                  clear c94
                  have H' := Aside0.mk H
                  clear H
                  have hnb95 := NB454_457.out
                  have hnc95 := NB457_454.out
                  have hnb96 := NB454_458.out
                  have hnc96 := NB458_454.out
                  have hnb97 := NB454_459.out
                  have hnc97 := NB459_454.out
                  have hcz98_0 : W2_.cell? ⟨gb454, 0, none⟩ = some (.int .u8 a0_0) := (blk_cell BK454.out 0).trans rfl
                  have hcz98_1 : W2_.cell? ⟨gb454, 1, none⟩ = some (.int .i64 a0_1) := (blk_cell BK454.out 1).trans rfl
                  have hcz98_2 : W2_.cell? ⟨gb454, 2, none⟩ = some (.int .i64 a0_2) := (blk_cell BK454.out 2).trans rfl
                  have hcz98_3 : W2_.cell? ⟨gb454, 3, none⟩ = some (.int .i64 a0_3) := (blk_cell BK454.out 3).trans rfl
                  have hcz98_4 : W2_.cell? ⟨gb454, 4, none⟩ = some (.int .i64 a0_4) := (blk_cell BK454.out 4).trans rfl
                  have hcz98_5 : W2_.cell? ⟨gb454, 5, none⟩ = some (.int .i64 a0_5) := (blk_cell BK454.out 5).trans rfl
                  have hcz98_6 : W2_.cell? ⟨gb454, 6, none⟩ = some (.int .i64 a0_6) := (blk_cell BK454.out 6).trans rfl
                  have hcz98_7 : W2_.cell? ⟨gb454, 7, none⟩ = some (.int .i64 a0_7) := (blk_cell BK454.out 7).trans rfl
                  have hcz98_8 : W2_.cell? ⟨gb454, 8, none⟩ = some (.int .i64 a0_8) := (blk_cell BK454.out 8).trans rfl
                  have hcz98_9 : W2_.cell? ⟨gb454, 9, none⟩ = some (.int .i64 a0_9) := (blk_cell BK454.out 9).trans rfl
                  obtain ⟨hfz98_0, hfz98_1, hfz98_2, hfz98_3, hfz98_4, hfz98_5, hfz98_6, hfz98_7, hfz98_8, hfz98_9⟩ := froz10 BK454.out
                  have hnb99 := NB457_458.out
                  have hnc99 := NB458_457.out
                  have hnb100 := NB457_459.out
                  have hnc100 := NB459_457.out
                  have hcz101_0 : W2_.cell? ⟨gb457, 0, none⟩ = some (.int .u8 a0_0) := (blk_cell BK457.out 0).trans rfl
                  have hcz101_1 : W2_.cell? ⟨gb457, 1, none⟩ = some (.int .i64 a0_1) := (blk_cell BK457.out 1).trans rfl
                  have hcz101_2 : W2_.cell? ⟨gb457, 2, none⟩ = some (.int .i64 a0_2) := (blk_cell BK457.out 2).trans rfl
                  have hcz101_3 : W2_.cell? ⟨gb457, 3, none⟩ = some (.int .i64 a0_3) := (blk_cell BK457.out 3).trans rfl
                  have hcz101_4 : W2_.cell? ⟨gb457, 4, none⟩ = some (.int .i64 a1) := (blk_cell BK457.out 4).trans rfl
                  have hcz101_5 : W2_.cell? ⟨gb457, 5, none⟩ = some (.int .i64 a0_5) := (blk_cell BK457.out 5).trans rfl
                  have hcz101_6 : W2_.cell? ⟨gb457, 6, none⟩ = some (.int .i64 a0_6) := (blk_cell BK457.out 6).trans rfl
                  have hcz101_7 : W2_.cell? ⟨gb457, 7, none⟩ = some (.int .i64 a0_7) := (blk_cell BK457.out 7).trans rfl
                  have hcz101_8 : W2_.cell? ⟨gb457, 8, none⟩ = some (.int .i64 a0_8) := (blk_cell BK457.out 8).trans rfl
                  have hcz101_9 : W2_.cell? ⟨gb457, 9, none⟩ = some (.int .i64 a0_9) := (blk_cell BK457.out 9).trans rfl
                  obtain ⟨hfz101_0, hfz101_1, hfz101_2, hfz101_3, hfz101_4, hfz101_5, hfz101_6, hfz101_7, hfz101_8, hfz101_9⟩ := froz10 BK457.out
                  go_wp2_with (first | (go_at_call 17; (with_reducible refine (tailwaterlaw25_bad.calls kj3 a0_0 a0_1 a0_2 a0_3 a1 a0_5 a0_6 a0_7 a0_8 a0_9 true _ ?side1 A82.out).mono ?_); (case side1 => exact (TabG.below HT0.out (by repeat (first | (with_reducible first | exact HB.out | apply below_alloc | apply pw_below_drewN | apply below_drew1 | refine below_set ?_ GE454.out | refine below_set ?_ GE457.out | refine below_set ?_ GE458.out | refine below_set ?_ GE459.out) | exact HB.out))).tab); rintro e w102 ⟨rfl, hb⟩; have n0_ := Aside0.mk (blk_below (g := gb454) (o := .cells #[.int .u8 a0_0, .int .i64 a0_1, .int .i64 a0_2, .int .i64 a0_3, .int .i64 a0_4, .int .i64 a0_5, .int .i64 a0_6, .int .i64 a0_7, .int .i64 a0_8, .int .i64 a0_9] 31 (0, 0)) (by (with_reducible repeat (first | refine blk_drewN ?_ _ | refine blk_drew ?_ | refine blk_alloc ?_ _)); exact BK454.out) hb); have n1_ := Aside0.mk (blk_below (g := gb457) (o := .cells #[.int .u8 a0_0, .int .i64 a0_1, .int .i64 a0_2, .int .i64 a0_3, .int .i64 a1, .int .i64 a0_5, .int .i64 a0_6, .int .i64 a0_7, .int .i64 a0_8, .int .i64 a0_9] 31 (0, 0)) (by (with_reducible repeat (first | refine blk_drewN ?_ _ | refine blk_drew ?_ | refine blk_alloc ?_ _)); exact BK457.out) hb); have n2_ := Aside0.mk (blk_below (g := gb458) (o := .cells #[.int .u8 a0_0, .int .i64 a1, .int .i64 a0_2, .int .i64 a0_3, .int .i64 a0_4, .int .i64 a0_5, .int .i64 a0_6, .int .i64 a0_7, .int .i64 a0_8, .int .i64 a0_9] 31 (0, 0)) (by (with_reducible repeat (first | refine blk_drewN ?_ _ | refine blk_drew ?_ | refine blk_alloc ?_ _)); exact BK458.out) hb); have n3_ := Aside0.mk (blk_below (g := gb459) (o := .cells #[.int .u8 a0_0, .int .i64 a0_1, .int .i64 a0_2, .int .i64 a0_3, .int .i64 a0_4, .int .i64 a1, .int .i64 a0_6, .int .i64 a0_7, .int .i64 a0_8, .int .i64 a0_9] 31 (0, 0)) (by (with_reducible repeat (first | refine blk_drewN ?_ _ | refine blk_drew ?_ | refine blk_alloc ?_ _)); exact BK459.out) hb); have n4_ := Aside0.mk (below_step (by repeat (first | (with_reducible first | exact HB.out | apply below_alloc | apply pw_below_drewN | apply below_drew1 | refine below_set ?_ GE454.out | refine below_set ?_ GE457.out | refine below_set ?_ GE458.out | refine below_set ?_ GE459.out) | exact HB.out)) hb); clear BK454; clear BK457; clear BK458; clear BK459; clear HB; have BK454 := n0_; have BK457 := n1_; have BK458 := n2_; have BK459 := n3_; have HB := n4_; clear n0_ n1_ n2_ n3_ n4_; (try clear hb); (try clear hb2); (try clear hk); (try clear hi); obtain ⟨hcz103_0, hcz103_1, hcz103_2, hcz103_3, hcz103_4, hcz103_5, hcz103_6, hcz103_7, hcz103_8, hcz103_9⟩ := cells10 BK454.out; obtain ⟨hfz103_0, hfz103_1, hfz103_2, hfz103_3, hfz103_4, hfz103_5, hfz103_6, hfz103_7, hfz103_8, hfz103_9⟩ := froz10 BK454.out))
                  go_meet
                  case rel => exact ⟨_, (false), (by first | rfl | (simp; done) | (simp [*]; done)), H', ⟨by have := HJ3.out; first | omega | exact Nat.le_refl _⟩, ⟨by (with_reducible repeat (first | refine blk_drewN ?_ _ | refine blk_drew ?_ | refine blk_alloc ?_ _)); exact BK454.out⟩, ⟨by (with_reducible repeat (first | refine blk_drewN ?_ _ | refine blk_drew ?_ | refine blk_alloc ?_ _)); exact BK457.out⟩, ⟨by (with_reducible repeat (first | refine blk_drewN ?_ _ | refine blk_drew ?_ | refine blk_alloc ?_ _)); exact BK458.out⟩, ⟨by (with_reducible repeat (first | refine blk_drewN ?_ _ | refine blk_drew ?_ | refine blk_alloc ?_ _)); exact BK459.out⟩, ⟨by repeat (first | (with_reducible first | exact HB.out | apply below_alloc | apply pw_below_drewN | apply below_drew1 | refine below_set ?_ GE454.out | refine below_set ?_ GE457.out | refine below_set ?_ GE458.out | refine below_set ?_ GE459.out) | exact HB.out)⟩⟩
                · rw [if_neg c94] at H
                  have c94b0 : (a0_0 == 4) = false := beq_eq_false_iff_ne.mpr c94
                  have c94b1 : (a0_0 != 4) = true := bne_iff_ne.mpr c94
                  replace H := Option.bind_eq_some_iff.mp H
                  obtain ⟨t462, A1040, H⟩ := H
                  replace H : (tailwaterlaw25_MessageSpare.j1 kj3 t455 (!t462) a0_0 a0_1 a0_2 a0_3 a0_4 a0_5 a0_6 a0_7 a0_8 a0_9 a0_0 a0_1 a0_2 a0_3 a0_4 a1 a0_6 a0_7 a0_8 a0_9) = some true := H
                  have A104 := Aside0.mk A1040
                  clear A1040
                  have H' := Aside0.mk H
                  clear H
                  have hnb105 := NB454_457.out
                  have hnc105 := NB457_454.out
                  have hnb106 := NB454_458.out
                  have hnc106 := NB458_454.out
                  have hnb107 := NB454_459.out
                  have hnc107 := NB459_454.out
                  have hcz108_0 : W2_.cell? ⟨gb454, 0, none⟩ = some (.int .u8 a0_0) := (blk_cell BK454.out 0).trans rfl
                  have hcz108_1 : W2_.cell? ⟨gb454, 1, none⟩ = some (.int .i64 a0_1) := (blk_cell BK454.out 1).trans rfl
                  have hcz108_2 : W2_.cell? ⟨gb454, 2, none⟩ = some (.int .i64 a0_2) := (blk_cell BK454.out 2).trans rfl
                  have hcz108_3 : W2_.cell? ⟨gb454, 3, none⟩ = some (.int .i64 a0_3) := (blk_cell BK454.out 3).trans rfl
                  have hcz108_4 : W2_.cell? ⟨gb454, 4, none⟩ = some (.int .i64 a0_4) := (blk_cell BK454.out 4).trans rfl
                  have hcz108_5 : W2_.cell? ⟨gb454, 5, none⟩ = some (.int .i64 a0_5) := (blk_cell BK454.out 5).trans rfl
                  have hcz108_6 : W2_.cell? ⟨gb454, 6, none⟩ = some (.int .i64 a0_6) := (blk_cell BK454.out 6).trans rfl
                  have hcz108_7 : W2_.cell? ⟨gb454, 7, none⟩ = some (.int .i64 a0_7) := (blk_cell BK454.out 7).trans rfl
                  have hcz108_8 : W2_.cell? ⟨gb454, 8, none⟩ = some (.int .i64 a0_8) := (blk_cell BK454.out 8).trans rfl
                  have hcz108_9 : W2_.cell? ⟨gb454, 9, none⟩ = some (.int .i64 a0_9) := (blk_cell BK454.out 9).trans rfl
                  obtain ⟨hfz108_0, hfz108_1, hfz108_2, hfz108_3, hfz108_4, hfz108_5, hfz108_6, hfz108_7, hfz108_8, hfz108_9⟩ := froz10 BK454.out
                  have hnb109 := NB457_458.out
                  have hnc109 := NB458_457.out
                  have hnb110 := NB457_459.out
                  have hnc110 := NB459_457.out
                  have hcz111_0 : W2_.cell? ⟨gb457, 0, none⟩ = some (.int .u8 a0_0) := (blk_cell BK457.out 0).trans rfl
                  have hcz111_1 : W2_.cell? ⟨gb457, 1, none⟩ = some (.int .i64 a0_1) := (blk_cell BK457.out 1).trans rfl
                  have hcz111_2 : W2_.cell? ⟨gb457, 2, none⟩ = some (.int .i64 a0_2) := (blk_cell BK457.out 2).trans rfl
                  have hcz111_3 : W2_.cell? ⟨gb457, 3, none⟩ = some (.int .i64 a0_3) := (blk_cell BK457.out 3).trans rfl
                  have hcz111_4 : W2_.cell? ⟨gb457, 4, none⟩ = some (.int .i64 a1) := (blk_cell BK457.out 4).trans rfl
                  have hcz111_5 : W2_.cell? ⟨gb457, 5, none⟩ = some (.int .i64 a0_5) := (blk_cell BK457.out 5).trans rfl
                  have hcz111_6 : W2_.cell? ⟨gb457, 6, none⟩ = some (.int .i64 a0_6) := (blk_cell BK457.out 6).trans rfl
                  have hcz111_7 : W2_.cell? ⟨gb457, 7, none⟩ = some (.int .i64 a0_7) := (blk_cell BK457.out 7).trans rfl
                  have hcz111_8 : W2_.cell? ⟨gb457, 8, none⟩ = some (.int .i64 a0_8) := (blk_cell BK457.out 8).trans rfl
                  have hcz111_9 : W2_.cell? ⟨gb457, 9, none⟩ = some (.int .i64 a0_9) := (blk_cell BK457.out 9).trans rfl
                  obtain ⟨hfz111_0, hfz111_1, hfz111_2, hfz111_3, hfz111_4, hfz111_5, hfz111_6, hfz111_7, hfz111_8, hfz111_9⟩ := froz10 BK457.out
                  go_wp2_with (first | (go_at_call 17; (with_reducible refine (tailwaterlaw25_bad.calls kj3 a0_0 a0_1 a0_2 a0_3 a1 a0_5 a0_6 a0_7 a0_8 a0_9 true _ ?side1 A82.out).mono ?_); (case side1 => exact (TabG.below HT0.out (by repeat (first | (with_reducible first | exact HB.out | apply below_alloc | apply pw_below_drewN | apply below_drew1 | refine below_set ?_ GE454.out | refine below_set ?_ GE457.out | refine below_set ?_ GE458.out | refine below_set ?_ GE459.out) | exact HB.out))).tab); rintro e w112 ⟨rfl, hb⟩; have n0_ := Aside0.mk (blk_below (g := gb454) (o := .cells #[.int .u8 a0_0, .int .i64 a0_1, .int .i64 a0_2, .int .i64 a0_3, .int .i64 a0_4, .int .i64 a0_5, .int .i64 a0_6, .int .i64 a0_7, .int .i64 a0_8, .int .i64 a0_9] 31 (0, 0)) (by (with_reducible repeat (first | refine blk_drewN ?_ _ | refine blk_drew ?_ | refine blk_alloc ?_ _)); exact BK454.out) hb); have n1_ := Aside0.mk (blk_below (g := gb457) (o := .cells #[.int .u8 a0_0, .int .i64 a0_1, .int .i64 a0_2, .int .i64 a0_3, .int .i64 a1, .int .i64 a0_5, .int .i64 a0_6, .int .i64 a0_7, .int .i64 a0_8, .int .i64 a0_9] 31 (0, 0)) (by (with_reducible repeat (first | refine blk_drewN ?_ _ | refine blk_drew ?_ | refine blk_alloc ?_ _)); exact BK457.out) hb); have n2_ := Aside0.mk (blk_below (g := gb458) (o := .cells #[.int .u8 a0_0, .int .i64 a1, .int .i64 a0_2, .int .i64 a0_3, .int .i64 a0_4, .int .i64 a0_5, .int .i64 a0_6, .int .i64 a0_7, .int .i64 a0_8, .int .i64 a0_9] 31 (0, 0)) (by (with_reducible repeat (first | refine blk_drewN ?_ _ | refine blk_drew ?_ | refine blk_alloc ?_ _)); exact BK458.out) hb); have n3_ := Aside0.mk (blk_below (g := gb459) (o := .cells #[.int .u8 a0_0, .int .i64 a0_1, .int .i64 a0_2, .int .i64 a0_3, .int .i64 a0_4, .int .i64 a1, .int .i64 a0_6, .int .i64 a0_7, .int .i64 a0_8, .int .i64 a0_9] 31 (0, 0)) (by (with_reducible repeat (first | refine blk_drewN ?_ _ | refine blk_drew ?_ | refine blk_alloc ?_ _)); exact BK459.out) hb); have n4_ := Aside0.mk (below_step (by repeat (first | (with_reducible first | exact HB.out | apply below_alloc | apply pw_below_drewN | apply below_drew1 | refine below_set ?_ GE454.out | refine below_set ?_ GE457.out | refine below_set ?_ GE458.out | refine below_set ?_ GE459.out) | exact HB.out)) hb); clear BK454; clear BK457; clear BK458; clear BK459; clear HB; have BK454 := n0_; have BK457 := n1_; have BK458 := n2_; have BK459 := n3_; have HB := n4_; clear n0_ n1_ n2_ n3_ n4_; (try clear hb); (try clear hb2); (try clear hk); (try clear hi); obtain ⟨hcz113_0, hcz113_1, hcz113_2, hcz113_3, hcz113_4, hcz113_5, hcz113_6, hcz113_7, hcz113_8, hcz113_9⟩ := cells10 BK454.out; obtain ⟨hfz113_0, hfz113_1, hfz113_2, hfz113_3, hfz113_4, hfz113_5, hfz113_6, hfz113_7, hfz113_8, hfz113_9⟩ := froz10 BK454.out; have hnb114 := NB458_459.out; have hnc114 := NB459_458.out; obtain ⟨hcz115_0, hcz115_1, hcz115_2, hcz115_3, hcz115_4, hcz115_5, hcz115_6, hcz115_7, hcz115_8, hcz115_9⟩ := cells10 BK458.out; obtain ⟨hfz115_0, hfz115_1, hfz115_2, hfz115_3, hfz115_4, hfz115_5, hfz115_6, hfz115_7, hfz115_8, hfz115_9⟩ := froz10 BK458.out) | (go_at_call 17; (with_reducible refine (tailwaterlaw25_bad.calls kj3 a0_0 a1 a0_2 a0_3 a0_4 a0_5 a0_6 a0_7 a0_8 a0_9 t462 _ ?side1 A104.out).mono ?_); (case side1 => exact (TabG.below HT0.out (by repeat (first | (with_reducible first | exact HB.out | apply below_alloc | apply pw_below_drewN | apply below_drew1 | refine below_set ?_ GE454.out | refine below_set ?_ GE457.out | refine below_set ?_ GE458.out | refine below_set ?_ GE459.out) | exact HB.out))).tab); rintro e w116 ⟨rfl, hb⟩; have n0_ := Aside0.mk (blk_below (g := gb454) (o := .cells #[.int .u8 a0_0, .int .i64 a0_1, .int .i64 a0_2, .int .i64 a0_3, .int .i64 a0_4, .int .i64 a0_5, .int .i64 a0_6, .int .i64 a0_7, .int .i64 a0_8, .int .i64 a0_9] 31 (0, 0)) (by (with_reducible repeat (first | refine blk_drewN ?_ _ | refine blk_drew ?_ | refine blk_alloc ?_ _)); exact BK454.out) hb); have n1_ := Aside0.mk (blk_below (g := gb457) (o := .cells #[.int .u8 a0_0, .int .i64 a0_1, .int .i64 a0_2, .int .i64 a0_3, .int .i64 a1, .int .i64 a0_5, .int .i64 a0_6, .int .i64 a0_7, .int .i64 a0_8, .int .i64 a0_9] 31 (0, 0)) (by (with_reducible repeat (first | refine blk_drewN ?_ _ | refine blk_drew ?_ | refine blk_alloc ?_ _)); exact BK457.out) hb); have n2_ := Aside0.mk (blk_below (g := gb458) (o := .cells #[.int .u8 a0_0, .int .i64 a1, .int .i64 a0_2, .int .i64 a0_3, .int .i64 a0_4, .int .i64 a0_5, .int .i64 a0_6, .int .i64 a0_7, .int .i64 a0_8, .int .i64 a0_9] 31 (0, 0)) (by (with_reducible repeat (first | refine blk_drewN ?_ _ | refine blk_drew ?_ | refine blk_alloc ?_ _)); exact BK458.out) hb); have n3_ := Aside0.mk (blk_below (g := gb459) (o := .cells #[.int .u8 a0_0, .int .i64 a0_1, .int .i64 a0_2, .int .i64 a0_3, .int .i64 a0_4, .int .i64 a1, .int .i64 a0_6, .int .i64 a0_7, .int .i64 a0_8, .int .i64 a0_9] 31 (0, 0)) (by (with_reducible repeat (first | refine blk_drewN ?_ _ | refine blk_drew ?_ | refine blk_alloc ?_ _)); exact BK459.out) hb); have n4_ := Aside0.mk (below_step (by repeat (first | (with_reducible first | exact HB.out | apply below_alloc | apply pw_below_drewN | apply below_drew1 | refine below_set ?_ GE454.out | refine below_set ?_ GE457.out | refine below_set ?_ GE458.out | refine below_set ?_ GE459.out) | exact HB.out)) hb); clear BK454; clear BK457; clear BK458; clear BK459; clear HB; have BK454 := n0_; have BK457 := n1_; have BK458 := n2_; have BK459 := n3_; have HB := n4_; clear n0_ n1_ n2_ n3_ n4_; (try clear hb); (try clear hb2); (try clear hk); (try clear hi)))
                  go_meet
                  case rel => exact ⟨_, (!t462), (by first | rfl | (simp; done) | (simp [*]; done)), H', ⟨by have := HJ3.out; first | omega | exact Nat.le_refl _⟩, ⟨by (with_reducible repeat (first | refine blk_drewN ?_ _ | refine blk_drew ?_ | refine blk_alloc ?_ _)); exact BK454.out⟩, ⟨by (with_reducible repeat (first | refine blk_drewN ?_ _ | refine blk_drew ?_ | refine blk_alloc ?_ _)); exact BK457.out⟩, ⟨by (with_reducible repeat (first | refine blk_drewN ?_ _ | refine blk_drew ?_ | refine blk_alloc ?_ _)); exact BK458.out⟩, ⟨by (with_reducible repeat (first | refine blk_drewN ?_ _ | refine blk_drew ?_ | refine blk_alloc ?_ _)); exact BK459.out⟩, ⟨by repeat (first | (with_reducible first | exact HB.out | apply below_alloc | apply pw_below_drewN | apply below_drew1 | refine below_set ?_ GE454.out | refine below_set ?_ GE457.out | refine below_set ?_ GE458.out | refine below_set ?_ GE459.out) | exact HB.out)⟩⟩
            · replace c83 := Bool.eq_false_iff.mpr c83
              subst c83
              have H1 : (tailwaterlaw25_MessageSpare.j1 kj3 t455 true a0_0 a0_1 a0_2 a0_3 a0_4 a0_5 a0_6 a0_7 a0_8 a0_9 a0_0 a0_1 a0_2 a0_3 a0_4 a1 a0_6 a0_7 a0_8 a0_9) = some true := by rw [if_neg (show ¬ (false = true) by decide)] at H; exact H
              clear H
              have H := H1
              clear H1
              have H' := Aside0.mk H
              clear H
              have hnb117 := NB454_457.out
              have hnc117 := NB457_454.out
              have hnb118 := NB454_458.out
              have hnc118 := NB458_454.out
              have hnb119 := NB454_459.out
              have hnc119 := NB459_454.out
              have hcz120_0 : W2_.cell? ⟨gb454, 0, none⟩ = some (.int .u8 a0_0) := (blk_cell BK454.out 0).trans rfl
              have hcz120_1 : W2_.cell? ⟨gb454, 1, none⟩ = some (.int .i64 a0_1) := (blk_cell BK454.out 1).trans rfl
              have hcz120_2 : W2_.cell? ⟨gb454, 2, none⟩ = some (.int .i64 a0_2) := (blk_cell BK454.out 2).trans rfl
              have hcz120_3 : W2_.cell? ⟨gb454, 3, none⟩ = some (.int .i64 a0_3) := (blk_cell BK454.out 3).trans rfl
              have hcz120_4 : W2_.cell? ⟨gb454, 4, none⟩ = some (.int .i64 a0_4) := (blk_cell BK454.out 4).trans rfl
              have hcz120_5 : W2_.cell? ⟨gb454, 5, none⟩ = some (.int .i64 a0_5) := (blk_cell BK454.out 5).trans rfl
              have hcz120_6 : W2_.cell? ⟨gb454, 6, none⟩ = some (.int .i64 a0_6) := (blk_cell BK454.out 6).trans rfl
              have hcz120_7 : W2_.cell? ⟨gb454, 7, none⟩ = some (.int .i64 a0_7) := (blk_cell BK454.out 7).trans rfl
              have hcz120_8 : W2_.cell? ⟨gb454, 8, none⟩ = some (.int .i64 a0_8) := (blk_cell BK454.out 8).trans rfl
              have hcz120_9 : W2_.cell? ⟨gb454, 9, none⟩ = some (.int .i64 a0_9) := (blk_cell BK454.out 9).trans rfl
              obtain ⟨hfz120_0, hfz120_1, hfz120_2, hfz120_3, hfz120_4, hfz120_5, hfz120_6, hfz120_7, hfz120_8, hfz120_9⟩ := froz10 BK454.out
              have hnb121 := NB457_458.out
              have hnc121 := NB458_457.out
              have hnb122 := NB457_459.out
              have hnc122 := NB459_457.out
              have hcz123_0 : W2_.cell? ⟨gb457, 0, none⟩ = some (.int .u8 a0_0) := (blk_cell BK457.out 0).trans rfl
              have hcz123_1 : W2_.cell? ⟨gb457, 1, none⟩ = some (.int .i64 a0_1) := (blk_cell BK457.out 1).trans rfl
              have hcz123_2 : W2_.cell? ⟨gb457, 2, none⟩ = some (.int .i64 a0_2) := (blk_cell BK457.out 2).trans rfl
              have hcz123_3 : W2_.cell? ⟨gb457, 3, none⟩ = some (.int .i64 a0_3) := (blk_cell BK457.out 3).trans rfl
              have hcz123_4 : W2_.cell? ⟨gb457, 4, none⟩ = some (.int .i64 a1) := (blk_cell BK457.out 4).trans rfl
              have hcz123_5 : W2_.cell? ⟨gb457, 5, none⟩ = some (.int .i64 a0_5) := (blk_cell BK457.out 5).trans rfl
              have hcz123_6 : W2_.cell? ⟨gb457, 6, none⟩ = some (.int .i64 a0_6) := (blk_cell BK457.out 6).trans rfl
              have hcz123_7 : W2_.cell? ⟨gb457, 7, none⟩ = some (.int .i64 a0_7) := (blk_cell BK457.out 7).trans rfl
              have hcz123_8 : W2_.cell? ⟨gb457, 8, none⟩ = some (.int .i64 a0_8) := (blk_cell BK457.out 8).trans rfl
              have hcz123_9 : W2_.cell? ⟨gb457, 9, none⟩ = some (.int .i64 a0_9) := (blk_cell BK457.out 9).trans rfl
              obtain ⟨hfz123_0, hfz123_1, hfz123_2, hfz123_3, hfz123_4, hfz123_5, hfz123_6, hfz123_7, hfz123_8, hfz123_9⟩ := froz10 BK457.out
              go_wp2_with (first | (go_at_call 17; (with_reducible refine (tailwaterlaw25_bad.calls kj3 a0_0 a0_1 a0_2 a0_3 a1 a0_5 a0_6 a0_7 a0_8 a0_9 false _ ?side1 A82.out).mono ?_); (case side1 => exact (TabG.below HT0.out (by repeat (first | (with_reducible first | exact HB.out | apply below_alloc | apply pw_below_drewN | apply below_drew1 | refine below_set ?_ GE454.out | refine below_set ?_ GE457.out | refine below_set ?_ GE458.out | refine below_set ?_ GE459.out) | exact HB.out))).tab); rintro e w124 ⟨rfl, hb⟩; have n0_ := Aside0.mk (blk_below (g := gb454) (o := .cells #[.int .u8 a0_0, .int .i64 a0_1, .int .i64 a0_2, .int .i64 a0_3, .int .i64 a0_4, .int .i64 a0_5, .int .i64 a0_6, .int .i64 a0_7, .int .i64 a0_8, .int .i64 a0_9] 31 (0, 0)) (by (with_reducible repeat (first | refine blk_drewN ?_ _ | refine blk_drew ?_ | refine blk_alloc ?_ _)); exact BK454.out) hb); have n1_ := Aside0.mk (blk_below (g := gb457) (o := .cells #[.int .u8 a0_0, .int .i64 a0_1, .int .i64 a0_2, .int .i64 a0_3, .int .i64 a1, .int .i64 a0_5, .int .i64 a0_6, .int .i64 a0_7, .int .i64 a0_8, .int .i64 a0_9] 31 (0, 0)) (by (with_reducible repeat (first | refine blk_drewN ?_ _ | refine blk_drew ?_ | refine blk_alloc ?_ _)); exact BK457.out) hb); have n2_ := Aside0.mk (blk_below (g := gb458) (o := .cells #[.int .u8 a0_0, .int .i64 a1, .int .i64 a0_2, .int .i64 a0_3, .int .i64 a0_4, .int .i64 a0_5, .int .i64 a0_6, .int .i64 a0_7, .int .i64 a0_8, .int .i64 a0_9] 31 (0, 0)) (by (with_reducible repeat (first | refine blk_drewN ?_ _ | refine blk_drew ?_ | refine blk_alloc ?_ _)); exact BK458.out) hb); have n3_ := Aside0.mk (blk_below (g := gb459) (o := .cells #[.int .u8 a0_0, .int .i64 a0_1, .int .i64 a0_2, .int .i64 a0_3, .int .i64 a0_4, .int .i64 a1, .int .i64 a0_6, .int .i64 a0_7, .int .i64 a0_8, .int .i64 a0_9] 31 (0, 0)) (by (with_reducible repeat (first | refine blk_drewN ?_ _ | refine blk_drew ?_ | refine blk_alloc ?_ _)); exact BK459.out) hb); have n4_ := Aside0.mk (below_step (by repeat (first | (with_reducible first | exact HB.out | apply below_alloc | apply pw_below_drewN | apply below_drew1 | refine below_set ?_ GE454.out | refine below_set ?_ GE457.out | refine below_set ?_ GE458.out | refine below_set ?_ GE459.out) | exact HB.out)) hb); clear BK454; clear BK457; clear BK458; clear BK459; clear HB; have BK454 := n0_; have BK457 := n1_; have BK458 := n2_; have BK459 := n3_; have HB := n4_; clear n0_ n1_ n2_ n3_ n4_; (try clear hb); (try clear hb2); (try clear hk); (try clear hi)))
              go_meet
              case rel => exact ⟨_, (true), (by first | rfl | (simp; done) | (simp [*]; done)), H', ⟨by have := HJ3.out; first | omega | exact Nat.le_refl _⟩, ⟨by (with_reducible repeat (first | refine blk_drewN ?_ _ | refine blk_drew ?_ | refine blk_alloc ?_ _)); exact BK454.out⟩, ⟨by (with_reducible repeat (first | refine blk_drewN ?_ _ | refine blk_drew ?_ | refine blk_alloc ?_ _)); exact BK457.out⟩, ⟨by (with_reducible repeat (first | refine blk_drewN ?_ _ | refine blk_drew ?_ | refine blk_alloc ?_ _)); exact BK458.out⟩, ⟨by (with_reducible repeat (first | refine blk_drewN ?_ _ | refine blk_drew ?_ | refine blk_alloc ?_ _)); exact BK459.out⟩, ⟨by repeat (first | (with_reducible first | exact HB.out | apply below_alloc | apply pw_below_drewN | apply below_drew1 | refine below_set ?_ GE454.out | refine below_set ?_ GE457.out | refine below_set ?_ GE458.out | refine below_set ?_ GE459.out) | exact HB.out)⟩⟩
        case rest =>
          clear HC17
          try clear c1
          try clear p2
          try clear c5
          try clear c6
          try clear c7
          try clear c8
          try clear c9
          try clear c10
          try clear c11
          try clear c12
          try clear c53
          try clear c54
          try clear c55
          try clear c57
          try clear c58
          try clear c60
          try clear c62
          try clear c62b0
          try clear c62b1
          try clear c63
          try clear c63b0
          try clear c63b1
          try clear c64
          try clear c65
          try clear c66
          try clear c68
          try clear c68b0
          try clear c68b1
          try clear c69
          try clear c70
          try clear c71
          try clear c74
          try clear c75
          try clear c76
          try clear c78
          try clear c79
          try clear c83
          try clear c84
          try clear c84b0
          try clear c84b1
          try clear c85
          try clear c86
          try clear c87
          try clear c89
          try clear c90
          try clear c94
          try clear c94b0
          try clear c94b1
          try clear c95
          try clear c96
          try clear c97
          try clear c99
          try clear c100
          try clear c105
          try clear c106
          try clear c107
          try clear c109
          try clear c110
          try clear c114
          try clear c117
          try clear c118
          try clear c119
          try clear c121
          try clear c122
          try clear hcz101_0
          try clear hcz101_1
          try clear hcz101_2
          try clear hcz101_3
          try clear hcz101_4
          try clear hcz101_5
          try clear hcz101_6
          try clear hcz101_7
          try clear hcz101_8
          try clear hcz101_9
          try clear hcz103_0
          try clear hcz103_1
          try clear hcz103_2
          try clear hcz103_3
          try clear hcz103_4
          try clear hcz103_5
          try clear hcz103_6
          try clear hcz103_7
          try clear hcz103_8
          try clear hcz103_9
          try clear hcz108_0
          try clear hcz108_1
          try clear hcz108_2
          try clear hcz108_3
          try clear hcz108_4
          try clear hcz108_5
          try clear hcz108_6
          try clear hcz108_7
          try clear hcz108_8
          try clear hcz108_9
          try clear hcz111_0
          try clear hcz111_1
          try clear hcz111_2
          try clear hcz111_3
          try clear hcz111_4
          try clear hcz111_5
          try clear hcz111_6
          try clear hcz111_7
          try clear hcz111_8
          try clear hcz111_9
          try clear hcz113_0
          try clear hcz113_1
          try clear hcz113_2
          try clear hcz113_3
          try clear hcz113_4
          try clear hcz113_5
          try clear hcz113_6
          try clear hcz113_7
          try clear hcz113_8
          try clear hcz113_9
          try clear hcz115_0
          try clear hcz115_1
          try clear hcz115_2
          try clear hcz115_3
          try clear hcz115_4
          try clear hcz115_5
          try clear hcz115_6
          try clear hcz115_7
          try clear hcz115_8
          try clear hcz115_9
          try clear hcz120_0
          try clear hcz120_1
          try clear hcz120_2
          try clear hcz120_3
          try clear hcz120_4
          try clear hcz120_5
          try clear hcz120_6
          try clear hcz120_7
          try clear hcz120_8
          try clear hcz120_9
          try clear hcz123_0
          try clear hcz123_1
          try clear hcz123_2
          try clear hcz123_3
          try clear hcz123_4
          try clear hcz123_5
          try clear hcz123_6
          try clear hcz123_7
          try clear hcz123_8
          try clear hcz123_9
          try clear hcz56_0
          try clear hcz56_1
          try clear hcz56_2
          try clear hcz56_3
          try clear hcz56_4
          try clear hcz56_5
          try clear hcz56_6
          try clear hcz56_7
          try clear hcz56_8
          try clear hcz56_9
          try clear hcz59_0
          try clear hcz59_1
          try clear hcz59_2
          try clear hcz59_3
          try clear hcz59_4
          try clear hcz59_5
          try clear hcz59_6
          try clear hcz59_7
          try clear hcz59_8
          try clear hcz59_9
          try clear hcz61_0
          try clear hcz61_1
          try clear hcz61_2
          try clear hcz61_3
          try clear hcz61_4
          try clear hcz61_5
          try clear hcz61_6
          try clear hcz61_7
          try clear hcz61_8
          try clear hcz61_9
          try clear hcz67_0
          try clear hcz67_1
          try clear hcz67_2
          try clear hcz67_3
          try clear hcz67_4
          try clear hcz67_5
          try clear hcz67_6
          try clear hcz67_7
          try clear hcz67_8
          try clear hcz67_9
          try clear hcz72_0
          try clear hcz72_1
          try clear hcz72_2
          try clear hcz72_3
          try clear hcz72_4
          try clear hcz72_5
          try clear hcz72_6
          try clear hcz72_7
          try clear hcz72_8
          try clear hcz72_9
          try clear hcz77_0
          try clear hcz77_1
          try clear hcz77_2
          try clear hcz77_3
          try clear hcz77_4
          try clear hcz77_5
          try clear hcz77_6
          try clear hcz77_7
          try clear hcz77_8
          try clear hcz77_9
          try clear hcz80_0
          try clear hcz80_1
          try clear hcz80_2
          try clear hcz80_3
          try clear hcz80_4
          try clear hcz80_5
          try clear hcz80_6
          try clear hcz80_7
          try clear hcz80_8
          try clear hcz80_9
          try clear hcz88_0
          try clear hcz88_1
          try clear hcz88_2
          try clear hcz88_3
          try clear hcz88_4
          try clear hcz88_5
          try clear hcz88_6
          try clear hcz88_7
          try clear hcz88_8
          try clear hcz88_9
          try clear hcz91_0
          try clear hcz91_1
          try clear hcz91_2
          try clear hcz91_3
          try clear hcz91_4
          try clear hcz91_5
          try clear hcz91_6
          try clear hcz91_7
          try clear hcz91_8
          try clear hcz91_9
          try clear hcz93_0
          try clear hcz93_1
          try clear hcz93_2
          try clear hcz93_3
          try clear hcz93_4
          try clear hcz93_5
          try clear hcz93_6
          try clear hcz93_7
          try clear hcz93_8
          try clear hcz93_9
          try clear hcz98_0
          try clear hcz98_1
          try clear hcz98_2
          try clear hcz98_3
          try clear hcz98_4
          try clear hcz98_5
          try clear hcz98_6
          try clear hcz98_7
          try clear hcz98_8
          try clear hcz98_9
          try clear hfz101_0
          try clear hfz101_1
          try clear hfz101_2
          try clear hfz101_3
          try clear hfz101_4
          try clear hfz101_5
          try clear hfz101_6
          try clear hfz101_7
          try clear hfz101_8
          try clear hfz101_9
          try clear hfz103_0
          try clear hfz103_1
          try clear hfz103_2
          try clear hfz103_3
          try clear hfz103_4
          try clear hfz103_5
          try clear hfz103_6
          try clear hfz103_7
          try clear hfz103_8
          try clear hfz103_9
          try clear hfz108_0
          try clear hfz108_1
          try clear hfz108_2
          try clear hfz108_3
          try clear hfz108_4
          try clear hfz108_5
          try clear hfz108_6
          try clear hfz108_7
          try clear hfz108_8
          try clear hfz108_9
          try clear hfz111_0
          try clear hfz111_1
          try clear hfz111_2
          try clear hfz111_3
          try clear hfz111_4
          try clear hfz111_5
          try clear hfz111_6
          try clear hfz111_7
          try clear hfz111_8
          try clear hfz111_9
          try clear hfz113_0
          try clear hfz113_1
          try clear hfz113_2
          try clear hfz113_3
          try clear hfz113_4
          try clear hfz113_5
          try clear hfz113_6
          try clear hfz113_7
          try clear hfz113_8
          try clear hfz113_9
          try clear hfz115_0
          try clear hfz115_1
          try clear hfz115_2
          try clear hfz115_3
          try clear hfz115_4
          try clear hfz115_5
          try clear hfz115_6
          try clear hfz115_7
          try clear hfz115_8
          try clear hfz115_9
          try clear hfz120_0
          try clear hfz120_1
          try clear hfz120_2
          try clear hfz120_3
          try clear hfz120_4
          try clear hfz120_5
          try clear hfz120_6
          try clear hfz120_7
          try clear hfz120_8
          try clear hfz120_9
          try clear hfz123_0
          try clear hfz123_1
          try clear hfz123_2
          try clear hfz123_3
          try clear hfz123_4
          try clear hfz123_5
          try clear hfz123_6
          try clear hfz123_7
          try clear hfz123_8
          try clear hfz123_9
          try clear hfz56_0
          try clear hfz56_1
          try clear hfz56_2
          try clear hfz56_3
          try clear hfz56_4
          try clear hfz56_5
          try clear hfz56_6
          try clear hfz56_7
          try clear hfz56_8
          try clear hfz56_9
          try clear hfz59_0
          try clear hfz59_1
          try clear hfz59_2
          try clear hfz59_3
          try clear hfz59_4
          try clear hfz59_5
          try clear hfz59_6
          try clear hfz59_7
          try clear hfz59_8
          try clear hfz59_9
          try clear hfz61_0
          try clear hfz61_1
          try clear hfz61_2
          try clear hfz61_3
          try clear hfz61_4
          try clear hfz61_5
          try clear hfz61_6
          try clear hfz61_7
          try clear hfz61_8
          try clear hfz61_9
          try clear hfz67_0
          try clear hfz67_1
          try clear hfz67_2
          try clear hfz67_3
          try clear hfz67_4
          try clear hfz67_5
          try clear hfz67_6
          try clear hfz67_7
          try clear hfz67_8
          try clear hfz67_9
          try clear hfz72_0
          try clear hfz72_1
          try clear hfz72_2
          try clear hfz72_3
          try clear hfz72_4
          try clear hfz72_5
          try clear hfz72_6
          try clear hfz72_7
          try clear hfz72_8
          try clear hfz72_9
          try clear hfz77_0
          try clear hfz77_1
          try clear hfz77_2
          try clear hfz77_3
          try clear hfz77_4
          try clear hfz77_5
          try clear hfz77_6
          try clear hfz77_7
          try clear hfz77_8
          try clear hfz77_9
          try clear hfz80_0
          try clear hfz80_1
          try clear hfz80_2
          try clear hfz80_3
          try clear hfz80_4
          try clear hfz80_5
          try clear hfz80_6
          try clear hfz80_7
          try clear hfz80_8
          try clear hfz80_9
          try clear hfz88_0
          try clear hfz88_1
          try clear hfz88_2
          try clear hfz88_3
          try clear hfz88_4
          try clear hfz88_5
          try clear hfz88_6
          try clear hfz88_7
          try clear hfz88_8
          try clear hfz88_9
          try clear hfz91_0
          try clear hfz91_1
          try clear hfz91_2
          try clear hfz91_3
          try clear hfz91_4
          try clear hfz91_5
          try clear hfz91_6
          try clear hfz91_7
          try clear hfz91_8
          try clear hfz91_9
          try clear hfz93_0
          try clear hfz93_1
          try clear hfz93_2
          try clear hfz93_3
          try clear hfz93_4
          try clear hfz93_5
          try clear hfz93_6
          try clear hfz93_7
          try clear hfz93_8
          try clear hfz93_9
          try clear hfz98_0
          try clear hfz98_1
          try clear hfz98_2
          try clear hfz98_3
          try clear hfz98_4
          try clear hfz98_5
          try clear hfz98_6
          try clear hfz98_7
          try clear hfz98_8
          try clear hfz98_9
          obtain ⟨kq, x55_16, rfl, HA, HJ16, BK454, BK457, BK458, BK459, HB⟩ := hcut
          cases kq with
          | zero => exact absurd HA.out (by simp [tailwaterlaw25_MessageSpare.j1])
          | succ kj16 =>
            have H := HA.out
            clear HA
            simp only [tailwaterlaw25_MessageSpare.j1] at H
            by_cases c125 : x55_16 = true
            · subst c125
              have H1 : (some false) = some true := by rw [if_pos rfl] at H; exact H
              clear H
              have H := H1
              clear H1
              exact absurd H (by simp)
            · replace c125 := Bool.eq_false_iff.mpr c125
              subst c125
              have H1 : (if t455 = true then (if a0_0 = 3 then (some true) else ((tailwaterlaw25_bad.f kj16 a0_0 a0_1 a0_2 a0_3 a0_4 a1 a0_6 a0_7 a0_8 a0_9).bind fun t463 => (some t463))) else (some false)) = some true := by rw [if_neg (show ¬ (false = true) by decide)] at H; exact H
              clear H
              have H := H1
              clear H1
              by_cases c126 : t455 = true
              · subst c126
                have H1 : (if a0_0 = 3 then (some true) else ((tailwaterlaw25_bad.f kj16 a0_0 a0_1 a0_2 a0_3 a0_4 a1 a0_6 a0_7 a0_8 a0_9).bind fun t463 => (some t463))) = some true := by rw [if_pos rfl] at H; exact H
                clear H
                have H := H1
                clear H1
                by_cases c127 : a0_0 = 3
                · rw [if_pos c127] at H
                  have c127b0 : (a0_0 == 3) = true := beq_iff_eq.mpr c127
                  have c127b1 : (a0_0 != 3) = false := bne_eq_false_iff_eq.mpr c127
                  clear c127
                  have HE := Aside0.mk (Option.some.inj H)
                  clear H
                  have hnb128 := NB454_457.out
                  have hnc128 := NB457_454.out
                  have hnb129 := NB454_458.out
                  have hnc129 := NB458_454.out
                  have hnb130 := NB454_459.out
                  have hnc130 := NB459_454.out
                  obtain ⟨hcz131_0, hcz131_1, hcz131_2, hcz131_3, hcz131_4, hcz131_5, hcz131_6, hcz131_7, hcz131_8, hcz131_9⟩ := cells10 BK454.out
                  obtain ⟨hfz131_0, hfz131_1, hfz131_2, hfz131_3, hfz131_4, hfz131_5, hfz131_6, hfz131_7, hfz131_8, hfz131_9⟩ := froz10 BK454.out
                  go_wp2
                  go_ret
                  exact ⟨by first | rfl | exact congrArg (fun b_ : Bool => Ending.returned (.bool b_)) HE.out | ((try simp only [Bool.not_not] at HE); exact congrArg (fun b_ : Bool => Ending.returned (.bool b_)) HE.out) | (have h_ := HE.out; simp at h_ ⊢; simp [*]), by repeat (first | (with_reducible first | exact HB.out | apply below_alloc | apply pw_below_drewN | apply below_drew1 | refine below_set ?_ GE454.out | refine below_set ?_ GE457.out | refine below_set ?_ GE458.out | refine below_set ?_ GE459.out) | exact HB.out)⟩
                · rw [if_neg c127] at H
                  have c127b0 : (a0_0 == 3) = false := beq_eq_false_iff_ne.mpr c127
                  have c127b1 : (a0_0 != 3) = true := bne_iff_ne.mpr c127
                  replace H := Option.bind_eq_some_iff.mp H
                  obtain ⟨t463, A1320, H⟩ := H
                  replace H : (some t463) = some true := H
                  have A132 := Aside0.mk A1320
                  clear A1320
                  have HE := Aside0.mk (Option.some.inj H)
                  clear H
                  have hnb133 := NB454_457.out
                  have hnc133 := NB457_454.out
                  have hnb134 := NB454_458.out
                  have hnc134 := NB458_454.out
                  have hnb135 := NB454_459.out
                  have hnc135 := NB459_454.out
                  obtain ⟨hcz136_0, hcz136_1, hcz136_2, hcz136_3, hcz136_4, hcz136_5, hcz136_6, hcz136_7, hcz136_8, hcz136_9⟩ := cells10 BK454.out
                  obtain ⟨hfz136_0, hfz136_1, hfz136_2, hfz136_3, hfz136_4, hfz136_5, hfz136_6, hfz136_7, hfz136_8, hfz136_9⟩ := froz10 BK454.out
                  have hnb137 := NB459_457.out
                  have hnc137 := NB457_459.out
                  have hnb138 := NB459_458.out
                  have hnc138 := NB458_459.out
                  obtain ⟨hcz139_0, hcz139_1, hcz139_2, hcz139_3, hcz139_4, hcz139_5, hcz139_6, hcz139_7, hcz139_8, hcz139_9⟩ := cells10 BK459.out
                  obtain ⟨hfz139_0, hfz139_1, hfz139_2, hfz139_3, hfz139_4, hfz139_5, hfz139_6, hfz139_7, hfz139_8, hfz139_9⟩ := froz10 BK459.out
                  go_wp2_with (first | (go_at_call 17; (with_reducible refine (tailwaterlaw25_bad.calls kj16 a0_0 a0_1 a0_2 a0_3 a0_4 a1 a0_6 a0_7 a0_8 a0_9 t463 _ ?side1 A132.out).mono ?_); (case side1 => exact (TabG.below HT0.out (by repeat (first | (with_reducible first | exact HB.out | apply below_alloc | apply pw_below_drewN | apply below_drew1 | refine below_set ?_ GE454.out | refine below_set ?_ GE457.out | refine below_set ?_ GE458.out | refine below_set ?_ GE459.out) | exact HB.out))).tab); rintro e w140 ⟨rfl, hb⟩; have n0_ := Aside0.mk (blk_below (g := gb454) (o := .cells #[.int .u8 a0_0, .int .i64 a0_1, .int .i64 a0_2, .int .i64 a0_3, .int .i64 a0_4, .int .i64 a0_5, .int .i64 a0_6, .int .i64 a0_7, .int .i64 a0_8, .int .i64 a0_9] 31 (0, 0)) (by (with_reducible repeat (first | refine blk_drewN ?_ _ | refine blk_drew ?_ | refine blk_alloc ?_ _)); exact BK454.out) hb); have n1_ := Aside0.mk (blk_below (g := gb457) (o := .cells #[.int .u8 a0_0, .int .i64 a0_1, .int .i64 a0_2, .int .i64 a0_3, .int .i64 a1, .int .i64 a0_5, .int .i64 a0_6, .int .i64 a0_7, .int .i64 a0_8, .int .i64 a0_9] 31 (0, 0)) (by (with_reducible repeat (first | refine blk_drewN ?_ _ | refine blk_drew ?_ | refine blk_alloc ?_ _)); exact BK457.out) hb); have n2_ := Aside0.mk (blk_below (g := gb458) (o := .cells #[.int .u8 a0_0, .int .i64 a1, .int .i64 a0_2, .int .i64 a0_3, .int .i64 a0_4, .int .i64 a0_5, .int .i64 a0_6, .int .i64 a0_7, .int .i64 a0_8, .int .i64 a0_9] 31 (0, 0)) (by (with_reducible repeat (first | refine blk_drewN ?_ _ | refine blk_drew ?_ | refine blk_alloc ?_ _)); exact BK458.out) hb); have n3_ := Aside0.mk (blk_below (g := gb459) (o := .cells #[.int .u8 a0_0, .int .i64 a0_1, .int .i64 a0_2, .int .i64 a0_3, .int .i64 a0_4, .int .i64 a1, .int .i64 a0_6, .int .i64 a0_7, .int .i64 a0_8, .int .i64 a0_9] 31 (0, 0)) (by (with_reducible repeat (first | refine blk_drewN ?_ _ | refine blk_drew ?_ | refine blk_alloc ?_ _)); exact BK459.out) hb); have n4_ := Aside0.mk (below_step (by repeat (first | (with_reducible first | exact HB.out | apply below_alloc | apply pw_below_drewN | apply below_drew1 | refine below_set ?_ GE454.out | refine below_set ?_ GE457.out | refine below_set ?_ GE458.out | refine below_set ?_ GE459.out) | exact HB.out)) hb); clear BK454; clear BK457; clear BK458; clear BK459; clear HB; have BK454 := n0_; have BK457 := n1_; have BK458 := n2_; have BK459 := n3_; have HB := n4_; clear n0_ n1_ n2_ n3_ n4_; (try clear hb); (try clear hb2); (try clear hk); (try clear hi)))
                  go_ret
                  exact ⟨by first | rfl | exact congrArg (fun b_ : Bool => Ending.returned (.bool b_)) HE.out | ((try simp only [Bool.not_not] at HE); exact congrArg (fun b_ : Bool => Ending.returned (.bool b_)) HE.out) | (have h_ := HE.out; simp at h_ ⊢; simp [*]), by repeat (first | (with_reducible first | exact HB.out | apply below_alloc | apply pw_below_drewN | apply below_drew1 | refine below_set ?_ GE454.out | refine below_set ?_ GE457.out | refine below_set ?_ GE458.out | refine below_set ?_ GE459.out) | exact HB.out)⟩
              · replace c126 := Bool.eq_false_iff.mpr c126
                subst c126
                have H1 : (some false) = some true := by rw [if_neg (show ¬ (false = true) by decide)] at H; exact H
                clear H
                have H := H1
                clear H1
                exact absurd H (by simp)

/-- THE ONE PURE STATEMENT of tailwaterlaw25_MessageSpare: yours. -/
def tailwaterlaw25_MessageSpare.Pure : Prop := ∀ (a0_0 : Int) (a0_1 : Int) (a0_2 : Int) (a0_3 : Int) (a0_4 : Int) (a0_5 : Int) (a0_6 : Int) (a0_7 : Int) (a0_8 : Int) (a0_9 : Int) (a1 : Int), (Lit.int .u8 a0_0).wf = true → (Lit.int .i64 a0_1).wf = true → (Lit.int .i64 a0_2).wf = true → (Lit.int .i64 a0_3).wf = true → (Lit.int .i64 a0_4).wf = true → (Lit.int .i64 a0_5).wf = true → (Lit.int .i64 a0_6).wf = true → (Lit.int .i64 a0_7).wf = true → (Lit.int .i64 a0_8).wf = true → (Lit.int .i64 a0_9).wf = true → (Lit.int .i64 a1).wf = true → ∃ k, tailwaterlaw25_MessageSpare.f k a0_0 a0_1 a0_2 a0_3 a0_4 a0_5 a0_6 a0_7 a0_8 a0_9 a1 = some true
theorem tailwaterlaw25_MessageSpare.walk (P : tailwaterlaw25_MessageSpare.Pure) (a0_0 : Int) (a0_1 : Int) (a0_2 : Int) (a0_3 : Int) (a0_4 : Int) (a0_5 : Int) (a0_6 : Int) (a0_7 : Int) (a0_8 : Int) (a0_9 : Int) (a1 : Int) (w : World) (w1 : (Lit.int .i64 a1).wf = true) (w0_0 : (Lit.int .u8 a0_0).wf = true) (w0_1 : (Lit.int .i64 a0_1).wf = true) (w0_2 : (Lit.int .i64 a0_2).wf = true) (w0_3 : (Lit.int .i64 a0_3).wf = true) (w0_4 : (Lit.int .i64 a0_4).wf = true) (w0_5 : (Lit.int .i64 a0_5).wf = true) (w0_6 : (Lit.int .i64 a0_6).wf = true) (w0_7 : (Lit.int .i64 a0_7).wf = true) (w0_8 : (Lit.int .i64 a0_8).wf = true) (w0_9 : (Lit.int .i64 a0_9).wf = true) (hT : TabG w) :
    Calls Tryd.prog 15 #[.agg #[.int .u8 a0_0, .int .i64 a0_1, .int .i64 a0_2, .int .i64 a0_3, .int .i64 a0_4, .int .i64 a0_5, .int .i64 a0_6, .int .i64 a0_7, .int .i64 a0_8, .int .i64 a0_9], .int .i64 a1] w fun e w' => e = .returned (.bool true) ∧ Below w.heap.size w w' := by
  obtain ⟨k, h⟩ := P a0_0 a0_1 a0_2 a0_3 a0_4 a0_5 a0_6 a0_7 a0_8 a0_9 a1 w0_0 w0_1 w0_2 w0_3 w0_4 w0_5 w0_6 w0_7 w0_8 w0_9 w1
  refine (tailwaterlaw25_MessageSpare.calls k a0_0 a0_1 a0_2 a0_3 a0_4 a0_5 a0_6 a0_7 a0_8 a0_9 a1 w hT h).mono ?_
  rintro e w' ⟨rfl, hd⟩
  exact ⟨rfl, hd⟩

end Go.Proofs.YtdcigijklknjaaaDoor.Mw

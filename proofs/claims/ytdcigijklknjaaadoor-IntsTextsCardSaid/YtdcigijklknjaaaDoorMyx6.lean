/- Each theorem X.calls below says: where the Lean function X.f answers, the Go function X returns that answer, and whatever lay in memory before the call is left as it was. -/
import Derived.Test.YtdcigijklknjaaaDoorMyx0
import Derived.Test.YtdcigijklknjaaaDoorMyx1
import Derived.Test.YtdcigijklknjaaaDoorMyx2
import Derived.Test.YtdcigijklknjaaaDoorMyx4
import Derived.Test.YtdcigijklknjaaaDoorMyx5
namespace Go.Proofs.YtdcigijklknjaaaDoor.My
open Go.RowKit Go.Proofs.YtdcigijklknjaaaDoorW.PrintWords Go.Proofs.YtdcigijklknjaaaDoorW.PrintLast Go.Proofs.YtdcigijklknjaaaDoorW.PrintMore
attribute [local go_sem] max2_int min2_int max_two min_two max_three min_three max_four min_four   -- for this text's walks alone
set_option linter.unusedVariables false
set_option linter.unusedSimpArgs false

/-! ### tailwaterlaw01_IntsTexts: function 6 -/
def tailwaterlaw01_IntsTexts.f (k : Nat) (a0 : Int) (a1 : ByteArray) : Option (Bool) := if (a1.size : Int) > 100 then (some true) else ((ints_Read.f a1).bind fun bt106 => ((tailwaterref01_Read.f k a1).bind fun bt108 => ((ints_Text.f a0).bind fun t110 => ((tailwaterref01_Text.f k a0).bind fun t111 => (if t110.toList = t111.toList then (if bt106.1 = bt108.1 then (some (bt106.2 == bt108.2)) else (some false)) else (some false))))))
theorem tailwaterlaw01_IntsTexts.mono : ∀ a0 a1 k, LeO (tailwaterlaw01_IntsTexts.f k a0 a1) (tailwaterlaw01_IntsTexts.f (k + 1) a0 a1) := by
  intro a0 a1 k
  unfold tailwaterlaw01_IntsTexts.f
  repeat' first
      | (with_reducible exact tailwaterref01_Read.mono _ _)
      | (with_reducible exact tailwaterref01_Text.mono _ _)
      | (with_reducible exact LeO.refl _)
      | (with_reducible exact LeO.none _)
      | (with_reducible refine LeO.ite ?_ ?_)
      | (with_reducible refine LeO.bind ?_ (fun _ => ?_))
      | exact tailwaterref01_Read.mono _ _
      | exact tailwaterref01_Text.mono _ _
      | exact LeO.none _
      | refine LeO.ite ?_ ?_
      | refine LeO.bind ?_ (fun _ => ?_)
set_option maxHeartbeats 8000000 in
set_option maxRecDepth 100000 in
theorem tailwaterlaw01_IntsTexts.calls (k : Nat) (a0 : Int) (a1 : ByteArray) (w : World) (hT : TabG w) (h : tailwaterlaw01_IntsTexts.f k a0 a1 = some true) :
    Calls Tryd.prog 6 #[.int .i64 a0, .string a1] w fun e w' => e = .returned (.bool true) ∧ Below w.heap.size w w' := by
  have HB := Aside0.mk (Below.refl w.heap.size w)
  have HT0 := Aside0.mk hT
  clear hT
  have H : (if (a1.size : Int) > 100 then (some true) else ((ints_Read.f a1).bind fun bt106 => ((tailwaterref01_Read.f k a1).bind fun bt108 => ((ints_Text.f a0).bind fun t110 => ((tailwaterref01_Text.f k a0).bind fun t111 => (if t110.toList = t111.toList then (if bt106.1 = bt108.1 then (some (bt106.2 == bt108.2)) else (some false)) else (some false))))))) = some true := h
  clear h
  by_cases c3 : (a1.size : Int) > 100
  · rw [if_pos c3] at H
    have c3b0 : decide (100 < (a1.size : Int)) = true := decide_eq_true c3
    have c3b1 : decide (100 < a1.size) = true := decide_eq_true (by omega)
    clear c3
    have HE := Aside0.mk (Option.some.inj H)
    clear H
    go_enter Tryd.func6, Tryd.ntmps6
    go_wp2
    go_ret
    exact ⟨by first | rfl | exact congrArg (fun b_ : Bool => Ending.returned (.bool b_)) HE.out | ((try simp only [Bool.not_not] at HE); exact congrArg (fun b_ : Bool => Ending.returned (.bool b_)) HE.out) | (have h_ := HE.out; simp at h_ ⊢; simp [*]), by repeat (first | (with_reducible first | exact HB.out | apply below_alloc | apply pw_below_drewN | apply below_drew1) | exact HB.out)⟩
  · rw [if_neg c3] at H
    have c3b0 : decide (100 < (a1.size : Int)) = false := decide_eq_false c3
    have c3b1 : decide (100 < a1.size) = false := decide_eq_false (by omega)
    clear c3
    replace H := Option.bind_eq_some_iff.mp H
    obtain ⟨⟨t106, t107⟩, A40, H⟩ := H
    replace H : ((tailwaterref01_Read.f k a1).bind fun bt108 => ((ints_Text.f a0).bind fun t110 => ((tailwaterref01_Text.f k a0).bind fun t111 => (if t110.toList = t111.toList then (if t106 = bt108.1 then (some (t107 == bt108.2)) else (some false)) else (some false))))) = some true := H
    have A4 := Aside0.mk A40
    clear A40
    replace H := Option.bind_eq_some_iff.mp H
    obtain ⟨⟨t108, t109⟩, A50, H⟩ := H
    replace H : ((ints_Text.f a0).bind fun t110 => ((tailwaterref01_Text.f k a0).bind fun t111 => (if t110.toList = t111.toList then (if t106 = t108 then (some (t107 == t109)) else (some false)) else (some false)))) = some true := H
    have A5 := Aside0.mk A50
    clear A50
    replace H := Option.bind_eq_some_iff.mp H
    obtain ⟨t110, A60, H⟩ := H
    replace H : ((tailwaterref01_Text.f k a0).bind fun t111 => (if t110.toList = t111.toList then (if t106 = t108 then (some (t107 == t109)) else (some false)) else (some false))) = some true := H
    have A6 := Aside0.mk A60
    clear A60
    replace H := Option.bind_eq_some_iff.mp H
    obtain ⟨t111, A70, H⟩ := H
    replace H : (if t110.toList = t111.toList then (if t106 = t108 then (some (t107 == t109)) else (some false)) else (some false)) = some true := H
    have A7 := Aside0.mk A70
    clear A70
    by_cases c8 : t110.toList = t111.toList
    · rw [if_pos c8] at H
      have c8b0 : (t110.toList == t111.toList) = true := beq_iff_eq.mpr c8
      have c8b1 : (t110.toList != t111.toList) = false := bne_eq_false_iff_eq.mpr c8
      clear c8
      by_cases c9 : t106 = t108
      · rw [if_pos c9] at H
        have c9b0 : (t106 == t108) = true := beq_iff_eq.mpr c9
        have c9b1 : (t106 != t108) = false := bne_eq_false_iff_eq.mpr c9
        clear c9
        have HE := Aside0.mk (Option.some.inj H)
        clear H
        go_enter Tryd.func6, Tryd.ntmps6
        go_wp2_with (first | ((with_reducible refine gate_callee (f := 28) rfl ?_); refine goesL_ (some 14) rfl rfl Tryd.func28 (by kernel_rfl) rfl #[.string a1] rfl (by (try simp only [List.map_toArray, List.map_cons, List.map_nil]); first | done | rfl | (simp only [List.length_drop, List.length_take]; rfl)) ?_; (with_reducible refine (ints_Read.calls a1 t106 t107 _ ?side1 A4.out).mono ?_); (case side1 => exact TabG.below HT0.out (by repeat (first | (with_reducible first | exact HB.out | apply below_alloc | apply pw_below_drewN | apply below_drew1) | exact HB.out))); rintro e w10 ⟨rfl, hb⟩; refine ⟨_, rfl, ?_⟩; have n0_ := Aside0.mk (below_step (by repeat (first | (with_reducible first | exact HB.out | apply below_alloc | apply pw_below_drewN | apply below_drew1) | exact HB.out)) hb); clear HB; have HB := n0_; clear n0_; (try clear hb); (try clear hb2); (try clear hk); (try clear hi)) | ((with_reducible refine gate_callee (f := 29) rfl ?_); refine goesL_ (some 19) rfl rfl Tryd.func29 (by kernel_rfl) rfl #[.string a1] rfl (by (try simp only [List.map_toArray, List.map_cons, List.map_nil]); first | done | rfl | (simp only [List.length_drop, List.length_take]; rfl)) ?_; (with_reducible refine (tailwaterref01_Read.calls k a1 t108 t109 _ A5.out).mono ?_); rintro e w' ⟨rfl, ⟨nd, rfl⟩⟩; refine ⟨_, rfl, ?_⟩) | ((with_reducible refine gate_callee (f := 30) rfl ?_); refine goesL_ (some 23) rfl rfl Tryd.func30 (by kernel_rfl) rfl #[.int .i64 a0] rfl (by (try simp only [List.map_toArray, List.map_cons, List.map_nil]); first | done | rfl | (simp only [List.length_drop, List.length_take]; rfl)) ?_; (with_reducible refine (ints_Text.calls a0 t110 _ ?side1 A6.out).mono ?_); (case side1 => exact (TabG.below HT0.out (by repeat (first | (with_reducible first | exact HB.out | apply below_alloc | apply pw_below_drewN | apply below_drew1) | exact HB.out))).tab); rintro e w11 ⟨rfl, hb⟩; refine ⟨_, rfl, ?_⟩; have n0_ := Aside0.mk (below_step (by repeat (first | (with_reducible first | exact HB.out | apply below_alloc | apply pw_below_drewN | apply below_drew1) | exact HB.out)) hb); clear HB; have HB := n0_; clear n0_; (try clear hb); (try clear hb2); (try clear hk); (try clear hi)) | ((with_reducible refine gate_callee (f := 31) rfl ?_); refine goesL_ (some 25) rfl rfl Tryd.func31 (by kernel_rfl) rfl #[.int .i64 a0] rfl (by (try simp only [List.map_toArray, List.map_cons, List.map_nil]); first | done | rfl | (simp only [List.length_drop, List.length_take]; rfl)) ?_; (with_reducible refine (tailwaterref01_Text.calls k a0 t111 _ A7.out).mono ?_); rintro e w12 ⟨rfl, hb⟩; refine ⟨_, rfl, ?_⟩; have n0_ := Aside0.mk (below_step (by repeat (first | (with_reducible first | exact HB.out | apply below_alloc | apply pw_below_drewN | apply below_drew1) | exact HB.out)) hb); clear HB; have HB := n0_; clear n0_; (try clear hb); (try clear hb2); (try clear hk); (try clear hi)))
        go_ret
        exact ⟨by first | rfl | exact congrArg (fun b_ : Bool => Ending.returned (.bool b_)) HE.out | ((try simp only [Bool.not_not] at HE); exact congrArg (fun b_ : Bool => Ending.returned (.bool b_)) HE.out) | (have h_ := HE.out; simp at h_ ⊢; simp [*]), by repeat (first | (with_reducible first | exact HB.out | apply below_alloc | apply pw_below_drewN | apply below_drew1) | exact HB.out)⟩
      · rw [if_neg c9] at H
        have c9b0 : (t106 == t108) = false := beq_eq_false_iff_ne.mpr c9
        have c9b1 : (t106 != t108) = true := bne_iff_ne.mpr c9
        exact absurd H (by simp)
    · rw [if_neg c8] at H
      have c8b0 : (t110.toList == t111.toList) = false := beq_eq_false_iff_ne.mpr c8
      have c8b1 : (t110.toList != t111.toList) = true := bne_iff_ne.mpr c8
      exact absurd H (by simp)

/-- THE ONE PURE STATEMENT of tailwaterlaw01_IntsTexts: yours. -/
def tailwaterlaw01_IntsTexts.Pure : Prop := ∀ (a0 : Int) (a1 : ByteArray), (Lit.int .i64 a0).wf = true → a1.size ≤ 140737488351232 → ∃ k, tailwaterlaw01_IntsTexts.f k a0 a1 = some true
theorem tailwaterlaw01_IntsTexts.walk (P : tailwaterlaw01_IntsTexts.Pure) (a0 : Int) (a1 : ByteArray) (w : World) (w0 : (Lit.int .i64 a0).wf = true) (w1 : a1.size ≤ 140737488351232)  (hT : TabG w) :
    Calls Tryd.prog 6 #[.int .i64 a0, .string a1] w fun e w' => e = .returned (.bool true) ∧ Below w.heap.size w w' := by
  obtain ⟨k, h⟩ := P a0 a1 w0 w1
  refine (tailwaterlaw01_IntsTexts.calls k a0 a1 w hT h).mono ?_
  rintro e w' ⟨rfl, hd⟩
  exact ⟨rfl, hd⟩

end Go.Proofs.YtdcigijklknjaaaDoor.My

/- The law MessageEvents, in plain Lean: different events have different messages, all of them valid, which say whether they are marks, and their times. -/
import Derived.Test.YtdcigijklknjaaaDoorPureSays
import Derived.Test.YtdcigijklknjaaaDoorMwx18
namespace Go.Proofs.YtdcigijklknjaaaDoor.PureEvents
open Go.RowKit Go.Proofs.YtdcigijklknjaaaDoor.Mw Go.Proofs.YtdcigijklknjaaaDoor.PureMsg Go.Proofs.YtdcigijklknjaaaDoor.PureSaid Go.Proofs.YtdcigijklknjaaaDoor.PureTells Go.Proofs.YtdcigijklknjaaaDoor.PureRead Go.Proofs.YtdcigijklknjaaaDoor.PureSays Go.Proofs.YtdcigijklknjaaaDoorW.PrintWords

theorem E_mark {a1 a2 a3 a4 : Int} (h : E true a1 a2 a3 a4 = true) : mk a1 = true ∧ a2 = 0 ∧ a3 = 0 ∧ a4 = 0 := by
  unfold E at h
  rw [if_pos rfl] at h
  simp only [Bool.and_eq_true, beq_iff_eq] at h
  exact h
theorem E_rec {a1 a2 a3 a4 : Int} (h : E false a1 a2 a3 a4 = true) : a1 = 0 ∧ tm a3 = true := by
  unfold E at h
  rw [if_neg (by decide)] at h
  simp only [Bool.and_eq_true, beq_iff_eq] at h
  exact h
theorem V_mark (a : Int) : V 2 0 0 0 a 0 0 0 0 0 = mk a := by
  unfold V
  rw [if_neg (by decide), if_pos rfl]
  simp
theorem V_rec (a b c : Int) : V 1 a b c 0 0 0 0 0 0 = tm b := by
  unfold V
  rw [if_pos (by decide)]
  simp

theorem holds : tailwaterlaw25_MessageEvents.Pure := by
  intro a a1 a2 a3 a4 b b1 b2 b3 b4 _ _ _ _ _ _ _ _
  refine ⟨100, ?_⟩
  unfold tailwaterlaw25_MessageEvents.f
  rw [alive_eq _ (by decide), of_eq 99, of_eq 99, event_eq 99, event_eq 99]
  simp only [Option.bind_some]
  unfold ofV
  by_cases ha : E a a1 a2 a3 a4 = true
  · by_cases hb : E b b1 b2 b3 b4 = true
    · simp only [if_pos ha, if_pos hb]
      cases a <;> cases b
      · obtain ⟨rfl, ta⟩ := E_rec ha
        obtain ⟨rfl, tb⟩ := E_rec hb
        simp only [Bool.false_eq_true, if_false, if_true, bne_self_eq_false, tailwaterlaw25_MessageEvents.j0, tailwaterlaw25_MessageEvents.j1, check_eq, V_rec, ta, Option.bind_some]
        simp
      · obtain ⟨rfl, ta⟩ := E_rec ha
        obtain ⟨tb, rfl, rfl, rfl⟩ := E_mark hb
        simp only [Bool.false_eq_true, if_false, if_true, bne_self_eq_false, tailwaterlaw25_MessageEvents.j0, tailwaterlaw25_MessageEvents.j1, check_eq, V_rec, ta, Option.bind_some]
        simp
      · obtain ⟨ta, rfl, rfl, rfl⟩ := E_mark ha
        obtain ⟨rfl, tb⟩ := E_rec hb
        simp only [Bool.false_eq_true, if_false, if_true, bne_self_eq_false, tailwaterlaw25_MessageEvents.j0, tailwaterlaw25_MessageEvents.j1, check_eq, V_mark, ta, Option.bind_some]
        simp
      · obtain ⟨ta, rfl, rfl, rfl⟩ := E_mark ha
        obtain ⟨tb, rfl, rfl, rfl⟩ := E_mark hb
        simp only [Bool.false_eq_true, if_false, if_true, bne_self_eq_false, tailwaterlaw25_MessageEvents.j0, tailwaterlaw25_MessageEvents.j1, check_eq, V_mark, ta, Option.bind_some]
        simp
    · simp only [if_pos ha, if_neg hb]
      cases a <;> simp [tailwaterlaw25_MessageEvents.j0, tailwaterlaw25_MessageEvents.j1]
  · simp only [if_neg ha]
    by_cases hb : E b b1 b2 b3 b4 = true
    · simp only [if_pos hb]
      cases b <;> simp [tailwaterlaw25_MessageEvents.j0, tailwaterlaw25_MessageEvents.j1]
    · simp only [if_neg hb]
      simp [tailwaterlaw25_MessageEvents.j0, tailwaterlaw25_MessageEvents.j1]
end Go.Proofs.YtdcigijklknjaaaDoor.PureEvents

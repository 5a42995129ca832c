/- The law MessageOnce, in plain Lean: a valid message's text is read as it, and two valid messages have one text only if they are one. -/
import Derived.Test.YtdcigijklknjaaaDoorPureSays
import Derived.Test.YtdcigijklknjaaaDoorMwx35
namespace Go.Proofs.YtdcigijklknjaaaDoor.PureOnce
open Go.RowKit Go.Proofs.YtdcigijklknjaaaDoor.Mw Go.Proofs.YtdcigijklknjaaaDoor.PureMsg Go.Proofs.YtdcigijklknjaaaDoor.PureSaid Go.Proofs.YtdcigijklknjaaaDoor.PureTells Go.Proofs.YtdcigijklknjaaaDoor.PureRead Go.Proofs.YtdcigijklknjaaaDoor.PureSays Go.Proofs.YtdcigijklknjaaaDoorW.PrintWords

theorem same (s t : ByteArray) (a0 a1 a2 a3 a4 a5 a6 a7 a8 a9 b0 b1 b2 b3 b4 b5 b6 b7 b8 b9 : Int) (ha : Tx s a0 a1 a2 a3 a4 a5 a6 a7 a8 a9) (hb : Tx t b0 b1 b2 b3 b4 b5 b6 b7 b8 b9) :
    ((s.toList == t.toList) == (a0 == b0 && ((a1 == b1 && (a2 == b2 && (a3 == b3))) && (a4 == b4 && ((a5 == b5 && ((a6 == b6 && (a7 == b7)) && ((a8 == b8 && (a9 == b9)))))))))) = true := by
  have hst : s = t ↔ (a0 = b0 ∧ ((a1 = b1 ∧ (a2 = b2 ∧ (a3 = b3))) ∧ (a4 = b4 ∧ ((a5 = b5 ∧ ((a6 = b6 ∧ (a7 = b7)) ∧ ((a8 = b8 ∧ (a9 = b9))))))))) := by
    constructor
    · rintro rfl
      have z := text_size ha
      have h1 := read_of s (by omega) 200 (by omega) ha
      rw [read_of s (by omega) 200 (by omega) hb] at h1
      simp only [Option.some.injEq, Prod.mk.injEq] at h1
      obtain ⟨e0, e1, e2, e3, e4, e5, e6, e7, e8, e9, _⟩ := h1
      exact ⟨e0.symm, ⟨e1.symm, e2.symm, e3.symm⟩, e4.symm, e5.symm, ⟨e6.symm, e7.symm⟩, e8.symm, e9.symm⟩
    · rintro ⟨rfl, ⟨rfl, rfl, rfl⟩, rfl, rfl, ⟨rfl, rfl⟩, rfl, rfl⟩
      rw [← ha.t, ← hb.t]
  rw [beq_iff_eq, Bool.eq_iff_iff, beq_iff_eq, toList_data, toList_data, Array.toList_inj]
  simp only [Bool.and_eq_true, beq_iff_eq]
  rw [← hst]
  exact ⟨fun h => ByteArray.ext h, fun h => congrArg _ h⟩

theorem holds : tailwaterlaw25_MessageOnce.Pure := by
  intro a0 a1 a2 a3 a4 a5 a6 a7 a8 a9 b0 b1 b2 b3 b4 b5 b6 b7 b8 b9 u0 u1 u2 u3 u4 u5 u6 u7 u8 u9 v0 v1 v2 v3 v4 v5 v6 v7 v8 v9
  refine ⟨200 + 4, ?_⟩
  unfold tailwaterlaw25_MessageOnce.f
  rw [alive_eq _ (by decide), text_eq 203 a0 a1 a2 a3 a4 a5 a6 a7 a8 a9 (of_wf u1) (of_wf u2) (of_wf u3) (of_wf u4) (of_wf u5) (of_wf u6) (of_wf u7) (of_wf u8) (of_wf u9),
    text_eq 203 b0 b1 b2 b3 b4 b5 b6 b7 b8 b9 (of_wf v1) (of_wf v2) (of_wf v3) (of_wf v4) (of_wf v5) (of_wf v6) (of_wf v7) (of_wf v8) (of_wf v9), check_eq 203, check_eq 203]
  simp only [Option.bind_some]
  by_cases ha : V a0 a1 a2 a3 a4 a5 a6 a7 a8 a9 = true
  · have hta : Tx (msgText a0 a1 a2 a3 a4 a5 a6 a7 a8 a9) a0 a1 a2 a3 a4 a5 a6 a7 a8 a9 := ⟨ha, of_wf u1, of_wf u2, of_wf u3, of_wf u4, of_wf u5, of_wf u6, of_wf u7, of_wf u8, of_wf u9, rfl⟩
    simp only [if_pos ha]
    rw [if_pos trivial]
    have z := text_size hta
    have hr := read_of _ (by omega) 200 (by omega) hta
    by_cases hb : V b0 b1 b2 b3 b4 b5 b6 b7 b8 b9 = true
    · have htb : Tx (msgText b0 b1 b2 b3 b4 b5 b6 b7 b8 b9) b0 b1 b2 b3 b4 b5 b6 b7 b8 b9 := ⟨hb, of_wf v1, of_wf v2, of_wf v3, of_wf v4, of_wf v5, of_wf v6, of_wf v7, of_wf v8, of_wf v9, rfl⟩
      simp only [if_pos hb, bne_self_eq_false]
      simp only [tailwaterlaw25_MessageOnce.j0]
      rw [if_neg (by decide), if_pos trivial, hr]
      simp only [Option.bind_some, beq_self_eq_true, Bool.not_true, Bool.or_self, if_true]
      rw [if_neg (by decide), same _ _ _ _ _ _ _ _ _ _ _ _ _ _ _ _ _ _ _ _ _ _ hta htb]
    · simp only [if_neg hb, bne_self_eq_false]
      simp only [tailwaterlaw25_MessageOnce.j0]
      rw [if_neg (by decide), if_pos trivial, hr]
      simp only [Option.bind_some, beq_self_eq_true, Bool.not_true, Bool.or_self, if_true]
      rw [if_neg (by decide), if_neg (by decide)]
  · by_cases hb : V b0 b1 b2 b3 b4 b5 b6 b7 b8 b9 = true
    · simp only [if_neg ha, if_pos hb, bne_self_eq_false]
      rw [if_pos trivial]
      simp only [tailwaterlaw25_MessageOnce.j0]
      rw [if_neg (by decide), if_neg (by decide), if_pos trivial]
    · simp only [if_neg ha, if_neg hb, bne_self_eq_false]
      rw [if_pos trivial]
      simp only [tailwaterlaw25_MessageOnce.j0]
      rw [if_neg (by decide), if_neg (by decide), if_pos trivial]
end Go.Proofs.YtdcigijklknjaaaDoor.PureOnce

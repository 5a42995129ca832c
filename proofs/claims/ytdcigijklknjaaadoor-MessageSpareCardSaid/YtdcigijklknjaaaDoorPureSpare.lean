/- The law MessageSpare, in plain Lean: a valid message with a number other than 0 in a place that its kind does not use is not valid. -/
import Derived.Test.YtdcigijklknjaaaDoorPureSays
import Derived.Test.YtdcigijklknjaaaDoorPureMsgR
import Derived.Test.YtdcigijklknjaaaDoorMwx37
namespace Go.Proofs.YtdcigijklknjaaaDoor.PureSpare
open Go.RowKit Go.Proofs.YtdcigijklknjaaaDoor.Mw Go.Proofs.YtdcigijklknjaaaDoor.PureMsg Go.Proofs.YtdcigijklknjaaaDoor.PureSaid Go.Proofs.YtdcigijklknjaaaDoor.PureTells Go.Proofs.YtdcigijklknjaaaDoor.PureRead Go.Proofs.YtdcigijklknjaaaDoor.PureSays Go.Proofs.YtdcigijklknjaaaDoorW.PrintWords

theorem bad_yes (k : Nat) (a0 a1 a2 a3 a4 a5 a6 a7 a8 a9 : Int) (h1 : inR a1) (h2 : inR a2) (h3 : inR a3) (h4 : inR a4) (h5 : inR a5) (h6 : inR a6) (h7 : inR a7) (h8 : inR a8) (h9 : inR a9) (hv : ¬ V a0 a1 a2 a3 a4 a5 a6 a7 a8 a9 = true) :
    tailwaterlaw25_bad.f (k + 1) a0 a1 a2 a3 a4 a5 a6 a7 a8 a9 = some true := by
  unfold tailwaterlaw25_bad.f
  rw [text_eq k a0 a1 a2 a3 a4 a5 a6 a7 a8 a9 h1 h2 h3 h4 h5 h6 h7 h8 h9, check_eq, if_neg hv, if_neg hv]
  simp only [Option.bind_some, reduceIte]
  rw [toList_data]
  rfl

section
variable (a0 a1 a2 a3 a4 a5 a6 a7 a8 a9 n : Int) (hn : n ≠ 0)
include hn
theorem noTime (h : a0 ≠ 2) : ¬ V a0 a1 a2 a3 n a5 a6 a7 a8 a9 = true := by
  unfold V
  by_cases c1 : a0 = 1 ∨ a0 = 4
  · rw [if_pos c1]; simp [hn]
  · rw [if_neg c1, if_neg h]
    by_cases c3 : a0 = 3
    · rw [if_pos c3]; simp [hn]
    · rw [if_neg c3]; simp
theorem noKey (h : a0 ≠ 1 ∧ a0 ≠ 4) : ¬ V a0 n a2 a3 a4 a5 a6 a7 a8 a9 = true := by
  unfold V
  rw [if_neg (show ¬ (a0 = 1 ∨ a0 = 4) by omega)]
  by_cases c2 : a0 = 2
  · rw [if_pos c2]; simp [hn]
  · rw [if_neg c2]
    by_cases c3 : a0 = 3
    · rw [if_pos c3]; simp [hn]
    · rw [if_neg c3]; simp
theorem noRow (h : a0 ≠ 3) : ¬ V a0 a1 a2 a3 a4 n a6 a7 a8 a9 = true := by
  unfold V
  by_cases c1 : a0 = 1 ∨ a0 = 4
  · rw [if_pos c1]; simp [hn]
  · rw [if_neg c1]
    by_cases c2 : a0 = 2
    · rw [if_pos c2]; simp [hn]
    · rw [if_neg c2, if_neg h]; simp
end

theorem holds : tailwaterlaw25_MessageSpare.Pure := by
  intro a0 a1 a2 a3 a4 a5 a6 a7 a8 a9 n u0 u1 u2 u3 u4 u5 u6 u7 u8 u9 un
  refine ⟨100 + 2, ?_⟩
  unfold tailwaterlaw25_MessageSpare.f
  rw [alive_eq _ (by decide), rcheck_eq 101]
  simp only [Option.bind_some]
  have out : tailwaterlaw25_MessageSpare.j0 (101 + 1) n true true a0 a1 a2 a3 a4 a5 a6 a7 a8 a9 = some true := by
    simp only [tailwaterlaw25_MessageSpare.j0]
    rfl
  by_cases hv : V a0 a1 a2 a3 a4 a5 a6 a7 a8 a9 = true
  · rw [if_pos hv, if_pos rfl]
    by_cases hn : n = 0
    · rw [if_pos hn]; exact out
    · rw [if_neg hn]
      have h1 := of_wf u1
      have h2 := of_wf u2
      have h3 := of_wf u3
      have h4 := of_wf u4
      have h5 := of_wf u5
      have h6 := of_wf u6
      have h7 := of_wf u7
      have h8 := of_wf u8
      have h9 := of_wf u9
      have hN := of_wf un
      show tailwaterlaw25_MessageSpare.j0 (101 + 1) n true false a0 a1 a2 a3 a4 a5 a6 a7 a8 a9 = some true
      have last (k : Nat) : tailwaterlaw25_MessageSpare.j1 (k + 2) true false a0 a1 a2 a3 a4 a5 a6 a7 a8 a9 a0 a1 a2 a3 a4 n a6 a7 a8 a9 = some true := by
        simp only [tailwaterlaw25_MessageSpare.j1]
        rw [if_neg (by decide), if_pos trivial]
        by_cases h3' : a0 = 3
        · rw [if_pos h3']
        · rw [if_neg h3', bad_yes k a0 a1 a2 a3 a4 n a6 a7 a8 a9 h1 h2 h3 h4 hN h6 h7 h8 h9 (noRow a0 a1 a2 a3 a4 a6 a7 a8 a9 n hn h3')]
          rfl
      have time (k : Nat) (h : a0 ≠ 2) := bad_yes k a0 a1 a2 a3 n a5 a6 a7 a8 a9 h1 h2 h3 hN h5 h6 h7 h8 h9 (noTime a0 a1 a2 a3 a5 a6 a7 a8 a9 n hn h)
      have key (k : Nat) (h : a0 ≠ 1 ∧ a0 ≠ 4) := bad_yes k a0 n a2 a3 a4 a5 a6 a7 a8 a9 hN h2 h3 h4 h5 h6 h7 h8 h9 (noKey a0 a2 a3 a4 a5 a6 a7 a8 a9 n hn h)
      simp only [tailwaterlaw25_MessageSpare.j0]
      rw [if_neg (by decide)]
      by_cases e2 : a0 = 2
      · rw [if_pos e2, if_neg (by omega), if_neg (by omega), key 100 (by omega), Option.bind_some]
        exact last 99
      · rw [if_neg e2, time 100 e2, Option.bind_some, if_pos rfl]
        by_cases e1 : a0 = 1
        · rw [if_pos e1]; exact last 99
        · rw [if_neg e1]
          by_cases e4 : a0 = 4
          · rw [if_pos e4]; exact last 99
          · rw [if_neg e4, key 100 ⟨e1, e4⟩, Option.bind_some]
            exact last 99
  · rw [if_neg hv, if_neg (by decide)]
    exact out
end Go.Proofs.YtdcigijklknjaaaDoor.PureSpare

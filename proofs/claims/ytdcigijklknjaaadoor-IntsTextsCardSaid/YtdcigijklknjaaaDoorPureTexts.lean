/- The law IntsTexts, in plain Lean: what a text is read as and what a number is written as is what the references say. -/
import Derived.Test.YtdcigijklknjaaaDoorPureInts
import Derived.Test.YtdcigijklknjaaaDoorMyx6
namespace Go.Proofs.YtdcigijklknjaaaDoor.PureTexts
open Go.RowKit Go.Proofs.YtdcigijklknjaaaDoor.My Go.Proofs.YtdcigijklknjaaaDoor.PureInts
theorem holds : tailwaterlaw01_IntsTexts.Pure := by
  intro a0 a1 w0 w1
  refine ⟨300, ?_⟩
  unfold tailwaterlaw01_IntsTexts.f
  by_cases h : (a1.size : Int) > 100
  · rw [if_pos h]
  · rw [if_neg h, read_eq a1 (by omega), rread_eq 300 a1 (by omega) (by omega), text_eq a0 (of_wf w0), rtext 300 a0 (of_wf w0) (by omega)]
    simp only [Option.bind_some, if_true, beq_self_eq_true]
end Go.Proofs.YtdcigijklknjaaaDoor.PureTexts

/- The law MessageBack, in plain Lean: what is read, written again, is the same text. -/
import Derived.Test.YtdcigijklknjaaaDoorPureSays
import Derived.Test.YtdcigijklknjaaaDoorMwx36
namespace Go.Proofs.YtdcigijklknjaaaDoor.PureBack
open Go.RowKit Go.Proofs.YtdcigijklknjaaaDoor.Mw Go.Proofs.YtdcigijklknjaaaDoor.PureMsg Go.Proofs.YtdcigijklknjaaaDoor.PureSaid Go.Proofs.YtdcigijklknjaaaDoor.PureTells Go.Proofs.YtdcigijklknjaaaDoor.PureRead Go.Proofs.YtdcigijklknjaaaDoor.PureSays Go.Proofs.YtdcigijklknjaaaDoorW.PrintWords

theorem holds : tailwaterlaw25_MessageBack.Pure := by
  intro s hs
  refine ⟨300 + 4, ?_⟩
  unfold tailwaterlaw25_MessageBack.f
  rw [alive_eq _ (by decide), Option.bind_some]
  by_cases h : (s.size : Int) > 200
  · rw [if_pos h]
    simp only [tailwaterlaw25_MessageBack.j0]
    rfl
  · rw [if_neg h]
    simp only [tailwaterlaw25_MessageBack.j0]
    rw [if_neg (by decide)]
    obtain ⟨r, hr, hs⟩ := read_shape s (by omega) 300 (by omega)
    rw [hr, Option.bind_some]
    rcases hs with rfl | ⟨a0, a1, a2, a3, a4, a5, a6, a7, a8, a9, rfl, ht⟩
    · rfl
    · simp only [if_true]
      rw [text_yes 302 ht, check_eq 302, if_pos ht.v]
      simp only [Option.bind_some, if_true]
      rfl
end Go.Proofs.YtdcigijklknjaaaDoor.PureBack

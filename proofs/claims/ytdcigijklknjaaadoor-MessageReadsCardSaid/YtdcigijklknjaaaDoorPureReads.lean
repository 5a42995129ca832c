/- The law MessageReads, in plain Lean: Read and its reference answer alike. -/
import Derived.Test.YtdcigijklknjaaaDoorPureRRead
import Derived.Test.YtdcigijklknjaaaDoorMwx34
namespace Go.Proofs.YtdcigijklknjaaaDoor.PureReads
open Go.RowKit Go.Proofs.YtdcigijklknjaaaDoor.Mw Go.Proofs.YtdcigijklknjaaaDoor.PureMsg Go.Proofs.YtdcigijklknjaaaDoor.PureSaid Go.Proofs.YtdcigijklknjaaaDoor.PureTells Go.Proofs.YtdcigijklknjaaaDoor.PureRead Go.Proofs.YtdcigijklknjaaaDoor.PureRRead Go.Proofs.YtdcigijklknjaaaDoorW.PrintWords

theorem holds : tailwaterlaw25_MessageReads.Pure := by
  intro s hs
  refine ⟨400 + 3, ?_⟩
  unfold tailwaterlaw25_MessageReads.f
  by_cases h : (s.size : Int) > 200
  · rw [if_pos h]
  · rw [if_neg h]
    obtain ⟨k, hk⟩ : ∃ k, 400 + 3 = k + s.size + 8 := ⟨400 + 3 - s.size - 8, by omega⟩
    have hr : ∃ r, message_Read.f (400 + 3) s = some r ∧ tailwaterref25_Read.f (400 + 3) s = some r := by
      obtain ⟨r, h1, h2⟩ := read_shape s (by omega) 400 (by omega)
      rcases h2 with rfl | ⟨a0, a1, a2, a3, a4, a5, a6, a7, a8, a9, rfl, ht⟩
      · obtain ⟨q, h3, h4⟩ := rread_shape s (by omega) k (by omega)
        rcases h4 with rfl | ⟨a0, a1, a2, a3, a4, a5, a6, a7, a8, a9, rfl, ht⟩
        · exact ⟨_, h1, by rw [hk, h3]⟩
        · have := read_of s (by omega) 400 (by omega) ht
          exact ⟨_, this, by rw [hk, h3]⟩
      · exact ⟨_, h1, by rw [hk]; exact rread_of s (by omega) k (by omega) ht⟩
    obtain ⟨r, h1, h2⟩ := hr
    rw [h1, h2]
    simp only [Option.bind_some, beq_self_eq_true, Bool.and_self, if_true]
end Go.Proofs.YtdcigijklknjaaaDoor.PureReads

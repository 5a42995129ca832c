/- The law MessageNames: each call's answer is computed; with them its walk ends in true. -/
import Derived.Test.YtdcigijklknjaaaDoorPureSays
import Derived.Test.YtdcigijklknjaaaDoorNamesM
namespace Go.Proofs.YtdcigijklknjaaaDoor.PureNamesM
open Go.RowKit Go.Proofs.YtdcigijklknjaaaDoor.Mw Go.Proofs.YtdcigijklknjaaaDoor.PureMsg Go.Proofs.YtdcigijklknjaaaDoor.PureSaid Go.Proofs.YtdcigijklknjaaaDoor.PureTells Go.Proofs.YtdcigijklknjaaaDoor.PureRead Go.Proofs.YtdcigijklknjaaaDoor.PureSays Go.Proofs.YtdcigijklknjaaaDoorW.PrintWords

theorem bad_yes (k : Nat) (a0 a1 a2 a3 a4 a5 a6 a7 a8 a9 : Int) (h1 : inR a1) (h2 : inR a2) (h3 : inR a3) (h4 : inR a4) (h5 : inR a5) (h6 : inR a6) (h7 : inR a7) (h8 : inR a8) (h9 : inR a9) (hv : ¬ V a0 a1 a2 a3 a4 a5 a6 a7 a8 a9 = true) :
    tailwaterlaw25_bad.f (k + 1) a0 a1 a2 a3 a4 a5 a6 a7 a8 a9 = some true := by
  unfold tailwaterlaw25_bad.f
  rw [text_eq k a0 a1 a2 a3 a4 a5 a6 a7 a8 a9 h1 h2 h3 h4 h5 h6 h7 h8 h9, check_eq, if_neg hv, if_neg hv]
  simp only [Option.bind_some, reduceIte]
  rw [toList_data]
  rfl
instance (n : Int) : Decidable (inR n) := by unfold inR; infer_instance
theorem walk (w : World) (hT : TabG w) : Calls Tryd.prog 3 #[] w fun e w' => e = .returned (.bool true) ∧ Below w.heap.size w w' :=
  names.calls (199 + 1) w hT
    (says_yes 197 ⟨by decide, by decide, by decide, by decide, by decide, by decide, by decide, by decide, by decide, by decide, by decide +kernel⟩ (by decide) (by decide))
    (says_yes 197 ⟨by decide, by decide, by decide, by decide, by decide, by decide, by decide, by decide, by decide, by decide, by decide +kernel⟩ (by decide) (by decide))
    (says_yes 197 ⟨by decide, by decide, by decide, by decide, by decide, by decide, by decide, by decide, by decide, by decide, by decide +kernel⟩ (by decide) (by decide))
    (bad_yes 199 _ _ _ _ _ _ _ _ _ _ (by decide) (by decide) (by decide) (by decide) (by decide) (by decide) (by decide) (by decide) (by decide) (by decide))
    (bad_yes 199 _ _ _ _ _ _ _ _ _ _ (by decide) (by decide) (by decide) (by decide) (by decide) (by decide) (by decide) (by decide) (by decide) (by decide))
    (bad_yes 199 _ _ _ _ _ _ _ _ _ _ (by decide) (by decide) (by decide) (by decide) (by decide) (by decide) (by decide) (by decide) (by decide) (by decide))
    (bad_yes 199 _ _ _ _ _ _ _ _ _ _ (by decide) (by decide) (by decide) (by decide) (by decide) (by decide) (by decide) (by decide) (by decide) (by decide))
    (bad_yes 199 _ _ _ _ _ _ _ _ _ _ (by decide) (by decide) (by decide) (by decide) (by decide) (by decide) (by decide) (by decide) (by decide) (by decide))
    (bad_yes 199 _ _ _ _ _ _ _ _ _ _ (by decide) (by decide) (by decide) (by decide) (by decide) (by decide) (by decide) (by decide) (by decide) (by decide))
    (bad_yes 199 _ _ _ _ _ _ _ _ _ _ (by decide) (by decide) (by decide) (by decide) (by decide) (by decide) (by decide) (by decide) (by decide) (by decide))
    (bad_yes 199 _ _ _ _ _ _ _ _ _ _ (by decide) (by decide) (by decide) (by decide) (by decide) (by decide) (by decide) (by decide) (by decide) (by decide))
    (bad_yes 199 _ _ _ _ _ _ _ _ _ _ (by decide) (by decide) (by decide) (by decide) (by decide) (by decide) (by decide) (by decide) (by decide) (by decide))
    (bad_yes 199 _ _ _ _ _ _ _ _ _ _ (by decide) (by decide) (by decide) (by decide) (by decide) (by decide) (by decide) (by decide) (by decide) (by decide))
    (bad_yes 199 _ _ _ _ _ _ _ _ _ _ (by decide) (by decide) (by decide) (by decide) (by decide) (by decide) (by decide) (by decide) (by decide) (by decide))
    (bad_yes 199 _ _ _ _ _ _ _ _ _ _ (by decide) (by decide) (by decide) (by decide) (by decide) (by decide) (by decide) (by decide) (by decide) (by decide))
    (by decide +kernel)
    (by decide +kernel)
    (by decide +kernel)
    (by decide +kernel)
    (by decide +kernel)
    (by decide +kernel)
    (by decide +kernel)
    (by decide +kernel)
    (by decide +kernel)
    (by decide +kernel)
    (by decide +kernel)
    (by decide +kernel)
    (by decide +kernel)
    (by decide +kernel)
    (by decide +kernel)
    (by decide +kernel)
    (by decide +kernel)
    (by decide +kernel)
    (by decide +kernel)
    (event_eq 199 _ _ _ _ _) (event_eq 199 _ _ _ _ _) (event_eq 199 _ _ _ _ _) (event_eq 199 _ _ _ _ _)
    (of_eq 199 _ _ _ _ _) (of_eq 199 _ _ _ _ _) (alive_eq _ (by decide)) (event_eq 199 _ _ _ _ _)
end Go.Proofs.YtdcigijklknjaaaDoor.PureNamesM

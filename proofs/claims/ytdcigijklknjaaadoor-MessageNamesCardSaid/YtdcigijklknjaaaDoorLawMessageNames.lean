/- The given statement MessageNamesCardSaid: for every input that can be read as data the law tailwaterlaw25.MessageNames returns true and leaves its arguments as they were, where the listed variables of Go's library hold what the program's text lays (the card's tie, given). No condition is laid on the input. -/
import Derived.Test.YtdcigijklknjaaaDoorRows
import Derived.Test.YtdcigijklknjaaaDoorTie
import Derived.Test.YtdcigijklknjaaaDoorCards
import Derived.Test.YtdcigijklknjaaaDoorNamesM
import Derived.Test.YtdcigijklknjaaaDoorPureNamesM
import Derived.Test.YtdcigijklknjaaaDoorLaid
import Derived.Test.YtdcigijklknjaaaDoorOpen
import Derived.WalkKit
import Derived.ProofKit
import Derived.OpenShut
import Derived.ShutString
import Derived.ChangeOld
import Derived.Below
import Derived.SizedLaws
import Derived.SevenTiedAt
import Derived.Lay
import Derived.LaidMore
namespace Go.Proofs.YtdcigijklknjaaaDoor.messageNames
open Go.ChangeShapes Go.WideShapes Go.ChangeAt Go.RowKit
open Go.ChangeMaps (open_string shut_string)
set_option linter.unusedVariables false
set_option maxRecDepth 100000 in
theorem lifted (os : Os) (started : os.Started) (H : Type) (enc : TypeId × Value → H) :
    ReturnsInHanded {} Tryd.checked os 3 .any (fun w args => (Rows.messageNamesSpec.pre enc Tryd.prog Tryd.f3 Rows.messageNamesRow.domain false w args ∧ laidMetH Tryd.prog Rows.messageNamesRow.laid w) ∧ sizedMet enc Tryd.prog Tryd.f3 (OpenSpec.ofChange Rows.messageNamesSpec) false w args) (Rows.messageNamesSpec.post enc Tryd.prog Tryd.f3 false true false false) := by
  refine returnsInHanded_of_change_both (C := Tryd.checked) (X := fun w _ => laidMetH Tryd.prog Rows.messageNamesRow.laid w) (fun _ _ _ hh h => h.of_heap hh) own started (by kernel_rfl) Tryd.func3
    (ChangeSpec.witness_shaped (enc := enc) (C := Tryd.checked) (os := os) (X := fun w _ => laidMetH Tryd.prog Rows.messageNamesRow.laid w) false (World.laidAll Tryd.prog os laid7) #[] 8 (World.laidAll_os _ _ _)
      (start7_shaped os _) (by kernel_rfl) (by kernel_rfl) (by kernel_rfl) (start7_met os _)) ?_
  intro W base args ds gs before hval0 hW hsz0 hL hsh
  have hT : TabG W := tabG_of hL hsh
  clear hL hsh
  have hsz : (DataW.weightsEach Tryd.prog (Tryd.f3.params.toList ++ Rows.messageNamesSpec.plain.varTypes Tryd.prog) (ds ++ gs)).all (· ≤ reachBytes) = true := hsz0
  have hval : ∀ (j : Nat) t v, Tryd.f3.params[j]? = some t → args[j]? = some v → Value.okWide Tryd.prog W .any base t v := hval0
  have hW' := hW
  obtain ⟨p, q, hA0, hV, rfl, hfz, hnd⟩ := hW
  have hA : DataW.TrodAll enc Tryd.prog W 0 (fun _ => true) true Tryd.f3.params.toList args.toList ds p := hA0
  rw [Tryd.params3] at hA hval hsz
  obtain ⟨rfl, rfl, rfl⟩ := trodAll_none hA
  obtain ⟨rfl, rfl⟩ := trodVars_none hV
  clear hA0 hval0 hsz0 hsz
  refine (PureNamesM.walk   W  hT).mono fun e W' ⟨he, bel⟩ => ?_
  subst he
  exact ⟨_, rfl, _, _, _, [], _, [], hW', trodAll_mk1 (shut_bool Tryd.underlying4 _), trodAll_mk0, rfl, bel.frame _, fun h => by cases h⟩
theorem over : Rows.MessageNamesSaid :=
  OpenClaim.holds_of_wide 3 Tryd.f3 rfl rfl rfl rfl rfl rfl rfl ⟨rfl, rfl, rfl, rfl, rfl⟩ rfl rfl rfl rfl rfl (by kernel_rfl) Tryd.func3 (by kernel_rfl)
    (of_decide_eq_true (by kernel_rfl)) (by unfold Func.isWrapper; first | (rw [if_pos (by decide +kernel)]; kernel_rfl) | (rw [if_neg (by decide +kernel)]; exact ⟨rfl, rfl⟩))
    (fun os started H enc _ => lifted os started H enc)
theorem card : Rows.MessageNamesCardSaid :=
  Claim7.holds_tied_plain_at .later [] [.data, .data, .data, .data, .sentinel, .sentinel, .pinned] true (true, "d1af2db85a59e058aecdfac4222da8180140c7a48202934dd4ab9a69a0cb528d") true
    over (fun _ h => by cases h) (by kernel_rfl) (fun _ h => by cases h) messageNames_row_tie rfl ⟨rfl, rfl⟩ (by kernel_rfl) rfl
    (fun f fn hf hfn => by
      obtain rfl : f = 3 := Option.some.inj ((show Tryd.prog.funcNamed Rows.messageNamesRow.func = some 3 by kernel_rfl).symm.trans hf) |>.symm
      obtain rfl : fn = Tryd.f3 := (Option.some.inj (Tryd.func3.symm.trans hfn)).symm
      exact ⟨by kernel_rfl, fun j t ht => by
        rw [Tryd.params3] at ht
        simp at ht⟩)
    (by kernel_rfl)
#print axioms card
end Go.Proofs.YtdcigijklknjaaaDoor.messageNames
namespace Go.Proofs.YtdcigijklknjaaaDoor
/-- The card, under a short name, for the claim. -/
theorem messageNames_holds : Rows.MessageNamesCardSaid := messageNames.card
end Go.Proofs.YtdcigijklknjaaaDoor

/- The law AccumsOne, on whole numbers alone: for any value the law's function answers true. No condition besides the number's own range. -/
import Derived.Test.YtpmnneghnbbpjaaPureValue
import Derived.Test.YtpmnneghnbbpjaaMyx26
namespace Go.Proofs.Ytpmnneghnbbpjaa.PureOne
open Go.RowKit Go.Proofs.Ytpmnneghnbbpjaa.My Go.Proofs.Ytpmnneghnbbpjaa.PureJoin Go.Proofs.YtpmnneghnbbpjaaW.PrintWords Go.Proofs.YtpmnneghnbbpjaaW.PrintLast Go.Proofs.YtpmnneghnbbpjaaW.PrintMore

theorem AccumsOne : tailwaterlaw16_AccumsOne.Pure := by
  intro v _
  refine ⟨10, ?_⟩
  have al : tailwaterlaw16_alive.f 10 = some true := by decide +kernel
  have h := ok_one v
  unfold tailwaterlaw16_AccumsOne.f
  rw [of_eq]
  simp only [Option.bind_some]
  rw [value_eq 8 1 (1, v, v, v), value_eq 8 2 (1, v, v, v), value_eq 8 3 (1, v, v, v), value_eq 8 4 (1, v, v, v), check_eq, al]
  rw [val_of 1 _ (by decide) (by decide) h (show (1 : Int) ≠ 0 by decide), val_of 2 _ (by decide) (by decide) h (show (1 : Int) ≠ 0 by decide), val_of 3 _ (by decide) (by decide) h (show (1 : Int) ≠ 0 by decide), val_of 4 _ (by decide) (by decide) h (show (1 : Int) ≠ 0 by decide), chk_yes h]
  simp

end Go.Proofs.Ytpmnneghnbbpjaa.PureOne

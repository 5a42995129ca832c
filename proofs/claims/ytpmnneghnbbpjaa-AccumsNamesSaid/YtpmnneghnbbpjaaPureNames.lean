/- The law AccumsNames: the law's function, which takes nothing, answers true. -/
import Derived.Test.YtpmnneghnbbpjaaMyx24
namespace Go.Proofs.Ytpmnneghnbbpjaa.PureNames
open Go.RowKit Go.Proofs.Ytpmnneghnbbpjaa.My

theorem AccumsNames : tailwaterlaw16_AccumsNames.Pure := ⟨20, by decide +kernel⟩

end Go.Proofs.Ytpmnneghnbbpjaa.PureNames

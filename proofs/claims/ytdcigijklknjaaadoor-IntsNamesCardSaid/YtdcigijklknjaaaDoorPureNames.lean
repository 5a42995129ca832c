/- The law IntsNames has no argument: its answer is reckoned by the kernel. -/
import Derived.Test.YtdcigijklknjaaaDoorMyx15
namespace Go.Proofs.YtdcigijklknjaaaDoor.PureNames
open Go.RowKit Go.Proofs.YtdcigijklknjaaaDoor.My
set_option maxRecDepth 100000
theorem holds : tailwaterlaw01_IntsNames.Pure := ⟨60, by decide +kernel⟩
end Go.Proofs.YtdcigijklknjaaaDoor.PureNames

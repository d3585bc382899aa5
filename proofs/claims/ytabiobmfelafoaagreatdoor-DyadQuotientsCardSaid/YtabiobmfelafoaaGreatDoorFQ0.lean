import Derived.Test.YtabiobmfelafoaaGreatDoorRows
import Derived.JoinedCond
import Derived.KernelRfl
namespace Go.Proofs.YtabiobmfelafoaaGreatDoor.Quotients
set_option maxRecDepth 100000
theorem closed:joinedFacts Tryz.pinned.checked.prog 3 Tryz.f3 (OpenSpec.ofChange Rows.dyadQuotientsSpec).bare Rows.dyadQuotientsRow=true:=by kernel_rfl
end Go.Proofs.YtabiobmfelafoaaGreatDoor.Quotients

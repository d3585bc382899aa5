import Derived.Test.YtabiobmfelafoaaGreatDoorRows
import Derived.JoinedCond
import Derived.KernelRfl
namespace Go.Proofs.YtabiobmfelafoaaGreatDoor.Checks
set_option maxRecDepth 100000
theorem closed:joinedFacts Tryz.pinned.checked.prog 8 Tryz.f8 (OpenSpec.ofChange Rows.dyadChecksSpec).bare Rows.dyadChecksRow=true:=by kernel_rfl
end Go.Proofs.YtabiobmfelafoaaGreatDoor.Checks

import Derived.Test.YtabiobmfelafoaaGreatDoorRows
import Derived.JoinedCond
import Derived.KernelRfl
namespace Go.Proofs.YtabiobmfelafoaaGreatDoor.Near
set_option maxRecDepth 100000
theorem closed:joinedFacts Tryz.pinned.checked.prog 5 Tryz.f5 (OpenSpec.ofChange Rows.dyadNearSpec).bare Rows.dyadNearRow=true:=by kernel_rfl
end Go.Proofs.YtabiobmfelafoaaGreatDoor.Near

import Derived.Test.YtabiobmfelafoaaGreatDoorRows
import Derived.JoinedCond
import Derived.KernelRfl
namespace Go.Proofs.YtabiobmfelafoaaGreatDoor.Ord
set_option maxRecDepth 100000
theorem closed:joinedFacts Tryz.pinned.checked.prog 10 Tryz.f10 (OpenSpec.ofChange Rows.dyadOrdersSpec).bare Rows.dyadOrdersRow=true:=by kernel_rfl
end Go.Proofs.YtabiobmfelafoaaGreatDoor.Ord

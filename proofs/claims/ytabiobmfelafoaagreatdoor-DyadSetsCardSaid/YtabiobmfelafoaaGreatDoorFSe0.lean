import Derived.Test.YtabiobmfelafoaaGreatDoorRows
import Derived.JoinedCond
import Derived.KernelRfl
namespace Go.Proofs.YtabiobmfelafoaaGreatDoor.Set
set_option maxRecDepth 100000
theorem closed:joinedFacts Tryz.pinned.checked.prog 9 Tryz.f9 (OpenSpec.ofChange Rows.dyadSetsSpec).bare Rows.dyadSetsRow=true:=by kernel_rfl
end Go.Proofs.YtabiobmfelafoaaGreatDoor.Set

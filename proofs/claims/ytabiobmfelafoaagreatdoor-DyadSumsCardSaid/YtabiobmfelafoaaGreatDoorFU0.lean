import Derived.Test.YtabiobmfelafoaaGreatDoorRows
import Derived.JoinedCond
import Derived.KernelRfl
namespace Go.Proofs.YtabiobmfelafoaaGreatDoor.Sums
set_option maxRecDepth 100000
theorem closed:joinedFacts Tryz.pinned.checked.prog 6 Tryz.f6 (OpenSpec.ofChange Rows.dyadSumsSpec).bare Rows.dyadSumsRow=true:=by kernel_rfl
end Go.Proofs.YtabiobmfelafoaaGreatDoor.Sums

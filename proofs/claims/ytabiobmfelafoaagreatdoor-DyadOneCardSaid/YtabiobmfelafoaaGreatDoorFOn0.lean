import Derived.Test.YtabiobmfelafoaaGreatDoorRows
import Derived.JoinedCond
import Derived.KernelRfl
namespace Go.Proofs.YtabiobmfelafoaaGreatDoor.One
set_option maxRecDepth 100000
theorem closed:joinedFacts Tryz.pinned.checked.prog 11 Tryz.f11 (OpenSpec.ofChange Rows.dyadOneSpec).bare Rows.dyadOneRow=true:=by kernel_rfl
end Go.Proofs.YtabiobmfelafoaaGreatDoor.One

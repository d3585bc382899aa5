import Derived.Test.YtabiobmfelafoaaGreatDoorRows
import Derived.JoinedCond
import Derived.KernelRfl
namespace Go.Proofs.YtabiobmfelafoaaGreatDoor.Enc
set_option maxRecDepth 100000
theorem closed:joinedFacts Tryz.pinned.checked.prog 13 Tryz.f13 (OpenSpec.ofChange Rows.dyadEnclosesSpec).bare Rows.dyadEnclosesRow=true:=by kernel_rfl
end Go.Proofs.YtabiobmfelafoaaGreatDoor.Enc

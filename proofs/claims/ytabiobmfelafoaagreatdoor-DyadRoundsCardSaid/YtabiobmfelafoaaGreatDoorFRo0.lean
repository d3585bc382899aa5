import Derived.Test.YtabiobmfelafoaaGreatDoorRows
import Derived.JoinedCond
import Derived.KernelRfl
namespace Go.Proofs.YtabiobmfelafoaaGreatDoor.Rounds
set_option maxRecDepth 100000
theorem closed:joinedFacts Tryz.pinned.checked.prog 7 Tryz.f7 (OpenSpec.ofChange Rows.dyadRoundsSpec).bare Rows.dyadRoundsRow=true:=by kernel_rfl
end Go.Proofs.YtabiobmfelafoaaGreatDoor.Rounds

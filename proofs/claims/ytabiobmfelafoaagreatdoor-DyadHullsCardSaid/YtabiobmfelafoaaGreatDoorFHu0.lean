import Derived.Test.YtabiobmfelafoaaGreatDoorRows
import Derived.JoinedCond
import Derived.KernelRfl
namespace Go.Proofs.YtabiobmfelafoaaGreatDoor.Hul
set_option maxRecDepth 100000
theorem closed:joinedFacts Tryz.pinned.checked.prog 12 Tryz.f12 (OpenSpec.ofChange Rows.dyadHullsSpec).bare Rows.dyadHullsRow=true:=by kernel_rfl
end Go.Proofs.YtabiobmfelafoaaGreatDoor.Hul

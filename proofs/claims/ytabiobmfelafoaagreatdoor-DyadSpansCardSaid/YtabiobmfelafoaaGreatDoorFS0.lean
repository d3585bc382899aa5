import Derived.Test.YtabiobmfelafoaaGreatDoorRows
import Derived.JoinedCond
import Derived.KernelRfl
namespace Go.Proofs.YtabiobmfelafoaaGreatDoor.Spans
set_option maxRecDepth 100000
theorem closed:joinedFacts Tryz.pinned.checked.prog 4 Tryz.f4 (OpenSpec.ofChange Rows.dyadSpansSpec).bare Rows.dyadSpansRow=true:=by kernel_rfl
end Go.Proofs.YtabiobmfelafoaaGreatDoor.Spans

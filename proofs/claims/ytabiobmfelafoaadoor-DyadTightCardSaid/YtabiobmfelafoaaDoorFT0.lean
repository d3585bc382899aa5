import Derived.Test.YtabiobmfelafoaaDoorRows
import Derived.JoinedCond
import Derived.KernelRfl
namespace Go.Proofs.YtabiobmfelafoaaDoor.Tight
set_option maxRecDepth 100000
theorem closed:joinedFacts Tryd.pinned.checked.prog 5 Tryd.f5 (OpenSpec.ofChange Rows.dyadTightSpec).bare Rows.dyadTightRow=true:=by kernel_rfl
end Go.Proofs.YtabiobmfelafoaaDoor.Tight

import Derived.Test.YtabiobmfelafoaaDoorRows
import Derived.JoinedCond
import Derived.KernelRfl
namespace Go.Proofs.YtabiobmfelafoaaDoor.Algebra
set_option maxRecDepth 100000
theorem closed:joinedFacts Tryd.pinned.checked.prog 3 Tryd.f3 (OpenSpec.ofChange Rows.dyadAlgebraSpec).bare Rows.dyadAlgebraRow=true:=by kernel_rfl
end Go.Proofs.YtabiobmfelafoaaDoor.Algebra

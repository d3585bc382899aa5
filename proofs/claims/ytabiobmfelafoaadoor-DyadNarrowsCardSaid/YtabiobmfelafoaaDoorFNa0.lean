import Derived.Test.YtabiobmfelafoaaDoorRows
import Derived.JoinedCond
import Derived.KernelRfl
namespace Go.Proofs.YtabiobmfelafoaaDoor.Narrows
set_option maxRecDepth 100000
theorem closed:joinedFacts Tryd.pinned.checked.prog 4 Tryd.f4 (OpenSpec.ofChange Rows.dyadNarrowsSpec).bare Rows.dyadNarrowsRow=true:=by kernel_rfl
end Go.Proofs.YtabiobmfelafoaaDoor.Narrows

import Derived.Test.YtabiobmfelafoaaDoorRows
import Derived.JoinedCond
import Derived.KernelRfl
namespace Go.Proofs.YtabiobmfelafoaaDoor.Algebra
set_option maxRecDepth 100000
theorem fnm:Tryd.pinned.checked.prog.funcNamed Rows.dyadAlgebraRow.func=some 3:=by kernel_rfl
theorem inst:Tryd.f3.isInstance Tryd.pinned.checked.prog Rows.dyadAlgebraRow.origin Rows.dyadAlgebraRow.targs:=of_decide_eq_true (by kernel_rfl)
theorem wrap:Tryd.f3.isWrapper Tryd.pinned.checked.prog Rows.dyadAlgebraRow.wrapper Rows.dyadAlgebraRow.mainSum:=by unfold Func.isWrapper;first | (rw [if_pos (by decide +kernel)];kernel_rfl) | (rw [if_neg (by decide +kernel)];exact ⟨rfl,rfl⟩)
end Go.Proofs.YtabiobmfelafoaaDoor.Algebra

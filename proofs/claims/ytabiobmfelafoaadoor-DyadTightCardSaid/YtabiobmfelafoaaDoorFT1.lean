import Derived.Test.YtabiobmfelafoaaDoorRows
import Derived.JoinedCond
import Derived.KernelRfl
namespace Go.Proofs.YtabiobmfelafoaaDoor.Tight
set_option maxRecDepth 100000
theorem fnm:Tryd.pinned.checked.prog.funcNamed Rows.dyadTightRow.func=some 5:=by kernel_rfl
theorem inst:Tryd.f5.isInstance Tryd.pinned.checked.prog Rows.dyadTightRow.origin Rows.dyadTightRow.targs:=of_decide_eq_true (by kernel_rfl)
theorem wrap:Tryd.f5.isWrapper Tryd.pinned.checked.prog Rows.dyadTightRow.wrapper Rows.dyadTightRow.mainSum:=by unfold Func.isWrapper;first | (rw [if_pos (by decide +kernel)];kernel_rfl) | (rw [if_neg (by decide +kernel)];exact ⟨rfl,rfl⟩)
end Go.Proofs.YtabiobmfelafoaaDoor.Tight

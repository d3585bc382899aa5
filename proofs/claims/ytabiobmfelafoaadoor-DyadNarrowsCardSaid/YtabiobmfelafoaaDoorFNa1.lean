import Derived.Test.YtabiobmfelafoaaDoorRows
import Derived.JoinedCond
import Derived.KernelRfl
namespace Go.Proofs.YtabiobmfelafoaaDoor.Narrows
set_option maxRecDepth 100000
theorem fnm:Tryd.pinned.checked.prog.funcNamed Rows.dyadNarrowsRow.func=some 4:=by kernel_rfl
theorem inst:Tryd.f4.isInstance Tryd.pinned.checked.prog Rows.dyadNarrowsRow.origin Rows.dyadNarrowsRow.targs:=of_decide_eq_true (by kernel_rfl)
theorem wrap:Tryd.f4.isWrapper Tryd.pinned.checked.prog Rows.dyadNarrowsRow.wrapper Rows.dyadNarrowsRow.mainSum:=by unfold Func.isWrapper;first | (rw [if_pos (by decide +kernel)];kernel_rfl) | (rw [if_neg (by decide +kernel)];exact ⟨rfl,rfl⟩)
end Go.Proofs.YtabiobmfelafoaaDoor.Narrows

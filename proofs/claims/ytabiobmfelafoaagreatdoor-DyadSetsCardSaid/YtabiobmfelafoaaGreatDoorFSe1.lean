import Derived.Test.YtabiobmfelafoaaGreatDoorRows
import Derived.JoinedCond
import Derived.KernelRfl
namespace Go.Proofs.YtabiobmfelafoaaGreatDoor.Set
set_option maxRecDepth 100000
theorem fnm:Tryz.pinned.checked.prog.funcNamed Rows.dyadSetsRow.func=some 9:=by kernel_rfl
theorem inst:Tryz.f9.isInstance Tryz.pinned.checked.prog Rows.dyadSetsRow.origin Rows.dyadSetsRow.targs:=of_decide_eq_true (by kernel_rfl)
theorem wrap:Tryz.f9.isWrapper Tryz.pinned.checked.prog Rows.dyadSetsRow.wrapper Rows.dyadSetsRow.mainSum:=by unfold Func.isWrapper;first | (rw [if_pos (by decide +kernel)];kernel_rfl) | (rw [if_neg (by decide +kernel)];exact ⟨rfl,rfl⟩)
end Go.Proofs.YtabiobmfelafoaaGreatDoor.Set

import Derived.Test.YtabiobmfelafoaaGreatDoorRows
import Derived.JoinedCond
import Derived.KernelRfl
namespace Go.Proofs.YtabiobmfelafoaaGreatDoor.Spans
set_option maxRecDepth 100000
theorem fnm:Tryz.pinned.checked.prog.funcNamed Rows.dyadSpansRow.func=some 4:=by kernel_rfl
theorem inst:Tryz.f4.isInstance Tryz.pinned.checked.prog Rows.dyadSpansRow.origin Rows.dyadSpansRow.targs:=of_decide_eq_true (by kernel_rfl)
theorem wrap:Tryz.f4.isWrapper Tryz.pinned.checked.prog Rows.dyadSpansRow.wrapper Rows.dyadSpansRow.mainSum:=by unfold Func.isWrapper;first | (rw [if_pos (by decide +kernel)];kernel_rfl) | (rw [if_neg (by decide +kernel)];exact ⟨rfl,rfl⟩)
end Go.Proofs.YtabiobmfelafoaaGreatDoor.Spans

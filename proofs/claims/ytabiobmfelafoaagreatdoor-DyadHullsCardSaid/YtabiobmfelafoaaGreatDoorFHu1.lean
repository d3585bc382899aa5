import Derived.Test.YtabiobmfelafoaaGreatDoorRows
import Derived.JoinedCond
import Derived.KernelRfl
namespace Go.Proofs.YtabiobmfelafoaaGreatDoor.Hul
set_option maxRecDepth 100000
theorem fnm:Tryz.pinned.checked.prog.funcNamed Rows.dyadHullsRow.func=some 12:=by kernel_rfl
theorem inst:Tryz.f12.isInstance Tryz.pinned.checked.prog Rows.dyadHullsRow.origin Rows.dyadHullsRow.targs:=of_decide_eq_true (by kernel_rfl)
theorem wrap:Tryz.f12.isWrapper Tryz.pinned.checked.prog Rows.dyadHullsRow.wrapper Rows.dyadHullsRow.mainSum:=by unfold Func.isWrapper;first | (rw [if_pos (by decide +kernel)];kernel_rfl) | (rw [if_neg (by decide +kernel)];exact ⟨rfl,rfl⟩)
end Go.Proofs.YtabiobmfelafoaaGreatDoor.Hul

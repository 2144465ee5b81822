import Derived.Test.YtaglpcmhopjebaaGreatDoorRows
import Derived.JoinedOf
import Derived.KernelRfl
import Derived.Test.YtaglpcmhopjebaaGreatDoorW0
set_option linter.all false
set_option maxRecDepth 100000
set_option maxHeartbeats 20000000
namespace Go.Proofs.YtaglpcmhopjebaaGreatDoor
open Go
def Ua:joinedFacts Tryz.pinned.checked.prog 8 Tryz.f8 Rows.likeMovedSpec Rows.likeMovedRow=true:=by unfold joinedFacts;(with_reducible repeat' refine(WI _ _).mpr ⟨?_,?_⟩);all_goals as_aux_lemma=>kernel_rfl
def Tf:Tryz.pinned.checked.prog.funcNamed Rows.likeMovedRow.func=some 8:=by kernel_rfl
def Ub:Tryz.f8.isWrapper Tryz.pinned.checked.prog Rows.likeMovedRow.wrapper Rows.likeMovedRow.mainSum:=by unfold Func.isWrapper;first|(rw[Wu (by decide+kernel)];kernel_rfl)|(rw[Wt (by decide+kernel)];exact⟨rfl,rfl⟩)
def Uc:Tryz.f8.isInstance Tryz.pinned.checked.prog Rows.likeMovedRow.origin Rows.likeMovedRow.targs:=W6 (by kernel_rfl)
end Go.Proofs.YtaglpcmhopjebaaGreatDoor

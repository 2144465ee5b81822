import Derived.Test.YtaglpcmhopjebaaGreatDoorRows
import Derived.JoinedOf
import Derived.KernelRfl
import Derived.Test.YtaglpcmhopjebaaGreatDoorU0
set_option linter.all false
set_option maxRecDepth 100000
set_option maxHeartbeats 20000000
namespace Go.Proofs.YtaglpcmhopjebaaGreatDoor
open Go
def Rx:joinedFacts Tryz.pinned.checked.prog 6 Tryz.f6 Rows.likeScriptsSpec Rows.likeScriptsRow=true:=by unfold joinedFacts;(with_reducible repeat' refine(Un _ _).mpr ⟨?_,?_⟩);all_goals as_aux_lemma=>kernel_rfl
def QJ:Tryz.pinned.checked.prog.funcNamed Rows.likeScriptsRow.func=some 6:=by kernel_rfl
def Ry:Tryz.f6.isWrapper Tryz.pinned.checked.prog Rows.likeScriptsRow.wrapper Rows.likeScriptsRow.mainSum:=by unfold Func.isWrapper;first|(rw[Ud (by decide+kernel)];kernel_rfl)|(rw[Uc (by decide+kernel)];exact⟨rfl,rfl⟩)
def Rz:Tryz.f6.isInstance Tryz.pinned.checked.prog Rows.likeScriptsRow.origin Rows.likeScriptsRow.targs:=UF (by kernel_rfl)
end Go.Proofs.YtaglpcmhopjebaaGreatDoor

import Derived.Test.YtaglpcmhopjebaaGreatDoorRows
import Derived.JoinedOf
import Derived.KernelRfl
import Derived.Test.YtaglpcmhopjebaaGreatDoorU0
set_option linter.all false
set_option maxRecDepth 100000
set_option maxHeartbeats 20000000
namespace Go.Proofs.YtaglpcmhopjebaaGreatDoor
open Go
def Qu:joinedFacts Tryz.pinned.checked.prog 10 Tryz.f10 Rows.likeNearSpec Rows.likeNearRow=true:=by unfold joinedFacts;(with_reducible repeat' refine(Un _ _).mpr ⟨?_,?_⟩);all_goals as_aux_lemma=>kernel_rfl
def OT:Tryz.pinned.checked.prog.funcNamed Rows.likeNearRow.func=some 10:=by kernel_rfl
def Qv:Tryz.f10.isWrapper Tryz.pinned.checked.prog Rows.likeNearRow.wrapper Rows.likeNearRow.mainSum:=by unfold Func.isWrapper;first|(rw[Ud (by decide+kernel)];kernel_rfl)|(rw[Uc (by decide+kernel)];exact⟨rfl,rfl⟩)
def Qw:Tryz.f10.isInstance Tryz.pinned.checked.prog Rows.likeNearRow.origin Rows.likeNearRow.targs:=UF (by kernel_rfl)
end Go.Proofs.YtaglpcmhopjebaaGreatDoor

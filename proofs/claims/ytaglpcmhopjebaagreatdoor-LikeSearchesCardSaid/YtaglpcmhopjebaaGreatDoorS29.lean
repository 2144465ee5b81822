import Derived.Test.YtaglpcmhopjebaaGreatDoorRows
import Derived.JoinedOf
import Derived.KernelRfl
import Derived.Test.YtaglpcmhopjebaaGreatDoorS0
set_option linter.all false
set_option maxRecDepth 100000
set_option maxHeartbeats 20000000
namespace Go.Proofs.YtaglpcmhopjebaaGreatDoor
open Go
def PY:joinedFacts Tryz.pinned.checked.prog 11 Tryz.f11 Rows.likeSearchesSpec Rows.likeSearchesRow=true:=by unfold joinedFacts;(with_reducible repeat' refine(TH _ _).mpr ⟨?_,?_⟩);all_goals as_aux_lemma=>kernel_rfl
def Ot:Tryz.pinned.checked.prog.funcNamed Rows.likeSearchesRow.func=some 11:=by kernel_rfl
def P0:Tryz.f11.isWrapper Tryz.pinned.checked.prog Rows.likeSearchesRow.wrapper Rows.likeSearchesRow.mainSum:=by unfold Func.isWrapper;first|(rw[Tv (by decide+kernel)];kernel_rfl)|(rw[Tu (by decide+kernel)];exact⟨rfl,rfl⟩)
def P1:Tryz.f11.isInstance Tryz.pinned.checked.prog Rows.likeSearchesRow.origin Rows.likeSearchesRow.targs:=Ua (by kernel_rfl)
end Go.Proofs.YtaglpcmhopjebaaGreatDoor

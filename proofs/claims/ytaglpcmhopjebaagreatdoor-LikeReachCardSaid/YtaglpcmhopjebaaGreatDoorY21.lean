import Derived.Test.YtaglpcmhopjebaaGreatDoorRows
import Derived.JoinedOf
import Derived.KernelRfl
import Derived.Test.YtaglpcmhopjebaaGreatDoorY0
set_option linter.all false
set_option maxRecDepth 100000
set_option maxHeartbeats 20000000
namespace Go.Proofs.YtaglpcmhopjebaaGreatDoor
open Go
def Si:joinedFacts Tryz.pinned.checked.prog 9 Tryz.f9 Rows.likeReachSpec Rows.likeReachRow=true:=by unfold joinedFacts;(with_reducible repeat' refine(UT _ _).mpr ⟨?_,?_⟩);all_goals as_aux_lemma=>kernel_rfl
def Ra:Tryz.pinned.checked.prog.funcNamed Rows.likeReachRow.func=some 9:=by kernel_rfl
def Sj:Tryz.f9.isWrapper Tryz.pinned.checked.prog Rows.likeReachRow.wrapper Rows.likeReachRow.mainSum:=by unfold Func.isWrapper;first|(rw[UH (by decide+kernel)];kernel_rfl)|(rw[UG (by decide+kernel)];exact⟨rfl,rfl⟩)
def Sk:Tryz.f9.isInstance Tryz.pinned.checked.prog Rows.likeReachRow.origin Rows.likeReachRow.targs:=Vl (by kernel_rfl)
end Go.Proofs.YtaglpcmhopjebaaGreatDoor

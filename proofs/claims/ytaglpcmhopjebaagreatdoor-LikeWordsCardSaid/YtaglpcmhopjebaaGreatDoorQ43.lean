import Derived.Test.YtaglpcmhopjebaaGreatDoorRows
import Derived.JoinedOf
import Derived.KernelRfl
import Derived.Test.YtaglpcmhopjebaaGreatDoorQ0
set_option linter.all false
set_option maxRecDepth 100000
set_option maxHeartbeats 20000000
namespace Go.Proofs.YtaglpcmhopjebaaGreatDoor
open Go
def PL:joinedFacts Tryz.pinned.checked.prog 3 Tryz.f3 Rows.likeWordsSpec Rows.likeWordsRow=true:=by
 unfold joinedFacts
 with_reducible repeat' refine(Sf _ _).mpr ⟨?_,?_⟩
 all_goals as_aux_lemma=>kernel_rfl
def OS:Tryz.pinned.checked.prog.funcNamed Rows.likeWordsRow.func=some 3:=by kernel_rfl
def PM:Tryz.f3.isWrapper Tryz.pinned.checked.prog Rows.likeWordsRow.wrapper Rows.likeWordsRow.mainSum:=by unfold Func.isWrapper;first|(rw[RZ (by decide+kernel)];kernel_rfl)|(rw[RY (by decide+kernel)];exact⟨rfl,rfl⟩)
def PO:Tryz.f3.isInstance Tryz.pinned.checked.prog Rows.likeWordsRow.origin Rows.likeWordsRow.targs:=SO (by kernel_rfl)
end Go.Proofs.YtaglpcmhopjebaaGreatDoor

import Derived.Test.YtaglpcmhopjebaaGreatDoorRows
import Derived.JoinedOf
import Derived.KernelRfl
import Derived.Test.YtaglpcmhopjebaaGreatDoorW0
set_option linter.all false
set_option maxRecDepth 100000
set_option maxHeartbeats 20000000
namespace Go.Proofs.YtaglpcmhopjebaaGreatDoor
open Go
def SP:joinedFacts Tryz.pinned.checked.prog 12 Tryz.f12 Rows.likeBarsSpec Rows.likeBarsRow=true:=by unfold joinedFacts;(with_reducible repeat' refine(WI _ _).mpr ⟨?_,?_⟩);all_goals as_aux_lemma=>kernel_rfl
def Q7:Tryz.pinned.checked.prog.funcNamed Rows.likeBarsRow.func=some 12:=by kernel_rfl
def SQ:Tryz.f12.isWrapper Tryz.pinned.checked.prog Rows.likeBarsRow.wrapper Rows.likeBarsRow.mainSum:=by unfold Func.isWrapper;first|(rw[Wu (by decide+kernel)];kernel_rfl)|(rw[Wt (by decide+kernel)];exact⟨rfl,rfl⟩)
def SS:Tryz.f12.isInstance Tryz.pinned.checked.prog Rows.likeBarsRow.origin Rows.likeBarsRow.targs:=W6 (by kernel_rfl)
end Go.Proofs.YtaglpcmhopjebaaGreatDoor

import Derived.Test.YtaglpcmhopjebaaGreatDoorRows
import Derived.JoinedOf
import Derived.KernelRfl
import Derived.Test.YtaglpcmhopjebaaGreatDoorR0
set_option linter.all false
set_option maxRecDepth 100000
set_option maxHeartbeats 20000000
namespace Go.Proofs.YtaglpcmhopjebaaGreatDoor
open Go
def P8:joinedFacts Tryz.pinned.checked.prog 4 Tryz.f4 Rows.likeLevelsSpec Rows.likeLevelsRow=true:=by unfold joinedFacts;(with_reducible repeat' refine(SG _ _).mpr ⟨?_,?_⟩);all_goals as_aux_lemma=>kernel_rfl
def Pc:Tryz.pinned.checked.prog.funcNamed Rows.likeLevelsRow.func=some 4:=by kernel_rfl
def P9:Tryz.f4.isWrapper Tryz.pinned.checked.prog Rows.likeLevelsRow.wrapper Rows.likeLevelsRow.mainSum:=by unfold Func.isWrapper;first|(rw[Sn (by decide+kernel)];kernel_rfl)|(rw[Sm (by decide+kernel)];exact⟨rfl,rfl⟩)
def Qa:Tryz.f4.isInstance Tryz.pinned.checked.prog Rows.likeLevelsRow.origin Rows.likeLevelsRow.targs:=Tf (by kernel_rfl)
end Go.Proofs.YtaglpcmhopjebaaGreatDoor

import Derived.Test.YtaglpcmhopjebaaGreatDoorRows
import Derived.JoinedOf
import Derived.KernelRfl
import Derived.Test.YtaglpcmhopjebaaGreatDoorU0
set_option linter.all false
set_option maxRecDepth 100000
set_option maxHeartbeats 20000000
namespace Go.Proofs.YtaglpcmhopjebaaGreatDoor
open Go
def RA:joinedFacts Tryz.pinned.checked.prog 7 Tryz.f7 Rows.likeTurnsSpec Rows.likeTurnsRow=true:=by unfold joinedFacts;(with_reducible repeat' refine(Un _ _).mpr ⟨?_,?_⟩);all_goals as_aux_lemma=>kernel_rfl
def QK:Tryz.pinned.checked.prog.funcNamed Rows.likeTurnsRow.func=some 7:=by kernel_rfl
def RB:Tryz.f7.isWrapper Tryz.pinned.checked.prog Rows.likeTurnsRow.wrapper Rows.likeTurnsRow.mainSum:=by unfold Func.isWrapper;first|(rw[Ud (by decide+kernel)];kernel_rfl)|(rw[Uc (by decide+kernel)];exact⟨rfl,rfl⟩)
def RD:Tryz.f7.isInstance Tryz.pinned.checked.prog Rows.likeTurnsRow.origin Rows.likeTurnsRow.targs:=UF (by kernel_rfl)
end Go.Proofs.YtaglpcmhopjebaaGreatDoor

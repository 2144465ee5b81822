import Derived.Test.YtaglpcmhopjebaaGreatDoorRows
import Derived.JoinedOf
import Derived.KernelRfl
import Derived.Test.YtaglpcmhopjebaaGreatDoorT0
set_option linter.all false
set_option maxRecDepth 100000
set_option maxHeartbeats 20000000
namespace Go.Proofs.YtaglpcmhopjebaaGreatDoor
open Go
def Qq:joinedFacts Tryz.pinned.checked.prog 5 Tryz.f5 Rows.likeSameSpec Rows.likeSameRow=true:=by unfold joinedFacts;(with_reducible repeat' refine(Td _ _).mpr ⟨?_,?_⟩);all_goals as_aux_lemma=>kernel_rfl
def Pz:Tryz.pinned.checked.prog.funcNamed Rows.likeSameRow.func=some 5:=by kernel_rfl
def Qr:Tryz.f5.isWrapper Tryz.pinned.checked.prog Rows.likeSameRow.wrapper Rows.likeSameRow.mainSum:=by unfold Func.isWrapper;first|(rw[SS (by decide+kernel)];kernel_rfl)|(rw[SQ (by decide+kernel)];exact⟨rfl,rfl⟩)
def Qt:Tryz.f5.isInstance Tryz.pinned.checked.prog Rows.likeSameRow.origin Rows.likeSameRow.targs:=TG (by kernel_rfl)
end Go.Proofs.YtaglpcmhopjebaaGreatDoor

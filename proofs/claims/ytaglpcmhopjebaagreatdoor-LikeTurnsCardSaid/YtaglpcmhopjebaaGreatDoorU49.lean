/- touchmark, LikeTurns (touchmarklaw02/own.go): for all tables and choices the call returns true on every schedule, without a data race; the row and its tied card, as given; no further condition. -/
import Derived.Conc.Holds
import Derived.Test.YtaglpcmhopjebaaGreatDoorU43
import Derived.Test.YtaglpcmhopjebaaGreatDoorU46
import Derived.Test.YtaglpcmhopjebaaGreatDoorU48
set_option linter.all false
set_option maxRecDepth 100000
set_option maxHeartbeats 20000000
namespace Go.Proofs.YtaglpcmhopjebaaGreatDoor
open Go
def vV:Rows.LikeTurnsSaid:=OpenClaim.holds_of_wide_leaving 7 Tryz.f7 rfl rfl rfl rfl rfl rfl rfl ⟨rfl,rfl,rfl,rfl,rfl⟩ rfl rfl rfl rfl rfl QK Tryz.func7 RA RD RB (λos a H enc _=>uC os a H enc)
theorem likeTurns_card:Rows.LikeTurnsCardSaid:=
 uB [.data,.funcsDeep,.pinned] (true,"e2464fcece2eef13e397ee2a7d1ae907f3e87b9b7325f55b82139ea06d39884f") vV (by kernel_rfl) likeTurns_row_tie rfl ⟨rfl,rfl⟩ (by kernel_rfl) rfl
  (λf fn d b=>by
   obtain rfl:f=7:=UA (d.symm.trans QK);obtain rfl:fn=Tryz.f7:=UA (b.symm.trans Tryz.func7);refine⟨by kernel_rfl,λj t c=>?_⟩;rw[Tryz.params7]at c;have e:t∈[26,44]:=by simpa using UZ c
   have a:([26,44].all λu=> !Tryz.pinned.checked.prog.wantsStandIn u)=true:=by kernel_rfl
   simpa using UJ.1 a t e)
  (by kernel_rfl)
end Go.Proofs.YtaglpcmhopjebaaGreatDoor

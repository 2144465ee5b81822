/- touchmark, LikeNear (touchmarklaw02/own.go): for all tables, choices and edits the call returns true on every schedule, without a data race; the row and its tied card, as given; no further condition. -/
import Derived.Conc.Holds
import Derived.Test.YtaglpcmhopjebaaGreatDoorU44
import Derived.Test.YtaglpcmhopjebaaGreatDoorU46
import Derived.Test.YtaglpcmhopjebaaGreatDoorU50
set_option linter.all false
set_option maxRecDepth 100000
set_option maxHeartbeats 20000000
namespace Go.Proofs.YtaglpcmhopjebaaGreatDoor
open Go
def yN:Rows.LikeNearSaid:=OpenClaim.holds_of_wide_leaving 10 Tryz.f10 rfl rfl rfl rfl rfl rfl rfl ⟨rfl,rfl,rfl,rfl,rfl⟩ rfl rfl rfl rfl rfl OT Tryz.func10 Qu Qw Qv (λos a H enc _=>vW os a H enc)
theorem likeNear_card:Rows.LikeNearCardSaid:=
 uB [.data,.funcsDeep,.pinned] (true,"e2464fcece2eef13e397ee2a7d1ae907f3e87b9b7325f55b82139ea06d39884f") yN (by kernel_rfl) likeNear_row_tie rfl ⟨rfl,rfl⟩ (by kernel_rfl) rfl
  (λf fn d b=>by
   obtain rfl:f=10:=UA (d.symm.trans OT);obtain rfl:fn=Tryz.f10:=UA (b.symm.trans Tryz.func10);refine⟨by kernel_rfl,λj t c=>?_⟩;rw[Tryz.params10]at c;have e:t∈[26,44,5]:=by simpa using UZ c
   have a:([26,44,5].all λu=> !Tryz.pinned.checked.prog.wantsStandIn u)=true:=by kernel_rfl
   simpa using UJ.1 a t e)
  (by kernel_rfl)
end Go.Proofs.YtaglpcmhopjebaaGreatDoor

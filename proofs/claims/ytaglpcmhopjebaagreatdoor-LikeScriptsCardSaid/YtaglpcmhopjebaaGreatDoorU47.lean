/- touchmark, LikeScripts (touchmarklaw02/own.go): for all tables, letters, tongues and choices the call returns true on every schedule, without a data race; the row and its tied card, as given; no further condition. -/
import Derived.Conc.Holds
import Derived.Test.YtaglpcmhopjebaaGreatDoorU42
import Derived.Test.YtaglpcmhopjebaaGreatDoorU45
import Derived.Test.YtaglpcmhopjebaaGreatDoorU46
set_option linter.all false
set_option maxRecDepth 100000
set_option maxHeartbeats 20000000
namespace Go.Proofs.YtaglpcmhopjebaaGreatDoor
open Go
def tp:Rows.LikeScriptsSaid:=OpenClaim.holds_of_wide_leaving 6 Tryz.f6 rfl rfl rfl rfl rfl rfl rfl ⟨rfl,rfl,rfl,rfl,rfl⟩ rfl rfl rfl rfl rfl QJ Tryz.func6 Rx Rz Ry (λos a H enc _=>rB os a H enc)
theorem likeScripts_card:Rows.LikeScriptsCardSaid:=
 uB [.data,.funcsDeep,.pinned] (true,"e2464fcece2eef13e397ee2a7d1ae907f3e87b9b7325f55b82139ea06d39884f") tp (by kernel_rfl) likeScripts_row_tie rfl ⟨rfl,rfl⟩ (by kernel_rfl) rfl
  (λf fn d b=>by
   obtain rfl:f=6:=UA (d.symm.trans QJ);obtain rfl:fn=Tryz.f6:=UA (b.symm.trans Tryz.func6);refine⟨by kernel_rfl,λj t c=>?_⟩;rw[Tryz.params6]at c;have e:t∈[26,5,44]:=by simpa using UZ c
   have a:([26,5,44].all λu=> !Tryz.pinned.checked.prog.wantsStandIn u)=true:=by kernel_rfl
   simpa using UJ.1 a t e)
  (by kernel_rfl)
end Go.Proofs.YtaglpcmhopjebaaGreatDoor

/- The law LikeReach: its row and its tied card. -/
import Derived.Conc.Holds
import Derived.Test.YtaglpcmhopjebaaGreatDoorY20
import Derived.Test.YtaglpcmhopjebaaGreatDoorY21
set_option linter.all false
set_option maxRecDepth 100000
set_option maxHeartbeats 20000000
namespace Go.Proofs.YtaglpcmhopjebaaGreatDoor
open Go
def Mu{p s c}(kinds a) (g:c.holds p s) (i:c.wfByText s=true) (b:c.laidByTextAt .later p kinds true) (d:c.start=.entering) (e:c.noBlocks=false/\c.again=false) (k:p.checked.prog.mainIs=some (a.1,a.2.toList)) (l:(!a.1&&a.2.isEmpty&& !false)=false) (m:∀f fn,p.checked.prog.funcNamed c.func=some f->p.checked.prog.funcs[f]? =some fn->false=p.checked.prog.looks []/\∀(j:Nat) t,fn.params[j]? =some t->p.checked.prog.wantsStandIn t=false) (n:true=c.goesBy p.checked.prog):Claim7.holds p (.plain s) {stood:={row:=c,standIns:=[],harness:=a,looks:=false},kinds:=[],alts:=[],goes:=true,laidByText:=true,laidKinds:=kinds,laidTests:=true,laidLooks:=.later}:=by (have o:∀r:OpenClaim,Claim7.isSixth {stood:={row:=r,standIns:=[],harness:=a,looks:=false},kinds:=[]}=false:=λr=>by simpa[Claim7.isSixth]using l);exact⟨Claim7.tied_new_at .later kinds true (Claim7.new_of_sixth g a false d e k (o c) m) i,(λD q=>by cases q),b,(λh=>by cases h),n⟩
def wL:Rows.LikeReachSaid:=OpenClaim.holds_of_wide_leaving 9 Tryz.f9 rfl rfl rfl rfl rfl rfl rfl ⟨rfl,rfl,rfl,rfl,rfl⟩ rfl rfl rfl rfl rfl Ra Tryz.func9 Si Sk Sj (λos a H enc _=>uM os a H enc)
theorem likeReach_card:Rows.LikeReachCardSaid:=
 Mu [.data,.funcsDeep,.pinned] (true,"e2464fcece2eef13e397ee2a7d1ae907f3e87b9b7325f55b82139ea06d39884f") wL (by kernel_rfl) likeReach_row_tie rfl ⟨rfl,rfl⟩ (by kernel_rfl) rfl
  (λf fn d b=>by
   obtain rfl:f=9:=Vd (d.symm.trans Ra);obtain rfl:fn=Tryz.f9:=Vd (b.symm.trans Tryz.func9);refine⟨by kernel_rfl,λj t c=>?_⟩;rw[Tryz.params9]at c;have e:t∈[60,5,69]:=by simpa using VI c
   have a:([60,5,69].all λu=> !Tryz.pinned.checked.prog.wantsStandIn u)=true:=by kernel_rfl
   simpa using Vp.1 a t e)
  (by kernel_rfl)
end Go.Proofs.YtaglpcmhopjebaaGreatDoor

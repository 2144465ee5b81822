/- touchmark, LikeSame (touchmarklaw02/own.go): for all tables, kinds and any two marks the call returns true on every schedule, without a data race; the row and its tied card, as given; no further condition. -/
import Derived.Conc.Holds
import Derived.Test.YtaglpcmhopjebaaGreatDoorT41
import Derived.Test.YtaglpcmhopjebaaGreatDoorT42
set_option linter.all false
set_option maxRecDepth 100000
set_option maxHeartbeats 20000000
namespace Go.Proofs.YtaglpcmhopjebaaGreatDoor
open Go
def xZ:Rows.LikeSameSaid:=OpenClaim.holds_of_wide_leaving 5 Tryz.f5 rfl rfl rfl rfl rfl rfl rfl ⟨rfl,rfl,rfl,rfl,rfl⟩ rfl rfl rfl rfl rfl Pz Tryz.func5 Qq Qt Qr (λos a H enc _=>uY os a H enc)
def KY{p s c}(kinds a) (g:c.holds p s) (i:c.wfByText s=true) (b:c.laidByTextAt .later p kinds true) (d:c.start=.entering) (e:c.noBlocks=false/\c.again=false) (k:p.checked.prog.mainIs=some (a.1,a.2.toList)) (l:(!a.1&&a.2.isEmpty&& !false)=false) (m:∀f fn,p.checked.prog.funcNamed c.func=some f->p.checked.prog.funcs[f]? =some fn->false=p.checked.prog.looks []/\∀(j:Nat) t,fn.params[j]? =some t->p.checked.prog.wantsStandIn t=false) (n:true=c.goesBy p.checked.prog):Claim7.holds p (.plain s) {stood:={row:=c,standIns:=[],harness:=a,looks:=false},kinds:=[],alts:=[],goes:=true,laidByText:=true,laidKinds:=kinds,laidTests:=true,laidLooks:=.later}:=by (have o:∀r:OpenClaim,Claim7.isSixth {stood:={row:=r,standIns:=[],harness:=a,looks:=false},kinds:=[]}=false:=λr=>by simpa[Claim7.isSixth]using l);exact⟨Claim7.tied_new_at .later kinds true (Claim7.new_of_sixth g a false d e k (o c) m) i,(λD q=>by cases q),b,(λh=>by cases h),n⟩
theorem likeSame_card:Rows.LikeSameCardSaid:=
 KY [.data,.funcsDeep,.pinned] (true,"e2464fcece2eef13e397ee2a7d1ae907f3e87b9b7325f55b82139ea06d39884f") xZ (by kernel_rfl) likeSame_row_tie rfl ⟨rfl,rfl⟩ (by kernel_rfl) rfl
  (λf fn d b=>by
   obtain rfl:f=5:=Tr (d.symm.trans Pz);obtain rfl:fn=Tryz.f5:=Tr (b.symm.trans Tryz.func5);refine⟨by kernel_rfl,λj t c=>?_⟩;rw[Tryz.params5]at c;have e:t∈[26,35,38]:=by simpa using TU c
   have a:([26,35,38].all λu=> !Tryz.pinned.checked.prog.wantsStandIn u)=true:=by kernel_rfl
   simpa using TO.1 a t e)
  (by kernel_rfl)
end Go.Proofs.YtaglpcmhopjebaaGreatDoor

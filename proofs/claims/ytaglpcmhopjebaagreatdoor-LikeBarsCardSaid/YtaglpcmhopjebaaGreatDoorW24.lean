import Derived.Test.YtaglpcmhopjebaaGreatDoorRows
import Derived.Test.YtaglpcmhopjebaaGreatDoorTie
import Derived.Test.YtaglpcmhopjebaaGreatDoorCards
import Derived.SevenTiedAt
import Derived.Test.YtaglpcmhopjebaaGreatDoorW0
set_option linter.all false
set_option maxRecDepth 100000
set_option maxHeartbeats 20000000
namespace Go.Proofs.YtaglpcmhopjebaaGreatDoor
open Go
def wT{p s c}(kinds a) (g:c.holds p s) (i:c.wfByText s=true) (b:c.laidByTextAt .later p kinds true) (d:c.start=.entering) (e:c.noBlocks=false/\c.again=false) (k:p.checked.prog.mainIs=some (a.1,a.2.toList)) (l:(!a.1&&a.2.isEmpty&& !false)=false) (m:∀f fn,p.checked.prog.funcNamed c.func=some f->p.checked.prog.funcs[f]? =some fn->false=p.checked.prog.looks []/\∀(j:Nat) t,fn.params[j]? =some t->p.checked.prog.wantsStandIn t=false) (n:true=c.goesBy p.checked.prog):Claim7.holds p (.plain s) {stood:={row:=c,standIns:=[],harness:=a,looks:=false},kinds:=[],alts:=[],goes:=true,laidByText:=true,laidKinds:=kinds,laidTests:=true,laidLooks:=.later}:=by (have o:∀r:OpenClaim,Claim7.isSixth {stood:={row:=r,standIns:=[],harness:=a,looks:=false},kinds:=[]}=false:=λr=>by simpa[Claim7.isSixth]using l);exact⟨Claim7.tied_new_at .later kinds true (Claim7.new_of_sixth g a false d e k (o c) m) i,(λD q=>by cases q),b,(λh=>by cases h),n⟩
end Go.Proofs.YtaglpcmhopjebaaGreatDoor

/- touchmark, LikeFewest (touchmarklaw02/own.go): for all strings and edits the call returns true on every schedule, without a data race; the row and its tied card, as given; no further condition. -/
import Derived.Test.YtaglpcmhopjebaaGreatDoorTie
import Derived.Test.YtaglpcmhopjebaaGreatDoorCards
import Derived.SevenTiedAt
import Derived.JoinedOf
import Derived.KernelRfl
import Derived.Conc.Holds
import Derived.Test.YtaglpcmhopjebaaGreatDoorYX0
set_option linter.all false
set_option maxRecDepth 100000
set_option maxHeartbeats 20000000
namespace Go.Proofs.YtaglpcmhopjebaaGreatDoor
open Go.Proofs Go.Tm Go.RowKit Go.ChangeShapes Go.WideShapes Go.ChangeAt Go.WideElems Go.Conc
def Vw(os:Os)(args:Array Value):laidMetH Tryz.prog Rows.likeFewestRow.laid ((NN os).forCall (λ_ _=>0) ⟨#[],args,[]⟩).memory:=laidMetH_of_parts3 (fuel:=8) (laidMet_of_run' 8 (by kernel_rfl) (by kernel_rfl)) (by kernel_rfl) (by kernel_rfl)
def Vq{W}(a b){v l}(d:aB (dS v) 3 (dI .u8) W v l)(f:jD W)(t:gi W):
 df Tryz.prog (xm W) (crowd #[G (Frame.enter Tryz.prog 14 #[.string a,.string b,v] .normal) []] W none) #[]:=by
 obtain⟨q,u,k⟩:=t;obtain⟨es,i,H,I⟩:=k.ints;have m:∀x,dS v x->∃c e F,W.heap[x]? =some (.cells c e F):=λx ⟨o,n,c,e⟩=>by obtain⟨ao,c',rfl,_,_,J,_⟩:=d;cases e;exact(J _ rfl).2.2
 refine LC (W:=W) (B:=λx=>x<5\/x=q\/dS v x) (by kernel_rfl) (λx r=>?_) f.size (λg h=>.inl h) (λx r=>?_) λPr w C=>?_
 ·obtain h|rfl|h:=r
  ·obtain⟨c,e,F,A⟩:=f.cells x h
   exact⟨_,A,.inl ⟨c,e,F,rfl⟩⟩
  ·exact⟨_,H,.inr ⟨es,i,rfl,I⟩⟩
  ·obtain⟨c,e,F,A⟩:=m x h
   exact⟨_,A,.inl ⟨c,e,F,rfl⟩⟩
 ·simp only[SS,RX,Se,Sf]at r
  obtain rfl|rfl|rfl:=r
  ·exact .string _
  ·exact .string _
  ·exact D5 d λx h=>.inr (.inr h)
 ·have same:∀x:Nat,(bZ (idR gN λx=>x<5\/x=q\/dS v x) Pr W).heap[x]? =w.heap[x]? :=λx=>by rw[C]
  have s:ae (bZ (idR gN λx=>x<5\/x=q\/dS v x) Pr W) w:=λx c e F h=>(same x).symm.trans h;have D:w.heap.size=W.heap.size:=by rw[C,ky]
  have j:aB (dS v) 3 (dI .u8) w v l:=(d.LD).stays s λx y o z e h=>by subst e;exact h.keep s
  have p:gi w:=by obtain⟨E,K,L⟩:=gi.mask (G:=gN) (B:=λx=>x<5\/x=q\/dS v x) (fz:=Pr) u k (.inr (.inl rfl));exact⟨E,s.cell K,L.keep (same E).symm⟩
  have h:=Vn a b w j p ((f.mask).stays s (by rw[ky,D];exact Rq _));rw[D]at h;exact h
def B6(os)(d:os.Started)(H)(enc:TypeId×Value->H):
 ReturnsInLeavingWide {} Tryz.checked os 14 .any (λw args=>(Rows.likeFewestSpec.pre enc Tryz.prog Tryz.f14 [] false w args/\laidMetH Tryz.prog Rows.likeFewestRow.laid w)/\sizedMet enc Tryz.prog Tryz.f14 (OpenSpec.ofChange Rows.likeFewestSpec) false w args)
  (Rows.likeFewestSpec.post enc Tryz.prog Tryz.f14 false true false false):=by
 refine ow (C:=Tryz.checked) (X:=λw _=>laidMetH Tryz.prog Rows.likeFewestRow.laid w) (λ_ _ _ F h=>h.of_heap F) own d Tryz.func14 ?_ ?_
 ·exact ChangeSpec.witness_shaped (enc:=enc) (C:=Tryz.checked) (os:=os) (X:=λw _=>laidMetH Tryz.prog Rows.likeFewestRow.laid w) false (NN os) #[.string ⟨#[]⟩,.string ⟨#[]⟩,.slice none 0 0] 8 (NO os) (Ei os _) (by kernel_rfl) (by kernel_rfl) (by kernel_rfl) (Vw os _)
 intro W base args ds Q n e y G z r;have c:∀(j:Nat) t v,Tryz.f14.params[j]? =some t->args[j]? =some v->Value.okWide Tryz.prog W .any base t v:=e;have f:=y;obtain⟨p,q,s,I,rfl,_,_⟩:=y;have A:DataW.TrodAll enc Tryz.prog W 0 (λ_=>true) true Tryz.f14.params.toList args.toList ds p:=s;rw[Tryz.params14]at A c;obtain⟨v0,v1,v2,d0,d1,d2,J,K,L,rfl,rfl,rfl,B,D,E⟩:=trodAll_three A;obtain⟨rfl,rfl⟩:=trodVars_none I;obtain⟨a,rfl,_,_,_⟩:=ChangeMaps.open_string Tryz.underlying9 (c 0 9 v0 rfl rfl) B;obtain⟨b,rfl,_,_,_⟩:=ChangeMaps.open_string Tryz.underlying9 (c 1 9 v1 rfl rfl) D;obtain⟨l,i⟩:=Jh (c 2 53 v2 rfl rfl) E;have M:=yi z (by simp[Rows.likeFewestRow,Rows.laid_touchmark_like_kinds,xh,kindName]);have u:=yj z (by rfl);simp only[Th]at f;obtain⟨N,last,o,w',O,e1,P,e3,e4⟩:=Vq a b i (yk r M) u;refine⟨N,last,o,w',O,e1,P,e3,e4.mono λv k=>?_⟩;have g:=f.lt;refine⟨_,_,_,[],J++(K++L),[],f,?_,?_,rfl,k.kept _,λh=>by cases h⟩
 ·rw[k.1]
  exact trodAll_mk1 (shut_bool Tryz.underlying4 true)
 ·exact trodAll_mk3 (k.trod (by kernel_rfl) (Su (by kernel_rfl)) B λx m=>g x (by simp[m])) (k.trod (by kernel_rfl) (Su (by kernel_rfl)) D λx m=>g x (by simp[m]))
   (k.trod (by kernel_rfl) (Su (by kernel_rfl)) E λx m=>g x (by simp[m]))
end Go.Proofs.YtaglpcmhopjebaaGreatDoor
namespace Go.Proofs.YtaglpcmhopjebaaGreatDoor
open Go
def VA:joinedFacts Tryz.pinned.checked.prog 14 Tryz.f14 Rows.likeFewestSpec Rows.likeFewestRow=true:=by
 unfold joinedFacts
 with_reducible repeat' refine(RD _ _).mpr ⟨?_,?_⟩
 all_goals as_aux_lemma=>kernel_rfl
def Vz:Tryz.pinned.checked.prog.funcNamed Rows.likeFewestRow.func=some 14:=by kernel_rfl
def VC:Tryz.f14.isWrapper Tryz.pinned.checked.prog Rows.likeFewestRow.wrapper Rows.likeFewestRow.mainSum:=by unfold Func.isWrapper;first|(rw[Rp (by decide+kernel)];kernel_rfl)|(rw[Ro (by decide+kernel)];exact⟨rfl,rfl⟩)
def VE:Tryz.f14.isInstance Tryz.pinned.checked.prog Rows.likeFewestRow.origin Rows.likeFewestRow.targs:=Su (by kernel_rfl)
end Go.Proofs.YtaglpcmhopjebaaGreatDoor
namespace Go.Proofs.YtaglpcmhopjebaaGreatDoor
open Go
def Rv:Rows.LikeFewestSaid:=OpenClaim.holds_of_wide_leaving 14 Tryz.f14 rfl rfl rfl rfl rfl rfl rfl ⟨rfl,rfl,rfl,rfl,rfl⟩ rfl rfl rfl rfl rfl Vz Tryz.func14 VA VE VC (λos a H enc _=>B6 os a H enc)
def Jy{p s c}(kinds a)
 (g:c.holds p s) (i:c.wfByText s=true) (b:c.laidByTextAt .later p kinds true)
 (d:c.start=.entering) (e:c.noBlocks=false/\c.again=false) (k:p.checked.prog.mainIs=some (a.1,a.2.toList)) (l:(!a.1&&a.2.isEmpty&& !false)=false)
 (m:∀f fn,p.checked.prog.funcNamed c.func=some f->p.checked.prog.funcs[f]? =some fn->false=p.checked.prog.looks []/\∀(j:Nat) t,fn.params[j]? =some t->p.checked.prog.wantsStandIn t=false)
 (n:true=c.goesBy p.checked.prog):
 Claim7.holds p (.plain s) {stood:={row:=c,standIns:=[],harness:=a,looks:=false},kinds:=[],alts:=[],goes:=true,laidByText:=true,laidKinds:=kinds,laidTests:=true,laidLooks:=.later}:=by
 have o:∀r:OpenClaim,Claim7.isSixth {stood:={row:=r,standIns:=[],harness:=a,looks:=false},kinds:=[]}=false:=λr=>by simpa[Claim7.isSixth]using l
 exact⟨Claim7.tied_new_at .later kinds true (Claim7.new_of_sixth g a false d e k (o c) m) i,(λD q=>by cases q),b,(λh=>by cases h),n⟩
theorem likeFewest_card:Rows.LikeFewestCardSaid:=
 Jy [.data,.mapped,.funcsDeep,.pinned] (true,"e2464fcece2eef13e397ee2a7d1ae907f3e87b9b7325f55b82139ea06d39884f") Rv (by kernel_rfl) likeFewest_row_tie rfl ⟨rfl,rfl⟩ (by kernel_rfl) rfl
  (λf fn d b=>by
   obtain rfl:f=14:=RU (d.symm.trans Vz);obtain rfl:fn=Tryz.f14:=RU (b.symm.trans Tryz.func14);refine⟨by kernel_rfl,λj t c=>?_⟩;rw[Tryz.params14]at c;have e:t∈[9,9,53]:=by simpa using SO c
   have a:([9,9,53].all λu=> !Tryz.pinned.checked.prog.wantsStandIn u)=true:=by kernel_rfl
   simpa using Sm.1 a t e)
  (by kernel_rfl)
end Go.Proofs.YtaglpcmhopjebaaGreatDoor

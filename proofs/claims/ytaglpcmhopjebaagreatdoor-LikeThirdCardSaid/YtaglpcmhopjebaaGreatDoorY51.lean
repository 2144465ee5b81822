/- touchmark, LikeThird (touchmarklaw02/own.go): for all picks and edits the call returns true on every schedule, without a data race; the row and its tied card, as given; no further condition. -/
import Derived.Test.YtaglpcmhopjebaaGreatDoorTie
import Derived.Test.YtaglpcmhopjebaaGreatDoorCards
import Derived.SevenTiedAt
import Derived.JoinedOf
import Derived.KernelRfl
import Derived.Conc.Holds
import Derived.Test.YtaglpcmhopjebaaGreatDoorY50
set_option linter.all false
set_option maxRecDepth 100000
set_option maxHeartbeats 20000000
namespace Go.Proofs.YtaglpcmhopjebaaGreatDoor
open Go.Proofs Go.Tm Go.RowKit Go.ChangeShapes Go.WideShapes Go.ChangeAt Go.WideElems Go.Conc
def Mg:Tryz.prog.cellsOf 181=1:=by kernel_rfl
def Mh{G B fz K w v l}(h:aB K 1 yl w v l):aB K 1 yl (bZ (idR G B) fz w) v l:=by
 obtain⟨ao,c,rfl,f,i,j,m⟩:=h;refine⟨ao,c,rfl,f,i,λa n=>?_,λk o=>?_⟩
 ·obtain⟨p,q,c',e,F,r⟩:=j a n
  obtain⟨t,s⟩:=fu (G:=G) (B:=B) (fz:=fz) r;exact⟨p,q,_,_,_,s⟩
 ·obtain⟨b,d,e,g⟩:=m k o
  exact⟨b,d,e,fH g.1 (.int _ _),g.2⟩
section
variable {H:Type} {enc:TypeId×Value->H} {W:World}
def Jw{v d p C}(D:Value.okWide Tryz.prog W .any C 44 v)(K:DataW.Trod enc Tryz.prog W 0 (λ_=>true) true 44 v d p):
 ∃l:List Int,aB (dS v) 1 yl W v l:=by
 obtain⟨fuel,L⟩:=K;obtain⟨M,len,cap,rfl⟩:=okWide_slice Tryz.underlying44 D;have m:Cell.ok Tryz.prog W .any C 44 (.slice M len cap):=by have h:=D;simp only[Value.okWide,Tryz.underlying44,Cell.okWide]at h;exact h
 obtain⟨g,_⟩|⟨a,E,G,w,rest,n,rfl,g,U,_,N,O,I,y,_,_⟩:=DataW.trod_slice Tryz.underlying44 L
 ·simp[Value.cells]at g
  obtain⟨rfl,rfl,rfl⟩:=g;exact⟨[],none,0,rfl,Rq _,by decide,λa h=>(by cases h),λk z=>absurd z (RZ _)⟩
 ·simp[Value.cells]at g
  obtain⟨rfl,rfl,rfl⟩:=g;unfold Cell.ok at m;rw[Tryz.underlying44]at m;obtain⟨_,_,_,f,row,cells,o,_⟩:=m;obtain⟨b,j,q⟩:=a;have f:q=none:=f;subst f;have r:∃c e F,W.heap[b]? =some (.cells c e F):=by
   unfold World.shape? at o;split at o
   ·rename_i c e F h
    exact⟨c,e,F,h⟩
   ·cases o
  have s:∀i,i<len->∃x:Int,yl (dS (.slice (some ⟨b,j,none⟩) len cap)) W b (j+i*1) x:=λi P=>by
   have h:=y i P;rw[Mg,R5 (by omega),Tl]at h;obtain⟨cs,J,Q⟩:=h;rw[dD]at J;obtain⟨_,A,R⟩:=World.cells?_some J;obtain⟨u,rfl⟩:∃u,cs=[u]:=by
    match cs,A with
    | [u],_=>exact⟨u,rfl⟩
   obtain⟨S,e0,_,B⟩:=DataW.trod_int Tryz.underlying181 Q;cases e0;have g0:=R 0 (by decide);rw[dD]at g0;simp only[Lit.wf,RD,RJ]at B;have m1:IntKind.u16.min=0:=by decide
   have m2:IntKind.u16.max=65535:=by decide
   exact⟨S,g0,by omega,by omega⟩
  obtain⟨l,t,T⟩:=A8 len s;refine⟨l,some ⟨b,j,none⟩,cap,by rw[t],by rw[t];exact N,by unfold maxLen at O;omega,λa h=>?_,λk z=>⟨b,j,rfl,T k z⟩⟩;cases h;exact⟨rfl,⟨j,len,cap,rfl⟩,r⟩
end
def Jx(os:Os)(args:Array Value):laidMetH Tryz.prog Rows.likeThirdRow.laid ((NN os).forCall (λ_ _=>0) ⟨#[],args,[]⟩).memory:=laidMetH_of_parts3 (fuel:=8) (laidMet_of_run' 8 (by kernel_rfl) (by kernel_rfl)) (by kernel_rfl) (by kernel_rfl)
def Gm{W}{v0 picks v l}(t:aB (dS v0) 1 yl W v0 picks)(a:aB (dS v) 3 (dI .u8) W v l)(b:jD W)(u:gi W):
 df Tryz.prog (xm W) (crowd #[G (Frame.enter Tryz.prog 15 #[v0,v] .normal) []] W none) #[]:=by
 obtain⟨r,A,k⟩:=u;obtain⟨es,d,K,L⟩:=k.ints;have m:∀x,dS v x->∃c e F,W.heap[x]? =some (.cells c e F):=λx ⟨o,n,c,e⟩=>by obtain⟨ao,c',rfl,_,_,C,_⟩:=a;cases e;exact(C _ rfl).2.2
 have f:∀x,dS v0 x->∃c e F,W.heap[x]? =some (.cells c e F):=λx ⟨o,n,c,e⟩=>by obtain⟨ao,c',rfl,_,_,C,_⟩:=t;cases e;exact(C _ rfl).2.2
 refine LC (W:=W) (B:=λx=>x<5\/x=r\/dS v0 x\/dS v x) (by kernel_rfl) (λx s=>?_) b.size (λg h=>.inl h) (λx s=>?_) λPr w E=>?_
 ·obtain h|rfl|h|h:=s
  ·obtain⟨c,e,F,p⟩:=b.cells x h
   exact⟨_,p,.inl ⟨c,e,F,rfl⟩⟩
  ·exact⟨_,K,.inr ⟨es,d,rfl,L⟩⟩
  ·obtain⟨c,e,F,p⟩:=f x h
   exact⟨_,p,.inl ⟨c,e,F,rfl⟩⟩
  ·obtain⟨c,e,F,p⟩:=m x h
   exact⟨_,p,.inl ⟨c,e,F,rfl⟩⟩
 ·simp only[SS,RX,Se,Sf]at s
  obtain rfl|rfl:=s
  ·exact D5 t λx h=>.inr (.inr (.inl h))
  ·exact D5 a λx h=>.inr (.inr (.inr h))
 ·have same:∀x:Nat,(bZ (idR gN λx=>x<5\/x=r\/dS v0 x\/dS v x) Pr W).heap[x]? =w.heap[x]? :=λx=>by rw[E]
  have j:ae (bZ (idR gN λx=>x<5\/x=r\/dS v0 x\/dS v x) Pr W) w:=λx c e F h=>(same x).symm.trans h;have I:w.heap.size=W.heap.size:=by rw[E,ky]
  have i:aB (dS v) 3 (dI .u8) w v l:=(a.LD).stays j λx y o z e h=>by subst e;exact h.keep j
  have D:aB (dS v0) 1 yl w v0 picks:=(Mh t).stays j λx y o z e h=>by subst e;exact⟨j.cell h.1,h.2⟩
  have q:gi w:=by obtain⟨J,M,N⟩:=gi.mask (G:=gN) (B:=λx=>x<5\/x=r\/dS v0 x\/dS v x) (fz:=Pr) A k (.inr (.inl rfl));exact⟨J,j.cell M,N.keep (same J).symm⟩
  have h:=Eh w D i q ((b.mask).stays j (by rw[ky,I];exact Rq _));rw[I]at h;exact h
def tC(os)(a:os.Started)(H)(enc:TypeId×Value->H):
 ReturnsInLeavingWide {} Tryz.checked os 15 .any (λw args=>(Rows.likeThirdSpec.pre enc Tryz.prog Tryz.f15 [] false w args/\laidMetH Tryz.prog Rows.likeThirdRow.laid w)/\sizedMet enc Tryz.prog Tryz.f15 (OpenSpec.ofChange Rows.likeThirdSpec) false w args)
  (Rows.likeThirdSpec.post enc Tryz.prog Tryz.f15 false true false false):=by
 refine ow (C:=Tryz.checked) (X:=λw _=>laidMetH Tryz.prog Rows.likeThirdRow.laid w) (λ_ _ _ D h=>h.of_heap D) own a Tryz.func15 ?_ ?_
 ·exact ChangeSpec.witness_shaped (enc:=enc) (C:=Tryz.checked) (os:=os) (X:=λw _=>laidMetH Tryz.prog Rows.likeThirdRow.laid w) false (NN os) #[.slice none 0 0,.slice none 0 0] 8 (NO os) (Ei os _) (by kernel_rfl) (by kernel_rfl) (by kernel_rfl) (Jx os _)
 intro W base args ds O g c u E y k;have b:∀(j:Nat) t v,Tryz.f15.params[j]? =some t->args[j]? =some v->Value.okWide Tryz.prog W .any base t v:=c;have d:=u;obtain⟨p,q,m,F,rfl,_,_⟩:=u;have z:DataW.TrodAll enc Tryz.prog W 0 (λ_=>true) true Tryz.f15.params.toList args.toList ds p:=m;rw[Tryz.params15]at z b;obtain⟨v0,v1,d0,d1,G,I,rfl,rfl,rfl,A,B⟩:=trodAll_two z;obtain⟨rfl,rfl⟩:=trodVars_none F;obtain⟨n,J⟩:=Jw (b 0 44 v0 rfl rfl) A;obtain⟨l,e⟩:=Jh (b 1 53 v1 rfl rfl) B;have K:=yi y (by simp[Rows.likeThirdRow,Rows.laid_touchmark_like_kinds,xh,kindName]);have r:=yj y (by rfl);simp only[Th]at d;obtain⟨N,last,o,w',L,e1,M,e3,e4⟩:=Gm J e (yk k K) r;refine⟨N,last,o,w',L,e1,M,e3,e4.mono λv i=>?_⟩;have f:=d.lt;refine⟨_,_,_,[],G++I,[],d,?_,?_,rfl,i.kept _,λh=>by cases h⟩
 ·rw[i.1]
  exact trodAll_mk1 (shut_bool Tryz.underlying4 true)
 ·exact trodAll_mk2 (i.trod (by kernel_rfl) (Su (by kernel_rfl)) A λx s=>f x (by simp[s])) (i.trod (by kernel_rfl) (Su (by kernel_rfl)) B λx s=>f x (by simp[s]))
end Go.Proofs.YtaglpcmhopjebaaGreatDoor
namespace Go.Proofs.YtaglpcmhopjebaaGreatDoor
open Go
def NP:joinedFacts Tryz.pinned.checked.prog 15 Tryz.f15 Rows.likeThirdSpec Rows.likeThirdRow=true:=by
 unfold joinedFacts
 with_reducible repeat' refine(RD _ _).mpr ⟨?_,?_⟩
 all_goals as_aux_lemma=>kernel_rfl
def Mi:Tryz.pinned.checked.prog.funcNamed Rows.likeThirdRow.func=some 15:=by kernel_rfl
def NR:Tryz.f15.isWrapper Tryz.pinned.checked.prog Rows.likeThirdRow.wrapper Rows.likeThirdRow.mainSum:=by unfold Func.isWrapper;first|(rw[Rp (by decide+kernel)];kernel_rfl)|(rw[Ro (by decide+kernel)];exact⟨rfl,rfl⟩)
def NS:Tryz.f15.isInstance Tryz.pinned.checked.prog Rows.likeThirdRow.origin Rows.likeThirdRow.targs:=Su (by kernel_rfl)
def uI:Rows.LikeThirdSaid:=OpenClaim.holds_of_wide_leaving 15 Tryz.f15 rfl rfl rfl rfl rfl rfl rfl ⟨rfl,rfl,rfl,rfl,rfl⟩ rfl rfl rfl rfl rfl Mi Tryz.func15 NP NS NR (λos a H enc _=>tC os a H enc)
def Jy{p s c}(kinds a)
 (g:c.holds p s) (i:c.wfByText s=true) (b:c.laidByTextAt .later p kinds true)
 (d:c.start=.entering) (e:c.noBlocks=false/\c.again=false) (k:p.checked.prog.mainIs=some (a.1,a.2.toList)) (l:(!a.1&&a.2.isEmpty&& !false)=false)
 (m:∀f fn,p.checked.prog.funcNamed c.func=some f->p.checked.prog.funcs[f]? =some fn->false=p.checked.prog.looks []/\∀(j:Nat) t,fn.params[j]? =some t->p.checked.prog.wantsStandIn t=false)
 (n:true=c.goesBy p.checked.prog):
 Claim7.holds p (.plain s) {stood:={row:=c,standIns:=[],harness:=a,looks:=false},kinds:=[],alts:=[],goes:=true,laidByText:=true,laidKinds:=kinds,laidTests:=true,laidLooks:=.later}:=by
 have o:∀r:OpenClaim,Claim7.isSixth {stood:={row:=r,standIns:=[],harness:=a,looks:=false},kinds:=[]}=false:=λr=>by simpa[Claim7.isSixth]using l
 exact⟨Claim7.tied_new_at .later kinds true (Claim7.new_of_sixth g a false d e k (o c) m) i,(λD q=>by cases q),b,(λh=>by cases h),n⟩
theorem likeThird_card:Rows.LikeThirdCardSaid:=
 Jy [.data,.mapped,.funcsDeep,.pinned] (true,"e2464fcece2eef13e397ee2a7d1ae907f3e87b9b7325f55b82139ea06d39884f") uI (by kernel_rfl) likeThird_row_tie rfl ⟨rfl,rfl⟩ (by kernel_rfl) rfl
  (λf fn d b=>by
   obtain rfl:f=15:=RU (d.symm.trans Mi);obtain rfl:fn=Tryz.f15:=RU (b.symm.trans Tryz.func15);refine⟨by kernel_rfl,λj t c=>?_⟩;rw[Tryz.params15]at c;have e:t∈[44,53]:=by simpa using SO c
   have a:([44,53].all λu=> !Tryz.pinned.checked.prog.wantsStandIn u)=true:=by kernel_rfl
   simpa using Sm.1 a t e)
  (by kernel_rfl)
end Go.Proofs.YtaglpcmhopjebaaGreatDoor

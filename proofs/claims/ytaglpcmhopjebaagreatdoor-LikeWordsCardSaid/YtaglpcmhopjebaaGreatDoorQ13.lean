import Derived.Test.YtaglpcmhopjebaaGreatDoorQ12
set_option linter.all false
set_option maxRecDepth 100000
set_option maxHeartbeats 20000000
namespace Go.Tm
open Go.Conc Go.ConcN Go.Conc.Lib
open Go.ConcR (KK WgAt stA smA rd wr mk DC0 Bk)
section
variable {P:Program} {ty:TypeId} {Wg ch:Nat} {z:Value} {An:aJ} {HV:Nat->Option Value} {Fin:List Value->aJ} {n base N0:Nat} {shun:Nat->Prop} {W₀:World} {t₀ t:Trace} {gs:Array Goroutine} {w w':World} {sl:Option (Nat×Nat)} {σ:GSt P ty Wg}
def mW{u:Trace}(c:∀b∈u,b.act≠ .mark .disable/\b.act≠ .mark .enable)(g):Deaf (t++u) g=Deaf t g:=by
 obtain⟨l⟩:=u;rw[Deaf_append];induction l generalizing t with
 |nil=>rfl
 |cons y l f=>
  have d:=c y (by simp);have e1:deafStep g (Deaf t g) y=Deaf t g:=by
   unfold deafStep;split
   ·rename_i e;exact absurd e d.1
   ·rename_i e;exact absurd e d.2
   ·rfl
  rw[U3,e1];exact f λb a=>c b (by simp at a⊢;exact .inr a)
def oc{a k r}{u:Trace}(h:RelBy a t k r)(f:∀c∈u,c.act.touch?=none):RelBy a (t++u) k r:=by
 refine h.app λi m _ g=>?_;obtain⟨x,j,_⟩:=g;obtain⟨c,d,b⟩:=touch_of j;obtain⟨l,_⟩|⟨_,e⟩:=getElem?_append_cases d
 ·omega
 ·rw[f c e]at b;cases b
def zi(a b c f h i j){B}:∀e∈(#[{g:=a,fn:=f,pos:=i,act:=.go b},{g:=c,fn:=h,pos:=j,act:=.start}]:Trace),e.act.low B:=by intro e d;simp only[To,SE,SS,SU]at d;rcases d with rfl|rfl<;>trivial
def rC{gs:Array Goroutine}{x c k}(b:k<gs.size)(a:k≠0):((gs.setIfInBounds 0 x).push c)[k]? =gs[k]? :=by rw[Ta,RY (by simp;omega),Si (Sn a)]
def zk{gs:Array Goroutine}{x c}(h:0<gs.size):((gs.setIfInBounds 0 x).push c)[0]? =some x:=by rw[Ta,RY (by simp;omega)];simp[h]
def zl{gs:Array Goroutine}{x c}:((gs.setIfInBounds 0 x).push c)[gs.size]? =some c:=by rw[Ta,RZ (by simp)]
def NV{j D d}(a:4<=d.s):VW (j+1) (upd D j d)=VW j D+1:=by unfold VW;simp only[sumTo,upd_same];rw[sumTo_congr (g:=λi=>jC (D i)) λi b=>by rw[upd_ne D d (by omega)]];have:jC d=1:=RZ a;omega
def F7(G:fo Wg ch base N0 shun)(h:GI P ty Wg ch z An HV Fin n base N0 shun W₀ t₀ gs w t σ){g}(hg:gs[0]? =some g){r}{c:RC P ty Wg}(a7:r<n)(I:σ.mt=.sp r 1)(hj:σ.j=n-(r+1))(E:σ.d0=0)
 (ad:SGo P ty Wg ch z HV n r (SSp P ty Wg ch z An HV Fin n r) σ.K0 σ.M0 g w):dN P ty Wg ch z An HV Fin n base N0 shun W₀ t₀ t gs w sl σ 0:=by
 have hb:=G.lg;have W:=h.w_;have T:=h.t_;have Q:=h.g_;obtain⟨a6,g',o,Kc,af,a8,ba,ag,F,ak⟩:=ad;have f:=Q.mc.2 (.inl ⟨_,_,I⟩);have J:gs.size=base+σ.j:=by have:=Q.size;rw[f]at this;simpa using this
 have U:0<gs.size:=by omega
 have s:=runT_crowd_spawn (P:=P) (sl:=sl) (i:=0) hg (by simpa using af);rw[J]at s;have V:MemOp.ofEvents 0 g.frame.fn g.frame.place #[]=#[]:=rfl;rw[V]at s;have K:((#[]:Array MemOp).push {g:=0,fn:=g.frame.fn,pos:=g.frame.place,act:=.go (base+σ.j)}).push {g:=base+σ.j,fn:=o.frame.fn,pos:=g.frame.place,act:=.start}=
  #[{g:=0,fn:=g.frame.fn,pos:=g.frame.place,act:=.go (base+σ.j)},{g:=base+σ.j,fn:=o.frame.fn,pos:=g.frame.place,act:=.start}]:=rfl
 rw[K]at s;have H:∀B∈(#[{g:=0,fn:=g.frame.fn,pos:=g.frame.place,act:=.go (base+σ.j)},{g:=base+σ.j,fn:=o.frame.fn,pos:=g.frame.place,act:=.start}]:Array MemOp),B.act.touch?=none/\B.act≠ .mark .disable/\B.act≠ .mark .enable/\B.act≠ .mark (.release (stA Wg)):=by intro B m;simp only[To,SE,SS,SU]at m;rcases m with rfl|rfl<;>simp[MemAct.touch?]
 have p:=mW (t:=t) (u:=#[{g:=0,fn:=g.frame.fn,pos:=g.frame.place,act:=.go (base+σ.j)},{g:=base+σ.j,fn:=o.frame.fn,pos:=g.frame.place,act:=.start}]) λB m=>⟨(H B m).2.1,(H B m).2.2.1⟩
 have L:σ.low (base+σ.j)=0:=Tt λe=>by rcases W.AS _ e with⟨i,v,e2⟩|e2<;>omega
 have X:Deaf t (base+σ.j)=0:=T.above _ (by omega) (λi v=>by omega) λe=>absurd f e;obtain⟨x,hx⟩:=cj.of F;have an:HV (n-(r+1))=HV σ.j:=by rw[hj]
 rw[an]at hx;obtain⟨y,hy⟩:=cj.of ak;obtain⟨mt',ρ',ao,Y,M,ar,Z⟩:∃mt' ρ',fj P ty Wg ch z An HV Fin n mt' (σ.j+1) 0 σ.K0 (λ_=>False) ρ' g' w/\mt'.got=[]/\mt'.pend=0/\((∃r st,mt'=.sp r st)\/mt'=.gc)/\∀r hs,mt'≠ .rb r hs/\mt'≠ .rw r hs:=by
  cases r with
  |zero=>
   refine⟨.gc,(90,0,y),?_,rfl,rfl,.inr rfl,λ_ _=>by simp⟩;have e:σ.j+1=n:=by omega
   rw[e];exact .gc hy
  |succ r=>
   refine⟨.sp r 5,(100+10*r+5,0,y),?_,rfl,rfl,.inl ⟨_,_,rfl⟩,λ_ _=>by simp⟩;have e:σ.j+1=n-(r+1):=by omega
   rw[e];exact .kd (by omega) hy
 let d:GSt P ty Wg:={σ with j:=σ.j+1,D:=upd σ.D σ.j ⟨8,0,Kc,λ_=>False⟩,R:=upd σ.R σ.j (8,0,x),mt:=mt',M0:=λ_=>False,r0:=ρ',low:=upd σ.low (base+σ.j) w.heap.size}
 have aa:∀i,i<σ.j->upd σ.D σ.j ⟨8,0,Kc,λ_=>False⟩ i=σ.D i:=λi v=>upd_ne _ _ (by omega);refine⟨_,w,_,d,s,⟨?_,?_,?_,?_,?_⟩,jq (i:=σ.j) (ρ:=(8,0,x)) (by omega) rfl ?_⟩
 ·refine⟨W.os,W.tape,W.output,W.fO,W.old,W.chn,W.wg,W.sp,?_,?_,W.k0,λb e=>e.elim,?_,?_,W.owns,?_,?_,?_,?_⟩
  ·intro i v b A
   by_cases e:i=σ.j
   ·subst e
    simp only[d,upd_same]at A⊢;obtain⟨a1,a2,a3,a4⟩:=W.k0 b (ag b A);exact⟨a1,a2,a3,.inr ⟨a4,a1⟩⟩
   ·have q:i<σ.j:=by have:i<σ.j+1:=v;omega
    simp only[d,upd_ne σ.D _ e,upd_ne σ.low w.heap.size (show base+i≠base+σ.j by omega)]at A⊢;exact W.kw i q b A
  ·intro i v b A
   by_cases e:i=σ.j
   ·subst e
    simp only[d,upd_same]at A
   ·have q:i<σ.j:=by have:i<σ.j+1:=v;omega
    simp only[d,upd_ne σ.D _ e]at A;exact W.mw i q b A
  ·intro C;exact absurd f C
  ·intro C;exact absurd f C
  ·intro i v
   by_cases e:i=σ.j
   ·subst e
    simp only[d,upd_same];have:=W.sp.1;omega
   ·have q:i<σ.j:=by have:i<σ.j+1:=v;omega
    simp only[d,upd_ne σ.low w.heap.size (show base+i≠base+σ.j by omega)];exact W.Dl i q
  ·simp only[d,upd_ne σ.low w.heap.size (show base+n≠base+σ.j by omega)]
   exact W.Dm
  ·intro k N
   by_cases e:k=base+σ.j
   ·exact .inl ⟨σ.j,Tl _,e⟩
   ·simp only[d,upd_ne σ.low w.heap.size e]at N
    exact(W.AS k N).imp (λ⟨i,a,b⟩=>⟨i,UG a,b⟩) id
  ·intro k
   by_cases e:k=base+σ.j
   ·subst e;simp only[d,upd_same];exact R2 _
   ·simp only[d,upd_ne σ.low w.heap.size e];exact W.AT k
 ·refine⟨?_,?_,kZ T.seen (R2 _) (zi _ _ _ _ _ _ _),iX T.gb (λB m=>by simp at m;rcases m with rfl|rfl<;>simp only<;>omega),T.norel.app λB m=>(H B m).2.2.2,(p 0).trans (T.d0.trans E |>.trans E.symm),?_,λC=>absurd f C,?_,?_,?_,?_⟩
  ·obtain⟨u,rfl⟩:=T.pre
   exact⟨_,Tq ..⟩
  ·exact T.tr.fork ⟨rfl,rfl⟩ ⟨rfl,rfl⟩ (T.d0.trans E) X (by omega) L (by have:=W.sp.1;omega) (by omega)
  ·intro i v
   by_cases e:i=σ.j
   ·subst e
    simp only[d,upd_same];exact(p _).trans X
   ·have q:i<σ.j:=by have:i<σ.j+1:=v;omega
    simp only[d,upd_ne σ.D _ e];exact(p _).trans (T.dw i q)
  ·intro k N O S
   exact(p k).trans (T.above k N (λi v=>O i (UG v)) S)
  ·intro i v hs
   by_cases e:i=σ.j
   ·subst e
    simp only[d,upd_same]at hs;omega
   ·have q:i<σ.j:=by have:i<σ.j+1:=v;omega
    simp only[d,upd_ne σ.D _ e]at hs;obtain⟨r,hr⟩:=T.rel i q hs;exact⟨r,oc hr λB m=>(H B m).1⟩
  ·intro C;rw[show d.ct=σ.ct from rfl,f]at C;cases C
  ·intro C;rw[show d.ct=σ.ct from rfl,f]at C;cases C
 ·refine⟨?_,?_,λC=>absurd f C,⟨g',zk U,?_⟩,⟨λ_=>ar,λ_=>f⟩,?_,?_,?_,?_,?_,?_⟩
  ·show _=base+(σ.j+1)+(if σ.ct.isSome then 1 else 0)
   rw[f];simp[J];omega
  ·show σ.j+1<=n;omega
  ·show fj P ty Wg ch z An HV Fin n mt' (σ.j+1) σ.d0 σ.K0 (λ_=>False) ρ' g' w
   rw[E];exact ao
  ·intro i v
   by_cases e:i=σ.j
   ·subst e
    refine⟨o,by rw[<-J];exact zl,?_⟩;simp only[d,upd_same];exact .run hx
   ·have q:i<σ.j:=by have:i<σ.j+1:=v;omega
    obtain⟨gw,ax,ay⟩:=Q.wk i q;refine⟨gw,by rw[rC (by omega) (by omega)];exact ax,?_⟩;simp only[d,upd_ne σ.D _ e,upd_ne σ.R _ e];exact ay
  ·intro i O S
   have bb:σ.j+1<=i:=O;simp only[d,upd_ne σ.R _ (show i≠σ.j by omega)];exact Q.unb i (by omega) S
  ·intro c' e
   rw[show d.ct=σ.ct from rfl,f]at e;cases e
  ·intro k gk O S N
   rw[rC (by omega) (by omega)]at N;rw[p];exact Q.lv k gk O S N
  ·rintro⟨a,b,e⟩
   exact absurd e (Z a b).1
  ·intro a b e
   exact absurd e (Z a b).2
 ·show Mode (σ.j+1) (upd σ.D σ.j ⟨8,0,Kc,λ_=>False⟩) mt' σ.ct σ.st σ.sm
  obtain⟨hO,_,ab,aM⟩:=h.m_.zh (by rw[f];trivial);rw[ab,aM,f,I];have:=Mode.opn (j:=σ.j+1) (D:=upd σ.D σ.j ⟨8,0,Kc,λ_=>False⟩) (mt:=mt') (ct:=none) trivial (λi v=>by
   by_cases e:i=σ.j
   ·subst e;rw[upd_same];exact .inl (by simp)
   ·rw[upd_ne σ.D _ e];exact hO i (by omega)) (λvs e=>by cases e)
  rw[NV (by simp),M]at this;exact this
 ·obtain⟨l,O,S,h3⟩:=h.v_
  refine⟨l,O,λi=>?_,?_⟩
  ·rw[S i]
   constructor
   ·rintro⟨a,b,c⟩
    exact⟨UG a,by simp only[d];rw[aa i a];exact b,c⟩
   ·rintro⟨a,b,c⟩
    by_cases e:i=σ.j
    ·subst e
     simp only[d,upd_same]at b;omega
    ·have a':i<σ.j+1:=a
     have:i<σ.j:=by omega
     simp only[d,upd_ne σ.D _ e]at b;exact⟨this,b,c⟩
  ·rw[<-h3,I];exact Y
 ·have:=Q.unb σ.j (R2 _) (by omega)
  generalize hR:σ.R σ.j=R at this⊢;obtain⟨a,b⟩:=R;simp only at this;subst this;exact bS (by omega)
def Dv(G:fo Wg ch base N0 shun)(h:GI P ty Wg ch z An HV Fin n base N0 shun W₀ t₀ gs w t σ){g}(hg:gs[0]? =some g){c}(F:σ.mt=.gc)(U:σ.j=n)(L:σ.d0=0)(X:σ.r0=(90,0,c))
 (Y:I8 P ty Wg ch z An HV Fin n σ.K0 σ.M0 g w):dN P ty Wg ch z An HV Fin n base N0 shun W₀ t₀ t gs w sl σ 0:=by
 have hb:=G.lg;have W:=h.w_;have T:=h.t_;have Q:=h.g_;obtain⟨ak,g',f,Kc,Z,an,ao,aa,B,ab⟩:=Y;have q:=Q.mc.2 (.inr F);have H:gs.size=base+n:=by have:=Q.size;rw[q,U]at this;simpa using this
 have M:0<gs.size:=by omega
 have o:=runT_crowd_spawn (P:=P) (sl:=sl) (i:=0) hg (by simpa using Z);rw[H]at o;have N:MemOp.ofEvents 0 g.frame.fn g.frame.place #[]=#[]:=rfl;rw[N]at o;have I:((#[]:Array MemOp).push {g:=0,fn:=g.frame.fn,pos:=g.frame.place,act:=.go (base+n)}).push {g:=base+n,fn:=f.frame.fn,pos:=g.frame.place,act:=.start}=
  #[{g:=0,fn:=g.frame.fn,pos:=g.frame.place,act:=.go (base+n)},{g:=base+n,fn:=f.frame.fn,pos:=g.frame.place,act:=.start}]:=rfl
 rw[I]at o;have C:∀v∈(#[{g:=0,fn:=g.frame.fn,pos:=g.frame.place,act:=.go (base+n)},{g:=base+n,fn:=f.frame.fn,pos:=g.frame.place,act:=.start}]:Array MemOp),v.act.touch?=none/\v.act≠ .mark .disable/\v.act≠ .mark .enable/\v.act≠ .mark (.release (stA Wg)):=by intro v d;simp only[To,SE,SS,SU]at d;rcases d with rfl|rfl<;>simp[MemAct.touch?]
 have m:=mW (t:=t) (u:=#[{g:=0,fn:=g.frame.fn,pos:=g.frame.place,act:=.go (base+n)},{g:=base+n,fn:=f.frame.fn,pos:=g.frame.place,act:=.start}]) λv d=>⟨(C v d).2.1,(C v d).2.2.1⟩
 have J:=Tt λe=>absurd q (W.Dm.1 e);have O:Deaf t (base+n)=0:=T.above _ (by omega) (λi A=>by omega) λe=>absurd q e;obtain⟨x,hx⟩:=cj.of B;obtain⟨y,hy⟩:=cj.of ab;let p:GSt P ty Wg:={σ with mt:=.rc n [],M0:=λ_=>False,r0:=(20,0,y),ct:=some .wd,Kc:=Kc,Mc:=λ_=>False,rc:=(jD (VW σ.j σ.D) .wd,0,x),dc:=0,low:=upd σ.low (base+n) w.heap.size}
 refine⟨_,w,_,p,o,⟨?_,?_,?_,?_,?_⟩,sV rfl ?_⟩
 ·refine⟨W.os,W.tape,W.output,W.fO,W.old,?_,W.wg,W.sp,?_,W.mw,W.k0,λb e=>e.elim,?_,λ_ b e=>e.elim,W.owns,?_,?_,?_,?_⟩
  ·obtain⟨s,hs⟩:=W.chn
   exact⟨s,by rw[hs,q];rfl⟩
  ·intro i A b E
   simp only[p,upd_ne σ.low w.heap.size (show base+i≠base+n by have:i<σ.j:=A;omega)]at E⊢;exact W.kw i A b E
  ·intro _ b E
   obtain⟨a1,a2,a3,a4⟩:=W.k0 b (aa b E);refine⟨a1,a2,a3,.inr ⟨a4,?_⟩⟩;simp only[p,upd_same];exact a1
  ·intro i A
   simp only[p,upd_ne σ.low w.heap.size (show base+i≠base+n by have:i<σ.j:=A;omega)];exact W.Dl i A
  ·simp only[p,upd_same]
   have:=W.sp.1;constructor
   ·intro _;simp
   ·intro _;omega
  ·intro k K
   by_cases e:k=base+n
   ·exact .inr e
   ·simp only[p,upd_ne σ.low w.heap.size e]at K
    exact W.AS k K
  ·intro k
   by_cases e:k=base+n
   ·subst e;simp only[p,upd_same];exact R2 _
   ·simp only[p,upd_ne σ.low w.heap.size e];exact W.AT k
 ·refine⟨?_,?_,kZ T.seen (R2 _) (zi _ _ _ _ _ _ _),iX T.gb (λv d=>by simp at d;rcases d with rfl|rfl<;>simp only<;>omega),T.norel.app λv d=>(C v d).2.2.2,(m 0).trans T.d0,λi A=>(m _).trans (T.dw i A),λ_=>(m _).trans O,?_,?_,?_,?_⟩
  ·obtain⟨u,rfl⟩:=T.pre
   exact⟨_,Tq ..⟩
  ·exact T.tr.fork ⟨rfl,rfl⟩ ⟨rfl,rfl⟩ (T.d0.trans L) O (by omega) J (by have:=W.sp.1;omega) (by omega)
  ·intro k K R V
   exact(m k).trans (T.above k K R λe=>absurd q e)
  ·intro i A hs
   obtain⟨r,hr⟩:=T.rel i A hs;exact⟨r,oc hr λv d=>(C v d).1⟩
  ·intro hc;cases hc
  ·intro hc;cases hc
 ·refine⟨?_,Q.jn,λ_=>U,⟨g',zk M,?_⟩,⟨λe=>(by cases e),λe=>(by rcases e with⟨_,_,e⟩|e<;>cases e)⟩,?_,Q.unb,?_,?_,?_,?_⟩
  ·show _=base+σ.j+1
   simp[H,U]
  ·show fj P ty Wg ch z An HV Fin n (.rc n []) σ.j σ.d0 σ.K0 (λ_=>False) (20,0,y) g' w
   rw[L,U];exact .rc (by simp) hy
  ·intro i A
   obtain⟨gw,ad,af⟩:=Q.wk i A;have:i<σ.j:=A;exact⟨gw,by rw[rC (by omega) (by omega)];exact ad,af⟩
  ·intro c' e
   simp only[p,SV]at e;subst e;exact⟨f,by rw[<-H];exact zl,.wd hx⟩
  ·intro k gk R V K
   rw[rC (by omega) (by omega)]at K;rw[m];exact Q.lv k gk R V K
  ·rintro⟨a,b,e⟩;cases e
  ·intro a b e;cases e
 ·show Mode σ.j σ.D (.rc n []) (some .wd) σ.st σ.sm
  obtain⟨hO,_,S,ag⟩:=h.m_.zh (by rw[q];trivial);rw[S,ag,F];exact .opn trivial hO λvs e=>by cases e
 ·obtain⟨l,R,V,h3⟩:=h.v_
  exact⟨l,R,V,by rw[<-h3,F];rfl⟩
 ·rw[X];exact bS (by omega)
def Dw(Wg:Nat)(e:Event):Prop:=e=mk (.write (smA Wg))
def zm{e}(h:Dw Wg e){x}(a:(MemAct.ofEvent e).touch?=some x):blk x.loc=some Wg/\x.kind=.said:=by unfold Dw at h;subst h;simp[Go.ConcR.mk,MemAct.ofEvent,MemAct.touch?]at a;subst a;exact⟨rfl,rfl⟩
def Ph(ch:Nat)(e:Event):Prop:=e=⟨.obj ch,false,true⟩\/e=⟨.obj ch,true,true⟩
def zn{e}(h:Ph ch e){x}(a:(MemAct.ofEvent e).touch?=some x):blk x.loc=some ch/\x.kind=.atomic:=by rcases h with rfl|rfl<;>simp[MemAct.ofEvent,MemAct.touch?]at a;subst a;exact⟨rfl,rfl⟩
theorem F8{own low:Nat->Nat}{K M:Nat->Prop}(A:0<base)(l:low (base+n)≠0)
 (m:∀b,K b->b<w.heap.size/\¬spB Wg ch b/\¬shun b/\(own b=base+n\/(own b=0/\b<low (base+n)))) (o:∀b,M b->own b=base+n)
 (p:Wg<w.heap.size/\ch<w.heap.size) (q:∀b,shun b->b<w.heap.size) {es} (r:∀e∈es,EvK Wg (orK K w w') (orK M w w') e\/EvB Wg e\/Dw Wg e\/Ph ch e) (fn) (pos):
 ∀k∈MemOp.ofEvents (base+n) fn pos es,∀x,k.act.touch?=some x->Okx shun (spB Wg ch) (base+n) (gP own (base+n) w w') low (base+n) x:=by
 intro k g x f;obtain⟨e,i,rfl⟩:=Go.Conc.mem_ofEvents g;refine⟨.inr l,?_⟩;obtain h|h|h|h:=r e i
 ·obtain⟨b,j,h⟩:=h.1 x f
  refine⟨b,j,?_⟩;obtain⟨a,h2,h3⟩|⟨rfl,h2⟩:=h
  ·obtain h2|h2:=h2
   ·obtain⟨k1,s,u,d⟩:=m b h2
    have c:gP own (base+n) w w' b=own b:=rA k1;obtain d|⟨d,v⟩:=d
    ·exact .inl ⟨c.trans d,by omega,a⟩
    ·refine .inr (.inl ⟨c.trans d,s,u,a,.inr ⟨by omega,?_,v⟩⟩)
     cases y:x.write with
     |false=>rfl
     |true=>
      obtain h3|h3:=h3 y
      ·have:=o b h3;omega
      ·exact absurd h3.1 (by omega)
   ·exact .inl ⟨jo h2,by omega,a⟩
  ·exact .inr (.inr ⟨.inl rfl,.inl h2⟩)
 ·obtain⟨a,h2⟩:=h.1 x f
  exact⟨Wg,a,.inr (.inr ⟨.inl rfl,.inl h2⟩)⟩
 ·obtain⟨a,h2⟩:=zm h f
  exact⟨Wg,a,.inr (.inr ⟨.inl rfl,.inr ⟨h2,.inr ⟨rfl,by omega⟩⟩⟩)⟩
 ·obtain⟨a,h2⟩:=zn h f
  exact⟨ch,a,.inr (.inr ⟨.inr rfl,.inl h2⟩)⟩
def Dx{a}(b:a.R=σ.R)(c:a.q=σ.q)(h:(a.r0=σ.r0/\Rk.lt P ty Wg a.rc σ.rc)\/Rk.lt P ty Wg a.r0 σ.r0):Dn P ty Wg (mu (n:=n) (base:=base) a) (mu (n:=n) (base:=base) σ):=by
 unfold mu;rw[b,c];refine Prod.Lex.right _ ?_;obtain⟨e,h⟩|h:=h
 ·rw[e];exact Prod.Lex.right _ (Prod.Lex.right _ h)
 ·exact Prod.Lex.left _ _ h
def GI.closer(G:fo Wg ch base N0 shun)(h:GI P ty Wg ch z An HV Fin n base N0 shun W₀ t₀ gs w t σ){g g' es c c' mt' K' M' ρ' r0' d' st' sm'}
 (hc:σ.ct=some c) (hg:gs[base+n]? =some g) (aM:stepG P false g w=.go g' w' es)
 (X:w'.os=w.os/\w'.tape=w.tape/\w'.output=w.output) (m:w.heap.size<=w'.heap.size)
 (H:∀b,b<w.heap.size->b≠Wg->b≠ch->σ.own b≠base+n->w'.heap[b]? =w.heap[b]?) (hwg:WgAt ty Wg w' st' sm')
 (hch:∃s,w'.heap[ch]? =some (.chan 0 #[] (eH (some c')) s s false))
 (O:∀e∈es,EvK Wg (orK σ.Kc w w') (orK σ.Mc w w') e\/EvB Wg e\/Dw Wg e\/Ph ch e)
 (hK:∀b,K' b->orK σ.Kc w w' b) (hM:∀b,M' b->orK σ.Mc w w' b)
 (hS:CSit P ty Wg ch An (VW σ.j σ.D) c' d' K' M' ρ' g' w') (a6:(r0'=σ.r0/\Rk.lt P ty Wg ρ' σ.rc)\/Rk.lt P ty Wg r0' σ.r0) (hd:deafBehind σ.dc es=d')
 (Y:Mode σ.j σ.D mt' (some c') st' sm')
 (Z:∀a,gs[0]? =some a->fj P ty Wg ch z An HV Fin n σ.mt σ.j σ.d0 σ.K0 σ.M0 σ.r0 a w'->(∀r C,σ.mt=.rb r C->c≠ .quit)->fj P ty Wg ch z An HV Fin n mt' σ.j σ.d0 σ.K0 σ.M0 r0' (woken P g g' w' a) w')
 (a7:∀i gw,i<σ.j->WSit P ty Wg ch z (HV i) (σ.D i) (σ.R i) gw w->woken P g g' w' gw=gw)
 (ag:mt'.got=σ.mt.got) (a8:¬((∃r st,mt'=.sp r st)\/mt'=.gc)) (ba:(∃r C,mt'=.rb r C)->c'≠ .quit/\∀i,i<σ.j->(σ.D i).s≠7) (bb:∀r C,mt'=.rw r C->c'=.quit)
 (ak:c'=.cl->AcqAll Wg n base (t++MemOp.ofEvents (base+n) g.frame.fn g.frame.place es)) (an:c'=.quit->AU Wg ch n base (t++MemOp.ofEvents (base+n) g.frame.fn g.frame.place es)):
 dN P ty Wg ch z An HV Fin n base N0 shun W₀ t₀ t gs w sl σ (base+n):=by
 have hb:=G.lg;have W:=h.w_;have T:=h.t_;have Q:=h.g_;have p:σ.ct≠none:=by rw[hc];simp
 have bk:=Q.cn p;have ao:=(R7.1 hg).1;have bm:(base+n==0)=false:=by simp;omega
 have aa:=runT_crowd_go (P:=P) (sl:=sl) (i:=base+n) hg (by rw[bm];exact aM);have q:∀S∈MemOp.ofEvents (base+n) g.frame.fn g.frame.place es,S.g=base+n:=λS I=>by obtain⟨e,_,rfl⟩:=Go.Conc.mem_ofEvents I;rfl
 have ar:=T.tr.uE Wg (.inl rfl);have ax:=T.tr.uE ch (.inr rfl);have ab:WgLive ty Wg w':=⟨_,_,hwg⟩
 have V:∀K:Nat->Prop,(∀b,K b->b<w.heap.size/\¬spB Wg ch b/\σ.own b≠base+n)->RK ty Wg K w w':=λK U=>⟨λb d=>H b (U b d).1 (λe=>(U b d).2.1 (.inl e)) (λe=>(U b d).2.1 (.inr e)) (U b d).2.2,λ_=>ab,m⟩
 have A:∀b,shun b->b<w.heap.size:=λb d=>R6 (G.LB b d) W.fO;have J:=W.Dm.2 p;have ad:∀v r,v<n->RelBy (stA Wg) t (base+v) r->RelBy (stA Wg) (t++MemOp.ofEvents (base+n) g.frame.fn g.frame.place es) (base+v) r:=λv r o hr=>dM hr q (by omega);have f:∀b,b<w.heap.size->gP σ.own (base+n) w w' b=σ.own b:=λb d=>rA d;have bo:∀S∈MemOp.ofEvents (base+n) g.frame.fn g.frame.place es,S.act≠ .mark (.release (stA Wg)):=norel_of λe he=>by
  obtain h1|h1|h1|h1:=O e he
  ·exact h1.2.2.2.1 _
  ·exact h1.2.1 _
  ·unfold Dw at h1;subst h1;simp[Go.ConcR.mk]
  ·rcases h1 with rfl|rfl<;>simp
 have br:∀S∈MemOp.ofEvents (base+n) g.frame.fn g.frame.place es,∀x,S.act.touch?=some x->∀b,blk x.loc=some b->b<w'.heap.size:=by
  intro S I x hx b d;obtain⟨e,bs,rfl⟩:=Go.Conc.mem_ofEvents I;have af:=R6 W.sp.1 m;have bx:=R6 W.sp.2 m;obtain h1|h1|h1|h1:=O e bs
  ·obtain⟨b2,hb2,h1⟩:=h1.1 x hx
   rw[d]at hb2;cases hb2;obtain⟨_,F|F,_⟩|⟨rfl,_⟩:=h1
   ·exact R6 (W.kc p b F).1 m
   ·exact F.2
   ·exact af
  ·have:=(h1.1 x hx).1
   rw[d]at this;cases this;exact af
  ·have:=(zm h1 hx).1
   rw[d]at this;cases this;exact af
  ·have:=(zn h1 hx).1
   rw[d]at this;cases this;exact bx
 have bA:∀e∈es,(MemAct.ofEvent e).touch?=none->(MemAct.ofEvent e).low w'.heap.size:=by
  intro e he L;obtain h1|h1|h1|h1:=O e he
  ·exact h1.2.2.2.2 _ L
  ·exact h1.2.2 _ (R6 W.sp.1 m) L
  ·unfold Dw at h1;subst h1;simp[Go.ConcR.mk,MemAct.ofEvent,MemAct.touch?]at L
  ·obtain rfl|rfl:=h1
   ·simp[MemAct.ofEvent,MemAct.touch?]at L
   ·exact R6 W.sp.2 m
 let y:GSt P ty Wg:={σ with mt:=mt',r0:=r0',ct:=some c',Kc:=K',Mc:=M',rc:=ρ',dc:=d',own:=gP σ.own (base+n) w w',st:=st',sm:=sm'}
 refine⟨_,w',_,y,aa,⟨?_,?_,?_,Y,?_⟩,Dx rfl rfl a6⟩
 ·refine⟨X.1.trans W.os,X.2.1.trans W.tape,X.2.2.trans W.output,R3 W.fO m,λb d=>?_,hch,hwg,⟨R6 W.sp.1 m,R6 W.sp.2 m⟩,?_,?_,?_,?_,?_,?_,?_,W.Dl,?_,W.AS,λk=>R3 (W.AT k) m⟩
  ·rw[H b (R6 d W.fO) (by have:=G.wg_;omega) (by have:=G.ch_;omega) (λe=>by have:=(W.owns b (by omega)).1;omega)]
   exact W.old b d
  ·intro v o b d
   obtain⟨a1,E,M,B⟩:=W.kw v o b d;refine⟨R6 a1 m,E,M,?_⟩;show gP σ.own (base+n) w w' b=base+v\/(gP σ.own (base+n) w w' b=0/\b<σ.low (base+v))
   rw[f b a1];exact B
  ·intro v o b d
   have:=W.mw v o b d;have N:=(W.owns b (by omega)).2.2.1;exact(f b N).trans this
  ·intro b d
   obtain⟨a1,E,M,B⟩:=W.k0 b d;exact⟨R6 a1 m,E,M,(f b a1).trans B⟩
  ·intro b d
   obtain⟨a1,E,M,B,a5⟩:=W.m0 b d;exact⟨R6 a1 m,E,M,(f b a1).trans B,a5⟩
  ·intro _ b d
   obtain hb2|hb2:=hK b d
   ·obtain⟨a1,E,M,B⟩:=W.kc p b hb2
    refine⟨R6 a1 m,E,M,?_⟩;show gP σ.own (base+n) w w' b=base+n\/(gP σ.own (base+n) w w' b=0/\b<σ.low (base+n))
    rw[f b a1];exact B
   ·refine⟨hb2.2,λe=>?_,λe=>absurd (A b e) (Ti.2 hb2.1),.inl (jo hb2)⟩
    obtain e|e:=e
    ·have:=W.sp.1;have:=hb2.1;omega
    ·have:=W.sp.2;have:=hb2.1;omega
  ·intro _ b d
   obtain hb2|hb2:=hM b d
   ·have:=W.mc p b hb2
    have N:=(W.owns b (by omega)).2.2.1;exact(f b N).trans this
   ·exact jo hb2
  ·intro b d
   by_cases L:F3 w w' b
   ·have e:y.own b=base+n:=jo L
    refine⟨R3 W.fO L.1,by rw[e];omega,L.2,λe=>?_⟩;obtain e|e:=e
    ·have:=W.sp.1;have:=L.1;omega
    ·have:=W.sp.2;have:=L.1;omega
   ·have e:y.own b=σ.own b:=by show gP σ.own (base+n) w w' b=_;unfold gP;exact RY L
    rw[e]at d⊢;obtain⟨a1,E,M,B⟩:=W.owns b d;exact⟨a1,E,R6 M m,B⟩
  ·exact⟨λ_=>by simp[y],λ_=>J⟩
 ·refine⟨?_,?_,kZ T.seen m (wv br bA),iX T.gb λS I=>by rw[q S I];omega,T.norel.app bo,(Deaf_other t (by omega) _ q).trans T.d0,λv o=>(Deaf_other t (by have:v<σ.j:=o;omega) _ q).trans (T.dw v o),?_,?_,?_,?_,?_⟩
  ·obtain⟨u,rfl⟩:=T.pre
   exact⟨_,Tq ..⟩
  ·have ht:=T.tr.owned (own':=gP σ.own (base+n) w w') T.tb f (λb d=>by
    obtain rfl|rfl:=d
    ·rw[f _ W.sp.1];exact ar
    ·rw[f _ W.sp.2];exact ax)
   exact ht.app q (λ_=>J) (F8 hb J (W.kc p) (W.mc p) W.sp A O _ _)
  ·intro _
   show Deaf _ _=d';rw[Deaf_own,T.dc p];exact hd
  ·intro k hk h1 F
   exact(Deaf_other t (g:=k) (g':=base+n) (λe=>F (by simp[y]) e.symm) _ q).trans (T.above k hk h1 λ_=>λe=>F (by simp[y]) e)
  ·intro v o C
   obtain⟨r,hr⟩:=T.rel v o C;exact⟨r,ad v r (R6 o Q.jn) hr⟩
  ·intro e
   exact ak (SD e)
  ·intro e
   exact an (SD e)
 ·refine⟨?_,Q.jn,λ_=>bk,?_,?_,?_,Q.unb,?_,?_,?_,?_⟩
  ·have:=Q.size
   rw[hc]at this;simpa[y]using this
  ·obtain⟨a,ha,bB⟩:=Q.mn
   refine⟨woken P g g' w' a,by rw[bK _ _ _ _ _ (by omega),ha];rfl,?_⟩;have hr:=V _ λb d=>by obtain⟨a1,E,M,B⟩:=W.k0 b d;exact⟨a1,E,by omega⟩
   exact Z a ha (bB.rely hr) λr C e e2=>(Q.mb ⟨r,C,e⟩).1 (by rw[hc,e2])
  ·exact⟨λe=>by simp[y]at e,λe=>absurd e a8⟩
  ·intro v o
   obtain⟨gw,bC,ay⟩:=Q.wk v o;have b3:=R6 o Q.jn;refine⟨woken P g g' w' gw,by rw[bK _ _ _ _ _ (by omega),bC];rfl,?_⟩;have hr:=V _ λb d=>by obtain⟨a1,E,M,B⟩:=W.kw v o b d;refine⟨a1,E,?_⟩;rcases B with B|B<;>omega
   rw[a7 v gw o ay];exact ay.rely hr
  ·intro c2 e
   have e:=SD e;subst e;exact⟨g',eW _ _ _ _ ao,hS⟩
  ·intro k gk h1 F hk
   rw[bK _ _ _ _ _ (by omega)]at hk;obtain⟨b0,b1,rfl⟩:=SH.1 hk;have hq:=Q.lv k b0 h1 F b1;rw[woken_quitsD hq,Deaf_other t (by omega) _ q];exact hq
  ·rintro⟨r,C,e⟩
   obtain⟨h1,F⟩:=ba ⟨r,C,e⟩;exact⟨λe'=>h1 (SD e'),F⟩
  ·intro r C e
   exact SL some (bb r C e)
 ·obtain⟨l,h1,F,h3⟩:=h.v_
  exact⟨l,h1,F,ag.trans h3⟩
def wL(G:fo Wg ch base N0 shun)(h:GI P ty Wg ch z An HV Fin n base N0 shun W₀ t₀ gs w t σ){g g' es c c' X Y ρ' d' st' sm'}
 (l:σ.ct=some c) (hg:gs[base+n]? =some g) (F:stepG P false g w=.go g' w' es)
 (H:w'.os=w.os/\w'.tape=w.tape/\w'.output=w.output) (I:w.heap.size<=w'.heap.size)
 (d:∀b,b<w.heap.size->b≠Wg->σ.own b≠base+n->w'.heap[b]? =w.heap[b]?) (hwg:WgAt ty Wg w' st' sm')
 (J:∀e∈es,EvK Wg (orK σ.Kc w w') (orK σ.Mc w w') e\/EvB Wg e\/Dw Wg e)
 (hK:∀b,X b->orK σ.Kc w w' b) (hM:∀b,Y b->orK σ.Mc w w' b)
 (hS:CSit P ty Wg ch An (VW σ.j σ.D) c' d' X Y ρ' g' w') (K:Rk.lt P ty Wg ρ' σ.rc) (hd:deafBehind σ.dc es=d')
 (m:Mode σ.j σ.D σ.mt (some c') st' sm') (q:c'=.quit↔c=.quit)
 (u:c'=.cl->c=.cl\/AcqAll Wg n base (t++MemOp.ofEvents (base+n) g.frame.fn g.frame.place es)) (v:c=.quit->∀e∈es,(MemAct.ofEvent e).touch?=none):
 dN P ty Wg ch z An HV Fin n base N0 shun W₀ t₀ t gs w sl σ (base+n):=by
 have hb:=G.lg;have W:=h.w_;have T:=h.t_;have Q:=h.g_;have y:=T.tr.uE ch (.inr rfl);have L:eH (some c')=eH σ.ct:=by
  rw[l];by_cases e:c=.quit
  ·rw[q.2 e,e]
  ·rw[fp (by simpa usingλx=>e (q.1 x)),fp (by simpa using e)]
 have f:=d ch W.sp.2 (Sn G.ne_) (by rw[y];omega);obtain⟨s,M⟩:=W.chn;have A:∀N∈MemOp.ofEvents (base+n) g.frame.fn g.frame.place es,N.g=base+n:=λN O=>by obtain⟨e,_,rfl⟩:=Go.Conc.mem_ofEvents O;rfl
 have k:∀E r,E<n->RelBy (stA Wg) t (base+E) r->RelBy (stA Wg) (t++MemOp.ofEvents (base+n) g.frame.fn g.frame.place es) (base+E) r:=λE r ab hr=>dM hr A (by omega);refine h.closer G l hg F H I (λb h1 R _ h3=>d b h1 R h3) hwg ⟨s,by rw[f,M,L]⟩ (λe he=>(J e he).imp id (.imp id .inl)) hK hM hS (.inl ⟨rfl,K⟩) hd m ?_ ?_ rfl ?_ ?_ ?_ ?_ ?_
 ·intro a _ B o
  have:woken P g g' w' a=a:=by
   obtain⟨h1,_⟩|⟨r,p,g2,h1,_⟩:=B.status
   ·unfold Go.Conc.woken
    split
    ·exact again_running _ (.inl h1)
    ·rfl
   ·refine B.woken g g' w' ⟨s,s,false,?_⟩
    rw[f,M,l,fp (by simpa using o r p h1)]
  rw[this];exact B
 ·intro i gw Z hw
  refine hw.woken g g' w' λh7=>⟨s,s,false,?_⟩
  have o:c≠ .quit:=λe=>by have:=h.m_.wu (by rw[l,e];trivial) i Z;rw[h7]at this;cases this
  rw[f,M,l,fp (by simpa using o)]
 ·exactλe=>absurd (Q.mc.2 e) (by rw[l];simp)
 ·intro B
  obtain⟨h1,R⟩:=Q.mb B;exact⟨λe=>h1 (by rw[l,q.1 e]),R⟩
 ·intro r p e
  have:=Q.mq r p e;rw[l]at this;exact q.2 (SD this)
 ·intro e
  obtain e'|h1:=u e
  ·exact kB (T.acq (by rw[l,e'])) k
  ·exact h1
 ·intro e
  refine kC (T.cls (by rw[l,q.1 e])) k λi Z ad S=>?_;obtain⟨x,hx,_⟩:=S;obtain⟨N,ho,C⟩:=touch_of hx;obtain⟨aa,_⟩|⟨_,U⟩:=getElem?_append_cases ho
  ·omega
  ·obtain⟨ev,V,rfl⟩:=Go.Conc.mem_ofEvents U
   rw[v (q.1 e) ev V]at C;cases C
def eJ(G:fo Wg ch base N0 shun)(h:GI P ty Wg ch z An HV Fin n base N0 shun W₀ t₀ gs w t σ){g g' es c ρ'}
 (k:σ.ct=some c) (s:gs[base+n]? =some g) (l:stepG P false g w=.go g' w' es) (m:c≠ .quit)
 (a:Eff σ.Mc w w') (f:∀e∈es,EvK Wg (orK σ.Kc w w') (orK σ.Mc w w') e)
 (u:CSit P ty Wg ch An (VW σ.j σ.D) c σ.dc (orK σ.Kc w w') (orK σ.Mc w w') ρ' g' w') (o:Rk.lt P ty Wg ρ' σ.rc):
 dN P ty Wg ch z An HV Fin n base N0 shun W₀ t₀ t gs w sl σ (base+n):=by
 have W:=h.w_;have T:=h.t_;have A:=G.lg;have i:σ.ct≠none:=by rw[k];simp
 have r:=T.tr.uE Wg (.inl rfl);have d:∀b,b<w.heap.size->σ.own b≠base+n->w'.heap[b]? =w.heap[b]? :=λb p q=>a.keep b p λv=>q (W.mc i b v);exact wL (st':=σ.st) (sm':=σ.sm) G h k s l ⟨a.os,a.tape,a.output⟩ a.size (λb p _ q=>d b p q) (W.wg.of_block (d Wg W.sp.1 (by omega))) (λe y=>.inl (f e y)) (λ_ x=>x) (λ_ x=>x) u o (wH f _)
  (by rw[<-k];exact h.m_) T1 (λe=>.inl e) (λe=>absurd e m)
def dV(G:fo Wg ch base N0 shun)(h:GI P ty Wg ch z An HV Fin n base N0 shun W₀ t₀ gs w t σ){g g' es c c' ρ' d' st' sm'}
 (q:σ.ct=some c) (r:gs[base+n]? =some g) (m:stepG P false g w=.go g' w' es)
 (s:w'=w\/∃a v,a.block=Wg/\w'=w.setCell a v) (hwg:WgAt ty Wg w' st' sm')
 (o:∀e∈es,EvB Wg e\/Dw Wg e)
 (u:CSit P ty Wg ch An (VW σ.j σ.D) c' d' σ.Kc σ.Mc ρ' g' w') (p:Rk.lt P ty Wg ρ' σ.rc) (x:deafBehind σ.dc es=d')
 (d:Mode σ.j σ.D σ.mt (some c') st' sm') (y:c'=.quit↔c=.quit)
 (f:c'=.cl->AcqAll Wg n base (t++MemOp.ofEvents (base+n) g.frame.fn g.frame.place es)) (i:c=.quit->∀e∈es,(MemAct.ofEvent e).touch?=none):
 dN P ty Wg ch z An HV Fin n base N0 shun W₀ t₀ t gs w sl σ (base+n):=by
 have k:w'.os=w.os/\w'.tape=w.tape/\w'.output=w.output/\w'.heap.size=w.heap.size/\∀b,b≠Wg->w'.heap[b]? =w.heap[b]? :=by
  obtain rfl|⟨a,v,A,rfl⟩:=s
  ·exact⟨rfl,rfl,rfl,rfl,λ_ _=>rfl⟩
  ·exact lN a v A
 exact wL G h q r m ⟨k.1,k.2.1,k.2.2.1⟩ (TM k.2.2.2.1.symm) (λb _ l _=>k.2.2.2.2 b l) hwg (λe B=>.inr (o e B)) (λb l=>.inl l) (λb l=>.inl l) u p x d y (λe=>.inr (f e)) i
def Mode.OJ{j D mt ct st sm}(h:Mode j D mt ct st sm)(g:CTag.reg ct):(sm=0/\∀e,CTag.reg e->Mode j D mt e st sm)\/(Dk j D/\st=0/\sm=1):=by
 have no:∀{ct:Option CTag},CTag.reg ct->(CTag.opn ct->False)/\(CTag.fin ct->False):=by
  intro ct h;cases ct with
  |none=>exact h.elim
  |some c=>cases c<;>first|exact h.elim|exact⟨id,id⟩
 cases h with
 |opn a=>exact((no g).1 a).elim
 |reg a b c=>exact .inl ⟨rfl,λe f=>.reg f b c⟩
 |last L a b c d=>exact .inl ⟨rfl,λe f=>.last L f b c d⟩
 |sema a b c=>exact .inr ⟨c,rfl,rfl⟩
 |fin a=>exact((no g).2 a).elim
def Mode.isFin{j D mt ct st sm}(h:Mode j D mt ct st sm)(d:CTag.fin ct):Dk j D/\st=0/\sm=0:=by
 have no:∀{ct:Option CTag},CTag.fin ct->(CTag.opn ct->False)/\(CTag.reg ct->False):=by
  intro ct h;cases ct with
  |none=>exact h.elim
  |some c=>cases c<;>first|exact h.elim|exact⟨id,id⟩
 cases h with
 |opn a=>exact((no d).1 a).elim
 |reg a=>exact((no d).2 a).elim
 |last L a=>exact((no d).2 a).elim
 |sema a=>exact((no d).2 a).elim
 |fin a b=>exact⟨b,rfl,rfl⟩
def NW{j D}(h:VW j D=0)(b:tT j D):Dk j D:=by
 intro i a;obtain c|h0:=b i a
 ·have:=F5 a c;omega
 ·exact h0
end
end Go.Tm

import Derived.Conc.Pipeline2
import Derived.Test.YtaglpcmhopjebaaGreatDoorY4
set_option linter.all false
set_option maxRecDepth 100000
set_option maxHeartbeats 20000000
namespace Go.Tm
open Go.Conc Go.ConcN Go.Conc.Lib
open Go.ConcR (KK WgAt stA smA rd wr mk DC0 Bk)
def Mode.AL{j D mt ct st sm}(h:Mode j D mt ct st sm)(d:CTag.opn ct):vp j D/\(∀e,ct=some (.w2 e)->VW j D<=e/\1<=e)/\st=((VW j D+mt.pend:Nat):Int)*KK/\sm=0:=by (have no:∀{ct:Option CTag},CTag.opn ct->(CTag.reg ct->False)/\(CTag.fin ct->False):=by intro ct h;cases ct with|none=>exact⟨id,id⟩|some c=>cases c<;>first|exact h.elim|exact⟨id,id⟩);cases h with|opn a b c=>exact⟨b,c,rfl,rfl⟩|reg a=>exact((no d).1 a).elim|last _ a=>exact((no d).1 a).elim|sema a=>exact((no d).1 a).elim|fin a=>exact((no d).2 a).elim
def Mode.uo{j D mt mt' ct st sm}(h:Mode j D mt ct st sm)(e:mt'.pend=mt.pend):Mode j D mt' ct st sm:=by cases h with|opn a b c=>rw[<-e];exact .opn a b c|reg a b c=>exact .reg a b c|last L a b c d=>exact .last L a b c d|sema a b c=>exact .sema a b c|fin a b=>exact .fin a b
section
variable {P:Program} {ty:TypeId} {Wg ch:Nat} {z:Zj} {An:aL} {HV:Nat->Option Zj} {Fin:List Zj->aL} {n base N0:Nat} {shun:Nat->Prop} {F0:x6} {t₀ t:Trace} {gs:Array Zx} {w w':x6} {sl:Option (Nat×Nat)} {σ:GSt P ty Wg}
def fR(G:fP Wg ch base N0 shun)(h:GI P ty Wg ch z An HV Fin n base N0 shun F0 t₀ gs w t σ){g g' es ρ'} (s:gs[0]? =some g) (k:stepG P true g w=.go g' w' es) (f:g'.status=.running) (l:∀r q,σ.mt≠ .rb r q/\σ.mt≠ .rw r q) (d:Eff σ.M0 w w') (i:∀e∈es,EvK Wg (orK σ.K0 w w') (orK σ.M0 w w') e) (u:fO P ty Wg ch z An HV Fin n σ.mt σ.j σ.d0 (orK σ.K0 w w') (orK σ.M0 w w') ρ' g' w') (m:Rk.lt P ty Wg ρ' σ.r0):dW P ty Wg ch z An HV Fin n base N0 shun F0 t₀ t gs w sl σ 0:=by
 have W:=h.w_;obtain⟨gs',o,v,y,A⟩:=h.wR (sl:=sl) (mt':=σ.mt) (st':=σ.st) (sm':=σ.sm) G s k f ⟨d.os,d.tape,d.output⟩ d.size (λb a _ c=>d.keep b a c)
  (W.wg.of_block (d.keep Wg W.sp.1 λe=>(W.m0 Wg e).2.1 (.inl rfl))) (λe B=>.inl (i e B)) (λ_ x=>x) (λ_ x=>x) u m (yd i _) (λC p=>h.m_.retag p) rfl WC l
 exact⟨gs',w',_,o,v,y,A⟩
def lB(G:fP Wg ch base N0 shun)(h:GI P ty Wg ch z An HV Fin n base N0 shun F0 t₀ gs w t σ){g g' es mt' ρ' d' st' sm'} (y:gs[0]? =some g) (m:stepG P true g w=.go g' w' es) (c:g'.status=.running) (A:w'=w\/∃a v,a.block=Wg/\w'=w.setCell a v) (hwg:WgAt ty Wg w' st' sm') (o:∀e∈es,EvB Wg e\/(E7 Wg e/\σ.ct=none)) (B:fO P ty Wg ch z An HV Fin n mt' σ.j d' σ.K0 σ.M0 ρ' g' w') (p:Rk.lt P ty Wg ρ' σ.r0) (C:deafBehind σ.d0 es=d') (d:∀f,(f=σ.ct\/(σ.ct=some .blk/\f=some .w3))->Mode σ.j σ.D mt' f st' sm') (i:mt'.got=σ.mt.got) (q:((∃r st,mt'=.sp r st)\/mt'=.gc)↔((∃r st,σ.mt=.sp r st)\/σ.mt=.gc)) (s:∀r x,mt'≠ .rb r x/\mt'≠ .rw r x):dW P ty Wg ch z An HV Fin n base N0 shun F0 t₀ t gs w sl σ 0:=by (have k:w'.os=w.os/\w'.tape=w.tape/\w'.output=w.output/\w'.heap.size=w.heap.size/\∀b,b≠Wg->w'.heap[b]? =w.heap[b]? :=by obtain rfl|⟨a,v,E,rfl⟩:=A;exact⟨rfl,rfl,rfl,rfl,λ_ _=>rfl⟩;exact mL a v E);obtain⟨gs',u,F,H,I⟩:=h.wR (sl:=sl) G y m c ⟨k.1,k.2.1,k.2.2.1⟩ (Wh k.2.2.2.1.symm) (λb _ l _=>k.2.2.2.2 b l) hwg (λe J=>.inr (o e J)) (λb l=>.inl l) (λb l=>.inl l) B p C d i q s;exact⟨gs',w',_,u,F,H,I⟩
def yh{r st c st'}:((∃a b,(oy.sp r st)=.sp a b)\/oy.sp r st=.gc)↔((∃a b,(oy.sp c st')=.sp a b)\/oy.sp c st'=.gc):=⟨λ_=>.inl ⟨_,_,rfl⟩,λ_=>.inl ⟨_,_,rfl⟩⟩
def CZ(G:fP Wg ch base N0 shun)(hn:n<2147483647)(h:GI P ty Wg ch z An HV Fin n base N0 shun F0 t₀ gs w t σ){g:Zx}(A:gs[0]? =some g)(N:g.status=.running):dW P ty Wg ch z An HV Fin n base N0 shun F0 t₀ t gs w sl σ 0\/(∃r c,r<n/\σ.mt=.sp r 1/\σ.j=n-(r+1)/\σ.d0=0/\σ.r0=(100+10*r+1,0,c)/\SGo P ty Wg ch z HV n r (SSp P ty Wg ch z An HV Fin n r) σ.K0 σ.M0 g w)\/(∃c,σ.mt=.gc/\σ.j=n/\σ.d0=0/\σ.r0=(90,0,c)/\KO P ty Wg ch z An HV Fin n σ.K0 σ.M0 g w)\/(∃r O c Y,r+O.length=n/\(σ.mt=.rc r O/\g=Y/\σ.r0=(20,0,c)\/σ.mt=.rw r O/\g={parked {Y with offers:=none} #[rcase ch z] (.recv true)with status:=.running}/\σ.r0=(18,0,c))/\σ.j=n/\σ.d0=0/\∀H,RK ty Wg σ.K0 w H->pj P ty Wg ch z HV Fin n r O σ.K0 σ.M0 Y H):=by
 obtain⟨g0,S,hm⟩:=h.g_.mn;rw[A]at S;cases S;have W:=h.w_;have Q:=h.g_;obtain⟨j,D,R,mt,K0,M0,r0,d0,ct,Kc,Mc,rc,dc,q,own,low,st,sm⟩:=σ;simp only at hm W Q;have I:((∃r st,mt=.sp r st)\/mt=.gc)->ct=none:=Q.mc.2;have T:∀o:Option CTag,ct=none->(o=ct\/(ct=some .blk/\o=some .w3))->o=none:=by intro o h0 hc;obtain rfl|⟨a,_⟩:=hc;exact h0;rw[h0]at a;cases a
 cases hm with
 |kd m B=>
  refine .inl ?_;obtain k|⟨_,g',w',es,L,d,f,l,i,p⟩:=B.qR;obtain⟨_,g',d,s⟩:=k
  obtain⟨x,v⟩:=cW.of s;exact lB (mt':=.sp _ 4) G h A d (v.status λ_ _ _ _ y=>y.1) (.inl rfl) W.wg (λe C=>by simp at C;subst C;exact .inl (iO λa=>by simp)) (.a1 m v) (cj (by omega)) rfl
   (λo u=>(h.m_.retag u).uo rfl) rfl yh (λ_ _=>by simp)
  exact fR G h A d (i.status λ_ _ _ _ y=>y.1) (λ_ _=>by simp) f l (.kd m i) (fF p)
 | @a1 K M g w c r m B=>
  refine .inl ?_;obtain k|⟨_,g',w',es,L,d,f,l,i,p⟩:=B.qR;obtain⟨_,k⟩:=k;have U:=I (.inl ⟨_,_,rfl⟩);obtain⟨hO,_,J,V⟩:=h.m_.AL (by show CTag.opn ct;rw[U];trivial);have hV:=NM (n-(r+1)) D;have hwg:=W.wg;simp only at J V hwg hO;rw[J,V]at hwg;have hwg:WgAt ty Wg w (((VW (n-(r+1)) D:Nat):Int)*KK) 0:=by simpa[oy.pend]using hwg
  obtain⟨g',d,hnx⟩:=k (VW (n-(r+1)) D) (by omega) hwg;have l:=nk (Wg:=Wg) (.inl rfl);have E:∀F:Nat,F<=3->∀o,(o=ct\/(ct=some .blk/\o=some .w3))->Mode (n-(r+1)) D (.sp r F) o ((((VW (n-(r+1)) D:Nat):Int)+1)*KK) 0:=by intro F h2 o u;rw[T o U u];have:=Mode.opn (j:=n-(r+1)) (D:=D) (mt:=.sp r F) (ct:=none) trivial hO (λvs e=>by cases e);simpa[oy.pend,h2]using this
  obtain hnx|hnx:=hnx;obtain⟨x,v⟩:=cW.of hnx
  exact lB (mt':=.sp r 3) G h A d (v.status λ_ _ _ _ y=>y.1) (.inr ⟨_,_,rfl,rfl⟩) (hwg.setSt _) (λe C=>by obtain⟨a,b,Z,rfl⟩:=l e C;exact .inl (fg Z b)) (.sr m v) (cj (by omega)) (kS _ _)
   (E 3 (by omega)) rfl yh (λ_ _=>by simp)
  obtain⟨x,v⟩:=cW.of hnx
  exact lB (mt':=.sp r 2) G h A d (v.status λ_ _ _ _ y=>y.1) (.inr ⟨_,_,rfl,rfl⟩) (hwg.setSt _) (λe C=>by obtain⟨a,b,Z,rfl⟩:=l e C;exact .inl (fg Z b)) (.ke m v) (cj (by omega)) (kS _ _)
   (E 2 (by omega)) rfl yh (λ_ _=>by simp)
  exact fR G h A d (i.status λ_ _ _ _ y=>y.1) (λ_ _=>by simp) f l (.a1 m i) (fF p)
 |sr m B=>
  refine .inl ?_;obtain k|⟨_,g',w',es,L,d,f,l,i,p⟩:=B.qR;obtain⟨_,g',d,s⟩:=k
  obtain⟨x,v⟩:=cW.of s;exact lB (mt':=.sp _ 2) G h A d (v.status λ_ _ _ _ y=>y.1) (.inl rfl) W.wg (λe C=>by simp at C;subst C;exact .inr ⟨rfl,I (.inl ⟨_,_,rfl⟩)⟩) (.ke m v) (cj (by omega)) rfl
   (λo u=>(h.m_.retag u).uo rfl) rfl yh (λ_ _=>by simp)
  exact fR G h A d (i.status λ_ _ _ _ y=>y.1) (λ_ _=>by simp) f l (.sr m i) (fF p)
 |ke m B=>
  refine .inl ?_;obtain k|⟨_,g',w',es,L,d,f,l,i,p⟩:=B.qR;obtain⟨_,g',d,s⟩:=k
  obtain⟨x,v⟩:=cW.of s;exact lB (mt':=.sp _ 1) G h A d (v.status λ_ _ _ _ y=>y.1) (.inl rfl) W.wg (λe C=>by simp at C;subst C;exact .inl (iO λa=>by simp)) (.go m v) (cj (by omega)) rfl
   (λo u=>(h.m_.retag u).uo rfl) rfl yh (λ_ _=>by simp)
  exact fR G h A d (i.status λ_ _ _ _ y=>y.1) (λ_ _=>by simp) f l (.ke m i) (fF p)
 |go m B=>obtain k|⟨_,g',w',es,L,d,f,l,i,p⟩:=B.qR;exact .inr (.inl ⟨_,_,m,rfl,rfl,rfl,rfl,k⟩);exact .inl (fR G h A d (i.status λ_ _ _ _ y=>y.1) (λ_ _=>by simp) f l (.go m i) (fF p))
 |gc B=>obtain k|⟨_,g',w',es,L,d,f,l,i,p⟩:=B.qR;exact .inr (.inr (.inl ⟨_,rfl,rfl,rfl,rfl,k⟩));exact .inl (fR G h A d (i.status λ_ _ _ _ y=>y.1) (λ_ _=>by simp) f l (.gc i) (fF p))
 |rc X B=>obtain k|⟨_,g',w',es,L,d,f,l,i,p⟩:=B.mK;exact .inr (.inr (.inr ⟨_,_,_,g,X,.inl ⟨rfl,rfl,rfl⟩,rfl,rfl,k⟩));exact .inl (fR G h A d (i.status (AI _ _)) (λ_ _=>by simp) f l (.rc X i) (fF p))
 |rb=>cases N
 | @rw K M g w c r O X k=>exact .inr (.inr (.inr ⟨_,_,c,g,X,.inr ⟨rfl,rfl,rfl⟩,rfl,rfl,k⟩))
end
section
variable {P:Program} {ty:TypeId} {Wg ch:Nat} {z:Zj} {An:aL} {HV:Nat->Option Zj} {Fin:List Zj->aL} {n base N0:Nat} {shun:Nat->Prop} {F0:x6} {t₀ t:Trace} {gs:Array Zx} {w w':x6} {sl:Option (Nat×Nat)} {σ:GSt P ty Wg}
def nR{u:Trace}(c:∀b∈u,b.act≠ .mark .disable/\b.act≠ .mark .enable)(g):Deaf (t++u) g=Deaf t g:=by obtain⟨l⟩:=u;rw[Deaf_append];induction l generalizing t with|nil=>rfl|cons y l f=>(have d:=c y (by simp);have e1:deafStep g (Deaf t g) y=Deaf t g:=by unfold deafStep;split;rename_i e;exact absurd e d.1;rename_i e;exact absurd e d.2;rfl);rw[XW,e1];exact f λb a=>c b (by simp at a⊢;exact .inr a)
def pn{a k r}{u:Trace}(h:RelBy a t k r)(f:∀c∈u,c.act.touch?=none):RelBy a (t++u) k r:=by refine h.app λi m _ g=>?_;obtain⟨x,j,_⟩:=g;obtain⟨c,d,b⟩:=touch_of j;obtain⟨l,_⟩|⟨_,e⟩:=getElem?_append_cases d;omega;rw[f c e]at b;cases b
def AM(a b c f h i j){B}:∀e∈(#[{g:=a,fn:=f,pos:=i,act:=.go b},{g:=c,fn:=h,pos:=j,act:=.start}]:Trace),e.act.low B:=by intro e d;simp only[VH,U8,Vf,Vh]at d;rcases d with rfl|rfl<;>trivial
def sZ{gs:Array Zx}{x c k}(b:k<gs.size)(a:k≠0):((gs.setIfInBounds 0 x).push c)[k]? =gs[k]? :=by rw[VD,UG (by simp;omega),UU (U4 a)]
def AN{gs:Array Zx}{x c}(h:0<gs.size):((gs.setIfInBounds 0 x).push c)[0]? =some x:=by rw[VD,UG (by simp;omega)];simp[h]
def AO{gs:Array Zx}{x c}:((gs.setIfInBounds 0 x).push c)[gs.size]? =some c:=by rw[VD,UH (by simp)]
def Qk{j D d}(a:4<=d.s):VW (j+1) (upd D j d)=VW j D+1:=by unfold VW;simp only[sumTo,upd_same];rw[sumTo_congr (g:=λi=>kg (D i)) λi b=>by rw[upd_ne D d (by omega)]];have:kg d=1:=UH a;omega
def Is(G:fP Wg ch base N0 shun)(h:GI P ty Wg ch z An HV Fin n base N0 shun F0 t₀ gs w t σ){g}(hg:gs[0]? =some g){r}{c:RC P ty Wg}(aR:r<n)(I:σ.mt=.sp r 1)(hj:σ.j=n-(r+1))(E:σ.d0=0) (ad:SGo P ty Wg ch z HV n r (SSp P ty Wg ch z An HV Fin n r) σ.K0 σ.M0 g w):dW P ty Wg ch z An HV Fin n base N0 shun F0 t₀ t gs w sl σ 0:=by
 have hb:=G.lZ;have W:=h.w_;have T:=h.t_;have Q:=h.g_;obtain⟨aM,g',o,Kc,af,a6,a7,ag,F,ak⟩:=ad;have f:=Q.mc.2 (.inl ⟨_,_,I⟩);have J:gs.size=base+σ.j:=by have:=Q.size;rw[f]at this;simpa using this
 have U:0<gs.size:=by omega
 have s:=runT_crowd_spawn (P:=P) (sl:=sl) (i:=0) hg (by simpa using af);rw[J]at s;have V:MemOp.ofEvents 0 g.frame.fn g.frame.place #[]=#[]:=rfl;rw[V]at s;have K:((#[]:Array MemOp).push {g:=0,fn:=g.frame.fn,pos:=g.frame.place,act:=.go (base+σ.j)}).push {g:=base+σ.j,fn:=o.frame.fn,pos:=g.frame.place,act:=.start}=
  #[{g:=0,fn:=g.frame.fn,pos:=g.frame.place,act:=.go (base+σ.j)},{g:=base+σ.j,fn:=o.frame.fn,pos:=g.frame.place,act:=.start}]:=rfl
 rw[K]at s;have H:∀B∈(#[{g:=0,fn:=g.frame.fn,pos:=g.frame.place,act:=.go (base+σ.j)},{g:=base+σ.j,fn:=o.frame.fn,pos:=g.frame.place,act:=.start}]:Array MemOp),B.act.touch?=none/\B.act≠ .mark .disable/\B.act≠ .mark .enable/\B.act≠ .mark (.release (stA Wg)):=by intro B m;simp only[VH,U8,Vf,Vh]at m;rcases m with rfl|rfl<;>simp[MemAct.touch?]
 have p:=nR (t:=t) (u:=#[{g:=0,fn:=g.frame.fn,pos:=g.frame.place,act:=.go (base+σ.j)},{g:=base+σ.j,fn:=o.frame.fn,pos:=g.frame.place,act:=.start}]) λB m=>⟨(H B m).2.1,(H B m).2.2.1⟩
 have L:σ.low (base+σ.j)=0:=VV λe=>by rcases W.CU _ e with⟨i,v,e2⟩|e2<;>omega
 have X:Deaf t (base+σ.j)=0:=T.above _ (by omega) (λi v=>by omega) λe=>absurd f e;obtain⟨x,hx⟩:=cW.of F;have an:HV (n-(r+1))=HV σ.j:=by rw[hj]
 rw[an]at hx;obtain⟨y,hy⟩:=cW.of ak;obtain⟨mt',ρ',ao,Y,M,ar,Z⟩:∃mt' ρ',fO P ty Wg ch z An HV Fin n mt' (σ.j+1) 0 σ.K0 (λ_=>False) ρ' g' w/\mt'.got=[]/\mt'.pend=0/\((∃r st,mt'=.sp r st)\/mt'=.gc)/\∀r hs,mt'≠ .rb r hs/\mt'≠ .rw r hs:=by
  cases r with
  |zero=>(refine⟨.gc,(90,0,y),?_,rfl,rfl,.inr rfl,λ_ _=>by simp⟩;have e:σ.j+1=n:=by omega);rw[e];exact .gc hy
  |succ r=>(refine⟨.sp r 5,(100+10*r+5,0,y),?_,rfl,rfl,.inl ⟨_,_,rfl⟩,λ_ _=>by simp⟩;have e:σ.j+1=n-(r+1):=by omega);rw[e];exact .kd (by omega) hy
 let d:GSt P ty Wg:={σ with j:=σ.j+1,D:=upd σ.D σ.j ⟨8,0,Kc,λ_=>False⟩,R:=upd σ.R σ.j (8,0,x),mt:=mt',M0:=λ_=>False,r0:=ρ',low:=upd σ.low (base+σ.j) w.heap.size}
 have aa:∀i,i<σ.j->upd σ.D σ.j ⟨8,0,Kc,λ_=>False⟩ i=σ.D i:=λi v=>upd_ne _ _ (by omega);refine⟨_,w,_,d,s,⟨?_,?_,?_,?_,?_⟩,jR (i:=σ.j) (ρ:=(8,0,x)) (by omega) rfl ?_⟩;refine⟨W.os,W.tape,W.output,W.gy,W.old,W.chn,W.wg,W.sp,?_,?_,W.k0,λb e=>e.elim,?_,?_,W.owns,?_,?_,?_,?_⟩;intro i v b A;by_cases e:i=σ.j;subst e;simp only[d,upd_same]at A⊢;obtain⟨a1,a2,a3,a4⟩:=W.k0 b (ag b A);exact⟨a1,a2,a3,.inr ⟨a4,a1⟩⟩;have q:i<σ.j:=by have:i<σ.j+1:=v;omega
 simp only[d,upd_ne σ.D _ e,upd_ne σ.low w.heap.size (show base+i≠base+σ.j by omega)]at A⊢;exact W.kw i q b A;intro i v b A;by_cases e:i=σ.j;subst e;simp only[d,upd_same]at A;have q:i<σ.j:=by have:i<σ.j+1:=v;omega
 simp only[d,upd_ne σ.D _ e]at A;exact W.mw i q b A;intro C;exact absurd f C;intro C;exact absurd f C;intro i v;by_cases e:i=σ.j;subst e;simp only[d,upd_same];have:=W.sp.1;omega;have q:i<σ.j:=by have:i<σ.j+1:=v;omega
 simp only[d,upd_ne σ.low w.heap.size (show base+i≠base+σ.j by omega)];exact W.E1 i q;simp only[d,upd_ne σ.low w.heap.size (show base+n≠base+σ.j by omega)];exact W.E2;intro k N;by_cases e:k=base+σ.j;exact .inl ⟨σ.j,VR _,e⟩;simp only[d,upd_ne σ.low w.heap.size e]at N;exact(W.CU k N).imp (λ⟨i,a,b⟩=>⟨i,XC a,b⟩) id;intro k;by_cases e:k=base+σ.j;subst e;simp only[d,upd_same];exact UI _;simp only[d,upd_ne σ.low w.heap.size e];exact W.CW k;refine⟨?_,?_,lY T.seen (UI _) (AM _ _ _ _ _ _ _),jB T.gb (λB m=>by simp at m;rcases m with rfl|rfl<;>simp only<;>omega),T.norel.app λB m=>(H B m).2.2.2,(p 0).trans (T.d0.trans E |>.trans E.symm),?_,λC=>absurd f C,?_,?_,?_,?_⟩;obtain⟨u,rfl⟩:=T.pre;exact⟨_,VU ..⟩;exact T.tr.fork ⟨rfl,rfl⟩ ⟨rfl,rfl⟩ (T.d0.trans E) X (by omega) L (by have:=W.sp.1;omega) (by omega);intro i v;by_cases e:i=σ.j;subst e;simp only[d,upd_same];exact(p _).trans X;have q:i<σ.j:=by have:i<σ.j+1:=v;omega
 simp only[d,upd_ne σ.D _ e];exact(p _).trans (T.dw i q);intro k N O S;exact(p k).trans (T.above k N (λi v=>O i (XC v)) S);intro i v hs;by_cases e:i=σ.j;subst e;simp only[d,upd_same]at hs;omega;have q:i<σ.j:=by have:i<σ.j+1:=v;omega
 simp only[d,upd_ne σ.D _ e]at hs;obtain⟨r,hr⟩:=T.rel i q hs;exact⟨r,pn hr λB m=>(H B m).1⟩;intro C;rw[show d.ct=σ.ct from rfl,f]at C;cases C;intro C;rw[show d.ct=σ.ct from rfl,f]at C;cases C;refine⟨?_,?_,λC=>absurd f C,⟨g',AN U,?_⟩,⟨λ_=>ar,λ_=>f⟩,?_,?_,?_,?_,?_,?_⟩;show _=base+(σ.j+1)+(if σ.ct.isSome then 1 else 0);rw[f];simp[J];omega;show σ.j+1<=n;omega;show fO P ty Wg ch z An HV Fin n mt' (σ.j+1) σ.d0 σ.K0 (λ_=>False) ρ' g' w;rw[E];exact ao;intro i v;by_cases e:i=σ.j;subst e;refine⟨o,by rw[<-J];exact AO,?_⟩;simp only[d,upd_same];exact .run hx;have q:i<σ.j:=by have:i<σ.j+1:=v;omega
 obtain⟨gw,ax,ay⟩:=Q.wk i q;refine⟨gw,by rw[sZ (by omega) (by omega)];exact ax,?_⟩;simp only[d,upd_ne σ.D _ e,upd_ne σ.R _ e];exact ay;intro i O S;have a8:σ.j+1<=i:=O;simp only[d,upd_ne σ.R _ (show i≠σ.j by omega)];exact Q.unb i (by omega) S;intro c' e;rw[show d.ct=σ.ct from rfl,f]at e;cases e;intro k gk O S N;rw[sZ (by omega) (by omega)]at N;rw[p];exact Q.lv k gk O S N;rintro⟨a,b,e⟩;exact absurd e (Z a b).1;intro a b e;exact absurd e (Z a b).2;show Mode (σ.j+1) (upd σ.D σ.j ⟨8,0,Kc,λ_=>False⟩) mt' σ.ct σ.st σ.sm;obtain⟨hO,_,ab,aK⟩:=h.m_.AL (by rw[f];trivial);rw[ab,aK,f,I];have:=Mode.opn (j:=σ.j+1) (D:=upd σ.D σ.j ⟨8,0,Kc,λ_=>False⟩) (mt:=mt') (ct:=none) trivial (λi v=>by by_cases e:i=σ.j;subst e;rw[upd_same];exact .inl (by simp);rw[upd_ne σ.D _ e];exact hO i (by omega)) (λvs e=>by cases e);rw[Qk (by simp),M]at this;exact this;obtain⟨l,O,S,h3⟩:=h.v_;refine⟨l,O,λi=>?_,?_⟩;rw[S i];constructor;rintro⟨a,b,c⟩;exact⟨XC a,by simp only[d];rw[aa i a];exact b,c⟩;rintro⟨a,b,c⟩;by_cases e:i=σ.j;subst e;simp only[d,upd_same]at b;omega;have a':i<σ.j+1:=a;have:i<σ.j:=by omega
 simp only[d,upd_ne σ.D _ e]at b;exact⟨this,b,c⟩;rw[<-h3,I];exact Y;have:=Q.unb σ.j (UI _) (by omega);generalize hR:σ.R σ.j=R at this⊢;obtain⟨a,b⟩:=R;simp only at this;subst this;exact cj (by omega)
def E9(G:fP Wg ch base N0 shun)(h:GI P ty Wg ch z An HV Fin n base N0 shun F0 t₀ gs w t σ){g}(hg:gs[0]? =some g){c}(F:σ.mt=.gc)(U:σ.j=n)(L:σ.d0=0)(X:σ.r0=(90,0,c)) (Y:KO P ty Wg ch z An HV Fin n σ.K0 σ.M0 g w):dW P ty Wg ch z An HV Fin n base N0 shun F0 t₀ t gs w sl σ 0:=by
 have hb:=G.lZ;have W:=h.w_;have T:=h.t_;have Q:=h.g_;obtain⟨ak,g',f,Kc,Z,an,ao,aa,B,ab⟩:=Y;have q:=Q.mc.2 (.inr F);have H:gs.size=base+n:=by have:=Q.size;rw[q,U]at this;simpa using this
 have M:0<gs.size:=by omega
 have o:=runT_crowd_spawn (P:=P) (sl:=sl) (i:=0) hg (by simpa using Z);rw[H]at o;have N:MemOp.ofEvents 0 g.frame.fn g.frame.place #[]=#[]:=rfl;rw[N]at o;have I:((#[]:Array MemOp).push {g:=0,fn:=g.frame.fn,pos:=g.frame.place,act:=.go (base+n)}).push {g:=base+n,fn:=f.frame.fn,pos:=g.frame.place,act:=.start}=
  #[{g:=0,fn:=g.frame.fn,pos:=g.frame.place,act:=.go (base+n)},{g:=base+n,fn:=f.frame.fn,pos:=g.frame.place,act:=.start}]:=rfl
 rw[I]at o;have C:∀v∈(#[{g:=0,fn:=g.frame.fn,pos:=g.frame.place,act:=.go (base+n)},{g:=base+n,fn:=f.frame.fn,pos:=g.frame.place,act:=.start}]:Array MemOp),v.act.touch?=none/\v.act≠ .mark .disable/\v.act≠ .mark .enable/\v.act≠ .mark (.release (stA Wg)):=by intro v d;simp only[VH,U8,Vf,Vh]at d;rcases d with rfl|rfl<;>simp[MemAct.touch?]
 have m:=nR (t:=t) (u:=#[{g:=0,fn:=g.frame.fn,pos:=g.frame.place,act:=.go (base+n)},{g:=base+n,fn:=f.frame.fn,pos:=g.frame.place,act:=.start}]) λv d=>⟨(C v d).2.1,(C v d).2.2.1⟩
 have J:=VV λe=>absurd q (W.E2.1 e);have O:Deaf t (base+n)=0:=T.above _ (by omega) (λi A=>by omega) λe=>absurd q e;obtain⟨x,hx⟩:=cW.of B;obtain⟨y,hy⟩:=cW.of ab;let p:GSt P ty Wg:={σ with mt:=.rc n [],M0:=λ_=>False,r0:=(20,0,y),ct:=some .wd,Kc:=Kc,Mc:=λ_=>False,rc:=(kh (VW σ.j σ.D) .wd,0,x),dc:=0,low:=upd σ.low (base+n) w.heap.size}
 refine⟨_,w,_,p,o,⟨?_,?_,?_,?_,?_⟩,um rfl ?_⟩;refine⟨W.os,W.tape,W.output,W.gy,W.old,?_,W.wg,W.sp,?_,W.mw,W.k0,λb e=>e.elim,?_,λ_ b e=>e.elim,W.owns,?_,?_,?_,?_⟩;obtain⟨s,hs⟩:=W.chn;exact⟨s,by rw[hs,q];rfl⟩;intro i A b E;simp only[p,upd_ne σ.low w.heap.size (show base+i≠base+n by have:i<σ.j:=A;omega)]at E⊢;exact W.kw i A b E;intro _ b E;obtain⟨a1,a2,a3,a4⟩:=W.k0 b (aa b E);refine⟨a1,a2,a3,.inr ⟨a4,?_⟩⟩;simp only[p,upd_same];exact a1;intro i A;simp only[p,upd_ne σ.low w.heap.size (show base+i≠base+n by have:i<σ.j:=A;omega)];exact W.E1 i A;simp only[p,upd_same];have:=W.sp.1;constructor;intro _;simp;intro _;omega;intro k K;by_cases e:k=base+n;exact .inr e;simp only[p,upd_ne σ.low w.heap.size e]at K;exact W.CU k K;intro k;by_cases e:k=base+n;subst e;simp only[p,upd_same];exact UI _;simp only[p,upd_ne σ.low w.heap.size e];exact W.CW k;refine⟨?_,?_,lY T.seen (UI _) (AM _ _ _ _ _ _ _),jB T.gb (λv d=>by simp at d;rcases d with rfl|rfl<;>simp only<;>omega),T.norel.app λv d=>(C v d).2.2.2,(m 0).trans T.d0,λi A=>(m _).trans (T.dw i A),λ_=>(m _).trans O,?_,?_,?_,?_⟩;obtain⟨u,rfl⟩:=T.pre;exact⟨_,VU ..⟩;exact T.tr.fork ⟨rfl,rfl⟩ ⟨rfl,rfl⟩ (T.d0.trans L) O (by omega) J (by have:=W.sp.1;omega) (by omega);intro k K R V;exact(m k).trans (T.above k K R λe=>absurd q e);intro i A hs;obtain⟨r,hr⟩:=T.rel i A hs;exact⟨r,pn hr λv d=>(C v d).1⟩;intro hc;cases hc;intro hc;cases hc;refine⟨?_,Q.jn,λ_=>U,⟨g',AN M,?_⟩,⟨λe=>(by cases e),λe=>(by rcases e with⟨_,_,e⟩|e<;>cases e)⟩,?_,Q.unb,?_,?_,?_,?_⟩;show _=base+σ.j+1;simp[H,U];show fO P ty Wg ch z An HV Fin n (.rc n []) σ.j σ.d0 σ.K0 (λ_=>False) (20,0,y) g' w;rw[L,U];exact .rc (by simp) hy;intro i A;obtain⟨gw,ad,af⟩:=Q.wk i A;have:i<σ.j:=A;exact⟨gw,by rw[sZ (by omega) (by omega)];exact ad,af⟩;intro c' e;simp only[p,Vw]at e;subst e;exact⟨f,by rw[<-H];exact AO,.wd hx⟩;intro k gk R V K;rw[sZ (by omega) (by omega)]at K;rw[m];exact Q.lv k gk R V K;rintro⟨a,b,e⟩;cases e;intro a b e;cases e;show Mode σ.j σ.D (.rc n []) (some .wd) σ.st σ.sm;obtain⟨hO,_,S,ag⟩:=h.m_.AL (by rw[q];trivial);rw[S,ag,F];exact .opn trivial hO λvs e=>by cases e
 obtain⟨l,R,V,h3⟩:=h.v_;exact⟨l,R,V,by rw[<-h3,F];rfl⟩;rw[X];exact cj (by omega)
def Fa(Wg:Nat)(e:Event):Prop:=e=mk (.write (smA Wg))
def AP{e}(h:Fa Wg e){x}(a:(MemAct.ofEvent e).touch?=some x):blk x.loc=some Wg/\x.kind=.said:=by unfold Fa at h;subst h;simp[Go.ConcR.mk,MemAct.ofEvent,MemAct.touch?]at a;subst a;exact⟨rfl,rfl⟩
def RE(ch:Nat)(e:Event):Prop:=e=⟨.obj ch,false,true⟩\/e=⟨.obj ch,true,true⟩
def AS{e}(h:RE ch e){x}(a:(MemAct.ofEvent e).touch?=some x):blk x.loc=some ch/\x.kind=.atomic:=by rcases h with rfl|rfl<;>simp[MemAct.ofEvent,MemAct.touch?]at a;subst a;exact⟨rfl,rfl⟩
theorem It{own low:Nat->Nat}{K M:Nat->Prop}(A:0<base)(l:low (base+n)≠0) (m:∀b,K b->b<w.heap.size/\¬spB Wg ch b/\¬shun b/\(own b=base+n\/(own b=0/\b<low (base+n)))) (o:∀b,M b->own b=base+n) (p:Wg<w.heap.size/\ch<w.heap.size) (q:∀b,shun b->b<w.heap.size) {es} (r:∀e∈es,EvK Wg (orK K w w') (orK M w w') e\/EvB Wg e\/Fa Wg e\/RE ch e) (fn) (pos):∀k∈MemOp.ofEvents (base+n) fn pos es,∀x,k.act.touch?=some x->Okx shun (spB Wg ch) (base+n) (iC own (base+n) w w') low (base+n) x:=by intro k g x f;obtain⟨e,i,rfl⟩:=Go.Conc.mem_ofEvents g;refine⟨.inr l,?_⟩;obtain h|h|h|h:=r e i;obtain⟨b,j,h⟩:=h.1 x f;refine⟨b,j,?_⟩;obtain⟨a,h2,h3⟩|⟨rfl,h2⟩:=h;obtain h2|h2:=h2;obtain⟨k1,s,u,d⟩:=m b h2;have c:iC own (base+n) w w' b=own b:=sX k1;obtain d|⟨d,v⟩:=d;exact .inl ⟨c.trans d,by omega,a⟩;refine .inr (.inl ⟨c.trans d,s,u,a,.inr ⟨by omega,?_,v⟩⟩);(cases y:x.write with|false=>rfl|true=>obtain h3|h3:=h3 y;have:=o b h3;omega;exact absurd h3.1 (by omega));exact .inl ⟨jQ h2,by omega,a⟩;exact .inr (.inr ⟨.inl rfl,.inl h2⟩);obtain⟨a,h2⟩:=h.1 x f;exact⟨Wg,a,.inr (.inr ⟨.inl rfl,.inl h2⟩)⟩;obtain⟨a,h2⟩:=AP h f;exact⟨Wg,a,.inr (.inr ⟨.inl rfl,.inr ⟨h2,.inr ⟨rfl,by omega⟩⟩⟩)⟩;obtain⟨a,h2⟩:=AS h f;exact⟨ch,a,.inr (.inr ⟨.inr rfl,.inl h2⟩)⟩
def Fb{a}(b:a.R=σ.R)(c:a.q=σ.q)(h:(a.r0=σ.r0/\Rk.lt P ty Wg a.rc σ.rc)\/Rk.lt P ty Wg a.r0 σ.r0):E3 P ty Wg (mu (n:=n) (base:=base) a) (mu (n:=n) (base:=base) σ):=by unfold mu;rw[b,c];refine Prod.Lex.right _ ?_;obtain⟨e,h⟩|h:=h;rw[e];exact Prod.Lex.right _ (Prod.Lex.right _ h);exact Prod.Lex.left _ _ h
def GI.closer(G:fP Wg ch base N0 shun)(h:GI P ty Wg ch z An HV Fin n base N0 shun F0 t₀ gs w t σ){g g' es c c' mt' K' M' ρ' r0' d' st' sm'} (hc:σ.ct=some c) (hg:gs[base+n]? =some g) (aK:stepG P false g w=.go g' w' es) (X:w'.os=w.os/\w'.tape=w.tape/\w'.output=w.output) (m:w.heap.size<=w'.heap.size) (H:∀b,b<w.heap.size->b≠Wg->b≠ch->σ.own b≠base+n->w'.heap[b]? =w.heap[b]?) (hwg:WgAt ty Wg w' st' sm') (hch:∃s,w'.heap[ch]? =some (.chan 0 #[] (fe (some c')) s s false)) (O:∀e∈es,EvK Wg (orK σ.Kc w w') (orK σ.Mc w w') e\/EvB Wg e\/Fa Wg e\/RE ch e) (hK:∀b,K' b->orK σ.Kc w w' b) (hM:∀b,M' b->orK σ.Mc w w' b) (hS:CSit P ty Wg ch An (VW σ.j σ.D) c' d' K' M' ρ' g' w') (aM:(r0'=σ.r0/\Rk.lt P ty Wg ρ' σ.rc)\/Rk.lt P ty Wg r0' σ.r0) (hd:deafBehind σ.dc es=d') (Y:Mode σ.j σ.D mt' (some c') st' sm') (Z:∀a,gs[0]? =some a->fO P ty Wg ch z An HV Fin n σ.mt σ.j σ.d0 σ.K0 σ.M0 σ.r0 a w'->(∀r C,σ.mt=.rb r C->c≠ .quit)->fO P ty Wg ch z An HV Fin n mt' σ.j σ.d0 σ.K0 σ.M0 r0' (woken P g g' w' a) w') (aR:∀i gw,i<σ.j->WSit P ty Wg ch z (HV i) (σ.D i) (σ.R i) gw w->woken P g g' w' gw=gw) (ag:mt'.got=σ.mt.got) (a6:¬((∃r st,mt'=.sp r st)\/mt'=.gc)) (a7:(∃r C,mt'=.rb r C)->c'≠ .quit/\∀i,i<σ.j->(σ.D i).s≠7) (a8:∀r C,mt'=.rw r C->c'=.quit) (ak:c'=.cl->AcqAll Wg n base (t++MemOp.ofEvents (base+n) g.frame.fn g.frame.place es)) (an:c'=.quit->CX Wg ch n base (t++MemOp.ofEvents (base+n) g.frame.fn g.frame.place es)):dW P ty Wg ch z An HV Fin n base N0 shun F0 t₀ t gs w sl σ (base+n):=by (have hb:=G.lZ;have W:=h.w_;have T:=h.t_;have Q:=h.g_;have p:σ.ct≠none:=by rw[hc];simp);(have ba:=Q.cn p;have ao:=(UO.1 hg).1;have bb:(base+n==0)=false:=by simp;omega);(have aa:=runT_crowd_go (P:=P) (sl:=sl) (i:=base+n) hg (by rw[bb];exact aK);have q:∀S∈MemOp.ofEvents (base+n) g.frame.fn g.frame.place es,S.g=base+n:=λS I=>by obtain⟨e,_,rfl⟩:=Go.Conc.mem_ofEvents I;rfl);(have ar:=T.tr.wu Wg (.inl rfl);have ax:=T.tr.wu ch (.inr rfl);have ab:WgLive ty Wg w':=⟨_,_,hwg⟩);(have V:∀K:Nat->Prop,(∀b,K b->b<w.heap.size/\¬spB Wg ch b/\σ.own b≠base+n)->RK ty Wg K w w':=λK U=>⟨λb d=>H b (U b d).1 (λe=>(U b d).2.1 (.inl e)) (λe=>(U b d).2.1 (.inr e)) (U b d).2.2,λ_=>ab,m⟩);(have A:∀b,shun b->b<w.heap.size:=λb d=>UL (G.NL b d) W.gy;have J:=W.E2.2 p;have ad:∀v r,v<n->RelBy (stA Wg) t (base+v) r->RelBy (stA Wg) (t++MemOp.ofEvents (base+n) g.frame.fn g.frame.place es) (base+v) r:=λv r o hr=>dV hr q (by omega);have f:∀b,b<w.heap.size->iC σ.own (base+n) w w' b=σ.own b:=λb d=>sX d;have bk:∀S∈MemOp.ofEvents (base+n) g.frame.fn g.frame.place es,S.act≠ .mark (.release (stA Wg)):=norel_of λe he=>by obtain h1|h1|h1|h1:=O e he;exact h1.2.2.2.1 _;exact h1.2.1 _;unfold Fa at h1;subst h1;simp[Go.ConcR.mk];rcases h1 with rfl|rfl<;>simp);(have bm:∀S∈MemOp.ofEvents (base+n) g.frame.fn g.frame.place es,∀x,S.act.touch?=some x->∀b,blk x.loc=some b->b<w'.heap.size:=by intro S I x hx b d;obtain⟨e,bo,rfl⟩:=Go.Conc.mem_ofEvents I;have af:=UL W.sp.1 m;have br:=UL W.sp.2 m;obtain h1|h1|h1|h1:=O e bo;obtain⟨b2,hb2,h1⟩:=h1.1 x hx;rw[d]at hb2;cases hb2;obtain⟨_,F|F,_⟩|⟨rfl,_⟩:=h1;exact UL (W.kc p b F).1 m;exact F.2;exact af;have:=(h1.1 x hx).1;rw[d]at this;cases this;exact af;have:=(AP h1 hx).1;rw[d]at this;cases this;exact af;have:=(AS h1 hx).1;rw[d]at this;cases this;exact br);(have bs:∀e∈es,(MemAct.ofEvent e).touch?=none->(MemAct.ofEvent e).low w'.heap.size:=by intro e he L;obtain h1|h1|h1|h1:=O e he;exact h1.2.2.2.2 _ L;exact h1.2.2 _ (UL W.sp.1 m) L;unfold Fa at h1;subst h1;simp[Go.ConcR.mk,MemAct.ofEvent,MemAct.touch?]at L;obtain rfl|rfl:=h1;simp[MemAct.ofEvent,MemAct.touch?]at L;exact UL W.sp.2 m);(let y:GSt P ty Wg:={σ with mt:=mt',r0:=r0',ct:=some c',Kc:=K',Mc:=M',rc:=ρ',dc:=d',own:=iC σ.own (base+n) w w',st:=st',sm:=sm'});refine⟨_,w',_,y,aa,⟨?_,?_,?_,Y,?_⟩,Fb rfl rfl aM⟩;refine⟨X.1.trans W.os,X.2.1.trans W.tape,X.2.2.trans W.output,UJ W.gy m,λb d=>?_,hch,hwg,⟨UL W.sp.1 m,UL W.sp.2 m⟩,?_,?_,?_,?_,?_,?_,?_,W.E1,?_,W.CU,λk=>UJ (W.CW k) m⟩;rw[H b (UL d W.gy) (by have:=G.wg_;omega) (by have:=G.ch_;omega) (λe=>by have:=(W.owns b (by omega)).1;omega)];exact W.old b d;intro v o b d;obtain⟨a1,E,M,B⟩:=W.kw v o b d;refine⟨UL a1 m,E,M,?_⟩;show iC σ.own (base+n) w w' b=base+v\/(iC σ.own (base+n) w w' b=0/\b<σ.low (base+v));rw[f b a1];exact B;intro v o b d;have:=W.mw v o b d;have N:=(W.owns b (by omega)).2.2.1;exact(f b N).trans this;intro b d;obtain⟨a1,E,M,B⟩:=W.k0 b d;exact⟨UL a1 m,E,M,(f b a1).trans B⟩;intro b d;obtain⟨a1,E,M,B,a5⟩:=W.m0 b d;exact⟨UL a1 m,E,M,(f b a1).trans B,a5⟩;intro _ b d;obtain hb2|hb2:=hK b d;obtain⟨a1,E,M,B⟩:=W.kc p b hb2;refine⟨UL a1 m,E,M,?_⟩;show iC σ.own (base+n) w w' b=base+n\/(iC σ.own (base+n) w w' b=0/\b<σ.low (base+n));rw[f b a1];exact B;refine⟨hb2.2,λe=>?_,λe=>absurd (A b e) (VN.2 hb2.1),.inl (jQ hb2)⟩;obtain e|e:=e;have:=W.sp.1;have:=hb2.1;omega;have:=W.sp.2;have:=hb2.1;omega;intro _ b d;obtain hb2|hb2:=hM b d;have:=W.mc p b hb2;have N:=(W.owns b (by omega)).2.2.1;exact(f b N).trans this;exact jQ hb2;intro b d;by_cases L:Io w w' b;have e:y.own b=base+n:=jQ L;refine⟨UJ W.gy L.1,by rw[e];omega,L.2,λe=>?_⟩;obtain e|e:=e;have:=W.sp.1;have:=L.1;omega;have:=W.sp.2;have:=L.1;omega;(have e:y.own b=σ.own b:=by show iC σ.own (base+n) w w' b=_;unfold iC;exact UG L);rw[e]at d⊢;obtain⟨a1,E,M,B⟩:=W.owns b d;exact⟨a1,E,UL M m,B⟩;exact⟨λ_=>by simp[y],λ_=>J⟩;refine⟨?_,?_,lY T.seen m (yc bm bs),jB T.gb λS I=>by rw[q S I];omega,T.norel.app bk,(Deaf_other t (by omega) _ q).trans T.d0,λv o=>(Deaf_other t (by have:v<σ.j:=o;omega) _ q).trans (T.dw v o),?_,?_,?_,?_,?_⟩;obtain⟨u,rfl⟩:=T.pre;exact⟨_,VU ..⟩;have ht:=T.tr.owned (own':=iC σ.own (base+n) w w') T.tb f (λb d=>by obtain rfl|rfl:=d;rw[f _ W.sp.1];exact ar;rw[f _ W.sp.2];exact ax);exact ht.app q (λ_=>J) (It hb J (W.kc p) (W.mc p) W.sp A O _ _);intro _;show Deaf _ _=d';rw[Deaf_own,T.dc p];exact hd;intro k hk h1 F;exact(Deaf_other t (g:=k) (g':=base+n) (λe=>F (by simp[y]) e.symm) _ q).trans (T.above k hk h1 λ_=>λe=>F (by simp[y]) e);intro v o C;obtain⟨r,hr⟩:=T.rel v o C;exact⟨r,ad v r (UL o Q.jn) hr⟩;intro e;exact ak (Vd e);intro e;exact an (Vd e);refine⟨?_,Q.jn,λ_=>ba,?_,?_,?_,Q.unb,?_,?_,?_,?_⟩;have:=Q.size;rw[hc]at this;simpa[y]using this;obtain⟨a,ha,bx⟩:=Q.mn;(refine⟨woken P g g' w' a,by rw[bQ _ _ _ _ _ (by omega),ha];rfl,?_⟩;have hr:=V _ λb d=>by obtain⟨a1,E,M,B⟩:=W.k0 b d;exact⟨a1,E,by omega⟩);exact Z a ha (bx.rely hr) λr C e e2=>(Q.mb ⟨r,C,e⟩).1 (by rw[hc,e2]);exact⟨λe=>by simp[y]at e,λe=>absurd e a6⟩;intro v o;(obtain⟨gw,bA,ay⟩:=Q.wk v o;have b0:=UL o Q.jn;refine⟨woken P g g' w' gw,by rw[bQ _ _ _ _ _ (by omega),bA];rfl,?_⟩;have hr:=V _ λb d=>by obtain⟨a1,E,M,B⟩:=W.kw v o b d;refine⟨a1,E,?_⟩;rcases B with B|B<;>omega);rw[aR v gw o ay];exact ay.rely hr;intro c2 e;have e:=Vd e;subst e;exact⟨g',fI _ _ _ _ ao,hS⟩;intro k gk h1 F hk;rw[bQ _ _ _ _ _ (by omega)]at hk;obtain⟨bB,bC,rfl⟩:=Vi.1 hk;have hq:=Q.lv k bB h1 F bC;rw[woken_quitsD hq,Deaf_other t (by omega) _ q];exact hq;rintro⟨r,C,e⟩;obtain⟨h1,F⟩:=a7 ⟨r,C,e⟩;exact⟨λe'=>h1 (Vd e'),F⟩;intro r C e;exact Vj some (a8 r C e);obtain⟨l,h1,F,h3⟩:=h.v_;exact⟨l,h1,F,ag.trans h3⟩
def yi(G:fP Wg ch base N0 shun)(h:GI P ty Wg ch z An HV Fin n base N0 shun F0 t₀ gs w t σ){g g' es c c' X Y ρ' d' st' sm'} (l:σ.ct=some c) (hg:gs[base+n]? =some g) (F:stepG P false g w=.go g' w' es) (H:w'.os=w.os/\w'.tape=w.tape/\w'.output=w.output) (I:w.heap.size<=w'.heap.size) (d:∀b,b<w.heap.size->b≠Wg->σ.own b≠base+n->w'.heap[b]? =w.heap[b]?) (hwg:WgAt ty Wg w' st' sm') (J:∀e∈es,EvK Wg (orK σ.Kc w w') (orK σ.Mc w w') e\/EvB Wg e\/Fa Wg e) (hK:∀b,X b->orK σ.Kc w w' b) (hM:∀b,Y b->orK σ.Mc w w' b) (hS:CSit P ty Wg ch An (VW σ.j σ.D) c' d' X Y ρ' g' w') (K:Rk.lt P ty Wg ρ' σ.rc) (hd:deafBehind σ.dc es=d') (m:Mode σ.j σ.D σ.mt (some c') st' sm') (q:c'=.quit↔c=.quit) (u:c'=.cl->c=.cl\/AcqAll Wg n base (t++MemOp.ofEvents (base+n) g.frame.fn g.frame.place es)) (v:c=.quit->∀e∈es,(MemAct.ofEvent e).touch?=none):dW P ty Wg ch z An HV Fin n base N0 shun F0 t₀ t gs w sl σ (base+n):=by (have hb:=G.lZ;have W:=h.w_;have T:=h.t_;have Q:=h.g_;have y:=T.tr.wu ch (.inr rfl);have L:fe (some c')=fe σ.ct:=by rw[l];by_cases e:c=.quit;rw[q.2 e,e];rw[fQ (by simpa usingλx=>e (q.1 x)),fQ (by simpa using e)]);(have f:=d ch W.sp.2 (U4 G.ne_) (by rw[y];omega);obtain⟨s,M⟩:=W.chn;have A:∀N∈MemOp.ofEvents (base+n) g.frame.fn g.frame.place es,N.g=base+n:=λN O=>by obtain⟨e,_,rfl⟩:=Go.Conc.mem_ofEvents O;rfl);have k:∀E r,E<n->RelBy (stA Wg) t (base+E) r->RelBy (stA Wg) (t++MemOp.ofEvents (base+n) g.frame.fn g.frame.place es) (base+E) r:=λE r ab hr=>dV hr A (by omega);refine h.closer G l hg F H I (λb h1 R _ h3=>d b h1 R h3) hwg ⟨s,by rw[f,M,L]⟩ (λe he=>(J e he).imp id (.imp id .inl)) hK hM hS (.inl ⟨rfl,K⟩) hd m ?_ ?_ rfl ?_ ?_ ?_ ?_ ?_;intro a _ B o;(have:woken P g g' w' a=a:=by obtain⟨h1,_⟩|⟨r,p,g2,h1,_⟩:=B.status;unfold Go.Conc.woken;split;exact again_running _ (.inl h1);rfl;refine B.woken g g' w' ⟨s,s,false,?_⟩;rw[f,M,l,fQ (by simpa using o r p h1)]);rw[this];exact B;intro i gw Z hw;(refine hw.woken g g' w' λh7=>⟨s,s,false,?_⟩);(have o:c≠ .quit:=λe=>by have:=h.m_.yb (by rw[l,e];trivial) i Z;rw[h7]at this;cases this);rw[f,M,l,fQ (by simpa using o)];(exactλe=>absurd (Q.mc.2 e) (by rw[l];simp));intro B;obtain⟨h1,R⟩:=Q.mb B;exact⟨λe=>h1 (by rw[l,q.1 e]),R⟩;intro r p e;have:=Q.mq r p e;rw[l]at this;exact q.2 (Vd this);intro e;obtain e'|h1:=u e;exact ly (T.acq (by rw[l,e'])) k;exact h1;intro e;refine lz (T.cls (by rw[l,q.1 e])) k λi Z ad S=>?_;obtain⟨x,hx,_⟩:=S;obtain⟨N,ho,C⟩:=touch_of hx;obtain⟨aa,_⟩|⟨_,U⟩:=getElem?_append_cases ho;omega;obtain⟨ev,V,rfl⟩:=Go.Conc.mem_ofEvents U;rw[v (q.1 e) ev V]at C;cases C
def fh(G:fP Wg ch base N0 shun)(h:GI P ty Wg ch z An HV Fin n base N0 shun F0 t₀ gs w t σ){g g' es c ρ'} (k:σ.ct=some c) (s:gs[base+n]? =some g) (l:stepG P false g w=.go g' w' es) (m:c≠ .quit) (a:Eff σ.Mc w w') (f:∀e∈es,EvK Wg (orK σ.Kc w w') (orK σ.Mc w w') e) (u:CSit P ty Wg ch An (VW σ.j σ.D) c σ.dc (orK σ.Kc w w') (orK σ.Mc w w') ρ' g' w') (o:Rk.lt P ty Wg ρ' σ.rc):dW P ty Wg ch z An HV Fin n base N0 shun F0 t₀ t gs w sl σ (base+n):=by
 have W:=h.w_;have T:=h.t_;have A:=G.lZ;have i:σ.ct≠none:=by rw[k];simp
 have r:=T.tr.wu Wg (.inl rfl);have d:∀b,b<w.heap.size->σ.own b≠base+n->w'.heap[b]? =w.heap[b]? :=λb p q=>a.keep b p λv=>q (W.mc i b v);exact yi (st':=σ.st) (sm':=σ.sm) G h k s l ⟨a.os,a.tape,a.output⟩ a.size (λb p _ q=>d b p q) (W.wg.of_block (d Wg W.sp.1 (by omega))) (λe y=>.inl (f e y)) (λ_ x=>x) (λ_ x=>x) u o (yd f _)
  (by rw[<-k];exact h.m_) WC (λe=>.inl e) (λe=>absurd e m)
def eu(G:fP Wg ch base N0 shun)(h:GI P ty Wg ch z An HV Fin n base N0 shun F0 t₀ gs w t σ){g g' es c c' ρ' d' st' sm'} (q:σ.ct=some c) (r:gs[base+n]? =some g) (m:stepG P false g w=.go g' w' es) (s:w'=w\/∃a v,a.block=Wg/\w'=w.setCell a v) (hwg:WgAt ty Wg w' st' sm') (o:∀e∈es,EvB Wg e\/Fa Wg e) (u:CSit P ty Wg ch An (VW σ.j σ.D) c' d' σ.Kc σ.Mc ρ' g' w') (p:Rk.lt P ty Wg ρ' σ.rc) (x:deafBehind σ.dc es=d') (d:Mode σ.j σ.D σ.mt (some c') st' sm') (y:c'=.quit↔c=.quit) (f:c'=.cl->AcqAll Wg n base (t++MemOp.ofEvents (base+n) g.frame.fn g.frame.place es)) (i:c=.quit->∀e∈es,(MemAct.ofEvent e).touch?=none):dW P ty Wg ch z An HV Fin n base N0 shun F0 t₀ t gs w sl σ (base+n):=by (have k:w'.os=w.os/\w'.tape=w.tape/\w'.output=w.output/\w'.heap.size=w.heap.size/\∀b,b≠Wg->w'.heap[b]? =w.heap[b]? :=by obtain rfl|⟨a,v,A,rfl⟩:=s;exact⟨rfl,rfl,rfl,rfl,λ_ _=>rfl⟩;exact mL a v A);exact yi G h q r m ⟨k.1,k.2.1,k.2.2.1⟩ (Wh k.2.2.2.1.symm) (λb _ l _=>k.2.2.2.2 b l) hwg (λe B=>.inr (o e B)) (λb l=>.inl l) (λb l=>.inl l) u p x d y (λe=>.inr (f e)) i
def Mode.Q1{j D mt ct st sm}(h:Mode j D mt ct st sm)(g:CTag.reg ct):(sm=0/\∀e,CTag.reg e->Mode j D mt e st sm)\/(E0 j D/\st=0/\sm=1):=by (have no:∀{ct:Option CTag},CTag.reg ct->(CTag.opn ct->False)/\(CTag.fin ct->False):=by intro ct h;cases ct with|none=>exact h.elim|some c=>cases c<;>first|exact h.elim|exact⟨id,id⟩);cases h with|opn a=>exact((no g).1 a).elim|reg a b c=>exact .inl ⟨rfl,λe f=>.reg f b c⟩|last L a b c d=>exact .inl ⟨rfl,λe f=>.last L f b c d⟩|sema a b c=>exact .inr ⟨c,rfl,rfl⟩|fin a=>exact((no g).2 a).elim
def Mode.isFin{j D mt ct st sm}(h:Mode j D mt ct st sm)(d:CTag.fin ct):E0 j D/\st=0/\sm=0:=by (have no:∀{ct:Option CTag},CTag.fin ct->(CTag.opn ct->False)/\(CTag.reg ct->False):=by intro ct h;cases ct with|none=>exact h.elim|some c=>cases c<;>first|exact h.elim|exact⟨id,id⟩);cases h with|opn a=>exact((no d).1 a).elim|reg a=>exact((no d).2 a).elim|last L a=>exact((no d).2 a).elim|sema a=>exact((no d).2 a).elim|fin a b=>exact⟨b,rfl,rfl⟩
def Ql{j D}(h:VW j D=0)(b:vp j D):E0 j D:=by intro i a;obtain c|h0:=b i a;have:=Iq a c;omega;exact h0
def Iu{mt j d K M ρ a}(h:fO P ty Wg ch z An HV Fin n mt j d K M ρ a w){g g' s r}(k:mayWake P g=true)(f:g'.status=.running\/g'.status=.finished) (o:w.heap[ch]? =some (.chan 0 #[] true s r false)):∃mt' ρ',fO P ty Wg ch z An HV Fin n mt' j d K M ρ' (woken P g g' w a) w/\mt'.got=mt.got/\mt'.pend=mt.pend/\(∀r b,mt'≠ .rb r b)/\(((∃r st,mt'=.sp r st)\/mt'=.gc)->((∃r st,mt=.sp r st)\/mt=.gc))/\(ρ'=ρ\/Rk.lt P ty Wg ρ' ρ):=by
 have same:a.status=.running->(∀r b,mt≠ .rb r b)->∃mt' ρ',fO P ty Wg ch z An HV Fin n mt' j d K M ρ' (woken P g g' w a) w/\mt'.got=mt.got/\mt'.pend=mt.pend/\(∀r b,mt'≠ .rb r b)/\
  (((∃r st,mt'=.sp r st)\/mt'=.gc)->((∃r st,mt=.sp r st)\/mt=.gc))/\(ρ'=ρ\/Rk.lt P ty Wg ρ' ρ):=by
  intro b i;have e:woken P g g' w a=a:=by
   unfold Go.Conc.woken;split
   .exact again_running _ (.inl b)
   .rfl
  exact⟨mt,ρ,by rw[e];exact h,rfl,rfl,i,id,.inl rfl⟩
 obtain⟨b,i⟩|⟨p,b,l,rfl,rfl⟩:=h.status;exact same b i;have e:woken P g g' w (parked l #[rcase ch z] (.recv true))={parked l #[rcase ch z] (.recv true)with status:=.running}:=by unfold Go.Conc.woken;rw[UH (by rcases f with f|f<;>rw[k,f]<;>rfl)];exact again_recv_closed o
 rw[e];generalize q:parked l #[rcase ch z] (.recv true)=v at h;cases h with| @rb _ _ x _ c _ _ u m=>exact⟨.rw p b,(18,0,c),.rw u m,rfl,rfl,by simp,by simp,.inr (cj (by omega))⟩
def C3(G:fP Wg ch base N0 shun)(h:GI P ty Wg ch z An HV Fin n base N0 shun F0 t₀ gs w t σ){g}(x:σ.ct=some .cl)(hg:gs[base+n]? =some g)(y:σ.dc=0){c}(K:σ.rc=(12,0,c)) (o:SCl P ch σ.Kc σ.Mc g w):dW P ty Wg ch z An HV Fin n base N0 shun F0 t₀ t gs w sl σ (base+n):=by
 have hb:=G.lZ;have W:=h.w_;have T:=h.t_;have Q:=h.g_;obtain⟨ad,L,o⟩:=o;obtain⟨s,I⟩:=W.chn;rw[x]at I;obtain⟨g',M,q,hq⟩:=o s s false I;obtain⟨hQ,A,B⟩:=h.m_.isFin (by rw[x];trivial);have j:σ.ct≠none:=by rw[x];simp
 have N:=(T.dc j).trans y;let w':x6:={w with heap:=w.heap.setIfInBounds ch (.chan 0 #[] true s s false)}
 have k:w'.heap[ch]? =some (.chan 0 #[] true s s false):=by show(w.heap.setIfInBounds ch _)[ch]? =_;rw[Vz];simp[W.sp.2]
 have p:∀b,b≠ch->w'.heap[b]? =w.heap[b]? :=λb d=>UU (U4 d);have l:w'.heap.size=w.heap.size:=by simp[w']
 have f:=W.wg.of_block (p Wg G.ne_);obtain⟨a,ha,O⟩:=Q.mn;have C:=O.rely ⟨λb d=>p b λe=>(W.k0 b d).2.1 (.inr e),λ_=>⟨_,_,f⟩,Wh l.symm⟩;obtain⟨mt',r0',R,D,S,U,E,V⟩:=Iu C L hq.status k;have m:MemOp.ofEvents (base+n) g.frame.fn g.frame.place (closeEvents ch)=#[{g:=base+n,fn:=g.frame.fn,pos:=g.frame.place,act:=.access ⟨.obj ch,false,true⟩},{g:=base+n,fn:=g.frame.fn,pos:=g.frame.place,act:=.close ch}]:=by simp[MemOp.ofEvents,closeEvents,MemAct.ofEvent]
 refine h.closer (c':=.quit) (ρ':=(0,q,c)) (r0':=r0') (mt':=mt') G x hg M ⟨rfl,rfl,rfl⟩ (Wh l.symm) (λb _ _ X _=>p b X) f ⟨s,k⟩ (λe F=>?_) (λb d=>.inl d) (λb d=>.inl d) (.quit hq)
  ?_ ?_ ?_ ?_ ?_ D (λe=>absurd (Q.mc.2 (E e)) j) (λ⟨r,I,e⟩=>absurd e (U r I)) (λ_ _ _=>rfl) (λe=>by cases e) λ_=>?_
 simp only[closeEvents,VH,U8,Vf,Vh]at F;exact .inr (.inr (.inr F));obtain e|e:=V;exact .inl ⟨e,by rw[K];exact cj (by omega)⟩;exact .inr e;rw[y];exact deafBehind_still (λe F=>by simp only[closeEvents,VH,U8,Vf,Vh]at F;rcases F with rfl|rfl<;>simp) 0;rw[A,B];exact .fin trivial hQ;intro a' H _ _;rw[ha]at H;cases H;exact R;intro i gw J hw;exact hw.woken g g' w' λh7=>by have:=hQ i J;omega
 obtain⟨q',h1,X,h3,h4⟩:=T.acq x;have u:=lt_of_act? h1;have v:∀Y∈MemOp.ofEvents (base+n) g.frame.fn g.frame.place (closeEvents ch),Y.g=base+n:=λY Z=>by obtain⟨e,_,rfl⟩:=Go.Conc.mem_ofEvents Z;rfl
 have hp:(t++MemOp.ofEvents (base+n) g.frame.fn g.frame.place (closeEvents ch))[t.size+1]? =some {g:=base+n,fn:=g.frame.fn,pos:=g.frame.place,act:=.close ch}:=by rw[m,WT];simp
 refine⟨q',t.size+1,by rw[act?_old u];exact h1,by rw[g?_old u];exact X,(heard_old u).2 h3,λi J=>?_,by omega,by rw[act?_of hp],by simp[Trace.g?,hp],⟨base+n,by simp[Trace.g?,hp],?_⟩,λi J aa=>?_⟩;obtain⟨r,hr,ab⟩:=h4 i J;exact⟨r,dV hr v (by omega),ab⟩;rw[deaf_inside t (base+n) _ _ _ 1 (by simp[closeEvents]),N];rfl;obtain⟨Y,ho,_⟩:=Vi.1 aa;have:=lt_size_of_getElem? ho;rw[m]at this;simp at this;omega
def yj(G:fP Wg ch base N0 shun)(h:GI P ty Wg ch z An HV Fin n base N0 shun F0 t₀ gs w t σ){g}(p:σ.ct=some .acq)(H:gs[base+n]? =some g)(k:σ.dc=0){c}(q:σ.rc=(13,0,c)) (s:Qg P ty Wg ch σ.Kc σ.Mc g w):dW P ty Wg ch z An HV Fin n base N0 shun F0 t₀ t gs w sl σ (base+n):=by
 have W:=h.w_;have T:=h.t_;have Q:=h.g_;obtain⟨B,g',u,d⟩:=s;obtain⟨C,l,m⟩:=h.m_.isFin (by rw[p];trivial);have b:σ.ct≠none:=by rw[p];simp
 have v:=(T.dc b).trans k;obtain⟨x,I⟩:=cW.of d;refine eu (st':=0) (sm':=0) (c':=.cl) G h p H u (.inl rfl) (by have:=W.wg;rw[l,m]at this;exact this) (λe D=>by simp at D;subst D;exact .inl (iO λa=>by simp)) (.cl I) (by rw[q];exact cj (by simp[kh])) (by rw[k];rfl)
  (.fin trivial C) (by simp) (λ_=>?_) (λe=>by cases e)
 have e1:MemOp.ofEvents (base+n) g.frame.fn g.frame.place #[mk (.acquire (stA Wg))]=#[{g:=base+n,fn:=g.frame.fn,pos:=g.frame.place,act:=.mark (.acquire (stA Wg))}]:=by simp[MemOp.ofEvents,Go.ConcR.mk,MemAct.ofEvent]
 have y:(t++MemOp.ofEvents (base+n) g.frame.fn g.frame.place #[mk (.acquire (stA Wg))])[t.size]? =some {g:=base+n,fn:=g.frame.fn,pos:=g.frame.place,act:=.mark (.acquire (stA Wg))}:=by rw[e1];simp
 have f:∀E∈MemOp.ofEvents (base+n) g.frame.fn g.frame.place #[mk (.acquire (stA Wg))],E.g=base+n:=λE A=>by obtain⟨e,_,rfl⟩:=Go.Conc.mem_ofEvents A;rfl
 refine⟨t.size,by rw[act?_of y],by simp[Trace.g?,y],⟨base+n,by simp[Trace.g?,y],by rw[deaf_old (UI _)];exact v⟩,λi J=>?_⟩;have o:i<σ.j:=by rw[Q.cn b];exact J
 obtain⟨r,F⟩:=T.rel i o (by rw[C i o];omega);exact⟨r,dV F f (by omega),lt_of_act? F.act⟩
def Fc(G:fP Wg ch base N0 shun)(h:GI P ty Wg ch z An HV Fin n base N0 shun F0 t₀ gs w t σ){g}(l:σ.ct=some .quit)(p:gs[base+n]? =some g)(a:g.status=.running){q c}(f:σ.rc=(0,q,c)) (b:QuitsD P q σ.dc g):dW P ty Wg ch z An HV Fin n base N0 shun F0 t₀ t gs w sl σ (base+n):=by
 cases q with
 |zero=>rw[b.1]at a;cases a
 |succ q=>
  obtain⟨r,_⟩|⟨_,g',es,o,i,s⟩:=b;rw[r]at a;cases a
  exact eu (st':=σ.st) (sm':=σ.sm) (c':=.quit) (ρ':=(0,q,c)) G h l p (i w) (.inl rfl) h.w_.wg
   (λe j=>.inl (by
    have d:=o e j;obtain⟨k,u,v⟩:=e;cases k<;>simp[Event.mute]at d;rename_i m;cases m<;>simp at d
    .exact⟨λx b=>by simp[MemAct.ofEvent,MemAct.touch?]at b,by simp,λ_ _ _=>trivial⟩
    .exact⟨λx b=>by simp[MemAct.ofEvent,MemAct.touch?]at b,by simp,λ_ _ _=>trivial⟩)) (.quit s) (by rw[f];exact rI (by omega)) rfl
   (by rw[<-l];exact h.m_) WC (λe=>by cases e) λ_ e j=>touch_mute (o e j)
def Ff(G:fP Wg ch base N0 shun)(hn:n<2147483647)(ad:∀K M g w,An K M g w->Run P false ty Wg (SW1 P ty Wg ch An) K M g w)(h:GI P ty Wg ch z An HV Fin n base N0 shun F0 t₀ gs w t σ){g ct}(i:σ.ct=some ct)(y:gs[base+n]? =some g)(L:g.status=.running):dW P ty Wg ch z An HV Fin n base N0 shun F0 t₀ t gs w sl σ (base+n):=by
 obtain⟨g0,U,V⟩:=h.g_.cl ct i;rw[y]at U;cases U;have W:=h.w_;have Q:=h.g_;have X:σ.ct≠none:=by rw[i];simp
 have C:σ.mt.pend=0:=by have:=mt Q.mc.2 X;generalize σ.mt=m at this;cases m<;>first|rfl|exact absurd (.inl ⟨_,_,rfl⟩) this
 have ak:=NM σ.j σ.D;have an:=Q.jn;have Y:∀e∈#[rd (stA Wg),wr (stA Wg)],EvB Wg e:=λe v=>by obtain⟨a,b,ha,rfl⟩:=nk (Wg:=Wg) (.inl rfl) e v;exact fg ha b
 have I:∀e∈#[rd (stA Wg)],EvB Wg e:=λe v=>by obtain⟨a,b,ha,rfl⟩:=nk (Wg:=Wg) (.inr (.inl rfl)) e v;exact fg ha b
 generalize k:σ.Kc=Kc at V;generalize d:σ.Mc=Mc at V;generalize B:σ.rc=R at V;generalize q:σ.dc=dc at V;cases V with
 |wd E=>
  obtain p|⟨_,g',w',es,N,f,o,r,s,u⟩:=E.mK;obtain⟨_,g',f,l⟩:=p w (.refl w)
  obtain⟨x,F⟩:=cW.of l;obtain⟨S,_,A,H⟩:=h.m_.AL (by rw[i];trivial);exact eu (st':=σ.st) (sm':=σ.sm) (c':=.w1) G h i y f (.inl rfl) W.wg (λe v=>by simp at v;subst v;exact .inl (iO λa=>by simp)) (by rw[k,d];exact .w1 F) (by rw[B];exact cj (by simp[kh])) (by rw[q];rfl)
   (by rw[A,H];exact .opn trivial S λZ e=>by cases e) (by simp) (λe=>by cases e) (λe=>by cases e)
  exact fh G h i y f (by simp) (by rw[d];exact o) (by rw[k,d];exact r) (by rw[k,d,q];exact .wd s) (by rw[B];exact fF u)
 |w1 E=>
  obtain p|⟨_,g',w',es,N,f,o,r,s,u⟩:=E.mK;obtain⟨_,p⟩:=p w (.refl w);obtain⟨S,_,A,H⟩:=h.m_.AL (by rw[i];trivial);rw[C,VK]at A;have hwg:=W.wg;rw[A,H]at hwg;obtain⟨g',f,h0,J⟩:=p (VW σ.j σ.D) (by omega) hwg;by_cases O:VW σ.j σ.D=0;obtain⟨x,F⟩:=cW.of (h0 O)
  exact eu (st':=0) (sm':=0) (c':=.we) G h i y f (.inl rfl) (by rw[O]at hwg;simpa using hwg) (λe v=>.inl (I e v)) (by rw[k,d];exact .we F) (by rw[B];exact cj (by simp[kh])) (by rw[q];exact sY _)
   (.fin trivial (Ql O S)) (by simp) (λe=>by cases e) (λe=>by cases e)
  obtain⟨x,F⟩:=cW.of (J O)
  exact eu (c':=.w2 (VW σ.j σ.D)) G h i y f (.inl rfl) hwg (λe v=>.inl (I e v)) (by rw[k,d];exact .w2 F) (by rw[B];exact cj (by simp[kh])) (by rw[q];exact sY _)
   (by
    have:=Mode.opn (j:=σ.j) (D:=σ.D) (mt:=σ.mt) (ct:=some (.w2 (VW σ.j σ.D))) trivial S λZ e=>by simp at e;subst e;omega
    rw[C,VK]at this;exact this) (by simp) (λe=>by cases e) (λe=>by cases e)
  exact fh G h i y f (by simp) (by rw[d];exact o) (by rw[k,d];exact r) (by rw[k,d,q];exact .w1 s) (by rw[B];exact fF u)
 | @w2 K M g w c Z E=>
  obtain p|⟨_,g',w',es,N,f,o,r,s,u⟩:=E.mK;obtain⟨_,p⟩:=p w (.refl w);obtain⟨S,af,A,H⟩:=h.m_.AL (by rw[i];trivial);rw[C,VK]at A;have hwg:=W.wg;rw[A,H]at hwg;obtain⟨hit,aa⟩:=p (VW σ.j σ.D) (by omega) hwg;have ag:=af Z i;by_cases O:VW σ.j σ.D=Z;obtain⟨g',f,l⟩:=hit O
  obtain⟨x,F⟩:=cW.of l;exact eu (c':=.sw) G h i y f (.inr ⟨_,_,rfl,rfl⟩) (hwg.setSt _) (λe v=>.inl (Y e v)) (by rw[k,d];exact .sw F) (by rw[B];exact cj (by simp[kh];split<;>omega)) (by rw[q];exact kS _ _)
   (.reg trivial S (by omega)) (by simp) (λe=>by cases e) (λe=>by cases e)
  obtain⟨g',f,l⟩:=aa O
  obtain⟨x,F⟩:=cW.of (l.bind λK M g w=>ad K M g w);exact eu (c':=.w1) G h i y f (.inl rfl) hwg (λe v=>.inl (I e v)) (by rw[k,d];exact .w1 F) (by rw[B];exact cj (by simp[kh,U4 O])) (by rw[q];exact sY _)
   (by
    have:=Mode.opn (j:=σ.j) (D:=σ.D) (mt:=σ.mt) (ct:=some .w1) trivial S λZ e=>by cases e
    rw[C,VK]at this;exact this) (by simp) (λe=>by cases e) (λe=>by cases e)
  exact fh G h i y f (by simp) (by rw[d];exact o) (by rw[k,d];exact r) (by rw[k,d,q];exact .w2 s) (by rw[B];exact fF u)
 |sw E=>
  obtain p|⟨_,g',w',es,N,f,o,r,s,u⟩:=E.mK;obtain⟨_,g',f,l⟩:=p w (.refl w)
  obtain⟨x,F⟩:=cW.of l;refine eu (st':=σ.st) (sm':=σ.sm) (c':=.w3) G h i y f (.inl rfl) W.wg (λe v=>by simp at v;subst v;exact .inr rfl) (by rw[k,d];exact .w3 F) (by rw[B];exact cj (by simp[kh])) (by rw[q];rfl)
   ?_ (by simp) (λe=>by cases e) (λe=>by cases e)
  rcases h.m_.Q1 (by rw[i];trivial)with⟨_,hm⟩|⟨hQ,J,h2⟩
  exact hm _ trivial;rw[J,h2];exact .sema trivial (by simp) hQ;exact fh G h i y f (by simp) (by rw[d];exact o) (by rw[k,d];exact r) (by rw[k,d,q];exact .sw s) (by rw[B];exact fF u)
 | @w3 K M g w c E=>
  obtain p|⟨_,g',w',es,N,f,o,r,s,u⟩:=E.mK;obtain⟨_,_,ab,T⟩:=p w (.refl w);rcases h.m_.Q1 (by rw[i];trivial)with⟨J,hm⟩|⟨hQ,J,h2⟩
  have hwg:=W.wg
  have f:=ab ⟨σ.st,by rw[<-J];exact hwg⟩;exact eu (st':=σ.st) (sm':=σ.sm) (c':=.blk) (ρ':=(kh (VW σ.j σ.D) .blk,0,c)) G h i y f (.inl rfl) hwg (λe v=>by simp at v) (by rw[k,d];exact .blk p) (by rw[B];exact cj (by simp[kh])) (by rw[q];rfl)
   (hm _ trivial) (by simp) (λe=>by cases e) (λe=>by cases e)
  have hwg:=W.wg
  rw[J,h2]at hwg;obtain⟨g',f,l⟩:=T hwg;obtain⟨x,F⟩:=cW.of l;exact eu (c':=.w4) G h i y f (.inr ⟨_,_,rfl,rfl⟩) (hwg.setSm _) (λe v=>.inl (NO e v)) (by rw[k,d];exact .w4 F) (by rw[B];exact cj (by simp[kh])) (by rw[q];exact E4 _)
   (.fin trivial hQ) (by simp) (λe=>by cases e) (λe=>by cases e)
  exact fh G h i y f (by simp) (by rw[d];exact o) (by rw[k,d];exact r) (by rw[k,d,q];exact .w3 s) (by rw[B];exact fF u)
 |blk E=>cases L
 |w4 E=>
  obtain p|⟨_,g',w',es,N,f,o,r,s,u⟩:=E.mK;obtain⟨_,p⟩:=p w (.refl w)
  obtain⟨hQ,J,h2⟩:=h.m_.isFin (by rw[i];trivial);have hwg:=W.wg;rw[J,h2]at hwg;obtain⟨g',f,l⟩:=p hwg;obtain⟨x,F⟩:=cW.of l;exact eu (c':=.we) G h i y f (.inl rfl) hwg (λe v=>.inl (I e v)) (by rw[k,d];exact .we F) (by rw[B];exact cj (by simp[kh])) (by rw[q];exact sY _)
   (.fin trivial hQ) (by simp) (λe=>by cases e) (λe=>by cases e)
  exact fh G h i y f (by simp) (by rw[d];exact o) (by rw[k,d];exact r) (by rw[k,d,q];exact .w4 s) (by rw[B];exact fF u)
 |we E=>
  obtain p|⟨_,g',w',es,N,f,o,r,s,u⟩:=E.mK;obtain⟨_,g',f,l⟩:=p w (.refl w)
  obtain⟨x,F⟩:=cW.of l;obtain⟨hQ,J,h2⟩:=h.m_.isFin (by rw[i];trivial);exact eu (st':=σ.st) (sm':=σ.sm) (c':=.acq) G h i y f (.inl rfl) W.wg (λe v=>by simp at v;subst v;exact .inl (iO λa=>by simp)) (by rw[k,d];exact .acq F) (by rw[B];exact cj (by simp[kh])) (by rw[q];rfl)
   (by rw[J,h2];exact .fin trivial hQ) (by simp) (λe=>by cases e) (λe=>by cases e)
  exact fh G h i y f (by simp) (by rw[d];exact o) (by rw[k,d];exact r) (by rw[k,d,q];exact .we s) (by rw[B];exact fF u)
 |acq E=>obtain p|⟨_,g',w',es,N,f,o,r,s,u⟩:=E.mK;exact yj G h i y q B (by rw[k,d];exact p w (.refl w));exact fh G h i y f (by simp) (by rw[d];exact o) (by rw[k,d];exact r) (by rw[k,d,q];exact .acq s) (by rw[B];exact fF u)
 |cl E=>obtain p|⟨_,g',w',es,N,f,o,r,s,u⟩:=E.mK;exact C3 G h i y q B (by rw[k,d];exact p w (.refl w));exact fh G h i y f (by simp) (by rw[d];exact o) (by rw[k,d];exact r) (by rw[k,d,q];exact .cl s) (by rw[B];exact fF u)
 |quit hq=>exact Fc G h i y L B (by rw[q];exact hq)
end
section
variable {P:Program} {ty:TypeId} {Wg ch:Nat} {z:Zj} {An:aL} {HV:Nat->Option Zj} {Fin:List Zj->aL} {n base N0:Nat} {shun:Nat->Prop} {F0:x6} {t₀ t:Trace} {gs gs':Array Zx} {w w':x6} {sl:Option (Nat×Nat)} {σ:GSt P ty Wg}
def GI.comm(G:fP Wg ch base N0 shun)(h:GI P ty Wg ch z An HV Fin n base N0 shun F0 t₀ gs w t σ){ops:Trace}{mt' r0'}{D':Nat->WD}{R':Nat->Rk P ty Wg} (H:w'.os=w.os/\w'.tape=w.tape/\w'.output=w.output) (o:w'.heap.size=w.heap.size) (q:∀b,b≠ch->w'.heap[b]? =w.heap[b]?) (S:∃s,w'.heap[ch]? =some (.chan 0 #[] (fe σ.ct) s s false)) (v:∀m∈ops,m.act.touch?=none/\m.act≠ .mark .disable/\m.act≠ .mark .enable/\m.act≠ .mark (.release (stA Wg))) (C:∀m∈ops,m.g≠base+n) (Z:∀m∈ops,m.g<base+n+1) (I:∀m∈ops,m.act.low w'.heap.size) (Y:∀i,i<σ.j->(D' i).K=(σ.D i).K/\(D' i).M=(σ.D i).M/\(D' i).d=(σ.D i).d/\((D' i).s<=5->(σ.D i).s<=5)) (aa:∃a,gs'[0]? =some a/\fO P ty Wg ch z An HV Fin n mt' σ.j σ.d0 σ.K0 σ.M0 r0' a w') (ab:∀i,i<σ.j->(D' i=σ.D i/\R' i=σ.R i/\gs'[base+i]? =gs[base+i]?)\/∃g,gs'[base+i]? =some g/\WSit P ty Wg ch z (HV i) (D' i) (R' i) g w') (E:∀k,0<k->(k<base\/k=base+n)->gs'[k]? =gs[k]?) (ad:gs'.size=gs.size) (U:∀i,σ.j<=i->R' i=σ.R i) (J:Mode σ.j D' mt' σ.ct σ.st σ.sm) (hV:VW σ.j D'=VW σ.j σ.D) (af:((∃r st,mt'=.sp r st)\/mt'=.gc)↔((∃r st,σ.mt=.sp r st)\/σ.mt=.gc)) (ag:(∃r V,mt'=.rb r V)->σ.ct≠some .quit/\∀i,i<σ.j->(D' i).s≠7) (ak:∀r V,mt'=.rw r V->σ.ct=some .quit) (X:∃l:List Nat,l.Nodup/\(∀i,i∈l↔i<σ.j/\(D' i).s<=6/\HV i≠none)/\mt'.got=l.filterMap HV):GI P ty Wg ch z An HV Fin n base N0 shun F0 t₀ gs' w' (t++ops) {σ with mt:=mt',r0:=r0',D:=D',R:=R'}:=by (have hb:=G.lZ;have W:=h.w_;have T:=h.t_;have Q:=h.g_;have y:∀k,Deaf (t++ops) k=Deaf t k:=λk=>nR (λm p=>⟨(v m p).2.1,(v m p).2.2.1⟩) k;have F:∀K:Nat->Prop,(∀b,K b->¬spB Wg ch b)->RK ty Wg K w w':=λK hK=>⟨λb f=>q b λe=>hK b f (.inr e),λ⟨st,sm,hl⟩=>⟨st,sm,hl.of_block (q Wg G.ne_)⟩,Wh o.symm⟩);have A:∀i r,RelBy (stA Wg) t (base+i) r->RelBy (stA Wg) (t++ops) (base+i) r:=λi r L=>pn L λm p=>(v m p).1;refine⟨⟨H.1.trans W.os,H.2.1.trans W.tape,H.2.2.trans W.output,by rw[o];exact W.gy,λb f=>?_,S,W.wg.of_block (q Wg G.ne_),by rw[o];exact W.sp,?_,?_,?_,?_,?_,W.mc,?_,W.E1,W.E2,W.CU,λk=>by rw[o];exact W.CW k⟩,⟨?_,?_,?_,?_,T.norel.app λm p=>(v m p).2.2.2,(y 0).trans T.d0,λi x=>?_,λB=>(y _).trans (T.dc B),λk h1 N h3=>(y k).trans (T.above k h1 N h3),λi x V=>?_,λB=>?_,λB=>?_⟩,⟨?_,Q.jn,Q.cn,aa,Q.mc.trans af.symm,λi x=>?_,?_,?_,?_,ag,ak⟩,J,X⟩;rw[q b (by have:=G.ch_;omega)];exact W.old b f;intro i x b f;rw[o];exact W.kw i x b (by rw[<-(Y i x).1];exact f);intro i x b f;exact W.mw i x b (by rw[<-(Y i x).2.1];exact f);intro b f;rw[o];exact W.k0 b f;intro b f;rw[o];exact W.m0 b f;intro B b f;rw[o];exact W.kc B b f;intro b f;rw[o];exact W.owns b f;obtain⟨u,rfl⟩:=T.pre;exact⟨_,VU ..⟩;exact T.tr.still (λm p=>(v m p).1) λm p e=>absurd e (C m p);exact lY T.seen (Wh o.symm) I;exact jB T.gb Z;exact(y _).trans ((T.dw i x).trans (Y i x).2.2.1.symm);obtain⟨r,L⟩:=T.rel i x ((Y i x).2.2.2 V);exact⟨r,A i r L⟩;exact ly (T.acq B) λi r _ L=>A i r L;refine lz (T.cls B) (λi r _ L=>A i r L) λi x an=>?_;obtain⟨m,ho,ao⟩:=Vi.1 an;obtain⟨aK,_⟩|⟨_,ar⟩:=getElem?_append_cases ho;omega;exact absurd ao (C m ar);show gs'.size=_;rw[ad];exact Q.size;obtain⟨e1,e2,e3⟩|h1:=ab i x;obtain⟨g,O,hw⟩:=Q.wk i x;refine⟨g,by rw[e3];exact O,?_⟩;show WSit P ty Wg ch z (HV i) (D' i) (R' i) g w';rw[e1,e2];exact hw.rely (F _ λb f=>(W.kw i x b f).2.1);exact h1;intro i h1 N;show(R' i).1=9;rw[U i h1];exact Q.unb i h1 N;intro c B;(obtain⟨g,O,ax⟩:=Q.cl c B;have ay:0<base+n:=by omega);refine⟨g,by rw[E _ ay (.inr rfl)];exact O,?_⟩;show CSit P ty Wg ch An (VW σ.j D') c σ.dc σ.Kc σ.Mc σ.rc g w';rw[hV];exact ax.rely (F _ λb f=>(W.kc (by rw[B];simp) b f).2.1);intro i g h1 N O;rw[E i h1 (.inl N)]at O;rw[y];exact Q.lv i g h1 N O
def yk(h:GI P ty Wg ch z An HV Fin n base N0 shun F0 t₀ gs w t σ){k}(d:k<gs.size):k=0\/(0<k/\k<base)\/(∃i,i<σ.j/\k=base+i)\/(σ.ct≠none/\k=base+n):=by have a:=h.g_.size;obtain h1|h1:=UK k base;omega;obtain h2|h2:=UK k (base+σ.j);exact .inr (.inr (.inl ⟨k-base,by omega,by omega⟩));cases b:σ.ct with|none=>rw[b]at a;simp at a;omega|some c=>have e:=h.g_.cn (by rw[b];simp);rw[b]at a;simp at a;exact .inr (.inr (.inr ⟨by simp,by omega⟩))
def fS{g}(h:g.status=.running\/g.status=.finished)(r s):offersAt g r s=[]:=offersAt_of_not_blocked (by rcases h with h|h<;>rw[h]<;>simp) r s
def vq(h:GI P ty Wg ch z An HV Fin n base N0 shun F0 t₀ gs w t σ){k g}(d:gs[k]? =some g)(j:k≠0):offersAt g ch false=[]:=by obtain b|⟨b,e⟩|⟨i,l,rfl⟩|⟨m,rfl⟩:=yk h (UO.1 d).1;exact absurd b j;exact fS (h.g_.lv k g b e d).status _ _;obtain⟨g',a,o⟩:=h.g_.wk i l;rw[d]at a;cases a;obtain⟨_,b⟩|⟨_,q,v,rfl⟩:=o.status;exact fS b _ _;exact offersAt_parked_send' ..;obtain⟨c,f⟩:=XD.1 m;obtain⟨g',a,p⟩:=h.g_.cl c f;rw[d]at a;cases a;obtain⟨_,b⟩|⟨_,b,e⟩:=p.status;exact fS b _ _;unfold offersAt;rw[b,e]
def JD(h:GI P ty Wg ch z An HV Fin n base N0 shun F0 t₀ gs w t σ){k g}(d:gs[k]? =some g)(m:k≠0):offersAt g ch true=[]\/∃i,i<σ.j/\k=base+i/\(σ.D i).s=7/\offersAt g ch true=[0]:=by obtain b|⟨b,e⟩|⟨i,l,rfl⟩|⟨o,rfl⟩:=yk h (UO.1 d).1;exact absurd b m;exact .inl (fS (h.g_.lv k g b e d).status _ _);obtain⟨g',a,p⟩:=h.g_.wk i l;rw[d]at a;cases a;obtain⟨_,b⟩|⟨q,u,v,rfl⟩:=p.status;exact .inl (fS b _ _);exact .inr ⟨i,l,rfl,q,by rw[offersAt_parked_send,UH rfl]⟩;obtain⟨c,f⟩:=XD.1 o;obtain⟨g',a,r⟩:=h.g_.cl c f;rw[d]at a;cases a;obtain⟨_,b⟩|⟨_,b,e⟩:=r.status;exact .inl (fS b _ _);refine .inl ?_;unfold offersAt;rw[b,e]
def Qm{mt j d K M ρ a}(h:fO P ty Wg ch z An HV Fin n mt j d K M ρ a w){r f}(e:mt=.rb r f):∃g,a=parked {g with offers:=none} #[rcase ch z] (.recv true)/\(∀c,RK ty Wg K w c->pj P ty Wg ch z HV Fin n r f K M g c)/\r+f.length=n/\j=n/\d=0:=by subst e;cases h with|rb a b=>exact⟨_,rfl,b,a,rfl,rfl⟩
theorem qT{HV:Nat->Option Zj}:∀{l:List Nat},(∀i∈l,HV i≠none)->(l.filterMap HV).length=l.length
 | [],_=>rfl
 |a::l,h=>by obtain⟨v,b⟩:=XD.1 (h a (by simp));rw[List.filterMap_cons,b];simp[qT (l:=l) λi c=>h i (by simp[c])]
theorem yl:∀{n} {l:List Nat},l.Nodup->(∀i∈l,i<n)->l.length<=n
 |0,[],_,_=>UI _
 |0,a::l,_,h=>absurd (h a (by simp)) (UX _)
 |n+1,l,c,h=>by
  by_cases d:n∈l
  .have:=yl (n:=n) (c.erase n) λi b=>by
    have f:=h i (List.mem_of_mem_erase b);have g:i≠n:=λe=>by subst e;exact(List.Nodup.mem_erase_iff c).1 b |>.1 rfl
    omega
   rw[List.length_erase_of_mem d]at this;omega
  .have:=yl (n:=n) c λi b=>by have f:=h i b;have g:i≠n:=λe=>d (e▸b);omega
   omega
def Fg{i}(o:i<σ.j)(p:σ.j<=n){v}(g:HV i=some v)(r:6<(σ.D i).s){D':Nat->WD}(c:(D' i).s=6)(d:∀k,k≠i->D' k=σ.D k)(h:Got P ty Wg HV σ):σ.mt.got.length<n/\∃l:List Nat,l.Nodup/\(∀k,k∈l↔k<σ.j/\(D' k).s<=6/\HV k≠none)/\σ.mt.got++[v]=l.filterMap HV:=by (obtain⟨l,q,b,m⟩:=h;have f:i∉l:=λe=>by have:=((b i).1 e).2.1;omega);have a:=List.nodup_cons.2 ⟨f,q⟩;refine⟨?_,l++[i],?_,λk=>?_,?_⟩;rw[m,qT λk hk=>((b k).1 hk).2.2];(have:=yl (n:=n) a λk hk=>by obtain rfl|hk:=U8.1 hk;omega;have:=((b k).1 hk).1;omega);simp at this;omega;exact(List.perm_append_singleton i l).nodup_iff.2 a;rw[Wn,Wd];by_cases e:k=i;subst e;simp[o,c,g];rw[d k e,b k];simp[e];rw[m];simp[g]
def C4{mt mt':oy}(h:(∃r a,mt=.rb r a)\/(∃r a,mt=.rc r a))(c:(∃r a,mt'=.rb r a)\/(∃r a,mt'=.rc r a)):((∃r st,mt'=.sp r st)\/mt'=.gc)↔((∃r st,mt=.sp r st)\/mt=.gc):=by constructor;(rintro(⟨_,_,e⟩|e)<;>rcases c with⟨_,_,b⟩|⟨_,_,b⟩<;>rw[b]at e<;>cases e);rintro(⟨_,_,e⟩|e)<;>rcases h with⟨_,_,b⟩|⟨_,_,b⟩<;>rw[b]at e<;>cases e
def jS{i d f s r cap a1 h j k l m o p q u v x}(y:a1<base+n)(A:h<base+n)(C:j<base+n)(D:k<base+n):∀a∈(MemOp.ofEvents i d f #[]++#[{g:=a1,fn:=l,pos:=q,act:=.send ch s},{g:=h,fn:=m,pos:=u,act:=.recv ch r cap},{g:=j,fn:=o,pos:=v,act:=.sendDone ch s},{g:=k,fn:=p,pos:=x,act:=.recvDone ch r}]:Trace),(a.act.touch?=none/\a.act≠ .mark .disable/\a.act≠ .mark .enable/\a.act≠ .mark (.release (stA Wg)))/\a.g<base+n/\∀B,ch<B->a.act.low B:=by intro a b;have e:MemOp.ofEvents i d f #[]=#[]:=rfl;rw[e]at b;simp only[Wa,VH,U8,Vf,Vh]at b;obtain rfl|rfl|rfl|rfl:=b;exact⟨⟨rfl,by simp,by simp,by simp⟩,y,λ_ c=>c⟩;exact⟨⟨rfl,by simp,by simp,by simp⟩,A,λ_ c=>c⟩;exact⟨⟨rfl,by simp,by simp,by simp⟩,C,λ_ c=>c⟩;exact⟨⟨rfl,by simp,by simp,by simp⟩,D,λ_ c=>c⟩
def Fh(G:fP Wg ch base N0 shun)(h:GI P ty Wg ch z An HV Fin n base N0 shun F0 t₀ gs w t σ){i}(E:i<σ.j){g}(hg:gs[base+i]? =some g){v}(hv:HV i=some v)(hs:(σ.D i).s=8)(Y:(σ.D i).d=0){c}(hR:σ.R i=(8,0,c)) (ar:NI P ty Wg ch z v (σ.D i).K (σ.D i).M g w):dW P ty Wg ch z An HV Fin n base N0 shun F0 t₀ t gs w sl σ (base+i):=by
 have hb:=G.lZ;have W:=h.w_;have T:=h.t_;have Q:=h.g_;have H:=UL E Q.jn;obtain⟨aR,⟨es,rfl,Z⟩,aa⟩:=ar;have ab:(base+i==0)=false:=by simp;omega
 have ad:σ.ct≠some .quit:=λe=>by have:=h.m_.yb (by rw[e];trivial) i E;omega
 obtain⟨s,hch⟩:=W.chn;rw[fQ ad]at hch;have F:=(UO.1 hg).1;have o:∀(f:FuncId) (p:String),MemOp.ofEvents (base+i) f p #[]=#[]:=λ_ _=>rfl;obtain⟨a,ha,hm⟩:=Q.mn;by_cases I:∃r hs,σ.mt=.rb r hs
 ·
  obtain⟨r,B,C⟩:=I;obtain⟨g2,rfl,ax,a1,ay,af⟩:=Qm hm C;have hp:partners (gs.setIfInBounds (base+i) ph) ch false=[(0,0)]:=by
   rw[partners_one (j:=0) (g:=parked {g2 with offers:=none} #[rcase ch z] (.recv true)) (by rw[UU (by omega)];exact ha) λk x q hx=>?_]
   .rw[offersAt_parked_recv,UH rfl];rfl
   .obtain⟨_,rfl⟩|⟨_,u⟩:=getElem?_stand gs (base+i) k x hx
    .exact offersAt_ph _ _
    .exact vq h u q
  have J:=crowd_send_meets (sl:=sl) (i:=base+i) (j:=0) hg (by rw[ab];exact Z) hch (by omega) ha hp;have y:=Fg (D':=upd σ.D i ⟨6,0,(σ.D i).K,(σ.D i).M⟩) E Q.jn hv (by omega) (by rw[upd_same]) (λk q=>upd_ne _ _ q) h.v_;rw[C]at y;obtain⟨ag,ak⟩:=y;have aK:B.length<n:=ag;obtain⟨r',rfl⟩:∃r',r=r'+1:=⟨r-1,by omega⟩
  let w':=w.setChan ch 0 #[] false (s+1) (s+1) false;have L:∀b,b≠ch->w'.heap[b]? =w.heap[b]? :=λb m=>UU (U4 m);have N:w'.heap.size=w.heap.size:=by simp[w',World.setChan]
  have O:=W.wg.of_block (L Wg G.ne_);have an:∀K:Nat->Prop,(∀b,K b->¬spB Wg ch b)->RK ty Wg K w w':=λK hK=>⟨λb m=>L b λe=>hK b m (.inr e),λ_=>⟨_,_,O⟩,Wh N.symm⟩
  obtain⟨_,_,_,S⟩:=ax w (.refl w);obtain⟨x1,aM⟩:=cW.of ((S i v H hv).rely (an _ λb m=>(W.k0 b m).2.1));obtain⟨x2,U⟩:=cW.of (aa.rely (an _ λb m=>(W.kw i E b m).2.1));refine⟨_,w',_,_,J,h.comm (mt':=.rc r' (B++[v])) (r0':=(20,0,x1)) (D':=upd σ.D i ⟨6,0,(σ.D i).K,(σ.D i).M⟩) (R':=upd σ.R i (6,0,x2)) G ⟨rfl,rfl,rfl⟩ N L ⟨s+1,?_⟩
   (λA l=>(jS (base:=base) (n:=n) (by omega) (by omega) (by omega) (by omega) A l).1) (λA l=>Nat.ne_of_lt (jS (base:=base) (n:=n) (Wg:=Wg) (by omega) (by omega) (by omega) (by omega) A l).2.1) (λA l=>XC (jS (base:=base) (n:=n) (Wg:=Wg) (by omega) (by omega) (by omega) (by omega) A l).2.1) (λA l=>(jS (base:=base) (n:=n) (Wg:=Wg) (by omega) (by omega) (by omega) (by omega) A l).2.2 _ (by rw[N];exact W.sp.2))
   (λk q=>?_) ?_ (λk q=>?_) (λk h1 h2=>?_) ?_ (λk q=>?_) ?_ ?_ ?_ ?_ ?_ ?_,jR H rfl (by rw[hR];exact cj (by omega))⟩
  .rw[fQ ad]
   show(w.heap.setIfInBounds ch _)[ch]? =_;rw[Vz];simp[W.sp.2]
  .by_cases e:k=i
   .subst e;rw[upd_same];exact⟨rfl,rfl,Y.symm,λx=>by simp at x⟩
   .rw[upd_ne _ _ e];exact⟨rfl,rfl,rfl,id⟩
  .refine⟨Conc.served {g2 with offers:=none} (recvd true v true),?_,?_⟩
   .rw[UU (by omega),Vz]
    rw[UH rfl,UH (by omega)];rfl
   .rw[af,ay]
    exact .rc (by simp;omega) aM
  .by_cases e:k=i
   .subst e
    refine .inr ⟨Conc.served {g with offers:=none} undef,?_,?_⟩
    .rw[Vz,UH rfl,UH (by simp;exact F)]
     rfl
    .rw[upd_same,upd_same];exact .r0 U
   .refine .inl ⟨upd_ne _ _ e,upd_ne _ _ e,?_⟩
    rw[UU (by omega),UU (by omega)]
  .rw[UU (by omega),UU (by omega)]
  .simp
  .rw[upd_ne];omega
  .exact(h.m_.same (D':=⟨6,0,(σ.D i).K,(σ.D i).M⟩) E (.inr ⟨by simp,by omega⟩)).uo (by rw[C];rfl)
  .have:=uk (D:=σ.D) (D':=⟨6,0,(σ.D i).K,(σ.D i).M⟩) E
   have e1:kg (σ.D i)=1:=UH (by omega);have e2:kg ⟨6,0,(σ.D i).K,(σ.D i).M⟩=1:=rfl;omega
  .exact C4 (.inl ⟨_,_,C⟩) (.inr ⟨_,_,rfl⟩)
  .rintro⟨_,_,e⟩;cases e
  .intro _ _ e;cases e
  .exact ak
 ·
  have V:offersAt a ch false=[]:=by
   obtain⟨h1,_⟩|⟨r,B,g2,h1,_⟩:=hm.status
   .exact fS (.inl h1) _ _
   .exact absurd ⟨r,B,h1⟩ I
  have hp:partners (gs.setIfInBounds (base+i) ph) ch false=[]:=partners_nil λk x hx=>by
   obtain⟨_,rfl⟩|⟨_,u⟩:=getElem?_stand gs (base+i) k x hx
   .exact offersAt_ph _ _
   .by_cases q:k=0
    .subst q
     rw[ha]at u;cases u;exact V
    .exact vq h u q
  have X:=crowd_waits (sl:=sl) (i:=base+i) hg (by rw[ab];exact Z) (λcc ao=>by simp at ao;subst ao;exact ways_send_none hch (UI _) hp)
  obtain⟨x2,U⟩:=cW.of aa;refine⟨_,w,_,_,X,h.comm (mt':=σ.mt) (r0':=σ.r0) (D':=upd σ.D i ⟨7,0,(σ.D i).K,(σ.D i).M⟩) (R':=upd σ.R i (7,0,x2)) G ⟨rfl,rfl,rfl⟩ rfl (λ_ _=>rfl) W.chn
   (λA l=>?_) (λA l=>?_) (λA l=>by rw[o]at l;simp at l) (λA l=>by rw[o]at l;simp at l)
   (λk q=>?_) ?_ (λk q=>?_) (λk h1 h2=>?_) ?_ (λk q=>?_) ?_ ?_ ?_ ?_ ?_ ?_,jR H rfl (by rw[hR];exact cj (by omega))⟩
  .rw[o]at l;simp at l
  .rw[o]at l;simp at l
  .by_cases e:k=i
   .subst e;rw[upd_same];exact⟨rfl,rfl,Y.symm,λx=>by simp at x⟩
   .rw[upd_ne _ _ e];exact⟨rfl,rfl,rfl,id⟩
  .exact⟨a,by rw[UU (by omega)];exact ha,hm⟩
  .by_cases e:k=i
   .subst e
    refine .inr ⟨_,by rw[Vz,UH rfl,UH F],?_⟩;rw[upd_same,upd_same];exact .blk hv U
   .exact .inl ⟨upd_ne _ _ e,upd_ne _ _ e,by rw[UU (by omega)]⟩
  .rw[UU (by omega)]
  .simp
  .rw[upd_ne];omega
  .exact h.m_.same (D':=⟨7,0,(σ.D i).K,(σ.D i).M⟩) E (.inr ⟨by simp,by omega⟩)
  .have:=uk (D:=σ.D) (D':=⟨7,0,(σ.D i).K,(σ.D i).M⟩) E
   have e1:kg (σ.D i)=1:=UH (by omega);have e2:kg ⟨7,0,(σ.D i).K,(σ.D i).M⟩=1:=rfl;omega
  .rfl
  .exactλe=>absurd e I
  .exact Q.mq
  .exact AJ (λk q=>by
    by_cases e:k=i
    .subst e;rw[upd_same];simp[hs]
    .rw[upd_ne _ _ e]) h.v_
def Iv{r a K M g}(h:pj P ty Wg ch z HV Fin n r a K M g w):g.status=.running/\stepG P true g w=.comm {g with offers:=none} #[rcase ch z] true (.recv true) w #[]/\Fin a K M (Conc.served g (.tuple #[z,.bool false])) w:=by cases r with|zero=>exact h|succ r=>exact⟨h.1,h.2.1,h.2.2.1⟩
def NP{b D ρ a d i sh}(h:WSit P ty Wg ch z b D ρ (parked a #[scase ch d i] sh) w):b=some d/\D=⟨7,0,D.K,D.M⟩/\sh=.send/\∃c,ρ=(7,0,c)/\cW P ty Wg false (SR0 P ty Wg) D.K D.M (Conc.served a undef) w c:=by (have m:∀{g:Zx},(parked a #[scase ch d i] sh)=g->(g.status=.running\/g.status=.finished)->False:=λe h=>by subst e;rcases h with h|h<;>cases h);have j:=h.status;obtain⟨_,k⟩|⟨o,_⟩:=j;exact(m rfl k).elim;generalize l:parked a #[scase ch d i] sh=u at h;cases h with| @blk K M p _ c v b q=>obtain⟨f,cs,st,x,of⟩:=a;obtain⟨y,cs',st',r,s⟩:=p;simp only[parked,scase,Goroutine.mk.injEq,Vw,XX,Yv,Xc,CommCase.mk.injEq]at l;obtain⟨rfl,rfl,_,rfl,k,rfl⟩:=l;obtain⟨⟨_,rfl,rfl⟩,_⟩:=k;exact⟨b,rfl,rfl,c,rfl,q⟩|_=>cases o
def NR(P ty)(Wg ch:Nat)(z:Zj)(An:aL)(HV:Nat->Option Zj)(Fin:List Zj->aL)(n base N0:Nat)(shun:Nat->Prop)(F0:x6)(t₀ t:Trace)(gs:Array Zx)(w:x6)(sl:Option (Nat×Nat))(σ:GSt P ty Wg):Prop:=∃r a b fn pos,(σ.mt=.rc r a\/σ.mt=.rw r a)/\σ.ct=some .quit/\Fin a σ.K0 σ.M0 (Conc.served b (.tuple #[z,.bool false])) w/\runT P (crowd gs w sl) 0=(.next (crowd (gs.setIfInBounds 0 (Conc.served b (.tuple #[z,.bool false]))) w sl),#[{g:=0,fn:=fn,pos:=pos,act:=.recvClosed ch}])
def C5(G:fP Wg ch base N0 shun)(h:GI P ty Wg ch z An HV Fin n base N0 shun F0 t₀ gs w t σ){g:Zx}(hg:gs[0]? =some g){r:Nat}{I:List Zj}{c:RC P ty Wg}{g2:Zx}(bb:r+I.length=n) (V:σ.mt=.rc r I/\g=g2/\σ.r0=(20,0,c)\/σ.mt=.rw r I/\g={parked {g2 with offers:=none} #[rcase ch z] (.recv true)with status:=.running}/\σ.r0=(18,0,c)) (hj:σ.j=n) (ar:σ.d0=0) (X:∀J,RK ty Wg σ.K0 w J->pj P ty Wg ch z HV Fin n r I σ.K0 σ.M0 g2 J):dW P ty Wg ch z An HV Fin n base N0 shun F0 t₀ t gs w sl σ 0\/NR P ty Wg ch z An HV Fin n base N0 shun F0 t₀ t gs w sl σ:=by
 have hb:=G.lZ;have W:=h.w_;have T:=h.t_;have Q:=h.g_;have L:=(UO.1 hg).1;obtain⟨b4,N,ax⟩:=Iv (X w (.refl w));have Y:stepG P true g w=.comm {g2 with offers:=none} #[rcase ch z] true (.recv true) w #[]:=by obtain⟨_,rfl,_⟩|⟨_,rfl,_⟩:=V;exact N;rw[<-N];exact stepG_same rfl rfl rfl w
 have o:∀(f:FuncId) (p:String),MemOp.ofEvents 0 f p #[]=#[]:=λ_ _=>rfl;obtain⟨s,hch⟩:=W.chn;have A:(∀i,i<σ.j->(σ.D i).s≠7)->partners (gs.setIfInBounds 0 ph) ch true=[]:=λh7=>partners_nil λk x hx=>by obtain⟨_,rfl⟩|⟨m,F⟩:=getElem?_stand gs 0 k x hx;exact offersAt_ph _ _;obtain B|⟨i,q,_,O,_⟩:=JD h F m;exact B;exact absurd O (h7 i q)
 by_cases Z:σ.ct=some .quit
 ·
  right;rw[Z]at hch;have hQ:=h.m_.yb (by rw[Z];trivial);have hp:=A λi q=>by rw[hQ i q];omega
  have:=crowd_recv_closed (sl:=sl) (i:=0) hg Y hch hp;rw[o,Wa]at this;exact⟨r,I,g2,_,_,V.imp (·.1) (·.1),Z,ax,this⟩
 ·
  left;rw[fQ Z]at hch;have bk:=V.resolve_right λ⟨e,_⟩=>Z (Q.mq _ _ e);obtain⟨y,rfl,bm⟩:=bk;by_cases h7:∃i,i<σ.j/\(σ.D i).s=7
  ·
   obtain⟨i0,bo,br⟩:=h7;obtain⟨g0,bs,bx⟩:=Q.wk i0 bo;have S:∀k x,k≠0->gs[k]? =some x->offersAt x ch true≠[]->∃i,i<σ.j/\k=base+i/\(σ.D i).s=7/\∃U v,x=parked U #[scase ch v undef] .send:=by
    intro k x m hx aa;obtain B|⟨i,q,rfl,O,_⟩:=JD h hx m
    .exact absurd B aa
    .obtain⟨g',ay,hw⟩:=Q.wk i q
     rw[hx]at ay;cases ay;obtain⟨B,_⟩|⟨_,U,v,rfl⟩:=hw.status
     .exact absurd O B
     .exact⟨i,q,rfl,O,U,v,rfl⟩
   have aa:partners (gs.setIfInBounds 0 ph) ch true≠[]:=by
    intro e;obtain⟨B,_⟩|⟨_,U,v,rfl⟩:=bx.status
    .exact B br
    .have:(base+i0,0)∈partners (gs.setIfInBounds 0 ph) ch true:=mem_partners.2 ⟨_,by rw[UU (by omega)];exact bs,by rw[offersAt_parked_send,UH rfl];simp⟩
     rw[e]at this;cases this
   obtain⟨j,U,vj,zj,b5,d,H,ab,ad⟩:=crowd_recv_meets_some (sl:=sl) (i:=0) hg Y hch aa λj k bA=>by
    obtain⟨x,hx,m⟩:=mem_partners.1 bA;obtain⟨_,rfl⟩|⟨H,F⟩:=getElem?_stand gs 0 j x hx
    .rw[offersAt_ph]at m;cases m
    .obtain⟨i,q,rfl,_,U,v,rfl⟩:=S j x H F λe=>by rw[e]at m;cases m
     rw[offersAt_parked_send,UH rfl]at m;exact⟨by simpa using m,H,U,v,undef,_,F⟩
   obtain⟨i,q,rfl,b6,_⟩:=S j _ H ab (by rw[offersAt_parked_send,UH rfl];simp);have aK:=UL q Q.jn;obtain⟨gx,aM,bB⟩:=Q.wk i q;rw[ab]at aM;cases aM;obtain⟨hv,hD,rfl,cw,hR,bC⟩:=NP bB;have b0:(σ.D i).d=0:=by rw[hD]
   have C:=Fg (D':=upd σ.D i ⟨6,0,(σ.D i).K,(σ.D i).M⟩) q Q.jn hv (by omega) (by rw[upd_same]) (λk m=>upd_ne _ _ m) h.v_;rw[y]at C;obtain⟨aR,a1⟩:=C;have b1:I.length<n:=aR;obtain⟨r',rfl⟩:∃r',r=r'+1:=⟨r-1,by omega⟩
   let w':=(w.at d).setChan ch 0 #[] false (s+1) (s+1) false;have af:∀b,b≠ch->w'.heap[b]? =w.heap[b]? :=λb u=>UU (U4 u);have ag:w'.heap.size=w.heap.size:=by show(w.heap.setIfInBounds ch _).size=_;simp
   have ak:=W.wg.of_block (af Wg G.ne_);have a6:∀K:Nat->Prop,(∀b,K b->¬spB Wg ch b)->RK ty Wg K w w':=λK hK=>⟨λb u=>af b λe=>hK b u (.inr e),λ_=>⟨_,_,ak⟩,Wh ag.symm⟩
   obtain⟨_,_,_,an⟩:=X w (.refl w);obtain⟨x1,b2⟩:=cW.of ((an i vj aK hv).rely (a6 _ λb u=>(W.k0 b u).2.1));obtain⟨x2,b3⟩:=cW.of (bC.now.rely (a6 _ λb u=>(W.kw i q b u).2.1));refine⟨_,w',_,_,ad,h.comm (mt':=.rc r' (I++[vj])) (r0':=(20,0,x1)) (D':=upd σ.D i ⟨6,0,(σ.D i).K,(σ.D i).M⟩) (R':=upd σ.R i (6,0,x2)) G ⟨rfl,rfl,rfl⟩ ag af ⟨s+1,?_⟩
    (λE a=>(jS (base:=base) (n:=n) (by omega) (by omega) (by omega) (by omega) E a).1) (λE a=>Nat.ne_of_lt (jS (base:=base) (n:=n) (Wg:=Wg) (by omega) (by omega) (by omega) (by omega) E a).2.1) (λE a=>XC (jS (base:=base) (n:=n) (Wg:=Wg) (by omega) (by omega) (by omega) (by omega) E a).2.1) (λE a=>(jS (base:=base) (n:=n) (Wg:=Wg) (by omega) (by omega) (by omega) (by omega) E a).2.2 _ (by rw[ag];exact W.sp.2))
    (λk m=>?_) ?_ (λk m=>?_) (λk B O=>?_) ?_ (λk m=>?_) ?_ ?_ ?_ ?_ ?_ ?_,jR aK rfl (by rw[hR];exact cj (by omega))⟩
   .rw[fQ Z]
    show(w.heap.setIfInBounds ch _)[ch]? =_;rw[Vz];simp[W.sp.2]
   .by_cases e:k=i
    .subst e;rw[upd_same];exact⟨rfl,rfl,b0.symm,λx=>by simp at x⟩
    .rw[upd_ne _ _ e];exact⟨rfl,rfl,rfl,id⟩
   .refine⟨Conc.served {g with offers:=none} (recvd true vj true),?_,?_⟩
    .rw[Vz,UH rfl,UH (by simp;exact L)]
     rfl
    .rw[ar,hj]
     exact .rc (by simp;omega) b2
   .by_cases e:k=i
    .subst e
     refine .inr ⟨Conc.served U undef,?_,?_⟩
     .have a7:=(UO.1 ab).1
      rw[UU (by omega),Vz,UH rfl,UH a7];rfl
     .rw[upd_same,upd_same];exact .r0 b3
    .refine .inl ⟨upd_ne _ _ e,upd_ne _ _ e,?_⟩
     rw[UU (by omega),UU (by omega)]
   .rw[UU (by omega),UU (by omega)]
   .simp
   .rw[upd_ne];omega
   .exact(h.m_.same (D':=⟨6,0,(σ.D i).K,(σ.D i).M⟩) q (.inr ⟨by simp,by omega⟩)).uo (by rw[y];rfl)
   .have:=uk (D:=σ.D) (D':=⟨6,0,(σ.D i).K,(σ.D i).M⟩) q
    have e1:kg (σ.D i)=1:=UH (by omega);have e2:kg ⟨6,0,(σ.D i).K,(σ.D i).M⟩=1:=rfl;omega
   .exact C4 (.inr ⟨_,_,y⟩) (.inr ⟨_,_,rfl⟩)
   .rintro⟨_,_,e⟩;cases e
   .intro _ _ e;cases e
   .exact a1
  ·
   have a8:∀i,i<σ.j->(σ.D i).s≠7:=λi q e=>h7 ⟨i,q,e⟩;have ao:=crowd_waits (sl:=sl) (i:=0) hg Y (λcc ba=>by simp at ba;subst ba;exact ways_recv_none hch (A a8))
   refine⟨_,w,_,_,ao,h.comm (mt':=.rb r I) (r0':=(19,0,c)) (D':=σ.D) (R':=σ.R) G ⟨rfl,rfl,rfl⟩ rfl (λ_ _=>rfl) W.chn
    (λE a=>by rw[o]at a;simp at a) (λE a=>by rw[o]at a;simp at a) (λE a=>by rw[o]at a;simp at a) (λE a=>by rw[o]at a;simp at a)
    (λk m=>⟨rfl,rfl,rfl,id⟩) ⟨_,by rw[Vz,UH rfl,UH L],?_⟩ (λk m=>.inl ⟨rfl,rfl,by rw[UU (by omega)]⟩) (λk B O=>by rw[UU (by omega)]) (by simp) (λk m=>rfl)
    (h.m_.uo (by rw[y];rfl)) rfl (C4 (.inr ⟨_,_,y⟩) (.inl ⟨_,_,rfl⟩)) (λ_=>⟨Z,a8⟩) (λ_ _ e=>by cases e) ?_,?_⟩
   .rw[ar,hj];exact .rb bb X
   .obtain⟨l,B,O,h3⟩:=h.v_
    exact⟨l,B,O,by rw[<-h3,y];rfl⟩
   .exact um rfl (by rw[bm];exact cj (by omega))
def GI.Q2(G:fP Wg ch base N0 shun)(h:GI P ty Wg ch z An HV Fin n base N0 shun F0 t₀ gs w t σ)(d):GI P ty Wg ch z An HV Fin n base N0 shun F0 t₀ gs (w.at d) t σ:=by
 have W:=h.w_;have Q:=h.g_;have rk:∀K,RK ty Wg K w (w.at d):=λK=>⟨λ_ _=>rfl,id,UI _⟩
 obtain⟨a,e,f⟩:=Q.mn;have:=h.comm (w':=w.at d) (gs':=gs) (ops:=#[]) (mt':=σ.mt) (r0':=σ.r0) (D':=σ.D) (R':=σ.R) G ⟨rfl,rfl,rfl⟩ rfl (λ_ _=>rfl) W.chn (λc b=>by simp at b) (λc b=>by simp at b) (λc b=>by simp at b) (λc b=>by simp at b)
  (λ_ _=>⟨rfl,rfl,rfl,id⟩) ⟨a,e,f.rely (rk _)⟩ (λi g=>.inl ⟨rfl,rfl,rfl⟩) (λ_ _ _=>rfl) rfl (λ_ _=>rfl) h.m_ rfl WC Q.mb Q.mq h.v_
 rw[XP]at this;exact this
def Fi(G:fP Wg ch base N0 shun)(h:GI P ty Wg ch z An HV Fin n base N0 shun F0 t₀ gs w t σ){k}(h0:0<k)(V:k<base){g}(hg:gs[k]? =some g)(p:g.status=.running):dW P ty Wg ch z An HV Fin n base N0 shun F0 t₀ t gs w sl σ k:=by
 have hb:=G.lZ;have W:=h.w_;have T:=h.t_;have Q:=h.g_;have hq:=Q.lv k g h0 V hg;have X:=(UO.1 hg).1;have ag:(k==0)=false:=by simp;omega
 cases M:σ.q k with
 |zero=>rw[M]at hq;rw[hq.1]at p;cases p
 |succ m=>
  rw[M]at hq;obtain⟨hf,_⟩|⟨_,g',es,Y,Z,aa⟩:=hq;rw[hf]at p;cases p;have N:=runT_crowd_go (P:=P) (sl:=sl) (i:=k) hg (by rw[ag];exact Z w);have f:∀I∈MemOp.ofEvents k g.frame.fn g.frame.place es,I.g=k:=λI l=>by obtain⟨e,_,rfl⟩:=Go.Conc.mem_ofEvents l;rfl
  have O:∀I∈MemOp.ofEvents k g.frame.fn g.frame.place es,I.act.touch?=none:=λI l=>by obtain⟨e,he,rfl⟩:=Go.Conc.mem_ofEvents l;exact touch_mute (Y e he)
  have aM:sumTo base (upd σ.q k m)+(m+1)=sumTo base σ.q+m:=by have:=sumTo_upd σ.q m id V;simpa[M]using this
  obtain⟨b,A,v,ak⟩:∃b A,(b=σ.ct\/(σ.ct=some .blk/\b=some .w3))/\
   ∀c,b=some c->∃gc,((gs.map (woken P g g' w)).setIfInBounds k g')[base+n]? =some gc/\CSit P ty Wg ch An (VW σ.j σ.D) c σ.dc σ.Kc σ.Mc A gc w:=by
   cases o:σ.ct with
   |none=>exact⟨none,σ.rc,.inl rfl,λc e=>by cases e⟩
   |some c=>
    obtain⟨gc,an,ao⟩:=Q.cl c o;obtain⟨c',ar,y,K,_⟩:=ao.woken g g' w aa.status;refine⟨some c',ar,?_,λc2 e=>?_⟩
    .obtain rfl|⟨rfl,rfl⟩:=K
     .exact .inl rfl
     .exact .inr ⟨rfl,rfl⟩
    .cases e
     refine⟨_,?_,y⟩;rw[bQ _ _ _ _ _ (by omega),an];rfl
  have d:b=none↔σ.ct=none:=by obtain rfl|⟨a,rfl⟩:=v;rfl;simp[a]
  have B:b=some .quit↔σ.ct=some .quit:=by obtain rfl|⟨a,rfl⟩:=v;rfl;simp[a]
  have ab:b=some .cl↔σ.ct=some .cl:=by obtain rfl|⟨a,rfl⟩:=v;rfl;simp[a]
  have ax:fe b=fe σ.ct:=by obtain rfl|⟨a,rfl⟩:=v;rfl;rw[a];rfl
  have C:∀E r,E<n->RelBy (stA Wg) t (base+E) r->RelBy (stA Wg) (t++MemOp.ofEvents k g.frame.fn g.frame.place es) (base+E) r:=λE r _ hr=>dV hr f (by omega);have F:∀k',k'≠k->Deaf (t++MemOp.ofEvents k g.frame.fn g.frame.place es) k'=Deaf t k':=λk' R=>Deaf_other t (U4 R) _ f;have H:σ.ct≠some .quit->∃s r tm,w.heap[ch]? =some (.chan 0 #[] false s r tm):=by intro o;obtain⟨s,J⟩:=W.chn;rw[fQ o]at J;exact⟨s,s,false,J⟩
  let S:GSt P ty Wg:={σ with ct:=b,rc:=A,q:=upd σ.q k m}
  refine⟨_,w,_,S,N,⟨?_,?_,?_,h.m_.retag v,h.v_⟩,?_⟩;refine⟨W.os,W.tape,W.output,W.gy,W.old,?_,W.wg,W.sp,W.kw,W.mw,W.k0,W.m0,λo=>W.kc λe=>o (d.2 e),λo=>W.mc λe=>o (d.2 e),W.owns,W.E1,W.E2.trans (not_congr d.symm),W.CU,W.CW⟩;obtain⟨s,J⟩:=W.chn;exact⟨s,by rw[J];show _=some (Obj.chan 0 #[] (fe b) s s false);rw[ax]⟩
  refine⟨?_,T.tr.still O λI l e=>absurd ((f I l).symm.trans e) (by omega),lY T.seen (UI _) λI l=>?_,jB T.gb (λI l=>by
   rw[f I l];have y:=(UO.1 hg).1;have K:=Q.size;have h3:=Q.jn;split at K<;>omega),T.norel.app (norel_of λe he=>?_),(F 0 (by omega)).trans T.d0,λE x=>(F _ (by omega)).trans (T.dw E x),λo=>(F _ (by omega)).trans (T.dc λe=>o (d.2 e)),
   λk' y K h3=>(F k' (by omega)).trans (T.above k' y K λe=>h3 λe'=>e (d.1 e')),λE x J=>?_,λo=>ly (T.acq (ab.1 o)) C,λo=>lz (T.cls (B.1 o)) C (jk f (by omega))⟩
  obtain⟨u,rfl⟩:=T.pre;exact⟨_,VU ..⟩;obtain⟨e,he,rfl⟩:=Go.Conc.mem_ofEvents l;exact low_mute (Y e he) _;intro e2;have:=Y e he;obtain⟨aR,a1,sy⟩:=e;simp only at e2;subst e2;simp[Event.mute]at this;obtain⟨r,hr⟩:=T.rel E x J;exact⟨r,dV hr f (by omega)⟩;refine⟨?_,Q.jn,λo=>Q.cn λe=>o (d.2 e),?_,d.trans Q.mc,λE x=>?_,Q.unb,ak,λk' gk y K hk=>?_,λY=>?_,λr J e=>B.2 (Q.mq r J e)⟩;have:(if b.isSome then 1 else 0)=(if σ.ct.isSome then 1 else 0):=by obtain rfl|⟨a,rfl⟩:=v;rfl;rw[a];rfl
  simp only[Vg,Wq];rw[this];exact Q.size;obtain⟨a,ha,U⟩:=Q.mn;refine⟨woken P g g' w a,by rw[bQ _ _ _ _ _ (by omega),ha];rfl,?_⟩;have e:woken P g g' w a=a:=by obtain⟨y,_⟩|⟨r,J,g2,y,_⟩:=U.status;exact woken_run y;exact U.woken g g' w (H (Q.mb ⟨r,J,y⟩).1)
  rw[e];exact U;obtain⟨gw,ay,ad⟩:=Q.wk E x;refine⟨woken P g g' w gw,by rw[bQ _ _ _ _ _ (by omega),ay];rfl,?_⟩;have e':=ad.woken g g' w λaf=>H λo=>by rw[h.m_.yb (by rw[o];trivial) E x]at af;cases af
  rw[e'];exact ad;by_cases e:k'=k;subst e;rw[fI _ _ _ _ X]at hk;cases hk;simp only[S,upd_same];rw[Deaf_own];exact aa;rw[bQ _ _ _ _ _ e]at hk;obtain⟨aK,R,rfl⟩:=Vi.1 hk;have L:=Q.lv k' aK y K R;simp only[S,upd_ne σ.q m e];rw[woken_quitsD L,F k' e];exact L;obtain⟨y,K⟩:=Q.mb Y;exact⟨λe'=>y (B.1 e'),K⟩;unfold mu;refine Prod.Lex.right _ (Prod.Lex.right _ (Prod.Lex.left _ _ ?_));show sumTo base (upd σ.q k m)<sumTo base σ.q;omega
theorem oh{D}:∀{j},1<=VW j D->∃i,i<j/\4<=(D i).s
 |0,h=>by simp[VW,sumTo]at h
 |j+1,h=>by
  by_cases a:4<=(D j).s
  .exact⟨j,by omega,a⟩
  .have:1<=VW j D:=by simp only[VW,sumTo,kg,UG a]at h⊢;simpa using h
   obtain⟨i,c,b⟩:=oh this;exact⟨i,by omega,b⟩
def zJ(h:GI P ty Wg ch z An HV Fin n base N0 shun F0 t₀ gs w t σ):∃(i:Nat) (g:Zx),gs[i]? =some g/\g.status=.running:=by
 have Q:=h.g_;obtain⟨a,v,x⟩:=Q.mn;obtain⟨d,_⟩|⟨r,y,G,d,_⟩:=x.status;exact⟨0,a,v,d⟩;obtain⟨m,A⟩:=Q.mb ⟨r,y,d⟩
 cases f:σ.ct with
 |none=>rcases Q.mc.1 f with⟨_,_,e⟩|e<;>rw[d]at e<;>cases e
 |some c=>obtain⟨g,B,b⟩:=Q.cl c f;obtain⟨o,C⟩|⟨rfl,_,_⟩:=b.status;exact⟨_,g,B,b.busy o λe=>m (by rw[f,e])⟩;(have busy:∀i,i<σ.j->(σ.D i).s≠0->∃(i:Nat) (g:Zx),gs[i]? =some g/\g.status=.running:=λi k E=>by obtain⟨gw,p,F⟩:=Q.wk i k;exact⟨_,gw,p,F.busy (A i k) E⟩);have l:=h.m_;rw[f]at l;generalize σ.st=st at l;generalize σ.sm=sm at l;cases l with|opn a=>exact a.elim|reg _ _ u=>obtain⟨i,k,H⟩:=oh u;exact busy i k (by omega)|last L _ q u _=>exact busy L q (by omega)|sema _ q=>exact absurd rfl q|fin a=>exact a.elim
def Iw(h:GI P ty Wg ch z An HV Fin n base N0 shun F0 t₀ gs w t σ):∀g∈gs,awake g:=by intro g j;obtain⟨k,e⟩:=XB.1 j;obtain rfl|⟨d,l⟩|⟨i,m,rfl⟩|⟨o,rfl⟩:=yk h (UO.1 e).1;obtain⟨a,p,q⟩:=h.g_.mn;rw[p]at e;cases e;obtain⟨d,_⟩|⟨_,_,r,_,rfl⟩:=q.status;exact awake_of (.inl d);exact awake_of (.inr (.inl rfl));exact awake_of ((h.g_.lv k g d l e).status.elim .inl λx=>.inr (.inr x));obtain⟨g',b,s⟩:=h.g_.wk i m;rw[e]at b;cases b;obtain⟨_,d⟩|⟨_,r,v,rfl⟩:=s.status;exact awake_of (d.elim .inl λx=>.inr (.inr x));exact awake_of (.inr (.inl rfl));obtain⟨c,f⟩:=XD.1 o;obtain⟨g',b,u⟩:=h.g_.cl c f;rw[e]at b;cases b;obtain⟨_,d⟩|⟨_,d,_⟩:=u.status;exact awake_of (d.elim .inl λx=>.inr (.inr x));exact awake_of (.inr (.inl d))
def NS(G:fP Wg ch base N0 shun)(p:n<2147483647)(q:∀K M g w,An K M g w->Run P false ty Wg (SW1 P ty Wg ch An) K M g w)(h:GI P ty Wg ch z An HV Fin n base N0 shun F0 t₀ gs w t σ){k g}(e:gs[k]? =some g)(b:g.status=.running):dW P ty Wg ch z An HV Fin n base N0 shun F0 t₀ t gs w sl σ k\/(k=0/\NR P ty Wg ch z An HV Fin n base N0 shun F0 t₀ t gs w sl σ):=by obtain rfl|⟨l,B⟩|⟨i,y,rfl⟩|⟨C,rfl⟩:=yk h (UO.1 e).1;rcases CZ (sl:=sl) G p h e b with l|⟨r,c,f,j,m,d,o,a⟩|⟨c,j,m,d,o,a⟩|⟨r,A,c,H,f,s,m,d,a⟩;exact .inl l;exact .inl (Is (c:=c) G h e f j m d a);exact .inl (E9 G h e j m d o a);(exact(C5 G h e f s m d a).imp id λx=>⟨rfl,x⟩);exact .inl (Fi G h l B e b);rcases E6 (sl:=sl) G p h y e b with l|⟨v,c,D,A,E,F,a⟩;exact .inl l;exact .inl (Fh G h y e D A E F a);obtain⟨c,u⟩:=XD.1 C;exact .inl (Ff G p q h u e b)
end
end Go.Tm

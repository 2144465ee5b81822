import Derived.Conc.Pipeline2
import Derived.Test.YtaglpcmhopjebaaGreatDoorU13
set_option linter.all false
set_option maxRecDepth 100000
set_option maxHeartbeats 20000000
namespace Go.Tm
open Go.Conc Go.ConcN Go.Conc.Lib
open Go.ConcR (KK WgAt stA smA rd wr mk DC0 Bk)
section
variable {P:Program} {ty:TypeId} {Wg ch:Nat} {z:Value} {An:aJ} {HV:Nat->Option Value} {Fin:List Value->aJ} {n base N0:Nat} {shun:Nat->Prop} {W₀:World} {t₀ t:Trace} {gs gs':Array Goroutine} {w w':World} {sl:Option (Nat×Nat)} {σ:GSt P ty Wg}
def EO{i}(hi:i<σ.j)(o:σ.j<=n){v}(g:HV i=some v)(q:6<(σ.D i).s){D':Nat->WD}(c:(D' i).s=6)(d:∀k,k≠i->D' k=σ.D k)(h:Got P ty Wg HV σ):σ.mt.got.length<n/\∃l:List Nat,l.Nodup/\(∀k,k∈l↔k<σ.j/\(D' k).s<=6/\HV k≠none)/\σ.mt.got++[v]=l.filterMap HV:=by (obtain⟨l,p,b,m⟩:=h;have f:i∉l:=λe=>by have:=((b i).1 e).2.1;omega);have a:=List.nodup_cons.2 ⟨f,p⟩;refine⟨?_,l++[i],?_,λk=>?_,?_⟩;rw[m,qo λk hk=>((b k).1 hk).2.2];(have:=xV (n:=n) a λk hk=>by obtain rfl|hk:=UC.1 hk;omega;have:=((b k).1 hk).1;omega);simp at this;omega;exact(List.perm_append_singleton i l).nodup_iff.2 a;rw[Vx,VG];by_cases e:k=i;subst e;simp[hi,c,g];rw[d k e,b k];simp[e];rw[m];simp[g]
def Ct{mt mt':nT}(h:(∃r a,mt=.rb r a)\/(∃r a,mt=.rc r a))(c:(∃r a,mt'=.rb r a)\/(∃r a,mt'=.rc r a)):((∃r st,mt'=.sp r st)\/mt'=.gc)↔((∃r st,mt=.sp r st)\/mt=.gc):=by constructor;(rintro(⟨_,_,e⟩|e)<;>rcases c with⟨_,_,b⟩|⟨_,_,b⟩<;>rw[b]at e<;>cases e);rintro(⟨_,_,e⟩|e)<;>rcases h with⟨_,_,b⟩|⟨_,_,b⟩<;>rw[b]at e<;>cases e
def jF{i d f s r cap a1 h j k l m o p q u v x}(y:a1<base+n)(A:h<base+n)(C:j<base+n)(D:k<base+n):∀a∈(MemOp.ofEvents i d f #[]++#[{g:=a1,fn:=l,pos:=q,act:=.send ch s},{g:=h,fn:=m,pos:=u,act:=.recv ch r cap},{g:=j,fn:=o,pos:=v,act:=.sendDone ch s},{g:=k,fn:=p,pos:=x,act:=.recvDone ch r}]:Trace),(a.act.touch?=none/\a.act≠ .mark .disable/\a.act≠ .mark .enable/\a.act≠ .mark (.release (stA Wg)))/\a.g<base+n/\∀B,ch<B->a.act.low B:=by intro a b;have e:MemOp.ofEvents i d f #[]=#[]:=rfl;rw[e]at b;simp only[Vw,U8,UC,UR,US]at b;obtain rfl|rfl|rfl|rfl:=b;exact⟨⟨rfl,by simp,by simp,by simp⟩,y,λ_ c=>c⟩;exact⟨⟨rfl,by simp,by simp,by simp⟩,A,λ_ c=>c⟩;exact⟨⟨rfl,by simp,by simp,by simp⟩,C,λ_ c=>c⟩;exact⟨⟨rfl,by simp,by simp,by simp⟩,D,λ_ c=>c⟩
def EP(G:fA Wg ch base N0 shun)(h:GI P ty Wg ch z An HV Fin n base N0 shun W₀ t₀ gs w t σ){i}(hi:i<σ.j){g}(hg:gs[base+i]? =some g){v}(hv:HV i=some v)(hs:(σ.D i).s=8)(X:(σ.D i).d=0){c}(hR:σ.R i=(8,0,c)) (ao:Nc P ty Wg ch z v (σ.D i).K (σ.D i).M g w):dU P ty Wg ch z An HV Fin n base N0 shun W₀ t₀ t gs w sl σ (base+i):=by
 have hb:=G.lH;have W:=h.w_;have T:=h.t_;have Q:=h.g_;have F:=Ui hi Q.jn;obtain⟨a1,⟨es,rfl,Y⟩,Z⟩:=ao;have aa:(base+i==0)=false:=by simp;omega
 have ab:σ.ct≠some .quit:=λe=>by have:=h.m_.xM (by rw[e];trivial) i hi;omega
 obtain⟨s,hch⟩:=W.chn;rw[fB ab]at hch;have E:=(Uk.1 hg).1;have o:∀(f:FuncId) (p:String),MemOp.ofEvents (base+i) f p #[]=#[]:=λ_ _=>rfl;obtain⟨a,ha,hm⟩:=Q.mn;by_cases H:∃r hs,σ.mt=.rb r hs
 ·
  obtain⟨r,B,C⟩:=H;obtain⟨g2,rfl,ar,a6,ax,ad⟩:=PQ hm C;have hp:partners (gs.setIfInBounds (base+i) ph) ch false=[(0,0)]:=by
   rw[partners_one (j:=0) (g:=parked {g2 with offers:=none} #[rcase ch z] (.recv true)) (by rw[Ur (by omega)];exact ha) λk x q hx=>?_]
   ·rw[offersAt_parked_recv,Ud rfl];rfl
   ·obtain⟨_,rfl⟩|⟨_,u⟩:=getElem?_stand gs (base+i) k x hx
    ·exact offersAt_ph _ _
    ·exact uY h u q
  have I:=crowd_send_meets (sl:=sl) (i:=base+i) (j:=0) hg (by rw[aa];exact Y) hch (by omega) ha hp;have y:=EO (D':=upd σ.D i ⟨6,0,(σ.D i).K,(σ.D i).M⟩) hi Q.jn hv (by omega) (by rw[upd_same]) (λk q=>upd_ne _ _ q) h.v_;rw[C]at y;obtain⟨af,ag⟩:=y;have ay:B.length<n:=af;obtain⟨r',rfl⟩:∃r',r=r'+1:=⟨r-1,by omega⟩
  let w':=w.setChan ch 0 #[] false (s+1) (s+1) false;have J:∀b,b≠ch->w'.heap[b]? =w.heap[b]? :=λb m=>Ur (Ux m);have L:w'.heap.size=w.heap.size:=by simp[w',World.setChan]
  have N:=W.wg.of_block (J Wg G.ne_);have ak:∀K:Nat->Prop,(∀b,K b->¬spB Wg ch b)->RK ty Wg K w w':=λK hK=>⟨λb m=>J b λe=>hK b m (.inr e),λ_=>⟨_,_,N⟩,VK L.symm⟩
  obtain⟨_,_,_,O⟩:=ar w (.refl w);obtain⟨x1,aM⟩:=cZ.of ((O i v F hv).rely (ak _ λb m=>(W.k0 b m).2.1));obtain⟨x2,S⟩:=cZ.of (Z.rely (ak _ λb m=>(W.kw i hi b m).2.1));refine⟨_,w',_,_,I,h.comm (mt':=.rc r' (B++[v])) (r0':=(20,0,x1)) (D':=upd σ.D i ⟨6,0,(σ.D i).K,(σ.D i).M⟩) (R':=upd σ.R i (6,0,x2)) G ⟨rfl,rfl,rfl⟩ L J ⟨s+1,?_⟩
   (λA l=>(jF (base:=base) (n:=n) (by omega) (by omega) (by omega) (by omega) A l).1) (λA l=>Nat.ne_of_lt (jF (base:=base) (n:=n) (Wg:=Wg) (by omega) (by omega) (by omega) (by omega) A l).2.1) (λA l=>WQ (jF (base:=base) (n:=n) (Wg:=Wg) (by omega) (by omega) (by omega) (by omega) A l).2.1) (λA l=>(jF (base:=base) (n:=n) (Wg:=Wg) (by omega) (by omega) (by omega) (by omega) A l).2.2 _ (by rw[L];exact W.sp.2))
   (λk q=>?_) ?_ (λk q=>?_) (λk h1 h2=>?_) ?_ (λk q=>?_) ?_ ?_ ?_ ?_ ?_ ?_,jE F rfl (by rw[hR];exact bZ (by omega))⟩
  ·rw[fB ab]
   show(w.heap.setIfInBounds ch _)[ch]? =_;rw[UY];simp[W.sp.2]
  ·by_cases e:k=i
   ·subst e;rw[upd_same];exact⟨rfl,rfl,X.symm,λx=>by simp at x⟩
   ·rw[upd_ne _ _ e];exact⟨rfl,rfl,rfl,id⟩
  ·refine⟨Conc.served {g2 with offers:=none} (recvd true v true),?_,?_⟩
   ·rw[Ur (by omega),UY]
    rw[Ud rfl,Ud (by omega)];rfl
   ·rw[ad,ax]
    exact .rc (by simp;omega) aM
  ·by_cases e:k=i
   ·subst e
    refine .inr ⟨Conc.served {g with offers:=none} undef,?_,?_⟩
    ·rw[UY,Ud rfl,Ud (by simp;exact E)]
     rfl
    ·rw[upd_same,upd_same];exact .r0 S
   ·refine .inl ⟨upd_ne _ _ e,upd_ne _ _ e,?_⟩
    rw[Ur (by omega),Ur (by omega)]
  ·rw[Ur (by omega),Ur (by omega)]
  ·simp
  ·rw[upd_ne];omega
  ·exact(h.m_.same (D':=⟨6,0,(σ.D i).K,(σ.D i).M⟩) hi (.inr ⟨by simp,by omega⟩)).tZ (by rw[C];rfl)
  ·have:=tX (D:=σ.D) (D':=⟨6,0,(σ.D i).K,(σ.D i).M⟩) hi
   have e1:jO (σ.D i)=1:=Ud (by omega);have e2:jO ⟨6,0,(σ.D i).K,(σ.D i).M⟩=1:=rfl;omega
  ·exact Ct (.inl ⟨_,_,C⟩) (.inr ⟨_,_,rfl⟩)
  ·rintro⟨_,_,e⟩;cases e
  ·intro _ _ e;cases e
  ·exact ag
 ·
  have U:offersAt a ch false=[]:=by
   obtain⟨h1,_⟩|⟨r,B,g2,h1,_⟩:=hm.status
   ·exact fD (.inl h1) _ _
   ·exact absurd ⟨r,B,h1⟩ H
  have hp:partners (gs.setIfInBounds (base+i) ph) ch false=[]:=partners_nil λk x hx=>by
   obtain⟨_,rfl⟩|⟨_,u⟩:=getElem?_stand gs (base+i) k x hx
   ·exact offersAt_ph _ _
   ·by_cases q:k=0
    ·subst q
     rw[ha]at u;cases u;exact U
    ·exact uY h u q
  have V:=crowd_waits (sl:=sl) (i:=base+i) hg (by rw[aa];exact Y) (λcc an=>by simp at an;subst an;exact ways_send_none hch (Ue _) hp)
  obtain⟨x2,S⟩:=cZ.of Z;refine⟨_,w,_,_,V,h.comm (mt':=σ.mt) (r0':=σ.r0) (D':=upd σ.D i ⟨7,0,(σ.D i).K,(σ.D i).M⟩) (R':=upd σ.R i (7,0,x2)) G ⟨rfl,rfl,rfl⟩ rfl (λ_ _=>rfl) W.chn
   (λA l=>?_) (λA l=>?_) (λA l=>by rw[o]at l;simp at l) (λA l=>by rw[o]at l;simp at l)
   (λk q=>?_) ?_ (λk q=>?_) (λk h1 h2=>?_) ?_ (λk q=>?_) ?_ ?_ ?_ ?_ ?_ ?_,jE F rfl (by rw[hR];exact bZ (by omega))⟩
  ·rw[o]at l;simp at l
  ·rw[o]at l;simp at l
  ·by_cases e:k=i
   ·subst e;rw[upd_same];exact⟨rfl,rfl,X.symm,λx=>by simp at x⟩
   ·rw[upd_ne _ _ e];exact⟨rfl,rfl,rfl,id⟩
  ·exact⟨a,by rw[Ur (by omega)];exact ha,hm⟩
  ·by_cases e:k=i
   ·subst e
    refine .inr ⟨_,by rw[UY,Ud rfl,Ud E],?_⟩;rw[upd_same,upd_same];exact .blk hv S
   ·exact .inl ⟨upd_ne _ _ e,upd_ne _ _ e,by rw[Ur (by omega)]⟩
  ·rw[Ur (by omega)]
  ·simp
  ·rw[upd_ne];omega
  ·exact h.m_.same (D':=⟨7,0,(σ.D i).K,(σ.D i).M⟩) hi (.inr ⟨by simp,by omega⟩)
  ·have:=tX (D:=σ.D) (D':=⟨7,0,(σ.D i).K,(σ.D i).M⟩) hi
   have e1:jO (σ.D i)=1:=Ud (by omega);have e2:jO ⟨7,0,(σ.D i).K,(σ.D i).M⟩=1:=rfl;omega
  ·rfl
  ·exactλe=>absurd e H
  ·exact Q.mq
  ·exact Ar (λk q=>by
    by_cases e:k=i
    ·subst e;rw[upd_same];simp[hs]
    ·rw[upd_ne _ _ e]) h.v_
def Ib{r a K M g}(h:oK P ty Wg ch z HV Fin n r a K M g w):g.status=.running/\stepG P true g w=.comm {g with offers:=none} #[rcase ch z] true (.recv true) w #[]/\Fin a K M (Conc.served g (.tuple #[z,.bool false])) w:=by cases r with|zero=>exact h|succ r=>exact⟨h.1,h.2.1,h.2.2.1⟩
def Nk{b D ρ a d i sh}(h:WSit P ty Wg ch z b D ρ (parked a #[scase ch d i] sh) w):b=some d/\D=⟨7,0,D.K,D.M⟩/\sh=.send/\∃c,ρ=(7,0,c)/\cZ P ty Wg false (SR0 P ty Wg) D.K D.M (Conc.served a undef) w c:=by (have m:∀{g:Goroutine},(parked a #[scase ch d i] sh)=g->(g.status=.running\/g.status=.finished)->False:=λe h=>by subst e;rcases h with h|h<;>cases h);have j:=h.status;obtain⟨_,k⟩|⟨o,_⟩:=j;exact(m rfl k).elim;generalize l:parked a #[scase ch d i] sh=u at h;cases h with| @blk K M p _ c v b q=>obtain⟨f,cs,st,x,of⟩:=a;obtain⟨y,cs',st',r,s⟩:=p;simp only[parked,scase,Goroutine.mk.injEq,UX,Xd,Array.mk.injEq,Xg,CommCase.mk.injEq]at l;obtain⟨rfl,rfl,_,rfl,k,rfl⟩:=l;obtain⟨⟨_,rfl,rfl⟩,_⟩:=k;exact⟨b,rfl,rfl,c,rfl,q⟩|_=>cases o
def Nl(P ty)(Wg ch:Nat)(z:Value)(An:aJ)(HV:Nat->Option Value)(Fin:List Value->aJ)(n base N0:Nat)(shun:Nat->Prop)(W₀:World)(t₀ t:Trace)(gs:Array Goroutine)(w:World)(sl:Option (Nat×Nat))(σ:GSt P ty Wg):Prop:=∃r a b fn pos,(σ.mt=.rc r a\/σ.mt=.rw r a)/\σ.ct=some .quit/\Fin a σ.K0 σ.M0 (Conc.served b (.tuple #[z,.bool false])) w/\runT P (crowd gs w sl) 0=(.next (crowd (gs.setIfInBounds 0 (Conc.served b (.tuple #[z,.bool false]))) w sl),#[{g:=0,fn:=fn,pos:=pos,act:=.recvClosed ch}])
def Cu(G:fA Wg ch base N0 shun)(h:GI P ty Wg ch z An HV Fin n base N0 shun W₀ t₀ gs w t σ){g:Goroutine}(hg:gs[0]? =some g){r:Nat}{H:List Value}{c:RC P ty Wg}{g2:Goroutine}(bk:r+H.length=n) (U:σ.mt=.rc r H/\g=g2/\σ.r0=(20,0,c)\/σ.mt=.rw r H/\g={parked {g2 with offers:=none} #[rcase ch z] (.recv true)with status:=.running}/\σ.r0=(18,0,c)) (hj:σ.j=n) (ao:σ.d0=0) (V:∀I,RK ty Wg σ.K0 w I->oK P ty Wg ch z HV Fin n r H σ.K0 σ.M0 g2 I):dU P ty Wg ch z An HV Fin n base N0 shun W₀ t₀ t gs w sl σ 0\/Nl P ty Wg ch z An HV Fin n base N0 shun W₀ t₀ t gs w sl σ:=by
 have hb:=G.lH;have W:=h.w_;have T:=h.t_;have Q:=h.g_;have J:=(Uk.1 hg).1;obtain⟨b3,L,ar⟩:=Ib (V w (.refl w));have X:stepG P true g w=.comm {g2 with offers:=none} #[rcase ch z] true (.recv true) w #[]:=by obtain⟨_,rfl,_⟩|⟨_,rfl,_⟩:=U;exact L;rw[<-L];exact stepG_same rfl rfl rfl w
 have o:∀(f:FuncId) (p:String),MemOp.ofEvents 0 f p #[]=#[]:=λ_ _=>rfl;obtain⟨s,hch⟩:=W.chn;have y:(∀i,i<σ.j->(σ.D i).s≠7)->partners (gs.setIfInBounds 0 ph) ch true=[]:=λh7=>partners_nil λk x hx=>by obtain⟨_,rfl⟩|⟨m,E⟩:=getElem?_stand gs 0 k x hx;exact offersAt_ph _ _;obtain A|⟨i,hi,_,N,_⟩:=Jk h E m;exact A;exact absurd N (h7 i hi)
 by_cases Y:σ.ct=some .quit
 ·
  right;rw[Y]at hch;have hQ:=h.m_.xM (by rw[Y];trivial);have hp:=y λi hi=>by rw[hQ i hi];omega
  have:=crowd_recv_closed (sl:=sl) (i:=0) hg X hch hp;rw[o,Vw]at this;exact⟨r,H,g2,_,_,U.imp (·.1) (·.1),Y,ar,this⟩
 ·
  left;rw[fB Y]at hch;have bm:=U.resolve_right λ⟨e,_⟩=>Y (Q.mq _ _ e);obtain⟨u,rfl,bo⟩:=bm;by_cases h7:∃i,i<σ.j/\(σ.D i).s=7
  ·
   obtain⟨i0,bp,bq⟩:=h7;obtain⟨g0,br,bs⟩:=Q.wk i0 bp;have O:∀k x,k≠0->gs[k]? =some x->offersAt x ch true≠[]->∃i,i<σ.j/\k=base+i/\(σ.D i).s=7/\∃S v,x=parked S #[scase ch v undef] .send:=by
    intro k x m hx Z;obtain A|⟨i,hi,rfl,N,_⟩:=Jk h hx m
    ·exact absurd A Z
    ·obtain⟨g',ax,hw⟩:=Q.wk i hi
     rw[hx]at ax;cases ax;obtain⟨A,_⟩|⟨_,S,v,rfl⟩:=hw.status
     ·exact absurd N A
     ·exact⟨i,hi,rfl,N,S,v,rfl⟩
   have Z:partners (gs.setIfInBounds 0 ph) ch true≠[]:=by
    intro e;obtain⟨A,_⟩|⟨_,S,v,rfl⟩:=bs.status
    ·exact A bq
    ·have:(base+i0,0)∈partners (gs.setIfInBounds 0 ph) ch true:=mem_partners.2 ⟨_,by rw[Ur (by omega)];exact br,by rw[offersAt_parked_send,Ud rfl];simp⟩
     rw[e]at this;cases this
   obtain⟨j,S,vj,zj,b4,d,F,aa,ab⟩:=crowd_recv_meets_some (sl:=sl) (i:=0) hg X hch Z λj k bx=>by
    obtain⟨x,hx,m⟩:=mem_partners.1 bx;obtain⟨_,rfl⟩|⟨F,E⟩:=getElem?_stand gs 0 j x hx
    ·rw[offersAt_ph]at m;cases m
    ·obtain⟨i,hi,rfl,_,S,v,rfl⟩:=O j x F E λe=>by rw[e]at m;cases m
     rw[offersAt_parked_send,Ud rfl]at m;exact⟨by simpa using m,F,S,v,undef,_,E⟩
   obtain⟨i,hi,rfl,b5,_⟩:=O j _ F aa (by rw[offersAt_parked_send,Ud rfl];simp);have ay:=Ui hi Q.jn;obtain⟨gx,aM,bA⟩:=Q.wk i hi;rw[aa]at aM;cases aM;obtain⟨hv,hD,rfl,cw,hR,bB⟩:=Nk bA;have bC:(σ.D i).d=0:=by rw[hD]
   have B:=EO (D':=upd σ.D i ⟨6,0,(σ.D i).K,(σ.D i).M⟩) hi Q.jn hv (by omega) (by rw[upd_same]) (λk m=>upd_ne _ _ m) h.v_;rw[u]at B;obtain⟨a1,a6⟩:=B;have b0:H.length<n:=a1;obtain⟨r',rfl⟩:∃r',r=r'+1:=⟨r-1,by omega⟩
   let w':=(w.at d).setChan ch 0 #[] false (s+1) (s+1) false;have ad:∀b,b≠ch->w'.heap[b]? =w.heap[b]? :=λb q=>Ur (Ux q);have af:w'.heap.size=w.heap.size:=by show(w.heap.setIfInBounds ch _).size=_;simp
   have ag:=W.wg.of_block (ad Wg G.ne_);have a7:∀K:Nat->Prop,(∀b,K b->¬spB Wg ch b)->RK ty Wg K w w':=λK hK=>⟨λb q=>ad b λe=>hK b q (.inr e),λ_=>⟨_,_,ag⟩,VK af.symm⟩
   obtain⟨_,_,_,ak⟩:=V w (.refl w);obtain⟨x1,b1⟩:=cZ.of ((ak i vj ay hv).rely (a7 _ λb q=>(W.k0 b q).2.1));obtain⟨x2,b2⟩:=cZ.of (bB.now.rely (a7 _ λb q=>(W.kw i hi b q).2.1));refine⟨_,w',_,_,ab,h.comm (mt':=.rc r' (H++[vj])) (r0':=(20,0,x1)) (D':=upd σ.D i ⟨6,0,(σ.D i).K,(σ.D i).M⟩) (R':=upd σ.R i (6,0,x2)) G ⟨rfl,rfl,rfl⟩ af ad ⟨s+1,?_⟩
    (λC a=>(jF (base:=base) (n:=n) (by omega) (by omega) (by omega) (by omega) C a).1) (λC a=>Nat.ne_of_lt (jF (base:=base) (n:=n) (Wg:=Wg) (by omega) (by omega) (by omega) (by omega) C a).2.1) (λC a=>WQ (jF (base:=base) (n:=n) (Wg:=Wg) (by omega) (by omega) (by omega) (by omega) C a).2.1) (λC a=>(jF (base:=base) (n:=n) (Wg:=Wg) (by omega) (by omega) (by omega) (by omega) C a).2.2 _ (by rw[af];exact W.sp.2))
    (λk m=>?_) ?_ (λk m=>?_) (λk A N=>?_) ?_ (λk m=>?_) ?_ ?_ ?_ ?_ ?_ ?_,jE ay rfl (by rw[hR];exact bZ (by omega))⟩
   ·rw[fB Y]
    show(w.heap.setIfInBounds ch _)[ch]? =_;rw[UY];simp[W.sp.2]
   ·by_cases e:k=i
    ·subst e;rw[upd_same];exact⟨rfl,rfl,bC.symm,λx=>by simp at x⟩
    ·rw[upd_ne _ _ e];exact⟨rfl,rfl,rfl,id⟩
   ·refine⟨Conc.served {g with offers:=none} (recvd true vj true),?_,?_⟩
    ·rw[UY,Ud rfl,Ud (by simp;exact J)]
     rfl
    ·rw[ao,hj]
     exact .rc (by simp;omega) b1
   ·by_cases e:k=i
    ·subst e
     refine .inr ⟨Conc.served S undef,?_,?_⟩
     ·have a8:=(Uk.1 aa).1
      rw[Ur (by omega),UY,Ud rfl,Ud a8];rfl
     ·rw[upd_same,upd_same];exact .r0 b2
    ·refine .inl ⟨upd_ne _ _ e,upd_ne _ _ e,?_⟩
     rw[Ur (by omega),Ur (by omega)]
   ·rw[Ur (by omega),Ur (by omega)]
   ·simp
   ·rw[upd_ne];omega
   ·exact(h.m_.same (D':=⟨6,0,(σ.D i).K,(σ.D i).M⟩) hi (.inr ⟨by simp,by omega⟩)).tZ (by rw[u];rfl)
   ·have:=tX (D:=σ.D) (D':=⟨6,0,(σ.D i).K,(σ.D i).M⟩) hi
    have e1:jO (σ.D i)=1:=Ud (by omega);have e2:jO ⟨6,0,(σ.D i).K,(σ.D i).M⟩=1:=rfl;omega
   ·exact Ct (.inr ⟨_,_,u⟩) (.inr ⟨_,_,rfl⟩)
   ·rintro⟨_,_,e⟩;cases e
   ·intro _ _ e;cases e
   ·exact a6
  ·
   have ba:∀i,i<σ.j->(σ.D i).s≠7:=λi hi e=>h7 ⟨i,hi,e⟩;have an:=crowd_waits (sl:=sl) (i:=0) hg X (λcc bb=>by simp at bb;subst bb;exact ways_recv_none hch (y ba))
   refine⟨_,w,_,_,an,h.comm (mt':=.rb r H) (r0':=(19,0,c)) (D':=σ.D) (R':=σ.R) G ⟨rfl,rfl,rfl⟩ rfl (λ_ _=>rfl) W.chn
    (λC a=>by rw[o]at a;simp at a) (λC a=>by rw[o]at a;simp at a) (λC a=>by rw[o]at a;simp at a) (λC a=>by rw[o]at a;simp at a)
    (λk m=>⟨rfl,rfl,rfl,id⟩) ⟨_,by rw[UY,Ud rfl,Ud J],?_⟩ (λk m=>.inl ⟨rfl,rfl,by rw[Ur (by omega)]⟩) (λk A N=>by rw[Ur (by omega)]) (by simp) (λk m=>rfl)
    (h.m_.tZ (by rw[u];rfl)) rfl (Ct (.inr ⟨_,_,u⟩) (.inl ⟨_,_,rfl⟩)) (λ_=>⟨Y,ba⟩) (λ_ _ e=>by cases e) ?_,?_⟩
   ·rw[ao,hj];exact .rb bk V
   ·obtain⟨l,A,N,h3⟩:=h.v_
    exact⟨l,A,N,by rw[<-h3,u];rfl⟩
   ·exact tY rfl (by rw[bo];exact bZ (by omega))
def GI.QB(G:fA Wg ch base N0 shun)(h:GI P ty Wg ch z An HV Fin n base N0 shun W₀ t₀ gs w t σ)(d):GI P ty Wg ch z An HV Fin n base N0 shun W₀ t₀ gs (w.at d) t σ:=by
 have W:=h.w_;have Q:=h.g_;have rk:∀K,RK ty Wg K w (w.at d):=λK=>⟨λ_ _=>rfl,id,Ue _⟩
 obtain⟨a,e,f⟩:=Q.mn;have:=h.comm (w':=w.at d) (gs':=gs) (ops:=#[]) (mt':=σ.mt) (r0':=σ.r0) (D':=σ.D) (R':=σ.R) G ⟨rfl,rfl,rfl⟩ rfl (λ_ _=>rfl) W.chn (λc b=>by simp at b) (λc b=>by simp at b) (λc b=>by simp at b) (λc b=>by simp at b)
  (λ_ _=>⟨rfl,rfl,rfl,id⟩) ⟨a,e,f.rely (rk _)⟩ (λi hi=>.inl ⟨rfl,rfl,rfl⟩) (λ_ _ _=>rfl) rfl (λ_ _=>rfl) h.m_ rfl VZ Q.mb Q.mq h.v_
 rw[W8]at this;exact this
def ER(G:fA Wg ch base N0 shun)(h:GI P ty Wg ch z An HV Fin n base N0 shun W₀ t₀ gs w t σ){k}(h0:0<k)(V:k<base){g}(hg:gs[k]? =some g)(p:g.status=.running):dU P ty Wg ch z An HV Fin n base N0 shun W₀ t₀ t gs w sl σ k:=by
 have hb:=G.lH;have W:=h.w_;have T:=h.t_;have Q:=h.g_;have hq:=Q.lv k g h0 V hg;have X:=(Uk.1 hg).1;have ag:(k==0)=false:=by simp;omega
 cases M:σ.q k with
 |zero=>rw[M]at hq;rw[hq.1]at p;cases p
 |succ m=>
  rw[M]at hq;obtain⟨hf,_⟩|⟨_,g',es,Y,Z,aa⟩:=hq;rw[hf]at p;cases p;have N:=runT_crowd_go (P:=P) (sl:=sl) (i:=k) hg (by rw[ag];exact Z w);have f:∀I∈MemOp.ofEvents k g.frame.fn g.frame.place es,I.g=k:=λI l=>by obtain⟨e,_,rfl⟩:=Go.Conc.mem_ofEvents l;rfl
  have O:∀I∈MemOp.ofEvents k g.frame.fn g.frame.place es,I.act.touch?=none:=λI l=>by obtain⟨e,he,rfl⟩:=Go.Conc.mem_ofEvents l;exact touch_mute (Y e he)
  have a1:sumTo base (upd σ.q k m)+(m+1)=sumTo base σ.q+m:=by have:=sumTo_upd σ.q m id V;simpa[M]using this
  obtain⟨b,A,v,ak⟩:∃b A,(b=σ.ct\/(σ.ct=some .blk/\b=some .w3))/\
   ∀c,b=some c->∃gc,((gs.map (woken P g g' w)).setIfInBounds k g')[base+n]? =some gc/\CSit P ty Wg ch An (VW σ.j σ.D) c σ.dc σ.Kc σ.Mc A gc w:=by
   cases o:σ.ct with
   |none=>exact⟨none,σ.rc,.inl rfl,λc e=>by cases e⟩
   |some c=>
    obtain⟨gc,an,ao⟩:=Q.cl c o;obtain⟨c',ar,y,K,_⟩:=ao.woken g g' w aa.status;refine⟨some c',ar,?_,λc2 e=>?_⟩
    ·obtain rfl|⟨rfl,rfl⟩:=K
     ·exact .inl rfl
     ·exact .inr ⟨rfl,rfl⟩
    ·cases e
     refine⟨_,?_,y⟩;rw[bQ _ _ _ _ _ (by omega),an];rfl
  have d:b=none↔σ.ct=none:=by obtain rfl|⟨a,rfl⟩:=v;rfl;simp[a]
  have B:b=some .quit↔σ.ct=some .quit:=by obtain rfl|⟨a,rfl⟩:=v;rfl;simp[a]
  have ab:b=some .cl↔σ.ct=some .cl:=by obtain rfl|⟨a,rfl⟩:=v;rfl;simp[a]
  have ax:eK b=eK σ.ct:=by obtain rfl|⟨a,rfl⟩:=v;rfl;rw[a];rfl
  have C:∀E r,E<n->RelBy (stA Wg) t (base+E) r->RelBy (stA Wg) (t++MemOp.ofEvents k g.frame.fn g.frame.place es) (base+E) r:=λE r _ hr=>dT hr f (by omega);have F:∀k',k'≠k->Deaf (t++MemOp.ofEvents k g.frame.fn g.frame.place es) k'=Deaf t k':=λk' R=>Deaf_other t (Ux R) _ f;have H:σ.ct≠some .quit->∃s r tm,w.heap[ch]? =some (.chan 0 #[] false s r tm):=by intro o;obtain⟨s,J⟩:=W.chn;rw[fB o]at J;exact⟨s,s,false,J⟩
  let S:GSt P ty Wg:={σ with ct:=b,rc:=A,q:=upd σ.q k m}
  refine⟨_,w,_,S,N,⟨?_,?_,?_,h.m_.retag v,h.v_⟩,?_⟩;refine⟨W.os,W.tape,W.output,W.ga,W.old,?_,W.wg,W.sp,W.kw,W.mw,W.k0,W.m0,λo=>W.kc λe=>o (d.2 e),λo=>W.mc λe=>o (d.2 e),W.owns,W.EA,W.EB.trans (not_congr d.symm),W.Cm,W.Cn⟩;obtain⟨s,J⟩:=W.chn;exact⟨s,by rw[J];show _=some (Obj.chan 0 #[] (eK b) s s false);rw[ax]⟩
  refine⟨?_,T.tr.still O λI l e=>absurd ((f I l).symm.trans e) (by omega),lG T.seen (Ue _) λI l=>?_,jl T.gb (λI l=>by
   rw[f I l];have y:=(Uk.1 hg).1;have K:=Q.size;have h3:=Q.jn;split at K<;>omega),T.norel.app (norel_of λe he=>?_),(F 0 (by omega)).trans T.d0,λE x=>(F _ (by omega)).trans (T.dw E x),λo=>(F _ (by omega)).trans (T.dc λe=>o (d.2 e)),
   λk' y K h3=>(F k' (by omega)).trans (T.above k' y K λe=>h3 λe'=>e (d.1 e')),λE x J=>?_,λo=>kQ (T.acq (ab.1 o)) C,λo=>kR (T.cls (B.1 o)) C (iZ f (by omega))⟩
  obtain⟨u,rfl⟩:=T.pre;exact⟨_,Vo ..⟩;obtain⟨e,he,rfl⟩:=Go.Conc.mem_ofEvents l;exact low_mute (Y e he) _;intro e2;have:=Y e he;obtain⟨a6,a7,sy⟩:=e;simp only at e2;subst e2;simp[Event.mute]at this;obtain⟨r,hr⟩:=T.rel E x J;exact⟨r,dT hr f (by omega)⟩;refine⟨?_,Q.jn,λo=>Q.cn λe=>o (d.2 e),?_,d.trans Q.mc,λE x=>?_,Q.unb,ak,λk' gk y K hk=>?_,λY=>?_,λr J e=>B.2 (Q.mq r J e)⟩;have:(if b.isSome then 1 else 0)=(if σ.ct.isSome then 1 else 0):=by obtain rfl|⟨a,rfl⟩:=v;rfl;rw[a];rfl
  simp only[UI,VI];rw[this];exact Q.size;obtain⟨a,ha,U⟩:=Q.mn;refine⟨woken P g g' w a,by rw[bQ _ _ _ _ _ (by omega),ha];rfl,?_⟩;have e:woken P g g' w a=a:=by obtain⟨y,_⟩|⟨r,J,g2,y,_⟩:=U.status;exact woken_run y;exact U.woken g g' w (H (Q.mb ⟨r,J,y⟩).1)
  rw[e];exact U;obtain⟨gw,ay,ad⟩:=Q.wk E x;refine⟨woken P g g' w gw,by rw[bQ _ _ _ _ _ (by omega),ay];rfl,?_⟩;have e':=ad.woken g g' w λaf=>H λo=>by rw[h.m_.xM (by rw[o];trivial) E x]at af;cases af
  rw[e'];exact ad;by_cases e:k'=k;subst e;rw[fg _ _ _ _ X]at hk;cases hk;simp only[S,upd_same];rw[Deaf_own];exact aa;rw[bQ _ _ _ _ _ e]at hk;obtain⟨aM,R,rfl⟩:=UN.1 hk;have L:=Q.lv k' aM y K R;simp only[S,upd_ne σ.q m e];rw[woken_quitsD L,F k' e];exact L;obtain⟨y,K⟩:=Q.mb Y;exact⟨λe'=>y (B.1 e'),K⟩;unfold mu;refine Prod.Lex.right _ (Prod.Lex.right _ (Prod.Lex.left _ _ ?_));show sumTo base (upd σ.q k m)<sumTo base σ.q;omega
theorem nN{D}:∀{j},1<=VW j D->∃i,i<j/\4<=(D i).s
 |0,h=>by simp[VW,sumTo]at h
 |j+1,h=>by
  by_cases a:4<=(D j).s
  ·exact⟨j,by omega,a⟩
  ·have:1<=VW j D:=by simp only[VW,sumTo,jO,Uc a]at h⊢;simpa using h
   obtain⟨i,hi,b⟩:=nN this;exact⟨i,by omega,b⟩
def zo(h:GI P ty Wg ch z An HV Fin n base N0 shun W₀ t₀ gs w t σ):∃(i:Nat) (g:Goroutine),gs[i]? =some g/\g.status=.running:=by
 have Q:=h.g_;obtain⟨a,u,v⟩:=Q.mn;obtain⟨d,_⟩|⟨r,x,F,d,_⟩:=v.status;exact⟨0,a,u,d⟩;obtain⟨l,y⟩:=Q.mb ⟨r,x,d⟩
 cases f:σ.ct with
 |none=>rcases Q.mc.1 f with⟨_,_,e⟩|e<;>rw[d]at e<;>cases e
 |some c=>obtain⟨g,A,b⟩:=Q.cl c f;obtain⟨m,B⟩|⟨rfl,_,_⟩:=b.status;exact⟨_,g,A,b.busy m λe=>l (by rw[f,e])⟩;(have busy:∀i,i<σ.j->(σ.D i).s≠0->∃(i:Nat) (g:Goroutine),gs[i]? =some g/\g.status=.running:=λi hi C=>by obtain⟨gw,o,E⟩:=Q.wk i hi;exact⟨_,gw,o,E.busy (y i hi) C⟩);have k:=h.m_;rw[f]at k;generalize σ.st=st at k;generalize σ.sm=sm at k;cases k with|opn a=>exact a.elim|reg _ _ q=>obtain⟨i,hi,G⟩:=nN q;exact busy i hi (by omega)|last L _ p q _=>exact busy L p (by omega)|sema _ p=>exact absurd rfl p|fin a=>exact a.elim
def Ic(h:GI P ty Wg ch z An HV Fin n base N0 shun W₀ t₀ gs w t σ):∀g∈gs,awake g:=by intro g j;obtain⟨k,e⟩:=WO.1 j;obtain rfl|⟨d,l⟩|⟨i,hi,rfl⟩|⟨m,rfl⟩:=xU h (Uk.1 e).1;obtain⟨a,o,p⟩:=h.g_.mn;rw[o]at e;cases e;obtain⟨d,_⟩|⟨_,_,q,_,rfl⟩:=p.status;exact awake_of (.inl d);exact awake_of (.inr (.inl rfl));exact awake_of ((h.g_.lv k g d l e).status.elim .inl λx=>.inr (.inr x));obtain⟨g',b,r⟩:=h.g_.wk i hi;rw[e]at b;cases b;obtain⟨_,d⟩|⟨_,q,v,rfl⟩:=r.status;exact awake_of (d.elim .inl λx=>.inr (.inr x));exact awake_of (.inr (.inl rfl));obtain⟨c,f⟩:=WR.1 m;obtain⟨g',b,s⟩:=h.g_.cl c f;rw[e]at b;cases b;obtain⟨_,d⟩|⟨_,d,_⟩:=s.status;exact awake_of (d.elim .inl λx=>.inr (.inr x));exact awake_of (.inr (.inl d))
def Nn(G:fA Wg ch base N0 shun)(p:n<2147483647)(q:∀K M g w,An K M g w->Run P false ty Wg (SW1 P ty Wg ch An) K M g w)(h:GI P ty Wg ch z An HV Fin n base N0 shun W₀ t₀ gs w t σ){k g}(e:gs[k]? =some g)(b:g.status=.running):dU P ty Wg ch z An HV Fin n base N0 shun W₀ t₀ t gs w sl σ k\/(k=0/\Nl P ty Wg ch z An HV Fin n base N0 shun W₀ t₀ t gs w sl σ):=by obtain rfl|⟨l,A⟩|⟨i,hi,rfl⟩|⟨B,rfl⟩:=xU h (Uk.1 e).1;rcases Cr (sl:=sl) G p h e b with l|⟨r,c,f,j,m,d,o,a⟩|⟨c,j,m,d,o,a⟩|⟨r,y,c,F,f,s,m,d,a⟩;exact .inl l;exact .inl (Hy (c:=c) G h e f j m d a);exact .inl (EI G h e j m d o a);(exact(Cu G h e f s m d a).imp id λx=>⟨rfl,x⟩);exact .inl (ER G h l A e b);rcases EF (sl:=sl) G p h hi e b with l|⟨v,c,C,y,D,E,a⟩;exact .inl l;exact .inl (EP G h hi e C y D E a);obtain⟨c,u⟩:=WR.1 B;exact .inl (EN G p q h u e b)
structure QC(P:Program)(Wg ch:Nat)(z:Value)(HV:Nat->Option Value)(Fin:List Value->aJ)(n base N0:Nat)(shun:Nat->Prop)(Shun:Loc->Prop)(W₀:World)(gs':Array Goroutine)(w':World)(t':Trace):Prop where
 main:∃g2 K M hs,gs'[0]? =some (Conc.served g2 (.tuple #[z,.bool false]))/\Fin hs K M (Conc.served g2 (.tuple #[z,.bool false])) w'/\(∀b,K b->b<w'.heap.size/\¬spB Wg ch b/\¬shun b)/\(∀b,M b->b<w'.heap.size/\¬spB Wg ch b/\N0<=b)/\∃l:List Nat,l.Nodup/\(∀i,i∈l↔i<n/\HV i≠none)/\hs=l.filterMap HV
 size:gs'.size=base+n+1
 lv:∃q,Leavers P t' gs' q
 past:Past (λl=>Shun l\/∃b,blk l=some b/\spB Wg ch b) w'.heap.size t'
 few:∀op∈t',op.g<base+n+1
 sp:Wg<w'.heap.size/\ch<w'.heap.size
 os:w'.os=W₀.os
 tape:w'.tape=W₀.tape
 output:w'.output=W₀.output
 ga:N0<=w'.heap.size
 old:∀b,b<N0->w'.heap[b]? =W₀.heap[b]?
def PR{mt j d K M ρ a}(h:fw P ty Wg ch z An HV Fin n mt j d K M ρ a w)(e:(∃r b,mt=.rc r b)\/(∃r b,mt=.rw r b)):d=0:=by cases h<;>first|rfl|(rcases e with⟨_,_,e⟩|⟨_,_,e⟩<;>cases e)
def KB{a D ρ g}(h:WSit P ty Wg ch z a D ρ g w)(e:D.s=0):∃q,QuitsD P q D.d g:=by cases h with|quit b=>exact⟨_,b⟩|_=>cases e
def KC{v ct d K M ρ g}(h:CSit P ty Wg ch An v ct d K M ρ g w)(e:ct=.quit):∃q,QuitsD P q d g:=by cases h with|quit a=>exact⟨_,a⟩|_=>cases e
def ET(G:fA Wg ch base N0 shun)(h:GI P ty Wg ch z An HV Fin n base N0 shun W₀ t₀ gs w t σ){Shun B₀}(hP:Past Shun B₀ t₀)(hx:Nl P ty Wg ch z An HV Fin n base N0 shun W₀ t₀ t gs w sl σ):∃gs' ops,runT P (crowd gs w sl) 0=(.next (crowd gs' w sl),ops)/\QC P Wg ch z HV Fin n base N0 shun Shun W₀ gs' w (t++ops):=by
 have hb:=G.lH;have W:=h.w_;have T:=h.t_;have Q:=h.g_;obtain⟨r,hs,g2,fn,pos,X,B,Y,Z⟩:=hx;have I:σ.ct≠none:=by rw[B];simp
 have hj:=Q.cn I;have ao:gs.size=base+n+1:=by have:=Q.size;rw[B,hj]at this;simpa using this
 have hQ:=h.m_.xM (by rw[B];trivial);have ar:σ.d0=0:=by obtain⟨a,_,hm⟩:=Q.mn;exact PR hm (X.imp (λe=>⟨_,_,e⟩) λe=>⟨_,_,e⟩)
 refine⟨_,_,Z,?_⟩;generalize hu:(#[{g:=0,fn:=fn,pos:=pos,act:=.recvClosed ch}]:Trace)=u;have K:∀m∈u,m.g=0:=λm d=>by subst hu;simp at d;subst d;rfl
 have ax:∀m∈u,m.act.touch?=none:=λm d=>by subst hu;simp at d;subst d;rfl
 have L:(t++u)[t.size]? =some {g:=0,fn:=fn,pos:=pos,act:=.recvClosed ch}:=by subst hu;simp
 have M:∀k,Deaf (t++u) k=Deaf t k:=λk=>nz (λm d=>by subst hu;simp at d;subst d;simp) k;have aa:=T.d0.trans ar;obtain⟨q,p,q1,q2,q3,q4,q5,p1,p2,p3,p4⟩:=T.cls B;have E:=lt_of_act? q1;have F:=lt_of_act? p1;have ay:(t++u).heard t.size:=⟨0,by simp[Trace.g?,L],by rw[deaf_old (Ue _)];exact aa⟩
 have N:HappensBefore (t++u) p t.size:=.single (.inr ⟨.closed (c:=ch) (by rw[act?_old F];exact p1) (by simp[Trace.act?,L]),(heard_old F).2 p3,ay⟩);have hK:∀i,HappensBefore (t++u) i t.size->Knows (t++u) 0 i:=λi hi=>⟨t.size,_,L,rfl,.inr hi⟩
 have A:∀i g,(t++u).g? i=some g->g≠0->i<t.size/\t.g? i=some g:=λi g hi s=>by obtain⟨m,d,O⟩:=UN.1 hi;obtain⟨R,ab⟩|⟨_,aM⟩:=getElem?_append_cases d;exact⟨R,by simp[Trace.g?,ab,O]⟩;rw[K m aM]at O;exact absurd O.symm s
 have po:∀i j g,i<j->(t++u).g? i=some g->(t++u).g? j=some g->HappensBefore (t++u) i j:=λi j g a1 hi hj=>by obtain⟨x,hx,a6⟩:=UN.1 hi;obtain⟨y,hy,a7⟩:=UN.1 hj;exact hb_po a1 hx hy (a6.trans a7.symm)
 have back:∀g,σ.low g≠0->SU (t++u) g:=by intro g s i S ad;have a8:g≠0:=λe=>s (by rw[e];exact T.tr.z_);obtain⟨R,af⟩:=A i g S a8;have J:=(counts_old R).1 ad;obtain⟨i',bk,rfl⟩|rfl:=W.Cm g s;(have ag:i'<n:=by omega);obtain⟨r,hr,ba⟩:=q4 i' ag;have U:=lt_of_act? hr.act;have bb:=Nat.le_of_not_lt λC=>hr.after i C af J;have e1:HappensBefore (t++u) r q:=.single (.inr ⟨.marked ba (.inr (by rw[act?_old U];exact hr.act)) (by rw[act?_old E];exact q1) (λk _ H=>by rw[act?_old (Nat.lt_trans H E)];exact T.norel k),(heard_old U).2 hr.heard,(heard_old E).2 q3⟩);have e2:=po q p _ q5 (by rw[g?_old E];exact q2) (by rw[g?_old F];exact p2);have e3:HappensBefore (t++u) r t.size:=(e1.trans e2).trans N;obtain h1|h1:=Uh i r;exact hK i ((po i r _ h1 S (by rw[g?_old U];exact hr.g)).trans e3);(obtain rfl:i=r:=by omega);exact hK i e3;have bb:=Nat.le_of_not_lt λC=>p4 i C af J;obtain h1|h1:=Uh i p;exact hK i ((po i p _ h1 S (by rw[g?_old F];exact p2)).trans N);(obtain rfl:i=p:=by omega);exact hK i N
 have D:∀m∈t++u,m.act.low w.heap.size:=lG T.seen (Ue _) λm d=>by subst hu;simp at d;subst d;exact W.sp.2
 obtain⟨v,hv⟩:=T.pre;have ht:=T.tr.still ax λm d e=>absurd ((K m d).symm.trans e) (by omega);have V:Past (λl=>Shun l\/∃b,blk l=some b/\spB Wg ch b) w.heap.size (t++u):=by (have e:t++u=t₀++(v++u):=by rw[hv,Vo]);rw[e]at ht back D⊢;exact ht.past hP back (by rw[<-e,M];exact aa) D
 refine⟨⟨g2,σ.K0,σ.M0,hs,?_,Y,λb o=>⟨(W.k0 b o).1,(W.k0 b o).2.1,(W.k0 b o).2.2.1⟩,λb o=>⟨(W.m0 b o).1,(W.m0 b o).2.1,(W.m0 b o).2.2.1⟩,?_⟩,by simpa using ao,?_,V,jl T.gb λm d=>by rw[K m d];omega,W.sp,W.os,W.tape,W.output,W.ga,W.old⟩;rw[UY,Ud rfl,Ud (by omega)];obtain⟨l,h1,h2,h3⟩:=h.v_;refine⟨l,h1,λi=>?_,?_⟩;rw[h2 i,hj];constructor;rintro⟨a,_,c⟩;exact⟨a,c⟩;rintro⟨a,c⟩;exact⟨a,by rw[hQ i (by omega)];omega,c⟩;rw[<-h3];rcases X with e|e<;>rw[e]<;>rfl;have ak:∀k g,0<k->gs[k]? =some g->∃q,QuitsD P q (Deaf t k) g:=by intro k g H s;obtain h1|⟨h1,h2⟩|⟨i,hi,rfl⟩|⟨hc,rfl⟩:=xU h (Uk.1 s).1;omega;exact⟨_,Q.lv k g h1 h2 s⟩;obtain⟨g',f,hw⟩:=Q.wk i hi;rw[s]at f;cases f;have h0:=hQ i hi;rw[T.dw i hi];exact KB hw h0;obtain⟨g',f,hw⟩:=Q.cl _ B;rw[s]at f;cases f;rw[T.dc I];exact KC hw rfl
 classical
 refine⟨λk=>if H:∃q,∀g,0<k->gs[k]? =some g->QuitsD P q (Deaf t k) g then H.choose else 0,λk g H s=>?_,λk H=>?_⟩;rw[Ur (by omega)]at s;have an:∃q,∀g,0<k->gs[k]? =some g->QuitsD P q (Deaf t k) g:=by obtain⟨q,hq⟩:=ak k g H s;exact⟨q,λg' _ f=>by rw[s]at f;cases f;exact hq⟩
 simp only[VX an];rw[M];exact an.choose_spec g H s;simp at H;rw[M];exact T.above k (by omega) (λi hi=>by omega) λ_=>by omega
def phase(G:fA Wg ch base N0 shun)(r:n<2147483647)(j:∀K M g w,An K M g w->Run P false ty Wg (SW1 P ty Wg ch An) K M g w){Shun B₀}(s:Past Shun B₀ t₀):∀(m) (gs) (w) (sl) (t) (σ),mu (n:=n) (base:=base) σ=m->GI P ty Wg ch z An HV Fin n base N0 shun W₀ t₀ gs w t σ->∃N gs' w' a t',runNT P N (crowd gs w sl) t=(.next (crowd gs' w' a),t')/\QC P Wg ch z HV Fin n base N0 shun Shun W₀ gs' w' t':=by intro m;induction m using(PI P ty Wg).induction with|_ m u=>(rintro gs w sl t σ rfl h;obtain⟨i,g,d,a,v,b,c⟩:=crowd_pick (P:=P) (w:=w) (sl:=sl) (Ic h) (zo h);rcases Nn (sl:=a) G r j (h.QB G d) v b with⟨gs',w',ops,k,l,x,y⟩|⟨rfl,A⟩);obtain⟨N,e,o,f,p,B,q⟩:=u _ y gs' w' a (t++ops) k rfl x;exact⟨N+1,e,o,f,p,by simp only[runNT,c,l];exact B,q⟩;obtain⟨gs',ops,l,q⟩:=ET G (h.QB G d) s A;exact⟨1,gs',w.at d,a,t++ops,by simp only[runNT,c,l],q⟩
end
end Go.Tm

import Derived.Conc.Pipeline2
import Derived.Test.YtaglpcmhopjebaaGreatDoorT13
set_option linter.all false
set_option maxRecDepth 100000
set_option maxHeartbeats 20000000
namespace Go.Tm
open Go.Conc Go.ConcN Go.Conc.Lib
open Go.ConcR (KK WgAt stA smA rd wr mk DC0 Bk)
section
variable {P:Program} {ty:TypeId} {Wg ch:Nat} {z:Value} {An:aN} {HV:Nat->Option Value} {Fin:List Value->aN} {n base N0:Nat} {shun:Nat->Prop} {W₀:World} {t₀ t:Trace} {gs gs':Array Goroutine} {w w':World} {sl:Option (Nat×Nat)} {σ:GSt P ty Wg}
def DY{i}(o:i<σ.j)(p:σ.j<=n){v}(g:HV i=some v)(r:6<(σ.D i).s){D':Nat->WD}(c:(D' i).s=6)(d:∀k,k≠i->D' k=σ.D k)(h:Got P ty Wg HV σ):σ.mt.got.length<n/\∃l:List Nat,l.Nodup/\(∀k,k∈l↔k<σ.j/\(D' k).s<=6/\HV k≠none)/\σ.mt.got++[v]=l.filterMap HV:=by (obtain⟨l,q,b,m⟩:=h;have f:i∉l:=λe=>by have:=((b i).1 e).2.1;omega);have a:=List.nodup_cons.2 ⟨f,q⟩;refine⟨?_,l++[i],?_,λk=>?_,?_⟩;rw[m,pL λk hk=>((b k).1 hk).2.2];(have:=xk (n:=n) a λk hk=>by obtain rfl|hk:=Ts.1 hk;omega;have:=((b k).1 hk).1;omega);simp at this;omega;exact(List.perm_append_singleton i l).nodup_iff.2 a;rw[UC,UE];by_cases e:k=i;subst e;simp[o,c,g];rw[d k e,b k];simp[e];rw[m];simp[g]
def Bm{mt mt':nw}(h:(∃r a,mt=.rb r a)\/(∃r a,mt=.rc r a))(c:(∃r a,mt'=.rb r a)\/(∃r a,mt'=.rc r a)):((∃r st,mt'=.sp r st)\/mt'=.gc)↔((∃r st,mt=.sp r st)\/mt=.gc):=by constructor;(rintro(⟨_,_,e⟩|e)<;>rcases c with⟨_,_,b⟩|⟨_,_,b⟩<;>rw[b]at e<;>cases e);rintro(⟨_,_,e⟩|e)<;>rcases h with⟨_,_,b⟩|⟨_,_,b⟩<;>rw[b]at e<;>cases e
def jm{i d f s r cap a1 h j k l m o p q u v x}(y:a1<base+n)(A:h<base+n)(C:j<base+n)(D:k<base+n):∀a∈(MemOp.ofEvents i d f #[]++#[{g:=a1,fn:=l,pos:=q,act:=.send ch s},{g:=h,fn:=m,pos:=u,act:=.recv ch r cap},{g:=j,fn:=o,pos:=v,act:=.sendDone ch s},{g:=k,fn:=p,pos:=x,act:=.recvDone ch r}]:Trace),(a.act.touch?=none/\a.act≠ .mark .disable/\a.act≠ .mark .enable/\a.act≠ .mark (.release (stA Wg)))/\a.g<base+n/\∀B,ch<B->a.act.low B:=by intro a b;have e:MemOp.ofEvents i d f #[]=#[]:=rfl;rw[e]at b;simp only[Ui,T3,Ts,TB,TC]at b;obtain rfl|rfl|rfl|rfl:=b;exact⟨⟨rfl,by simp,by simp,by simp⟩,y,λ_ c=>c⟩;exact⟨⟨rfl,by simp,by simp,by simp⟩,A,λ_ c=>c⟩;exact⟨⟨rfl,by simp,by simp,by simp⟩,C,λ_ c=>c⟩;exact⟨⟨rfl,by simp,by simp,by simp⟩,D,λ_ c=>c⟩
def DZ(G:fo Wg ch base N0 shun)(h:GI P ty Wg ch z An HV Fin n base N0 shun W₀ t₀ gs w t σ){i}(E:i<σ.j){g}(hg:gs[base+i]? =some g){v}(hv:HV i=some v)(hs:(σ.D i).s=8)(Y:(σ.D i).d=0){c}(hR:σ.R i=(8,0,c)) (ar:Mf P ty Wg ch z v (σ.D i).K (σ.D i).M g w):dO P ty Wg ch z An HV Fin n base N0 shun W₀ t₀ t gs w sl σ (base+i):=by
 have hb:=G.kY;have W:=h.w_;have T:=h.t_;have Q:=h.g_;have H:=SZ E Q.jn;obtain⟨a6,⟨es,rfl,Z⟩,aa⟩:=ar;have ab:(base+i==0)=false:=by simp;omega
 have ad:σ.ct≠some .quit:=λe=>by have:=h.m_.wY (by rw[e];trivial) i E;omega
 obtain⟨s,hch⟩:=W.chn;rw[fp ad]at hch;have F:=(S8.1 hg).1;have o:∀(f:FuncId) (p:String),MemOp.ofEvents (base+i) f p #[]=#[]:=λ_ _=>rfl;obtain⟨a,ha,hm⟩:=Q.mn;by_cases I:∃r hs,σ.mt=.rb r hs
 ·
  obtain⟨r,B,C⟩:=I;obtain⟨g2,rfl,ax,a7,ay,af⟩:=OO hm C;have hp:partners (gs.setIfInBounds (base+i) ph) ch false=[(0,0)]:=by
   rw[partners_one (j:=0) (g:=parked {g2 with offers:=none} #[rcase ch z] (.recv true)) (by rw[Te (by omega)];exact ha) λk x q hx=>?_]
   ·rw[offersAt_parked_recv,SS rfl];rfl
   ·obtain⟨_,rfl⟩|⟨_,u⟩:=getElem?_stand gs (base+i) k x hx
    ·exact offersAt_ph _ _
    ·exact uf h u q
  have J:=crowd_send_meets (sl:=sl) (i:=base+i) (j:=0) hg (by rw[ab];exact Z) hch (by omega) ha hp;have y:=DY (D':=upd σ.D i ⟨6,0,(σ.D i).K,(σ.D i).M⟩) E Q.jn hv (by omega) (by rw[upd_same]) (λk q=>upd_ne _ _ q) h.v_;rw[C]at y;obtain⟨ag,ak⟩:=y;have aM:B.length<n:=ag;obtain⟨r',rfl⟩:∃r',r=r'+1:=⟨r-1,by omega⟩
  let w':=w.setChan ch 0 #[] false (s+1) (s+1) false;have L:∀b,b≠ch->w'.heap[b]? =w.heap[b]? :=λb m=>Te (Tl m);have N:w'.heap.size=w.heap.size:=by simp[w',World.setChan]
  have O:=W.wg.of_block (L Wg G.ne_);have an:∀K:Nat->Prop,(∀b,K b->¬spB Wg ch b)->RK ty Wg K w w':=λK hK=>⟨λb m=>L b λe=>hK b m (.inr e),λ_=>⟨_,_,O⟩,Uv N.symm⟩
  obtain⟨_,_,_,S⟩:=ax w (.refl w);obtain⟨x1,a1⟩:=cE.of ((S i v H hv).rely (an _ λb m=>(W.k0 b m).2.1));obtain⟨x2,U⟩:=cE.of (aa.rely (an _ λb m=>(W.kw i E b m).2.1));refine⟨_,w',_,_,J,h.comm (mt':=.rc r' (B++[v])) (r0':=(20,0,x1)) (D':=upd σ.D i ⟨6,0,(σ.D i).K,(σ.D i).M⟩) (R':=upd σ.R i (6,0,x2)) G ⟨rfl,rfl,rfl⟩ N L ⟨s+1,?_⟩
   (λA l=>(jm (base:=base) (n:=n) (by omega) (by omega) (by omega) (by omega) A l).1) (λA l=>Nat.ne_of_lt (jm (base:=base) (n:=n) (Wg:=Wg) (by omega) (by omega) (by omega) (by omega) A l).2.1) (λA l=>Vt (jm (base:=base) (n:=n) (Wg:=Wg) (by omega) (by omega) (by omega) (by omega) A l).2.1) (λA l=>(jm (base:=base) (n:=n) (Wg:=Wg) (by omega) (by omega) (by omega) (by omega) A l).2.2 _ (by rw[N];exact W.sp.2))
   (λk q=>?_) ?_ (λk q=>?_) (λk h1 h2=>?_) ?_ (λk q=>?_) ?_ ?_ ?_ ?_ ?_ ?_,jl H rfl (by rw[hR];exact bV (by omega))⟩
  ·rw[fp ad]
   show(w.heap.setIfInBounds ch _)[ch]? =_;rw[TP];simp[W.sp.2]
  ·by_cases e:k=i
   ·subst e;rw[upd_same];exact⟨rfl,rfl,Y.symm,λx=>by simp at x⟩
   ·rw[upd_ne _ _ e];exact⟨rfl,rfl,rfl,id⟩
  ·refine⟨Conc.served {g2 with offers:=none} (recvd true v true),?_,?_⟩
   ·rw[Te (by omega),TP]
    rw[SS rfl,SS (by omega)];rfl
   ·rw[af,ay]
    exact .rc (by simp;omega) a1
  ·by_cases e:k=i
   ·subst e
    refine .inr ⟨Conc.served {g with offers:=none} undef,?_,?_⟩
    ·rw[TP,SS rfl,SS (by simp;exact F)]
     rfl
    ·rw[upd_same,upd_same];exact .r0 U
   ·refine .inl ⟨upd_ne _ _ e,upd_ne _ _ e,?_⟩
    rw[Te (by omega),Te (by omega)]
  ·rw[Te (by omega),Te (by omega)]
  ·simp
  ·rw[upd_ne];omega
  ·exact(h.m_.same (D':=⟨6,0,(σ.D i).K,(σ.D i).M⟩) E (.inr ⟨by simp,by omega⟩)).tp (by rw[C];rfl)
  ·have:=tk (D:=σ.D) (D':=⟨6,0,(σ.D i).K,(σ.D i).M⟩) E
   have e1:jy (σ.D i)=1:=SS (by omega);have e2:jy ⟨6,0,(σ.D i).K,(σ.D i).M⟩=1:=rfl;omega
  ·exact Bm (.inl ⟨_,_,C⟩) (.inr ⟨_,_,rfl⟩)
  ·rintro⟨_,_,e⟩;cases e
  ·intro _ _ e;cases e
  ·exact ak
 ·
  have V:offersAt a ch false=[]:=by
   obtain⟨h1,_⟩|⟨r,B,g2,h1,_⟩:=hm.status
   ·exact fu (.inl h1) _ _
   ·exact absurd ⟨r,B,h1⟩ I
  have hp:partners (gs.setIfInBounds (base+i) ph) ch false=[]:=partners_nil λk x hx=>by
   obtain⟨_,rfl⟩|⟨_,u⟩:=getElem?_stand gs (base+i) k x hx
   ·exact offersAt_ph _ _
   ·by_cases q:k=0
    ·subst q
     rw[ha]at u;cases u;exact V
    ·exact uf h u q
  have X:=crowd_waits (sl:=sl) (i:=base+i) hg (by rw[ab];exact Z) (λcc ao=>by simp at ao;subst ao;exact ways_send_none hch (SU _) hp)
  obtain⟨x2,U⟩:=cE.of aa;refine⟨_,w,_,_,X,h.comm (mt':=σ.mt) (r0':=σ.r0) (D':=upd σ.D i ⟨7,0,(σ.D i).K,(σ.D i).M⟩) (R':=upd σ.R i (7,0,x2)) G ⟨rfl,rfl,rfl⟩ rfl (λ_ _=>rfl) W.chn
   (λA l=>?_) (λA l=>?_) (λA l=>by rw[o]at l;simp at l) (λA l=>by rw[o]at l;simp at l)
   (λk q=>?_) ?_ (λk q=>?_) (λk h1 h2=>?_) ?_ (λk q=>?_) ?_ ?_ ?_ ?_ ?_ ?_,jl H rfl (by rw[hR];exact bV (by omega))⟩
  ·rw[o]at l;simp at l
  ·rw[o]at l;simp at l
  ·by_cases e:k=i
   ·subst e;rw[upd_same];exact⟨rfl,rfl,Y.symm,λx=>by simp at x⟩
   ·rw[upd_ne _ _ e];exact⟨rfl,rfl,rfl,id⟩
  ·exact⟨a,by rw[Te (by omega)];exact ha,hm⟩
  ·by_cases e:k=i
   ·subst e
    refine .inr ⟨_,by rw[TP,SS rfl,SS F],?_⟩;rw[upd_same,upd_same];exact .blk hv U
   ·exact .inl ⟨upd_ne _ _ e,upd_ne _ _ e,by rw[Te (by omega)]⟩
  ·rw[Te (by omega)]
  ·simp
  ·rw[upd_ne];omega
  ·exact h.m_.same (D':=⟨7,0,(σ.D i).K,(σ.D i).M⟩) E (.inr ⟨by simp,by omega⟩)
  ·have:=tk (D:=σ.D) (D':=⟨7,0,(σ.D i).K,(σ.D i).M⟩) E
   have e1:jy (σ.D i)=1:=SS (by omega);have e2:jy ⟨7,0,(σ.D i).K,(σ.D i).M⟩=1:=rfl;omega
  ·rfl
  ·exactλe=>absurd e I
  ·exact Q.mq
  ·exact zB (λk q=>by
    by_cases e:k=i
    ·subst e;rw[upd_same];simp[hs]
    ·rw[upd_ne _ _ e]) h.v_
def GA{r a K M g}(h:oc P ty Wg ch z HV Fin n r a K M g w):g.status=.running/\stepG P true g w=.comm {g with offers:=none} #[rcase ch z] true (.recv true) w #[]/\Fin a K M (Conc.served g (.tuple #[z,.bool false])) w:=by cases r with|zero=>exact h|succ r=>exact⟨h.1,h.2.1,h.2.2.1⟩
def Mm{b D ρ a d i sh}(h:WSit P ty Wg ch z b D ρ (parked a #[scase ch d i] sh) w):b=some d/\D=⟨7,0,D.K,D.M⟩/\sh=.send/\∃c,ρ=(7,0,c)/\cE P ty Wg false (SR0 P ty Wg) D.K D.M (Conc.served a undef) w c:=by (have m:∀{g:Goroutine},(parked a #[scase ch d i] sh)=g->(g.status=.running\/g.status=.finished)->False:=λe h=>by subst e;rcases h with h|h<;>cases h);have j:=h.status;obtain⟨_,k⟩|⟨o,_⟩:=j;exact(m rfl k).elim;generalize l:parked a #[scase ch d i] sh=u at h;cases h with| @blk K M p _ c v b q=>obtain⟨f,cs,st,x,of⟩:=a;obtain⟨y,cs',st',r,s⟩:=p;simp only[parked,scase,Goroutine.mk.injEq,TJ,VK,Array.mk.injEq,VM,CommCase.mk.injEq]at l;obtain⟨rfl,rfl,_,rfl,k,rfl⟩:=l;obtain⟨⟨_,rfl,rfl⟩,_⟩:=k;exact⟨b,rfl,rfl,c,rfl,q⟩|_=>cases o
def Mn(P ty)(Wg ch:Nat)(z:Value)(An:aN)(HV:Nat->Option Value)(Fin:List Value->aN)(n base N0:Nat)(shun:Nat->Prop)(W₀:World)(t₀ t:Trace)(gs:Array Goroutine)(w:World)(sl:Option (Nat×Nat))(σ:GSt P ty Wg):Prop:=∃r a b fn pos,(σ.mt=.rc r a\/σ.mt=.rw r a)/\σ.ct=some .quit/\Fin a σ.K0 σ.M0 (Conc.served b (.tuple #[z,.bool false])) w/\runT P (crowd gs w sl) 0=(.next (crowd (gs.setIfInBounds 0 (Conc.served b (.tuple #[z,.bool false]))) w sl),#[{g:=0,fn:=fn,pos:=pos,act:=.recvClosed ch}])
def Bp(G:fo Wg ch base N0 shun)(h:GI P ty Wg ch z An HV Fin n base N0 shun W₀ t₀ gs w t σ){g:Goroutine}(hg:gs[0]? =some g){r:Nat}{I:List Value}{c:RC P ty Wg}{g2:Goroutine}(bm:r+I.length=n) (V:σ.mt=.rc r I/\g=g2/\σ.r0=(20,0,c)\/σ.mt=.rw r I/\g={parked {g2 with offers:=none} #[rcase ch z] (.recv true)with status:=.running}/\σ.r0=(18,0,c)) (hj:σ.j=n) (ar:σ.d0=0) (X:∀J,RK ty Wg σ.K0 w J->oc P ty Wg ch z HV Fin n r I σ.K0 σ.M0 g2 J):dO P ty Wg ch z An HV Fin n base N0 shun W₀ t₀ t gs w sl σ 0\/Mn P ty Wg ch z An HV Fin n base N0 shun W₀ t₀ t gs w sl σ:=by
 have hb:=G.kY;have W:=h.w_;have T:=h.t_;have Q:=h.g_;have L:=(S8.1 hg).1;obtain⟨b6,N,ax⟩:=GA (X w (.refl w));have Y:stepG P true g w=.comm {g2 with offers:=none} #[rcase ch z] true (.recv true) w #[]:=by obtain⟨_,rfl,_⟩|⟨_,rfl,_⟩:=V;exact N;rw[<-N];exact stepG_same rfl rfl rfl w
 have o:∀(f:FuncId) (p:String),MemOp.ofEvents 0 f p #[]=#[]:=λ_ _=>rfl;obtain⟨s,hch⟩:=W.chn;have A:(∀i,i<σ.j->(σ.D i).s≠7)->partners (gs.setIfInBounds 0 ph) ch true=[]:=λh7=>partners_nil λk x hx=>by obtain⟨_,rfl⟩|⟨m,F⟩:=getElem?_stand gs 0 k x hx;exact offersAt_ph _ _;obtain B|⟨i,q,_,O,_⟩:=Im h F m;exact B;exact absurd O (h7 i q)
 by_cases Z:σ.ct=some .quit
 ·
  right;rw[Z]at hch;have hQ:=h.m_.wY (by rw[Z];trivial);have hp:=A λi q=>by rw[hQ i q];omega
  have:=crowd_recv_closed (sl:=sl) (i:=0) hg Y hch hp;rw[o,Ui]at this;exact⟨r,I,g2,_,_,V.imp (·.1) (·.1),Z,ax,this⟩
 ·
  left;rw[fp Z]at hch;have bo:=V.resolve_right λ⟨e,_⟩=>Z (Q.mq _ _ e);obtain⟨y,rfl,br⟩:=bo;by_cases h7:∃i,i<σ.j/\(σ.D i).s=7
  ·
   obtain⟨i0,bs,bx⟩:=h7;obtain⟨g0,bA,bB⟩:=Q.wk i0 bs;have S:∀k x,k≠0->gs[k]? =some x->offersAt x ch true≠[]->∃i,i<σ.j/\k=base+i/\(σ.D i).s=7/\∃U v,x=parked U #[scase ch v undef] .send:=by
    intro k x m hx aa;obtain B|⟨i,q,rfl,O,_⟩:=Im h hx m
    ·exact absurd B aa
    ·obtain⟨g',ay,hw⟩:=Q.wk i q
     rw[hx]at ay;cases ay;obtain⟨B,_⟩|⟨_,U,v,rfl⟩:=hw.status
     ·exact absurd O B
     ·exact⟨i,q,rfl,O,U,v,rfl⟩
   have aa:partners (gs.setIfInBounds 0 ph) ch true≠[]:=by
    intro e;obtain⟨B,_⟩|⟨_,U,v,rfl⟩:=bB.status
    ·exact B bx
    ·have:(base+i0,0)∈partners (gs.setIfInBounds 0 ph) ch true:=mem_partners.2 ⟨_,by rw[Te (by omega)];exact bA,by rw[offersAt_parked_send,SS rfl];simp⟩
     rw[e]at this;cases this
   obtain⟨j,U,vj,zj,b7,d,H,ab,ad⟩:=crowd_recv_meets_some (sl:=sl) (i:=0) hg Y hch aa λj k bC=>by
    obtain⟨x,hx,m⟩:=mem_partners.1 bC;obtain⟨_,rfl⟩|⟨H,F⟩:=getElem?_stand gs 0 j x hx
    ·rw[offersAt_ph]at m;cases m
    ·obtain⟨i,q,rfl,_,U,v,rfl⟩:=S j x H F λe=>by rw[e]at m;cases m
     rw[offersAt_parked_send,SS rfl]at m;exact⟨by simpa using m,H,U,v,undef,_,F⟩
   obtain⟨i,q,rfl,b8,_⟩:=S j _ H ab (by rw[offersAt_parked_send,SS rfl];simp);have aM:=SZ q Q.jn;obtain⟨gx,a1,b0⟩:=Q.wk i q;rw[ab]at a1;cases a1;obtain⟨hv,hD,rfl,cw,hR,b1⟩:=Mm b0;have b2:(σ.D i).d=0:=by rw[hD]
   have C:=DY (D':=upd σ.D i ⟨6,0,(σ.D i).K,(σ.D i).M⟩) q Q.jn hv (by omega) (by rw[upd_same]) (λk m=>upd_ne _ _ m) h.v_;rw[y]at C;obtain⟨a6,a7⟩:=C;have b3:I.length<n:=a6;obtain⟨r',rfl⟩:∃r',r=r'+1:=⟨r-1,by omega⟩
   let w':=(w.at d).setChan ch 0 #[] false (s+1) (s+1) false;have af:∀b,b≠ch->w'.heap[b]? =w.heap[b]? :=λb u=>Te (Tl u);have ag:w'.heap.size=w.heap.size:=by show(w.heap.setIfInBounds ch _).size=_;simp
   have ak:=W.wg.of_block (af Wg G.ne_);have a8:∀K:Nat->Prop,(∀b,K b->¬spB Wg ch b)->RK ty Wg K w w':=λK hK=>⟨λb u=>af b λe=>hK b u (.inr e),λ_=>⟨_,_,ak⟩,Uv ag.symm⟩
   obtain⟨_,_,_,an⟩:=X w (.refl w);obtain⟨x1,b4⟩:=cE.of ((an i vj aM hv).rely (a8 _ λb u=>(W.k0 b u).2.1));obtain⟨x2,b5⟩:=cE.of (b1.now.rely (a8 _ λb u=>(W.kw i q b u).2.1));refine⟨_,w',_,_,ad,h.comm (mt':=.rc r' (I++[vj])) (r0':=(20,0,x1)) (D':=upd σ.D i ⟨6,0,(σ.D i).K,(σ.D i).M⟩) (R':=upd σ.R i (6,0,x2)) G ⟨rfl,rfl,rfl⟩ ag af ⟨s+1,?_⟩
    (λE a=>(jm (base:=base) (n:=n) (by omega) (by omega) (by omega) (by omega) E a).1) (λE a=>Nat.ne_of_lt (jm (base:=base) (n:=n) (Wg:=Wg) (by omega) (by omega) (by omega) (by omega) E a).2.1) (λE a=>Vt (jm (base:=base) (n:=n) (Wg:=Wg) (by omega) (by omega) (by omega) (by omega) E a).2.1) (λE a=>(jm (base:=base) (n:=n) (Wg:=Wg) (by omega) (by omega) (by omega) (by omega) E a).2.2 _ (by rw[ag];exact W.sp.2))
    (λk m=>?_) ?_ (λk m=>?_) (λk B O=>?_) ?_ (λk m=>?_) ?_ ?_ ?_ ?_ ?_ ?_,jl aM rfl (by rw[hR];exact bV (by omega))⟩
   ·rw[fp Z]
    show(w.heap.setIfInBounds ch _)[ch]? =_;rw[TP];simp[W.sp.2]
   ·by_cases e:k=i
    ·subst e;rw[upd_same];exact⟨rfl,rfl,b2.symm,λx=>by simp at x⟩
    ·rw[upd_ne _ _ e];exact⟨rfl,rfl,rfl,id⟩
   ·refine⟨Conc.served {g with offers:=none} (recvd true vj true),?_,?_⟩
    ·rw[TP,SS rfl,SS (by simp;exact L)]
     rfl
    ·rw[ar,hj]
     exact .rc (by simp;omega) b4
   ·by_cases e:k=i
    ·subst e
     refine .inr ⟨Conc.served U undef,?_,?_⟩
     ·have ba:=(S8.1 ab).1
      rw[Te (by omega),TP,SS rfl,SS ba];rfl
     ·rw[upd_same,upd_same];exact .r0 b5
    ·refine .inl ⟨upd_ne _ _ e,upd_ne _ _ e,?_⟩
     rw[Te (by omega),Te (by omega)]
   ·rw[Te (by omega),Te (by omega)]
   ·simp
   ·rw[upd_ne];omega
   ·exact(h.m_.same (D':=⟨6,0,(σ.D i).K,(σ.D i).M⟩) q (.inr ⟨by simp,by omega⟩)).tp (by rw[y];rfl)
   ·have:=tk (D:=σ.D) (D':=⟨6,0,(σ.D i).K,(σ.D i).M⟩) q
    have e1:jy (σ.D i)=1:=SS (by omega);have e2:jy ⟨6,0,(σ.D i).K,(σ.D i).M⟩=1:=rfl;omega
   ·exact Bm (.inr ⟨_,_,y⟩) (.inr ⟨_,_,rfl⟩)
   ·rintro⟨_,_,e⟩;cases e
   ·intro _ _ e;cases e
   ·exact a7
  ·
   have bb:∀i,i<σ.j->(σ.D i).s≠7:=λi q e=>h7 ⟨i,q,e⟩;have ao:=crowd_waits (sl:=sl) (i:=0) hg Y (λcc bk=>by simp at bk;subst bk;exact ways_recv_none hch (A bb))
   refine⟨_,w,_,_,ao,h.comm (mt':=.rb r I) (r0':=(19,0,c)) (D':=σ.D) (R':=σ.R) G ⟨rfl,rfl,rfl⟩ rfl (λ_ _=>rfl) W.chn
    (λE a=>by rw[o]at a;simp at a) (λE a=>by rw[o]at a;simp at a) (λE a=>by rw[o]at a;simp at a) (λE a=>by rw[o]at a;simp at a)
    (λk m=>⟨rfl,rfl,rfl,id⟩) ⟨_,by rw[TP,SS rfl,SS L],?_⟩ (λk m=>.inl ⟨rfl,rfl,by rw[Te (by omega)]⟩) (λk B O=>by rw[Te (by omega)]) (by simp) (λk m=>rfl)
    (h.m_.tp (by rw[y];rfl)) rfl (Bm (.inr ⟨_,_,y⟩) (.inl ⟨_,_,rfl⟩)) (λ_=>⟨Z,bb⟩) (λ_ _ e=>by cases e) ?_,?_⟩
   ·rw[ar,hj];exact .rb bm X
   ·obtain⟨l,B,O,h3⟩:=h.v_
    exact⟨l,B,O,by rw[<-h3,y];rfl⟩
   ·exact tl rfl (by rw[br];exact bV (by omega))
def GI.Pp(G:fo Wg ch base N0 shun)(h:GI P ty Wg ch z An HV Fin n base N0 shun W₀ t₀ gs w t σ)(d):GI P ty Wg ch z An HV Fin n base N0 shun W₀ t₀ gs (w.at d) t σ:=by
 have W:=h.w_;have Q:=h.g_;have rk:∀K,RK ty Wg K w (w.at d):=λK=>⟨λ_ _=>rfl,id,SU _⟩
 obtain⟨a,e,f⟩:=Q.mn;have:=h.comm (w':=w.at d) (gs':=gs) (ops:=#[]) (mt':=σ.mt) (r0':=σ.r0) (D':=σ.D) (R':=σ.R) G ⟨rfl,rfl,rfl⟩ rfl (λ_ _=>rfl) W.chn (λc b=>by simp at b) (λc b=>by simp at b) (λc b=>by simp at b) (λc b=>by simp at b)
  (λ_ _=>⟨rfl,rfl,rfl,id⟩) ⟨a,e,f.rely (rk _)⟩ (λi g=>.inl ⟨rfl,rfl,rfl⟩) (λ_ _ _=>rfl) rfl (λ_ _=>rfl) h.m_ rfl UI Q.mb Q.mq h.v_
 rw[VG]at this;exact this
def D1(G:fo Wg ch base N0 shun)(h:GI P ty Wg ch z An HV Fin n base N0 shun W₀ t₀ gs w t σ){k}(h0:0<k)(V:k<base){g}(hg:gs[k]? =some g)(p:g.status=.running):dO P ty Wg ch z An HV Fin n base N0 shun W₀ t₀ t gs w sl σ k:=by
 have hb:=G.kY;have W:=h.w_;have T:=h.t_;have Q:=h.g_;have hq:=Q.lv k g h0 V hg;have X:=(S8.1 hg).1;have ag:(k==0)=false:=by simp;omega
 cases M:σ.q k with
 |zero=>rw[M]at hq;rw[hq.1]at p;cases p
 |succ m=>
  rw[M]at hq;obtain⟨hf,_⟩|⟨_,g',es,Y,Z,aa⟩:=hq;rw[hf]at p;cases p;have N:=runT_crowd_go (P:=P) (sl:=sl) (i:=k) hg (by rw[ag];exact Z w);have f:∀I∈MemOp.ofEvents k g.frame.fn g.frame.place es,I.g=k:=λI l=>by obtain⟨e,_,rfl⟩:=Go.Conc.mem_ofEvents l;rfl
  have O:∀I∈MemOp.ofEvents k g.frame.fn g.frame.place es,I.act.touch?=none:=λI l=>by obtain⟨e,he,rfl⟩:=Go.Conc.mem_ofEvents l;exact touch_mute (Y e he)
  have a1:sumTo base (upd σ.q k m)+(m+1)=sumTo base σ.q+m:=by have:=sumTo_upd σ.q m id V;simpa[M]using this
  obtain⟨b,A,v,ak⟩:∃b A,(b=σ.ct\/(σ.ct=some .blk/\b=some .w3))/\
   ∀c,b=some c->∃gc,((gs.map (woken P g g' w)).setIfInBounds k g')[base+n]? =some gc/\CSit P ty Wg ch An (VW σ.j σ.D) c σ.dc σ.Kc σ.Mc A gc w:=by
   cases o:σ.ct with
   |none=>exact⟨none,σ.rc,.inl rfl,λc e=>by cases e⟩
   |some c=>
    obtain⟨gc,an,ao⟩:=Q.cl c o;obtain⟨c',ar,y,K,_⟩:=ao.woken g g' w aa.status;refine⟨some c',ar,?_,λc2 e=>?_⟩
    ·obtain rfl|⟨rfl,rfl⟩:=K
     ·exact .inl rfl
     ·exact .inr ⟨rfl,rfl⟩
    ·cases e
     refine⟨_,?_,y⟩;rw[bK _ _ _ _ _ (by omega),an];rfl
  have d:b=none↔σ.ct=none:=by obtain rfl|⟨a,rfl⟩:=v;rfl;simp[a]
  have B:b=some .quit↔σ.ct=some .quit:=by obtain rfl|⟨a,rfl⟩:=v;rfl;simp[a]
  have ab:b=some .cl↔σ.ct=some .cl:=by obtain rfl|⟨a,rfl⟩:=v;rfl;simp[a]
  have ax:eG b=eG σ.ct:=by obtain rfl|⟨a,rfl⟩:=v;rfl;rw[a];rfl
  have C:∀E r,E<n->RelBy (stA Wg) t (base+E) r->RelBy (stA Wg) (t++MemOp.ofEvents k g.frame.fn g.frame.place es) (base+E) r:=λE r _ hr=>dN hr f (by omega);have F:∀k',k'≠k->Deaf (t++MemOp.ofEvents k g.frame.fn g.frame.place es) k'=Deaf t k':=λk' R=>Deaf_other t (Tl R) _ f;have H:σ.ct≠some .quit->∃s r tm,w.heap[ch]? =some (.chan 0 #[] false s r tm):=by intro o;obtain⟨s,J⟩:=W.chn;rw[fp o]at J;exact⟨s,s,false,J⟩
  let S:GSt P ty Wg:={σ with ct:=b,rc:=A,q:=upd σ.q k m}
  refine⟨_,w,_,S,N,⟨?_,?_,?_,h.m_.retag v,h.v_⟩,?_⟩;refine⟨W.os,W.tape,W.output,W.fR,W.old,?_,W.wg,W.sp,W.kw,W.mw,W.k0,W.m0,λo=>W.kc λe=>o (d.2 e),λo=>W.mc λe=>o (d.2 e),W.owns,W.Dz,W.DC.trans (not_congr d.symm),W.Bf,W.Bg⟩;obtain⟨s,J⟩:=W.chn;exact⟨s,by rw[J];show _=some (Obj.chan 0 #[] (eG b) s s false);rw[ax]⟩
  refine⟨?_,T.tr.still O λI l e=>absurd ((f I l).symm.trans e) (by omega),kX T.seen (SU _) λI l=>?_,iV T.gb (λI l=>by
   rw[f I l];have y:=(S8.1 hg).1;have K:=Q.size;have h3:=Q.jn;split at K<;>omega),T.norel.app (norel_of λe he=>?_),(F 0 (by omega)).trans T.d0,λE x=>(F _ (by omega)).trans (T.dw E x),λo=>(F _ (by omega)).trans (T.dc λe=>o (d.2 e)),
   λk' y K h3=>(F k' (by omega)).trans (T.above k' y K λe=>h3 λe'=>e (d.1 e')),λE x J=>?_,λo=>kD (T.acq (ab.1 o)) C,λo=>kE (T.cls (B.1 o)) C (iI f (by omega))⟩
  obtain⟨u,rfl⟩:=T.pre;exact⟨_,Ub ..⟩;obtain⟨e,he,rfl⟩:=Go.Conc.mem_ofEvents l;exact low_mute (Y e he) _;intro e2;have:=Y e he;obtain⟨a6,a7,sy⟩:=e;simp only at e2;subst e2;simp[Event.mute]at this;obtain⟨r,hr⟩:=T.rel E x J;exact⟨r,dN hr f (by omega)⟩;refine⟨?_,Q.jn,λo=>Q.cn λe=>o (d.2 e),?_,d.trans Q.mc,λE x=>?_,Q.unb,ak,λk' gk y K hk=>?_,λY=>?_,λr J e=>B.2 (Q.mq r J e)⟩;have:(if b.isSome then 1 else 0)=(if σ.ct.isSome then 1 else 0):=by obtain rfl|⟨a,rfl⟩:=v;rfl;rw[a];rfl
  simp only[Tv,Uu];rw[this];exact Q.size;obtain⟨a,ha,U⟩:=Q.mn;refine⟨woken P g g' w a,by rw[bK _ _ _ _ _ (by omega),ha];rfl,?_⟩;have e:woken P g g' w a=a:=by obtain⟨y,_⟩|⟨r,J,g2,y,_⟩:=U.status;exact woken_run y;exact U.woken g g' w (H (Q.mb ⟨r,J,y⟩).1)
  rw[e];exact U;obtain⟨gw,ay,ad⟩:=Q.wk E x;refine⟨woken P g g' w gw,by rw[bK _ _ _ _ _ (by omega),ay];rfl,?_⟩;have e':=ad.woken g g' w λaf=>H λo=>by rw[h.m_.wY (by rw[o];trivial) E x]at af;cases af
  rw[e'];exact ad;by_cases e:k'=k;subst e;rw[eX _ _ _ _ X]at hk;cases hk;simp only[S,upd_same];rw[Deaf_own];exact aa;rw[bK _ _ _ _ _ e]at hk;obtain⟨aM,R,rfl⟩:=Ty.1 hk;have L:=Q.lv k' aM y K R;simp only[S,upd_ne σ.q m e];rw[woken_quitsD L,F k' e];exact L;obtain⟨y,K⟩:=Q.mb Y;exact⟨λe'=>y (B.1 e'),K⟩;unfold mu;refine Prod.Lex.right _ (Prod.Lex.right _ (Prod.Lex.left _ _ ?_));show sumTo base (upd σ.q k m)<sumTo base σ.q;omega
theorem nn{D}:∀{j},1<=VW j D->∃i,i<j/\4<=(D i).s
 |0,h=>by simp[VW,sumTo]at h
 |j+1,h=>by
  by_cases a:4<=(D j).s
  ·exact⟨j,by omega,a⟩
  ·have:1<=VW j D:=by simp only[VW,sumTo,jy,SQ a]at h⊢;simpa using h
   obtain⟨i,c,b⟩:=nn this;exact⟨i,by omega,b⟩
def yE(h:GI P ty Wg ch z An HV Fin n base N0 shun W₀ t₀ gs w t σ):∃(i:Nat) (g:Goroutine),gs[i]? =some g/\g.status=.running:=by
 have Q:=h.g_;obtain⟨a,v,x⟩:=Q.mn;obtain⟨d,_⟩|⟨r,y,G,d,_⟩:=x.status;exact⟨0,a,v,d⟩;obtain⟨m,A⟩:=Q.mb ⟨r,y,d⟩
 cases f:σ.ct with
 |none=>rcases Q.mc.1 f with⟨_,_,e⟩|e<;>rw[d]at e<;>cases e
 |some c=>obtain⟨g,B,b⟩:=Q.cl c f;obtain⟨o,C⟩|⟨rfl,_,_⟩:=b.status;exact⟨_,g,B,b.busy o λe=>m (by rw[f,e])⟩;(have busy:∀i,i<σ.j->(σ.D i).s≠0->∃(i:Nat) (g:Goroutine),gs[i]? =some g/\g.status=.running:=λi k E=>by obtain⟨gw,p,F⟩:=Q.wk i k;exact⟨_,gw,p,F.busy (A i k) E⟩);have l:=h.m_;rw[f]at l;generalize σ.st=st at l;generalize σ.sm=sm at l;cases l with|opn a=>exact a.elim|reg _ _ u=>obtain⟨i,k,H⟩:=nn u;exact busy i k (by omega)|last L _ q u _=>exact busy L q (by omega)|sema _ q=>exact absurd rfl q|fin a=>exact a.elim
def GB(h:GI P ty Wg ch z An HV Fin n base N0 shun W₀ t₀ gs w t σ):∀g∈gs,awake g:=by intro g j;obtain⟨k,e⟩:=Vs.1 j;obtain rfl|⟨d,l⟩|⟨i,m,rfl⟩|⟨o,rfl⟩:=xj h (S8.1 e).1;obtain⟨a,p,q⟩:=h.g_.mn;rw[p]at e;cases e;obtain⟨d,_⟩|⟨_,_,r,_,rfl⟩:=q.status;exact awake_of (.inl d);exact awake_of (.inr (.inl rfl));exact awake_of ((h.g_.lv k g d l e).status.elim .inl λx=>.inr (.inr x));obtain⟨g',b,s⟩:=h.g_.wk i m;rw[e]at b;cases b;obtain⟨_,d⟩|⟨_,r,v,rfl⟩:=s.status;exact awake_of (d.elim .inl λx=>.inr (.inr x));exact awake_of (.inr (.inl rfl));obtain⟨c,f⟩:=Vu.1 o;obtain⟨g',b,u⟩:=h.g_.cl c f;rw[e]at b;cases b;obtain⟨_,d⟩|⟨_,d,_⟩:=u.status;exact awake_of (d.elim .inl λx=>.inr (.inr x));exact awake_of (.inr (.inl d))
def Mo(G:fo Wg ch base N0 shun)(p:n<2147483647)(q:∀K M g w,An K M g w->Run P false ty Wg (SW1 P ty Wg ch An) K M g w)(h:GI P ty Wg ch z An HV Fin n base N0 shun W₀ t₀ gs w t σ){k g}(e:gs[k]? =some g)(b:g.status=.running):dO P ty Wg ch z An HV Fin n base N0 shun W₀ t₀ t gs w sl σ k\/(k=0/\Mn P ty Wg ch z An HV Fin n base N0 shun W₀ t₀ t gs w sl σ):=by obtain rfl|⟨l,B⟩|⟨i,y,rfl⟩|⟨C,rfl⟩:=xj h (S8.1 e).1;rcases Bj (sl:=sl) G p h e b with l|⟨r,c,f,j,m,d,o,a⟩|⟨c,j,m,d,o,a⟩|⟨r,A,c,H,f,s,m,d,a⟩;exact .inl l;exact .inl (Gx (c:=c) G h e f j m d a);exact .inl (DO G h e j m d o a);(exact(Bp G h e f s m d a).imp id λx=>⟨rfl,x⟩);exact .inl (D1 G h l B e b);rcases DL (sl:=sl) G p h y e b with l|⟨v,c,D,A,E,F,a⟩;exact .inl l;exact .inl (DZ G h y e D A E F a);obtain⟨c,u⟩:=Vu.1 C;exact .inl (DX G p q h u e b)
structure Pq(P:Program)(Wg ch:Nat)(z:Value)(HV:Nat->Option Value)(Fin:List Value->aN)(n base N0:Nat)(shun:Nat->Prop)(Shun:Loc->Prop)(W₀:World)(gs':Array Goroutine)(w':World)(t':Trace):Prop where
 main:∃g2 K M hs,gs'[0]? =some (Conc.served g2 (.tuple #[z,.bool false]))/\Fin hs K M (Conc.served g2 (.tuple #[z,.bool false])) w'/\(∀b,K b->b<w'.heap.size/\¬spB Wg ch b/\¬shun b)/\(∀b,M b->b<w'.heap.size/\¬spB Wg ch b/\N0<=b)/\∃l:List Nat,l.Nodup/\(∀i,i∈l↔i<n/\HV i≠none)/\hs=l.filterMap HV
 size:gs'.size=base+n+1
 lv:∃q,Leavers P t' gs' q
 past:Past (λl=>Shun l\/∃b,blk l=some b/\spB Wg ch b) w'.heap.size t'
 few:∀op∈t',op.g<base+n+1
 sp:Wg<w'.heap.size/\ch<w'.heap.size
 os:w'.os=W₀.os
 tape:w'.tape=W₀.tape
 output:w'.output=W₀.output
 fR:N0<=w'.heap.size
 old:∀b,b<N0->w'.heap[b]? =W₀.heap[b]?
def OP{mt j d K M ρ a}(h:fj P ty Wg ch z An HV Fin n mt j d K M ρ a w)(e:(∃r b,mt=.rc r b)\/(∃r b,mt=.rw r b)):d=0:=by cases h<;>first|rfl|(rcases e with⟨_,_,e⟩|⟨_,_,e⟩<;>cases e)
def JE{a D ρ g}(h:WSit P ty Wg ch z a D ρ g w)(e:D.s=0):∃q,QuitsD P q D.d g:=by cases h with|quit b=>exact⟨_,b⟩|_=>cases e
def JF{v ct d K M ρ g}(h:CSit P ty Wg ch An v ct d K M ρ g w)(e:ct=.quit):∃q,QuitsD P q d g:=by cases h with|quit a=>exact⟨_,a⟩|_=>cases e
def D2(G:fo Wg ch base N0 shun)(h:GI P ty Wg ch z An HV Fin n base N0 shun W₀ t₀ gs w t σ){Shun B₀}(hP:Past Shun B₀ t₀)(hx:Mn P ty Wg ch z An HV Fin n base N0 shun W₀ t₀ t gs w sl σ):∃gs' ops,runT P (crowd gs w sl) 0=(.next (crowd gs' w sl),ops)/\Pq P Wg ch z HV Fin n base N0 shun Shun W₀ gs' w (t++ops):=by
 have hb:=G.kY;have W:=h.w_;have T:=h.t_;have Q:=h.g_;obtain⟨r,hs,g2,fn,pos,Y,B,Z,aa⟩:=hx;have J:σ.ct≠none:=by rw[B];simp
 have hj:=Q.cn J;have ar:gs.size=base+n+1:=by have:=Q.size;rw[B,hj]at this;simpa using this
 have hQ:=h.m_.wY (by rw[B];trivial);have ax:σ.d0=0:=by obtain⟨a,_,hm⟩:=Q.mn;exact OP hm (Y.imp (λe=>⟨_,_,e⟩) λe=>⟨_,_,e⟩)
 refine⟨_,_,aa,?_⟩;generalize hu:(#[{g:=0,fn:=fn,pos:=pos,act:=.recvClosed ch}]:Trace)=u;have L:∀m∈u,m.g=0:=λm d=>by subst hu;simp at d;subst d;rfl
 have ay:∀m∈u,m.act.touch?=none:=λm d=>by subst hu;simp at d;subst d;rfl
 have M:(t++u)[t.size]? =some {g:=0,fn:=fn,pos:=pos,act:=.recvClosed ch}:=by subst hu;simp
 have N:∀k,Deaf (t++u) k=Deaf t k:=λk=>mW (λm d=>by subst hu;simp at d;subst d;simp) k;have ab:=T.d0.trans ax;obtain⟨q,p,q1,q2,q3,q4,q5,p1,p2,p3,p4⟩:=T.cls B;have F:=lt_of_act? q1;have H:=lt_of_act? p1;have aM:(t++u).heard t.size:=⟨0,by simp[Trace.g?,M],by rw[deaf_old (SU _)];exact ab⟩
 have O:HappensBefore (t++u) p t.size:=.single (.inr ⟨.closed (c:=ch) (by rw[act?_old H];exact p1) (by simp[Trace.act?,M]),(heard_old H).2 p3,aM⟩);have hK:∀i,HappensBefore (t++u) i t.size->Knows (t++u) 0 i:=λi E=>⟨t.size,_,M,rfl,.inr E⟩
 have A:∀i g,(t++u).g? i=some g->g≠0->i<t.size/\t.g? i=some g:=λi g E s=>by obtain⟨m,d,R⟩:=Ty.1 E;obtain⟨S,ad⟩|⟨_,a1⟩:=getElem?_append_cases d;exact⟨S,by simp[Trace.g?,ad,R]⟩;rw[L m a1]at R;exact absurd R.symm s
 have po:∀i j g,i<j->(t++u).g? i=some g->(t++u).g? j=some g->HappensBefore (t++u) i j:=λi j g a6 E hj=>by obtain⟨x,hx,a7⟩:=Ty.1 E;obtain⟨y,hy,a8⟩:=Ty.1 hj;exact hb_po a6 hx hy (a7.trans a8.symm)
 have back:∀g,σ.low g≠0->Rp (t++u) g:=by intro g s i U af;have ba:g≠0:=λe=>s (by rw[e];exact T.tr.z_);obtain⟨S,ag⟩:=A i g U ba;have K:=(counts_old S).1 af;obtain⟨i',bm,rfl⟩|rfl:=W.Bf g s;(have ak:i'<n:=by omega);obtain⟨r,hr,bb⟩:=q4 i' ak;have V:=lt_of_act? hr.act;have bk:=Nat.le_of_not_lt λC=>hr.after i C ag K;have e1:HappensBefore (t++u) r q:=.single (.inr ⟨.marked bb (.inr (by rw[act?_old V];exact hr.act)) (by rw[act?_old F];exact q1) (λk _ I=>by rw[act?_old (Nat.lt_trans I F)];exact T.norel k),(heard_old V).2 hr.heard,(heard_old F).2 q3⟩);have e2:=po q p _ q5 (by rw[g?_old F];exact q2) (by rw[g?_old H];exact p2);have e3:HappensBefore (t++u) r t.size:=(e1.trans e2).trans O;obtain h1|h1:=S6 i r;exact hK i ((po i r _ h1 U (by rw[g?_old V];exact hr.g)).trans e3);(obtain rfl:i=r:=by omega);exact hK i e3;have bk:=Nat.le_of_not_lt λC=>p4 i C ag K;obtain h1|h1:=S6 i p;exact hK i ((po i p _ h1 U (by rw[g?_old H];exact p2)).trans O);(obtain rfl:i=p:=by omega);exact hK i O
 have D:∀m∈t++u,m.act.low w.heap.size:=kX T.seen (SU _) λm d=>by subst hu;simp at d;subst d;exact W.sp.2
 obtain⟨v,hv⟩:=T.pre;have ht:=T.tr.still ay λm d e=>absurd ((L m d).symm.trans e) (by omega);have X:Past (λl=>Shun l\/∃b,blk l=some b/\spB Wg ch b) w.heap.size (t++u):=by (have e:t++u=t₀++(v++u):=by rw[hv,Ub]);rw[e]at ht back D⊢;exact ht.past hP back (by rw[<-e,N];exact ab) D
 refine⟨⟨g2,σ.K0,σ.M0,hs,?_,Z,λb o=>⟨(W.k0 b o).1,(W.k0 b o).2.1,(W.k0 b o).2.2.1⟩,λb o=>⟨(W.m0 b o).1,(W.m0 b o).2.1,(W.m0 b o).2.2.1⟩,?_⟩,by simpa using ar,?_,X,iV T.gb λm d=>by rw[L m d];omega,W.sp,W.os,W.tape,W.output,W.fR,W.old⟩;rw[TP,SS rfl,SS (by omega)];obtain⟨l,h1,h2,h3⟩:=h.v_;refine⟨l,h1,λi=>?_,?_⟩;rw[h2 i,hj];constructor;rintro⟨a,_,c⟩;exact⟨a,c⟩;rintro⟨a,c⟩;exact⟨a,by rw[hQ i (by omega)];omega,c⟩;rw[<-h3];rcases Y with e|e<;>rw[e]<;>rfl;have an:∀k g,0<k->gs[k]? =some g->∃q,QuitsD P q (Deaf t k) g:=by intro k g I s;obtain h1|⟨h1,h2⟩|⟨i,E,rfl⟩|⟨hc,rfl⟩:=xj h (S8.1 s).1;omega;exact⟨_,Q.lv k g h1 h2 s⟩;obtain⟨g',f,hw⟩:=Q.wk i E;rw[s]at f;cases f;have h0:=hQ i E;rw[T.dw i E];exact JE hw h0;obtain⟨g',f,hw⟩:=Q.cl _ B;rw[s]at f;cases f;rw[T.dc J];exact JF hw rfl
 classical
 refine⟨λk=>if I:∃q,∀g,0<k->gs[k]? =some g->QuitsD P q (Deaf t k) g then I.choose else 0,λk g I s=>?_,λk I=>?_⟩;rw[Te (by omega)]at s;have ao:∃q,∀g,0<k->gs[k]? =some g->QuitsD P q (Deaf t k) g:=by obtain⟨q,hq⟩:=an k g I s;exact⟨q,λg' _ f=>by rw[s]at f;cases f;exact hq⟩
 simp only[UG ao];rw[N];exact ao.choose_spec g I s;simp at I;rw[N];exact T.above k (by omega) (λi E=>by omega) λ_=>by omega
def phase(G:fo Wg ch base N0 shun)(r:n<2147483647)(j:∀K M g w,An K M g w->Run P false ty Wg (SW1 P ty Wg ch An) K M g w){Shun B₀}(s:Past Shun B₀ t₀):∀(m) (gs) (w) (sl) (t) (σ),mu (n:=n) (base:=base) σ=m->GI P ty Wg ch z An HV Fin n base N0 shun W₀ t₀ gs w t σ->∃N gs' w' a t',runNT P N (crowd gs w sl) t=(.next (crowd gs' w' a),t')/\Pq P Wg ch z HV Fin n base N0 shun Shun W₀ gs' w' t':=by intro m;induction m using(OJ P ty Wg).induction with|_ m u=>(rintro gs w sl t σ rfl h;obtain⟨i,g,d,a,v,b,c⟩:=crowd_pick (P:=P) (w:=w) (sl:=sl) (GB h) (yE h);rcases Mo (sl:=a) G r j (h.Pp G d) v b with⟨gs',w',ops,k,l,x,y⟩|⟨rfl,A⟩);obtain⟨N,e,o,f,p,B,q⟩:=u _ y gs' w' a (t++ops) k rfl x;exact⟨N+1,e,o,f,p,by simp only[runNT,c,l];exact B,q⟩;obtain⟨gs',ops,l,q⟩:=D2 G (h.Pp G d) s A;exact⟨1,gs',w.at d,a,t++ops,by simp only[runNT,c,l],q⟩
end
end Go.Tm

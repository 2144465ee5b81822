import Derived.Conc.Pipeline2
import Derived.Conc.DeferLaws
import Derived.Conc.QuitsD
import Derived.Test.YtaglpcmhopjebaaGreatDoorQ14
set_option linter.all false
set_option maxRecDepth 100000
set_option maxHeartbeats 20000000
namespace Go.Tm
open Go.Conc Go.ConcN Go.Conc.Lib
open Go.ConcR (KK WgAt stA smA rd wr mk DC0 Bk)
section
variable {P:Program} {ty:TypeId} {Wg ch:Nat} {z:Value} {An:aJ} {HV:Nat->Option Value} {Fin:List Value->aJ} {n base N0:Nat} {shun:Nat->Prop} {W₀:World} {t₀ t:Trace} {gs gs':Array Goroutine} {w w':World} {sl:Option (Nat×Nat)} {σ:GSt P ty Wg}
def GI.OK(G:fo Wg ch base N0 shun)(h:GI P ty Wg ch z An HV Fin n base N0 shun W₀ t₀ gs w t σ)(d):GI P ty Wg ch z An HV Fin n base N0 shun W₀ t₀ gs (w.at d) t σ:=by
 have W:=h.w_;have Q:=h.g_;have rk:∀K,RK ty Wg K w (w.at d):=λK=>⟨λ_ _=>rfl,id,R2 _⟩
 obtain⟨a,e,f⟩:=Q.mn;have:=h.comm (w':=w.at d) (gs':=gs) (ops:=#[]) (mt':=σ.mt) (r0':=σ.r0) (D':=σ.D) (R':=σ.R) G ⟨rfl,rfl,rfl⟩ rfl (λ_ _=>rfl) W.chn (λc b=>by simp at b) (λc b=>by simp at b) (λc b=>by simp at b) (λc b=>by simp at b)
  (λ_ _=>⟨rfl,rfl,rfl,id⟩) ⟨a,e,f.rely (rk _)⟩ (λi g=>.inl ⟨rfl,rfl,rfl⟩) (λ_ _ _=>rfl) rfl (λ_ _=>rfl) h.m_ rfl T1 Q.mb Q.mq h.v_
 rw[UW]at this;exact this
def DJ(G:fo Wg ch base N0 shun)(h:GI P ty Wg ch z An HV Fin n base N0 shun W₀ t₀ gs w t σ){k}(h0:0<k)(V:k<base){g}(hg:gs[k]? =some g)(p:g.status=.running):
 dN P ty Wg ch z An HV Fin n base N0 shun W₀ t₀ t gs w sl σ k:=by
 have hb:=G.lg;have W:=h.w_;have T:=h.t_;have Q:=h.g_;have hq:=Q.lv k g h0 V hg;have X:=(R7.1 hg).1;have ag:(k==0)=false:=by simp;omega
 cases M:σ.q k with
 |zero=>rw[M]at hq;rw[hq.1]at p;cases p
 |succ m=>
  rw[M]at hq;obtain⟨hf,_⟩|⟨_,g',es,Y,Z,aa⟩:=hq
  ·rw[hf]at p;cases p
  have N:=runT_crowd_go (P:=P) (sl:=sl) (i:=k) hg (by rw[ag];exact Z w);have f:∀I∈MemOp.ofEvents k g.frame.fn g.frame.place es,I.g=k:=λI l=>by obtain⟨e,_,rfl⟩:=Go.Conc.mem_ofEvents l;rfl
  have O:∀I∈MemOp.ofEvents k g.frame.fn g.frame.place es,I.act.touch?=none:=λI l=>by obtain⟨e,he,rfl⟩:=Go.Conc.mem_ofEvents l;exact touch_mute (Y e he)
  have a1:sumTo base (upd σ.q k m)+(m+1)=sumTo base σ.q+m:=by have:=sumTo_upd σ.q m id V;simpa[M]using this
  obtain⟨b,A,v,ak⟩:∃b A,(b=σ.ct\/(σ.ct=some .blk/\b=some .w3))/\
   ∀c,b=some c->∃gc,((gs.map (woken P g g' w)).setIfInBounds k g')[base+n]? =some gc/\CSit P ty Wg ch An (VW σ.j σ.D) c σ.dc σ.Kc σ.Mc A gc w:=by
   cases o:σ.ct with
   |none=>exact⟨none,σ.rc,.inl rfl,λc e=>by cases e⟩
   |some c=>
    obtain⟨gc,an,ao⟩:=Q.cl c o;obtain⟨c',ar,y,K,_⟩:=ao.woken g g' w aa.status;refine⟨some c',ar,?_,λc2 e=>?_⟩
    ·obtain rfl|⟨rfl,rfl⟩:=K
     ·exact .inl rfl
     ·exact .inr ⟨rfl,rfl⟩
    ·cases e
     refine⟨_,?_,y⟩;rw[bK _ _ _ _ _ (by omega),an];rfl
  have d:b=none↔σ.ct=none:=by
   obtain rfl|⟨a,rfl⟩:=v
   ·rfl
   ·simp[a]
  have B:b=some .quit↔σ.ct=some .quit:=by
   obtain rfl|⟨a,rfl⟩:=v
   ·rfl
   ·simp[a]
  have ab:b=some .cl↔σ.ct=some .cl:=by
   obtain rfl|⟨a,rfl⟩:=v
   ·rfl
   ·simp[a]
  have ax:eH b=eH σ.ct:=by
   obtain rfl|⟨a,rfl⟩:=v
   ·rfl
   ·rw[a];rfl
  have C:∀E r,E<n->RelBy (stA Wg) t (base+E) r->RelBy (stA Wg) (t++MemOp.ofEvents k g.frame.fn g.frame.place es) (base+E) r:=λE r _ hr=>dM hr f (by omega);have F:∀k',k'≠k->Deaf (t++MemOp.ofEvents k g.frame.fn g.frame.place es) k'=Deaf t k':=λk' R=>Deaf_other t (Sn R) _ f;have H:σ.ct≠some .quit->∃s r tm,w.heap[ch]? =some (.chan 0 #[] false s r tm):=by intro o;obtain⟨s,J⟩:=W.chn;rw[fp o]at J;exact⟨s,s,false,J⟩
  let S:GSt P ty Wg:={σ with ct:=b,rc:=A,q:=upd σ.q k m}
  refine⟨_,w,_,S,N,⟨?_,?_,?_,h.m_.retag v,h.v_⟩,?_⟩
  ·refine⟨W.os,W.tape,W.output,W.fO,W.old,?_,W.wg,W.sp,W.kw,W.mw,W.k0,W.m0,λo=>W.kc λe=>o (d.2 e),λo=>W.mc λe=>o (d.2 e),W.owns,W.Dl,W.Dm.trans (not_congr d.symm),W.AS,W.AT⟩
   obtain⟨s,J⟩:=W.chn;exact⟨s,by rw[J];show _=some (Obj.chan 0 #[] (eH b) s s false);rw[ax]⟩
  ·refine⟨?_,T.tr.still O λI l e=>absurd ((f I l).symm.trans e) (by omega),kZ T.seen (R2 _) λI l=>?_,iX T.gb (λI l=>by
    rw[f I l];have y:=(R7.1 hg).1;have K:=Q.size;have h3:=Q.jn;split at K<;>omega),T.norel.app (norel_of λe he=>?_),(F 0 (by omega)).trans T.d0,λE x=>(F _ (by omega)).trans (T.dw E x),λo=>(F _ (by omega)).trans (T.dc λe=>o (d.2 e)),
    λk' y K h3=>(F k' (by omega)).trans (T.above k' y K λe=>h3 λe'=>e (d.1 e')),λE x J=>?_,λo=>kB (T.acq (ab.1 o)) C,λo=>kC (T.cls (B.1 o)) C (iK f (by omega))⟩
   ·obtain⟨u,rfl⟩:=T.pre
    exact⟨_,Tq ..⟩
   ·obtain⟨e,he,rfl⟩:=Go.Conc.mem_ofEvents l
    exact low_mute (Y e he) _
   ·intro e2
    have:=Y e he;obtain⟨a6,a7,sy⟩:=e;simp only at e2;subst e2;simp[Event.mute]at this
   ·obtain⟨r,hr⟩:=T.rel E x J
    exact⟨r,dM hr f (by omega)⟩
  ·refine⟨?_,Q.jn,λo=>Q.cn λe=>o (d.2 e),?_,d.trans Q.mc,λE x=>?_,Q.unb,ak,λk' gk y K hk=>?_,λY=>?_,λr J e=>B.2 (Q.mq r J e)⟩
   ·have:(if b.isSome then 1 else 0)=(if σ.ct.isSome then 1 else 0):=by
     obtain rfl|⟨a,rfl⟩:=v
     ·rfl
     ·rw[a];rfl
    simp only[SF,TL];rw[this];exact Q.size
   ·obtain⟨a,ha,U⟩:=Q.mn
    refine⟨woken P g g' w a,by rw[bK _ _ _ _ _ (by omega),ha];rfl,?_⟩;have e:woken P g g' w a=a:=by
     obtain⟨y,_⟩|⟨r,J,g2,y,_⟩:=U.status
     ·exact woken_run y
     ·exact U.woken g g' w (H (Q.mb ⟨r,J,y⟩).1)
    rw[e];exact U
   ·obtain⟨gw,ay,ad⟩:=Q.wk E x
    refine⟨woken P g g' w gw,by rw[bK _ _ _ _ _ (by omega),ay];rfl,?_⟩;have e':=ad.woken g g' w λaf=>H λo=>by rw[h.m_.wu (by rw[o];trivial) E x]at af;cases af
    rw[e'];exact ad
   ·by_cases e:k'=k
    ·subst e
     rw[eW _ _ _ _ X]at hk;cases hk;simp only[S,upd_same];rw[Deaf_own];exact aa
    ·rw[bK _ _ _ _ _ e]at hk
     obtain⟨aM,R,rfl⟩:=SH.1 hk;have L:=Q.lv k' aM y K R;simp only[S,upd_ne σ.q m e];rw[woken_quitsD L,F k' e];exact L
   ·obtain⟨y,K⟩:=Q.mb Y
    exact⟨λe'=>y (B.1 e'),K⟩
  ·unfold mu
   refine Prod.Lex.right _ (Prod.Lex.right _ (Prod.Lex.left _ _ ?_));show sumTo base (upd σ.q k m)<sumTo base σ.q;omega
theorem nn{D}:∀{j},1<=VW j D->∃i,i<j/\4<=(D i).s
 |0,h=>by simp[VW,sumTo]at h
 |j+1,h=>by
  by_cases a:4<=(D j).s
  ·exact⟨j,by omega,a⟩
  ·have:1<=VW j D:=by simp only[VW,sumTo,jC,RY a]at h⊢;simpa using h
   obtain⟨i,c,b⟩:=nn this;exact⟨i,by omega,b⟩
def yk(h:GI P ty Wg ch z An HV Fin n base N0 shun W₀ t₀ gs w t σ):∃(i:Nat) (g:Goroutine),gs[i]? =some g/\g.status=.running:=by
 have Q:=h.g_;obtain⟨a,v,x⟩:=Q.mn;obtain⟨d,_⟩|⟨r,y,G,d,_⟩:=x.status
 ·exact⟨0,a,v,d⟩
 ·obtain⟨m,A⟩:=Q.mb ⟨r,y,d⟩
  cases f:σ.ct with
  |none=>rcases Q.mc.1 f with⟨_,_,e⟩|e<;>rw[d]at e<;>cases e
  |some c=>
   obtain⟨g,B,b⟩:=Q.cl c f;obtain⟨o,C⟩|⟨rfl,_,_⟩:=b.status
   ·exact⟨_,g,B,b.busy o λe=>m (by rw[f,e])⟩
   ·have busy:∀i,i<σ.j->(σ.D i).s≠0->∃(i:Nat) (g:Goroutine),gs[i]? =some g/\g.status=.running:=λi k E=>by obtain⟨gw,p,F⟩:=Q.wk i k;exact⟨_,gw,p,F.busy (A i k) E⟩
    have l:=h.m_;rw[f]at l;generalize σ.st=st at l;generalize σ.sm=sm at l;cases l with
    |opn a=>exact a.elim
    |reg _ _ u=>obtain⟨i,k,H⟩:=nn u;exact busy i k (by omega)
    |last L _ q u _=>exact busy L q (by omega)
    |sema _ q=>exact absurd rfl q
    |fin a=>exact a.elim
def Gb(h:GI P ty Wg ch z An HV Fin n base N0 shun W₀ t₀ gs w t σ):∀g∈gs,awake g:=by
 intro g j;obtain⟨k,e⟩:=UF.1 j;obtain rfl|⟨d,l⟩|⟨i,m,rfl⟩|⟨o,rfl⟩:=wN h (R7.1 e).1
 ·obtain⟨a,p,q⟩:=h.g_.mn
  rw[p]at e;cases e;obtain⟨d,_⟩|⟨_,_,r,_,rfl⟩:=q.status
  ·exact awake_of (.inl d)
  ·exact awake_of (.inr (.inl rfl))
 ·exact awake_of ((h.g_.lv k g d l e).status.elim .inl λx=>.inr (.inr x))
 ·obtain⟨g',b,s⟩:=h.g_.wk i m
  rw[e]at b;cases b;obtain⟨_,d⟩|⟨_,r,v,rfl⟩:=s.status
  ·exact awake_of (d.elim .inl λx=>.inr (.inr x))
  ·exact awake_of (.inr (.inl rfl))
 ·obtain⟨c,f⟩:=UH.1 o
  obtain⟨g',b,u⟩:=h.g_.cl c f;rw[e]at b;cases b;obtain⟨_,d⟩|⟨_,d,_⟩:=u.status
  ·exact awake_of (d.elim .inl λx=>.inr (.inr x))
  ·exact awake_of (.inr (.inl d))
def LI(G:fo Wg ch base N0 shun)(p:n<2147483647)(q:∀K M g w,An K M g w->Run P false ty Wg (SW1 P ty Wg ch An) K M g w)(h:GI P ty Wg ch z An HV Fin n base N0 shun W₀ t₀ gs w t σ){k g}(e:gs[k]? =some g)(b:g.status=.running):
 dN P ty Wg ch z An HV Fin n base N0 shun W₀ t₀ t gs w sl σ k\/(k=0/\LH P ty Wg ch z An HV Fin n base N0 shun W₀ t₀ t gs w sl σ):=by
 obtain rfl|⟨l,B⟩|⟨i,y,rfl⟩|⟨C,rfl⟩:=wN h (R7.1 e).1
 ·rcases AW (sl:=sl) G p h e b with l|⟨r,c,f,j,m,d,o,a⟩|⟨c,j,m,d,o,a⟩|⟨r,A,c,H,f,s,m,d,a⟩
  ·exact .inl l
  ·exact .inl (F7 (c:=c) G h e f j m d a)
  ·exact .inl (Dv G h e j m d o a)
  ·exact(AZ G h e f s m d a).imp id λx=>⟨rfl,x⟩
 ·exact .inl (DJ G h l B e b)
 ·rcases Ds (sl:=sl) G p h y e b with l|⟨v,c,D,A,E,F,a⟩
  ·exact .inl l
  ·exact .inl (DI G h y e D A E F a)
 ·obtain⟨c,u⟩:=UH.1 C
  exact .inl (Dz G p q h u e b)
structure OL(P:Program)(Wg ch:Nat)(z:Value)(HV:Nat->Option Value)(Fin:List Value->aJ)(n base N0:Nat)(shun:Nat->Prop)(Shun:Loc->Prop)(W₀:World)(gs':Array Goroutine)(w':World)(t':Trace):Prop where
 main:∃g2 K M hs,gs'[0]? =some (Conc.served g2 (.tuple #[z,.bool false]))/\Fin hs K M (Conc.served g2 (.tuple #[z,.bool false])) w'/\(∀b,K b->b<w'.heap.size/\¬spB Wg ch b/\¬shun b)/\(∀b,M b->b<w'.heap.size/\¬spB Wg ch b/\N0<=b)/\∃l:List Nat,l.Nodup/\(∀i,i∈l↔i<n/\HV i≠none)/\hs=l.filterMap HV
 size:gs'.size=base+n+1
 lv:∃q,Leavers P t' gs' q
 past:Past (λl=>Shun l\/∃b,blk l=some b/\spB Wg ch b) w'.heap.size t'
 few:∀op∈t',op.g<base+n+1
 sp:Wg<w'.heap.size/\ch<w'.heap.size
 os:w'.os=W₀.os
 tape:w'.tape=W₀.tape
 output:w'.output=W₀.output
 fO:N0<=w'.heap.size
 old:∀b,b<N0->w'.heap[b]? =W₀.heap[b]?
def NY{mt j d K M ρ a}(h:fj P ty Wg ch z An HV Fin n mt j d K M ρ a w)(e:(∃r b,mt=.rc r b)\/(∃r b,mt=.rw r b)):d=0:=by cases h<;>first|rfl|(rcases e with⟨_,_,e⟩|⟨_,_,e⟩<;>cases e)
def Je{a D ρ g}(h:WSit P ty Wg ch z a D ρ g w)(e:D.s=0):∃q,QuitsD P q D.d g:=by
 cases h with
 |quit b=>exact⟨_,b⟩
 |_=>cases e
def Jf{v ct d K M ρ g}(h:CSit P ty Wg ch An v ct d K M ρ g w)(e:ct=.quit):∃q,QuitsD P q d g:=by
 cases h with
 |quit a=>exact⟨_,a⟩
 |_=>cases e
def DK(G:fo Wg ch base N0 shun)(h:GI P ty Wg ch z An HV Fin n base N0 shun W₀ t₀ gs w t σ){Shun B₀}(hP:Past Shun B₀ t₀)(hx:LH P ty Wg ch z An HV Fin n base N0 shun W₀ t₀ t gs w sl σ):
 ∃gs' ops,runT P (crowd gs w sl) 0=(.next (crowd gs' w sl),ops)/\OL P Wg ch z HV Fin n base N0 shun Shun W₀ gs' w (t++ops):=by
 have hb:=G.lg;have W:=h.w_;have T:=h.t_;have Q:=h.g_;obtain⟨r,hs,g2,fn,pos,Y,B,Z,aa⟩:=hx;have J:σ.ct≠none:=by rw[B];simp
 have hj:=Q.cn J;have ar:gs.size=base+n+1:=by have:=Q.size;rw[B,hj]at this;simpa using this
 have hQ:=h.m_.wu (by rw[B];trivial);have ax:σ.d0=0:=by obtain⟨a,_,hm⟩:=Q.mn;exact NY hm (Y.imp (λe=>⟨_,_,e⟩) λe=>⟨_,_,e⟩)
 refine⟨_,_,aa,?_⟩;generalize hu:(#[{g:=0,fn:=fn,pos:=pos,act:=.recvClosed ch}]:Trace)=u;have L:∀m∈u,m.g=0:=λm d=>by subst hu;simp at d;subst d;rfl
 have ay:∀m∈u,m.act.touch?=none:=λm d=>by subst hu;simp at d;subst d;rfl
 have M:(t++u)[t.size]? =some {g:=0,fn:=fn,pos:=pos,act:=.recvClosed ch}:=by subst hu;simp
 have N:∀k,Deaf (t++u) k=Deaf t k:=λk=>mW (λm d=>by subst hu;simp at d;subst d;simp) k;have ab:=T.d0.trans ax;obtain⟨q,p,q1,q2,q3,q4,q5,p1,p2,p3,p4⟩:=T.cls B;have F:=lt_of_act? q1;have H:=lt_of_act? p1;have aM:(t++u).heard t.size:=⟨0,by simp[Trace.g?,M],by rw[deaf_old (R2 _)];exact ab⟩
 have O:HappensBefore (t++u) p t.size:=.single (.inr ⟨.closed (c:=ch) (by rw[act?_old H];exact p1) (by simp[Trace.act?,M]),(heard_old H).2 p3,aM⟩);have hK:∀i,HappensBefore (t++u) i t.size->Knows (t++u) 0 i:=λi E=>⟨t.size,_,M,rfl,.inr E⟩
 have A:∀i g,(t++u).g? i=some g->g≠0->i<t.size/\t.g? i=some g:=λi g E s=>by
  obtain⟨m,d,R⟩:=SH.1 E;obtain⟨S,ad⟩|⟨_,a1⟩:=getElem?_append_cases d
  ·exact⟨S,by simp[Trace.g?,ad,R]⟩
  ·rw[L m a1]at R;exact absurd R.symm s
 have po:∀i j g,i<j->(t++u).g? i=some g->(t++u).g? j=some g->HappensBefore (t++u) i j:=λi j g a6 E hj=>by obtain⟨x,hx,a7⟩:=SH.1 E;obtain⟨y,hy,a8⟩:=SH.1 hj;exact hb_po a6 hx hy (a7.trans a8.symm)
 have back:∀g,σ.low g≠0->QN (t++u) g:=by
  intro g s i U af;have ba:g≠0:=λe=>s (by rw[e];exact T.tr.z_);obtain⟨S,ag⟩:=A i g U ba;have K:=(counts_old S).1 af;obtain⟨i',bm,rfl⟩|rfl:=W.AS g s
  ·have ak:i'<n:=by omega
   obtain⟨r,hr,bb⟩:=q4 i' ak;have V:=lt_of_act? hr.act;have bk:=Nat.le_of_not_lt λC=>hr.after i C ag K;have e1:HappensBefore (t++u) r q:=.single (.inr ⟨.marked bb (.inr (by rw[act?_old V];exact hr.act)) (by rw[act?_old F];exact q1) (λk _ I=>by rw[act?_old (Nat.lt_trans I F)];exact T.norel k),(heard_old V).2 hr.heard,(heard_old F).2 q3⟩)
   have e2:=po q p _ q5 (by rw[g?_old F];exact q2) (by rw[g?_old H];exact p2);have e3:HappensBefore (t++u) r t.size:=(e1.trans e2).trans O;obtain h1|h1:=R5 i r
   ·exact hK i ((po i r _ h1 U (by rw[g?_old V];exact hr.g)).trans e3)
   ·obtain rfl:i=r:=by omega
    exact hK i e3
  ·have bk:=Nat.le_of_not_lt λC=>p4 i C ag K
   obtain h1|h1:=R5 i p
   ·exact hK i ((po i p _ h1 U (by rw[g?_old H];exact p2)).trans O)
   ·obtain rfl:i=p:=by omega
    exact hK i O
 have D:∀m∈t++u,m.act.low w.heap.size:=kZ T.seen (R2 _) λm d=>by subst hu;simp at d;subst d;exact W.sp.2
 obtain⟨v,hv⟩:=T.pre;have ht:=T.tr.still ay λm d e=>absurd ((L m d).symm.trans e) (by omega);have X:Past (λl=>Shun l\/∃b,blk l=some b/\spB Wg ch b) w.heap.size (t++u):=by
  have e:t++u=t₀++(v++u):=by rw[hv,Tq]
  rw[e]at ht back D⊢;exact ht.past hP back (by rw[<-e,N];exact ab) D
 refine⟨⟨g2,σ.K0,σ.M0,hs,?_,Z,λb o=>⟨(W.k0 b o).1,(W.k0 b o).2.1,(W.k0 b o).2.2.1⟩,λb o=>⟨(W.m0 b o).1,(W.m0 b o).2.1,(W.m0 b o).2.2.1⟩,?_⟩,by simpa using ar,?_,X,iX T.gb λm d=>by rw[L m d];omega,W.sp,W.os,W.tape,W.output,W.fO,W.old⟩
 ·rw[S6,RZ rfl,RZ (by omega)]
 ·obtain⟨l,h1,h2,h3⟩:=h.v_
  refine⟨l,h1,λi=>?_,?_⟩
  ·rw[h2 i,hj]
   constructor
   ·rintro⟨a,_,c⟩;exact⟨a,c⟩
   ·rintro⟨a,c⟩;exact⟨a,by rw[hQ i (by omega)];omega,c⟩
  ·rw[<-h3]
   rcases Y with e|e<;>rw[e]<;>rfl
 ·have an:∀k g,0<k->gs[k]? =some g->∃q,QuitsD P q (Deaf t k) g:=by
   intro k g I s;obtain h1|⟨h1,h2⟩|⟨i,E,rfl⟩|⟨hc,rfl⟩:=wN h (R7.1 s).1
   ·omega
   ·exact⟨_,Q.lv k g h1 h2 s⟩
   ·obtain⟨g',f,hw⟩:=Q.wk i E
    rw[s]at f;cases f;have h0:=hQ i E;rw[T.dw i E];exact Je hw h0
   ·obtain⟨g',f,hw⟩:=Q.cl _ B
    rw[s]at f;cases f;rw[T.dc J];exact Jf hw rfl
  classical
  refine⟨λk=>if I:∃q,∀g,0<k->gs[k]? =some g->QuitsD P q (Deaf t k) g then I.choose else 0,λk g I s=>?_,λk I=>?_⟩
  ·rw[Si (by omega)]at s
   have ao:∃q,∀g,0<k->gs[k]? =some g->QuitsD P q (Deaf t k) g:=by obtain⟨q,hq⟩:=an k g I s;exact⟨q,λg' _ f=>by rw[s]at f;cases f;exact hq⟩
   simp only[TY ao];rw[N];exact ao.choose_spec g I s
  ·simp at I
   rw[N];exact T.above k (by omega) (λi E=>by omega) λ_=>by omega
def phase(G:fo Wg ch base N0 shun)(r:n<2147483647)(j:∀K M g w,An K M g w->Run P false ty Wg (SW1 P ty Wg ch An) K M g w){Shun B₀}(s:Past Shun B₀ t₀):
 ∀(m) (gs) (w) (sl) (t) (σ),mu (n:=n) (base:=base) σ=m->GI P ty Wg ch z An HV Fin n base N0 shun W₀ t₀ gs w t σ->∃N gs' w' a t',runNT P N (crowd gs w sl) t=(.next (crowd gs' w' a),t')/\OL P Wg ch z HV Fin n base N0 shun Shun W₀ gs' w' t':=by
 intro m;induction m using(NS P ty Wg).induction with
 |_ m u=>
  rintro gs w sl t σ rfl h;obtain⟨i,g,d,a,v,b,c⟩:=crowd_pick (P:=P) (w:=w) (sl:=sl) (Gb h) (yk h);rcases LI (sl:=a) G r j (h.OK G d) v b with⟨gs',w',ops,k,l,x,y⟩|⟨rfl,A⟩
  ·obtain⟨N,e,o,f,p,B,q⟩:=u _ y gs' w' a (t++ops) k rfl x
   exact⟨N+1,e,o,f,p,by simp only[runNT,c,l];exact B,q⟩
  ·obtain⟨gs',ops,l,q⟩:=DK G (h.OK G d) s A
   exact⟨1,gs',w.at d,a,t++ops,by simp only[runNT,c,l],q⟩
end
end Go.Tm
namespace Go.Tm
open Go.Conc Go.ConcN
section
variable {P:Program} {Shun:Loc->Prop} {B B':Nat} {gs:Array Goroutine} {a a':Goroutine} {w w':World} {sl:Option (Nat×Nat)} {t:Trace} {q:Nat->Nat}
def eu(E:gs[0]? =some a)(c:a.status=.running)(z:Leavers P t gs q)(M:Past Shun B t)(N:∀h∈t,h.g<gs.size):
 ∃d f,stepT P (crowd gs w sl)=runT P (crowd gs (w.at d) f) 0\/
  ∃gs' ops J,stepT P (crowd gs w sl)=(.next (crowd gs' (w.at d) f),ops)/\gs'[0]? =some a/\gs'.size=gs.size/\Leavers P (t++ops) gs' J/\Past Shun B (t++ops)/\sumTo gs.size J<sumTo gs.size q/\(∀h∈t++ops,h.g<gs'.size)/\∀h∈ops,h.act.touch?=none/\∀B,h.act.low B:=by
 have F:∀g∈gs,awake g:=by
  intro g p;obtain⟨i,r,rfl⟩:=Array.mem_iff_getElem.1 p;obtain rfl|hpos:=Te i
  ·have:gs[0]=a:=by simpa[Sv r]using E
   rw[this];exact awake_of (.inl c)
  ·exact awake_of ((z.old i _ hpos (Sv r)).status.elim .inl λx=>.inr (.inr x))
 obtain⟨i,g,d,f,r,p,s⟩:=crowd_pick (P:=P) (w:=w) (sl:=sl) F ⟨0,a,E,c⟩;refine⟨d,f,?_⟩;obtain rfl|hpos:=Te i
 ·exact .inl s
 ·right
  have A:=z.old i g hpos r;have G:(i==0)=false:=by simp;omega
  have m:=(R7.1 r).1;cases n:q i with
  |zero=>rw[n]at A;rw[A.1]at p;cases p
  |succ k=>
   rw[n]at A;obtain⟨O,_⟩|⟨_,g',es,H,u,I⟩:=A
   ·rw[O]at p;cases p
   have o:=runT_crowd_go (P:=P) (sl:=f) (i:=i) r (by rw[G];exact u (w.at d));have K:sumTo gs.size (upd q i k)+(k+1)=sumTo gs.size q+k:=by have:=sumTo_upd q k id m;simpa[n]using this
   refine⟨_,_,upd q i k,s.trans o,?_,by simp,⟨λj x C D=>?_,λj C=>?_⟩,M.mute (by omega) H,by omega,iX (by simpa using N) (λh b=>by obtain⟨e,_,rfl⟩:=Go.Conc.mem_ofEvents b;simpa using m),λh b=>by obtain⟨e,L,rfl⟩:=Go.Conc.mem_ofEvents b;exact⟨touch_mute (H e L),low_mute (H e L)⟩⟩
   ·rw[Si (by omega),SG,E]
    simp[woken_run c]
   ·by_cases l:i=j
    ·subst l
     rw[Vt (by simpa using m)]at D;obtain rfl:=SD D;rw[upd_same,Deaf_own];exact I
    ·rw[Si l,SG]at D
     obtain⟨y,Q,rfl⟩:=SH.1 D;have v:=z.old j y C Q;rw[woken_quitsD v,upd_ne q k (Sn l),Deaf_other t l _ (λh b=>by obtain⟨e,_,rfl⟩:=Go.Conc.mem_ofEvents b;rfl)];exact v
   ·rw[Deaf_other t (g':=i) (by simp at C;omega) _ (λh b=>by obtain⟨e,_,rfl⟩:=Go.Conc.mem_ofEvents b;rfl)]
    exact z.above j (by simpa using C)
def sX(m:gs[0]? =some a)(n:Leavers P t gs q)(r:Past Shun B t)(s:∀c∈t,c.g<gs.size)(u:B<=B'){es}(k:stepG P true a w=.go a' w' es)(l:∀e∈es,EvL Shun B' e):
 ∃gs' ops,runT P (crowd gs w sl) 0=(.next (crowd gs' w' sl),ops)/\gs'[0]? =some a'/\gs'.size=gs.size/\Leavers P (t++ops) gs' q/\Past Shun B' (t++ops)/\(∀c∈t++ops,c.g<gs'.size)/\∀c∈ops,∃e∈es,c.act=.ofEvent e:=by
 have f:=(R7.1 m).1;have d:=runT_crowd_go (P:=P) (sl:=sl) (i:=0) m (show stepG P (0==0) a w=_ from k);refine⟨_,_,d,by simp[f],by simp,⟨λj x h o=>?_,λj h=>?_⟩,(r.mono u).own l,iX (by simpa using s) (λc b=>by obtain⟨e,_,rfl⟩:=Go.Conc.mem_ofEvents b;simpa using f),λc b=>by obtain⟨e,v,rfl⟩:=Go.Conc.mem_ofEvents b;exact⟨e,v,rfl⟩⟩
 ·rw[Si (by omega),SG]at o
  obtain⟨y,z,rfl⟩:=SH.1 o;have p:=n.old j y h z;rw[woken_quitsD p,Deaf_other t (g:=j) (g':=0) (by omega) _ (λc b=>by obtain⟨e,_,rfl⟩:=Go.Conc.mem_ofEvents b;rfl)];exact p
 ·rw[Deaf_other t (g':=0) (by simp at h;omega) _ (λc b=>by obtain⟨e,_,rfl⟩:=Go.Conc.mem_ofEvents b;rfl)]
  exact n.above j (by simpa using h)
end
section
variable {S:Kn} {P:Program} {fs:Array Func}
def wP(Pr)(π:Ren P.globals.size)(W d):Chg Pr π W (W.at d) π:=⟨rfl,rfl,rfl,R2 _,λ_ _ _=>rfl,λ_ _ _ _ F h=>⟨F,h⟩,λ_ c _ F h=>⟨c,F,h,.refl _⟩,λ_ _ h=>.inl h,λ_ a b=>absurd b (Ti.2 a),λ_ _ h=>h⟩
def zo{Pr}{π:Ren P.globals.size}{ShB:Nat->Prop}{Shun:Loc->Prop}(d:∀l,Shun l->∃b,blk l=some b/\ShB b)(n:∀b,ShB b->¬∃r,π r b){B}(o:∀b,(∃r,π r b)->b<B){e}(h:kP Pr π e):EvL Shun B e:=by
 obtain⟨j,wr,u⟩:=e;unfold kP at h;cases j with
 |cell A=>obtain⟨rfl,g,s⟩:=h;refine⟨λx c k=>?_,by simp,by simp,o _ g⟩;simp[MemAct.ofEvent,MemAct.touch?]at c;subst c;obtain⟨b,i,hsb⟩:=d _ k;simp[blk]at i;subst i;exact absurd g (n _ hsb)
 |obj R=>obtain⟨p,g,s⟩:=h;simp only at p;subst p;refine⟨λx c k=>?_,by simp,by simp,by cases wr<;>exact o _ g⟩;cases wr<;>(simp[MemAct.ofEvent,MemAct.touch?]at c;subst c;obtain⟨b,i,hsb⟩:=d _ k;simp[blk]at i;subst i;exact absurd g (n _ hsb))
 |mark m=>
  cases m with
  |extern f=>exact⟨λx c=>by simp[MemAct.ofEvent,MemAct.touch?]at c,by simp,by simp,trivial⟩
  |noRoom=>exact⟨λx c=>by simp[MemAct.ofEvent,MemAct.touch?]at c,by simp,by simp,trivial⟩
  |_=>exact h.elim
 |_=>exact h.elim
def Nxs(S:Kn)(P:Program)(c c':Gh)(n:Nat):Prop:=c.w.drawn<=c'.w.drawn/\(∀k,c.w.drawn<=k->S.fJ (c'.w.tape k))/\(∀k<c.w.drawn,c'.w.tape k=c.w.tape k)/\∀τ,(∀k<c'.w.drawn,τ k=c'.w.tape k)->runN P n (lone c.fr (c.cs++[aH]) (aq c.w τ c.w.drawn))=.next (lone c'.fr (c'.cs++[aH]) (aq c'.w τ c'.w.drawn))
def Nxs.refl{S:Kn}{P}{c:Gh}(h:∀k,c.w.drawn<=k->S.fJ (c.w.tape k)):Nxs S P c c 0:=⟨R2 _,h,λ_ _=>rfl,λ_ _=>rfl⟩
def Nxs.trans{S P a b c m n}(h:Nxs S P a b m)(d:Nxs S P b c n):Nxs S P a c (m+n):=by
 refine⟨R3 h.1 d.1,λk e=>?_,λk e=>(d.2.2.1 k (R6 e h.1)).trans (h.2.2.1 k e),λτ f=>?_⟩
 ·obtain x|x:=R5 k b.w.drawn
  ·rw[d.2.2.1 k x];exact h.2.1 k e
  ·exact d.2.1 k x
 ·rw[runN_add,h.2.2.2 τ λk e=>(f k (R6 e d.1)).trans (d.2.2.1 k e)]
  exact d.2.2.2 τ f
def Nx.nxs{S P c c'}(h:Nx S P c c'):Nxs S P c c' 1:=⟨h.1,h.2.1,h.2.2.1,λτ b=>by unfold runN;rw[h.step b];rfl⟩
structure iw{G:Nat}(Pr:Nat->Prop)(π₀:Ren G)(W₀:World)(π:Ren G)(W:World):Prop where
 os:W.os=W₀.os
 output:W.output=W₀.output
 size:W₀.heap.size<=W.heap.size
 keep:∀b,b<W₀.heap.size->(¬∃r,π₀ r b)->W.heap[b]? =W₀.heap[b]?
 nA:∀b,Pr b->∀c e F,W₀.heap[b]? =some (Obj.cells c e F)->∃F',W.heap[b]? =some (Obj.cells c e F')
 fz:∀(b:Nat) c e F,W₀.heap[b]? =some (Obj.cells c e F)->∃c' F',W.heap[b]? =some (Obj.cells c' e F')/\Fle F F'
 old:∀r R,π r R->π₀ r R\/W₀.heap.size<=R
 le:Ren.le π₀ π
def iw.refl{G}(Pr)(π:Ren G)(W):iw Pr π W π W:=⟨rfl,rfl,R2 _,λ_ _ _=>rfl,λ_ _ _ _ F h=>⟨F,h⟩,λ_ c _ F h=>⟨c,F,h,.refl _⟩,λ_ _ h=>.inl h,Ren.le_refl _⟩
def iw.no{G Pr}{c π:Ren G}{d W}(h:iw Pr c d π W){b}(e:b<d.heap.size)(f:¬∃r,c r b):¬∃r,π r b:=λ⟨r,g⟩=>(h.old r b g).elim (λx=>f ⟨r,x⟩) λx=>absurd e (Ti.2 x)
def iw.chg{G:Nat}{Pr:Nat->Prop}{d π g:Ren G}{f W n:World}(h:iw Pr d f π W)(k:Chg Pr π W n g):iw Pr d f g n where
 os:=k.os.trans h.os
 output:=k.output.trans h.output
 size:=R3 h.size k.size
 keep b hb hn:=(k.keep b (R6 hb h.size) (h.no hb hn)).trans (h.keep b hb hn)
 nA b hb c e F hF:=by obtain⟨i,j⟩:=h.nA b hb c e F hF;exact k.nA b hb c e i j
 fz b c e F hF:=by obtain⟨c',i,j,o⟩:=h.fz b c e F hF;obtain⟨l,m,p,s⟩:=k.fz b c' e i j;exact⟨l,m,p,o.trans s⟩
 old r R hr:=(k.old r R hr).elim (h.old r R) λx=>.inr (R3 h.size x)
 le:=Ren.le_trans h.le k.le
def iw.still{G:Nat}{Pr:Nat->Prop}{d π g:Ren G}{f W i:World}(h:iw Pr d f π W)(m:i.os=W.os)(n:i.output=W.output)(o:W.heap.size<=i.heap.size)(k:∀b,b<W.heap.size->i.heap[b]? =W.heap[b]?)(p:∀r R,g r R->π r R\/W.heap.size<=R)(s:Ren.le π g):iw Pr d f g i where
 os:=m.trans h.os
 output:=n.trans h.output
 size:=R3 h.size o
 keep b hb hn:=(k b (R6 hb h.size)).trans (h.keep b hb hn)
 nA b hb c e F hF:=by obtain⟨l,j⟩:=h.nA b hb c e F hF;exact⟨l,(k b (R7.1 j).1).trans j⟩
 fz b c e F hF:=by obtain⟨c',l,j,u⟩:=h.fz b c e F hF;exact⟨c',l,(k b (R7.1 j).1).trans j,u⟩
 old r R hr:=(p r R hr).elim (h.old r R) λx=>.inr (R3 h.size x)
 le:=Ren.le_trans h.le s
def Gc(S:Kn)(P:Program)(fs:Array Func)(Pr:Nat->Prop)(Post:Value->World->Prop)(π:Ren P.globals.size)(c:Gh)(F:Frame)(CS:List Frame)(W:World):Prop:=
 (Cp S P fs Pr Post π c F CS W/\c.AtE)\/
  ∃f a A,S.stop f=true/\(a.size=1/\VsR π a A)/\c.fr=Frame.enter (ah P fs) f a .normal/\F=Frame.enter P f A .normal/\c.cs≠[]/\bh (bd S π) c.cs CS/\bj S Pr π c.w W/\c.Flat/\Gd S (ah P fs) Post c/\∀g,S.dq g=true->π g g
def DL{Pr}(B₀)(ht:Tab S P fs)(p:∀g,S.calm g){Post Shun}{ShB:Nat->Prop}(G:∀l,Shun l->∃b,blk l=some b/\ShB b){c}:
 Acc (λc' c=>Nx S (ah P fs) c c'/\¬c.AtE) c->∀(m) (π) (F) (CS) (W) (gs) (sl) (t) (q),sumTo gs.size q<=m->
  Cp S P fs Pr Post π c F CS W->gs[0]? =some ⟨F,CS++B₀,.running,none,none⟩->Leavers P t gs q->Past Shun W.heap.size t->(∀z∈t,z.g<gs.size)->(∀b,ShB b->b<W.heap.size/\¬∃r,π r b)->
  ∃N gs' s j v R i c' y n k,runNT P N (crowd gs W sl) t=(.next (crowd gs' s j),v)/\gs'.size=gs.size/\gs'[0]? =some ⟨y,n++B₀,.running,none,none⟩/\Leavers P v gs' R/\Past Shun s.heap.size v/\(∀b,ShB b->¬∃r,i r b)/\Chg Pr π W s i/\Gc S P fs Pr Post i c' y n s/\(∀z∈v,z.g<gs'.size)/\Nxs S (ah P fs) c c' k:=by
 intro ab;induction ab with
 |intro c _ ih=>
  intro m;induction m with
  |zero=>
   intro π F CS W gs sl t q hm h H I J K o;by_cases T:c.AtE
   ·exact⟨0,gs,W,sl,t,q,π,c,F,CS,0,rfl,rfl,H,I,J,λb C=>(o b C).2,.refl _ _ _,.inl ⟨h,T⟩,K,.refl h.qi.1⟩
   ·obtain⟨d,j,u|⟨gs',ops,R,_,_,_,_,_,af,_⟩⟩:=eu (w:=W) (sl:=sl) H rfl I J K
    ·exact Hl B₀ ht p G ih h T H I J K o u
    ·omega
  |succ m ag=>
   intro π F CS W gs sl t q hm h H I J K o;by_cases T:c.AtE
   ·exact⟨0,gs,W,sl,t,q,π,c,F,CS,0,rfl,rfl,H,I,J,λb C=>(o b C).2,.refl _ _ _,.inl ⟨h,T⟩,K,.refl h.qi.1⟩
   ·obtain⟨d,j,u|⟨gs',ops,R,u,L,D,M,O,af,Q,_⟩⟩:=eu (w:=W) (sl:=sl) H rfl I J K
    ·exact Hl B₀ ht p G ih h T H I J K o u
    ·obtain⟨N,V,W2,X,t2,q2,Y,c2,y,Z,k,r1,r2,r3,r4,r5,r6,r7,r8,r9,aa⟩:=ag π F CS (W.at d) gs' j (t++ops) R (by rw[D];omega) ⟨h.top,h.cs,h.w.heap rfl rfl,h.flat,h.qi,h.dq⟩ L M O Q o
     exact⟨N+1,V,W2,X,t2,q2,Y,c2,y,Z,k,by simp only[runNT,u];exact r1,r2.trans D,r3,r4,r5,r6,(wP _ _ _ d).trans r7,r8,r9,aa⟩
where
 Hl {Pr:Nat->Prop} (B₀:List Frame) {Post:Value->World->Prop} {Shun:Loc->Prop} {ShB:Nat->Prop} (ht:Tab S P fs) (p:∀g,S.calm g) (G:∀l,Shun l->∃b,blk l=some b/\ShB b) {c:Gh}
     (ih:∀c0,(Nx S (ah P fs) c c0/\¬c.AtE)->∀(m:Nat) (π:Ren P.globals.size) (F:Frame) (CS:List Frame) (W:World) (gs:Array Goroutine) (sl:Option (Nat×Nat)) (t:Trace) (q:Nat->Nat),sumTo gs.size q<=m->
      Cp S P fs Pr Post π c0 F CS W->gs[0]? =some ⟨F,CS++B₀,.running,none,none⟩->Leavers P t gs q->Past Shun W.heap.size t->(∀z∈t,z.g<gs.size)->(∀b,ShB b->b<W.heap.size/\¬∃r,π r b)->
      ∃N gs' s j v R i c' y n k,runNT P N (crowd gs W sl) t=(.next (crowd gs' s j),v)/\gs'.size=gs.size/\gs'[0]? =some ⟨y,n++B₀,.running,none,none⟩/\Leavers P v gs' R/\Past Shun s.heap.size v/\(∀b,ShB b->¬∃r,i r b)/\Chg Pr π W s i/\Gc S P fs Pr Post i c' y n s/\(∀z∈v,z.g<gs'.size)/\Nxs S (ah P fs) c0 c' k)
     {π:Ren P.globals.size} {F:Frame} {CS:List Frame} {W:World} {gs:Array Goroutine} {sl j:Option (Nat×Nat)} {t:Trace} {q:Nat->Nat} {d:Nat}
     (h:Cp S P fs Pr Post π c F CS W) (T:¬c.AtE) (H:gs[0]? =some ⟨F,CS++B₀,.running,none,none⟩) (I:Leavers P t gs q) (J:Past Shun W.heap.size t) (K:∀z∈t,z.g<gs.size) (o:∀b,ShB b->b<W.heap.size/\¬∃r,π r b)
     (u:stepT P (crowd gs W sl)=runT P (crowd gs (W.at d) j) 0):
     ∃N gs' s j v R i c' y n k,runNT P N (crowd gs W sl) t=(.next (crowd gs' s j),v)/\gs'.size=gs.size/\gs'[0]? =some ⟨y,n++B₀,.running,none,none⟩/\Leavers P v gs' R/\Past Shun s.heap.size v/\(∀b,ShB b->¬∃r,i r b)/\Chg Pr π W s i/\Gc S P fs Pr Post i c' y n s/\(∀z∈v,z.g<gs'.size)/\Nxs S (ah P fs) c c' k:=by
  obtain⟨c',y,n,s,ev,i,h1,h2,h3,h4,h5,h6,h7,h8,h9⟩:=follow ht h.dq h.top h.cs (h.w.heap (W₁:=W.at d) rfl rfl) h.flat h.qi T (p _) true;have h3:=h3 B₀;have E:∀b,ShB b->b<s.heap.size/\¬∃r,i r b:=λb C=>⟨R6 (o b C).1 h5.size,λ⟨r,hr⟩=>(h5.old r b hr).elim (λx=>(o b C).2 ⟨r,x⟩) λx=>absurd (o b C).1 (Ti.2 x)⟩
  obtain⟨gs',ops,U,L,D,M,O,Q,_⟩:=sX (sl:=j) (B':=s.heap.size) H I J K h5.size h3 λe ak=>zo G (λb C=>(E b C).2) (λb ⟨r,hr⟩=>(h4.lt hr).2) (h6 e ak);have ad:∀g,S.dq g=true->i g g:=λg hg=>h5.le _ _ (h.dq g hg);obtain h8|⟨an,f,a,A,hs,ha,e1,e2⟩:=h8
  ·obtain⟨N,V,W2,X,t2,q2,Y,c2,ao,Z,k,r1,r2,r3,r4,r5,r6,r7,r8,r9,aa⟩:=ih c' ⟨h1,T⟩ _ i y n s gs' j (t++ops) q (R2 _) ⟨h8,h7,h4,h9,h2,ad⟩ L M O Q E
   exact⟨N+1,V,W2,X,t2,q2,Y,c2,ao,Z,1+k,by simp only[runNT,u,U];exact r1,r2.trans D,r3,r4,r5,r6,((wP _ _ _ d).trans h5).trans r7,r8,r9,h1.nxs.trans aa⟩
  ·exact⟨1,gs',s,j,t++ops,q,i,c',y,n,1,by simp only[runNT,u,U],D,L,M,O,λb C=>(E b C).2,(wP _ _ _ d).trans h5,.inr ⟨f,a,A,hs,ha,e1,e2,an,h7,h4,h9,h2,ad⟩,Q,h1.nxs⟩
end
noncomputable def bot(P:Program):Frame:={(default:Frame)with fn:=P.funcs.size,defers:=[],mode:=.panicking [goexitEntry]}
section
variable {P:Program} {f:FuncId} {fn:Func} {c:Code} {args caps:Array Value} {w:World} {mn:Bool}
def zq(b:P.funcs[f]? =some fn)(a:(fn.name== "runtime.NumGoroutine")=false)(d:fn.body=some c):
 stepG P mn (born P {target:=.fn (.func f) caps,args:=args}) w=.go (G ((baseD f).at {tmps:=(args++caps)++Array.replicate (fn.ntmps-(args++caps).size) undef,defers:=[]} [.code c]) [bot P]) w #[]:=by
 have e:¬fn.name= "runtime.NumGoroutine" :=by simpa using a
 rw[<-enter_atD (args++caps) b d];simp[born,G,stepG,unwind,callDeferred,invoke,callFunc,b,e,d,GStep.after,seen_none,bot]
def LN(w:World):stepG P false (G (bot P) []) w=.go {G (bot P) []with status:=.finished} w #[]:=by simp[G,stepG,unwind,bot,goexitEntry,Frame.catches];rfl
def zt{b:Frame}{a:Act}{todo:List Item}(d:b.kind=.deferred)(e:a.defers=[])(g:P.funcs[b.fn]? =some fn)(h:fn.results=#[]):QuitsD P 2 0 (G {b.at a todo with mode:=.returning} [bot P]):=by
 refine QuitsD.ctl rfl (g':=G (bot P) []) (λw=>?_) ?_
 ·simp[G,stepG,unwind,doReturn,results,Frame.at,d,e,g,h,bot,seen_none,GStep.after,goexitEntry]
 ·refine .inr ⟨rfl,_,#[],by simp,λw=>LN w,rfl,rfl⟩
end
section
variable {P:Program} {ty:TypeId} {Wg:Nat} {S:aJ} {Shun:Loc->Prop} {ShB:Nat->Prop}
def LJ(c:∀l,Shun l->∃b,blk l=some b/\ShB b){K M:Nat->Prop}{B}(j:∀b,K b->b<B/\¬ShB b)(m:Wg<B){e}(h:EvK Wg K M e):EvL Shun B e:=by
 obtain⟨k,n,o,u,p⟩:=h;refine⟨λx d q=>?_,n,o,Hj (λx d b f=>?_) λr=>p B r⟩
 ·obtain⟨b,f,g⟩:=k x d
  obtain⟨v,i,_⟩|⟨_,s⟩:=g
  ·obtain⟨t,a,hsb⟩:=c _ q
   rw[f]at a;cases a;exact absurd hsb (j b i).2
  ·rw[s];simp
 ·obtain⟨t,a,g⟩:=k x d
  rw[f]at a;cases a;obtain⟨_,i,_⟩|⟨rfl,_⟩:=g
  ·exact(j b i).1
  ·exact m
structure Bes(P:Program)(Shun:Loc->Prop)(gs:Array Goroutine)(w:World)(t:Trace)(g:Goroutine):Prop where
 g0:gs[0]? =some g
 lv:∃q,Leavers P t gs q
 past:Past Shun w.heap.size t
 few:∀op∈t,op.g<gs.size
structure Tch(Wg:Nat)(K:Nat->Prop)(u:Trace):Prop where
 t:∀op∈u,∀x,op.act.touch?=some x->op.g=0/\((∃b,blk x.loc=some b/\K b/\x.kind=.plain)\/(blk x.loc=some Wg/\x.kind=.atomic))
 l:∀op∈u,op.act.touch?=none->∀B,op.act.low B
def Tch.app{K g u v}(h:Tch Wg K u)(j:Tch Wg g v)(m:∀b,K b->g b):Tch Wg g (u++v):=⟨λf e x k=>(Tf.1 e).elim (λi=>by obtain⟨n,o⟩:=h.t f i x k;exact⟨n,o.imp (λ⟨b,a,c,d⟩=>⟨b,a,m b c,d⟩) id⟩) λi=>j.t f i x k,λf e=>(Tf.1 e).elim (h.l f) (j.l f)⟩
structure kF(P:Program)(Wg:Nat)(Shun:Loc->Prop)(ShB:Nat->Prop)(S:aJ)(K M:Nat->Prop)(w:World)(n:Nat)(t:Trace)(gs':Array Goroutine)(w':World)(t':Trace):Prop where
 size:gs'.size=n
 os:w'.os=w.os
 tape:w'.tape=w.tape
 output:w'.output=w.output
 grown:w.heap.size<=w'.heap.size
 keep:∀b,b<w.heap.size->¬M b->w'.heap[b]? =w.heap[b]?
 at_:∃g' K' M' u,Bes P Shun gs' w' t' g'/\S K' M' g' w'/\t'=t++u/\Tch Wg K' u/\(∀b,K b->K' b)/\(∀b,K' b->K b\/w.heap.size<=b)/\(∀b,K' b->b<w'.heap.size/\¬ShB b)/\(∀b,M b->M' b)/\∀b,M' b->M b\/w.heap.size<=b
def kF.of{K M c d:Nat->Prop}{w a w':World}{n gs' t v t'}(h:kF P Wg Shun ShB S c d a n (t++v) gs' w' t')(m:Tch Wg c v)(e1:a.os=w.os)(o:a.tape=w.tape)(e3:a.output=w.output)(g:w.heap.size<=a.heap.size)
 (p:∀b,b<w.heap.size->¬M b->a.heap[b]? =w.heap[b]?) (q:∀b,K b->c b) (i:∀b,c b->K b\/w.heap.size<=b) (r:∀b,M b->d b) (f:∀b,d b->M b\/w.heap.size<=b):kF P Wg Shun ShB S K M w n t gs' w' t':=by
 obtain⟨g',s,z,u,a1,A,B,j,k,C,D,E,F⟩:=h.at_;refine⟨h.size,h.os.trans e1,h.tape.trans o,h.output.trans e3,R3 g h.grown,λb e l=>?_,g',s,z,v++u,a1,A,by rw[B,Tq],m.app j k,λb e=>k b (q b e),λb e=>?_,D,λb e=>E b (r b e),λb e=>?_⟩
 ·rw[h.keep b (R6 e g) (λx=>(f b x).elim l λy=>absurd e (Ti.2 y)),p b e l]
 ·obtain x|x:=C b e
  ·exact i b x
  ·exact .inr (R3 g x)
 ·obtain x|x:=F b e
  ·exact f b x
  ·exact .inr (R3 g x)
def wR{K}{u:Trace}(h:∀b∈u,b.act.touch?=none/\∀B,b.act.low B):Tch Wg K u:=⟨(λb a x c=>by rw[(h b a).1]at c;cases c),λb a _=>(h b a).2⟩
def mX(A:∀l,Shun l->∃b,blk l=some b/\ShB b){K M g w}(h:Run P true ty Wg S K M g w):
 ∀(c) (sl) (t),Bes P Shun c w t g->(∀b,K b->b<w.heap.size/\¬ShB b)->(∀b,ShB b->b<w.heap.size)->Wg<w.heap.size->∃N gs' w' a t',runNT P N (crowd c w sl) t=(.next (crowd gs' w' a),t')/\kF P Wg Shun ShB S K M w c.size t gs' w' t':=by
 induction h with
 | @stop K M g w h=>intro c sl t v H U V;exact⟨0,c,w,sl,t,rfl,rfl,rfl,rfl,rfl,R2 _,λ_ _ _=>rfl,g,K,M,#[],v,h w (.refl w),by simp,⟨(λp j=>by simp at j),λp j=>by simp at j⟩,λ_ x=>x,λ_ x=>.inl x,H,λ_ x=>x,λ_ x=>.inl x⟩
 | @step K M g w hs n ak ih=>
  intro c sl t ⟨s,⟨q,C⟩,D,E⟩ H U V;have key:∀(m:Nat) (d:Nat) (c:Array Goroutine) (sl:Option (Nat×Nat)) (t:Trace) (q:Nat->Nat),sumTo c.size q<=m->c[0]? =some g->Leavers P t c q->Past Shun w.heap.size t->(∀p∈t,p.g<c.size)->
   ∃N gs' w' a t',runNT P N (crowd c (w.at d) sl) t=(.next (crowd gs' w' a),t')/\kF P Wg Shun ShB S K M w c.size t gs' w' t':=by
   intro m;induction m with
   |zero=>
    intro d c sl t q hm s C D E;obtain⟨d',a,k|⟨gs',ops,q',_,_,_,_,_,W,_⟩⟩:=eu (w:=w.at d) (sl:=sl) s hs C D E
    ·exact go A n ih s C D E H U V k
    ·omega
   |succ m ab=>
    intro d c sl t q hm s C D E;obtain⟨d',a,k|⟨gs',ops,q',k,I,F,J,L,W,O,ad⟩⟩:=eu (w:=w.at d) (sl:=sl) s hs C D E
    ·exact go A n ih s C D E H U V k
    ·obtain⟨N,Q,w2,R,t2,hr,v⟩:=ab d' gs' a (t++ops) q' (by rw[F];omega) I J L O
     refine⟨N+1,Q,w2,R,t2,by simp only[runNT,k];exact hr,?_⟩;rw[F]at v;exact v.of (wR ad) rfl rfl rfl (R2 _) (λ_ _ _=>rfl) (λ_ x=>x) (λ_ x=>.inl x) (λ_ x=>x) λ_ x=>.inl x
  exact key _ w.drawn c sl t q (R2 _) s C D E
where
 go (A:∀l,Shun l->∃b,blk l=some b/\ShB b) {K M:Nat->Prop} {g:Goroutine} {w:World} (n:∀f,RK ty Wg K w f->QO P true Wg K M g f)
     (ih:∀f g' w' es,RK ty Wg K w f->stepG P true g f=.go g' w' es->∀(c:Array Goroutine) (sl:Option (Nat×Nat)) (t:Trace),Bes P Shun c w' t g'->(∀b,orK K f w' b->b<w'.heap.size/\¬ShB b)->(∀b,ShB b->b<w'.heap.size)->Wg<w'.heap.size->∃N gs' X a t',runNT P N (crowd c w' sl) t=(.next (crowd gs' X a),t')/\kF P Wg Shun ShB S (orK K f w') (orK M f w') w' c.size t gs' X t')
     {c:Array Goroutine} {sl a:Option (Nat×Nat)} {t:Trace} {q:Nat->Nat} {d d':Nat} (s:c[0]? =some g) (C:Leavers P t c q) (D:Past Shun w.heap.size t) (E:∀p∈t,p.g<c.size) (H:∀b,K b->b<w.heap.size/\¬ShB b) (U:∀b,ShB b->b<w.heap.size) (V:Wg<w.heap.size)
     (k:stepT P (crowd c (w.at d) sl)=runT P (crowd c ((w.at d).at d') a) 0):
     ∃N gs' w' a t',runNT P N (crowd c (w.at d) sl) t=(.next (crowd gs' w' a),t')/\kF P Wg Shun ShB S K M w c.size t gs' w' t':=by
  have hr:RK ty Wg K w ((w.at d).at d'):=⟨λ_ _=>rfl,id,R2 _⟩
  obtain⟨g',w',es,e1,Y,e3⟩:=n _ hr;have r:w.heap.size<=w'.heap.size:=Y.size;have Z:∀b,orK K ((w.at d).at d') w' b->b<w'.heap.size/\¬ShB b:=by
   rintro b (x|⟨x,y⟩)
   ·exact⟨R6 (H b x).1 r,(H b x).2⟩
   ·exact⟨y,λz=>absurd (U b z) (Ti.2 x)⟩
  have W:=(R7.1 s).1;have T:=runT_crowd_go (P:=P) (sl:=a) (i:=0) s (show stepG P (0==0) _ _=_ from e1);obtain⟨gs',ops,o,I,F,J,L,O,G⟩:=sX (sl:=a) (B':=w'.heap.size) s C D E r e1 λe he=>LJ A Z (R6 V r) (e3 e he);have hg:∀p∈ops,p.g=0:=by rw[T]at o;simp only[U4]at o;intro p j;rw[<-o.2]at j;obtain⟨e,_,rfl⟩:=Go.Conc.mem_ofEvents j;rfl
  have aa:Tch Wg (orK K ((w.at d).at d') w') ops:=by
   refine⟨λp j x hx=>?_,λp j hx B=>?_⟩
   ·obtain⟨e,he,u⟩:=G p j
    rw[u]at hx;obtain⟨b,v,hc⟩:=(e3 e he).1 x hx;refine⟨hg p j,hc.imp (λh=>⟨b,v,h.2.1,h.1⟩) λh=>⟨by rw[<-h.1];exact v,h.2⟩⟩
   ·obtain⟨e,he,u⟩:=G p j
    rw[u]at hx⊢;exact(e3 e he).2.2.2.2 B hx
  obtain⟨N,Q,w2,R,t2,af,v⟩:=ih _ g' w' es hr e1 gs' a (t++ops) ⟨I,⟨q,J⟩,L,O⟩ Z (λb z=>R6 (U b z) r) (R6 V r);refine⟨N+1,Q,w2,R,t2,by simp only[runNT,k,o];exact af,?_⟩;rw[F]at v;exact v.of aa Y.os Y.tape Y.output r (λb ag hm=>Y.keep b ag hm) (λb x=>.inl x) (λb x=>x.elim .inl λy=>.inr y.1) (λb x=>.inl x) (λb x=>x.elim .inl λy=>.inr y.1)
def wS{g:Goroutine}{w:World}{ob:Obj}{g':Nat->Goroutine}(J:g.status=.running)(i:∀a:World,stepG P true g a=.go (g' a.heap.size) {a with heap:=a.heap.push ob} #[]):
 ∀(m:Nat) (d:Nat) (c:Array Goroutine) (sl:Option (Nat×Nat)) (t:Trace) (q:Nat->Nat),sumTo c.size q<=m->c[0]? =some g->Leavers P t c q->Past Shun w.heap.size t->(∀h∈t,h.g<c.size)->∃N gs' d' b k u,runNT P N (crowd c (w.at d) sl) t=(.next (crowd gs' {w.at d' with heap:=w.heap.push ob} b),k)/\gs'.size=c.size/\k=t++u/\(∀h∈u,h.act.touch?=none/\∀B,h.act.low B)/\Bes P Shun gs' {w.at d' with heap:=w.heap.push ob} k (g' w.heap.size):=by
 intro m;induction m with
 |zero=>
  intro d c sl t q L l n o p;obtain⟨d',b,f|⟨gs',ops,K,_,_,_,_,_,C,_⟩⟩:=eu (w:=w.at d) (sl:=sl) l J n o p
  ·exact go i l n o p f
  ·omega
 |succ m D=>
  intro d c sl t q L l n o p;obtain⟨d',b,f|⟨gs',ops,K,f,r,j,s,v,C,x,E⟩⟩:=eu (w:=w.at d) (sl:=sl) l J n o p
  ·exact go i l n o p f
  ·obtain⟨N,F,d2,G,M,u,O,e1,Q,e3,e4⟩:=D d' gs' b (t++ops) K (by rw[j];omega) r s v x
   refine⟨N+1,F,d2,G,M,ops++u,by simp only[runNT,f];exact O,e1.trans j,by rw[Q,Tq],λh y=>(Tf.1 y).elim (E h) (e3 h),e4⟩
where
 go {g:Goroutine} {w:World} {ob:Obj} {g':Nat->Goroutine} (i:∀a:World,stepG P true g a=.go (g' a.heap.size) {a with heap:=a.heap.push ob} #[])
     {c:Array Goroutine} {sl b:Option (Nat×Nat)} {t:Trace} {q:Nat->Nat} {d d':Nat} (l:c[0]? =some g) (n:Leavers P t c q) (o:Past Shun w.heap.size t) (p:∀h∈t,h.g<c.size)
     (f:stepT P (crowd c (w.at d) sl)=runT P (crowd c ((w.at d).at d') b) 0):
     ∃N gs' d' b k u,runNT P N (crowd c (w.at d) sl) t=(.next (crowd gs' {w.at d' with heap:=w.heap.push ob} b),k)/\gs'.size=c.size/\k=t++u/\(∀h∈u,h.act.touch?=none/\∀B,h.act.low B)/\Bes P Shun gs' {w.at d' with heap:=w.heap.push ob} k (g' w.heap.size):=by
  have H:w.heap.size<=(w.heap.push ob).size:=by simp
  obtain⟨gs',ops,z,r,j,s,v,x,A⟩:=sX (w:=(w.at d).at d') (sl:=b) (B':=(w.heap.push ob).size) l n o p H (i _) (λe I=>by simp at I);refine⟨1,gs',d',b,t++ops,ops,by simp only[runNT,f,z];rfl,j,rfl,λh y=>?_,r,⟨q,s⟩,v,x⟩;obtain⟨e,I,_⟩:=A h y;simp at I
end
end Go.Tm

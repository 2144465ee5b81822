import Derived.Conc.DeferLaws
import Derived.Conc.QuitsD
import Derived.Conc.FxBegin
import Derived.Test.YtaglpcmhopjebaaGreatDoorProg
import Derived.IntWalk
import Derived.Conc.TokenAlone
import Derived.Test.YtaglpcmhopjebaaGreatDoorY5
set_option linter.all false
set_option maxRecDepth 100000
set_option maxHeartbeats 20000000
namespace Go.Tm
open Go.Conc Go.ConcN Go.Conc.Lib
open Go.ConcR (KK WgAt stA smA rd wr mk DC0 Bk)
section
variable {P:Program} {ty:TypeId} {Wg ch:Nat} {z:Zj} {An:aL} {HV:Nat->Option Zj} {Fin:List Zj->aL} {n base N0:Nat} {shun:Nat->Prop} {F0:x6} {t₀ t:Trace} {gs gs':Array Zx} {w w':x6} {sl:Option (Nat×Nat)} {σ:GSt P ty Wg}
structure Q3(P:Program)(Wg ch:Nat)(z:Zj)(HV:Nat->Option Zj)(Fin:List Zj->aL)(n base N0:Nat)(shun:Nat->Prop)(Shun:Loc->Prop)(F0:x6)(gs':Array Zx)(w':x6)(t':Trace):Prop where
 main:∃g2 K M hs,gs'[0]? =some (Conc.served g2 (.tuple #[z,.bool false]))/\Fin hs K M (Conc.served g2 (.tuple #[z,.bool false])) w'/\(∀b,K b->b<w'.heap.size/\¬spB Wg ch b/\¬shun b)/\(∀b,M b->b<w'.heap.size/\¬spB Wg ch b/\N0<=b)/\∃l:List Nat,l.Nodup/\(∀i,i∈l↔i<n/\HV i≠none)/\hs=l.filterMap HV
 size:gs'.size=base+n+1
 lv:∃q,Leavers P t' gs' q
 past:Past (λl=>Shun l\/∃b,blk l=some b/\spB Wg ch b) w'.heap.size t'
 few:∀op∈t',op.g<base+n+1
 sp:Wg<w'.heap.size/\ch<w'.heap.size
 os:w'.os=F0.os
 tape:w'.tape=F0.tape
 output:w'.output=F0.output
 gy:N0<=w'.heap.size
 old:∀b,b<N0->w'.heap[b]? =F0.heap[b]?
def Qn{mt j d K M ρ a}(h:fO P ty Wg ch z An HV Fin n mt j d K M ρ a w)(e:(∃r b,mt=.rc r b)\/(∃r b,mt=.rw r b)):d=0:=by cases h<;>first|rfl|(rcases e with⟨_,_,e⟩|⟨_,_,e⟩<;>cases e)
def KU{a D ρ g}(h:WSit P ty Wg ch z a D ρ g w)(e:D.s=0):∃q,QuitsD P q D.d g:=by cases h with|quit b=>exact⟨_,b⟩|_=>cases e
def KV{v ct d K M ρ g}(h:CSit P ty Wg ch An v ct d K M ρ g w)(e:ct=.quit):∃q,QuitsD P q d g:=by cases h with|quit a=>exact⟨_,a⟩|_=>cases e
def Fj(G:fP Wg ch base N0 shun)(h:GI P ty Wg ch z An HV Fin n base N0 shun F0 t₀ gs w t σ){Shun D0}(hP:Past Shun D0 t₀)(hx:NR P ty Wg ch z An HV Fin n base N0 shun F0 t₀ t gs w sl σ):∃gs' ops,runT P (crowd gs w sl) 0=(.next (crowd gs' w sl),ops)/\Q3 P Wg ch z HV Fin n base N0 shun Shun F0 gs' w (t++ops):=by
 have hb:=G.lZ;have W:=h.w_;have T:=h.t_;have Q:=h.g_;obtain⟨r,hs,g2,fn,pos,Y,B,Z,aa⟩:=hx;have J:σ.ct≠none:=by rw[B];simp
 have hj:=Q.cn J;have ar:gs.size=base+n+1:=by have:=Q.size;rw[B,hj]at this;simpa using this
 have hQ:=h.m_.yb (by rw[B];trivial);have ax:σ.d0=0:=by obtain⟨a,_,hm⟩:=Q.mn;exact Qn hm (Y.imp (λe=>⟨_,_,e⟩) λe=>⟨_,_,e⟩)
 refine⟨_,_,aa,?_⟩;generalize hu:(#[{g:=0,fn:=fn,pos:=pos,act:=.recvClosed ch}]:Trace)=u;have L:∀m∈u,m.g=0:=λm d=>by subst hu;simp at d;subst d;rfl
 have ay:∀m∈u,m.act.touch?=none:=λm d=>by subst hu;simp at d;subst d;rfl
 have M:(t++u)[t.size]? =some {g:=0,fn:=fn,pos:=pos,act:=.recvClosed ch}:=by subst hu;simp
 have N:∀k,Deaf (t++u) k=Deaf t k:=λk=>nR (λm d=>by subst hu;simp at d;subst d;simp) k;have ab:=T.d0.trans ax;obtain⟨q,p,q1,q2,q3,q4,q5,p1,p2,p3,p4⟩:=T.cls B;have F:=lt_of_act? q1;have H:=lt_of_act? p1;have aK:(t++u).heard t.size:=⟨0,by simp[Trace.g?,M],by rw[deaf_old (UI _)];exact ab⟩
 have O:HappensBefore (t++u) p t.size:=.single (.inr ⟨.closed (c:=ch) (by rw[act?_old H];exact p1) (by simp[Trace.act?,M]),(heard_old H).2 p3,aK⟩);have hK:∀i,HappensBefore (t++u) i t.size->Knows (t++u) 0 i:=λi E=>⟨t.size,_,M,rfl,.inr E⟩
 have A:∀i g,(t++u).g? i=some g->g≠0->i<t.size/\t.g? i=some g:=λi g E s=>by obtain⟨m,d,R⟩:=Vi.1 E;obtain⟨S,ad⟩|⟨_,aM⟩:=getElem?_append_cases d;exact⟨S,by simp[Trace.g?,ad,R]⟩;rw[L m aM]at R;exact absurd R.symm s
 have po:∀i j g,i<j->(t++u).g? i=some g->(t++u).g? j=some g->HappensBefore (t++u) i j:=λi j g aR E hj=>by obtain⟨x,hx,a1⟩:=Vi.1 E;obtain⟨y,hy,a6⟩:=Vi.1 hj;exact hb_po aR hx hy (a1.trans a6.symm)
 have back:∀g,σ.low g≠0->Ty (t++u) g:=by intro g s i U af;have a7:g≠0:=λe=>s (by rw[e];exact T.tr.z_);obtain⟨S,ag⟩:=A i g U a7;have K:=(counts_old S).1 af;obtain⟨i',bb,rfl⟩|rfl:=W.CU g s;(have ak:i'<n:=by omega);obtain⟨r,hr,a8⟩:=q4 i' ak;have V:=lt_of_act? hr.act;have ba:=Nat.le_of_not_lt λC=>hr.after i C ag K;have e1:HappensBefore (t++u) r q:=.single (.inr ⟨.marked a8 (.inr (by rw[act?_old V];exact hr.act)) (by rw[act?_old F];exact q1) (λk _ I=>by rw[act?_old (Nat.lt_trans I F)];exact T.norel k),(heard_old V).2 hr.heard,(heard_old F).2 q3⟩);have e2:=po q p _ q5 (by rw[g?_old F];exact q2) (by rw[g?_old H];exact p2);have e3:HappensBefore (t++u) r t.size:=(e1.trans e2).trans O;obtain h1|h1:=UK i r;exact hK i ((po i r _ h1 U (by rw[g?_old V];exact hr.g)).trans e3);(obtain rfl:i=r:=by omega);exact hK i e3;have ba:=Nat.le_of_not_lt λC=>p4 i C ag K;obtain h1|h1:=UK i p;exact hK i ((po i p _ h1 U (by rw[g?_old H];exact p2)).trans O);(obtain rfl:i=p:=by omega);exact hK i O
 have D:∀m∈t++u,m.act.low w.heap.size:=lY T.seen (UI _) λm d=>by subst hu;simp at d;subst d;exact W.sp.2
 obtain⟨v,hv⟩:=T.pre;have ht:=T.tr.still ay λm d e=>absurd ((L m d).symm.trans e) (by omega);have X:Past (λl=>Shun l\/∃b,blk l=some b/\spB Wg ch b) w.heap.size (t++u):=by (have e:t++u=t₀++(v++u):=by rw[hv,VU]);rw[e]at ht back D⊢;exact ht.past hP back (by rw[<-e,N];exact ab) D
 refine⟨⟨g2,σ.K0,σ.M0,hs,?_,Z,λb o=>⟨(W.k0 b o).1,(W.k0 b o).2.1,(W.k0 b o).2.2.1⟩,λb o=>⟨(W.m0 b o).1,(W.m0 b o).2.1,(W.m0 b o).2.2.1⟩,?_⟩,by simpa using ar,?_,X,jB T.gb λm d=>by rw[L m d];omega,W.sp,W.os,W.tape,W.output,W.gy,W.old⟩;rw[Vz,UH rfl,UH (by omega)];obtain⟨l,h1,h2,h3⟩:=h.v_;refine⟨l,h1,λi=>?_,?_⟩;rw[h2 i,hj];constructor;rintro⟨a,_,c⟩;exact⟨a,c⟩;rintro⟨a,c⟩;exact⟨a,by rw[hQ i (by omega)];omega,c⟩;rw[<-h3];rcases Y with e|e<;>rw[e]<;>rfl;have an:∀k g,0<k->gs[k]? =some g->∃q,QuitsD P q (Deaf t k) g:=by intro k g I s;obtain h1|⟨h1,h2⟩|⟨i,E,rfl⟩|⟨hc,rfl⟩:=yk h (UO.1 s).1;omega;exact⟨_,Q.lv k g h1 h2 s⟩;obtain⟨g',f,hw⟩:=Q.wk i E;rw[s]at f;cases f;have h0:=hQ i E;rw[T.dw i E];exact KU hw h0;obtain⟨g',f,hw⟩:=Q.cl _ B;rw[s]at f;cases f;rw[T.dc J];exact KV hw rfl
 classical
 refine⟨λk=>if I:∃q,∀g,0<k->gs[k]? =some g->QuitsD P q (Deaf t k) g then I.choose else 0,λk g I s=>?_,λk I=>?_⟩;rw[UU (by omega)]at s;have ao:∃q,∀g,0<k->gs[k]? =some g->QuitsD P q (Deaf t k) g:=by obtain⟨q,hq⟩:=an k g I s;exact⟨q,λg' _ f=>by rw[s]at f;cases f;exact hq⟩
 simp only[Wz ao];rw[N];exact ao.choose_spec g I s;simp at I;rw[N];exact T.above k (by omega) (λi E=>by omega) λ_=>by omega
def phase(G:fP Wg ch base N0 shun)(r:n<2147483647)(j:∀K M g w,An K M g w->Run P false ty Wg (SW1 P ty Wg ch An) K M g w){Shun D0}(s:Past Shun D0 t₀):∀(m) (gs) (w) (sl) (t) (σ),mu (n:=n) (base:=base) σ=m->GI P ty Wg ch z An HV Fin n base N0 shun F0 t₀ gs w t σ->∃N gs' w' a t',runNT P N (crowd gs w sl) t=(.next (crowd gs' w' a),t')/\Q3 P Wg ch z HV Fin n base N0 shun Shun F0 gs' w' t':=by intro m;induction m using(Qh P ty Wg).induction with|_ m u=>(rintro gs w sl t σ rfl h;obtain⟨i,g,d,a,v,b,c⟩:=crowd_pick (P:=P) (w:=w) (sl:=sl) (Iw h) (zJ h);rcases NS (sl:=a) G r j (h.Q2 G d) v b with⟨gs',w',ops,k,l,x,y⟩|⟨rfl,A⟩);obtain⟨N,e,o,f,p,B,q⟩:=u _ y gs' w' a (t++ops) k rfl x;exact⟨N+1,e,o,f,p,by simp only[runNT,c,l];exact B,q⟩;obtain⟨gs',ops,l,q⟩:=Fj G (h.Q2 G d) s A;exact⟨1,gs',w.at d,a,t++ops,by simp only[runNT,c,l],q⟩
end
end Go.Tm
namespace Go.Tm
open Go.Conc Go.ConcN
section
variable {P:Program} {Shun:Loc->Prop} {B B':Nat} {gs:Array Zx} {a a':Zx} {w w':x6} {sl:Option (Nat×Nat)} {t:Trace} {q:Nat->Nat}
def eO(E:gs[0]? =some a)(c:a.status=.running)(z:Leavers P t gs q)(M:Past Shun B t)(N:∀h∈t,h.g<gs.size):∃d f,stepT P (crowd gs w sl)=runT P (crowd gs (w.at d) f) 0\/∃gs' ops J,stepT P (crowd gs w sl)=(.next (crowd gs' (w.at d) f),ops)/\gs'[0]? =some a/\gs'.size=gs.size/\Leavers P (t++ops) gs' J/\Past Shun B (t++ops)/\sumTo gs.size J<sumTo gs.size q/\(∀h∈t++ops,h.g<gs'.size)/\∀h∈ops,h.act.touch?=none/\∀B,h.act.low B:=by (have F:∀g∈gs,awake g:=by intro g p;obtain⟨i,r,rfl⟩:=Array.mem_iff_getElem.1 p;obtain rfl|hpos:=Vr i;(have:gs[0]=a:=by simpa[Va r]using E);rw[this];exact awake_of (.inl c);exact awake_of ((z.old i _ hpos (Va r)).status.elim .inl λx=>.inr (.inr x)));obtain⟨i,g,d,f,r,p,s⟩:=crowd_pick (P:=P) (w:=w) (sl:=sl) F ⟨0,a,E,c⟩;refine⟨d,f,?_⟩;obtain rfl|hpos:=Vr i;exact .inl s;right;(have A:=z.old i g hpos r;have G:(i==0)=false:=by simp;omega);have m:=(UO.1 r).1;cases n:q i with|zero=>rw[n]at A;rw[A.1]at p;cases p|succ k=>rw[n]at A;obtain⟨O,_⟩|⟨_,g',es,H,u,I⟩:=A;rw[O]at p;cases p;(have o:=runT_crowd_go (P:=P) (sl:=f) (i:=i) r (by rw[G];exact u (w.at d));have K:sumTo gs.size (upd q i k)+(k+1)=sumTo gs.size q+k:=by have:=sumTo_upd q k id m;simpa[n]using this);refine⟨_,_,upd q i k,s.trans o,?_,by simp,⟨λj x C D=>?_,λj C=>?_⟩,M.mute (by omega) H,by omega,jB (by simpa using N) (λh b=>by obtain⟨e,_,rfl⟩:=Go.Conc.mem_ofEvents b;simpa using m),λh b=>by obtain⟨e,L,rfl⟩:=Go.Conc.mem_ofEvents b;exact⟨touch_mute (H e L),low_mute (H e L)⟩⟩;rw[UU (by omega),Vk,E];simp[woken_run c];by_cases l:i=j;subst l;rw[XU (by simpa using m)]at D;obtain rfl:=Vd D;rw[upd_same,Deaf_own];exact I;rw[UU l,Vk]at D;obtain⟨y,Q,rfl⟩:=Vi.1 D;have v:=z.old j y C Q;rw[woken_quitsD v,upd_ne q k (U4 l),Deaf_other t l _ (λh b=>by obtain⟨e,_,rfl⟩:=Go.Conc.mem_ofEvents b;rfl)];exact v;rw[Deaf_other t (g':=i) (by simp at C;omega) _ (λh b=>by obtain⟨e,_,rfl⟩:=Go.Conc.mem_ofEvents b;rfl)];exact z.above j (by simpa using C)
def uq(m:gs[0]? =some a)(n:Leavers P t gs q)(r:Past Shun B t)(s:∀c∈t,c.g<gs.size)(u:B<=B'){es}(k:stepG P true a w=.go a' w' es)(l:∀e∈es,EvL Shun B' e):∃gs' ops,runT P (crowd gs w sl) 0=(.next (crowd gs' w' sl),ops)/\gs'[0]? =some a'/\gs'.size=gs.size/\Leavers P (t++ops) gs' q/\Past Shun B' (t++ops)/\(∀c∈t++ops,c.g<gs'.size)/\∀c∈ops,∃e∈es,c.act=.ofEvent e:=by have f:=(UO.1 m).1;have d:=runT_crowd_go (P:=P) (sl:=sl) (i:=0) m (show stepG P (0==0) a w=_ from k);refine⟨_,_,d,by simp[f],by simp,⟨λj x h o=>?_,λj h=>?_⟩,(r.mono u).own l,jB (by simpa using s) (λc b=>by obtain⟨e,_,rfl⟩:=Go.Conc.mem_ofEvents b;simpa using f),λc b=>by obtain⟨e,v,rfl⟩:=Go.Conc.mem_ofEvents b;exact⟨e,v,rfl⟩⟩;rw[UU (by omega),Vk]at o;obtain⟨y,z,rfl⟩:=Vi.1 o;have p:=n.old j y h z;rw[woken_quitsD p,Deaf_other t (g:=j) (g':=0) (by omega) _ (λc b=>by obtain⟨e,_,rfl⟩:=Go.Conc.mem_ofEvents b;rfl)];exact p;rw[Deaf_other t (g':=0) (by simp at h;omega) _ (λc b=>by obtain⟨e,_,rfl⟩:=Go.Conc.mem_ofEvents b;rfl)];exact n.above j (by simpa using h)
end
section
variable {S:Kn} {P:Program} {fs:Array Func}
def ym(Pr)(π:Ren P.globals.size)(W d):Chg Pr π W (W.at d) π:=⟨rfl,rfl,rfl,UI _,λ_ _ _=>rfl,λ_ _ _ _ F h=>⟨F,h⟩,λ_ c _ F h=>⟨c,F,h,.refl _⟩,λ_ _ h=>.inl h,λ_ a b=>absurd b (VN.2 a),λ_ _ h=>h⟩
def AT{Pr}{π:Ren P.globals.size}{ShB:Nat->Prop}{Shun:Loc->Prop}(d:∀l,Shun l->∃b,blk l=some b/\ShB b)(n:∀b,ShB b->¬∃r,π r b){B}(o:∀b,(∃r,π r b)->b<B){e}(h:lO Pr π e):EvL Shun B e:=by
 obtain⟨j,wr,u⟩:=e;unfold lO at h;cases j with
 |cell A=>obtain⟨rfl,g,s⟩:=h;refine⟨λx c k=>?_,by simp,by simp,o _ g⟩;simp[MemAct.ofEvent,MemAct.touch?]at c;subst c;obtain⟨b,i,hsb⟩:=d _ k;simp[blk]at i;subst i;exact absurd g (n _ hsb)
 |obj R=>obtain⟨p,g,s⟩:=h;simp only at p;subst p;refine⟨λx c k=>?_,by simp,by simp,by cases wr<;>exact o _ g⟩;cases wr<;>(simp[MemAct.ofEvent,MemAct.touch?]at c;subst c;obtain⟨b,i,hsb⟩:=d _ k;simp[blk]at i;subst i;exact absurd g (n _ hsb))
 |mark m=>cases m with|extern f=>exact⟨λx c=>by simp[MemAct.ofEvent,MemAct.touch?]at c,by simp,by simp,trivial⟩|noRoom=>exact⟨λx c=>by simp[MemAct.ofEvent,MemAct.touch?]at c,by simp,by simp,trivial⟩|_=>exact h.elim
 |_=>exact h.elim
def Nxs(S:Kn)(P:Program)(c c':Gh)(n:Nat):Prop:=c.w.drawn<=c'.w.drawn/\(∀k,c.w.drawn<=k->S.gq (c'.w.tape k))/\(∀k<c.w.drawn,c'.w.tape k=c.w.tape k)/\∀τ,(∀k<c'.w.drawn,τ k=c'.w.tape k)->runN P n (lone c.fr (c.cs++[aG]) (au c.w τ c.w.drawn))=.next (lone c'.fr (c'.cs++[aG]) (au c'.w τ c'.w.drawn))
def Nxs.refl{S:Kn}{P}{c:Gh}(h:∀k,c.w.drawn<=k->S.gq (c.w.tape k)):Nxs S P c c 0:=⟨UI _,h,λ_ _=>rfl,λ_ _=>rfl⟩
def Nxs.trans{S P a b c m n}(h:Nxs S P a b m)(d:Nxs S P b c n):Nxs S P a c (m+n):=by refine⟨UJ h.1 d.1,λk e=>?_,λk e=>(d.2.2.1 k (UL e h.1)).trans (h.2.2.1 k e),λτ f=>?_⟩;obtain x|x:=UK k b.w.drawn;rw[d.2.2.1 k x];exact h.2.1 k e;exact d.2.1 k x;rw[runN_add,h.2.2.2 τ λk e=>(f k (UL e d.1)).trans (d.2.2.1 k e)];exact d.2.2.2 τ f
def Nx.nxs{S P c c'}(h:Nx S P c c'):Nxs S P c c' 1:=⟨h.1,h.2.1,h.2.2.1,λτ b=>by unfold runN;rw[h.step b];rfl⟩
structure iZ{G:Nat}(Pr:Nat->Prop)(π₀:Ren G)(F0:x6)(π:Ren G)(W:x6):Prop where
 os:W.os=F0.os
 output:W.output=F0.output
 size:F0.heap.size<=W.heap.size
 keep:∀b,b<F0.heap.size->(¬∃r,π₀ r b)->W.heap[b]? =F0.heap[b]?
 oD:∀b,Pr b->∀c e F,F0.heap[b]? =some (Obj.cells c e F)->∃F',W.heap[b]? =some (Obj.cells c e F')
 fz:∀(b:Nat) c e F,F0.heap[b]? =some (Obj.cells c e F)->∃c' F',W.heap[b]? =some (Obj.cells c' e F')/\Fle F F'
 old:∀r R,π r R->π₀ r R\/F0.heap.size<=R
 le:Ren.le π₀ π
def iZ.refl{G}(Pr)(π:Ren G)(W):iZ Pr π W π W:=⟨rfl,rfl,UI _,λ_ _ _=>rfl,λ_ _ _ _ F h=>⟨F,h⟩,λ_ c _ F h=>⟨c,F,h,.refl _⟩,λ_ _ h=>.inl h,Ren.le_refl _⟩
def iZ.no{G Pr}{c π:Ren G}{d W}(h:iZ Pr c d π W){b}(e:b<d.heap.size)(f:¬∃r,c r b):¬∃r,π r b:=λ⟨r,g⟩=>(h.old r b g).elim (λx=>f ⟨r,x⟩) λx=>absurd e (VN.2 x)
def iZ.chg{G:Nat}{Pr:Nat->Prop}{d π g:Ren G}{f W n:x6}(h:iZ Pr d f π W)(k:Chg Pr π W n g):iZ Pr d f g n where
 os:=k.os.trans h.os
 output:=k.output.trans h.output
 size:=UJ h.size k.size
 keep b hb hn:=(k.keep b (UL hb h.size) (h.no hb hn)).trans (h.keep b hb hn)
 oD b hb c e F hF:=by obtain⟨i,j⟩:=h.oD b hb c e F hF;exact k.oD b hb c e i j
 fz b c e F hF:=by obtain⟨c',i,j,o⟩:=h.fz b c e F hF;obtain⟨l,m,p,s⟩:=k.fz b c' e i j;exact⟨l,m,p,o.trans s⟩
 old r R hr:=(k.old r R hr).elim (h.old r R) λx=>.inr (UJ h.size x)
 le:=Ren.le_trans h.le k.le
def iZ.still{G:Nat}{Pr:Nat->Prop}{d π g:Ren G}{f W i:x6}(h:iZ Pr d f π W)(m:i.os=W.os)(n:i.output=W.output)(o:W.heap.size<=i.heap.size)(k:∀b,b<W.heap.size->i.heap[b]? =W.heap[b]?)(p:∀r R,g r R->π r R\/W.heap.size<=R)(s:Ren.le π g):iZ Pr d f g i where
 os:=m.trans h.os
 output:=n.trans h.output
 size:=UJ h.size o
 keep b hb hn:=(k b (UL hb h.size)).trans (h.keep b hb hn)
 oD b hb c e F hF:=by obtain⟨l,j⟩:=h.oD b hb c e F hF;exact⟨l,(k b (UO.1 j).1).trans j⟩
 fz b c e F hF:=by obtain⟨c',l,j,u⟩:=h.fz b c e F hF;exact⟨c',l,(k b (UO.1 j).1).trans j,u⟩
 old r R hr:=(p r R hr).elim (h.old r R) λx=>.inr (UJ h.size x)
 le:=Ren.le_trans h.le s
def Ix(S:Kn)(P:Program)(fs:Array Func)(Pr:Nat->Prop)(Post:Zj->x6->Prop)(π:Ren P.globals.size)(c:Gh)(F:Frame)(CS:List Frame)(W:x6):Prop:=
 (Cp S P fs Pr Post π c F CS W/\c.AtE)\/
  ∃f a A,S.stop f=true/\(a.size=1/\VsR π a A)/\c.fr=Frame.enter (ah P fs) f a .normal/\F=Frame.enter P f A .normal/\c.cs≠[]/\bp (bj S π) c.cs CS/\bt S Pr π c.w W/\c.Flat/\Gd S (ah P fs) Post c/\∀g,S.dF g=true->π g g
def Fo{Pr}(D0)(ht:Tab S P fs)(p:∀g,S.calm g){Post Shun}{ShB:Nat->Prop}(G:∀l,Shun l->∃b,blk l=some b/\ShB b){c}:Acc (λc' c=>Nx S (ah P fs) c c'/\¬c.AtE) c->∀(m) (π) (F) (CS) (W) (gs) (sl) (t) (q),sumTo gs.size q<=m->Cp S P fs Pr Post π c F CS W->gs[0]? =some ⟨F,CS++D0,.running,none,none⟩->Leavers P t gs q->Past Shun W.heap.size t->(∀z∈t,z.g<gs.size)->(∀b,ShB b->b<W.heap.size/\¬∃r,π r b)->∃N gs' s j v R i c' y n k,runNT P N (crowd gs W sl) t=(.next (crowd gs' s j),v)/\gs'.size=gs.size/\gs'[0]? =some ⟨y,n++D0,.running,none,none⟩/\Leavers P v gs' R/\Past Shun s.heap.size v/\(∀b,ShB b->¬∃r,i r b)/\Chg Pr π W s i/\Ix S P fs Pr Post i c' y n s/\(∀z∈v,z.g<gs'.size)/\Nxs S (ah P fs) c c' k:=by
 intro ab;induction ab with
 |intro c _ ih=>
  intro m;induction m with
  |zero=>
   intro π F CS W gs sl t q hm h H I J K o;by_cases T:c.AtE
   .exact⟨0,gs,W,sl,t,q,π,c,F,CS,0,rfl,rfl,H,I,J,λb C=>(o b C).2,.refl _ _ _,.inl ⟨h,T⟩,K,.refl h.rG.1⟩
   .obtain⟨d,j,u|⟨gs',ops,R,_,_,_,_,_,af,_⟩⟩:=eO (w:=W) (sl:=sl) H rfl I J K
    .exact JE D0 ht p G ih h T H I J K o u
    .omega
  |succ m ag=>
   intro π F CS W gs sl t q hm h H I J K o;by_cases T:c.AtE
   .exact⟨0,gs,W,sl,t,q,π,c,F,CS,0,rfl,rfl,H,I,J,λb C=>(o b C).2,.refl _ _ _,.inl ⟨h,T⟩,K,.refl h.rG.1⟩
   .obtain⟨d,j,u|⟨gs',ops,R,u,L,D,M,O,af,Q,_⟩⟩:=eO (w:=W) (sl:=sl) H rfl I J K
    .exact JE D0 ht p G ih h T H I J K o u
    .obtain⟨N,V,W2,X,t2,q2,Y,c2,y,Z,k,r1,r2,r3,r4,r5,r6,r7,r8,r9,aa⟩:=ag π F CS (W.at d) gs' j (t++ops) R (by rw[D];omega) ⟨h.top,h.cs,h.w.heap rfl rfl,h.flat,h.rG,h.dF⟩ L M O Q o
     exact⟨N+1,V,W2,X,t2,q2,Y,c2,y,Z,k,by simp only[runNT,u];exact r1,r2.trans D,r3,r4,r5,r6,(ym _ _ _ d).trans r7,r8,r9,aa⟩
where
 JE {Pr:Nat->Prop} (D0:List Frame) {Post:Zj->x6->Prop} {Shun:Loc->Prop} {ShB:Nat->Prop} (ht:Tab S P fs) (p:∀g,S.calm g) (G:∀l,Shun l->∃b,blk l=some b/\ShB b) {c:Gh}
     (ih:∀c0,(Nx S (ah P fs) c c0/\¬c.AtE)->∀(m:Nat) (π:Ren P.globals.size) (F:Frame) (CS:List Frame) (W:x6) (gs:Array Zx) (sl:Option (Nat×Nat)) (t:Trace) (q:Nat->Nat),sumTo gs.size q<=m->
      Cp S P fs Pr Post π c0 F CS W->gs[0]? =some ⟨F,CS++D0,.running,none,none⟩->Leavers P t gs q->Past Shun W.heap.size t->(∀z∈t,z.g<gs.size)->(∀b,ShB b->b<W.heap.size/\¬∃r,π r b)->
      ∃N gs' s j v R i c' y n k,runNT P N (crowd gs W sl) t=(.next (crowd gs' s j),v)/\gs'.size=gs.size/\gs'[0]? =some ⟨y,n++D0,.running,none,none⟩/\Leavers P v gs' R/\Past Shun s.heap.size v/\(∀b,ShB b->¬∃r,i r b)/\Chg Pr π W s i/\Ix S P fs Pr Post i c' y n s/\(∀z∈v,z.g<gs'.size)/\Nxs S (ah P fs) c0 c' k)
     {π:Ren P.globals.size} {F:Frame} {CS:List Frame} {W:x6} {gs:Array Zx} {sl j:Option (Nat×Nat)} {t:Trace} {q:Nat->Nat} {d:Nat}
     (h:Cp S P fs Pr Post π c F CS W) (T:¬c.AtE) (H:gs[0]? =some ⟨F,CS++D0,.running,none,none⟩) (I:Leavers P t gs q) (J:Past Shun W.heap.size t) (K:∀z∈t,z.g<gs.size) (o:∀b,ShB b->b<W.heap.size/\¬∃r,π r b)
     (u:stepT P (crowd gs W sl)=runT P (crowd gs (W.at d) j) 0):
     ∃N gs' s j v R i c' y n k,runNT P N (crowd gs W sl) t=(.next (crowd gs' s j),v)/\gs'.size=gs.size/\gs'[0]? =some ⟨y,n++D0,.running,none,none⟩/\Leavers P v gs' R/\Past Shun s.heap.size v/\(∀b,ShB b->¬∃r,i r b)/\Chg Pr π W s i/\Ix S P fs Pr Post i c' y n s/\(∀z∈v,z.g<gs'.size)/\Nxs S (ah P fs) c c' k:=by
  obtain⟨c',y,n,s,ev,i,h1,h2,h3,h4,h5,h6,h7,h8,h9⟩:=follow ht h.dF h.top h.cs (h.w.heap (Y1:=W.at d) rfl rfl) h.flat h.rG T (p _) true;have h3:=h3 D0;have E:∀b,ShB b->b<s.heap.size/\¬∃r,i r b:=λb C=>⟨UL (o b C).1 h5.size,λ⟨r,hr⟩=>(h5.old r b hr).elim (λx=>(o b C).2 ⟨r,x⟩) λx=>absurd (o b C).1 (VN.2 x)⟩
  obtain⟨gs',ops,U,L,D,M,O,Q,_⟩:=uq (sl:=j) (B':=s.heap.size) H I J K h5.size h3 λe ak=>AT G (λb C=>(E b C).2) (λb ⟨r,hr⟩=>(h4.lt hr).2) (h6 e ak);have ad:∀g,S.dF g=true->i g g:=λg hg=>h5.le _ _ (h.dF g hg);obtain h8|⟨an,f,a,A,hs,ha,e1,e2⟩:=h8
  .obtain⟨N,V,W2,X,t2,q2,Y,c2,ao,Z,k,r1,r2,r3,r4,r5,r6,r7,r8,r9,aa⟩:=ih c' ⟨h1,T⟩ _ i y n s gs' j (t++ops) q (UI _) ⟨h8,h7,h4,h9,h2,ad⟩ L M O Q E
   exact⟨N+1,V,W2,X,t2,q2,Y,c2,ao,Z,1+k,by simp only[runNT,u,U];exact r1,r2.trans D,r3,r4,r5,r6,((ym _ _ _ d).trans h5).trans r7,r8,r9,h1.nxs.trans aa⟩
  .exact⟨1,gs',s,j,t++ops,q,i,c',y,n,1,by simp only[runNT,u,U],D,L,M,O,λb C=>(E b C).2,(ym _ _ _ d).trans h5,.inr ⟨f,a,A,hs,ha,e1,e2,an,h7,h4,h9,h2,ad⟩,Q,h1.nxs⟩
end
noncomputable def bot(P:Program):Frame:={(default:Frame)with fn:=P.funcs.size,defers:=[],mode:=.panicking [goexitEntry]}
section
variable {P:Program} {f:FuncId} {fn:Func} {c:Code} {args caps:Zq} {w:x6} {mn:Bool}
def AV(b:P.funcs[f]? =some fn)(a:(fn.name== "runtime.NumGoroutine")=false)(d:fn.body=some c):stepG P mn (born P {target:=.fn (.func f) caps,args:=args}) w=.go (G ((baseD f).at {tmps:=(args++caps)++Array.replicate (fn.ntmps-(args++caps).size) undef,defers:=[]} [.code c]) [bot P]) w #[]:=by (have e:¬fn.name= "runtime.NumGoroutine" :=by simpa using a);rw[<-enter_atD (args++caps) b d];simp[born,G,stepG,unwind,callDeferred,invoke,callFunc,b,e,d,GStep.after,seen_none,bot]
def NW(w:x6):stepG P false (G (bot P) []) w=.go {G (bot P) []with status:=.finished} w #[]:=by simp[G,stepG,unwind,bot,goexitEntry,Frame.catches];rfl
def AW{b:Frame}{a:Act}{todo:List Item}(d:b.kind=.deferred)(e:a.defers=[])(g:P.funcs[b.fn]? =some fn)(h:fn.results=#[]):QuitsD P 2 0 (G {b.at a todo with mode:=.returning} [bot P]):=by refine QuitsD.ctl rfl (g':=G (bot P) []) (λw=>?_) ?_;simp[G,stepG,unwind,doReturn,results,Frame.at,d,e,g,h,bot,seen_none,GStep.after,goexitEntry];refine .inr ⟨rfl,_,#[],by simp,λw=>NW w,rfl,rfl⟩
end
section
variable {P:Program} {ty:TypeId} {Wg:Nat} {S:aL} {Shun:Loc->Prop} {ShB:Nat->Prop}
def NT(c:∀l,Shun l->∃b,blk l=some b/\ShB b){K M:Nat->Prop}{B}(j:∀b,K b->b<B/\¬ShB b)(m:Wg<B){e}(h:EvK Wg K M e):EvL Shun B e:=by obtain⟨k,n,o,u,p⟩:=h;refine⟨λx d q=>?_,n,o,JC (λx d b f=>?_) λr=>p B r⟩;obtain⟨b,f,g⟩:=k x d;obtain⟨v,i,_⟩|⟨_,s⟩:=g;obtain⟨t,a,hsb⟩:=c _ q;rw[f]at a;cases a;exact absurd hsb (j b i).2;rw[s];simp;obtain⟨t,a,g⟩:=k x d;rw[f]at a;cases a;obtain⟨_,i,_⟩|⟨rfl,_⟩:=g;exact(j b i).1;exact m
structure Bes(P:Program)(Shun:Loc->Prop)(gs:Array Zx)(w:x6)(t:Trace)(g:Zx):Prop where
 g0:gs[0]? =some g
 lv:∃q,Leavers P t gs q
 past:Past Shun w.heap.size t
 few:∀op∈t,op.g<gs.size
structure Tch(Wg:Nat)(K:Nat->Prop)(u:Trace):Prop where
 t:∀op∈u,∀x,op.act.touch?=some x->op.g=0/\((∃b,blk x.loc=some b/\K b/\x.kind=.plain)\/(blk x.loc=some Wg/\x.kind=.atomic))
 l:∀op∈u,op.act.touch?=none->∀B,op.act.low B
def Tch.app{K g u v}(h:Tch Wg K u)(j:Tch Wg g v)(m:∀b,K b->g b):Tch Wg g (u++v):=⟨λf e x k=>(VJ.1 e).elim (λi=>by obtain⟨n,o⟩:=h.t f i x k;exact⟨n,o.imp (λ⟨b,a,c,d⟩=>⟨b,a,m b c,d⟩) id⟩) λi=>j.t f i x k,λf e=>(VJ.1 e).elim (h.l f) (j.l f)⟩
structure lC(P:Program)(Wg:Nat)(Shun:Loc->Prop)(ShB:Nat->Prop)(S:aL)(K M:Nat->Prop)(w:x6)(n:Nat)(t:Trace)(gs':Array Zx)(w':x6)(t':Trace):Prop where
 size:gs'.size=n
 os:w'.os=w.os
 tape:w'.tape=w.tape
 output:w'.output=w.output
 grown:w.heap.size<=w'.heap.size
 keep:∀b,b<w.heap.size->¬M b->w'.heap[b]? =w.heap[b]?
 at_:∃g' K' M' u,Bes P Shun gs' w' t' g'/\S K' M' g' w'/\t'=t++u/\Tch Wg K' u/\(∀b,K b->K' b)/\(∀b,K' b->K b\/w.heap.size<=b)/\(∀b,K' b->b<w'.heap.size/\¬ShB b)/\(∀b,M b->M' b)/\∀b,M' b->M b\/w.heap.size<=b
def lC.of{K M c d:Nat->Prop}{w a w':x6}{n gs' t v t'}(h:lC P Wg Shun ShB S c d a n (t++v) gs' w' t')(m:Tch Wg c v)(e1:a.os=w.os)(o:a.tape=w.tape)(e3:a.output=w.output)(g:w.heap.size<=a.heap.size) (p:∀b,b<w.heap.size->¬M b->a.heap[b]? =w.heap[b]?) (q:∀b,K b->c b) (i:∀b,c b->K b\/w.heap.size<=b) (r:∀b,M b->d b) (f:∀b,d b->M b\/w.heap.size<=b):lC P Wg Shun ShB S K M w n t gs' w' t':=by obtain⟨g',s,z,u,a1,A,B,j,k,C,D,E,F⟩:=h.at_;refine⟨h.size,h.os.trans e1,h.tape.trans o,h.output.trans e3,UJ g h.grown,λb e l=>?_,g',s,z,v++u,a1,A,by rw[B,VU],m.app j k,λb e=>k b (q b e),λb e=>?_,D,λb e=>E b (r b e),λb e=>?_⟩;rw[h.keep b (UL e g) (λx=>(f b x).elim l λy=>absurd e (VN.2 y)),p b e l];obtain x|x:=C b e;exact i b x;exact .inr (UJ g x);obtain x|x:=F b e;exact f b x;exact .inr (UJ g x)
def yo{K}{u:Trace}(h:∀b∈u,b.act.touch?=none/\∀B,b.act.low B):Tch Wg K u:=⟨(λb a x c=>by rw[(h b a).1]at c;cases c),λb a _=>(h b a).2⟩
def nS(A:∀l,Shun l->∃b,blk l=some b/\ShB b){K M g w}(h:Run P true ty Wg S K M g w):∀(c) (sl) (t),Bes P Shun c w t g->(∀b,K b->b<w.heap.size/\¬ShB b)->(∀b,ShB b->b<w.heap.size)->Wg<w.heap.size->∃N gs' w' a t',runNT P N (crowd c w sl) t=(.next (crowd gs' w' a),t')/\lC P Wg Shun ShB S K M w c.size t gs' w' t':=by
 induction h with
 | @stop K M g w h=>intro c sl t v H U V;exact⟨0,c,w,sl,t,rfl,rfl,rfl,rfl,rfl,UI _,λ_ _ _=>rfl,g,K,M,#[],v,h w (.refl w),by simp,⟨(λp j=>by simp at j),λp j=>by simp at j⟩,λ_ x=>x,λ_ x=>.inl x,H,λ_ x=>x,λ_ x=>.inl x⟩
 | @step K M g w hs n ak ih=>
  intro c sl t ⟨s,⟨q,C⟩,D,E⟩ H U V;have key:∀(m:Nat) (d:Nat) (c:Array Zx) (sl:Option (Nat×Nat)) (t:Trace) (q:Nat->Nat),sumTo c.size q<=m->c[0]? =some g->Leavers P t c q->Past Shun w.heap.size t->(∀p∈t,p.g<c.size)->
   ∃N gs' w' a t',runNT P N (crowd c (w.at d) sl) t=(.next (crowd gs' w' a),t')/\lC P Wg Shun ShB S K M w c.size t gs' w' t':=by
   intro m;induction m with
   |zero=>
    intro d c sl t q hm s C D E;obtain⟨d',a,k|⟨gs',ops,q',_,_,_,_,_,W,_⟩⟩:=eO (w:=w.at d) (sl:=sl) s hs C D E
    .exact go A n ih s C D E H U V k
    .omega
   |succ m ab=>
    intro d c sl t q hm s C D E;obtain⟨d',a,k|⟨gs',ops,q',k,I,F,J,L,W,O,ad⟩⟩:=eO (w:=w.at d) (sl:=sl) s hs C D E
    .exact go A n ih s C D E H U V k
    .obtain⟨N,Q,w2,R,t2,hr,v⟩:=ab d' gs' a (t++ops) q' (by rw[F];omega) I J L O
     refine⟨N+1,Q,w2,R,t2,by simp only[runNT,k];exact hr,?_⟩;rw[F]at v;exact v.of (yo ad) rfl rfl rfl (UI _) (λ_ _ _=>rfl) (λ_ x=>x) (λ_ x=>.inl x) (λ_ x=>x) λ_ x=>.inl x
  exact key _ w.drawn c sl t q (UI _) s C D E
where
 go (A:∀l,Shun l->∃b,blk l=some b/\ShB b) {K M:Nat->Prop} {g:Zx} {w:x6} (n:∀f,RK ty Wg K w f->Tz P true Wg K M g f)
     (ih:∀f g' w' es,RK ty Wg K w f->stepG P true g f=.go g' w' es->∀(c:Array Zx) (sl:Option (Nat×Nat)) (t:Trace),Bes P Shun c w' t g'->(∀b,orK K f w' b->b<w'.heap.size/\¬ShB b)->(∀b,ShB b->b<w'.heap.size)->Wg<w'.heap.size->∃N gs' X a t',runNT P N (crowd c w' sl) t=(.next (crowd gs' X a),t')/\lC P Wg Shun ShB S (orK K f w') (orK M f w') w' c.size t gs' X t')
     {c:Array Zx} {sl a:Option (Nat×Nat)} {t:Trace} {q:Nat->Nat} {d d':Nat} (s:c[0]? =some g) (C:Leavers P t c q) (D:Past Shun w.heap.size t) (E:∀p∈t,p.g<c.size) (H:∀b,K b->b<w.heap.size/\¬ShB b) (U:∀b,ShB b->b<w.heap.size) (V:Wg<w.heap.size)
     (k:stepT P (crowd c (w.at d) sl)=runT P (crowd c ((w.at d).at d') a) 0):
     ∃N gs' w' a t',runNT P N (crowd c (w.at d) sl) t=(.next (crowd gs' w' a),t')/\lC P Wg Shun ShB S K M w c.size t gs' w' t':=by
  have hr:RK ty Wg K w ((w.at d).at d'):=⟨λ_ _=>rfl,id,UI _⟩
  obtain⟨g',w',es,e1,Y,e3⟩:=n _ hr;have r:w.heap.size<=w'.heap.size:=Y.size;have Z:∀b,orK K ((w.at d).at d') w' b->b<w'.heap.size/\¬ShB b:=by
   rintro b (x|⟨x,y⟩)
   .exact⟨UL (H b x).1 r,(H b x).2⟩
   .exact⟨y,λz=>absurd (U b z) (VN.2 x)⟩
  have W:=(UO.1 s).1;have T:=runT_crowd_go (P:=P) (sl:=a) (i:=0) s (show stepG P (0==0) _ _=_ from e1);obtain⟨gs',ops,o,I,F,J,L,O,G⟩:=uq (sl:=a) (B':=w'.heap.size) s C D E r e1 λe he=>NT A Z (UL V r) (e3 e he);have hg:∀p∈ops,p.g=0:=by rw[T]at o;simp only[XX]at o;intro p j;rw[<-o.2]at j;obtain⟨e,_,rfl⟩:=Go.Conc.mem_ofEvents j;rfl
  have aa:Tch Wg (orK K ((w.at d).at d') w') ops:=by
   refine⟨λp j x hx=>?_,λp j hx B=>?_⟩
   .obtain⟨e,he,u⟩:=G p j
    rw[u]at hx;obtain⟨b,v,hc⟩:=(e3 e he).1 x hx;refine⟨hg p j,hc.imp (λh=>⟨b,v,h.2.1,h.1⟩) λh=>⟨by rw[<-h.1];exact v,h.2⟩⟩
   .obtain⟨e,he,u⟩:=G p j
    rw[u]at hx⊢;exact(e3 e he).2.2.2.2 B hx
  obtain⟨N,Q,w2,R,t2,af,v⟩:=ih _ g' w' es hr e1 gs' a (t++ops) ⟨I,⟨q,J⟩,L,O⟩ Z (λb z=>UL (U b z) r) (UL V r);refine⟨N+1,Q,w2,R,t2,by simp only[runNT,k,o];exact af,?_⟩;rw[F]at v;exact v.of aa Y.os Y.tape Y.output r (λb ag hm=>Y.keep b ag hm) (λb x=>.inl x) (λb x=>x.elim .inl λy=>.inr y.1) (λb x=>.inl x) (λb x=>x.elim .inl λy=>.inr y.1)
def yp{g:Zx}{w:x6}{ob:Obj}{g':Nat->Zx}(J:g.status=.running)(i:∀a:x6,stepG P true g a=.go (g' a.heap.size) {a with heap:=a.heap.push ob} #[]):∀(m:Nat) (d:Nat) (c:Array Zx) (sl:Option (Nat×Nat)) (t:Trace) (q:Nat->Nat),sumTo c.size q<=m->c[0]? =some g->Leavers P t c q->Past Shun w.heap.size t->(∀h∈t,h.g<c.size)->∃N gs' d' b k u,runNT P N (crowd c (w.at d) sl) t=(.next (crowd gs' {w.at d' with heap:=w.heap.push ob} b),k)/\gs'.size=c.size/\k=t++u/\(∀h∈u,h.act.touch?=none/\∀B,h.act.low B)/\Bes P Shun gs' {w.at d' with heap:=w.heap.push ob} k (g' w.heap.size):=by
 intro m;induction m with
 |zero=>
  intro d c sl t q L l n o p;obtain⟨d',b,f|⟨gs',ops,K,_,_,_,_,_,C,_⟩⟩:=eO (w:=w.at d) (sl:=sl) l J n o p
  .exact go i l n o p f
  .omega
 |succ m D=>
  intro d c sl t q L l n o p;obtain⟨d',b,f|⟨gs',ops,K,f,r,j,s,v,C,x,E⟩⟩:=eO (w:=w.at d) (sl:=sl) l J n o p
  .exact go i l n o p f
  .obtain⟨N,F,d2,G,M,u,O,e1,Q,e3,e4⟩:=D d' gs' b (t++ops) K (by rw[j];omega) r s v x
   refine⟨N+1,F,d2,G,M,ops++u,by simp only[runNT,f];exact O,e1.trans j,by rw[Q,VU],λh y=>(VJ.1 y).elim (E h) (e3 h),e4⟩
where
 go {g:Zx} {w:x6} {ob:Obj} {g':Nat->Zx} (i:∀a:x6,stepG P true g a=.go (g' a.heap.size) {a with heap:=a.heap.push ob} #[])
     {c:Array Zx} {sl b:Option (Nat×Nat)} {t:Trace} {q:Nat->Nat} {d d':Nat} (l:c[0]? =some g) (n:Leavers P t c q) (o:Past Shun w.heap.size t) (p:∀h∈t,h.g<c.size)
     (f:stepT P (crowd c (w.at d) sl)=runT P (crowd c ((w.at d).at d') b) 0):
     ∃N gs' d' b k u,runNT P N (crowd c (w.at d) sl) t=(.next (crowd gs' {w.at d' with heap:=w.heap.push ob} b),k)/\gs'.size=c.size/\k=t++u/\(∀h∈u,h.act.touch?=none/\∀B,h.act.low B)/\Bes P Shun gs' {w.at d' with heap:=w.heap.push ob} k (g' w.heap.size):=by
  have H:w.heap.size<=(w.heap.push ob).size:=by simp
  obtain⟨gs',ops,z,r,j,s,v,x,A⟩:=uq (w:=(w.at d).at d') (sl:=b) (B':=(w.heap.push ob).size) l n o p H (i _) (λe I=>by simp at I);refine⟨1,gs',d',b,t++ops,ops,by simp only[runNT,f,z];rfl,j,rfl,λh y=>?_,r,⟨q,s⟩,v,x⟩;obtain⟨e,I,_⟩:=A h y;simp at I
end
section
variable {S:Kn} {P:Program} {fs:Array Func} {Pr:Nat->Prop}
def Cp.done(B:Tab S P fs)(r:∀f,S.ent f=true->P.inits.idxOf? f=none){Post π c F W}(h:Cp S P fs Pr Post π c F [] W)(s:c.AtE):∃(v V:Zj) (w' o:x6) (ev:Array Event) (j:Ren P.globals.size),Post v w'/\w'.heap=c.w.heap/\stepG P true ⟨F,[],.running,none,none⟩ W=.ended (.done V) o ev/\aw j v V/\bt S Pr j w' o/\Chg Pr π W o j/\∀e∈ev,lO Pr j e:=by
 obtain⟨_,g,C,e1,D,_,_,_⟩:=B.ent _ h.top.ent;have t:=rF (S:=S) (P:=P) (fs:=fs) g h.top.tmps;obtain⟨L,E,G|⟨a,w',u,b,o,ev,j,H,A,I,J,K,M⟩⟩:=t.run (Pr:=Pr) c.w W #[] #[] c.w.drawn h.w;all_goals
  let τ:Nat->Question->Nat:=λn=>if n<c.w.drawn then c.w.tape n else mm c.w.drawn L n
  have p:Fits τ c.w.drawn L:=λi g y=>by show(if c.w.drawn+i<c.w.drawn then _ else _)=g;rw[UG (by omega)];exact lP c.w.drawn L i g y
  have z:∀n<c.w.drawn,τ n=c.w.tape n:=λn N=>UH N;obtain⟨v,⟨_,_,_,g',l,k⟩,O⟩:=(h.rG.au z (pW E)).ends s h.top.kind;simp only[show(ah P fs).funcs=fs from rfl]at l;rw[e1]at l;cases l;rw[show results {g with body:=some (ia C)} c.fr.tmps=results g c.fr.tmps from rfl]at k;have d:((results g c.fr.tmps).runT (ah P fs) (au c.w τ c.w.drawn) #[]).1=.ok v (au c.w τ c.w.drawn):=by rw[<-k];simp
 obtain⟨x,w',u,e,_⟩:=G τ p;rw[e]at d;cases d;rw[H τ p]at d;simp only[Result.ok.injEq]at d;obtain⟨rfl,Q⟩:=d;rw[Wa]at A;refine⟨a,b,au c.w τ c.w.drawn,o,seen P F.fn ev++#[],j,O,rfl,?_,I,?_,K,kG M⟩;have m:=h.top.mode.trans s.2.1;have q:F.defers=[]:=by have:=h.top.defers;rw[s.2.2]at this;cases R:F.defers with|nil=>rfl|cons=>rw[R]at this;cases this
 have T:P.funcs[F.fn]? =some g:=by rw[h.top.fn];exact D
 have U:=h.top.Kind;have y:=r F.fn (by rw[h.top.fn];exact h.top.ent);simp only[stepG,unwind,m,q,T,A,doReturn,U,y];rfl;refine J.heap ?_ rfl;rw[<-Q];rfl
def zM{N m m' t a}(h:runNT P N m t=(.next m',a)):runN P N m=.next m':=by rw[<-runNT_fst P N m t,h]
def dh(P:Program)(Post:Zj->x6->Prop)(m:Machine)(t:Trace):Prop:=∃N last o w' a,runNT P (N+1) m t=(.ended o w',a)/\runN P N m=.next last/\step P last=.ended o w'/\Go.Conc.Good P Post last o w' a
def dh.back{Post N m m' t b}(h:dh P Post m' b)(c:runNT P N m t=(.next m',b)):dh P Post m t:=by obtain⟨M,last,o,w',a,d,e,f,g⟩:=h;refine⟨N+M,last,o,w',a,?_,?_,f,g⟩;rw[Wv,runNT_add,c];exact d;rw[runN_add,zM c];exact e
def K9(O:Tab S P fs)(C:∀f,S.ent f=true->P.inits.idxOf? f=none){Post Shun}{ShB:Nat->Prop}(D:∀l,Shun l->∃b,blk l=some b/\ShB b){PostR} {a} {o} (k:∀v V w' E (n),Post v w'->aw n v V->bt S Pr n w' E->iZ Pr a o n E->PostR V E):∀(m) (π) (c) (F) (W) (u) (sl) (t) (q),sumTo u.size q<=m->iZ Pr a o π W->Cp S P fs Pr Post π c F [] W->c.AtE->u[0]? =some ⟨F,[],.running,none,none⟩->Leavers P t u q->Past Shun W.heap.size t->(∀op∈t,op.g<u.size)->(∀b,ShB b->b<W.heap.size/\¬∃r,π r b)->dh P PostR (crowd u W sl) t:=by
 intro m;induction m with
 |zero=>
  intro π c F W u sl t q hm y h K I H J Q s;obtain⟨d,z,p|⟨gs',ops,q',_,_,_,_,_,R,_⟩⟩:=eO (w:=W) (sl:=sl) I rfl H J Q
  .exact JJ O C D k y h K I H J s p
  .omega
 |succ m ih=>
  intro π c F W u sl t q hm y h K I H J Q s;obtain⟨d,z,p|⟨gs',ops,q',p,T,U,X,G,R,Y,_⟩⟩:=eO (w:=W) (sl:=sl) I rfl H J Q
  .exact JJ O C D k y h K I H J s p
  .have:=ih π c F (W.at d) gs' z (t++ops) q' (by rw[U];omega) (y.chg (ym _ _ _ d)) ⟨h.top,h.cs,h.w.heap rfl rfl,h.flat,h.rG,h.dF⟩ K T X G Y s
   exact this.back (N:=1) (by simp only[runNT,p])
where
 JJ (O:Tab S P fs) (C:∀f,S.ent f=true->P.inits.idxOf? f=none) {Post:Zj->x6->Prop} {Shun:Loc->Prop} {ShB:Nat->Prop} (D:∀l,Shun l->∃b,blk l=some b/\ShB b) {PostR:Zj->x6->Prop}
     {a:Ren P.globals.size} {o:x6} (k:∀v V w' E (n:Ren P.globals.size),Post v w'->aw n v V->bt S Pr n w' E->iZ Pr a o n E->PostR V E)
     {π:Ren P.globals.size} {c:Gh} {F:Frame} {W:x6} {u:Array Zx} {sl z:Option (Nat×Nat)} {t:Trace} {q:Nat->Nat} {d:Nat}
     (y:iZ Pr a o π W) (h:Cp S P fs Pr Post π c F [] W) (K:c.AtE) (I:u[0]? =some ⟨F,[],.running,none,none⟩) (H:Leavers P t u q) (J:Past Shun W.heap.size t) (s:∀b,ShB b->b<W.heap.size/\¬∃r,π r b)
     (p:stepT P (crowd u W sl)=runT P (crowd u (W.at d) z) 0):dh P PostR (crowd u W sl) t:=by
  obtain⟨v,V,w',E,ev,n,hp,_,L,hv,hw,A,Z⟩:=Cp.done O C (⟨h.top,h.cs,h.w.heap (Y1:=W.at d) rfl rfl,h.flat,h.rG,h.dF⟩:Cp S P fs Pr Post π c F [] (W.at d)) K;have B:=runT_many_ended (P:=P) (sl:=z) (i:=0) I (show stepG P (0==0) _ (W.at d)=_ from L);have M:∀b,ShB b->¬∃r,n r b:=λb hb ⟨r,hr⟩=>(A.old r b hr).elim (λx=>(s b hb).2 ⟨r,x⟩) λx=>absurd (s b hb).1 (VN.2 x);have G:=(J.mono (B':=E.heap.size) A.size).own (fn:=F.fn) (pos:=F.place) λe aa=>AT D M (λb ⟨r,hr⟩=>(hw.lt hr).2) (Z e aa);refine⟨0,_,_,_,_,by simp only[runNT,p,B],rfl,by simp only[step,p,B],V,rfl,k _ _ _ _ _ hp hv hw ((y.chg (ym _ _ _ d)).chg A),G.clean,G.over,⟨λx hx=>?_,rfl⟩,λj x hx hj=>?_⟩
  .obtain⟨j,hj⟩:=V8.1 hx
   rw[XL]at hj;exact⟨_,(H.old (1+j) x (by omega) (by simpa[crowd]using hj)).leaves⟩
  .have hq:=H.old j x (by omega) hx
   refine⟨q j,?_⟩;have e:(t++MemOp.ofEvents 0 F.fn F.place ev).deaf j (t++MemOp.ofEvents 0 F.fn F.place ev).size=Deaf t j:=Deaf_other t (g:=j) (g':=0) (by omega) _ (λop ab=>by obtain⟨e,_,rfl⟩:=Go.Conc.mem_ofEvents ab;rfl)
   rw[e];exact hq.hears _
end
end Go.Tm
namespace Go.Tm
open Go.Conc Go.ConcN Go.Conc.Lib
open Go.ConcR (KK WgAt stA smA rd wr mk DC0 Bk)
section
variable {P:Program} {ty:TypeId} {Wg ch:Nat} {z:Zj} {An:aL} {HV:Nat->Option Zj} {Fin:List Zj->aL} {n N0:Nat} {shun:Nat->Prop} {Shun:Loc->Prop} {t:Trace} {gs:Array Zx} {w:x6} {a:Zx} {K:Nat->Prop}
def NU(G:∀l,Shun l->∃b,blk l=some b/\shun b)(V:Bes P Shun gs w t a)(W:∀b,shun b->b<N0)(X:N0<=Wg)(Y:N0<=ch)(Z:Wg≠ch)(hN:N0<=w.heap.size) (hwg:w.heap[Wg]? =some (.cells #[.int .u64 0,.int .u32 0] ty)) (hch:w.heap[ch]? =some (.chan 0 #[] false 0 0 false)) (H:∀b,K b->b<w.heap.size/\¬spB Wg ch b/\¬shun b) (I:∀(i:Nat) (m) x b,t[i]? =some m->m.act.touch?=some x->blk x.loc=some b->¬spB Wg ch b) (u:NoRelease (stA Wg) t) (v:Run P true ty Wg (SSp P ty Wg ch z An HV Fin n n) K (λ_=>False) a w):∃σ,GI P ty Wg ch z An HV Fin n gs.size N0 shun w t gs w t σ:=by
 obtain⟨g0,⟨q,S⟩,E,T⟩:=V;have aa:=(UO.1 g0).1;have J:=(UO.1 hwg).1;have L:=(UO.1 hch).1;obtain⟨x,U⟩:=cW.of v;obtain⟨mt,ρ,M,A,o,N,B⟩:∃mt ρ,fO P ty Wg ch z An HV Fin n mt 0 0 K (λ_=>False) ρ a w/\mt.got=[]/\mt.pend=0/\((∃r st,mt=.sp r st)\/mt=.gc)/\(∀r hs,mt≠ .rb r hs)/\∀r hs,mt≠ .rw r hs:=by cases n with|zero=>exact⟨.gc,(90,0,x),.gc U,rfl,rfl,.inr rfl,λ_ _=>by simp,λ_ _=>by simp⟩|succ r=>refine⟨.sp r 5,(100+10*r+5,0,x),?_,rfl,rfl,.inl ⟨_,_,rfl⟩,λ_ _=>by simp,λ_ _=>by simp⟩;have:=fO.kd (n:=r+1) (r:=r) (by omega) U;simpa using this
 have known:∀(i:Nat) y b,touchAt t i=some y->blk y.loc=some b->¬shun b->Knows t 0 i:=by intro i y b p d hs;rcases E.known i y p (by cases hl:y.loc<;>simp_all [blk,Loc.isMemory])with h|⟨h,_⟩;exact h;obtain⟨b',F,h2⟩:=G _ h;rw[d]at F;cases F;exact absurd h2 hs
 let σ:GSt P ty Wg:={j:=0,D:=λ_=>⟨0,0,λ_=>False,λ_=>False⟩,R:=λ_=>(9,0,x),mt:=mt,K0:=K,M0:=λ_=>False,r0:=ρ,d0:=0,ct:=none,Kc:=λ_=>False,Mc:=λ_=>False,rc:=ρ,dc:=0,q:=q,own:=λ_=>0,low:=λ_=>0,st:=0,sm:=0}
 refine⟨σ,⟨⟨rfl,rfl,rfl,hN,λ_ _=>rfl,⟨0,hch⟩,hwg,⟨J,L⟩,λi f=>absurd f (UX _),λi f=>absurd f (UX _),λb d=>?_,λb d=>d.elim,λh=>absurd rfl h,λh=>absurd rfl h,λb h=>absurd rfl h,λi f=>absurd f (UX _),⟨λh=>absurd rfl h,λh=>absurd rfl h⟩,λk h=>absurd rfl h,λk=>UP _⟩,
  ⟨⟨#[],by simp⟩,?_,E.seen,(λm s=>by have:=T m s;omega),u,E.hears,λi f=>absurd f (UX _),λh=>absurd rfl h,λk O _ _=>S.above k O,λi f=>absurd f (UX _),(λh=>by cases h),λh=>by cases h⟩,
  ⟨by simp[σ],UP _,λh=>absurd rfl h,⟨a,g0,M⟩,⟨λ_=>N,λ_=>rfl⟩,λi f=>absurd f (UX _),λi _ _=>rfl,(λc h=>by cases h),λi g F _ h3=>S.old i g F h3,λ⟨r,hs,e⟩=>absurd e (B.1 r hs),λr hs e=>absurd e (B.2 r hs)⟩,
  ?_,⟨[],List.nodup_nil,λi=>⟨λh=>by simp at h,λh=>absurd h.1 (UX _)⟩,A⟩⟩⟩
 exact⟨(H b d).1,(H b d).2.1,(H b d).2.2,rfl⟩;refine⟨E.clean,λi m y b _ _ _ h=>absurd rfl h,λi y b p d _ _ hs _=>⟨known i y b p d hs,λk O=>absurd O (UX _)⟩,λi y b p d _ _ hs _=>known i y b p d hs,λi m y C p b d Q=>absurd Q (I i m y b C p d),λm s e=>?_,λi m y f C=>?_,λi m y f C=>?_,rfl,λb _=>rfl⟩;have:=T m s;omega;have:=lt_size_of_getElem? C;omega;have:=lt_size_of_getElem? C;omega;have e:(((VW 0 σ.D+mt.pend:Nat):Int)*KK)=0:=by rw[o];simp[VW,sumTo]
 have key:=Mode.opn (j:=0) (D:=σ.D) (mt:=mt) (ct:=none) True.intro (λi f=>absurd f (UX _)) (λvs h=>by cases h);rw[e]at key;exact key
end
end Go.Tm
namespace Go.Tm
open Go.Proofs
abbrev link:Go.Conc.Lib.WgLink:={add:=122,done:=124,wait:=127,relMerge:=144,disable:=145,enable:=146,inBubble:=147,associate:=148,fatal:=149,uOr:=150,uAdd:=151,raceRead:=152,uLoad:=153,uStore:=154,disassociate:=155,semrelease:=156,acquire:=157,isAssociated:=158,uCas:=159,raceWrite:=160,semacquire:=161,orU64:=168,addU64:=169,loadU64:=170,storeU64:=171,casU64:=172,tWgP:=208,tUP:=210,tAssoc:=211,tWg:=195,tAU:=192,tU64:=190,tUint:=215,tU32:=193,tPU32:=216,tPAU:=229,tPU64:=231,tNoCopy:=187,tANoCopy:=188,tAlign64:=189}
def yv:Go.Conc.Lib.WgLib Tryz.prog link:=⟨Tryz.func122,Tryz.func124,Tryz.func127,Tryz.func144,Tryz.func145,Tryz.func146,Tryz.func147,Tryz.func148,Tryz.func149,Tryz.func150,Tryz.func151,Tryz.func152,Tryz.func153,Tryz.func154,Tryz.func155,Tryz.func156,Tryz.func157,Tryz.func158,Tryz.func159,Tryz.func160,Tryz.func161,Tryz.func168,Tryz.func169,Tryz.func170,Tryz.func171,Tryz.func172,Tryz.underlying208,Tryz.runUnderlying208,Tryz.sizeOf208,Tryz.isAgg208,Tryz.zeroValue208,Tryz.underlying210,Tryz.runUnderlying210,Tryz.sizeOf210,Tryz.isAgg210,Tryz.zeroValue210,Tryz.underlying211,Tryz.runUnderlying211,Tryz.sizeOf211,Tryz.isAgg211,Tryz.zeroValue211,Tryz.underlying195,Tryz.runUnderlying195,Tryz.sizeOf195,Tryz.isAgg195,Tryz.zeroValue195,Tryz.underlying192,Tryz.runUnderlying192,Tryz.sizeOf192,Tryz.isAgg192,Tryz.zeroValue192,Tryz.underlying190,Tryz.runUnderlying190,Tryz.sizeOf190,Tryz.isAgg190,Tryz.zeroValue190,Tryz.underlying215,Tryz.runUnderlying215,Tryz.sizeOf215,Tryz.isAgg215,Tryz.zeroValue215,Tryz.underlying193,Tryz.runUnderlying193,Tryz.sizeOf193,Tryz.isAgg193,Tryz.zeroValue193,Tryz.underlying216,Tryz.runUnderlying216,Tryz.sizeOf216,Tryz.isAgg216,Tryz.zeroValue216,Tryz.underlying229,Tryz.runUnderlying229,Tryz.sizeOf229,Tryz.isAgg229,Tryz.zeroValue229,Tryz.underlying231,Tryz.runUnderlying231,Tryz.sizeOf231,Tryz.isAgg231,Tryz.zeroValue231,Tryz.underlying0,Tryz.runUnderlying0,Tryz.sizeOf0,Tryz.isAgg0,Tryz.zeroValue0,Tryz.underlying3,Tryz.runUnderlying3,Tryz.sizeOf3,Tryz.isAgg3,Tryz.zeroValue3,Tryz.underlying4,Tryz.runUnderlying4,Tryz.sizeOf4,Tryz.isAgg4,Tryz.zeroValue4,Tryz.underlying9,Tryz.runUnderlying9,Tryz.sizeOf9,Tryz.isAgg9,Tryz.zeroValue9,Tryz.underlying20,Tryz.runUnderlying20,Tryz.sizeOf20,Tryz.isAgg20,Tryz.zeroValue20,Tryz.underlying21,Tryz.runUnderlying21,Tryz.sizeOf21,Tryz.isAgg21,Tryz.zeroValue21,(by kernel_rfl),(by kernel_rfl)⟩
end Go.Tm
namespace Go.Tm
open Go.Conc Go.ConcN Go.RowKit Go.Conc.Lib Go.ConcR.Gen Go.ConcN.Gen
open Go.ConcR (KK wgBlock WgAt stA smA rd wr mk Payload Aside2 DC0)
section
variable {P:Program} {R:x6->x6->Prop} {D:x6->x6->Array Event->Prop} {St:Zx->x6->Prop} {F:x6->Prop} {a:Addr}
structure Fl(P:Program)(R:x6->x6->Prop)(D:x6->x6->Array Event->Prop)(St:Zx->x6->Prop)(F:x6->Prop)(a:Addr):Prop where
 refl:∀w,R w w
 trans:∀a b c,R a b->R b c->R a c
 keep:∀w i1,F w->R w i1->F i1
 stop:∀g w,St g w->∃g',stepG P false g w=.go g' w #[mk (.releaseMerge a)]
 dis:∀w w',¬D w w' #[mk .disable]
def Cv(P:Program)(R:x6->x6->Prop)(D:x6->x6->Array Event->Prop)(St:Zx->x6->Prop)(F:x6->Prop)(g:Zx):Prop:=∀w n,F w->Goes P false R D St n g w->∃m,Goes P false R DC0 St m g w
def Bad(P:Program)(R:x6->x6->Prop)(D:x6->x6->Array Event->Prop)(St:Zx->x6->Prop)(F:x6->Prop)(g:Zx):Prop:=∀w n,F w->¬Goes P false R D St n g w
def Cv.step(d:Fl P R D St F a){g g'}(k:g.status=.running)(h:∀w,F w->stepG P false g w=.go g' w #[])(l:Cv P R D St F g'):Cv P R D St F g:=by (intro w n i f;have no:¬St g w:=λj=>by obtain⟨p,e⟩:=d.stop g w j;rw[h w i]at e;simp at e);cases n with|zero=>exact absurd (f w (d.refl w)) no|succ n=>obtain f|⟨_,f⟩:=f;exact absurd (f w (d.refl w)) no;have:=f w (d.refl w);rw[h w i,goes_go]at this;obtain⟨m,o⟩:=l w _ i this.2;refine⟨m+1,.inr ⟨k,λb c=>?_⟩⟩;rw[h b (d.keep w b i c),goes_go];exact⟨⟨rfl,rfl⟩,Goes.rely d.trans o c⟩
def Bad.step(c:Fl P R D St F a){g g'}(j:g.status=.running)(h:∀w,F w->stepG P false g w=.go g' w #[])(i:Bad P R D St F g'):Bad P R D St F g:=by (intro w n d b;have no:¬St g w:=λf=>by obtain⟨k,e⟩:=c.stop g w f;rw[h w d]at e;simp at e);cases n with|zero=>exact absurd (b w (c.refl w)) no|succ n=>obtain b|⟨_,b⟩:=b;exact absurd (b w (c.refl w)) no;have:=b w (c.refl w);rw[h w d,goes_go]at this;exact i w _ d this.2
def Cv.stop(d:Fl P R D St F a){g g' es}(h:∀w,F w->stepG P false g w=.go g' w es)(e:Bad P R D St F g'):Cv P R D St F g:=by intro w n c b;cases n with|zero=>exact⟨0,b⟩|succ n=>obtain b|⟨_,b⟩:=b;exact⟨0,b⟩;have:=b w (d.refl w);rw[h w c,goes_go]at this;exact(e w _ c this.2).elim
def Bad.last(c:Fl P R D St F a){g g'}(h:∀w,F w->stepG P false g w=.go g' w #[mk .disable]):Bad P R D St F g:=by (intro w n f b;have no:¬St g w:=λd=>by obtain⟨i,e⟩:=c.stop g w d;rw[h w f]at e;simp[Go.ConcR.mk]at e);cases n with|zero=>exact absurd (b w (c.refl w)) no|succ n=>obtain b|⟨_,b⟩:=b;exact absurd (b w (c.refl w)) no;have:=b w (c.refl w);rw[h w f,goes_go]at this;exact c.dis _ _ this.1
def jT{mn}{b:Frame}{a k cs w ops i rest o}(v)(c:ops[i]? =some o)(d:Region.wanted o (yielded ops a.tmps)=true)(e:b.kind≠ .early) (f:(execOp a.eval o).run P w=.ok (.value v) w) (g:(execOp a.eval o).events P w #[]=#[]):stepG P mn (G (b.at a (.inRegion ops (i::rest)::k)) cs) w=.go (G (b.at (a.put o.dst v) (.inRegion ops rest::k)) cs) w #[]:=by rw[stepG_value c d e f];unfold listed;rw[g,seen_none]
def Cv.val(d:Fl P R D St F a){b:Frame}{c k cs ops i rest o}(v)(e:ops[i]? =some o)(f:Region.wanted o (yielded ops c.tmps)=true)(g:b.kind≠ .early) (j:∀w,F w->(execOp c.eval o).run P w=.ok (.value v) w) (l:∀w,F w->(execOp c.eval o).events P w #[]=#[]) (m:Cv P R D St F (G (b.at (c.put o.dst v) (.inRegion ops rest::k)) cs)):Cv P R D St F (G (b.at c (.inRegion ops (i::rest)::k)) cs):=
 .step d rfl (λw h=>jT v e f g (j w h) (l w h)) m
def C7{mn g g' w es}(h:(stepG P mn g w).goes λc w1 b=>c=g'/\w1=w/\b=es):stepG P mn g w=.go g' w es:=by cases e:stepG P mn g w with|go c w1 b=>rw[e,goes_go]at h;obtain⟨rfl,rfl,rfl⟩:=h;rfl|_=>rw[e]at h;exact h.elim
end
section
variable [Payload] {L:WgLink}
def TJ{P}(H:WgLib P L){Wg C n Low k val c cs j} (e:c.mode=.returning) (l:QuitsD P j 0 (G c cs)) (w) (f:WgLive L.tWg Wg w/\Has C (k-1) val w):∃m,Goes P false (RW L.tWg Wg C n Low (k-1)) DC0 (AtR0 P L.tWg Wg C n Low k val) m (G ((baseD L.done).at ⟨#[.pointer (some ⟨Wg,0,none⟩),undef,undef,undef],[]⟩ [.code (body_done L)]) (c::cs)) w:=by
 have i:=doneN (Own:=λ_ _=>False) (Rd:=λ_ _=>False) (n:=n) (Low:=Low) H e l w f;have b:Fl P (RW L.tWg Wg C n Low (k-1)) (DWs Wg (λ_ _=>False) (λ_ _=>False) C n k) (AtR0 P L.tWg Wg C n Low k val) (λw=>WgLive L.tWg Wg w/\Has C (k-1) val w) (stA Wg):=⟨RW.refl,λ_ _ _=>RW.trans,λ_ _=>kn_rely,λg w h=>⟨h.2.2.choose,h.2.2.choose_spec.1⟩,λw w' h=>(h.2 (mk .disable) (by simp)).2.1 rfl⟩
 refine(?_:Cv P _ _ _ (λw=>WgLive L.tWg Wg w/\Has C (k-1) val w) _) w _ f i;clear i
 lib_facts
 simp only[body_done,doneFn,WB];refine Cv.step b rfl (λ_ _=>stepG_region) ?_;simp only[U9,UM,UZ,Nat.reduceAdd,UR,List.range,List.range.loop];refine Cv.step b rfl (λw _=>jT (.pointer (some ⟨Wg,0,none⟩)) rfl rfl (by k_ne) (by go_simp;try decide) (by simp[go_sem, *])) ?_;walk_nrm
 refine Cv.step b rfl (λ_ _=>C7 (goes_call rfl rfl (by k_ne) rfl H.f_add (nm_add L) rfl ⟨rfl,rfl,rfl⟩)) ?_
 walk_nrmf addFn
 refine Cv.step b rfl (λ_ _=>stepG_seq) ?_;refine Cv.step b rfl (λ_ _=>stepG_cond (t:=true) rfl) ?_;simp only[UW,U5,U7,↓reduceIte];refine Cv.step b rfl (λ_ _=>stepG_seq) ?_;refine Cv.step b rfl (λ_ _=>stepG_seq) ?_;refine Cv.step b rfl (λ_ _=>stepG_region) ?_;simp only[U9,UM,UZ,Nat.reduceAdd,UR,List.range,List.range.loop];refine Cv.step b rfl (λw _=>jT (.i (-1)) rfl rfl (by k_ne) (by go_simp;try decide) (by simp[go_sem, *])) ?_;walk_nrm
 refine Cv.step b rfl (λw _=>jT (.bool true) rfl rfl (by k_ne) (by go_simp;try decide) (by simp[go_sem, *])) ?_;walk_nrm
 refine Cv.step b rfl (λ_ _=>stepG_region_end) ?_;refine Cv.step b rfl (λ_ _=>stepG_cond (t:=true) rfl) ?_;simp only[UW,U5,U7,↓reduceIte];refine Cv.step b rfl (λ_ _=>stepG_region) ?_;simp only[U9,UM,UZ,Nat.reduceAdd,UR,List.range,List.range.loop];refine Cv.step b rfl (λw _=>jT (.pointer (some ⟨Wg,0,none⟩)) rfl rfl (by k_ne) (by go_simp;try decide) (by simp[go_sem, *])) ?_;walk_nrm
 refine Cv.val b (.pointer (some ⟨Wg,0,none⟩)) rfl rfl (by k_ne) (λw d=>?_) (λw d=>?_) ?_
 .have o:=run_convert_to_unsafe (P:=P) H.underlying_tWgP H.underlying_tUP H.room_tWg (WgLive.cell0 d.1).choose_spec;go_simp
 .have p:=λes=>events_convert_to_unsafe (P:=P) H.underlying_tWgP H.underlying_tUP H.room_tWg (WgLive.cell0 d.1).choose_spec es;simp[go_sem, *]
 walk_nrm
 refine Cv.stop b (λw d=>stepG_markAt .releaseMerge (by simp) rfl rfl (by k_ne) rfl H.f_relMerge (x_relMerge_n L) (x_relMerge_b L) (x_relMerge_x L) (x_relMerge_f L) (ad:=⟨Wg,0,none⟩) (by simp[Act.eval,stA])) ?_;walk_nrm
 refine Bad.step b rfl (λ_ _=>stepG_region_end) ?_;refine Bad.step b rfl (λ_ _=>stepG_seq) ?_;refine Bad.step b rfl (λ_ _=>stepG_region) ?_;simp only[U9,UM,UZ,Nat.reduceAdd,UR,List.range,List.range.loop];exact Bad.last b λw d=>stepG_mark0 .disable (by simp) rfl rfl (by k_ne) rfl H.f_disable (x_disable_n L) (x_disable_b L) (x_disable_x L) (x_disable_f L)
end
end Go.Tm
namespace Go.Tm
open Go.Proofs Go.Conc Go.ConcN Go.Conc.Lib Go.ConcR.Gen Go.ConcN.Gen
open Go.ConcR (KK WgAt stA smA rd wr mk DC0)
section
variable {P:Program} {ty:TypeId} {Wg:Nat} {S:aL} {K M:Nat->Prop}
def C8{g w}(h:Still P ty Wg S K M g w):Run P false ty Wg S K M g w:=by obtain⟨m,h⟩:=h;induction m generalizing g w with|zero=>exact .stop h|succ m d=>obtain h|⟨e,h⟩:=h;exact .stop h;refine .ks e λa b=>?_;have:=h a b;cases c:stepG P false g a with|go g' w' es=>rw[c,goes_go]at this;obtain⟨⟨rfl,rfl⟩,f⟩:=this;refine⟨g',w',#[],rfl,Eff.refl _ _,by simp,?_⟩;rw[cN rfl,cN rfl];exact d f|_=>rw[c]at this;exact this.elim
end
local instance:Go.ConcR.Payload:=⟨66⟩
def yw{T Wg C v K M w}(a:K C)(b:w.cell? ⟨C,0,none⟩=some v)(c:WgLive 195 Wg w):Run Tryz.prog false 195 Wg (SR0 Tryz.prog 195 Wg) K M (G ((baseD 123).at ⟨T,[dcall 124 #[.pointer (some ⟨Wg,0,none⟩)]]⟩ []) [bot Tryz.prog]) w:=by refine Run.still rfl (λ_=>stepG_end) ?_;refine Run.still rfl (λ_=>stepG_unwind_enter rfl yv.f_done (nm_done link) rfl) ?_;(walk_nrmf doneFn);exact C8 (ni (n0:=0) a (TJ (k:=1) yv rfl (AW rfl rfl Tryz.func123 rfl) w ⟨c,b⟩) (TE a))
end Go.Tm
namespace Go.Tm
open Go.Proofs Go.Conc Go.ConcN Go.Conc.Lib Go.ConcR.Gen Go.ConcN.Gen
open Go.ConcR (KK WgAt stA smA rd wr mk DC0)
def ur{P mn}{b:Frame}{a k cs w ops i rest o f fn args e}(j:ops[i]? =some o)(l:Region.wanted o (yielded ops a.tmps)=true)(m:b.kind≠ .early) (d:o.op=.call {callee:=.value (.func f),args,argTypes:=e}) (g:P.funcs[f]? =some fn) (c:(fn.name== "runtime.NumGoroutine")=false) (h:fn.body.isNone=false):stepG P mn (G (b.at a (.inRegion ops (i::rest)::k)) cs) w=.go (G (Frame.enter P f (args.map a.eval) .normal) (b.at a (.inRegion ops (i::rest)::k)::cs)) w #[]:=by rw[stepG_enter j l m (run_call_body d g c h)];unfold listed;rw[events_call_body d g c h,seen_none]
def uu{b:Frame}{a k cs ops i rest}(v):Conc.served (G (b.at a (.inRegion ops (i::rest)::k)) cs) v=G (b.at (a.put ((ops[i]?).bind (·.dst)) v) (.inRegion ops rest::k)) cs:=by show G (Frame.finish _ v) cs=_;rw[<-Frame.finish_at];rfl
def C9:(Tryz.prog.info? 66).map (·.size)=some 3:=by kernel_rfl
def TK:(Tryz.f125.name== "runtime.NumGoroutine")=false:=by kernel_rfl
def TL:Tryz.f125.body.isNone=false:=by kernel_rfl
def TM:(Tryz.f123.name== "runtime.NumGoroutine")=false:=by kernel_rfl
noncomputable def JF:Code:=Tryz.f123.body.getD .skip
section
variable {Wg ch sb ib fb:Nat} {K:Nat->Prop} {z:Zj} {ok:Bool} {hc sc:Zq} {i:Int}
def Fs(E:K sb)(F:K ib)(f:K fb){w}(U:WgLive 195 Wg w)(hsb:w.heap[sb]? =some (.cells sc 125 (0,0)))(H:w.heap[ib]? =some (.cells #[.i i] 3 (0,0)))(hfb:w.heap[fb]? =some (.cells #[.chan (some ch)] 185 (0,0))) (j:hc.size=3) (p:hc.all (·.oneCell')=true) (P:∀b,K b->b≠Wg) (I:(Tryz.prog.info? 125).map (·.size)=some sc.size) (q:∀(Q) (C),(∀D J w',(∀b,K b->D b/\¬J b/\w'.heap[b]? =w.heap[b]?)->(∀b,D b->b<w'.heap.size)->WgLive 195 Wg w'->Run Tryz.prog false 195 Wg Q D J (G (C.finish (.tuple #[.agg hc,.bool ok])) [bot Tryz.prog]) w')->Run Tryz.prog false 195 Wg Q K (λ_=>False) (G (Frame.enter Tryz.prog 125 #[.agg sc,.i i] .normal) [C,bot Tryz.prog]) w):Run Tryz.prog false 195 Wg (SWk Tryz.prog 195 Wg ch z (if ok then some (.agg hc)else none)) K (λ_=>False) (born Tryz.prog {target:=.fn (.func 123) #[.pointer (some ⟨Wg,0,none⟩),.pointer (some ⟨sb,0,none⟩),.pointer (some ⟨ib,0,none⟩),.pointer (some ⟨fb,0,none⟩)],args:=#[]}) w:=by refine Run.still rfl (λ_=>AV (c:=JF) Tryz.func123 TM rfl) ?_;(walk_nrmf Tryz.f123);simp only[JF,Tryz.f123,WB];refine Run.still rfl (λ_=>stepG_seq) ?_;refine Run.still rfl (λ_=>stepG_region) ?_;simp only[U9,UM,UZ,Nat.reduceAdd,UR,List.range,List.range.loop];refine Run.still rfl (λ_=>stepG_defer rfl rfl (by k_ne) rfl) ?_;(walk_nrm);refine Run.still rfl (λ_=>stepG_region_end) ?_;refine Run.still rfl (λ_=>stepG_seq) ?_;refine Run.still rfl (λ_=>stepG_region) ?_;simp only[U9,UM,UZ,Nat.reduceAdd,UR,List.range,List.range.loop];refine Run.te rfl rfl (by k_ne) rfl rfl Tryz.underlying125 rfl E hsb I ?_;(walk_nrm);refine Run.Fq (A:=⟨ib,0,none⟩) (v:=.i i) rfl rfl (by k_ne) rfl rfl rfl Tryz.underlying3 rfl F (by simp[World.cell?,H]) ?_;(walk_nrm);refine Run.still rfl (λ_=>ur rfl rfl (by k_ne) rfl Tryz.func125 TK TL) ?_;(walk_nrm);refine q _ _ λD J w' r O s=>?_;rw[Frame.finish_at];(walk_nrm);refine Run.pure (.tuple #[.agg hc,.bool ok]) rfl rfl (by k_ne) (λ_=>rfl) (λ_=>rfl) ?_;(walk_nrm);refine Run.pure (.agg hc) rfl rfl (by k_ne) (λ_=>rfl) (λ_=>rfl) ?_;(walk_nrm);refine Run.pure (.bool ok) rfl rfl (by k_ne) (λ_=>rfl) (λ_=>rfl) ?_;(walk_nrm);(refine Run.fresh (ob:=.cells #[.i 0,.i 0,.i 0] 66 (0,0)) (λm=>.pointer (some ⟨m,0,none⟩)) rfl rfl (by k_ne) (λa=>by go_simp) (λa=>by simp[go_sem, *]) (λm w2 V u x R n=>?_) O;have L:=n s;have M:m≠Wg:=λe=>by obtain⟨st,sm,h⟩:=s;have:=(UO.1 (show w'.heap[Wg]? =some _ from h)).1;omega);(walk_nrm);refine Run.store (cells:=hc) rfl rfl (by k_ne) rfl rfl rfl x (by rw[j];exact C9) (by rw[j];rfl) p (.inr rfl) (.inr rfl) M (λw3 o d S k=>?_);have y:=k L;(walk_nrm);refine Run.pure (.bool ok) rfl rfl (by k_ne) (λ_=>rfl) (λ_=>rfl) ?_;(walk_nrm);refine Run.still rfl (λ_=>stepG_region_end) ?_;refine Run.still rfl (λ_=>stepG_seq) ?_;refine Run.still rfl (λ_=>stepG_region) ?_;simp only[U9,UM,UZ,Nat.reduceAdd,UR,List.range,List.range.loop];refine Run.pure (.bool ok) rfl rfl (by k_ne) (λ_=>rfl) (λ_=>rfl) ?_;(walk_nrm);(refine Run.still rfl (λ_=>stepG_region_end) ?_;refine Run.still rfl (λ_=>stepG_cond (t:=ok) rfl) ?_;have g:∀a:x6,a.heap[m]? =some (.cells hc 66 (0,0))->a.cell? ⟨m,0,none⟩=some (hc[0]?.getD undef):=λa h=>by simp[World.cell?,h,j]);(have B:w3.heap[fb]? =some (.cells #[.chan (some ch)] 185 (0,0)):=by have e1:=(r fb f).2.2;have T:=u fb (r fb f).1;have e3:=o fb (.inl (r fb f).1) (λe=>by have:=O fb (r fb f).1;omega);rw[e3,T,e1,hfb]);cases ok with|false=>simp only[U5,U7,↓reduceIte];refine Run.still rfl (λ_=>stepG_skip) ?_;exact yw (.inr rfl) (g w3 d) y|true=>simp only[UW,↓reduceIte];refine Run.still rfl (λ_=>stepG_region) ?_;simp only[U9,UM,UZ,Nat.reduceAdd,UR,List.range,List.range.loop];refine Run.Fq (A:=⟨fb,0,none⟩) (v:=.chan (some ch)) rfl rfl (by k_ne) rfl rfl rfl Tryz.underlying185 rfl (.inl (r fb f).1) (by simp[World.cell?,B]) ?_;(walk_nrm);refine Run.te rfl rfl (by k_ne) rfl rfl Tryz.underlying66 rfl (.inr rfl) d (by rw[j];exact C9) ?_;(walk_nrm);(refine .stop λa l=>⟨rfl,⟨_,?_,stepG_comm rfl rfl (by k_ne) rfl⟩,?_⟩);exact seen_none _ _;have N:=(l.keep m (.inr rfl)).trans d;rw[uu];(walk_nrm);refine Run.still rfl (λ_=>stepG_region_end) ?_;exact yw (.inr rfl) (g a N) (l.live y)
end
noncomputable def nU:Code:=match Tryz.f74.body with|some (.seq _ (.seq _ (.seq _ (.seq (.seq _ (.block _ (.loop c))) _))))=>c|_=>.skip
noncomputable def ki:Code:=match Tryz.f74.body with|some (.seq _ (.seq _ (.seq _ (.seq _ c))))=>c|_=>.skip
@[go_sem] theorem Uz(P)(fn)(first cap)(w):(Instr.makeFunc fn first cap).run P w=.ok (.func fn first cap) w:=by simp[Instr.makeFunc,go_sem]
@[go_sem] theorem Sl(P)(fn)(first cap)(w)(es):(Instr.makeFunc fn first cap).events P w es=es:=by simp[Instr.makeFunc,go_sem]
def JG{P mn}{b:Frame}{a k cs w ops i rest o f c x}(l:ops[i]? =some o)(m:Region.wanted o (yielded ops a.tmps)=true)(p:b.kind≠ .early) (g:o.op=.go {callee:=.value x,args:=#[],argTypes:=#[]}) (h:a.eval x=.func (.func f) #[] c):stepG P mn (G (b.at a (.inRegion ops (i::rest)::k)) cs) w=.spawn (G (b.at (a.put o.dst undef) (.inRegion ops rest::k)) cs) (born P {target:=.fn (.func f) c,args:=#[]}) w #[]:=by (have e:(execOp a.eval o).run P w=.ok (.spawn {target:=.fn (.func f) c,args:=#[]}) w:=by generalize a.eval=ρ at h;unfold execOp;simp[g,h,resolve,Deferred.ofValue,go_sem]);(have j:(execOp a.eval o).events P w #[]=#[]:=by clear e;generalize a.eval=ρ at h;unfold execOp;simp[g,h,resolve,Deferred.ofValue,go_sem]);rw[stepG_spawn (d:={target:=.fn (.func f) c,args:=#[]}) (w':=w) (f:=.func f) (c:=c) l m p e rfl];simp[listed,j,seen]
def TN:(Tryz.prog.info? 3).map (·.size)=some 1:=by kernel_rfl
section
variable {Wg ch sb fb n:Nat} {z:Zj} {An:aL} {HV:Nat->Option Zj} {Fin:List Zj->aL} {CS:List Frame} {sc:Zq} {Kold:Nat->Prop} {Y1:x6}
structure Stood(Wg ch sb fb:Nat)(sc:Zq)(Kold:Nat->Prop)(Y1:x6)(K:Nat->Prop)(w:x6):Prop where
 sb_:w.heap[sb]? =some (.cells sc 125 (0,0))
 fb_:w.heap[fb]? =some (.cells #[.chan (some ch)] 185 (0,0))
 old:∀b,Kold b->w.heap[b]? =Y1.heap[b]?
abbrev ptr(b:Nat):Zj:=.pointer (some ⟨b,0,none⟩)
def Stood.fx{K:Nat->Prop}(f:K sb)(g:K fb)(i:∀b,Kold b->K b)(d:∀b,K b->b≠Wg):nT 195 Wg K (Stood Wg ch sb fb sc Kold Y1 K):=⟨λw j r h=>⟨(r.keep sb f).trans h.sb_,(r.keep fb g).trans h.fb_,λb c=>(r.keep b (i b c)).trans (h.old b c)⟩,λw a v e h=>⟨by rw[dU w a v sb (by rw[e];exact d sb f)];exact h.sb_,by rw[dU w a v fb (by rw[e];exact d fb g)];exact h.fb_,λb c=>by rw[dU w a v b (by rw[e];exact d b (i b c))];exact h.old b c⟩⟩
def Stood.mono{K d}{w w':x6}(h:Stood Wg ch sb fb sc Kold Y1 K w)(e:K sb)(f:K fb)(g:∀b,Kold b->K b)(a:∀b,K b->w'.heap[b]? =w.heap[b]?):Stood Wg ch sb fb sc Kold Y1 d w':=⟨(a sb e).trans h.sb_,(a fb f).trans h.fb_,λb c=>(a b (g b c)).trans (h.old b c)⟩
def KW{ty Wg K}(n):nT ty Wg K (λw=>n<=w.heap.size):=⟨λ_ _ r h=>UJ h r.size,λw a v _ h=>by rw[fX];exact h⟩
def Qo{K M c r Nx a d w}(fx:nT 195 Wg K c) (b:∀(Fin),(∀w,WgLive 195 Wg w->Goes Tryz.prog true (RL 195 Wg) DC0 Fin 0 d w)->Goes Tryz.prog true (RL 195 Wg) DC0 (XKd Tryz.prog true 195 Wg Fin) 20 a w) (h:∀w,WgLive 195 Wg w->c w->Run Tryz.prog true 195 Wg (SGo Tryz.prog 195 Wg ch z HV n r Nx) K M d w) (e:c w):Run Tryz.prog true 195 Wg (SKd Tryz.prog 195 Wg ch z HV n r Nx) K M a w:=by refine dO fx ⟨_,b (λg w=>g=d/\WgLive 195 Wg w) λw i=>λf j=>⟨rfl,j i⟩⟩ e (Uy fx ?_);rintro g w ⟨rfl,k⟩ e;exact h w k e
noncomputable def tf(sb fb Wg n:Nat)(i:Int)(h j k l a b c d e f g:Zj):Zq:=#[h,ptr sb,.slice none 0 0,ptr fb,ptr Wg,j,undef,undef,k,l,a,b,.i n,.i i,c,d,e,f,g,undef,undef,undef,undef,undef,undef,undef,undef,undef,undef,undef,undef,undef]
def Iy(nb)(hn:n<2147483647) (A:∀i,i<n->∀(Y) (K) (w),K sb->K fb->K Y->(∀b,Kold b->K b)->(∀b,K b->b<w.heap.size)->(∀b,K b->b≠Wg)->WgLive 195 Wg w->Stood Wg ch sb fb sc Kold Y1 K w->w.heap[Y]? =some (.cells #[.i i] 3 (0,0))->Run Tryz.prog false 195 Wg (SWk Tryz.prog 195 Wg ch z (HV i)) K (λ_=>False) (born Tryz.prog {target:=.fn (.func 123) #[ptr Wg,ptr sb,ptr Y,ptr fb],args:=#[]}) w) (I:∀(K) (w) (J L M N d f g j k l o),K sb->K fb->(∀b,Kold b->K b)->(∀b,K b->b<w.heap.size)->(∀b,K b->b≠Wg)->WgLive 195 Wg w->Stood Wg ch sb fb sc Kold Y1 K w->nb<=w.heap.size->Run Tryz.prog true 195 Wg (KO Tryz.prog 195 Wg ch z An HV Fin n) K (λ_=>False) (G ((base 74).at ⟨tf sb fb Wg n n J L M N d f g j k l o,[]⟩ [.code ki]) CS) w):∀(r),r<=n->∀(K) (w) (J L M N d f g j k l o),K sb->K fb->(∀b,Kold b->K b)->(∀b,K b->b<w.heap.size)->(∀b,K b->b≠Wg)->WgLive 195 Wg w->Stood Wg ch sb fb sc Kold Y1 K w->nb<=w.heap.size->Run Tryz.prog true 195 Wg (SSp Tryz.prog 195 Wg ch z An HV Fin n r) K (λ_=>False) (G ((base 74).at ⟨tf sb fb Wg n ((n-r:Nat):Int) J L M N d f g j k l o,[]⟩ [.code nU,.inLoop nU,.inBlock 0,.code ki]) CS) w:=by
 intro r;induction r with
 |zero=>intro hr K w J L M N d f g j k l o s u v O Z X hs P;simp only[nU,Tryz.f74,tf];refine Run.still rfl (λ_=>stepG_seq) ?_;refine Run.still rfl (λ_=>stepG_region) ?_;simp only[U9,UM,UZ,UR,List.range,List.range.loop];refine Run.pure (.bool false) rfl rfl (by k_ne) (λ_=>by go_simp) (λ_=>by simp[go_sem]) ?_;(walk_nrm);refine Run.still rfl (λ_=>stepG_region_end) ?_;refine Run.still rfl (λ_=>stepG_seq) ?_;refine Run.still rfl (λ_=>stepG_cond (t:=false) rfl) ?_;simp only[U5,U7,↓reduceIte];refine Run.still rfl (λ_=>stepG_exit rfl) ?_;exact I K w _ _ _ _ _ _ _ _ _ _ _ s u v O Z X hs P
 |succ r ih=>(intro hr K w J L M N d f g j k l o s u v O Z X hs P;have ax:((n-(r+1):Nat):Int)<(n:Int):=by omega);(have aa:=ih (by omega);have ab:((n-(r+1):Nat):Int)+1=((n-r:Nat):Int):=by omega);(have ay:(0:Int)<=((n-(r+1):Nat):Int):=by omega);(have ad:n-(r+1)<n:=by omega);have af:=A _ ad;generalize hi:n-(r+1)=ix at*;simp only[nU,Tryz.f74,tf];refine Run.still rfl (λ_=>stepG_seq) ?_;refine Run.still rfl (λ_=>stepG_region) ?_;simp only[U9,UM,UZ,UR,List.range,List.range.loop];refine Run.pure (.bool true) rfl rfl (by k_ne) (λ_=>by go_simp) (λ_=>by simp[go_sem]) ?_;(walk_nrm);refine Run.still rfl (λ_=>stepG_region_end) ?_;refine Run.still rfl (λ_=>stepG_seq) ?_;refine Run.still rfl (λ_=>stepG_cond (t:=true) rfl) ?_;simp only[UW,↓reduceIte];refine Run.still rfl (λ_=>stepG_skip) ?_;refine Run.still rfl (λ_=>stepG_seq) ?_;refine Run.still rfl (λ_=>stepG_block) ?_;refine Run.still rfl (λ_=>stepG_seq) ?_;refine Run.still rfl (λ_=>stepG_region) ?_;simp only[U9,UM,UZ,Nat.reduceAdd,UR,List.range,List.range.loop];refine Run.pure (.i ix) rfl rfl (by k_ne) (λ_=>rfl) (λ_=>rfl) ?_;(walk_nrm);(refine Run.fresh (ob:=.cells #[.i 0] 3 (0,0)) (λm=>.pointer (some ⟨m,0,none⟩)) rfl rfl (by k_ne) (λQ=>by go_simp) (λQ=>by simp[go_sem, *]) (λm w2 hm R S aK B=>?_) O;have ag:=B X;have C:m≠Wg:=λe=>by obtain⟨st,sm,h⟩:=X;have:=(UO.1 (show w.heap[Wg]? =some _ from h)).1;omega);(have ak:∀b,K b->b≠m:=λb a e=>by have:=O b a;omega);(walk_nrm);refine Run.store (cells:=#[.i ix]) rfl rfl (by k_ne) rfl rfl rfl S TN rfl (by simp[Value.oneCell']) (.inr rfl) (.inr rfl) C (λw3 D E aM q=>?_);have an:=q ag;have ao:∀b,K b->w3.heap[b]? =w.heap[b]? :=λb a=>(D b (.inl a) (ak b a)).trans (R b a);(walk_nrm);(refine Run.still rfl (λ_=>stepG_region_end) ?_;refine Run.still rfl (λ_=>stepG_seq) ?_;refine Run.still rfl (λ_=>stepG_region) ?_;simp only[U9,UM,UZ,Nat.reduceAdd,UR,List.range,List.range.loop];let p:Nat->Prop:=λb=>K b\/b=m;have T:∀b,p b->b<w3.heap.size:=λb a=>a.elim (λx=>by have:=O b x;omega) λx=>by omega);(have F:∀b,p b->b≠Wg:=λb a=>a.elim (Z b) λx=>by rw[x];exact C);have U:Stood Wg ch sb fb sc Kold Y1 p w3:=hs.mono s u v ao;have fx:nT 195 Wg p (λw=>Stood Wg ch sb fb sc Kold Y1 p w/\w.heap[m]? =some (.cells #[.i ix] 3 (0,0))/\w3.heap.size<=w.heap.size):=(Stood.fx (.inl s) (.inl u) (λb a=>.inl (v b a)) F).and ((yq (.inr rfl) C).and (KW _));refine Run.still rfl (λ_=>C7 (goes_call (c:=body_add link) rfl rfl (by k_ne) rfl yv.f_add (nm_add link) rfl ⟨rfl,rfl,rfl⟩)) ?_;(walk_nrmf addFn);refine Qo fx (λFin hT=>Up yv hT w3 an) ?_ ⟨U,E,UI _⟩;rintro w4 V ⟨W,ar,aR⟩;(walk_nrm);refine Run.still rfl (λ_=>stepG_region_end) ?_;refine Run.still rfl (λ_=>stepG_region) ?_;simp only[U9,UM,UZ,Nat.reduceAdd,UR,List.range,List.range.loop];refine Run.pure (.func (.func 123) #[] #[ptr Wg,ptr sb,ptr m,ptr fb]) rfl rfl (by k_ne) (λ_=>by go_simp) (λ_=>by simp[go_sem]) ?_;(walk_nrm);(refine .stop λw5 y=>⟨rfl,_,_,p,JG rfl rfl (by k_ne) rfl rfl,rfl,rfl,λ_ x=>x,?_,?_⟩);have H:Stood Wg ch sb fb sc Kold Y1 p w5:=W.mono (.inl s) (.inl u) (λb a=>.inl (v b a)) λb a=>y.keep b a;rw[hi];exact af m p w5 (.inl s) (.inl u) (.inr rfl) (λb a=>.inl (v b a)) (λb a=>by have:=T b a;have:=y.size;omega) F (y.live V) H ((y.keep m (.inr rfl)).trans ar);(walk_nrm);refine Run.still rfl (λ_=>stepG_region_end) ?_;refine Run.still rfl (λ_=>stepG_inBlock) ?_;refine Run.still rfl (λ_=>stepG_region) ?_;simp only[U9,UM,UZ,Nat.reduceAdd,UR,List.range,List.range.loop];refine Run.pure (.i ((n-r:Nat):Int)) rfl rfl (by k_ne) (λ_=>by go_simp;exact IntWalk.i64_in _ (by omega)) (λ_=>by simp[go_sem]) ?_;(walk_nrm);refine Run.pure (.i ((n-r:Nat):Int)) rfl rfl (by k_ne) (λ_=>rfl) (λ_=>rfl) ?_;(walk_nrm);refine Run.still rfl (λ_=>stepG_region_end) ?_;refine Run.still rfl (λ_=>stepG_inLoop) ?_;have H:Stood Wg ch sb fb sc Kold Y1 p w5:=W.mono (.inl s) (.inl u) (λb a=>.inl (v b a)) λb a=>y.keep b a;exact aa p w5 _ _ _ _ _ _ _ _ _ _ _ (.inl s) (.inl u) (λb a=>.inl (v b a)) (λb a=>by have:=T b a;have:=y.size;omega) F (y.live V) H (by have:=y.size;omega)
end
def TO:(Tryz.f126.name== "runtime.NumGoroutine")=false:=by kernel_rfl
noncomputable def JH:Code:=Tryz.f126.body.getD .skip
section
variable {Wg ch fb:Nat} {K M:Nat->Prop}
def Ft(o:K fb)(n:fb≠Wg):∃An,(∀k l g w,An k l g w->Run Tryz.prog false 195 Wg (SW1 Tryz.prog 195 Wg ch An) k l g w)/\∀w,WgLive 195 Wg w->w.heap[fb]? =some (.cells #[.chan (some ch)] 185 (0,0))->Run Tryz.prog false 195 Wg (SWd Tryz.prog 195 Wg ch An) K M (born Tryz.prog {target:=.fn (.func 126) #[.pointer (some ⟨Wg,0,none⟩),.pointer (some ⟨fb,0,none⟩)],args:=#[]}) w:=by (have fx:nT 195 Wg K (λw=>w.heap[fb]? =some (.cells #[.chan (some ch)] 185 (0,0))):=yq o n;let b:Frame:=baseD 126;let d:Zq:=#[.pointer (some ⟨Wg,0,none⟩),.pointer (some ⟨fb,0,none⟩),undef,undef]);(let a:Array Oper:=match Tryz.f126.body with|some (.seq (.region _ ops _) _)=>ops|_=>#[]);(let e:Array Oper:=match Tryz.f126.body with|some (.seq _ (.region _ ops _))=>ops|_=>#[]);(let f:List Item:=[.code (.region 1 e false)]);(let p:Zx->x6->Prop:=λg w=>g=G (b.at (Act.put ⟨d,[]⟩ ((a[0]?).bind (·.dst)) (.tuple #[])) (.inRegion a []::f)) [bot Tryz.prog];have q:∀g w,p g w->w.heap[fb]? =some (.cells #[.chan (some ch)] 185 (0,0))->Run Tryz.prog false 195 Wg (SCl Tryz.prog ch) K M g w:=by rintro g w rfl u;refine Run.still rfl (λ_=>stepG_region_end) ?_;refine Run.still rfl (λ_=>stepG_region) ?_;simp only[e,b,d,a,Tryz.f126,U9,UM,UZ,Nat.reduceAdd,UR,List.range,List.range.loop];(walk_nrm);refine Run.Fq (A:=⟨fb,0,none⟩) (v:=.chan (some ch)) rfl rfl (by k_ne) rfl rfl rfl Tryz.underlying185 rfl o (by simp[World.cell?,u]) ?_;(walk_nrm);(refine .stop λi t=>⟨rfl,rfl,λs r z x=>⟨_,stepG_close rfl rfl (by k_ne) rfl rfl x (by simp[baseD,Frame.at,Tryz.func126,Tryz.f126]),4,?_⟩⟩);(walk_nrm);refine QuitsD.ctl rfl (λ_=>stepG_region_end) ?_;refine QuitsD.ctl rfl (λ_=>stepG_end) ?_;exact AW rfl rfl Tryz.func126 rfl);have j:∀g w,XAn link Wg (b.at ⟨d,[]⟩ (.inRegion a (0::[])::f)) [bot Tryz.prog] g w->∃m,Goes Tryz.prog false (RL 195 Wg) DC0 (XW1 Tryz.prog false 195 Wg p (XAn link Wg (b.at ⟨d,[]⟩ (.inRegion a (0::[])::f)) [bot Tryz.prog])) m g w:=λg w h=>Tx (mT:=0) yv (λw _=>λi _=>rfl) g w h;refine⟨AnF K M _ _,λk l g w=>NV fx q j k l g w,λw y hfb=>?_⟩;refine Run.still rfl (λ_=>AV (c:=JH) Tryz.func126 TO rfl) ?_;(walk_nrmf Tryz.f126);simp only[JH,Tryz.f126,WB];refine Run.still rfl (λ_=>stepG_seq) ?_;refine Run.still rfl (λ_=>stepG_region) ?_;simp only[U9,UM,UZ,Nat.reduceAdd,UR,List.range,List.range.loop];refine Run.still rfl (λ_=>C7 (goes_call (c:=body_wait link) rfl rfl (by k_ne) rfl yv.f_wait (nm_wait link) rfl ⟨rfl,rfl,rfl⟩)) ?_;(walk_nrmf waitFn);exact dO fx ⟨_,Im yv w y⟩ hfb (Uv fx q j)
end
noncomputable def pr:Code:=match ki with| .seq _ (.seq _ (.seq (.seq _ (.block _ (.loop c))) _))=>c|_=>.skip
noncomputable def yz:Code:=match ki with| .seq _ (.seq _ (.seq _ c))=>c|_=>.skip
noncomputable def Df:Array Oper:=match pr with| .seq (.region _ ops _) _=>ops|_=>#[]
noncomputable def AX:Code:=match pr with| .seq _ c=>c|_=>.skip
def fG(a b c:Int):Zj:=.agg #[.i a,.i b,.i c]
def kH:List Zj:=[.i 0,.i 0,.i 0]
def bE(a:List Zj):List Zj:=a.flatMap λv=>v.cells.toList
section
variable {Wg ch sb fb n N0:Nat} {An:aL} {HV:Nat->Option Zj} {CS:List Frame} {sc:Zq} {Kold:Nat->Prop} {Y1:x6}
noncomputable def vt(sb fb Wg ch:Nat)(s t u v w x a b c d e f g h i j k l m o p q r:Zj):Zq:=#[s,ptr sb,.slice none 0 0,ptr fb,ptr Wg,t,u,v,w,x,a,b,c,d,e,f,g,h,i,j,.chan (some ch),k,l,m,o,p,q,r,undef,undef,undef,undef]
structure pv(Wg ch sb fb N0:Nat)(sc:Zq)(Kold:Nat->Prop)(Y1:x6)(K M:Nat->Prop)(w:x6)(v6:Zj)(hs:List Zj):Prop where
 ksb:K sb
 kfb:K fb
 NX:∀b,Kold b->K b
 kl:∀b,K b->b<w.heap.size
 kw:∀b,K b->b≠Wg
 live:WgLive 195 Wg w
 st:Stood Wg ch sb fb sc Kold Y1 K w
 row:ma w N0 66 kH v6 hs.length (bE hs)
 own:∀g,v6.ownBlock=some g->K g/\M g/\g≠Wg/\g≠sb/\g≠fb/\¬Kold g
 base:N0<=w.heap.size
 RF:sb<N0/\fb<N0/\∀b,Kold b->b<N0
def JI(Wg ch sb fb N0:Nat)(sc:Zq)(Kold:Nat->Prop)(Y1:x6)(CS:List Frame)(u:List Zj):aL:=λK M g w=>
 ∃v x t y z A a b c d e f h i j k l m o p q r s:Zj,
  g=Conc.served (G ((base 74).at ⟨vt sb fb Wg ch v x t y z A a b c d e f h i j k l m o p q r s,[]⟩ [.inRegion Df [0,1],.code AX,.inLoop pr,.inBlock 2,.code yz]) CS) (.tuple #[fG 0 0 0,.bool false])/\
  pv Wg ch sb fb N0 sc Kold Y1 K M w t u
def pv.rely{K M w a c hs}(h:pv Wg ch sb fb N0 sc Kold Y1 K M w c hs)(r:RK 195 Wg K w a):pv Wg ch sb fb N0 sc Kold Y1 K M a c hs:=⟨h.ksb,h.kfb,h.NX,λb d=>UL (h.kl b d) r.size,h.kw,r.live h.live,h.st.mono h.ksb h.kfb h.NX r.keep,h.row.keep λg e=>r.keep g (h.own g e).1,h.own,UJ h.base r.size,h.RF⟩
def Qp:(Tryz.prog.info? 66).map (λi=>(i.zero,i.size,i.bytes))=some (some (fG 0 0 0),3,24):=by kernel_rfl
def nL:∃i,Tryz.prog.info? 66=some i/\i.zero=some (fG 0 0 0)/\i.size=3/\i.bytes=24:=by obtain⟨i,b,a⟩:=Vi.1 Qp;simp only[XX]at a;exact⟨i,b,a.1,a.2.1,a.2.2⟩
def AY{u v x y z A a b c d e f g h j l m o p q r s t:Zj}{k:List Item}{w:x6}:stepG Tryz.prog true (G ((base 74).at ⟨vt sb fb Wg ch u v x y z A a b c d e f g h j l m o p q r s t,[]⟩ (.inRegion Df (0::[1])::k)) CS) w= .comm {G ((base 74).at ⟨vt sb fb Wg ch u v x y z A a b c d e f g h j l m o p q r s t,[]⟩ (.inRegion Df (0::[1])::k)) CS with offers:=none} #[rcase ch (fG 0 0 0)] true (.recv true) w #[]:=by (obtain⟨i,B,C,_⟩:=nL;have D:(zeroValue 66).run Tryz.prog w=.ok (fG 0 0 0) w:=by simp[zeroValue,typeInfo,B,C]);simp only[Df,pr,ki,Tryz.f74,vt];rw[stepG_comm (cases:=#[rcase ch (fG 0 0 0)]) (blocking:=true) (shape:=.recv true) (w':=w) rfl rfl (by k_ne) (by simp[go_sem,rcase,D])];simp[listed,go_sem,seen];rfl
def KY(hn:n<2147483647)(a8:∀i v,i<n->HV i=some v->∃a b c,v=fG a b c):∀(r) (s),r+s.length<=n->∀(K M) (w) (x0 x5 V x7 x8 x9 y A B C D E F H I J L N O P Q R S),pv Wg ch sb fb N0 sc Kold Y1 K M w V s->Run Tryz.prog true 195 Wg (pj Tryz.prog 195 Wg ch (fG 0 0 0) HV (JI Wg ch sb fb N0 sc Kold Y1 CS) n r s) K M (G ((base 74).at ⟨vt sb fb Wg ch x0 x5 V x7 x8 x9 y A B C D E F H I J L N O P Q R S,[]⟩ [.code pr,.inLoop pr,.inBlock 2,.code yz]) CS) w:=by
 intro r;induction r with
 |zero=>(intro s hr K M w x0 x5 V x7 x8 x9 y A B C D E F H I J L N O P Q R S hA;refine Run.still rfl (λ_=>stepG_seq) ?_;refine Run.still rfl (λ_=>stepG_region) ?_;refine .stop λd q=>⟨rfl,?_,?_⟩);exact AY;exact⟨x0,x5,V,x7,x8,x9,y,A,B,C,D,E,F,H,I,J,L,N,O,P,Q,R,S,rfl,hA.rely q⟩
 |succ r ih=>(intro s hr K M w x0 x5 V x7 x8 x9 y A B C D E F H I J L N O P Q R S hA;refine Run.still rfl (λ_=>stepG_seq) ?_;refine Run.still rfl (λ_=>stepG_region) ?_;refine .stop λd q=>⟨rfl,?_,?_,?_⟩);exact AY;exact⟨x0,x5,V,x7,x8,x9,y,A,B,C,D,E,F,H,I,J,L,N,O,P,Q,R,S,rfl,hA.rely q⟩;intro i v hi hv;obtain⟨W,X,Y,rfl⟩:=a8 i v hi hv;have f:=hA.rely q;have aK:=ih (s++[fG W X Y]) (by simp;omega);change Run _ _ _ _ _ _ _ (Conc.served (G ((base 74).at _ (.inRegion Df (0::[1])::[.code AX,.inLoop pr,.inBlock 2,.code yz])) CS) _) _;rw[uu];simp only[Df,AX,pr,ki,yz,Tryz.f74,vt]at aK⊢;(walk_nrm);refine Run.pure (.bool true) rfl rfl (by k_ne) (λ_=>rfl) (λ_=>rfl) ?_;(walk_nrm);refine Run.still rfl (λ_=>stepG_region_end) ?_;refine Run.still rfl (λ_=>stepG_seq) ?_;refine Run.still rfl (λ_=>stepG_cond (t:=true) rfl) ?_;simp only[↓reduceIte];refine Run.still rfl (λ_=>stepG_skip) ?_;refine Run.still rfl (λ_=>stepG_block) ?_;refine Run.still rfl (λ_=>stepG_seq) ?_;refine Run.still rfl (λ_=>stepG_region) ?_;simp only[U9,UM,UZ,Nat.reduceAdd,UR,List.range,List.range.loop];refine Run.pure (fG W X Y) rfl rfl (by k_ne) (λ_=>rfl) (λ_=>rfl) ?_;(walk_nrm);(refine Run.fresh (ob:=.cells #[.i 0,.i 0,.i 0] 66 (0,0)) (λm=>.pointer (some ⟨m,0,none⟩)) rfl rfl (by k_ne) (λd=>by go_simp) (λd=>by simp[go_sem, *]) (λm w2 hm aM aR bC af=>?_) f.kl;have a1:m≠Wg:=λe=>by obtain⟨st,sm,h⟩:=f.live;have:=(UO.1 (show d.heap[Wg]? =some _ from h)).1;omega);(have ba:∀b,K b->b≠m:=λb k e=>by have:=f.kl b k;omega);(walk_nrm);refine Run.store (cells:=#[.i W,.i X,.i Y]) rfl rfl (by k_ne) rfl rfl rfl aR C9 rfl (by simp[Value.oneCell']) (.inr rfl) (.inr rfl) a1 (λw3 ag ak b0 Z=>?_);(walk_nrm);refine Run.still rfl (λ_=>stepG_region_end) ?_;refine Run.still rfl (λ_=>stepG_region) ?_;simp only[U9,UM,UZ,Nat.reduceAdd,UR,List.range,List.range.loop];refine Run.pure V rfl rfl (by k_ne) (λ_=>rfl) (λ_=>rfl) ?_;(walk_nrm);refine Run.te rfl rfl (by k_ne) rfl rfl Tryz.underlying66 rfl (.inr rfl) ak C9 ?_;(walk_nrm);(refine Run.fresh (ob:=.cells #[.i W,.i X,.i Y] 66 (0,0)) (λm=>.slice (some ⟨m,0,none⟩) 1 1) rfl rfl (by k_ne) (λd=>by go_simp) (λd=>by simp[go_sem, *]) (λm2 w4 b1 an o b2 aa=>?_) (λb k=>k.elim (λx=>by have:=f.kl b x;omega) λx=>by omega);have a6:m2≠Wg:=λe=>by obtain⟨st,sm,h⟩:=f.live;have:=(UO.1 (show d.heap[Wg]? =some _ from h)).1;omega);(have T:∀b,K b->w4.heap[b]? =d.heap[b]? :=λb k=>(an b (.inl k)).trans ((ag b (.inl k) (ba b k)).trans (aM b k));have l:=aa (Z (af f.live));have a7:d.heap.size<=w4.heap.size:=by omega);obtain⟨inf,bb,bk,bm,bo⟩:=nL;(walk_nrm);refine Run.append (base:=N0) (e:=66) (inf:=inf) (z:=fG 0 0 0) (zc:=kH) (bytes:=24) (n:=s.length) (xs:=bE s) (news:=[.i W,.i X,.i Y]) (v:=V) (ad:=⟨m2,0,none⟩) (m:=1) (c:=1) (t:=62) rfl rfl (by k_ne) rfl rfl rfl Tryz.underlying62 bb bk (by rw[bm];rfl) bo rfl (by simp[kH]) (f.row.keep λg U=>T g (f.own g U).1) (λg U=>?_) (.inr rfl) rfl ?_ (by simp[Value.oneCell']) ?_ ?_ (UJ f.base a7) (by omega) ?_ ?_ ?_;have:=f.own g U;exact⟨.inl (.inl this.1),.inl (.inl this.2.1),this.2.2.1⟩;intro j u hu;(match j,hu with|0,hu=>simpa[World.cell?,o,Addr.add]using hu|1,hu=>simpa[World.cell?,o,Addr.add]using hu|2,hu=>simpa[World.cell?,o,Addr.add]using hu|j+3,hu=>simp at hu);simp only[maxLen];omega;omega;rintro b (k|rfl);have:=f.kl;obtain k|rfl:=k;have:=f.kl b k;omega;omega;omega;obtain⟨st,sm,h⟩:=l;exact(UO.1 (show w4.heap[Wg]? =some _ from h)).1;(intro K' M' v' w5 ao ar ax br ab ay bs bx b3 b4;have b5:Wg<w4.heap.size:=by obtain⟨st,sm,h⟩:=l;exact(UO.1 (show w4.heap[Wg]? =some _ from h)).1);(have bA:=UJ f.base a7;have p:∀b,K b->(∀g,V.ownBlock=some g->g≠b)->w5.heap[b]? =d.heap[b]? :=λb k bB=>(ax b (.inl (.inl k)) λe=>bB b e.symm rfl).trans (T b k);have hR:pv Wg ch sb fb N0 sc Kold Y1 K' M' w5 v' (s++[fG W X Y]):=by refine⟨ay sb (.inl (.inl f.ksb)),ay fb (.inl (.inl f.kfb)),λb k=>ay b (.inl (.inl (f.NX b k))),bx,λb k=>?_,ab l,⟨?_,?_,λb k=>?_⟩,?_,λg U=>?_,UJ bA br,f.RF⟩;(rcases bs b k with((x|rfl)|rfl)|x);exact f.kw b x;exact a1;exact a6;omega;exact(p sb f.ksb λg U=>(f.own g U).2.2.2.1).trans f.st.sb_;exact(p fb f.kfb λg U=>(f.own g U).2.2.2.2.1).trans f.st.fb_;exact(p b (f.NX b k) λg U e=>(f.own g U).2.2.2.2.2 (e▸k)).trans (f.st.old b k);(have e1:(s++[fG W X Y]).length=s.length+1:=by simp);(have e2:bE (s++[fG W X Y])=bE s++[.i W,.i X,.i Y]:=by simp[bE,fG,Value.cells]);rw[e1,e2];exact ao;obtain⟨g1,g2,g3,g4⟩:=ar g U;refine⟨g1,g2,g3,?_⟩;obtain g4|g4:=g4;exact(f.own g g4.symm).2.2.2;have:=f.RF;exact⟨by omega,by omega,λx=>by have:=this.2.2 g x;omega⟩);(walk_nrm);refine Run.pure v' rfl rfl (by k_ne) (λ_=>rfl) (λ_=>rfl) ?_;(walk_nrm);refine Run.still rfl (λ_=>stepG_region_end) ?_;refine Run.still rfl (λ_=>stepG_inBlock) ?_;refine Run.still rfl (λ_=>stepG_inLoop) ?_;exact aK K' M' w5 _ _ _ _ _ _ _ _ _ _ _ _ _ _ _ _ _ _ _ _ _ _ _ hR
def KZ(I:n<2147483647)(t:∀i v,i<n->HV i=some v->∃a b c,v=fG a b c)(J:sb<N0/\fb<N0/\∀b,Kold b->b<N0) (f:∀w,WgLive 195 Wg w->w.heap[fb]? =some (.cells #[.chan (some ch)] 185 (0,0))->Run Tryz.prog false 195 Wg (SWd Tryz.prog 195 Wg ch An) (λb=>b=fb) (λ_=>False) (born Tryz.prog {target:=.fn (.func 126) #[ptr Wg,ptr fb],args:=#[]}) w):∀(K) (w) (y z B C h j k l m o p),K sb->K fb->(∀b,Kold b->K b)->(∀b,K b->b<w.heap.size)->(∀b,K b->b≠Wg)->WgLive 195 Wg w->Stood Wg ch sb fb sc Kold Y1 K w->N0<=w.heap.size->Run Tryz.prog true 195 Wg (KO Tryz.prog 195 Wg ch (fG 0 0 0) An HV (JI Wg ch sb fb N0 sc Kold Y1 CS) n) K (λ_=>False) (G ((base 74).at ⟨tf sb fb Wg n n y z B C h j k l m o p,[]⟩ [.code ki]) CS) w:=by intro K w y z B C h j k l m o p D q E L M F H u;have r:=KY (Wg:=Wg) (ch:=ch) (sb:=sb) (fb:=fb) (N0:=N0) (HV:=HV) (CS:=CS) (sc:=sc) (Kold:=Kold) (Y1:=Y1) I t n [] (by simp);simp only[Df,AX,pr,ki,yz,Tryz.f74,vt,tf]at r⊢;refine Run.still rfl (λ_=>stepG_seq) ?_;refine Run.still rfl (λ_=>stepG_region) ?_;simp only[U9,UM,UZ,Nat.reduceAdd,UR,List.range,List.range.loop];refine Run.pure (.func (.func 126) #[] #[ptr Wg,ptr fb]) rfl rfl (by k_ne) (λ_=>by go_simp) (λ_=>by simp[go_sem]) ?_;(walk_nrm);(refine .stop λi1 d=>⟨rfl,_,_,λb=>b=fb,JG rfl rfl (by k_ne) rfl rfl,rfl,rfl,λb e=>by rw[e];exact q,f i1 (d.live F) ((d.keep fb q).trans H.fb_),?_⟩);have s:Stood Wg ch sb fb sc Kold Y1 K i1:=H.mono D q E d.keep;have x:=d.live F;(walk_nrm);refine Run.still rfl (λ_=>stepG_region_end) ?_;refine Run.still rfl (λ_=>stepG_seq) ?_;refine Run.still rfl (λ_=>stepG_region) ?_;simp only[U9,UM,UZ,Nat.reduceAdd,UR,List.range,List.range.loop];refine Run.pure (.slice none 0 0) rfl rfl (by k_ne) (λ_=>rfl) (λ_=>rfl) ?_;(walk_nrm);refine Run.still rfl (λ_=>stepG_region_end) ?_;refine Run.still rfl (λ_=>stepG_seq) ?_;refine Run.still rfl (λ_=>stepG_seq) ?_;refine Run.still rfl (λ_=>stepG_region) ?_;simp only[U9,UM,UZ,Nat.reduceAdd,UR,List.range,List.range.loop];refine Run.Fq (A:=⟨fb,0,none⟩) (v:=.chan (some ch)) rfl rfl (by k_ne) rfl rfl rfl Tryz.underlying185 rfl q (by simp[World.cell?,s.fb_]) ?_;(walk_nrm);refine Run.still rfl (λ_=>stepG_region_end) ?_;refine Run.still rfl (λ_=>stepG_block) ?_;refine Run.still rfl (λ_=>stepG_loop) ?_;refine r K (λ_=>False) i1 _ _ _ _ _ _ _ _ _ _ _ _ _ _ _ _ _ _ _ _ _ _ _ ⟨D,q,E,λb N=>UL (L b N) d.size,M,x,s,⟨rfl,.inl ⟨rfl,rfl⟩⟩,(λg O=>by cases O),UJ u d.size,J⟩
end
end Go.Tm

import Derived.Test.YtaglpcmhopjebaaGreatDoorQ11
set_option linter.all false
set_option maxRecDepth 100000
set_option maxHeartbeats 20000000
namespace Go.Tm
open Go.Conc Go.ConcN Go.Conc.Lib
open Go.ConcR (KK WgAt stA smA rd wr mk DC0 Bk)
section
variable {P:Program} {ty:TypeId} {Wg ch:Nat} {z:Value} {An:aJ} {HV:Nat->Option Value} {Fin:List Value->aJ} {n base N0:Nat} {shun:Nat->Prop} {W₀:World} {t₀ t:Trace} {gs:Array Goroutine} {w w':World} {sl:Option (Nat×Nat)} {σ:GSt P ty Wg}
def fj.bound{mt j d K M ρ g}(h:fj P ty Wg ch z An HV Fin n mt j d K M ρ g w):j+mt.pend<=n:=by cases h<;>simp only[nw.pend]<;>(try simp)<;>omega
def dN(P ty)(Wg ch:Nat)(z:Value)(An:aJ)(HV:Nat->Option Value)(Fin:List Value->aJ)(n base N0:Nat)(shun:Nat->Prop)(W₀:World)(t₀ t:Trace)(gs:Array Goroutine)(w:World)(sl:Option (Nat×Nat))(σ:GSt P ty Wg)(x:Nat):Prop:=∃gs' w' ops a,runT P (crowd gs w sl) x=(.next (crowd gs' w' sl),ops)/\GI P ty Wg ch z An HV Fin n base N0 shun W₀ t₀ gs' w' (t++ops) a/\Dn P ty Wg (mu (n:=n) (base:=base) a) (mu (n:=n) (base:=base) σ)
def bS{a b}(h:a<b){x y}:Rk.lt P ty Wg (a,x) (b,y):=Prod.Lex.left _ _ h
def qk{a p q}(h:p<q){x y}:Rk.lt P ty Wg (a,p,x) (a,q,y):=Prod.Lex.right _ (Prod.Lex.left _ _ h)
def eQ{a p x y}(h:RC.lt P ty Wg x y):Rk.lt P ty Wg (a,p,x) (a,p,y):=Prod.Lex.right _ (Prod.Lex.right _ h)
def wI(G:fo Wg ch base N0 shun)(h:GI P ty Wg ch z An HV Fin n base N0 shun W₀ t₀ gs w t σ){i}(p:i<σ.j){g g' es ρ'}
 (B:gs[base+i]? =some g) (q:stepG P false g w=.go g' w' es) (f:g'.status=.running) (J:(σ.D i).s=8\/(σ.D i).s=6) (r:(σ.D i).d=0)
 (a:Eff (σ.D i).M w w') (k:∀e∈es,EvK Wg (orK (σ.D i).K w w') (orK (σ.D i).M w w') e)
 (C:WSit P ty Wg ch z (HV i) ⟨(σ.D i).s,0,orK (σ.D i).K w w',orK (σ.D i).M w w'⟩ ρ' g' w') (u:Rk.lt P ty Wg ρ' (σ.R i)):
 dN P ty Wg ch z An HV Fin n base N0 shun W₀ t₀ t gs w sl σ (base+i):=by
 have W:=h.w_;have T:=h.t_;have o:=G.lg;have y:=T.tr.uE Wg (.inl rfl);have c:∀b,b<w.heap.size->σ.own b≠base+i->w'.heap[b]? =w.heap[b]? :=λb l m=>a.keep b l λE=>m (W.mw i p b E);obtain⟨gs',v,l,m,F⟩:=h.worker (sl:=sl) (D':=⟨(σ.D i).s,0,orK (σ.D i).K w w',orK (σ.D i).M w w'⟩) (st':=σ.st) (sm':=σ.sm) G p B q (.inl f) ⟨a.os,a.tape,a.output⟩ a.size (λb l _ m=>c b l m)
  (W.wg.of_block (c Wg W.sp.1 (by omega))) (λe H=>.inl (k e H)) (λb o=>o) (λb o=>o) C u (by rw[wH k];exact r) (λA=>by omega) (λA=>by simp only at A;omega)
  (λI x _=>(h.m_.same (D':=⟨(σ.D i).s,0,orK (σ.D i).K w w',orK (σ.D i).M w w'⟩) p (.inl rfl)).retag x) T1 (by simp only;omega)
 exact⟨gs',w',_,v,l,m,F⟩
def ij(G:fo Wg ch base N0 shun)(h:GI P ty Wg ch z An HV Fin n base N0 shun W₀ t₀ gs w t σ){i}(k:i<σ.j){g g' ρ'}
 (l:gs[base+i]? =some g) (b:stepG P false g w=.go g' w #[]) (a:g'.status=.running\/g'.status=.finished) (m:(σ.D i).s≠7)
 (o:WSit P ty Wg ch z (HV i) ⟨(σ.D i).s,(σ.D i).d,(σ.D i).K,(σ.D i).M⟩ ρ' g' w) (c:Rk.lt P ty Wg ρ' (σ.R i)):
 dN P ty Wg ch z An HV Fin n base N0 shun W₀ t₀ t gs w sl σ (base+i):=by
 obtain⟨gs',e,p,q,u⟩:=h.fP (sl:=sl) (w':=w) (st':=σ.st) (sm':=σ.sm) G k l b a (.inl rfl) h.w_.wg (by simp) o c rfl (λ_ r v=>qj v (by simp)) (λx=>.inl x)
  (λy f _=>(h.m_.same k (.inl rfl)).retag f) T1 m
 exact⟨gs',w,_,e,p,q,u⟩
def LD{m:Mark}(h:∀a,m≠ .read a/\m≠ .write a):(MemAct.ofEvent (mk m)).touch?=none:=by
 unfold Go.ConcR.mk;cases m<;>simp[MemAct.ofEvent,MemAct.touch?]
 ·exact absurd rfl (h _).1
 ·exact absurd rfl (h _).2
def oa(G:fo Wg ch base N0 shun)(h:GI P ty Wg ch z An HV Fin n base N0 shun W₀ t₀ gs w t σ){i}(k:i<σ.j){g}
 (u:gs[base+i]? =some g) (v:(σ.D i).s=8/\HV i=none\/(σ.D i).s=6) (c:(σ.D i).d=0) {ρ} (y:σ.R i=((σ.D i).s,ρ)) (A:SR0 P ty Wg (σ.D i).K (σ.D i).M g w):
 dN P ty Wg ch z An HV Fin n base N0 shun W₀ t₀ t gs w sl σ (base+i):=by
 obtain⟨H,g',l,m,f⟩:=A;have o:=(h.t_.dw i k).trans c;obtain⟨gs',p,B,C,E⟩:=h.fP (sl:=sl) (w':=w) (s':=5) (d':=0) (ρ':=(5,m,ρ.2)) (st':=σ.st) (sm':=σ.sm) G k u l (.inl (bZ (λ_ _ x=>x.1) f)) (.inl rfl) h.w_.wg
  (λe r=>by simp at r;subst r;exact ig λa=>by simp) (.k1 f) (by rw[y];exact bS (by omega)) (by rw[c];rfl)
  (λI=>by omega) (λ_=>.inr ⟨_,RelBy.new o _ _⟩) (λF q _=>(h.m_.same k (.inr ⟨by simp,by omega⟩)).retag q) (by rcases v with⟨a,b⟩|a<;>simp[a]<;>assumption) (by simp)
 exact⟨gs',w,_,p,B,C,E⟩
def wJ(G:fo Wg ch base N0 shun)(h:GI P ty Wg ch z An HV Fin n base N0 shun W₀ t₀ gs w t σ){i}(p:i<σ.j){g}
 (u:gs[base+i]? =some g) (v:(σ.D i).s=5) (f:(σ.D i).d=0) {ρ} (y:σ.R i=((σ.D i).s,ρ)) (A:SK1 P ty Wg (σ.D i).K (σ.D i).M g w):
 dN P ty Wg ch z An HV Fin n base N0 shun W₀ t₀ t gs w sl σ (base+i):=by
 obtain⟨q,g',k,m,b⟩:=A;obtain⟨gs',l,B,C,E⟩:=h.fP (sl:=sl) (w':=w) (s':=4) (d':=1) (ρ':=(4,m,ρ.2)) (st':=σ.st) (sm':=σ.sm) G p u k (.inl (bZ (λ_ _ x=>x.1) b)) (.inl rfl) h.w_.wg
  (λe c=>by simp at c;subst c;exact ig λa=>by simp) (.d1 b) (by rw[y];exact bS (by omega)) (by rw[f];rfl)
  (λ_ r q=>qj q λe c=>by simp at c;subst c;exact LD λa=>by simp) (λ_=>.inl (by omega)) (λF o _=>(h.m_.same p (.inr ⟨by simp,by omega⟩)).retag o) (by simp[v]) (by simp)
 exact⟨gs',w,_,l,B,C,E⟩
def kh(a b):deafBehind 1 #[rd a,wr b]=1:=deafBehind_still (λe c=>by simp at c;rcases c with rfl|rfl<;>simp[rd,wr]) 1
def mo{es}(h:es=#[rd (stA Wg),wr (stA Wg)]\/es=#[rd (stA Wg)]\/es=#[wr (stA Wg)]):∀e∈es,∃a b,a.block=Wg/\e=(⟨.cell a,b,true⟩:Event):=by
 intro e c;rcases h with rfl|rfl|rfl<;>simp at c
 ·obtain rfl|rfl:=c
  ·exact⟨_,_,rfl,rfl⟩
  ·exact⟨_,_,rfl,rfl⟩
 ·subst c;exact⟨_,_,rfl,rfl⟩
 ·subst c;exact⟨_,_,rfl,rfl⟩
def F6(G:fo Wg ch base N0 shun)(hn:n<2147483647)(h:GI P ty Wg ch z An HV Fin n base N0 shun W₀ t₀ gs w t σ){i}(p:i<σ.j){g}
 (Z:gs[base+i]? =some g) (hs:(σ.D i).s=4) (u:(σ.D i).d=1) {ρ} (hR:σ.R i=((σ.D i).s,ρ)) (X:SD1 P ty Wg (σ.D i).K (σ.D i).M g w):
 dN P ty Wg ch z An HV Fin n base N0 shun W₀ t₀ t gs w sl σ (base+i):=by
 obtain⟨N,X⟩:=X;have W:=h.w_;obtain⟨hO,aa,F⟩:=h.m_.isOpen p (by omega);have ag:=F5 (D:=σ.D) p (by omega);have ak:=LC σ.j σ.D;have an:=h.g_.jn;have H:Deaf t (base+i)=0+1:=(h.t_.dw i p).trans u;have v:=mo (Wg:=Wg) (.inl rfl);have c:∀e∈#[rd (stA Wg),wr (stA Wg)],EvB Wg e:=λe I=>by obtain⟨a,b,ha,rfl⟩:=v e I;exact eI ha b
 have hwg:=W.wg;rw[aa]at hwg;have A:=λD':WD=>sU (D:=σ.D) (D':=D') p;have af:jC (σ.D i)=1:=RZ (by omega);have B:∀{g':Goroutine} {q:Nat},QuitsD P q 1 g'->g'.status=.running\/g'.status=.finished:=λf=>f.status;obtain⟨Y,ab,J⟩|⟨Y,J⟩:=F
 ·
  have e1:σ.st=(((VW σ.j σ.D+σ.mt.pend-1:Nat):Int)+1)*KK+((0:Nat):Int):=by rw[J];simp only[KK];omega
  have ao:σ.mt.pend<=1:=by unfold nw.pend;split<;>(try split)<;>omega
  have ar:σ.j+σ.mt.pend<=n:=by obtain⟨a,_,hm⟩:=h.g_.mn;exact hm.bound
  rw[e1]at hwg;obtain⟨g',y,_,f⟩:=X (VW σ.j σ.D+σ.mt.pend-1) 0 (by omega) (by omega) hwg;obtain⟨q,f⟩:=f (by omega);obtain⟨gs',l,O,Q,S⟩:=h.fP (sl:=sl) (s':=0) (d':=1) (ρ':=(0,q,ρ.2)) G p Z y (B f) (.inr ⟨_,_,rfl,rfl⟩) (hwg.setSt _) c (.quit f) (by rw[hR];exact bS (by omega)) (by rw[u];exact kh _ _)
   (λ_ r N=>kD N H λe I=>by obtain⟨a,b,_,rfl⟩:=v e I;exact⟨a,b,rfl⟩) (λ_=>.inl (by omega))
   (λT o _=>by
    have ad:jC (⟨0,1,(σ.D i).K,(σ.D i).M⟩:WD)=0:=rfl;have hV:=A ⟨0,1,(σ.D i).K,(σ.D i).M⟩;refine Mode.retag (ct:=σ.ct) ?_ o;have e:(((VW σ.j σ.D+σ.mt.pend-1:Nat):Int))*KK+((0:Nat):Int)=((VW σ.j (upd σ.D i ⟨0,1,(σ.D i).K,(σ.D i).M⟩)+σ.mt.pend:Nat):Int)*KK:=by
     have:VW σ.j σ.D+σ.mt.pend-1=VW σ.j (upd σ.D i ⟨0,1,(σ.D i).K,(σ.D i).M⟩)+σ.mt.pend:=by omega
     rw[this];simp
    rw[e];refine .opn Y (λk U=>?_) λvs e=>?_
    ·by_cases e:k=i
     ·subst e;rw[upd_same];exact .inr rfl
     ·rw[upd_ne _ _ e];exact hO k U
    ·have:=ab vs e;omega) (by simp[hs]) (by simp)
  exact⟨gs',_,_,l,O,Q,S⟩
 ·
  have e1:σ.st=(((VW σ.j σ.D-1:Nat):Int)+1)*KK+((1:Nat):Int):=by rw[J];simp only[KK];omega
  rw[e1]at hwg;obtain⟨g',y,L,f⟩:=X (VW σ.j σ.D-1) 1 (by omega) (by omega) hwg;by_cases C:VW σ.j σ.D=1
  ·
   obtain⟨m,E⟩:=L ⟨by omega,rfl⟩;have hz:=Pg C hO p (by omega);obtain⟨gs',l,O,Q,S⟩:=h.fP (sl:=sl) (s':=3) (d':=1) (ρ':=(3,m,ρ.2)) G p Z y (.inl (bZ (λ_ _ x=>x.1) E)) (.inr ⟨_,_,rfl,rfl⟩) (hwg.setSt _) c (.d2 E) (by rw[hR];exact bS (by omega)) (by rw[u];exact kh _ _)
    (λ_ r N=>kD N H λe I=>by obtain⟨a,b,_,rfl⟩:=v e I;exact⟨a,b,rfl⟩) (λ_=>.inl (by omega))
    (λT o _=>by
     refine Mode.retag (ct:=σ.ct) ?_ o;have e:(((VW σ.j σ.D-1:Nat):Int))*KK+((1:Nat):Int)=(if(upd σ.D i ⟨3,1,(σ.D i).K,(σ.D i).M⟩ i).s=1 then 0 else 1):=by rw[upd_same,RY (by simp),C];simp
     rw[e];refine .last i Y p (by rw[upd_same];exact .inl rfl) λk U V=>?_;rw[upd_ne _ _ V];exact hz k U V) (by simp[hs]) (by simp)
   exact⟨gs',_,_,l,O,Q,S⟩
  ·obtain⟨q,f⟩:=f (by omega)
   obtain⟨gs',l,O,Q,S⟩:=h.fP (sl:=sl) (s':=0) (d':=1) (ρ':=(0,q,ρ.2)) G p Z y (B f) (.inr ⟨_,_,rfl,rfl⟩) (hwg.setSt _) c (.quit f) (by rw[hR];exact bS (by omega)) (by rw[u];exact kh _ _)
    (λ_ r N=>kD N H λe I=>by obtain⟨a,b,_,rfl⟩:=v e I;exact⟨a,b,rfl⟩) (λ_=>.inl (by omega))
    (λT o _=>by
     have ad:jC (⟨0,1,(σ.D i).K,(σ.D i).M⟩:WD)=0:=rfl;have hV:=A ⟨0,1,(σ.D i).K,(σ.D i).M⟩;refine Mode.retag (ct:=σ.ct) ?_ o;have e:(((VW σ.j σ.D-1:Nat):Int))*KK+((1:Nat):Int)=((VW σ.j (upd σ.D i ⟨0,1,(σ.D i).K,(σ.D i).M⟩):Nat):Int)*KK+1:=by
      have:VW σ.j σ.D-1=VW σ.j (upd σ.D i ⟨0,1,(σ.D i).K,(σ.D i).M⟩):=by omega
      rw[this];simp
     rw[e];refine .reg Y (λk U=>?_) (by omega);by_cases e:k=i
     ·subst e;rw[upd_same];exact .inr rfl
     ·rw[upd_ne _ _ e];exact hO k U) (by simp[hs]) (by simp)
   exact⟨gs',_,_,l,O,Q,S⟩
def rB(a):deafBehind 1 #[rd a]=1:=deafBehind_still (λe b=>by simp at b;subst b;simp[rd]) 1
def NU(a):deafBehind 1 #[wr a]=1:=deafBehind_still (λe b=>by simp at b;subst b;simp[wr]) 1
def Ja(G:fo Wg ch base N0 shun)(h:GI P ty Wg ch z An HV Fin n base N0 shun W₀ t₀ gs w t σ){i}(q:i<σ.j){g}
 (J:gs[base+i]? =some g) (H:(σ.D i).s=3) (f:(σ.D i).d=1) {ρ} (L:σ.R i=((σ.D i).s,ρ)) (u:SD2 P ty Wg (σ.D i).K (σ.D i).M g w):
 dN P ty Wg ch z An HV Fin n base N0 shun W₀ t₀ t gs w sl σ (base+i):=by
 obtain⟨I,u⟩:=u;obtain⟨v,N,l,y⟩:=h.m_.isLast q (by omega);rw[H]at l;have hwg:=h.w_.wg;rw[l,y]at hwg;obtain⟨g',A,m,c⟩:=u hwg;have B:Deaf t (base+i)=0+1:=(h.t_.dw i q).trans f;have o:=mo (Wg:=Wg) (es:=#[rd (stA Wg)]) (.inr (.inl rfl));obtain⟨gs',C,O,Q,S⟩:=h.fP (sl:=sl) (w':=w) (s':=2) (d':=1) (ρ':=(2,m,ρ.2)) (st':=1) (sm':=0) G q J A (.inl (bZ (λ_ _ x=>x.1) c)) (.inl rfl) hwg
  (λe E=>by obtain⟨a,b,T,rfl⟩:=o e E;exact eI T b) (.d3 c) (by rw[L];exact bS (by omega)) (by rw[f];exact rB _)
  (λ_ r I=>kD I B λe E=>by obtain⟨a,b,_,rfl⟩:=o e E;exact⟨a,b,rfl⟩) (λ_=>.inl (by omega))
  (λU F _=>by
   refine Mode.retag (ct:=σ.ct) ?_ F;have:=Mode.last (j:=σ.j) (D:=upd σ.D i ⟨2,1,(σ.D i).K,(σ.D i).M⟩) (mt:=σ.mt) i v q (by rw[upd_same];exact .inr (.inl rfl)) λk V p=>by rw[upd_ne _ _ p];exact N k V p
   rw[upd_same,RY (by simp)]at this;exact this) (by simp[H]) (by simp)
 exact⟨gs',_,_,C,O,Q,S⟩
def Jb(G:fo Wg ch base N0 shun)(h:GI P ty Wg ch z An HV Fin n base N0 shun W₀ t₀ gs w t σ){i}(q:i<σ.j){g}
 (J:gs[base+i]? =some g) (H:(σ.D i).s=2) (f:(σ.D i).d=1) {ρ} (L:σ.R i=((σ.D i).s,ρ)) (u:SD3 P ty Wg (σ.D i).K (σ.D i).M g w):
 dN P ty Wg ch z An HV Fin n base N0 shun W₀ t₀ t gs w sl σ (base+i):=by
 obtain⟨I,u⟩:=u;obtain⟨v,N,l,y⟩:=h.m_.isLast q (by omega);rw[H]at l;have hwg:=h.w_.wg;rw[l,y]at hwg;obtain⟨g',A,m,c⟩:=u hwg;have B:Deaf t (base+i)=0+1:=(h.t_.dw i q).trans f;have o:=mo (Wg:=Wg) (es:=#[wr (stA Wg)]) (.inr (.inr rfl));obtain⟨gs',C,O,Q,S⟩:=h.fP (sl:=sl) (s':=1) (d':=1) (ρ':=(1,m,ρ.2)) (st':=0) (sm':=0) G q J A (.inl (bZ (λ_ _ x=>x.1) c)) (.inr ⟨_,_,rfl,rfl⟩) (hwg.setSt _)
  (λe E=>by obtain⟨a,b,T,rfl⟩:=o e E;exact eI T b) (.d4 c) (by rw[L];exact bS (by omega)) (by rw[f];exact NU _)
  (λ_ r I=>kD I B λe E=>by obtain⟨a,b,_,rfl⟩:=o e E;exact⟨a,b,rfl⟩) (λ_=>.inl (by omega))
  (λU F _=>by
   refine Mode.retag (ct:=σ.ct) ?_ F;have:=Mode.last (j:=σ.j) (D:=upd σ.D i ⟨1,1,(σ.D i).K,(σ.D i).M⟩) (mt:=σ.mt) i v q (by rw[upd_same];exact .inr (.inr rfl)) λk V p=>by rw[upd_ne _ _ p];exact N k V p
   rw[upd_same,RZ rfl]at this;exact this) (by simp[H]) (by simp)
 exact⟨gs',_,_,C,O,Q,S⟩
def LF(e)(b:e∈semEvents (smA Wg)):EvB Wg e:=by
 simp only[semEvents,To,SE,SS,SU]at b;obtain rfl|rfl|rfl|rfl:=b
 ·exact ig (m:=.disable) λa=>by simp
 ·exact eI rfl _
 ·exact eI rfl _
 ·exact ig (m:=.enable) λa=>by simp
def Dq(a):deafBehind 1 (semEvents a)=1:=rfl
def Jc{k r fn pos}(h:RelBy (stA Wg) t k r)(b:Deaf t k=1):RelBy (stA Wg) (t++MemOp.ofEvents k fn pos (semEvents (smA Wg))) k r:=by
 refine h.appOwn fn pos _ λj e a=>?_;rw[b];unfold semEvents at a⊢
 match j,a with
 |0,a=>simp at a;subst a;exact .inl rfl
 |1,a=>simp at a;subst a;exact .inr ⟨⟨_,_,rfl⟩,Uh 1⟩
 |2,a=>simp at a;subst a;exact .inr ⟨⟨_,_,rfl⟩,Uh 1⟩
 |3,a=>simp at a;subst a;exact .inl rfl
 |j+4,a=>simp at a
def Jd(G:fo Wg ch base N0 shun)(h:GI P ty Wg ch z An HV Fin n base N0 shun W₀ t₀ gs w t σ){i}(c:i<σ.j){g}
 (E:gs[base+i]? =some g) (A:(σ.D i).s=1) (a:(σ.D i).d=1) {ρ} (F:σ.R i=((σ.D i).s,ρ)) (f:SD4 P ty Wg (σ.D i).K (σ.D i).M g w):
 dN P ty Wg ch z An HV Fin n base N0 shun W₀ t₀ t gs w sl σ (base+i):=by
 obtain⟨B,l,f⟩:=f;obtain⟨m,H,b,o⟩:=h.m_.isLast c (by omega);rw[A]at b;have hwg:=h.w_.wg;rw[b,o]at hwg;obtain⟨g',p,q,C⟩:=f hwg;have u:=(h.t_.dw i c).trans a;obtain⟨gs',v,I,J,L⟩:=h.fP (sl:=sl) (s':=0) (d':=1) (ρ':=(0,q,ρ.2)) (st':=0) (sm':=1) G c E p C.status (.inr ⟨_,_,rfl,rfl⟩) (hwg.setSm _)
  LF (.quit C) (by rw[F];exact bS (by omega)) (by rw[a];exact Dq _)
  (λ_ r B=>Jc B u) (λ_=>.inl (by omega))
  (λN x y=>by
   refine .sema ?_ (y l) λk O=>?_
   ·obtain rfl|⟨_,rfl⟩:=x
    ·exact m
    ·trivial
   ·by_cases e:k=i
    ·subst e;rw[upd_same]
    ·rw[upd_ne _ _ e];exact H k O e) (by simp[A]) (by simp)
 exact⟨gs',_,_,v,I,J,L⟩
def Dr(G:fo Wg ch base N0 shun)(h:GI P ty Wg ch z An HV Fin n base N0 shun W₀ t₀ gs w t σ){i}(v:i<σ.j){g q c}
 (C:gs[base+i]? =some g) (a:g.status=.running) (y:(σ.D i).s=0) (E:σ.R i=(0,q,c)) (b:QuitsD P q (σ.D i).d g):
 dN P ty Wg ch z An HV Fin n base N0 shun W₀ t₀ t gs w sl σ (base+i):=by
 cases q with
 |zero=>rw[b.1]at a;cases a
 |succ q=>
  obtain⟨F,_⟩|⟨_,g',es,A,k,B⟩:=b
  ·rw[F]at a;cases a
  obtain⟨gs',l,H,I,J⟩:=h.fP (sl:=sl) (w':=w) (s':=0) (d':=deafBehind (σ.D i).d es) (ρ':=(0,q,c)) (st':=σ.st) (sm':=σ.sm) G v C (k w) B.status (.inl rfl) h.w_.wg
   (λe o=>by
    have f:=A e o;obtain⟨p,K,N⟩:=e;cases p<;>simp[Event.mute]at f;rename_i m;cases m<;>simp at f
    ·exact⟨λx b=>by simp[MemAct.ofEvent,MemAct.touch?]at b,by simp,λ_ _ _=>trivial⟩
    ·exact⟨λx b=>by simp[MemAct.ofEvent,MemAct.touch?]at b,by simp,λ_ _ _=>trivial⟩) (.quit B) (by rw[E];exact qk (by omega)) rfl
   (λ_ r L=>qj L λe o=>touch_mute (A e o)) (λ_=>.inl (by omega)) (λM u _=>(h.m_.same v (.inl y.symm)).retag u) (by simp[y]) (by simp)
  exact⟨gs',w,_,l,H,I,J⟩
def Ds(G:fo Wg ch base N0 shun)(J:n<2147483647)(h:GI P ty Wg ch z An HV Fin n base N0 shun W₀ t₀ gs w t σ){i}(o:i<σ.j){g}(p:gs[base+i]? =some g)(y:g.status=.running):
 dN P ty Wg ch z An HV Fin n base N0 shun W₀ t₀ t gs w sl σ (base+i)\/∃v c,HV i=some v/\(σ.D i).s=8/\(σ.D i).d=0/\σ.R i=(8,0,c)/\Ly P ty Wg ch z v (σ.D i).K (σ.D i).M g w:=by
 obtain⟨g0,C,F⟩:=h.g_.wk i o;rw[p]at C;cases C;generalize e:σ.D i=D at F;generalize q:σ.R i=R at F;cases F with
 |run E=>
  obtain b|⟨_,g',w',es,H,f,r,A,u,B⟩:=E.pF
  ·unfold SWk at b
   cases I:HV i with
   |none=>rw[I]at b;refine .inl (oa G h o p (.inl ⟨by rw[e],I⟩) (by rw[e]) (ρ:=(0,_)) (by rw[e,q]) (by rw[e];exact b))
   |some v=>rw[I]at b;exact .inr ⟨v,_,rfl,rfl,rfl,rfl,b⟩
  ·exact .inl (wI G h o p f (u.status AV) (.inl (by rw[e])) (by rw[e]) (by rw[e];exact r) (by rw[e];exact A) (ρ':=(8,0,H)) (by rw[e];exact .run u) (by rw[q];exact eQ B))
 |blk _ E=>cases y
 |r0 E=>
  refine .inl ?_;obtain b|⟨_,g',w',es,H,f,r,A,u,B⟩:=E.pF
  ·exact oa G h o p (.inr (by rw[e])) (by rw[e]) (ρ:=(0,_)) (by rw[e,q]) (by rw[e];exact b)
  ·exact wI G h o p f (u.status λ_ _ _ _ x=>x.1) (.inr (by rw[e])) (by rw[e]) (by rw[e];exact r) (by rw[e];exact A) (ρ':=(6,0,H)) (by rw[e];exact .r0 u) (by rw[q];exact eQ B)
 | @k1 K M g w c m f=>
  refine .inl ?_;have a:SK1 P ty Wg K M g w->dN P ty Wg ch z An HV Fin n base N0 shun W₀ t₀ t gs w sl σ (base+i):=λk=>wJ G h o p (by rw[e]) (by rw[e]) (ρ:=(m,c)) (by rw[e,q]) (by rw[e];exact k);cases m with
  |zero=>exact a (f w (.refl w))
  |succ m=>
   obtain k|⟨_,k⟩:=f
   ·exact a (k w (.refl w))
   ·have:=k w (.refl w)
    cases b:stepG P false g w with
    |go g' w' es=>rw[b,goes_go]at this;obtain⟨⟨rfl,rfl⟩,l⟩:=this;exact ij G h o p b (.inl (bZ (λ_ _ x=>x.1) l)) (by rw[e];simp) (ρ':=(5,m,c)) (by rw[e];exact .k1 l) (by rw[q];exact qk (by omega))
    |_=>rw[b]at this;exact this.elim
 | @d1 K M g w c m f=>
  refine .inl ?_;have a:SD1 P ty Wg K M g w->dN P ty Wg ch z An HV Fin n base N0 shun W₀ t₀ t gs w sl σ (base+i):=λk=>F6 G J h o p (by rw[e]) (by rw[e]) (ρ:=(m,c)) (by rw[e,q]) (by rw[e];exact k);cases m with
  |zero=>exact a (f w (.refl w))
  |succ m=>
   obtain k|⟨_,k⟩:=f
   ·exact a (k w (.refl w))
   ·have:=k w (.refl w)
    cases b:stepG P false g w with
    |go g' w' es=>rw[b,goes_go]at this;obtain⟨⟨rfl,rfl⟩,l⟩:=this;exact ij G h o p b (.inl (bZ (λ_ _ x=>x.1) l)) (by rw[e];simp) (ρ':=(4,m,c)) (by rw[e];exact .d1 l) (by rw[q];exact qk (by omega))
    |_=>rw[b]at this;exact this.elim
 | @d2 K M g w c m f=>
  refine .inl ?_;have a:SD2 P ty Wg K M g w->dN P ty Wg ch z An HV Fin n base N0 shun W₀ t₀ t gs w sl σ (base+i):=λk=>Ja G h o p (by rw[e]) (by rw[e]) (ρ:=(m,c)) (by rw[e,q]) (by rw[e];exact k);cases m with
  |zero=>exact a (f w (.refl w))
  |succ m=>
   obtain k|⟨_,k⟩:=f
   ·exact a (k w (.refl w))
   ·have:=k w (.refl w)
    cases b:stepG P false g w with
    |go g' w' es=>rw[b,goes_go]at this;obtain⟨⟨rfl,rfl⟩,l⟩:=this;exact ij G h o p b (.inl (bZ (λ_ _ x=>x.1) l)) (by rw[e];simp) (ρ':=(3,m,c)) (by rw[e];exact .d2 l) (by rw[q];exact qk (by omega))
    |_=>rw[b]at this;exact this.elim
 | @d3 K M g w c m f=>
  refine .inl ?_;have a:SD3 P ty Wg K M g w->dN P ty Wg ch z An HV Fin n base N0 shun W₀ t₀ t gs w sl σ (base+i):=λk=>Jb G h o p (by rw[e]) (by rw[e]) (ρ:=(m,c)) (by rw[e,q]) (by rw[e];exact k);cases m with
  |zero=>exact a (f w (.refl w))
  |succ m=>
   obtain k|⟨_,k⟩:=f
   ·exact a (k w (.refl w))
   ·have:=k w (.refl w)
    cases b:stepG P false g w with
    |go g' w' es=>rw[b,goes_go]at this;obtain⟨⟨rfl,rfl⟩,l⟩:=this;exact ij G h o p b (.inl (bZ (λ_ _ x=>x.1) l)) (by rw[e];simp) (ρ':=(2,m,c)) (by rw[e];exact .d3 l) (by rw[q];exact qk (by omega))
    |_=>rw[b]at this;exact this.elim
 | @d4 K M g w c m f=>
  refine .inl ?_;have a:SD4 P ty Wg K M g w->dN P ty Wg ch z An HV Fin n base N0 shun W₀ t₀ t gs w sl σ (base+i):=λk=>Jd G h o p (by rw[e]) (by rw[e]) (ρ:=(m,c)) (by rw[e,q]) (by rw[e];exact k);cases m with
  |zero=>exact a (f w (.refl w))
  |succ m=>
   obtain k|⟨_,k⟩:=f
   ·exact a (k w (.refl w))
   ·have:=k w (.refl w)
    cases b:stepG P false g w with
    |go g' w' es=>rw[b,goes_go]at this;obtain⟨⟨rfl,rfl⟩,l⟩:=this;exact ij G h o p b (.inl (bZ (λ_ _ x=>x.1) l)) (by rw[e];simp) (ρ':=(1,m,c)) (by rw[e];exact .d4 l) (by rw[q];exact qk (by omega))
    |_=>rw[b]at this;exact this.elim
 |quit L=>exact .inl (Dr G h o p y (by rw[e]) q (by rw[e];exact L))
def Dt(Wg:Nat)(e:Event):Prop:=e=mk (.read (smA Wg))
def zg{e}(h:Dt Wg e){x}(a:(MemAct.ofEvent e).touch?=some x):blk x.loc=some Wg/\x.kind=.said/\x.write=false:=by unfold Dt at h;subst h;simp[Go.ConcR.mk,MemAct.ofEvent,MemAct.touch?]at a;subst a;exact⟨rfl,rfl,rfl⟩
theorem Du{own low:Nat->Nat}{K M:Nat->Prop}
 (o:∀b,K b->b<w.heap.size/\¬spB Wg ch b/\¬shun b/\own b=0) (p:∀b,M b->∀k,low k<=b) (c:∀k,low k<=w.heap.size) (d:∀b,w.heap.size<=b->own b=0) (q:0<base)
 (r:Wg<w.heap.size/\ch<w.heap.size) (f:∀b,shun b->b<w.heap.size) {es} (s:∀e∈es,EvK Wg (orK K w w') (orK M w w') e\/EvB Wg e\/(Dt Wg e/\low (base+n)=0)) (fn) (pos):
 ∀m∈MemOp.ofEvents 0 fn pos es,∀x,m.act.touch?=some x->Okx shun (spB Wg ch) (base+n) own low 0 x:=by
 intro m g x i;obtain⟨e,j,rfl⟩:=Go.Conc.mem_ofEvents g;refine⟨.inl rfl,?_⟩;obtain h|h|⟨h,u⟩:=s e j
 ·obtain⟨b,l,h⟩:=h.1 x i
  refine⟨b,l,?_⟩;obtain⟨a,h2,h3⟩|⟨rfl,h2⟩:=h
  ·obtain h2|h2:=h2
   ·obtain⟨k1,v,y,A⟩:=o b h2
    refine .inr (.inl ⟨A,v,y,a,.inl ⟨rfl,λB=>?_⟩⟩);obtain h3|h3:=h3 B
    ·exact p b h3
    ·exact absurd h3.1 (by omega)
   ·refine .inr (.inl ⟨d b h2.1,λe=>?_,λe=>absurd (f b e) (Ti.2 h2.1),a,.inl ⟨rfl,λ_ k=>R3 (c k) h2.1⟩⟩)
    have:=h2.1;rcases e with e|e<;>omega
  ·exact .inr (.inr ⟨.inl rfl,.inl h2⟩)
 ·obtain⟨a,h2⟩:=h.1 x i
  exact⟨Wg,a,.inr (.inr ⟨.inl rfl,.inl h2⟩)⟩
 ·obtain⟨a,h2,h3⟩:=zg h i
  exact⟨Wg,a,.inr (.inr ⟨.inl rfl,.inr ⟨h2,.inl ⟨rfl,h3,u⟩⟩⟩)⟩
def sV{a}(b:a.R=σ.R)(h:Rk.lt P ty Wg a.r0 σ.r0):Dn P ty Wg (mu (n:=n) (base:=base) a) (mu (n:=n) (base:=base) σ):=by unfold mu;rw[b];exact Prod.Lex.right _ (Prod.Lex.left _ _ h)
def GI.uO(G:fo Wg ch base N0 shun)(h:GI P ty Wg ch z An HV Fin n base N0 shun W₀ t₀ gs w t σ){g g' es mt' K' M' ρ' d' st' sm'}
 (hg:gs[0]? =some g) (ba:stepG P true g w=.go g' w' es) (Z:g'.status=.running)
 (aa:w'.os=w.os/\w'.tape=w.tape/\w'.output=w.output) (f:w.heap.size<=w'.heap.size)
 (A:∀b,b<w.heap.size->b≠Wg->¬σ.M0 b->w'.heap[b]? =w.heap[b]?) (hwg:WgAt ty Wg w' st' sm')
 (U:∀e∈es,EvK Wg (orK σ.K0 w w') (orK σ.M0 w w') e\/EvB Wg e\/(Dt Wg e/\σ.ct=none))
 (hK:∀b,K' b->orK σ.K0 w w' b) (hM:∀b,M' b->orK σ.M0 w w' b)
 (hS:fj P ty Wg ch z An HV Fin n mt' σ.j d' K' M' ρ' g' w') (bb:Rk.lt P ty Wg ρ' σ.r0) (hd:deafBehind σ.d0 es=d')
 (ab:∀m,(m=σ.ct\/(σ.ct=some .blk/\m=some .w3))->Mode σ.j σ.D mt' m st' sm')
 (an:mt'.got=σ.mt.got) (bk:((∃r st,mt'=.sp r st)\/mt'=.gc)↔((∃r st,σ.mt=.sp r st)\/σ.mt=.gc)) (ao:∀r H,mt'≠ .rb r H/\mt'≠ .rw r H):
 ∃gs' V,runT P (crowd gs w sl) 0=(.next (crowd gs' w' sl),MemOp.ofEvents 0 g.frame.fn g.frame.place es)/\GI P ty Wg ch z An HV Fin n base N0 shun W₀ t₀ gs' w' (t++MemOp.ofEvents 0 g.frame.fn g.frame.place es) V/\Dn P ty Wg (mu (n:=n) (base:=base) V) (mu (n:=n) (base:=base) σ):=by
 have hb:=G.lg;have W:=h.w_;have T:=h.t_;have Q:=h.g_;have ar:=(R7.1 hg).1;have ad:=runT_crowd_go (P:=P) (sl:=sl) (i:=0) hg (by simpa using ba);have o:∀X∈MemOp.ofEvents 0 g.frame.fn g.frame.place es,X.g=0:=λX L=>by obtain⟨e,_,rfl⟩:=Go.Conc.mem_ofEvents L;rfl
 have E:=A ch W.sp.2 (Sn G.ne_) λe=>(W.m0 ch e).2.1 (.inr rfl);have af:WgLive ty Wg w':=⟨_,_,hwg⟩
 have Y:∀K:Nat->Prop,(∀b,K b->b<w.heap.size/\b≠Wg/\¬σ.M0 b)->RK ty Wg K w w':=λK ag=>⟨λb d=>A b (ag b d).1 (ag b d).2.1 (ag b d).2.2,λ_=>af,f⟩
 have F:∀b,shun b->b<w.heap.size:=λb d=>R6 (G.LB b d) W.fO;have B:∀b,w.heap.size<=b->σ.own b=0:=λb d=>Tt λe=>by have:=(W.owns b e).2.2.1;omega
 have M:∀b,w.heap.size<=b->¬spB Wg ch b:=λb d e=>by have:=W.sp;rcases e with e|e<;>omega
 obtain⟨m,N,I,bm⟩:∃m N,(m=σ.ct\/(σ.ct=some .blk/\m=some .w3))/\
  ∀c,m=some c->∃gc,((gs.map (woken P g g' w')).setIfInBounds 0 g')[base+n]? =some gc/\CSit P ty Wg ch An (VW σ.j σ.D) c σ.dc σ.Kc σ.Mc N gc w':=by
  cases v:σ.ct with
  |none=>exact⟨none,σ.rc,.inl rfl,λc e=>by cases e⟩
  |some c=>
   obtain⟨gc,bo,br⟩:=Q.cl c v;have bs:σ.ct≠none:=by rw[v];simp
   have hr:=Y _ λb d=>by obtain⟨a1,J,O,y⟩:=W.kc bs b d;refine⟨a1,λe=>J (.inl e),λe=>?_⟩;obtain⟨_,_,_,m4,m5⟩:=W.m0 b e;have:=m5 (base+n);rcases y with y|y<;>omega
   obtain⟨c',bx,h1,R,_⟩:=(br.rely hr).woken g g' w' (.inl Z);refine⟨some c',bx,?_,λc2 e=>?_⟩
   ·obtain rfl|⟨rfl,rfl⟩:=R
    ·exact .inl rfl
    ·exact .inr ⟨rfl,rfl⟩
   ·cases e
    refine⟨_,?_,h1⟩;rw[bK _ _ _ _ _ (by omega),bo];rfl
 have p:m=none↔σ.ct=none:=by
  obtain rfl|⟨a,rfl⟩:=I
  ·rfl
  ·simp[a]
 have ax:m=some .quit↔σ.ct=some .quit:=by
  obtain rfl|⟨a,rfl⟩:=I
  ·rfl
  ·simp[a]
 have ay:m=some .cl↔σ.ct=some .cl:=by
  obtain rfl|⟨a,rfl⟩:=I
  ·rfl
  ·simp[a]
 have bA:eH m=eH σ.ct:=by
  obtain rfl|⟨a,rfl⟩:=I
  ·rfl
  ·rw[a];rfl
 have aM:∀e∈es,EvK Wg (orK σ.K0 w w') (orK σ.M0 w w') e\/EvB Wg e\/(Dt Wg e/\σ.low (base+n)=0):=λe he=>(U e he).imp id (.imp id λ⟨a,b⟩=>⟨a,Tt λx=>absurd b (W.Dm.1 x)⟩);have bB:∀X∈MemOp.ofEvents 0 g.frame.fn g.frame.place es,X.act≠ .mark (.release (stA Wg)):=norel_of λe he=>by
  obtain h1|h1|⟨h1,_⟩:=U e he
  ·exact h1.2.2.2.1 _
  ·exact h1.2.1 _
  ·unfold Dt at h1;subst h1;simp[Go.ConcR.mk]
 have bC:∀X∈MemOp.ofEvents 0 g.frame.fn g.frame.place es,∀x,X.act.touch?=some x->∀b,blk x.loc=some b->b<w'.heap.size:=by
  intro X L x hx b d;obtain⟨e,b0,rfl⟩:=Go.Conc.mem_ofEvents L;obtain h1|h1|⟨h1,_⟩:=U e b0
  ·obtain⟨b2,a6,h1⟩:=h1.1 x hx
   rw[d]at a6;cases a6;obtain⟨_,R|R,_⟩|⟨rfl,_⟩:=h1
   ·exact R6 (W.k0 b R).1 f
   ·exact R.2
   ·exact R6 W.sp.1 f
  ·have:=(h1.1 x hx).1
   rw[d]at this;cases this;exact R6 W.sp.1 f
  ·have:=(zg h1 hx).1
   rw[d]at this;cases this;exact R6 W.sp.1 f
 have b1:∀e∈es,(MemAct.ofEvent e).touch?=none->(MemAct.ofEvent e).low w'.heap.size:=by
  intro e he hn;obtain h1|h1|⟨h1,_⟩:=U e he
  ·exact h1.2.2.2.2 _ hn
  ·exact h1.2.2 _ (R6 W.sp.1 f) hn
  ·unfold Dt at h1;subst h1;simp[Go.ConcR.mk,MemAct.ofEvent,MemAct.touch?]at hn
 have S:∀C r,C<n->RelBy (stA Wg) t (base+C) r->RelBy (stA Wg) (t++MemOp.ofEvents 0 g.frame.fn g.frame.place es) (base+C) r:=λC r _ hr=>dM hr o (by omega);let V:GSt P ty Wg:={σ with mt:=mt',K0:=K',M0:=M',r0:=ρ',d0:=d',ct:=m,rc:=N,st:=st',sm:=sm'}
 refine⟨_,V,ad,⟨?_,?_,?_,ab m I,?_⟩,sV rfl bb⟩
 ·refine⟨aa.1.trans W.os,aa.2.1.trans W.tape,aa.2.2.trans W.output,R3 W.fO f,λb d=>?_,?_,hwg,⟨R6 W.sp.1 f,R6 W.sp.2 f⟩,?_,W.mw,?_,?_,?_,λv=>W.mc λe=>v (p.2 e),?_,W.Dl,W.Dm.trans (not_congr p.symm),W.AS,λk=>R3 (W.AT k) f⟩
  ·rw[A b (R6 d W.fO) (by have:=G.wg_;omega) (λe=>by have:=(W.m0 b e).2.2.1;omega)]
   exact W.old b d
  ·obtain⟨s,H⟩:=W.chn
   exact⟨s,by rw[E,H];show _=some (Obj.chan 0 #[] (eH m) s s false);rw[bA]⟩
  ·intro C q b d
   obtain⟨a1,J,O,y⟩:=W.kw C q b d;exact⟨R6 a1 f,J,O,y⟩
  ·intro b d
   obtain h1|h1:=hK b d
   ·obtain⟨a1,J,O,y⟩:=W.k0 b h1
    exact⟨R6 a1 f,J,O,y⟩
   ·exact⟨h1.2,M b h1.1,λe=>absurd (F b e) (Ti.2 h1.1),B b h1.1⟩
  ·intro b d
   obtain h1|h1:=hM b d
   ·obtain⟨a1,J,O,y,a5⟩:=W.m0 b h1
    exact⟨R6 a1 f,J,O,y,a5⟩
   ·exact⟨h1.2,M b h1.1,R3 W.fO h1.1,B b h1.1,λk=>R3 (W.AT k) h1.1⟩
  ·intro v b d
   obtain⟨a1,J,O,y⟩:=W.kc (λe=>v (p.2 e)) b d;exact⟨R6 a1 f,J,O,y⟩
  ·intro b d
   obtain⟨a1,J,O,y⟩:=W.owns b d;exact⟨a1,J,R6 O f,y⟩
 ·refine⟨?_,?_,kZ T.seen f (wv bC b1),iX T.gb λX L=>by rw[o X L];omega,T.norel.app bB,?_,λC q=>(Deaf_other t (by omega) _ o).trans (T.dw C q),λv=>(Deaf_other t (by omega) _ o).trans (T.dc λe=>v (p.2 e)),?_,?_,?_,?_⟩
  ·obtain⟨u,rfl⟩:=T.pre
   exact⟨_,Tq ..⟩
  ·exact T.tr.app o (λe=>by omega) (Du W.k0 (λb d=>(W.m0 b d).2.2.2.2) W.AT B hb W.sp F aM _ _)
  ·rw[Deaf_own,T.d0];exact hd
  ·intro k hk h1 R
   exact(Deaf_other t (g:=k) (g':=0) (by omega) _ o).trans (T.above k hk h1 λe=>R λe'=>e (p.1 e'))
  ·intro C q H
   obtain⟨r,hr⟩:=T.rel C q H;exact⟨r,dM hr o (by omega)⟩
  ·exactλv=>kB (T.acq (ay.1 v)) S
  ·exactλv=>kC (T.cls (ax.1 v)) S (iK o (by omega))
 ·have ak:σ.ct≠some .quit->∃s r tm,w'.heap[ch]? =some (.chan 0 #[] false s r tm):=by intro v;obtain⟨s,H⟩:=W.chn;rw[fp v]at H;exact⟨s,s,false,E.trans H⟩
  refine⟨?_,Q.jn,λv=>Q.cn λe=>v (p.2 e),⟨g',eW _ _ _ _ ar,hS⟩,p.trans (Q.mc.trans bk.symm),?_,Q.unb,bm,?_,?_,?_⟩
  ·have:(if m.isSome then 1 else 0)=(if σ.ct.isSome then 1 else 0):=by
    obtain rfl|⟨a,rfl⟩:=I
    ·rfl
    ·rw[a];rfl
   simp only[SF,TL];rw[this];exact Q.size
  ·intro C q
   obtain⟨gw,b3,a7⟩:=Q.wk C q;refine⟨woken P g g' w' gw,by rw[bK _ _ _ _ _ (by omega),b3];rfl,?_⟩;have hr:=Y _ λb d=>by obtain⟨a1,J,O,y⟩:=W.kw C q b d;refine⟨a1,λe=>J (.inl e),λe=>?_⟩;obtain⟨_,_,_,m4,m5⟩:=W.m0 b e;have:=m5 (base+C);rcases y with y|y<;>omega
   have e':=a7.woken g g' w' λa8=>ak λv=>by rw[h.m_.wu (by rw[v];trivial) C q]at a8;cases a8
   rw[e'];exact a7.rely hr
  ·intro k gk h1 R hk
   rw[bK _ _ _ _ _ (by omega)]at hk;obtain⟨b4,b5,rfl⟩:=SH.1 hk;have hq:=Q.lv k b4 h1 R b5;rw[woken_quitsD hq,Deaf_other t (by omega) _ o];exact hq
  ·rintro⟨r,H,e⟩
   exact absurd e (ao r H).1
  ·intro r H e
   exact absurd e (ao r H).2
 ·obtain⟨l,h1,R,h3⟩:=h.v_
  exact⟨l,h1,R,an.trans h3⟩
end
def Mode.zh{j D mt ct st sm}(h:Mode j D mt ct st sm)(d:CTag.opn ct):tT j D/\(∀e,ct=some (.w2 e)->VW j D<=e/\1<=e)/\st=((VW j D+mt.pend:Nat):Int)*KK/\sm=0:=by
 have no:∀{ct:Option CTag},CTag.opn ct->(CTag.reg ct->False)/\(CTag.fin ct->False):=by
  intro ct h;cases ct with
  |none=>exact⟨id,id⟩
  |some c=>cases c<;>first|exact h.elim|exact⟨id,id⟩
 cases h with
 |opn a b c=>exact⟨b,c,rfl,rfl⟩
 |reg a=>exact((no d).1 a).elim
 |last _ a=>exact((no d).1 a).elim
 |sema a=>exact((no d).1 a).elim
 |fin a=>exact((no d).2 a).elim
def Mode.sW{j D mt mt' ct st sm}(h:Mode j D mt ct st sm)(e:mt'.pend=mt.pend):Mode j D mt' ct st sm:=by
 cases h with
 |opn a b c=>rw[<-e];exact .opn a b c
 |reg a b c=>exact .reg a b c
 |last L a b c d=>exact .last L a b c d
 |sema a b c=>exact .sema a b c
 |fin a b=>exact .fin a b
section
variable {P:Program} {ty:TypeId} {Wg ch:Nat} {z:Value} {An:aJ} {HV:Nat->Option Value} {Fin:List Value->aJ} {n base N0:Nat} {shun:Nat->Prop} {W₀:World} {t₀ t:Trace} {gs:Array Goroutine} {w w':World} {sl:Option (Nat×Nat)} {σ:GSt P ty Wg}
def ft(G:fo Wg ch base N0 shun)(h:GI P ty Wg ch z An HV Fin n base N0 shun W₀ t₀ gs w t σ){g g' es ρ'}
 (s:gs[0]? =some g) (k:stepG P true g w=.go g' w' es) (f:g'.status=.running) (l:∀r q,σ.mt≠ .rb r q/\σ.mt≠ .rw r q)
 (d:Eff σ.M0 w w') (i:∀e∈es,EvK Wg (orK σ.K0 w w') (orK σ.M0 w w') e)
 (u:fj P ty Wg ch z An HV Fin n σ.mt σ.j σ.d0 (orK σ.K0 w w') (orK σ.M0 w w') ρ' g' w') (m:Rk.lt P ty Wg ρ' σ.r0):
 dN P ty Wg ch z An HV Fin n base N0 shun W₀ t₀ t gs w sl σ 0:=by
 have W:=h.w_;obtain⟨gs',o,v,y,A⟩:=h.uO (sl:=sl) (mt':=σ.mt) (st':=σ.st) (sm':=σ.sm) G s k f ⟨d.os,d.tape,d.output⟩ d.size (λb a _ c=>d.keep b a c)
  (W.wg.of_block (d.keep Wg W.sp.1 λe=>(W.m0 Wg e).2.1 (.inl rfl))) (λe B=>.inl (i e B)) (λ_ x=>x) (λ_ x=>x) u m (wH i _) (λC p=>h.m_.retag p) rfl T1 l
 exact⟨gs',w',_,o,v,y,A⟩
def kE(G:fo Wg ch base N0 shun)(h:GI P ty Wg ch z An HV Fin n base N0 shun W₀ t₀ gs w t σ){g g' es mt' ρ' d' st' sm'}
 (y:gs[0]? =some g) (m:stepG P true g w=.go g' w' es) (c:g'.status=.running)
 (A:w'=w\/∃a v,a.block=Wg/\w'=w.setCell a v) (hwg:WgAt ty Wg w' st' sm')
 (o:∀e∈es,EvB Wg e\/(Dt Wg e/\σ.ct=none))
 (B:fj P ty Wg ch z An HV Fin n mt' σ.j d' σ.K0 σ.M0 ρ' g' w') (p:Rk.lt P ty Wg ρ' σ.r0) (C:deafBehind σ.d0 es=d')
 (d:∀f,(f=σ.ct\/(σ.ct=some .blk/\f=some .w3))->Mode σ.j σ.D mt' f st' sm')
 (i:mt'.got=σ.mt.got) (q:((∃r st,mt'=.sp r st)\/mt'=.gc)↔((∃r st,σ.mt=.sp r st)\/σ.mt=.gc)) (s:∀r x,mt'≠ .rb r x/\mt'≠ .rw r x):
 dN P ty Wg ch z An HV Fin n base N0 shun W₀ t₀ t gs w sl σ 0:=by
 have k:w'.os=w.os/\w'.tape=w.tape/\w'.output=w.output/\w'.heap.size=w.heap.size/\∀b,b≠Wg->w'.heap[b]? =w.heap[b]? :=by
  obtain rfl|⟨a,v,E,rfl⟩:=A
  ·exact⟨rfl,rfl,rfl,rfl,λ_ _=>rfl⟩
  ·exact lN a v E
 obtain⟨gs',u,F,H,I⟩:=h.uO (sl:=sl) G y m c ⟨k.1,k.2.1,k.2.2.1⟩ (TM k.2.2.2.1.symm) (λb _ l _=>k.2.2.2.2 b l) hwg (λe J=>.inr (o e J)) (λb l=>.inl l) (λb l=>.inl l) B p C d i q s;exact⟨gs',w',_,u,F,H,I⟩
def wK{r st c st'}:((∃a b,(nw.sp r st)=.sp a b)\/nw.sp r st=.gc)↔((∃a b,(nw.sp c st')=.sp a b)\/nw.sp c st'=.gc):=⟨λ_=>.inl ⟨_,_,rfl⟩,λ_=>.inl ⟨_,_,rfl⟩⟩
def AW(G:fo Wg ch base N0 shun)(hn:n<2147483647)(h:GI P ty Wg ch z An HV Fin n base N0 shun W₀ t₀ gs w t σ){g:Goroutine}(A:gs[0]? =some g)(N:g.status=.running):
 dN P ty Wg ch z An HV Fin n base N0 shun W₀ t₀ t gs w sl σ 0\/
 (∃r c,r<n/\σ.mt=.sp r 1/\σ.j=n-(r+1)/\σ.d0=0/\σ.r0=(100+10*r+1,0,c)/\SGo P ty Wg ch z HV n r (SSp P ty Wg ch z An HV Fin n r) σ.K0 σ.M0 g w)\/
 (∃c,σ.mt=.gc/\σ.j=n/\σ.d0=0/\σ.r0=(90,0,c)/\I8 P ty Wg ch z An HV Fin n σ.K0 σ.M0 g w)\/
 (∃r O c Y,r+O.length=n/\(σ.mt=.rc r O/\g=Y/\σ.r0=(20,0,c)\/σ.mt=.rw r O/\g={parked {Y with offers:=none} #[rcase ch z] (.recv true)with status:=.running}/\σ.r0=(18,0,c))/\σ.j=n/\σ.d0=0/\∀H,RK ty Wg σ.K0 w H->nZ P ty Wg ch z HV Fin n r O σ.K0 σ.M0 Y H):=by
 obtain⟨g0,S,hm⟩:=h.g_.mn;rw[A]at S;cases S;have W:=h.w_;have Q:=h.g_;obtain⟨j,D,R,mt,K0,M0,r0,d0,ct,Kc,Mc,rc,dc,q,own,low,st,sm⟩:=σ;simp only at hm W Q;have I:((∃r st,mt=.sp r st)\/mt=.gc)->ct=none:=Q.mc.2;have T:∀o:Option CTag,ct=none->(o=ct\/(ct=some .blk/\o=some .w3))->o=none:=by
  intro o h0 hc;obtain rfl|⟨a,_⟩:=hc
  ·exact h0
  ·rw[h0]at a;cases a
 cases hm with
 |kd m B=>
  refine .inl ?_;obtain k|⟨_,g',w',es,L,d,f,l,i,p⟩:=B.pF
  ·obtain⟨_,g',d,s⟩:=k
   obtain⟨x,v⟩:=cj.of s;exact kE (mt':=.sp _ 4) G h A d (v.status λ_ _ _ _ y=>y.1) (.inl rfl) W.wg (λe C=>by simp at C;subst C;exact .inl (ig λa=>by simp)) (.a1 m v) (bS (by omega)) rfl
    (λo u=>(h.m_.retag u).sW rfl) rfl wK (λ_ _=>by simp)
  ·exact ft G h A d (i.status λ_ _ _ _ y=>y.1) (λ_ _=>by simp) f l (.kd m i) (eQ p)
 | @a1 K M g w c r m B=>
  refine .inl ?_;obtain k|⟨_,g',w',es,L,d,f,l,i,p⟩:=B.pF
  ·obtain⟨_,k⟩:=k
   have U:=I (.inl ⟨_,_,rfl⟩);obtain⟨hO,_,J,V⟩:=h.m_.zh (by show CTag.opn ct;rw[U];trivial);have hV:=LC (n-(r+1)) D;have hwg:=W.wg;simp only at J V hwg hO;rw[J,V]at hwg;have hwg:WgAt ty Wg w (((VW (n-(r+1)) D:Nat):Int)*KK) 0:=by simpa[nw.pend]using hwg
   obtain⟨g',d,hnx⟩:=k (VW (n-(r+1)) D) (by omega) hwg;have l:=mo (Wg:=Wg) (.inl rfl);have E:∀F:Nat,F<=3->∀o,(o=ct\/(ct=some .blk/\o=some .w3))->Mode (n-(r+1)) D (.sp r F) o ((((VW (n-(r+1)) D:Nat):Int)+1)*KK) 0:=by intro F h2 o u;rw[T o U u];have:=Mode.opn (j:=n-(r+1)) (D:=D) (mt:=.sp r F) (ct:=none) trivial hO (λvs e=>by cases e);simpa[nw.pend,h2]using this
   obtain hnx|hnx:=hnx
   ·obtain⟨x,v⟩:=cj.of hnx
    exact kE (mt':=.sp r 3) G h A d (v.status λ_ _ _ _ y=>y.1) (.inr ⟨_,_,rfl,rfl⟩) (hwg.setSt _) (λe C=>by obtain⟨a,b,Z,rfl⟩:=l e C;exact .inl (eI Z b)) (.sr m v) (bS (by omega)) (kh _ _)
     (E 3 (by omega)) rfl wK (λ_ _=>by simp)
   ·obtain⟨x,v⟩:=cj.of hnx
    exact kE (mt':=.sp r 2) G h A d (v.status λ_ _ _ _ y=>y.1) (.inr ⟨_,_,rfl,rfl⟩) (hwg.setSt _) (λe C=>by obtain⟨a,b,Z,rfl⟩:=l e C;exact .inl (eI Z b)) (.ke m v) (bS (by omega)) (kh _ _)
     (E 2 (by omega)) rfl wK (λ_ _=>by simp)
  ·exact ft G h A d (i.status λ_ _ _ _ y=>y.1) (λ_ _=>by simp) f l (.a1 m i) (eQ p)
 |sr m B=>
  refine .inl ?_;obtain k|⟨_,g',w',es,L,d,f,l,i,p⟩:=B.pF
  ·obtain⟨_,g',d,s⟩:=k
   obtain⟨x,v⟩:=cj.of s;exact kE (mt':=.sp _ 2) G h A d (v.status λ_ _ _ _ y=>y.1) (.inl rfl) W.wg (λe C=>by simp at C;subst C;exact .inr ⟨rfl,I (.inl ⟨_,_,rfl⟩)⟩) (.ke m v) (bS (by omega)) rfl
    (λo u=>(h.m_.retag u).sW rfl) rfl wK (λ_ _=>by simp)
  ·exact ft G h A d (i.status λ_ _ _ _ y=>y.1) (λ_ _=>by simp) f l (.sr m i) (eQ p)
 |ke m B=>
  refine .inl ?_;obtain k|⟨_,g',w',es,L,d,f,l,i,p⟩:=B.pF
  ·obtain⟨_,g',d,s⟩:=k
   obtain⟨x,v⟩:=cj.of s;exact kE (mt':=.sp _ 1) G h A d (v.status λ_ _ _ _ y=>y.1) (.inl rfl) W.wg (λe C=>by simp at C;subst C;exact .inl (ig λa=>by simp)) (.go m v) (bS (by omega)) rfl
    (λo u=>(h.m_.retag u).sW rfl) rfl wK (λ_ _=>by simp)
  ·exact ft G h A d (i.status λ_ _ _ _ y=>y.1) (λ_ _=>by simp) f l (.ke m i) (eQ p)
 |go m B=>
  obtain k|⟨_,g',w',es,L,d,f,l,i,p⟩:=B.pF
  ·exact .inr (.inl ⟨_,_,m,rfl,rfl,rfl,rfl,k⟩)
  ·exact .inl (ft G h A d (i.status λ_ _ _ _ y=>y.1) (λ_ _=>by simp) f l (.go m i) (eQ p))
 |gc B=>
  obtain k|⟨_,g',w',es,L,d,f,l,i,p⟩:=B.pF
  ·exact .inr (.inr (.inl ⟨_,rfl,rfl,rfl,rfl,k⟩))
  ·exact .inl (ft G h A d (i.status λ_ _ _ _ y=>y.1) (λ_ _=>by simp) f l (.gc i) (eQ p))
 |rc X B=>
  obtain k|⟨_,g',w',es,L,d,f,l,i,p⟩:=B.lM
  ·exact .inr (.inr (.inr ⟨_,_,_,g,X,.inl ⟨rfl,rfl,rfl⟩,rfl,rfl,k⟩))
  ·exact .inl (ft G h A d (i.status (zd _ _)) (λ_ _=>by simp) f l (.rc X i) (eQ p))
 |rb=>cases N
 | @rw K M g w c r O X k=>exact .inr (.inr (.inr ⟨_,_,c,g,X,.inr ⟨rfl,rfl,rfl⟩,rfl,rfl,k⟩))
end
end Go.Tm

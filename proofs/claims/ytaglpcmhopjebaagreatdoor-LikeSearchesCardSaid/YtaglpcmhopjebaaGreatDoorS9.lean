import Derived.Conc.Pipeline2
import Derived.Test.YtaglpcmhopjebaaGreatDoorS8
set_option linter.all false
set_option maxRecDepth 100000
set_option maxHeartbeats 20000000
namespace Go.Tm
open Go.Conc Go.ConcN Go.Conc.Lib
open Go.ConcR (KK WgAt stA smA rd wr mk DC0 Bk)
section
variable {P:Program} {ty:TypeId} {Wg ch:Nat} {z:Value} {An:aL} {HV:Nat->Option Value} {Fin:List Value->aL} {n base N0:Nat} {shun:Nat->Prop} {C0:World} {t₀ t:Trace} {gs:Array Goroutine} {w w':World} {sl:Option (Nat×Nat)} {σ:GSt P ty Wg}
def G5{mt j d K M ρ a}(h:fJ P ty Wg ch z An HV Fin n mt j d K M ρ a w){g g' s r}(k:mayWake P g=true)(f:g'.status=.running\/g'.status=.finished) (o:w.heap[ch]? =some (.chan 0 #[] true s r false)):∃mt' ρ',fJ P ty Wg ch z An HV Fin n mt' j d K M ρ' (woken P g g' w a) w/\mt'.got=mt.got/\mt'.pend=mt.pend/\(∀r b,mt'≠ .rb r b)/\(((∃r st,mt'=.sp r st)\/mt'=.gc)->((∃r st,mt=.sp r st)\/mt=.gc))/\(ρ'=ρ\/Rk.lt P ty Wg ρ' ρ):=by
 have same:a.status=.running->(∀r b,mt≠ .rb r b)->∃mt' ρ',fJ P ty Wg ch z An HV Fin n mt' j d K M ρ' (woken P g g' w a) w/\mt'.got=mt.got/\mt'.pend=mt.pend/\(∀r b,mt'≠ .rb r b)/\
  (((∃r st,mt'=.sp r st)\/mt'=.gc)->((∃r st,mt=.sp r st)\/mt=.gc))/\(ρ'=ρ\/Rk.lt P ty Wg ρ' ρ):=by
  intro b i;have e:woken P g g' w a=a:=by
   unfold Go.Conc.woken;split
   .exact again_running _ (.inl b)
   .rfl
  exact⟨mt,ρ,by rw[e];exact h,rfl,rfl,i,id,.inl rfl⟩
 obtain⟨b,i⟩|⟨p,b,l,rfl,rfl⟩:=h.status;exact same b i;have e:woken P g g' w (parked l #[rcase ch z] (.recv true))={parked l #[rcase ch z] (.recv true)with status:=.running}:=by unfold Go.Conc.woken;rw[Tv (by rcases f with f|f<;>rw[k,f]<;>rfl)];exact again_recv_closed o
 rw[e];generalize q:parked l #[rcase ch z] (.recv true)=v at h;cases h with| @rb _ _ x _ c _ _ u m=>exact⟨.rw p b,(18,0,c),.rw u m,rfl,rfl,by simp,by simp,.inr (bX (by omega))⟩
def Cj(G:fK Wg ch base N0 shun)(h:GI P ty Wg ch z An HV Fin n base N0 shun C0 t₀ gs w t σ){g}(x:σ.ct=some .cl)(hg:gs[base+n]? =some g)(y:σ.dc=0){c}(K:σ.rc=(12,0,c)) (o:SCl P ch σ.Kc σ.Mc g w):dT P ty Wg ch z An HV Fin n base N0 shun C0 t₀ t gs w sl σ (base+n):=by
 have hb:=G.lI;have W:=h.w_;have T:=h.t_;have Q:=h.g_;obtain⟨ad,L,o⟩:=o;obtain⟨s,I⟩:=W.chn;rw[x]at I;obtain⟨g',M,q,hq⟩:=o s s false I;obtain⟨hQ,A,B⟩:=h.m_.isFin (by rw[x];trivial);have j:σ.ct≠none:=by rw[x];simp
 have N:=(T.dc j).trans y;let w':World:={w with heap:=w.heap.setIfInBounds ch (.chan 0 #[] true s s false)}
 have k:w'.heap[ch]? =some (.chan 0 #[] true s s false):=by show(w.heap.setIfInBounds ch _)[ch]? =_;rw[Ui];simp[W.sp.2]
 have p:∀b,b≠ch->w'.heap[b]? =w.heap[b]? :=λb d=>TJ (TO d);have l:w'.heap.size=w.heap.size:=by simp[w']
 have f:=W.wg.of_block (p Wg G.ne_);obtain⟨a,ha,O⟩:=Q.mn;have C:=O.rely ⟨λb d=>p b λe=>(W.k0 b d).2.1 (.inr e),λ_=>⟨_,_,f⟩,U3 l.symm⟩;obtain⟨mt',r0',R,D,S,U,E,V⟩:=G5 C L hq.status k;have m:MemOp.ofEvents (base+n) g.frame.fn g.frame.place (closeEvents ch)=#[{g:=base+n,fn:=g.frame.fn,pos:=g.frame.place,act:=.access ⟨.obj ch,false,true⟩},{g:=base+n,fn:=g.frame.fn,pos:=g.frame.place,act:=.close ch}]:=by simp[MemOp.ofEvents,closeEvents,MemAct.ofEvent]
 refine h.closer (c':=.quit) (ρ':=(0,q,c)) (r0':=r0') (mt':=mt') G x hg M ⟨rfl,rfl,rfl⟩ (U3 l.symm) (λb _ _ X _=>p b X) f ⟨s,k⟩ (λe F=>?_) (λb d=>.inl d) (λb d=>.inl d) (.quit hq)
  ?_ ?_ ?_ ?_ ?_ D (λe=>absurd (Q.mc.2 (E e)) j) (λ⟨r,I,e⟩=>absurd e (U r I)) (λ_ _ _=>rfl) (λe=>by cases e) λ_=>?_
 simp only[closeEvents,Uy,TZ,Ue,Uf]at F;exact .inr (.inr (.inr F));obtain e|e:=V;exact .inl ⟨e,by rw[K];exact bX (by omega)⟩;exact .inr e;rw[y];exact deafBehind_still (λe F=>by simp only[closeEvents,Uy,TZ,Ue,Uf]at F;rcases F with rfl|rfl<;>simp) 0;rw[A,B];exact .fin trivial hQ;intro a' H _ _;rw[ha]at H;cases H;exact R;intro i gw J hw;exact hw.woken g g' w' λh7=>by have:=hQ i J;omega
 obtain⟨q',h1,X,h3,h4⟩:=T.acq x;have u:=lt_of_act? h1;have v:∀Y∈MemOp.ofEvents (base+n) g.frame.fn g.frame.place (closeEvents ch),Y.g=base+n:=λY Z=>by obtain⟨e,_,rfl⟩:=Go.Conc.mem_ofEvents Z;rfl
 have hp:(t++MemOp.ofEvents (base+n) g.frame.fn g.frame.place (closeEvents ch))[t.size+1]? =some {g:=base+n,fn:=g.frame.fn,pos:=g.frame.place,act:=.close ch}:=by rw[m,Vr];simp
 refine⟨q',t.size+1,by rw[act?_old u];exact h1,by rw[g?_old u];exact X,(heard_old u).2 h3,λi J=>?_,by omega,by rw[act?_of hp],by simp[Trace.g?,hp],⟨base+n,by simp[Trace.g?,hp],?_⟩,λi J aa=>?_⟩;obtain⟨r,hr,ab⟩:=h4 i J;exact⟨r,dS hr v (by omega),ab⟩;rw[deaf_inside t (base+n) _ _ _ 1 (by simp[closeEvents]),N];rfl;obtain⟨Y,ho,_⟩:=T4.1 aa;have:=lt_size_of_getElem? ho;rw[m]at this;simp at this;omega
def xI(G:fK Wg ch base N0 shun)(h:GI P ty Wg ch z An HV Fin n base N0 shun C0 t₀ gs w t σ){g}(p:σ.ct=some .acq)(H:gs[base+n]? =some g)(k:σ.dc=0){c}(q:σ.rc=(13,0,c)) (s:Pb P ty Wg ch σ.Kc σ.Mc g w):dT P ty Wg ch z An HV Fin n base N0 shun C0 t₀ t gs w sl σ (base+n):=by
 have W:=h.w_;have T:=h.t_;have Q:=h.g_;obtain⟨B,g',u,d⟩:=s;obtain⟨C,l,m⟩:=h.m_.isFin (by rw[p];trivial);have b:σ.ct≠none:=by rw[p];simp
 have v:=(T.dc b).trans k;obtain⟨x,I⟩:=cO.of d;refine en (st':=0) (sm':=0) (c':=.cl) G h p H u (.inl rfl) (by have:=W.wg;rw[l,m]at this;exact this) (λe D=>by simp at D;subst D;exact .inl (iG λa=>by simp)) (.cl I) (by rw[q];exact bX (by simp[jT])) (by rw[k];rfl)
  (.fin trivial C) (by simp) (λ_=>?_) (λe=>by cases e)
 have e1:MemOp.ofEvents (base+n) g.frame.fn g.frame.place #[mk (.acquire (stA Wg))]=#[{g:=base+n,fn:=g.frame.fn,pos:=g.frame.place,act:=.mark (.acquire (stA Wg))}]:=by simp[MemOp.ofEvents,Go.ConcR.mk,MemAct.ofEvent]
 have y:(t++MemOp.ofEvents (base+n) g.frame.fn g.frame.place #[mk (.acquire (stA Wg))])[t.size]? =some {g:=base+n,fn:=g.frame.fn,pos:=g.frame.place,act:=.mark (.acquire (stA Wg))}:=by rw[e1];simp
 have f:∀E∈MemOp.ofEvents (base+n) g.frame.fn g.frame.place #[mk (.acquire (stA Wg))],E.g=base+n:=λE A=>by obtain⟨e,_,rfl⟩:=Go.Conc.mem_ofEvents A;rfl
 refine⟨t.size,by rw[act?_of y],by simp[Trace.g?,y],⟨base+n,by simp[Trace.g?,y],by rw[deaf_old (Tw _)];exact v⟩,λi J=>?_⟩;have o:i<σ.j:=by rw[Q.cn b];exact J
 obtain⟨r,F⟩:=T.rel i o (by rw[C i o];omega);exact⟨r,dS F f (by omega),lt_of_act? F.act⟩
def Ex(G:fK Wg ch base N0 shun)(h:GI P ty Wg ch z An HV Fin n base N0 shun C0 t₀ gs w t σ){g}(l:σ.ct=some .quit)(p:gs[base+n]? =some g)(a:g.status=.running){q c}(f:σ.rc=(0,q,c)) (b:QuitsD P q σ.dc g):dT P ty Wg ch z An HV Fin n base N0 shun C0 t₀ t gs w sl σ (base+n):=by
 cases q with
 |zero=>rw[b.1]at a;cases a
 |succ q=>
  obtain⟨r,_⟩|⟨_,g',es,o,i,s⟩:=b;rw[r]at a;cases a
  exact en (st':=σ.st) (sm':=σ.sm) (c':=.quit) (ρ':=(0,q,c)) G h l p (i w) (.inl rfl) h.w_.wg
   (λe j=>.inl (by
    have d:=o e j;obtain⟨k,u,v⟩:=e;cases k<;>simp[Event.mute]at d;rename_i m;cases m<;>simp at d
    .exact⟨λx b=>by simp[MemAct.ofEvent,MemAct.touch?]at b,by simp,λ_ _ _=>trivial⟩
    .exact⟨λx b=>by simp[MemAct.ofEvent,MemAct.touch?]at b,by simp,λ_ _ _=>trivial⟩)) (.quit s) (by rw[f];exact rp (by omega)) rfl
   (by rw[<-l];exact h.m_) Vb (λe=>by cases e) λ_ e j=>touch_mute (o e j)
def Ey(G:fK Wg ch base N0 shun)(hn:n<2147483647)(ad:∀K M g w,An K M g w->Run P false ty Wg (SW1 P ty Wg ch An) K M g w)(h:GI P ty Wg ch z An HV Fin n base N0 shun C0 t₀ gs w t σ){g ct}(i:σ.ct=some ct)(y:gs[base+n]? =some g)(L:g.status=.running):dT P ty Wg ch z An HV Fin n base N0 shun C0 t₀ t gs w sl σ (base+n):=by
 obtain⟨g0,U,V⟩:=h.g_.cl ct i;rw[y]at U;cases U;have W:=h.w_;have Q:=h.g_;have X:σ.ct≠none:=by rw[i];simp
 have C:σ.mt.pend=0:=by have:=mt Q.mc.2 X;generalize σ.mt=m at this;cases m<;>first|rfl|exact absurd (.inl ⟨_,_,rfl⟩) this
 have ak:=MP σ.j σ.D;have an:=Q.jn;have Y:∀e∈#[rd (stA Wg),wr (stA Wg)],EvB Wg e:=λe v=>by obtain⟨a,b,ha,rfl⟩:=mN (Wg:=Wg) (.inl rfl) e v;exact eU ha b
 have I:∀e∈#[rd (stA Wg)],EvB Wg e:=λe v=>by obtain⟨a,b,ha,rfl⟩:=mN (Wg:=Wg) (.inr (.inl rfl)) e v;exact eU ha b
 generalize k:σ.Kc=Kc at V;generalize d:σ.Mc=Mc at V;generalize B:σ.rc=R at V;generalize q:σ.dc=dc at V;cases V with
 |wd E=>
  obtain p|⟨_,g',w',es,N,f,o,r,s,u⟩:=E.mg;obtain⟨_,g',f,l⟩:=p w (.refl w)
  obtain⟨x,F⟩:=cO.of l;obtain⟨S,_,A,H⟩:=h.m_.Aj (by rw[i];trivial);exact en (st':=σ.st) (sm':=σ.sm) (c':=.w1) G h i y f (.inl rfl) W.wg (λe v=>by simp at v;subst v;exact .inl (iG λa=>by simp)) (by rw[k,d];exact .w1 F) (by rw[B];exact bX (by simp[jT])) (by rw[q];rfl)
   (by rw[A,H];exact .opn trivial S λZ e=>by cases e) (by simp) (λe=>by cases e) (λe=>by cases e)
  exact eV G h i y f (by simp) (by rw[d];exact o) (by rw[k,d];exact r) (by rw[k,d,q];exact .wd s) (by rw[B];exact fw u)
 |w1 E=>
  obtain p|⟨_,g',w',es,N,f,o,r,s,u⟩:=E.mg;obtain⟨_,p⟩:=p w (.refl w);obtain⟨S,_,A,H⟩:=h.m_.Aj (by rw[i];trivial);rw[C,UB]at A;have hwg:=W.wg;rw[A,H]at hwg;obtain⟨g',f,h0,J⟩:=p (VW σ.j σ.D) (by omega) hwg;by_cases O:VW σ.j σ.D=0;obtain⟨x,F⟩:=cO.of (h0 O)
  exact en (st':=0) (sm':=0) (c':=.we) G h i y f (.inl rfl) (by rw[O]at hwg;simpa using hwg) (λe v=>.inl (I e v)) (by rw[k,d];exact .we F) (by rw[B];exact bX (by simp[jT])) (by rw[q];exact sJ _)
   (.fin trivial (Pg O S)) (by simp) (λe=>by cases e) (λe=>by cases e)
  obtain⟨x,F⟩:=cO.of (J O)
  exact en (c':=.w2 (VW σ.j σ.D)) G h i y f (.inl rfl) hwg (λe v=>.inl (I e v)) (by rw[k,d];exact .w2 F) (by rw[B];exact bX (by simp[jT])) (by rw[q];exact sJ _)
   (by
    have:=Mode.opn (j:=σ.j) (D:=σ.D) (mt:=σ.mt) (ct:=some (.w2 (VW σ.j σ.D))) trivial S λZ e=>by simp at e;subst e;omega
    rw[C,UB]at this;exact this) (by simp) (λe=>by cases e) (λe=>by cases e)
  exact eV G h i y f (by simp) (by rw[d];exact o) (by rw[k,d];exact r) (by rw[k,d,q];exact .w1 s) (by rw[B];exact fw u)
 | @w2 K M g w c Z E=>
  obtain p|⟨_,g',w',es,N,f,o,r,s,u⟩:=E.mg;obtain⟨_,p⟩:=p w (.refl w);obtain⟨S,af,A,H⟩:=h.m_.Aj (by rw[i];trivial);rw[C,UB]at A;have hwg:=W.wg;rw[A,H]at hwg;obtain⟨ag,aa⟩:=p (VW σ.j σ.D) (by omega) hwg;have ah:=af Z i;by_cases O:VW σ.j σ.D=Z;obtain⟨g',f,l⟩:=ag O
  obtain⟨x,F⟩:=cO.of l;exact en (c':=.sw) G h i y f (.inr ⟨_,_,rfl,rfl⟩) (hwg.setSt _) (λe v=>.inl (Y e v)) (by rw[k,d];exact .sw F) (by rw[B];exact bX (by simp[jT];split<;>omega)) (by rw[q];exact kC _ _)
   (.reg trivial S (by omega)) (by simp) (λe=>by cases e) (λe=>by cases e)
  obtain⟨g',f,l⟩:=aa O
  obtain⟨x,F⟩:=cO.of (l.bind λK M g w=>ad K M g w);exact en (c':=.w1) G h i y f (.inl rfl) hwg (λe v=>.inl (I e v)) (by rw[k,d];exact .w1 F) (by rw[B];exact bX (by simp[jT,TO O])) (by rw[q];exact sJ _)
   (by
    have:=Mode.opn (j:=σ.j) (D:=σ.D) (mt:=σ.mt) (ct:=some .w1) trivial S λZ e=>by cases e
    rw[C,UB]at this;exact this) (by simp) (λe=>by cases e) (λe=>by cases e)
  exact eV G h i y f (by simp) (by rw[d];exact o) (by rw[k,d];exact r) (by rw[k,d,q];exact .w2 s) (by rw[B];exact fw u)
 |sw E=>
  obtain p|⟨_,g',w',es,N,f,o,r,s,u⟩:=E.mg;obtain⟨_,g',f,l⟩:=p w (.refl w)
  obtain⟨x,F⟩:=cO.of l;refine en (st':=σ.st) (sm':=σ.sm) (c':=.w3) G h i y f (.inl rfl) W.wg (λe v=>by simp at v;subst v;exact .inr rfl) (by rw[k,d];exact .w3 F) (by rw[B];exact bX (by simp[jT])) (by rw[q];rfl)
   ?_ (by simp) (λe=>by cases e) (λe=>by cases e)
  rcases h.m_.P5 (by rw[i];trivial)with⟨_,hm⟩|⟨hQ,J,h2⟩
  exact hm _ trivial;rw[J,h2];exact .sema trivial (by simp) hQ;exact eV G h i y f (by simp) (by rw[d];exact o) (by rw[k,d];exact r) (by rw[k,d,q];exact .sw s) (by rw[B];exact fw u)
 | @w3 K M g w c E=>
  obtain p|⟨_,g',w',es,N,f,o,r,s,u⟩:=E.mg;obtain⟨_,_,ab,T⟩:=p w (.refl w);rcases h.m_.P5 (by rw[i];trivial)with⟨J,hm⟩|⟨hQ,J,h2⟩
  have hwg:=W.wg
  have f:=ab ⟨σ.st,by rw[<-J];exact hwg⟩;exact en (st':=σ.st) (sm':=σ.sm) (c':=.blk) (ρ':=(jT (VW σ.j σ.D) .blk,0,c)) G h i y f (.inl rfl) hwg (λe v=>by simp at v) (by rw[k,d];exact .blk p) (by rw[B];exact bX (by simp[jT])) (by rw[q];rfl)
   (hm _ trivial) (by simp) (λe=>by cases e) (λe=>by cases e)
  have hwg:=W.wg
  rw[J,h2]at hwg;obtain⟨g',f,l⟩:=T hwg;obtain⟨x,F⟩:=cO.of l;exact en (c':=.w4) G h i y f (.inr ⟨_,_,rfl,rfl⟩) (hwg.setSm _) (λe v=>.inl (MR e v)) (by rw[k,d];exact .w4 F) (by rw[B];exact bX (by simp[jT])) (by rw[q];exact Eo _)
   (.fin trivial hQ) (by simp) (λe=>by cases e) (λe=>by cases e)
  exact eV G h i y f (by simp) (by rw[d];exact o) (by rw[k,d];exact r) (by rw[k,d,q];exact .w3 s) (by rw[B];exact fw u)
 |blk E=>cases L
 |w4 E=>
  obtain p|⟨_,g',w',es,N,f,o,r,s,u⟩:=E.mg;obtain⟨_,p⟩:=p w (.refl w)
  obtain⟨hQ,J,h2⟩:=h.m_.isFin (by rw[i];trivial);have hwg:=W.wg;rw[J,h2]at hwg;obtain⟨g',f,l⟩:=p hwg;obtain⟨x,F⟩:=cO.of l;exact en (c':=.we) G h i y f (.inl rfl) hwg (λe v=>.inl (I e v)) (by rw[k,d];exact .we F) (by rw[B];exact bX (by simp[jT])) (by rw[q];exact sJ _)
   (.fin trivial hQ) (by simp) (λe=>by cases e) (λe=>by cases e)
  exact eV G h i y f (by simp) (by rw[d];exact o) (by rw[k,d];exact r) (by rw[k,d,q];exact .w4 s) (by rw[B];exact fw u)
 |we E=>
  obtain p|⟨_,g',w',es,N,f,o,r,s,u⟩:=E.mg;obtain⟨_,g',f,l⟩:=p w (.refl w)
  obtain⟨x,F⟩:=cO.of l;obtain⟨hQ,J,h2⟩:=h.m_.isFin (by rw[i];trivial);exact en (st':=σ.st) (sm':=σ.sm) (c':=.acq) G h i y f (.inl rfl) W.wg (λe v=>by simp at v;subst v;exact .inl (iG λa=>by simp)) (by rw[k,d];exact .acq F) (by rw[B];exact bX (by simp[jT])) (by rw[q];rfl)
   (by rw[J,h2];exact .fin trivial hQ) (by simp) (λe=>by cases e) (λe=>by cases e)
  exact eV G h i y f (by simp) (by rw[d];exact o) (by rw[k,d];exact r) (by rw[k,d,q];exact .we s) (by rw[B];exact fw u)
 |acq E=>obtain p|⟨_,g',w',es,N,f,o,r,s,u⟩:=E.mg;exact xI G h i y q B (by rw[k,d];exact p w (.refl w));exact eV G h i y f (by simp) (by rw[d];exact o) (by rw[k,d];exact r) (by rw[k,d,q];exact .acq s) (by rw[B];exact fw u)
 |cl E=>obtain p|⟨_,g',w',es,N,f,o,r,s,u⟩:=E.mg;exact Cj G h i y q B (by rw[k,d];exact p w (.refl w));exact eV G h i y f (by simp) (by rw[d];exact o) (by rw[k,d];exact r) (by rw[k,d,q];exact .cl s) (by rw[B];exact fw u)
 |quit hq=>exact Ex G h i y L B (by rw[q];exact hq)
end
section
variable {P:Program} {ty:TypeId} {Wg ch:Nat} {z:Value} {An:aL} {HV:Nat->Option Value} {Fin:List Value->aL} {n base N0:Nat} {shun:Nat->Prop} {C0:World} {t₀ t:Trace} {gs gs':Array Goroutine} {w w':World} {sl:Option (Nat×Nat)} {σ:GSt P ty Wg}
def GI.comm(G:fK Wg ch base N0 shun)(h:GI P ty Wg ch z An HV Fin n base N0 shun C0 t₀ gs w t σ){ops:Trace}{mt' r0'}{D':Nat->WD}{R':Nat->Rk P ty Wg} (H:w'.os=w.os/\w'.tape=w.tape/\w'.output=w.output) (o:w'.heap.size=w.heap.size) (q:∀b,b≠ch->w'.heap[b]? =w.heap[b]?) (S:∃s,w'.heap[ch]? =some (.chan 0 #[] (eT σ.ct) s s false)) (v:∀m∈ops,m.act.touch?=none/\m.act≠ .mark .disable/\m.act≠ .mark .enable/\m.act≠ .mark (.release (stA Wg))) (C:∀m∈ops,m.g≠base+n) (Z:∀m∈ops,m.g<base+n+1) (I:∀m∈ops,m.act.low w'.heap.size) (Y:∀i,i<σ.j->(D' i).K=(σ.D i).K/\(D' i).M=(σ.D i).M/\(D' i).d=(σ.D i).d/\((D' i).s<=5->(σ.D i).s<=5)) (aa:∃a,gs'[0]? =some a/\fJ P ty Wg ch z An HV Fin n mt' σ.j σ.d0 σ.K0 σ.M0 r0' a w') (ab:∀i,i<σ.j->(D' i=σ.D i/\R' i=σ.R i/\gs'[base+i]? =gs[base+i]?)\/∃g,gs'[base+i]? =some g/\WSit P ty Wg ch z (HV i) (D' i) (R' i) g w') (E:∀k,0<k->(k<base\/k=base+n)->gs'[k]? =gs[k]?) (ad:gs'.size=gs.size) (U:∀i,σ.j<=i->R' i=σ.R i) (J:Mode σ.j D' mt' σ.ct σ.st σ.sm) (hV:VW σ.j D'=VW σ.j σ.D) (af:((∃r st,mt'=.sp r st)\/mt'=.gc)↔((∃r st,σ.mt=.sp r st)\/σ.mt=.gc)) (ag:(∃r V,mt'=.rb r V)->σ.ct≠some .quit/\∀i,i<σ.j->(D' i).s≠7) (ah:∀r V,mt'=.rw r V->σ.ct=some .quit) (X:∃l:List Nat,l.Nodup/\(∀i,i∈l↔i<σ.j/\(D' i).s<=6/\HV i≠none)/\mt'.got=l.filterMap HV):GI P ty Wg ch z An HV Fin n base N0 shun C0 t₀ gs' w' (t++ops) {σ with mt:=mt',r0:=r0',D:=D',R:=R'}:=by (have hb:=G.lI;have W:=h.w_;have T:=h.t_;have Q:=h.g_;have y:∀k,Deaf (t++ops) k=Deaf t k:=λk=>nz (λm p=>⟨(v m p).2.1,(v m p).2.2.1⟩) k;have F:∀K:Nat->Prop,(∀b,K b->¬spB Wg ch b)->RK ty Wg K w w':=λK hK=>⟨λb f=>q b λe=>hK b f (.inr e),λ⟨st,sm,hl⟩=>⟨st,sm,hl.of_block (q Wg G.ne_)⟩,U3 o.symm⟩);have A:∀i r,RelBy (stA Wg) t (base+i) r->RelBy (stA Wg) (t++ops) (base+i) r:=λi r L=>oS L λm p=>(v m p).1;refine⟨⟨H.1.trans W.os,H.2.1.trans W.tape,H.2.2.trans W.output,by rw[o];exact W.gn,λb f=>?_,S,W.wg.of_block (q Wg G.ne_),by rw[o];exact W.sp,?_,?_,?_,?_,?_,W.mc,?_,W.El,W.Em,W.Cd,λk=>by rw[o];exact W.Ce k⟩,⟨?_,?_,?_,?_,T.norel.app λm p=>(v m p).2.2.2,(y 0).trans T.d0,λi x=>?_,λB=>(y _).trans (T.dc B),λk h1 N h3=>(y k).trans (T.above k h1 N h3),λi x V=>?_,λB=>?_,λB=>?_⟩,⟨?_,Q.jn,Q.cn,aa,Q.mc.trans af.symm,λi x=>?_,?_,?_,?_,ag,ah⟩,J,X⟩;rw[q b (by have:=G.ch_;omega)];exact W.old b f;intro i x b f;rw[o];exact W.kw i x b (by rw[<-(Y i x).1];exact f);intro i x b f;exact W.mw i x b (by rw[<-(Y i x).2.1];exact f);intro b f;rw[o];exact W.k0 b f;intro b f;rw[o];exact W.m0 b f;intro B b f;rw[o];exact W.kc B b f;intro b f;rw[o];exact W.owns b f;obtain⟨u,rfl⟩:=T.pre;exact⟨_,UA ..⟩;exact T.tr.still (λm p=>(v m p).1) λm p e=>absurd e (C m p);exact lH T.seen (U3 o.symm) I;exact jl T.gb Z;exact(y _).trans ((T.dw i x).trans (Y i x).2.2.1.symm);obtain⟨r,L⟩:=T.rel i x ((Y i x).2.2.2 V);exact⟨r,A i r L⟩;exact kU (T.acq B) λi r _ L=>A i r L;refine kV (T.cls B) (λi r _ L=>A i r L) λi x ak=>?_;obtain⟨m,ho,an⟩:=T4.1 ak;obtain⟨ay,_⟩|⟨_,ao⟩:=getElem?_append_cases ho;omega;exact absurd an (C m ao);show gs'.size=_;rw[ad];exact Q.size;obtain⟨e1,e2,e3⟩|h1:=ab i x;obtain⟨g,O,hw⟩:=Q.wk i x;refine⟨g,by rw[e3];exact O,?_⟩;show WSit P ty Wg ch z (HV i) (D' i) (R' i) g w';rw[e1,e2];exact hw.rely (F _ λb f=>(W.kw i x b f).2.1);exact h1;intro i h1 N;show(R' i).1=9;rw[U i h1];exact Q.unb i h1 N;intro c B;(obtain⟨g,O,ar⟩:=Q.cl c B;have ax:0<base+n:=by omega);refine⟨g,by rw[E _ ax (.inr rfl)];exact O,?_⟩;show CSit P ty Wg ch An (VW σ.j D') c σ.dc σ.Kc σ.Mc σ.rc g w';rw[hV];exact ar.rely (F _ λb f=>(W.kc (by rw[B];simp) b f).2.1);intro i g h1 N O;rw[E i h1 (.inl N)]at O;rw[y];exact Q.lv i g h1 N O
def xJ(h:GI P ty Wg ch z An HV Fin n base N0 shun C0 t₀ gs w t σ){k}(d:k<gs.size):k=0\/(0<k/\k<base)\/(∃i,i<σ.j/\k=base+i)\/(σ.ct≠none/\k=base+n):=by have a:=h.g_.size;obtain h1|h1:=Ty k base;omega;obtain h2|h2:=Ty k (base+σ.j);exact .inr (.inr (.inl ⟨k-base,by omega,by omega⟩));cases b:σ.ct with|none=>rw[b]at a;simp at a;omega|some c=>have e:=h.g_.cn (by rw[b];simp);rw[b]at a;simp at a;exact .inr (.inr (.inr ⟨by simp,by omega⟩))
def fN{g}(h:g.status=.running\/g.status=.finished)(r s):offersAt g r s=[]:=offersAt_of_not_blocked (by rcases h with h|h<;>rw[h]<;>simp) r s
def uR(h:GI P ty Wg ch z An HV Fin n base N0 shun C0 t₀ gs w t σ){k g}(d:gs[k]? =some g)(j:k≠0):offersAt g ch false=[]:=by obtain b|⟨b,e⟩|⟨i,l,rfl⟩|⟨m,rfl⟩:=xJ h (TC.1 d).1;exact absurd b j;exact fN (h.g_.lv k g b e d).status _ _;obtain⟨g',a,o⟩:=h.g_.wk i l;rw[d]at a;cases a;obtain⟨_,b⟩|⟨_,q,v,rfl⟩:=o.status;exact fN b _ _;exact offersAt_parked_send' ..;obtain⟨c,f⟩:=VZ.1 m;obtain⟨g',a,p⟩:=h.g_.cl c f;rw[d]at a;cases a;obtain⟨_,b⟩|⟨_,b,e⟩:=p.status;exact fN b _ _;unfold offersAt;rw[b,e]
def IU(h:GI P ty Wg ch z An HV Fin n base N0 shun C0 t₀ gs w t σ){k g}(d:gs[k]? =some g)(m:k≠0):offersAt g ch true=[]\/∃i,i<σ.j/\k=base+i/\(σ.D i).s=7/\offersAt g ch true=[0]:=by obtain b|⟨b,e⟩|⟨i,l,rfl⟩|⟨o,rfl⟩:=xJ h (TC.1 d).1;exact absurd b m;exact .inl (fN (h.g_.lv k g b e d).status _ _);obtain⟨g',a,p⟩:=h.g_.wk i l;rw[d]at a;cases a;obtain⟨_,b⟩|⟨q,u,v,rfl⟩:=p.status;exact .inl (fN b _ _);exact .inr ⟨i,l,rfl,q,by rw[offersAt_parked_send,Tv rfl]⟩;obtain⟨c,f⟩:=VZ.1 o;obtain⟨g',a,r⟩:=h.g_.cl c f;rw[d]at a;cases a;obtain⟨_,b⟩|⟨_,b,e⟩:=r.status;exact .inl (fN b _ _);refine .inl ?_;unfold offersAt;rw[b,e]
def Ph{mt j d K M ρ a}(h:fJ P ty Wg ch z An HV Fin n mt j d K M ρ a w){r f}(e:mt=.rb r f):∃g,a=parked {g with offers:=none} #[rcase ch z] (.recv true)/\(∀c,RK ty Wg K w c->oQ P ty Wg ch z HV Fin n r f K M g c)/\r+f.length=n/\j=n/\d=0:=by subst e;cases h with|rb a b=>exact⟨_,rfl,b,a,rfl,rfl⟩
theorem qx{HV:Nat->Option Value}:∀{l:List Nat},(∀i∈l,HV i≠none)->(l.filterMap HV).length=l.length
 | [],_=>rfl
 |a::l,h=>by obtain⟨v,b⟩:=VZ.1 (h a (by simp));rw[List.filterMap_cons,b];simp[qx (l:=l) λi c=>h i (by simp[c])]
theorem xK:∀{n} {l:List Nat},l.Nodup->(∀i∈l,i<n)->l.length<=n
 |0,[],_,_=>Tw _
 |0,a::l,_,h=>absurd (h a (by simp)) (TL _)
 |n+1,l,c,h=>by
  by_cases d:n∈l
  .have:=xK (n:=n) (c.erase n) λi b=>by
    have f:=h i (List.mem_of_mem_erase b);have g:i≠n:=λe=>by subst e;exact(List.Nodup.mem_erase_iff c).1 b |>.1 rfl
    omega
   rw[List.length_erase_of_mem d]at this;omega
  .have:=xK (n:=n) c λi b=>by have f:=h i b;have g:i≠n:=λe=>d (e▸b);omega
   omega
def Ez{i}(o:i<σ.j)(p:σ.j<=n){v}(g:HV i=some v)(r:6<(σ.D i).s){D':Nat->WD}(c:(D' i).s=6)(d:∀k,k≠i->D' k=σ.D k)(h:Got P ty Wg HV σ):σ.mt.got.length<n/\∃l:List Nat,l.Nodup/\(∀k,k∈l↔k<σ.j/\(D' k).s<=6/\HV k≠none)/\σ.mt.got++[v]=l.filterMap HV:=by (obtain⟨l,q,b,m⟩:=h;have f:i∉l:=λe=>by have:=((b i).1 e).2.1;omega);have a:=List.nodup_cons.2 ⟨f,q⟩;refine⟨?_,l++[i],?_,λk=>?_,?_⟩;rw[m,qx λk hk=>((b k).1 hk).2.2];(have:=xK (n:=n) a λk hk=>by obtain rfl|hk:=TZ.1 hk;omega;have:=((b k).1 hk).1;omega);simp at this;omega;exact(List.perm_append_singleton i l).nodup_iff.2 a;rw[UU,UX];by_cases e:k=i;subst e;simp[o,c,g];rw[d k e,b k];simp[e];rw[m];simp[g]
def Ck{mt mt':nX}(h:(∃r a,mt=.rb r a)\/(∃r a,mt=.rc r a))(c:(∃r a,mt'=.rb r a)\/(∃r a,mt'=.rc r a)):((∃r st,mt'=.sp r st)\/mt'=.gc)↔((∃r st,mt=.sp r st)\/mt=.gc):=by constructor;(rintro(⟨_,_,e⟩|e)<;>rcases c with⟨_,_,b⟩|⟨_,_,b⟩<;>rw[b]at e<;>cases e);rintro(⟨_,_,e⟩|e)<;>rcases h with⟨_,_,b⟩|⟨_,_,b⟩<;>rw[b]at e<;>cases e
def jG{i d f s r cap a1 h j k l m o p q u v x}(y:a1<base+n)(A:h<base+n)(C:j<base+n)(D:k<base+n):∀a∈(MemOp.ofEvents i d f #[]++#[{g:=a1,fn:=l,pos:=q,act:=.send ch s},{g:=h,fn:=m,pos:=u,act:=.recv ch r cap},{g:=j,fn:=o,pos:=v,act:=.sendDone ch s},{g:=k,fn:=p,pos:=x,act:=.recvDone ch r}]:Trace),(a.act.touch?=none/\a.act≠ .mark .disable/\a.act≠ .mark .enable/\a.act≠ .mark (.release (stA Wg)))/\a.g<base+n/\∀B,ch<B->a.act.low B:=by intro a b;have e:MemOp.ofEvents i d f #[]=#[]:=rfl;rw[e]at b;simp only[UL,Uy,TZ,Ue,Uf]at b;obtain rfl|rfl|rfl|rfl:=b;exact⟨⟨rfl,by simp,by simp,by simp⟩,y,λ_ c=>c⟩;exact⟨⟨rfl,by simp,by simp,by simp⟩,A,λ_ c=>c⟩;exact⟨⟨rfl,by simp,by simp,by simp⟩,C,λ_ c=>c⟩;exact⟨⟨rfl,by simp,by simp,by simp⟩,D,λ_ c=>c⟩
def EA(G:fK Wg ch base N0 shun)(h:GI P ty Wg ch z An HV Fin n base N0 shun C0 t₀ gs w t σ){i}(E:i<σ.j){g}(hg:gs[base+i]? =some g){v}(hv:HV i=some v)(hs:(σ.D i).s=8)(Y:(σ.D i).d=0){c}(hR:σ.R i=(8,0,c)) (ao:ML P ty Wg ch z v (σ.D i).K (σ.D i).M g w):dT P ty Wg ch z An HV Fin n base N0 shun C0 t₀ t gs w sl σ (base+i):=by
 have hb:=G.lI;have W:=h.w_;have T:=h.t_;have Q:=h.g_;have H:=TB E Q.jn;obtain⟨a1,⟨es,rfl,Z⟩,aa⟩:=ao;have ab:(base+i==0)=false:=by simp;omega
 have ad:σ.ct≠some .quit:=λe=>by have:=h.m_.xB (by rw[e];trivial) i E;omega
 obtain⟨s,hch⟩:=W.chn;rw[fL ad]at hch;have F:=(TC.1 hg).1;have o:∀(f:FuncId) (p:String),MemOp.ofEvents (base+i) f p #[]=#[]:=λ_ _=>rfl;obtain⟨a,ha,hm⟩:=Q.mn;by_cases I:∃r hs,σ.mt=.rb r hs
 ·
  obtain⟨r,B,C⟩:=I;obtain⟨g2,rfl,ar,a6,ax,af⟩:=Ph hm C;have hp:partners (gs.setIfInBounds (base+i) ph) ch false=[(0,0)]:=by
   rw[partners_one (j:=0) (g:=parked {g2 with offers:=none} #[rcase ch z] (.recv true)) (by rw[TJ (by omega)];exact ha) λk x q hx=>?_]
   .rw[offersAt_parked_recv,Tv rfl];rfl
   .obtain⟨_,rfl⟩|⟨_,u⟩:=getElem?_stand gs (base+i) k x hx
    .exact offersAt_ph _ _
    .exact uR h u q
  have J:=crowd_send_meets (sl:=sl) (i:=base+i) (j:=0) hg (by rw[ab];exact Z) hch (by omega) ha hp;have y:=Ez (D':=upd σ.D i ⟨6,0,(σ.D i).K,(σ.D i).M⟩) E Q.jn hv (by omega) (by rw[upd_same]) (λk q=>upd_ne _ _ q) h.v_;rw[C]at y;obtain⟨ag,ah⟩:=y;have ay:B.length<n:=ag;obtain⟨r',rfl⟩:∃r',r=r'+1:=⟨r-1,by omega⟩
  let w':=w.setChan ch 0 #[] false (s+1) (s+1) false;have L:∀b,b≠ch->w'.heap[b]? =w.heap[b]? :=λb m=>TJ (TO m);have N:w'.heap.size=w.heap.size:=by simp[w',World.setChan]
  have O:=W.wg.of_block (L Wg G.ne_);have ak:∀K:Nat->Prop,(∀b,K b->¬spB Wg ch b)->RK ty Wg K w w':=λK hK=>⟨λb m=>L b λe=>hK b m (.inr e),λ_=>⟨_,_,O⟩,U3 N.symm⟩
  obtain⟨_,_,_,S⟩:=ar w (.refl w);obtain⟨x1,aM⟩:=cO.of ((S i v H hv).rely (ak _ λb m=>(W.k0 b m).2.1));obtain⟨x2,U⟩:=cO.of (aa.rely (ak _ λb m=>(W.kw i E b m).2.1));refine⟨_,w',_,_,J,h.comm (mt':=.rc r' (B++[v])) (r0':=(20,0,x1)) (D':=upd σ.D i ⟨6,0,(σ.D i).K,(σ.D i).M⟩) (R':=upd σ.R i (6,0,x2)) G ⟨rfl,rfl,rfl⟩ N L ⟨s+1,?_⟩
   (λA l=>(jG (base:=base) (n:=n) (by omega) (by omega) (by omega) (by omega) A l).1) (λA l=>Nat.ne_of_lt (jG (base:=base) (n:=n) (Wg:=Wg) (by omega) (by omega) (by omega) (by omega) A l).2.1) (λA l=>VY (jG (base:=base) (n:=n) (Wg:=Wg) (by omega) (by omega) (by omega) (by omega) A l).2.1) (λA l=>(jG (base:=base) (n:=n) (Wg:=Wg) (by omega) (by omega) (by omega) (by omega) A l).2.2 _ (by rw[N];exact W.sp.2))
   (λk q=>?_) ?_ (λk q=>?_) (λk h1 h2=>?_) ?_ (λk q=>?_) ?_ ?_ ?_ ?_ ?_ ?_,jF H rfl (by rw[hR];exact bX (by omega))⟩
  .rw[fL ad]
   show(w.heap.setIfInBounds ch _)[ch]? =_;rw[Ui];simp[W.sp.2]
  .by_cases e:k=i
   .subst e;rw[upd_same];exact⟨rfl,rfl,Y.symm,λx=>by simp at x⟩
   .rw[upd_ne _ _ e];exact⟨rfl,rfl,rfl,id⟩
  .refine⟨Conc.served {g2 with offers:=none} (recvd true v true),?_,?_⟩
   .rw[TJ (by omega),Ui]
    rw[Tv rfl,Tv (by omega)];rfl
   .rw[af,ax]
    exact .rc (by simp;omega) aM
  .by_cases e:k=i
   .subst e
    refine .inr ⟨Conc.served {g with offers:=none} bi,?_,?_⟩
    .rw[Ui,Tv rfl,Tv (by simp;exact F)]
     rfl
    .rw[upd_same,upd_same];exact .r0 U
   .refine .inl ⟨upd_ne _ _ e,upd_ne _ _ e,?_⟩
    rw[TJ (by omega),TJ (by omega)]
  .rw[TJ (by omega),TJ (by omega)]
  .simp
  .rw[upd_ne];omega
  .exact(h.m_.same (D':=⟨6,0,(σ.D i).K,(σ.D i).M⟩) E (.inr ⟨by simp,by omega⟩)).tX (by rw[C];rfl)
  .have:=tV (D:=σ.D) (D':=⟨6,0,(σ.D i).K,(σ.D i).M⟩) E
   have e1:jS (σ.D i)=1:=Tv (by omega);have e2:jS ⟨6,0,(σ.D i).K,(σ.D i).M⟩=1:=rfl;omega
  .exact Ck (.inl ⟨_,_,C⟩) (.inr ⟨_,_,rfl⟩)
  .rintro⟨_,_,e⟩;cases e
  .intro _ _ e;cases e
  .exact ah
 ·
  have V:offersAt a ch false=[]:=by
   obtain⟨h1,_⟩|⟨r,B,g2,h1,_⟩:=hm.status
   .exact fN (.inl h1) _ _
   .exact absurd ⟨r,B,h1⟩ I
  have hp:partners (gs.setIfInBounds (base+i) ph) ch false=[]:=partners_nil λk x hx=>by
   obtain⟨_,rfl⟩|⟨_,u⟩:=getElem?_stand gs (base+i) k x hx
   .exact offersAt_ph _ _
   .by_cases q:k=0
    .subst q
     rw[ha]at u;cases u;exact V
    .exact uR h u q
  have X:=crowd_waits (sl:=sl) (i:=base+i) hg (by rw[ab];exact Z) (λcc an=>by simp at an;subst an;exact ways_send_none hch (Tw _) hp)
  obtain⟨x2,U⟩:=cO.of aa;refine⟨_,w,_,_,X,h.comm (mt':=σ.mt) (r0':=σ.r0) (D':=upd σ.D i ⟨7,0,(σ.D i).K,(σ.D i).M⟩) (R':=upd σ.R i (7,0,x2)) G ⟨rfl,rfl,rfl⟩ rfl (λ_ _=>rfl) W.chn
   (λA l=>?_) (λA l=>?_) (λA l=>by rw[o]at l;simp at l) (λA l=>by rw[o]at l;simp at l)
   (λk q=>?_) ?_ (λk q=>?_) (λk h1 h2=>?_) ?_ (λk q=>?_) ?_ ?_ ?_ ?_ ?_ ?_,jF H rfl (by rw[hR];exact bX (by omega))⟩
  .rw[o]at l;simp at l
  .rw[o]at l;simp at l
  .by_cases e:k=i
   .subst e;rw[upd_same];exact⟨rfl,rfl,Y.symm,λx=>by simp at x⟩
   .rw[upd_ne _ _ e];exact⟨rfl,rfl,rfl,id⟩
  .exact⟨a,by rw[TJ (by omega)];exact ha,hm⟩
  .by_cases e:k=i
   .subst e
    refine .inr ⟨_,by rw[Ui,Tv rfl,Tv F],?_⟩;rw[upd_same,upd_same];exact .blk hv U
   .exact .inl ⟨upd_ne _ _ e,upd_ne _ _ e,by rw[TJ (by omega)]⟩
  .rw[TJ (by omega)]
  .simp
  .rw[upd_ne];omega
  .exact h.m_.same (D':=⟨7,0,(σ.D i).K,(σ.D i).M⟩) E (.inr ⟨by simp,by omega⟩)
  .have:=tV (D:=σ.D) (D':=⟨7,0,(σ.D i).K,(σ.D i).M⟩) E
   have e1:jS (σ.D i)=1:=Tv (by omega);have e2:jS ⟨7,0,(σ.D i).K,(σ.D i).M⟩=1:=rfl;omega
  .rfl
  .exactλe=>absurd e I
  .exact Q.mq
  .exact Ah (λk q=>by
    by_cases e:k=i
    .subst e;rw[upd_same];simp[hs]
    .rw[upd_ne _ _ e]) h.v_
def G6{r a K M g}(h:oQ P ty Wg ch z HV Fin n r a K M g w):g.status=.running/\stepG P true g w=.comm {g with offers:=none} #[rcase ch z] true (.recv true) w #[]/\Fin a K M (Conc.served g (.tuple #[z,.bool false])) w:=by cases r with|zero=>exact h|succ r=>exact⟨h.1,h.2.1,h.2.2.1⟩
def MS{b D ρ a d i sh}(h:WSit P ty Wg ch z b D ρ (parked a #[scase ch d i] sh) w):b=some d/\D=⟨7,0,D.K,D.M⟩/\sh=.send/\∃c,ρ=(7,0,c)/\cO P ty Wg false (SR0 P ty Wg) D.K D.M (Conc.served a bi) w c:=by (have m:∀{g:Goroutine},(parked a #[scase ch d i] sh)=g->(g.status=.running\/g.status=.finished)->False:=λe h=>by subst e;rcases h with h|h<;>cases h);have j:=h.status;obtain⟨_,k⟩|⟨o,_⟩:=j;exact(m rfl k).elim;generalize l:parked a #[scase ch d i] sh=u at h;cases h with| @blk K M p _ c v b q=>obtain⟨f,cs,st,x,of⟩:=a;obtain⟨y,cs',st',r,s⟩:=p;simp only[parked,scase,Goroutine.mk.injEq,Ug,Wo,Array.mk.injEq,Wr,CommCase.mk.injEq]at l;obtain⟨rfl,rfl,_,rfl,k,rfl⟩:=l;obtain⟨⟨_,rfl,rfl⟩,_⟩:=k;exact⟨b,rfl,rfl,c,rfl,q⟩|_=>cases o
def MT(P ty)(Wg ch:Nat)(z:Value)(An:aL)(HV:Nat->Option Value)(Fin:List Value->aL)(n base N0:Nat)(shun:Nat->Prop)(C0:World)(t₀ t:Trace)(gs:Array Goroutine)(w:World)(sl:Option (Nat×Nat))(σ:GSt P ty Wg):Prop:=∃r a b fn pos,(σ.mt=.rc r a\/σ.mt=.rw r a)/\σ.ct=some .quit/\Fin a σ.K0 σ.M0 (Conc.served b (.tuple #[z,.bool false])) w/\runT P (crowd gs w sl) 0=(.next (crowd (gs.setIfInBounds 0 (Conc.served b (.tuple #[z,.bool false]))) w sl),#[{g:=0,fn:=fn,pos:=pos,act:=.recvClosed ch}])
def Cl(G:fK Wg ch base N0 shun)(h:GI P ty Wg ch z An HV Fin n base N0 shun C0 t₀ gs w t σ){g:Goroutine}(hg:gs[0]? =some g){r:Nat}{I:List Value}{c:RC P ty Wg}{g2:Goroutine}(bk:r+I.length=n) (V:σ.mt=.rc r I/\g=g2/\σ.r0=(20,0,c)\/σ.mt=.rw r I/\g={parked {g2 with offers:=none} #[rcase ch z] (.recv true)with status:=.running}/\σ.r0=(18,0,c)) (hj:σ.j=n) (ao:σ.d0=0) (X:∀J,RK ty Wg σ.K0 w J->oQ P ty Wg ch z HV Fin n r I σ.K0 σ.M0 g2 J):dT P ty Wg ch z An HV Fin n base N0 shun C0 t₀ t gs w sl σ 0\/MT P ty Wg ch z An HV Fin n base N0 shun C0 t₀ t gs w sl σ:=by
 have hb:=G.lI;have W:=h.w_;have T:=h.t_;have Q:=h.g_;have L:=(TC.1 hg).1;obtain⟨b5,N,ar⟩:=G6 (X w (.refl w));have Y:stepG P true g w=.comm {g2 with offers:=none} #[rcase ch z] true (.recv true) w #[]:=by obtain⟨_,rfl,_⟩|⟨_,rfl,_⟩:=V;exact N;rw[<-N];exact stepG_same rfl rfl rfl w
 have o:∀(f:FuncId) (p:String),MemOp.ofEvents 0 f p #[]=#[]:=λ_ _=>rfl;obtain⟨s,hch⟩:=W.chn;have A:(∀i,i<σ.j->(σ.D i).s≠7)->partners (gs.setIfInBounds 0 ph) ch true=[]:=λh7=>partners_nil λk x hx=>by obtain⟨_,rfl⟩|⟨m,F⟩:=getElem?_stand gs 0 k x hx;exact offersAt_ph _ _;obtain B|⟨i,q,_,O,_⟩:=IU h F m;exact B;exact absurd O (h7 i q)
 by_cases Z:σ.ct=some .quit
 ·
  right;rw[Z]at hch;have hQ:=h.m_.xB (by rw[Z];trivial);have hp:=A λi q=>by rw[hQ i q];omega
  have:=crowd_recv_closed (sl:=sl) (i:=0) hg Y hch hp;rw[o,UL]at this;exact⟨r,I,g2,_,_,V.imp (·.1) (·.1),Z,ar,this⟩
 ·
  left;rw[fL Z]at hch;have bm:=V.resolve_right λ⟨e,_⟩=>Z (Q.mq _ _ e);obtain⟨y,rfl,bo⟩:=bm;by_cases h7:∃i,i<σ.j/\(σ.D i).s=7
  ·
   obtain⟨i0,br,bs⟩:=h7;obtain⟨g0,bx,bA⟩:=Q.wk i0 br;have S:∀k x,k≠0->gs[k]? =some x->offersAt x ch true≠[]->∃i,i<σ.j/\k=base+i/\(σ.D i).s=7/\∃U v,x=parked U #[scase ch v bi] .send:=by
    intro k x m hx aa;obtain B|⟨i,q,rfl,O,_⟩:=IU h hx m
    .exact absurd B aa
    .obtain⟨g',ax,hw⟩:=Q.wk i q
     rw[hx]at ax;cases ax;obtain⟨B,_⟩|⟨_,U,v,rfl⟩:=hw.status
     .exact absurd O B
     .exact⟨i,q,rfl,O,U,v,rfl⟩
   have aa:partners (gs.setIfInBounds 0 ph) ch true≠[]:=by
    intro e;obtain⟨B,_⟩|⟨_,U,v,rfl⟩:=bA.status
    .exact B bs
    .have:(base+i0,0)∈partners (gs.setIfInBounds 0 ph) ch true:=mem_partners.2 ⟨_,by rw[TJ (by omega)];exact bx,by rw[offersAt_parked_send,Tv rfl];simp⟩
     rw[e]at this;cases this
   obtain⟨j,U,vj,zj,b6,d,H,ab,ad⟩:=crowd_recv_meets_some (sl:=sl) (i:=0) hg Y hch aa λj k bB=>by
    obtain⟨x,hx,m⟩:=mem_partners.1 bB;obtain⟨_,rfl⟩|⟨H,F⟩:=getElem?_stand gs 0 j x hx
    .rw[offersAt_ph]at m;cases m
    .obtain⟨i,q,rfl,_,U,v,rfl⟩:=S j x H F λe=>by rw[e]at m;cases m
     rw[offersAt_parked_send,Tv rfl]at m;exact⟨by simpa using m,H,U,v,bi,_,F⟩
   obtain⟨i,q,rfl,b7,_⟩:=S j _ H ab (by rw[offersAt_parked_send,Tv rfl];simp);have ay:=TB q Q.jn;obtain⟨gx,aM,bC⟩:=Q.wk i q;rw[ab]at aM;cases aM;obtain⟨hv,hD,rfl,cw,hR,b0⟩:=MS bC;have b1:(σ.D i).d=0:=by rw[hD]
   have C:=Ez (D':=upd σ.D i ⟨6,0,(σ.D i).K,(σ.D i).M⟩) q Q.jn hv (by omega) (by rw[upd_same]) (λk m=>upd_ne _ _ m) h.v_;rw[y]at C;obtain⟨a1,a6⟩:=C;have b2:I.length<n:=a1;obtain⟨r',rfl⟩:∃r',r=r'+1:=⟨r-1,by omega⟩
   let w':=(w.at d).setChan ch 0 #[] false (s+1) (s+1) false;have af:∀b,b≠ch->w'.heap[b]? =w.heap[b]? :=λb u=>TJ (TO u);have ag:w'.heap.size=w.heap.size:=by show(w.heap.setIfInBounds ch _).size=_;simp
   have ah:=W.wg.of_block (af Wg G.ne_);have a7:∀K:Nat->Prop,(∀b,K b->¬spB Wg ch b)->RK ty Wg K w w':=λK hK=>⟨λb u=>af b λe=>hK b u (.inr e),λ_=>⟨_,_,ah⟩,U3 ag.symm⟩
   obtain⟨_,_,_,ak⟩:=X w (.refl w);obtain⟨x1,b3⟩:=cO.of ((ak i vj ay hv).rely (a7 _ λb u=>(W.k0 b u).2.1));obtain⟨x2,b4⟩:=cO.of (b0.now.rely (a7 _ λb u=>(W.kw i q b u).2.1));refine⟨_,w',_,_,ad,h.comm (mt':=.rc r' (I++[vj])) (r0':=(20,0,x1)) (D':=upd σ.D i ⟨6,0,(σ.D i).K,(σ.D i).M⟩) (R':=upd σ.R i (6,0,x2)) G ⟨rfl,rfl,rfl⟩ ag af ⟨s+1,?_⟩
    (λE a=>(jG (base:=base) (n:=n) (by omega) (by omega) (by omega) (by omega) E a).1) (λE a=>Nat.ne_of_lt (jG (base:=base) (n:=n) (Wg:=Wg) (by omega) (by omega) (by omega) (by omega) E a).2.1) (λE a=>VY (jG (base:=base) (n:=n) (Wg:=Wg) (by omega) (by omega) (by omega) (by omega) E a).2.1) (λE a=>(jG (base:=base) (n:=n) (Wg:=Wg) (by omega) (by omega) (by omega) (by omega) E a).2.2 _ (by rw[ag];exact W.sp.2))
    (λk m=>?_) ?_ (λk m=>?_) (λk B O=>?_) ?_ (λk m=>?_) ?_ ?_ ?_ ?_ ?_ ?_,jF ay rfl (by rw[hR];exact bX (by omega))⟩
   .rw[fL Z]
    show(w.heap.setIfInBounds ch _)[ch]? =_;rw[Ui];simp[W.sp.2]
   .by_cases e:k=i
    .subst e;rw[upd_same];exact⟨rfl,rfl,b1.symm,λx=>by simp at x⟩
    .rw[upd_ne _ _ e];exact⟨rfl,rfl,rfl,id⟩
   .refine⟨Conc.served {g with offers:=none} (recvd true vj true),?_,?_⟩
    .rw[Ui,Tv rfl,Tv (by simp;exact L)]
     rfl
    .rw[ao,hj]
     exact .rc (by simp;omega) b3
   .by_cases e:k=i
    .subst e
     refine .inr ⟨Conc.served U bi,?_,?_⟩
     .have a8:=(TC.1 ab).1
      rw[TJ (by omega),Ui,Tv rfl,Tv a8];rfl
     .rw[upd_same,upd_same];exact .r0 b4
    .refine .inl ⟨upd_ne _ _ e,upd_ne _ _ e,?_⟩
     rw[TJ (by omega),TJ (by omega)]
   .rw[TJ (by omega),TJ (by omega)]
   .simp
   .rw[upd_ne];omega
   .exact(h.m_.same (D':=⟨6,0,(σ.D i).K,(σ.D i).M⟩) q (.inr ⟨by simp,by omega⟩)).tX (by rw[y];rfl)
   .have:=tV (D:=σ.D) (D':=⟨6,0,(σ.D i).K,(σ.D i).M⟩) q
    have e1:jS (σ.D i)=1:=Tv (by omega);have e2:jS ⟨6,0,(σ.D i).K,(σ.D i).M⟩=1:=rfl;omega
   .exact Ck (.inr ⟨_,_,y⟩) (.inr ⟨_,_,rfl⟩)
   .rintro⟨_,_,e⟩;cases e
   .intro _ _ e;cases e
   .exact a6
  ·
   have ba:∀i,i<σ.j->(σ.D i).s≠7:=λi q e=>h7 ⟨i,q,e⟩;have an:=crowd_waits (sl:=sl) (i:=0) hg Y (λcc bb=>by simp at bb;subst bb;exact ways_recv_none hch (A ba))
   refine⟨_,w,_,_,an,h.comm (mt':=.rb r I) (r0':=(19,0,c)) (D':=σ.D) (R':=σ.R) G ⟨rfl,rfl,rfl⟩ rfl (λ_ _=>rfl) W.chn
    (λE a=>by rw[o]at a;simp at a) (λE a=>by rw[o]at a;simp at a) (λE a=>by rw[o]at a;simp at a) (λE a=>by rw[o]at a;simp at a)
    (λk m=>⟨rfl,rfl,rfl,id⟩) ⟨_,by rw[Ui,Tv rfl,Tv L],?_⟩ (λk m=>.inl ⟨rfl,rfl,by rw[TJ (by omega)]⟩) (λk B O=>by rw[TJ (by omega)]) (by simp) (λk m=>rfl)
    (h.m_.tX (by rw[y];rfl)) rfl (Ck (.inr ⟨_,_,y⟩) (.inl ⟨_,_,rfl⟩)) (λ_=>⟨Z,ba⟩) (λ_ _ e=>by cases e) ?_,?_⟩
   .rw[ao,hj];exact .rb bk X
   .obtain⟨l,B,O,h3⟩:=h.v_
    exact⟨l,B,O,by rw[<-h3,y];rfl⟩
   .exact tW rfl (by rw[bo];exact bX (by omega))
def GI.P6(G:fK Wg ch base N0 shun)(h:GI P ty Wg ch z An HV Fin n base N0 shun C0 t₀ gs w t σ)(d):GI P ty Wg ch z An HV Fin n base N0 shun C0 t₀ gs (w.at d) t σ:=by
 have W:=h.w_;have Q:=h.g_;have rk:∀K,RK ty Wg K w (w.at d):=λK=>⟨λ_ _=>rfl,id,Tw _⟩
 obtain⟨a,e,f⟩:=Q.mn;have:=h.comm (w':=w.at d) (gs':=gs) (ops:=#[]) (mt':=σ.mt) (r0':=σ.r0) (D':=σ.D) (R':=σ.R) G ⟨rfl,rfl,rfl⟩ rfl (λ_ _=>rfl) W.chn (λc b=>by simp at b) (λc b=>by simp at b) (λc b=>by simp at b) (λc b=>by simp at b)
  (λ_ _=>⟨rfl,rfl,rfl,id⟩) ⟨a,e,f.rely (rk _)⟩ (λi g=>.inl ⟨rfl,rfl,rfl⟩) (λ_ _ _=>rfl) rfl (λ_ _=>rfl) h.m_ rfl Vb Q.mb Q.mq h.v_
 rw[Wj]at this;exact this
def EB(G:fK Wg ch base N0 shun)(h:GI P ty Wg ch z An HV Fin n base N0 shun C0 t₀ gs w t σ){k}(h0:0<k)(V:k<base){g}(hg:gs[k]? =some g)(p:g.status=.running):dT P ty Wg ch z An HV Fin n base N0 shun C0 t₀ t gs w sl σ k:=by
 have hb:=G.lI;have W:=h.w_;have T:=h.t_;have Q:=h.g_;have hq:=Q.lv k g h0 V hg;have X:=(TC.1 hg).1;have ag:(k==0)=false:=by simp;omega
 cases M:σ.q k with
 |zero=>rw[M]at hq;rw[hq.1]at p;cases p
 |succ m=>
  rw[M]at hq;obtain⟨hf,_⟩|⟨_,g',es,Y,Z,aa⟩:=hq;rw[hf]at p;cases p;have N:=runT_crowd_go (P:=P) (sl:=sl) (i:=k) hg (by rw[ag];exact Z w);have f:∀I∈MemOp.ofEvents k g.frame.fn g.frame.place es,I.g=k:=λI l=>by obtain⟨e,_,rfl⟩:=Go.Conc.mem_ofEvents l;rfl
  have O:∀I∈MemOp.ofEvents k g.frame.fn g.frame.place es,I.act.touch?=none:=λI l=>by obtain⟨e,he,rfl⟩:=Go.Conc.mem_ofEvents l;exact touch_mute (Y e he)
  have aM:sumTo base (upd σ.q k m)+(m+1)=sumTo base σ.q+m:=by have:=sumTo_upd σ.q m id V;simpa[M]using this
  obtain⟨b,A,v,ah⟩:∃b A,(b=σ.ct\/(σ.ct=some .blk/\b=some .w3))/\
   ∀c,b=some c->∃gc,((gs.map (woken P g g' w)).setIfInBounds k g')[base+n]? =some gc/\CSit P ty Wg ch An (VW σ.j σ.D) c σ.dc σ.Kc σ.Mc A gc w:=by
   cases o:σ.ct with
   |none=>exact⟨none,σ.rc,.inl rfl,λc e=>by cases e⟩
   |some c=>
    obtain⟨gc,ak,an⟩:=Q.cl c o;obtain⟨c',ao,y,K,_⟩:=an.woken g g' w aa.status;refine⟨some c',ao,?_,λc2 e=>?_⟩
    .obtain rfl|⟨rfl,rfl⟩:=K
     .exact .inl rfl
     .exact .inr ⟨rfl,rfl⟩
    .cases e
     refine⟨_,?_,y⟩;rw[bO _ _ _ _ _ (by omega),ak];rfl
  have d:b=none↔σ.ct=none:=by obtain rfl|⟨a,rfl⟩:=v;rfl;simp[a]
  have B:b=some .quit↔σ.ct=some .quit:=by obtain rfl|⟨a,rfl⟩:=v;rfl;simp[a]
  have ab:b=some .cl↔σ.ct=some .cl:=by obtain rfl|⟨a,rfl⟩:=v;rfl;simp[a]
  have ar:eT b=eT σ.ct:=by obtain rfl|⟨a,rfl⟩:=v;rfl;rw[a];rfl
  have C:∀E r,E<n->RelBy (stA Wg) t (base+E) r->RelBy (stA Wg) (t++MemOp.ofEvents k g.frame.fn g.frame.place es) (base+E) r:=λE r _ hr=>dS hr f (by omega);have F:∀k',k'≠k->Deaf (t++MemOp.ofEvents k g.frame.fn g.frame.place es) k'=Deaf t k':=λk' R=>Deaf_other t (TO R) _ f;have H:σ.ct≠some .quit->∃s r tm,w.heap[ch]? =some (.chan 0 #[] false s r tm):=by intro o;obtain⟨s,J⟩:=W.chn;rw[fL o]at J;exact⟨s,s,false,J⟩
  let S:GSt P ty Wg:={σ with ct:=b,rc:=A,q:=upd σ.q k m}
  refine⟨_,w,_,S,N,⟨?_,?_,?_,h.m_.retag v,h.v_⟩,?_⟩;refine⟨W.os,W.tape,W.output,W.gn,W.old,?_,W.wg,W.sp,W.kw,W.mw,W.k0,W.m0,λo=>W.kc λe=>o (d.2 e),λo=>W.mc λe=>o (d.2 e),W.owns,W.El,W.Em.trans (not_congr d.symm),W.Cd,W.Ce⟩;obtain⟨s,J⟩:=W.chn;exact⟨s,by rw[J];show _=some (Obj.chan 0 #[] (eT b) s s false);rw[ar]⟩
  refine⟨?_,T.tr.still O λI l e=>absurd ((f I l).symm.trans e) (by omega),lH T.seen (Tw _) λI l=>?_,jl T.gb (λI l=>by
   rw[f I l];have y:=(TC.1 hg).1;have K:=Q.size;have h3:=Q.jn;split at K<;>omega),T.norel.app (norel_of λe he=>?_),(F 0 (by omega)).trans T.d0,λE x=>(F _ (by omega)).trans (T.dw E x),λo=>(F _ (by omega)).trans (T.dc λe=>o (d.2 e)),
   λk' y K h3=>(F k' (by omega)).trans (T.above k' y K λe=>h3 λe'=>e (d.1 e')),λE x J=>?_,λo=>kU (T.acq (ab.1 o)) C,λo=>kV (T.cls (B.1 o)) C (iZ f (by omega))⟩
  obtain⟨u,rfl⟩:=T.pre;exact⟨_,UA ..⟩;obtain⟨e,he,rfl⟩:=Go.Conc.mem_ofEvents l;exact low_mute (Y e he) _;intro e2;have:=Y e he;obtain⟨a1,a6,sy⟩:=e;simp only at e2;subst e2;simp[Event.mute]at this;obtain⟨r,hr⟩:=T.rel E x J;exact⟨r,dS hr f (by omega)⟩;refine⟨?_,Q.jn,λo=>Q.cn λe=>o (d.2 e),?_,d.trans Q.mc,λE x=>?_,Q.unb,ah,λk' gk y K hk=>?_,λY=>?_,λr J e=>B.2 (Q.mq r J e)⟩;have:(if b.isSome then 1 else 0)=(if σ.ct.isSome then 1 else 0):=by obtain rfl|⟨a,rfl⟩:=v;rfl;rw[a];rfl
  simp only[T1,UZ];rw[this];exact Q.size;obtain⟨a,ha,U⟩:=Q.mn;refine⟨woken P g g' w a,by rw[bO _ _ _ _ _ (by omega),ha];rfl,?_⟩;have e:woken P g g' w a=a:=by obtain⟨y,_⟩|⟨r,J,g2,y,_⟩:=U.status;exact woken_run y;exact U.woken g g' w (H (Q.mb ⟨r,J,y⟩).1)
  rw[e];exact U;obtain⟨gw,ax,ad⟩:=Q.wk E x;refine⟨woken P g g' w gw,by rw[bO _ _ _ _ _ (by omega),ax];rfl,?_⟩;have e':=ad.woken g g' w λaf=>H λo=>by rw[h.m_.xB (by rw[o];trivial) E x]at af;cases af
  rw[e'];exact ad;by_cases e:k'=k;subst e;rw[fC _ _ _ _ X]at hk;cases hk;simp only[S,upd_same];rw[Deaf_own];exact aa;rw[bO _ _ _ _ _ e]at hk;obtain⟨ay,R,rfl⟩:=T4.1 hk;have L:=Q.lv k' ay y K R;simp only[S,upd_ne σ.q m e];rw[woken_quitsD L,F k' e];exact L;obtain⟨y,K⟩:=Q.mb Y;exact⟨λe'=>y (B.1 e'),K⟩;unfold mu;refine Prod.Lex.right _ (Prod.Lex.right _ (Prod.Lex.left _ _ ?_));show sumTo base (upd σ.q k m)<sumTo base σ.q;omega
theorem nR{D}:∀{j},1<=VW j D->∃i,i<j/\4<=(D i).s
 |0,h=>by simp[VW,sumTo]at h
 |j+1,h=>by
  by_cases a:4<=(D j).s
  .exact⟨j,by omega,a⟩
  .have:1<=VW j D:=by simp only[VW,sumTo,jS,Tu a]at h⊢;simpa using h
   obtain⟨i,c,b⟩:=nR this;exact⟨i,by omega,b⟩
def za(h:GI P ty Wg ch z An HV Fin n base N0 shun C0 t₀ gs w t σ):∃(i:Nat) (g:Goroutine),gs[i]? =some g/\g.status=.running:=by
 have Q:=h.g_;obtain⟨a,v,x⟩:=Q.mn;obtain⟨d,_⟩|⟨r,y,G,d,_⟩:=x.status;exact⟨0,a,v,d⟩;obtain⟨m,A⟩:=Q.mb ⟨r,y,d⟩
 cases f:σ.ct with
 |none=>rcases Q.mc.1 f with⟨_,_,e⟩|e<;>rw[d]at e<;>cases e
 |some c=>obtain⟨g,B,b⟩:=Q.cl c f;obtain⟨o,C⟩|⟨rfl,_,_⟩:=b.status;exact⟨_,g,B,b.busy o λe=>m (by rw[f,e])⟩;(have busy:∀i,i<σ.j->(σ.D i).s≠0->∃(i:Nat) (g:Goroutine),gs[i]? =some g/\g.status=.running:=λi k E=>by obtain⟨gw,p,F⟩:=Q.wk i k;exact⟨_,gw,p,F.busy (A i k) E⟩);have l:=h.m_;rw[f]at l;generalize σ.st=st at l;generalize σ.sm=sm at l;cases l with|opn a=>exact a.elim|reg _ _ u=>obtain⟨i,k,H⟩:=nR u;exact busy i k (by omega)|last L _ q u _=>exact busy L q (by omega)|sema _ q=>exact absurd rfl q|fin a=>exact a.elim
def G7(h:GI P ty Wg ch z An HV Fin n base N0 shun C0 t₀ gs w t σ):∀g∈gs,awake g:=by intro g j;obtain⟨k,e⟩:=VX.1 j;obtain rfl|⟨d,l⟩|⟨i,m,rfl⟩|⟨o,rfl⟩:=xJ h (TC.1 e).1;obtain⟨a,p,q⟩:=h.g_.mn;rw[p]at e;cases e;obtain⟨d,_⟩|⟨_,_,r,_,rfl⟩:=q.status;exact awake_of (.inl d);exact awake_of (.inr (.inl rfl));exact awake_of ((h.g_.lv k g d l e).status.elim .inl λx=>.inr (.inr x));obtain⟨g',b,s⟩:=h.g_.wk i m;rw[e]at b;cases b;obtain⟨_,d⟩|⟨_,r,v,rfl⟩:=s.status;exact awake_of (d.elim .inl λx=>.inr (.inr x));exact awake_of (.inr (.inl rfl));obtain⟨c,f⟩:=VZ.1 o;obtain⟨g',b,u⟩:=h.g_.cl c f;rw[e]at b;cases b;obtain⟨_,d⟩|⟨_,d,_⟩:=u.status;exact awake_of (d.elim .inl λx=>.inr (.inr x));exact awake_of (.inr (.inl d))
def MU(G:fK Wg ch base N0 shun)(p:n<2147483647)(q:∀K M g w,An K M g w->Run P false ty Wg (SW1 P ty Wg ch An) K M g w)(h:GI P ty Wg ch z An HV Fin n base N0 shun C0 t₀ gs w t σ){k g}(e:gs[k]? =some g)(b:g.status=.running):dT P ty Wg ch z An HV Fin n base N0 shun C0 t₀ t gs w sl σ k\/(k=0/\MT P ty Wg ch z An HV Fin n base N0 shun C0 t₀ t gs w sl σ):=by obtain rfl|⟨l,B⟩|⟨i,y,rfl⟩|⟨C,rfl⟩:=xJ h (TC.1 e).1;rcases Ci (sl:=sl) G p h e b with l|⟨r,c,f,j,m,d,o,a⟩|⟨c,j,m,d,o,a⟩|⟨r,A,c,H,f,s,m,d,a⟩;exact .inl l;exact .inl (G3 (c:=c) G h e f j m d a);exact .inl (Eu G h e j m d o a);(exact(Cl G h e f s m d a).imp id λx=>⟨rfl,x⟩);exact .inl (EB G h l B e b);rcases Er (sl:=sl) G p h y e b with l|⟨v,c,D,A,E,F,a⟩;exact .inl l;exact .inl (EA G h y e D A E F a);obtain⟨c,u⟩:=VZ.1 C;exact .inl (Ey G p q h u e b)
structure P7(P:Program)(Wg ch:Nat)(z:Value)(HV:Nat->Option Value)(Fin:List Value->aL)(n base N0:Nat)(shun:Nat->Prop)(Shun:Loc->Prop)(C0:World)(gs':Array Goroutine)(w':World)(t':Trace):Prop where
 main:∃g2 K M hs,gs'[0]? =some (Conc.served g2 (.tuple #[z,.bool false]))/\Fin hs K M (Conc.served g2 (.tuple #[z,.bool false])) w'/\(∀b,K b->b<w'.heap.size/\¬spB Wg ch b/\¬shun b)/\(∀b,M b->b<w'.heap.size/\¬spB Wg ch b/\N0<=b)/\∃l:List Nat,l.Nodup/\(∀i,i∈l↔i<n/\HV i≠none)/\hs=l.filterMap HV
 size:gs'.size=base+n+1
 lv:∃q,Leavers P t' gs' q
 past:Past (λl=>Shun l\/∃b,blk l=some b/\spB Wg ch b) w'.heap.size t'
 few:∀op∈t',op.g<base+n+1
 sp:Wg<w'.heap.size/\ch<w'.heap.size
 os:w'.os=C0.os
 tape:w'.tape=C0.tape
 output:w'.output=C0.output
 gn:N0<=w'.heap.size
 old:∀b,b<N0->w'.heap[b]? =C0.heap[b]?
def Pj{mt j d K M ρ a}(h:fJ P ty Wg ch z An HV Fin n mt j d K M ρ a w)(e:(∃r b,mt=.rc r b)\/(∃r b,mt=.rw r b)):d=0:=by cases h<;>first|rfl|(rcases e with⟨_,_,e⟩|⟨_,_,e⟩<;>cases e)
def J7{a D ρ g}(h:WSit P ty Wg ch z a D ρ g w)(e:D.s=0):∃q,QuitsD P q D.d g:=by cases h with|quit b=>exact⟨_,b⟩|_=>cases e
def J8{v ct d K M ρ g}(h:CSit P ty Wg ch An v ct d K M ρ g w)(e:ct=.quit):∃q,QuitsD P q d g:=by cases h with|quit a=>exact⟨_,a⟩|_=>cases e
def EC(G:fK Wg ch base N0 shun)(h:GI P ty Wg ch z An HV Fin n base N0 shun C0 t₀ gs w t σ){Shun D0}(hP:Past Shun D0 t₀)(hx:MT P ty Wg ch z An HV Fin n base N0 shun C0 t₀ t gs w sl σ):∃gs' ops,runT P (crowd gs w sl) 0=(.next (crowd gs' w sl),ops)/\P7 P Wg ch z HV Fin n base N0 shun Shun C0 gs' w (t++ops):=by
 have hb:=G.lI;have W:=h.w_;have T:=h.t_;have Q:=h.g_;obtain⟨r,hs,g2,fn,pos,Y,B,Z,aa⟩:=hx;have J:σ.ct≠none:=by rw[B];simp
 have hj:=Q.cn J;have ao:gs.size=base+n+1:=by have:=Q.size;rw[B,hj]at this;simpa using this
 have hQ:=h.m_.xB (by rw[B];trivial);have ar:σ.d0=0:=by obtain⟨a,_,hm⟩:=Q.mn;exact Pj hm (Y.imp (λe=>⟨_,_,e⟩) λe=>⟨_,_,e⟩)
 refine⟨_,_,aa,?_⟩;generalize hu:(#[{g:=0,fn:=fn,pos:=pos,act:=.recvClosed ch}]:Trace)=u;have L:∀m∈u,m.g=0:=λm d=>by subst hu;simp at d;subst d;rfl
 have ax:∀m∈u,m.act.touch?=none:=λm d=>by subst hu;simp at d;subst d;rfl
 have M:(t++u)[t.size]? =some {g:=0,fn:=fn,pos:=pos,act:=.recvClosed ch}:=by subst hu;simp
 have N:∀k,Deaf (t++u) k=Deaf t k:=λk=>nz (λm d=>by subst hu;simp at d;subst d;simp) k;have ab:=T.d0.trans ar;obtain⟨q,p,q1,q2,q3,q4,q5,p1,p2,p3,p4⟩:=T.cls B;have F:=lt_of_act? q1;have H:=lt_of_act? p1;have ay:(t++u).heard t.size:=⟨0,by simp[Trace.g?,M],by rw[deaf_old (Tw _)];exact ab⟩
 have O:HappensBefore (t++u) p t.size:=.single (.inr ⟨.closed (c:=ch) (by rw[act?_old H];exact p1) (by simp[Trace.act?,M]),(heard_old H).2 p3,ay⟩);have hK:∀i,HappensBefore (t++u) i t.size->Knows (t++u) 0 i:=λi E=>⟨t.size,_,M,rfl,.inr E⟩
 have A:∀i g,(t++u).g? i=some g->g≠0->i<t.size/\t.g? i=some g:=λi g E s=>by obtain⟨m,d,R⟩:=T4.1 E;obtain⟨S,ad⟩|⟨_,aM⟩:=getElem?_append_cases d;exact⟨S,by simp[Trace.g?,ad,R]⟩;rw[L m aM]at R;exact absurd R.symm s
 have po:∀i j g,i<j->(t++u).g? i=some g->(t++u).g? j=some g->HappensBefore (t++u) i j:=λi j g a1 E hj=>by obtain⟨x,hx,a6⟩:=T4.1 E;obtain⟨y,hy,a7⟩:=T4.1 hj;exact hb_po a1 hx hy (a6.trans a7.symm)
 have back:∀g,σ.low g≠0->R6 (t++u) g:=by intro g s i U af;have a8:g≠0:=λe=>s (by rw[e];exact T.tr.z_);obtain⟨S,ag⟩:=A i g U a8;have K:=(counts_old S).1 af;obtain⟨i',bk,rfl⟩|rfl:=W.Cd g s;(have ah:i'<n:=by omega);obtain⟨r,hr,ba⟩:=q4 i' ah;have V:=lt_of_act? hr.act;have bb:=Nat.le_of_not_lt λC=>hr.after i C ag K;have e1:HappensBefore (t++u) r q:=.single (.inr ⟨.marked ba (.inr (by rw[act?_old V];exact hr.act)) (by rw[act?_old F];exact q1) (λk _ I=>by rw[act?_old (Nat.lt_trans I F)];exact T.norel k),(heard_old V).2 hr.heard,(heard_old F).2 q3⟩);have e2:=po q p _ q5 (by rw[g?_old F];exact q2) (by rw[g?_old H];exact p2);have e3:HappensBefore (t++u) r t.size:=(e1.trans e2).trans O;obtain h1|h1:=Ty i r;exact hK i ((po i r _ h1 U (by rw[g?_old V];exact hr.g)).trans e3);(obtain rfl:i=r:=by omega);exact hK i e3;have bb:=Nat.le_of_not_lt λC=>p4 i C ag K;obtain h1|h1:=Ty i p;exact hK i ((po i p _ h1 U (by rw[g?_old H];exact p2)).trans O);(obtain rfl:i=p:=by omega);exact hK i O
 have D:∀m∈t++u,m.act.low w.heap.size:=lH T.seen (Tw _) λm d=>by subst hu;simp at d;subst d;exact W.sp.2
 obtain⟨v,hv⟩:=T.pre;have ht:=T.tr.still ax λm d e=>absurd ((L m d).symm.trans e) (by omega);have X:Past (λl=>Shun l\/∃b,blk l=some b/\spB Wg ch b) w.heap.size (t++u):=by (have e:t++u=t₀++(v++u):=by rw[hv,UA]);rw[e]at ht back D⊢;exact ht.past hP back (by rw[<-e,N];exact ab) D
 refine⟨⟨g2,σ.K0,σ.M0,hs,?_,Z,λb o=>⟨(W.k0 b o).1,(W.k0 b o).2.1,(W.k0 b o).2.2.1⟩,λb o=>⟨(W.m0 b o).1,(W.m0 b o).2.1,(W.m0 b o).2.2.1⟩,?_⟩,by simpa using ao,?_,X,jl T.gb λm d=>by rw[L m d];omega,W.sp,W.os,W.tape,W.output,W.gn,W.old⟩;rw[Ui,Tv rfl,Tv (by omega)];obtain⟨l,h1,h2,h3⟩:=h.v_;refine⟨l,h1,λi=>?_,?_⟩;rw[h2 i,hj];constructor;rintro⟨a,_,c⟩;exact⟨a,c⟩;rintro⟨a,c⟩;exact⟨a,by rw[hQ i (by omega)];omega,c⟩;rw[<-h3];rcases Y with e|e<;>rw[e]<;>rfl;have ak:∀k g,0<k->gs[k]? =some g->∃q,QuitsD P q (Deaf t k) g:=by intro k g I s;obtain h1|⟨h1,h2⟩|⟨i,E,rfl⟩|⟨hc,rfl⟩:=xJ h (TC.1 s).1;omega;exact⟨_,Q.lv k g h1 h2 s⟩;obtain⟨g',f,hw⟩:=Q.wk i E;rw[s]at f;cases f;have h0:=hQ i E;rw[T.dw i E];exact J7 hw h0;obtain⟨g',f,hw⟩:=Q.cl _ B;rw[s]at f;cases f;rw[T.dc J];exact J8 hw rfl
 classical
 refine⟨λk=>if I:∃q,∀g,0<k->gs[k]? =some g->QuitsD P q (Deaf t k) g then I.choose else 0,λk g I s=>?_,λk I=>?_⟩;rw[TJ (by omega)]at s;have an:∃q,∀g,0<k->gs[k]? =some g->QuitsD P q (Deaf t k) g:=by obtain⟨q,hq⟩:=ak k g I s;exact⟨q,λg' _ f=>by rw[s]at f;cases f;exact hq⟩
 simp only[U9 an];rw[N];exact an.choose_spec g I s;simp at I;rw[N];exact T.above k (by omega) (λi E=>by omega) λ_=>by omega
def phase(G:fK Wg ch base N0 shun)(r:n<2147483647)(j:∀K M g w,An K M g w->Run P false ty Wg (SW1 P ty Wg ch An) K M g w){Shun D0}(s:Past Shun D0 t₀):∀(m) (gs) (w) (sl) (t) (σ),mu (n:=n) (base:=base) σ=m->GI P ty Wg ch z An HV Fin n base N0 shun C0 t₀ gs w t σ->∃N gs' w' a t',runNT P N (crowd gs w sl) t=(.next (crowd gs' w' a),t')/\P7 P Wg ch z HV Fin n base N0 shun Shun C0 gs' w' t':=by intro m;induction m using(Pc P ty Wg).induction with|_ m u=>(rintro gs w sl t σ rfl h;obtain⟨i,g,d,a,v,b,c⟩:=crowd_pick (P:=P) (w:=w) (sl:=sl) (G7 h) (za h);rcases MU (sl:=a) G r j (h.P6 G d) v b with⟨gs',w',ops,k,l,x,y⟩|⟨rfl,A⟩);obtain⟨N,e,o,f,p,B,q⟩:=u _ y gs' w' a (t++ops) k rfl x;exact⟨N+1,e,o,f,p,by simp only[runNT,c,l];exact B,q⟩;obtain⟨gs',ops,l,q⟩:=EC G (h.P6 G d) s A;exact⟨1,gs',w.at d,a,t++ops,by simp only[runNT,c,l],q⟩
end
end Go.Tm

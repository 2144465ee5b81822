import Derived.Test.YtaglpcmhopjebaaGreatDoorQ13
set_option linter.all false
set_option maxRecDepth 100000
set_option maxHeartbeats 20000000
namespace Go.Tm
open Go.Conc Go.ConcN Go.Conc.Lib
open Go.ConcR (KK WgAt stA smA rd wr mk DC0 Bk)
section
variable {P:Program} {ty:TypeId} {Wg ch:Nat} {z:Value} {An:aJ} {HV:Nat->Option Value} {Fin:List Value->aJ} {n base N0:Nat} {shun:Nat->Prop} {W₀:World} {t₀ t:Trace} {gs:Array Goroutine} {w w':World} {sl:Option (Nat×Nat)} {σ:GSt P ty Wg}
def F9{mt j d K M ρ a}(h:fj P ty Wg ch z An HV Fin n mt j d K M ρ a w){g g' s r}(k:mayWake P g=true)(f:g'.status=.running\/g'.status=.finished)
 (o:w.heap[ch]? =some (.chan 0 #[] true s r false)):∃mt' ρ',fj P ty Wg ch z An HV Fin n mt' j d K M ρ' (woken P g g' w a) w/\mt'.got=mt.got/\mt'.pend=mt.pend/\(∀r b,mt'≠ .rb r b)/\(((∃r st,mt'=.sp r st)\/mt'=.gc)->((∃r st,mt=.sp r st)\/mt=.gc))/\(ρ'=ρ\/Rk.lt P ty Wg ρ' ρ):=by
 have same:a.status=.running->(∀r b,mt≠ .rb r b)->∃mt' ρ',fj P ty Wg ch z An HV Fin n mt' j d K M ρ' (woken P g g' w a) w/\mt'.got=mt.got/\mt'.pend=mt.pend/\(∀r b,mt'≠ .rb r b)/\
  (((∃r st,mt'=.sp r st)\/mt'=.gc)->((∃r st,mt=.sp r st)\/mt=.gc))/\(ρ'=ρ\/Rk.lt P ty Wg ρ' ρ):=by
  intro b i;have e:woken P g g' w a=a:=by
   unfold Go.Conc.woken;split
   ·exact again_running _ (.inl b)
   ·rfl
  exact⟨mt,ρ,by rw[e];exact h,rfl,rfl,i,id,.inl rfl⟩
 obtain⟨b,i⟩|⟨p,b,l,rfl,rfl⟩:=h.status
 ·exact same b i
 ·have e:woken P g g' w (parked l #[rcase ch z] (.recv true))={parked l #[rcase ch z] (.recv true)with status:=.running}:=by unfold Go.Conc.woken;rw[RZ (by rcases f with f|f<;>rw[k,f]<;>rfl)];exact again_recv_closed o
  rw[e];generalize q:parked l #[rcase ch z] (.recv true)=v at h;cases h with
  | @rb _ _ x _ c _ _ u m=>exact⟨.rw p b,(18,0,c),.rw u m,rfl,rfl,by simp,by simp,.inr (bS (by omega))⟩
def AX(G:fo Wg ch base N0 shun)(h:GI P ty Wg ch z An HV Fin n base N0 shun W₀ t₀ gs w t σ){g}(x:σ.ct=some .cl)(hg:gs[base+n]? =some g)(y:σ.dc=0){c}(K:σ.rc=(12,0,c))
 (o:SCl P ch σ.Kc σ.Mc g w):dN P ty Wg ch z An HV Fin n base N0 shun W₀ t₀ t gs w sl σ (base+n):=by
 have hb:=G.lg;have W:=h.w_;have T:=h.t_;have Q:=h.g_;obtain⟨ad,L,o⟩:=o;obtain⟨s,I⟩:=W.chn;rw[x]at I;obtain⟨g',M,q,hq⟩:=o s s false I;obtain⟨hQ,A,B⟩:=h.m_.isFin (by rw[x];trivial);have j:σ.ct≠none:=by rw[x];simp
 have N:=(T.dc j).trans y;let w':World:={w with heap:=w.heap.setIfInBounds ch (.chan 0 #[] true s s false)}
 have k:w'.heap[ch]? =some (.chan 0 #[] true s s false):=by show(w.heap.setIfInBounds ch _)[ch]? =_;rw[S6];simp[W.sp.2]
 have p:∀b,b≠ch->w'.heap[b]? =w.heap[b]? :=λb d=>Si (Sn d);have l:w'.heap.size=w.heap.size:=by simp[w']
 have f:=W.wg.of_block (p Wg G.ne_);obtain⟨a,ha,O⟩:=Q.mn;have C:=O.rely ⟨λb d=>p b λe=>(W.k0 b d).2.1 (.inr e),λ_=>⟨_,_,f⟩,TM l.symm⟩;obtain⟨mt',r0',R,D,S,U,E,V⟩:=F9 C L hq.status k;have m:MemOp.ofEvents (base+n) g.frame.fn g.frame.place (closeEvents ch)=#[{g:=base+n,fn:=g.frame.fn,pos:=g.frame.place,act:=.access ⟨.obj ch,false,true⟩},{g:=base+n,fn:=g.frame.fn,pos:=g.frame.place,act:=.close ch}]:=by simp[MemOp.ofEvents,closeEvents,MemAct.ofEvent]
 refine h.closer (c':=.quit) (ρ':=(0,q,c)) (r0':=r0') (mt':=mt') G x hg M ⟨rfl,rfl,rfl⟩ (TM l.symm) (λb _ _ X _=>p b X) f ⟨s,k⟩ (λe F=>?_) (λb d=>.inl d) (λb d=>.inl d) (.quit hq)
  ?_ ?_ ?_ ?_ ?_ D (λe=>absurd (Q.mc.2 (E e)) j) (λ⟨r,I,e⟩=>absurd e (U r I)) (λ_ _ _=>rfl) (λe=>by cases e) λ_=>?_
 ·simp only[closeEvents,To,SE,SS,SU]at F
  exact .inr (.inr (.inr F))
 ·obtain e|e:=V
  ·exact .inl ⟨e,by rw[K];exact bS (by omega)⟩
  ·exact .inr e
 ·rw[y];exact deafBehind_still (λe F=>by simp only[closeEvents,To,SE,SS,SU]at F;rcases F with rfl|rfl<;>simp) 0
 ·rw[A,B];exact .fin trivial hQ
 ·intro a' H _ _
  rw[ha]at H;cases H;exact R
 ·intro i gw J hw
  exact hw.woken g g' w' λh7=>by have:=hQ i J;omega
 ·obtain⟨q',h1,X,h3,h4⟩:=T.acq x
  have u:=lt_of_act? h1;have v:∀Y∈MemOp.ofEvents (base+n) g.frame.fn g.frame.place (closeEvents ch),Y.g=base+n:=λY Z=>by obtain⟨e,_,rfl⟩:=Go.Conc.mem_ofEvents Z;rfl
  have hp:(t++MemOp.ofEvents (base+n) g.frame.fn g.frame.place (closeEvents ch))[t.size+1]? =some {g:=base+n,fn:=g.frame.fn,pos:=g.frame.place,act:=.close ch}:=by rw[m,Ud];simp
  refine⟨q',t.size+1,by rw[act?_old u];exact h1,by rw[g?_old u];exact X,(heard_old u).2 h3,λi J=>?_,by omega,by rw[act?_of hp],by simp[Trace.g?,hp],⟨base+n,by simp[Trace.g?,hp],?_⟩,λi J aa=>?_⟩
  ·obtain⟨r,hr,ab⟩:=h4 i J
   exact⟨r,dM hr v (by omega),ab⟩
  ·rw[deaf_inside t (base+n) _ _ _ 1 (by simp[closeEvents]),N]
   rfl
  ·obtain⟨Y,ho,_⟩:=SH.1 aa
   have:=lt_size_of_getElem? ho;rw[m]at this;simp at this;omega
def wM(G:fo Wg ch base N0 shun)(h:GI P ty Wg ch z An HV Fin n base N0 shun W₀ t₀ gs w t σ){g}(p:σ.ct=some .acq)(H:gs[base+n]? =some g)(k:σ.dc=0){c}(q:σ.rc=(13,0,c))
 (s:NR P ty Wg ch σ.Kc σ.Mc g w):dN P ty Wg ch z An HV Fin n base N0 shun W₀ t₀ t gs w sl σ (base+n):=by
 have W:=h.w_;have T:=h.t_;have Q:=h.g_;obtain⟨B,g',u,d⟩:=s;obtain⟨C,l,m⟩:=h.m_.isFin (by rw[p];trivial);have b:σ.ct≠none:=by rw[p];simp
 have v:=(T.dc b).trans k;obtain⟨x,I⟩:=cj.of d;refine dV (st':=0) (sm':=0) (c':=.cl) G h p H u (.inl rfl) (by have:=W.wg;rw[l,m]at this;exact this) (λe D=>by simp at D;subst D;exact .inl (ig λa=>by simp)) (.cl I) (by rw[q];exact bS (by simp[jD])) (by rw[k];rfl)
  (.fin trivial C) (by simp) (λ_=>?_) (λe=>by cases e)
 have e1:MemOp.ofEvents (base+n) g.frame.fn g.frame.place #[mk (.acquire (stA Wg))]=#[{g:=base+n,fn:=g.frame.fn,pos:=g.frame.place,act:=.mark (.acquire (stA Wg))}]:=by simp[MemOp.ofEvents,Go.ConcR.mk,MemAct.ofEvent]
 have y:(t++MemOp.ofEvents (base+n) g.frame.fn g.frame.place #[mk (.acquire (stA Wg))])[t.size]? =some {g:=base+n,fn:=g.frame.fn,pos:=g.frame.place,act:=.mark (.acquire (stA Wg))}:=by rw[e1];simp
 have f:∀E∈MemOp.ofEvents (base+n) g.frame.fn g.frame.place #[mk (.acquire (stA Wg))],E.g=base+n:=λE A=>by obtain⟨e,_,rfl⟩:=Go.Conc.mem_ofEvents A;rfl
 refine⟨t.size,by rw[act?_of y],by simp[Trace.g?,y],⟨base+n,by simp[Trace.g?,y],by rw[deaf_old (R2 _)];exact v⟩,λi J=>?_⟩;have o:i<σ.j:=by rw[Q.cn b];exact J
 obtain⟨r,F⟩:=T.rel i o (by rw[C i o];omega);exact⟨r,dM F f (by omega),lt_of_act? F.act⟩
def Dy(G:fo Wg ch base N0 shun)(h:GI P ty Wg ch z An HV Fin n base N0 shun W₀ t₀ gs w t σ){g}(l:σ.ct=some .quit)(p:gs[base+n]? =some g)(a:g.status=.running){q c}(f:σ.rc=(0,q,c))
 (b:QuitsD P q σ.dc g):dN P ty Wg ch z An HV Fin n base N0 shun W₀ t₀ t gs w sl σ (base+n):=by
 cases q with
 |zero=>rw[b.1]at a;cases a
 |succ q=>
  obtain⟨r,_⟩|⟨_,g',es,o,i,s⟩:=b
  ·rw[r]at a;cases a
  exact dV (st':=σ.st) (sm':=σ.sm) (c':=.quit) (ρ':=(0,q,c)) G h l p (i w) (.inl rfl) h.w_.wg
   (λe j=>.inl (by
    have d:=o e j;obtain⟨k,u,v⟩:=e;cases k<;>simp[Event.mute]at d;rename_i m;cases m<;>simp at d
    ·exact⟨λx b=>by simp[MemAct.ofEvent,MemAct.touch?]at b,by simp,λ_ _ _=>trivial⟩
    ·exact⟨λx b=>by simp[MemAct.ofEvent,MemAct.touch?]at b,by simp,λ_ _ _=>trivial⟩)) (.quit s) (by rw[f];exact qk (by omega)) rfl
   (by rw[<-l];exact h.m_) T1 (λe=>by cases e) λ_ e j=>touch_mute (o e j)
def Dz(G:fo Wg ch base N0 shun)(hn:n<2147483647)(ad:∀K M g w,An K M g w->Run P false ty Wg (SW1 P ty Wg ch An) K M g w)(h:GI P ty Wg ch z An HV Fin n base N0 shun W₀ t₀ gs w t σ){g ct}(i:σ.ct=some ct)(y:gs[base+n]? =some g)(L:g.status=.running):
 dN P ty Wg ch z An HV Fin n base N0 shun W₀ t₀ t gs w sl σ (base+n):=by
 obtain⟨g0,U,V⟩:=h.g_.cl ct i;rw[y]at U;cases U;have W:=h.w_;have Q:=h.g_;have X:σ.ct≠none:=by rw[i];simp
 have C:σ.mt.pend=0:=by have:=mt Q.mc.2 X;generalize σ.mt=m at this;cases m<;>first|rfl|exact absurd (.inl ⟨_,_,rfl⟩) this
 have an:=LC σ.j σ.D;have ao:=Q.jn;have Y:∀e∈#[rd (stA Wg),wr (stA Wg)],EvB Wg e:=λe v=>by obtain⟨a,b,ha,rfl⟩:=mo (Wg:=Wg) (.inl rfl) e v;exact eI ha b
 have I:∀e∈#[rd (stA Wg)],EvB Wg e:=λe v=>by obtain⟨a,b,ha,rfl⟩:=mo (Wg:=Wg) (.inr (.inl rfl)) e v;exact eI ha b
 generalize k:σ.Kc=Kc at V;generalize d:σ.Mc=Mc at V;generalize B:σ.rc=R at V;generalize q:σ.dc=dc at V;cases V with
 |wd E=>
  obtain p|⟨_,g',w',es,N,f,o,r,s,u⟩:=E.lM
  ·obtain⟨_,g',f,l⟩:=p w (.refl w)
   obtain⟨x,F⟩:=cj.of l;obtain⟨S,_,A,H⟩:=h.m_.zh (by rw[i];trivial);exact dV (st':=σ.st) (sm':=σ.sm) (c':=.w1) G h i y f (.inl rfl) W.wg (λe v=>by simp at v;subst v;exact .inl (ig λa=>by simp)) (by rw[k,d];exact .w1 F) (by rw[B];exact bS (by simp[jD])) (by rw[q];rfl)
    (by rw[A,H];exact .opn trivial S λZ e=>by cases e) (by simp) (λe=>by cases e) (λe=>by cases e)
  ·exact eJ G h i y f (by simp) (by rw[d];exact o) (by rw[k,d];exact r) (by rw[k,d,q];exact .wd s) (by rw[B];exact eQ u)
 |w1 E=>
  obtain p|⟨_,g',w',es,N,f,o,r,s,u⟩:=E.lM
  ·obtain⟨_,p⟩:=p w (.refl w)
   obtain⟨S,_,A,H⟩:=h.m_.zh (by rw[i];trivial);rw[C,Tr]at A;have hwg:=W.wg;rw[A,H]at hwg;obtain⟨g',f,h0,J⟩:=p (VW σ.j σ.D) (by omega) hwg;by_cases O:VW σ.j σ.D=0
   ·obtain⟨x,F⟩:=cj.of (h0 O)
    exact dV (st':=0) (sm':=0) (c':=.we) G h i y f (.inl rfl) (by rw[O]at hwg;simpa using hwg) (λe v=>.inl (I e v)) (by rw[k,d];exact .we F) (by rw[B];exact bS (by simp[jD])) (by rw[q];exact rB _)
     (.fin trivial (NW O S)) (by simp) (λe=>by cases e) (λe=>by cases e)
   ·obtain⟨x,F⟩:=cj.of (J O)
    exact dV (c':=.w2 (VW σ.j σ.D)) G h i y f (.inl rfl) hwg (λe v=>.inl (I e v)) (by rw[k,d];exact .w2 F) (by rw[B];exact bS (by simp[jD])) (by rw[q];exact rB _)
     (by
      have:=Mode.opn (j:=σ.j) (D:=σ.D) (mt:=σ.mt) (ct:=some (.w2 (VW σ.j σ.D))) trivial S λZ e=>by simp at e;subst e;omega
      rw[C,Tr]at this;exact this) (by simp) (λe=>by cases e) (λe=>by cases e)
  ·exact eJ G h i y f (by simp) (by rw[d];exact o) (by rw[k,d];exact r) (by rw[k,d,q];exact .w1 s) (by rw[B];exact eQ u)
 | @w2 K M g w c Z E=>
  obtain p|⟨_,g',w',es,N,f,o,r,s,u⟩:=E.lM
  ·obtain⟨_,p⟩:=p w (.refl w)
   obtain⟨S,af,A,H⟩:=h.m_.zh (by rw[i];trivial);rw[C,Tr]at A;have hwg:=W.wg;rw[A,H]at hwg;obtain⟨ag,aa⟩:=p (VW σ.j σ.D) (by omega) hwg;have ak:=af Z i;by_cases O:VW σ.j σ.D=Z
   ·obtain⟨g',f,l⟩:=ag O
    obtain⟨x,F⟩:=cj.of l;exact dV (c':=.sw) G h i y f (.inr ⟨_,_,rfl,rfl⟩) (hwg.setSt _) (λe v=>.inl (Y e v)) (by rw[k,d];exact .sw F) (by rw[B];exact bS (by simp[jD];split<;>omega)) (by rw[q];exact kh _ _)
     (.reg trivial S (by omega)) (by simp) (λe=>by cases e) (λe=>by cases e)
   ·obtain⟨g',f,l⟩:=aa O
    obtain⟨x,F⟩:=cj.of (l.bind λK M g w=>ad K M g w);exact dV (c':=.w1) G h i y f (.inl rfl) hwg (λe v=>.inl (I e v)) (by rw[k,d];exact .w1 F) (by rw[B];exact bS (by simp[jD,Sn O])) (by rw[q];exact rB _)
     (by
      have:=Mode.opn (j:=σ.j) (D:=σ.D) (mt:=σ.mt) (ct:=some .w1) trivial S λZ e=>by cases e
      rw[C,Tr]at this;exact this) (by simp) (λe=>by cases e) (λe=>by cases e)
  ·exact eJ G h i y f (by simp) (by rw[d];exact o) (by rw[k,d];exact r) (by rw[k,d,q];exact .w2 s) (by rw[B];exact eQ u)
 |sw E=>
  obtain p|⟨_,g',w',es,N,f,o,r,s,u⟩:=E.lM
  ·obtain⟨_,g',f,l⟩:=p w (.refl w)
   obtain⟨x,F⟩:=cj.of l;refine dV (st':=σ.st) (sm':=σ.sm) (c':=.w3) G h i y f (.inl rfl) W.wg (λe v=>by simp at v;subst v;exact .inr rfl) (by rw[k,d];exact .w3 F) (by rw[B];exact bS (by simp[jD])) (by rw[q];rfl)
    ?_ (by simp) (λe=>by cases e) (λe=>by cases e)
   rcases h.m_.OJ (by rw[i];trivial)with⟨_,hm⟩|⟨hQ,J,h2⟩
   ·exact hm _ trivial
   ·rw[J,h2];exact .sema trivial (by simp) hQ
  ·exact eJ G h i y f (by simp) (by rw[d];exact o) (by rw[k,d];exact r) (by rw[k,d,q];exact .sw s) (by rw[B];exact eQ u)
 | @w3 K M g w c E=>
  obtain p|⟨_,g',w',es,N,f,o,r,s,u⟩:=E.lM
  ·obtain⟨_,_,ab,T⟩:=p w (.refl w)
   rcases h.m_.OJ (by rw[i];trivial)with⟨J,hm⟩|⟨hQ,J,h2⟩
   ·have hwg:=W.wg
    have f:=ab ⟨σ.st,by rw[<-J];exact hwg⟩;exact dV (st':=σ.st) (sm':=σ.sm) (c':=.blk) (ρ':=(jD (VW σ.j σ.D) .blk,0,c)) G h i y f (.inl rfl) hwg (λe v=>by simp at v) (by rw[k,d];exact .blk p) (by rw[B];exact bS (by simp[jD])) (by rw[q];rfl)
     (hm _ trivial) (by simp) (λe=>by cases e) (λe=>by cases e)
   ·have hwg:=W.wg
    rw[J,h2]at hwg;obtain⟨g',f,l⟩:=T hwg;obtain⟨x,F⟩:=cj.of l;exact dV (c':=.w4) G h i y f (.inr ⟨_,_,rfl,rfl⟩) (hwg.setSm _) (λe v=>.inl (LF e v)) (by rw[k,d];exact .w4 F) (by rw[B];exact bS (by simp[jD])) (by rw[q];exact Dq _)
     (.fin trivial hQ) (by simp) (λe=>by cases e) (λe=>by cases e)
  ·exact eJ G h i y f (by simp) (by rw[d];exact o) (by rw[k,d];exact r) (by rw[k,d,q];exact .w3 s) (by rw[B];exact eQ u)
 |blk E=>cases L
 |w4 E=>
  obtain p|⟨_,g',w',es,N,f,o,r,s,u⟩:=E.lM
  ·obtain⟨_,p⟩:=p w (.refl w)
   obtain⟨hQ,J,h2⟩:=h.m_.isFin (by rw[i];trivial);have hwg:=W.wg;rw[J,h2]at hwg;obtain⟨g',f,l⟩:=p hwg;obtain⟨x,F⟩:=cj.of l;exact dV (c':=.we) G h i y f (.inl rfl) hwg (λe v=>.inl (I e v)) (by rw[k,d];exact .we F) (by rw[B];exact bS (by simp[jD])) (by rw[q];exact rB _)
    (.fin trivial hQ) (by simp) (λe=>by cases e) (λe=>by cases e)
  ·exact eJ G h i y f (by simp) (by rw[d];exact o) (by rw[k,d];exact r) (by rw[k,d,q];exact .w4 s) (by rw[B];exact eQ u)
 |we E=>
  obtain p|⟨_,g',w',es,N,f,o,r,s,u⟩:=E.lM
  ·obtain⟨_,g',f,l⟩:=p w (.refl w)
   obtain⟨x,F⟩:=cj.of l;obtain⟨hQ,J,h2⟩:=h.m_.isFin (by rw[i];trivial);exact dV (st':=σ.st) (sm':=σ.sm) (c':=.acq) G h i y f (.inl rfl) W.wg (λe v=>by simp at v;subst v;exact .inl (ig λa=>by simp)) (by rw[k,d];exact .acq F) (by rw[B];exact bS (by simp[jD])) (by rw[q];rfl)
    (by rw[J,h2];exact .fin trivial hQ) (by simp) (λe=>by cases e) (λe=>by cases e)
  ·exact eJ G h i y f (by simp) (by rw[d];exact o) (by rw[k,d];exact r) (by rw[k,d,q];exact .we s) (by rw[B];exact eQ u)
 |acq E=>
  obtain p|⟨_,g',w',es,N,f,o,r,s,u⟩:=E.lM
  ·exact wM G h i y q B (by rw[k,d];exact p w (.refl w))
  ·exact eJ G h i y f (by simp) (by rw[d];exact o) (by rw[k,d];exact r) (by rw[k,d,q];exact .acq s) (by rw[B];exact eQ u)
 |cl E=>
  obtain p|⟨_,g',w',es,N,f,o,r,s,u⟩:=E.lM
  ·exact AX G h i y q B (by rw[k,d];exact p w (.refl w))
  ·exact eJ G h i y f (by simp) (by rw[d];exact o) (by rw[k,d];exact r) (by rw[k,d,q];exact .cl s) (by rw[B];exact eQ u)
 |quit hq=>exact Dy G h i y L B (by rw[q];exact hq)
end
section
variable {P:Program} {ty:TypeId} {Wg ch:Nat} {z:Value} {An:aJ} {HV:Nat->Option Value} {Fin:List Value->aJ} {n base N0:Nat} {shun:Nat->Prop} {W₀:World} {t₀ t:Trace} {gs gs':Array Goroutine} {w w':World} {sl:Option (Nat×Nat)} {σ:GSt P ty Wg}
def GI.comm(G:fo Wg ch base N0 shun)(h:GI P ty Wg ch z An HV Fin n base N0 shun W₀ t₀ gs w t σ){ops:Trace}{mt' r0'}{D':Nat->WD}{R':Nat->Rk P ty Wg}
 (H:w'.os=w.os/\w'.tape=w.tape/\w'.output=w.output) (o:w'.heap.size=w.heap.size) (q:∀b,b≠ch->w'.heap[b]? =w.heap[b]?) (S:∃s,w'.heap[ch]? =some (.chan 0 #[] (eH σ.ct) s s false))
 (v:∀m∈ops,m.act.touch?=none/\m.act≠ .mark .disable/\m.act≠ .mark .enable/\m.act≠ .mark (.release (stA Wg))) (C:∀m∈ops,m.g≠base+n) (Z:∀m∈ops,m.g<base+n+1) (I:∀m∈ops,m.act.low w'.heap.size)
 (Y:∀i,i<σ.j->(D' i).K=(σ.D i).K/\(D' i).M=(σ.D i).M/\(D' i).d=(σ.D i).d/\((D' i).s<=5->(σ.D i).s<=5))
 (aa:∃a,gs'[0]? =some a/\fj P ty Wg ch z An HV Fin n mt' σ.j σ.d0 σ.K0 σ.M0 r0' a w')
 (ab:∀i,i<σ.j->(D' i=σ.D i/\R' i=σ.R i/\gs'[base+i]? =gs[base+i]?)\/∃g,gs'[base+i]? =some g/\WSit P ty Wg ch z (HV i) (D' i) (R' i) g w')
 (E:∀k,0<k->(k<base\/k=base+n)->gs'[k]? =gs[k]?) (ad:gs'.size=gs.size) (U:∀i,σ.j<=i->R' i=σ.R i)
 (J:Mode σ.j D' mt' σ.ct σ.st σ.sm) (hV:VW σ.j D'=VW σ.j σ.D)
 (af:((∃r st,mt'=.sp r st)\/mt'=.gc)↔((∃r st,σ.mt=.sp r st)\/σ.mt=.gc)) (ag:(∃r V,mt'=.rb r V)->σ.ct≠some .quit/\∀i,i<σ.j->(D' i).s≠7) (ak:∀r V,mt'=.rw r V->σ.ct=some .quit)
 (X:∃l:List Nat,l.Nodup/\(∀i,i∈l↔i<σ.j/\(D' i).s<=6/\HV i≠none)/\mt'.got=l.filterMap HV):
 GI P ty Wg ch z An HV Fin n base N0 shun W₀ t₀ gs' w' (t++ops) {σ with mt:=mt',r0:=r0',D:=D',R:=R'}:=by
 have hb:=G.lg;have W:=h.w_;have T:=h.t_;have Q:=h.g_;have y:∀k,Deaf (t++ops) k=Deaf t k:=λk=>mW (λm p=>⟨(v m p).2.1,(v m p).2.2.1⟩) k;have F:∀K:Nat->Prop,(∀b,K b->¬spB Wg ch b)->RK ty Wg K w w':=λK hK=>⟨λb f=>q b λe=>hK b f (.inr e),λ⟨st,sm,hl⟩=>⟨st,sm,hl.of_block (q Wg G.ne_)⟩,TM o.symm⟩
 have A:∀i r,RelBy (stA Wg) t (base+i) r->RelBy (stA Wg) (t++ops) (base+i) r:=λi r L=>oc L λm p=>(v m p).1;refine⟨⟨H.1.trans W.os,H.2.1.trans W.tape,H.2.2.trans W.output,by rw[o];exact W.fO,λb f=>?_,S,W.wg.of_block (q Wg G.ne_),by rw[o];exact W.sp,?_,?_,?_,?_,?_,W.mc,?_,W.Dl,W.Dm,W.AS,λk=>by rw[o];exact W.AT k⟩,⟨?_,?_,?_,?_,T.norel.app λm p=>(v m p).2.2.2,(y 0).trans T.d0,λi x=>?_,λB=>(y _).trans (T.dc B),λk h1 N h3=>(y k).trans (T.above k h1 N h3),λi x V=>?_,λB=>?_,λB=>?_⟩,⟨?_,Q.jn,Q.cn,aa,Q.mc.trans af.symm,λi x=>?_,?_,?_,?_,ag,ak⟩,J,X⟩
 ·rw[q b (by have:=G.ch_;omega)];exact W.old b f
 ·intro i x b f
  rw[o];exact W.kw i x b (by rw[<-(Y i x).1];exact f)
 ·intro i x b f
  exact W.mw i x b (by rw[<-(Y i x).2.1];exact f)
 ·intro b f
  rw[o];exact W.k0 b f
 ·intro b f
  rw[o];exact W.m0 b f
 ·intro B b f
  rw[o];exact W.kc B b f
 ·intro b f
  rw[o];exact W.owns b f
 ·obtain⟨u,rfl⟩:=T.pre
  exact⟨_,Tq ..⟩
 ·exact T.tr.still (λm p=>(v m p).1) λm p e=>absurd e (C m p)
 ·exact kZ T.seen (TM o.symm) I
 ·exact iX T.gb Z
 ·exact(y _).trans ((T.dw i x).trans (Y i x).2.2.1.symm)
 ·obtain⟨r,L⟩:=T.rel i x ((Y i x).2.2.2 V)
  exact⟨r,A i r L⟩
 ·exact kB (T.acq B) λi r _ L=>A i r L
 ·refine kC (T.cls B) (λi r _ L=>A i r L) λi x an=>?_
  obtain⟨m,ho,ao⟩:=SH.1 an;obtain⟨aM,_⟩|⟨_,ar⟩:=getElem?_append_cases ho
  ·omega
  ·exact absurd ao (C m ar)
 ·show gs'.size=_
  rw[ad];exact Q.size
 ·obtain⟨e1,e2,e3⟩|h1:=ab i x
  ·obtain⟨g,O,hw⟩:=Q.wk i x
   refine⟨g,by rw[e3];exact O,?_⟩;show WSit P ty Wg ch z (HV i) (D' i) (R' i) g w';rw[e1,e2];exact hw.rely (F _ λb f=>(W.kw i x b f).2.1)
  ·exact h1
 ·intro i h1 N
  show(R' i).1=9;rw[U i h1];exact Q.unb i h1 N
 ·intro c B
  obtain⟨g,O,ax⟩:=Q.cl c B;have ay:0<base+n:=by omega
  refine⟨g,by rw[E _ ay (.inr rfl)];exact O,?_⟩;show CSit P ty Wg ch An (VW σ.j D') c σ.dc σ.Kc σ.Mc σ.rc g w';rw[hV];exact ax.rely (F _ λb f=>(W.kc (by rw[B];simp) b f).2.1)
 ·intro i g h1 N O
  rw[E i h1 (.inl N)]at O;rw[y];exact Q.lv i g h1 N O
def wN(h:GI P ty Wg ch z An HV Fin n base N0 shun W₀ t₀ gs w t σ){k}(d:k<gs.size):k=0\/(0<k/\k<base)\/(∃i,i<σ.j/\k=base+i)\/(σ.ct≠none/\k=base+n):=by
 have a:=h.g_.size;obtain h1|h1:=R5 k base
 ·omega
 ·obtain h2|h2:=R5 k (base+σ.j)
  ·exact .inr (.inr (.inl ⟨k-base,by omega,by omega⟩))
  ·cases b:σ.ct with
   |none=>rw[b]at a;simp at a;omega
   |some c=>have e:=h.g_.cn (by rw[b];simp);rw[b]at a;simp at a;exact .inr (.inr (.inr ⟨by simp,by omega⟩))
def fu{g}(h:g.status=.running\/g.status=.finished)(r s):offersAt g r s=[]:=offersAt_of_not_blocked (by rcases h with h|h<;>rw[h]<;>simp) r s
def tU(h:GI P ty Wg ch z An HV Fin n base N0 shun W₀ t₀ gs w t σ){k g}(d:gs[k]? =some g)(j:k≠0):offersAt g ch false=[]:=by
 obtain b|⟨b,e⟩|⟨i,l,rfl⟩|⟨m,rfl⟩:=wN h (R7.1 d).1
 ·exact absurd b j
 ·exact fu (h.g_.lv k g b e d).status _ _
 ·obtain⟨g',a,o⟩:=h.g_.wk i l
  rw[d]at a;cases a;obtain⟨_,b⟩|⟨_,q,v,rfl⟩:=o.status
  ·exact fu b _ _
  ·exact offersAt_parked_send' ..
 ·obtain⟨c,f⟩:=UH.1 m
  obtain⟨g',a,p⟩:=h.g_.cl c f;rw[d]at a;cases a;obtain⟨_,b⟩|⟨_,b,e⟩:=p.status
  ·exact fu b _ _
  ·unfold offersAt
   rw[b,e]
def Hk(h:GI P ty Wg ch z An HV Fin n base N0 shun W₀ t₀ gs w t σ){k g}(d:gs[k]? =some g)(m:k≠0):offersAt g ch true=[]\/∃i,i<σ.j/\k=base+i/\(σ.D i).s=7/\offersAt g ch true=[0]:=by
 obtain b|⟨b,e⟩|⟨i,l,rfl⟩|⟨o,rfl⟩:=wN h (R7.1 d).1
 ·exact absurd b m
 ·exact .inl (fu (h.g_.lv k g b e d).status _ _)
 ·obtain⟨g',a,p⟩:=h.g_.wk i l
  rw[d]at a;cases a;obtain⟨_,b⟩|⟨q,u,v,rfl⟩:=p.status
  ·exact .inl (fu b _ _)
  ·exact .inr ⟨i,l,rfl,q,by rw[offersAt_parked_send,RZ rfl]⟩
 ·obtain⟨c,f⟩:=UH.1 o
  obtain⟨g',a,r⟩:=h.g_.cl c f;rw[d]at a;cases a;obtain⟨_,b⟩|⟨_,b,e⟩:=r.status
  ·exact .inl (fu b _ _)
  ·refine .inl ?_
   unfold offersAt;rw[b,e]
def NX{mt j d K M ρ a}(h:fj P ty Wg ch z An HV Fin n mt j d K M ρ a w){r f}(e:mt=.rb r f):
 ∃g,a=parked {g with offers:=none} #[rcase ch z] (.recv true)/\(∀c,RK ty Wg K w c->nZ P ty Wg ch z HV Fin n r f K M g c)/\r+f.length=n/\j=n/\d=0:=by
 subst e;cases h with
 |rb a b=>exact⟨_,rfl,b,a,rfl,rfl⟩
theorem pH{HV:Nat->Option Value}:∀{l:List Nat},(∀i∈l,HV i≠none)->(l.filterMap HV).length=l.length
 | [],_=>rfl
 |a::l,h=>by obtain⟨v,b⟩:=UH.1 (h a (by simp));rw[List.filterMap_cons,b];simp[pH (l:=l) λi c=>h i (by simp[c])]
theorem wO:∀{n} {l:List Nat},l.Nodup->(∀i∈l,i<n)->l.length<=n
 |0,[],_,_=>R2 _
 |0,a::l,_,h=>absurd (h a (by simp)) (Sm _)
 |n+1,l,c,h=>by
  by_cases d:n∈l
  ·have:=wO (n:=n) (c.erase n) λi b=>by
    have f:=h i (List.mem_of_mem_erase b);have g:i≠n:=λe=>by subst e;exact(List.Nodup.mem_erase_iff c).1 b |>.1 rfl
    omega
   rw[List.length_erase_of_mem d]at this;omega
  ·have:=wO (n:=n) c λi b=>by have f:=h i b;have g:i≠n:=λe=>d (e▸b);omega
   omega
def DC{i}(o:i<σ.j)(p:σ.j<=n){v}(g:HV i=some v)(r:6<(σ.D i).s){D':Nat->WD}(c:(D' i).s=6)(d:∀k,k≠i->D' k=σ.D k)(h:Got P ty Wg HV σ):
 σ.mt.got.length<n/\∃l:List Nat,l.Nodup/\(∀k,k∈l↔k<σ.j/\(D' k).s<=6/\HV k≠none)/\σ.mt.got++[v]=l.filterMap HV:=by
 obtain⟨l,q,b,m⟩:=h;have f:i∉l:=λe=>by have:=((b i).1 e).2.1;omega
 have a:=List.nodup_cons.2 ⟨f,q⟩;refine⟨?_,l++[i],?_,λk=>?_,?_⟩
 ·rw[m,pH λk hk=>((b k).1 hk).2.2]
  have:=wO (n:=n) a λk hk=>by
   obtain rfl|hk:=SE.1 hk
   ·omega
   ·have:=((b k).1 hk).1;omega
  simp at this;omega
 ·exact(List.perm_append_singleton i l).nodup_iff.2 a
 ·rw[TS,TW]
  by_cases e:k=i
  ·subst e
   simp[o,c,g]
  ·rw[d k e,b k]
   simp[e]
 ·rw[m]
  simp[g]
def AY{mt mt':nw}(h:(∃r a,mt=.rb r a)\/(∃r a,mt=.rc r a))(c:(∃r a,mt'=.rb r a)\/(∃r a,mt'=.rc r a)):((∃r st,mt'=.sp r st)\/mt'=.gc)↔((∃r st,mt=.sp r st)\/mt=.gc):=by
 constructor
 ·rintro(⟨_,_,e⟩|e)<;>rcases c with⟨_,_,b⟩|⟨_,_,b⟩<;>rw[b]at e<;>cases e
 ·rintro(⟨_,_,e⟩|e)<;>rcases h with⟨_,_,b⟩|⟨_,_,b⟩<;>rw[b]at e<;>cases e
def jr{i d f s r cap a1 h j k l m o p q u v x}(y:a1<base+n)(A:h<base+n)(C:j<base+n)(D:k<base+n):
 ∀a∈(MemOp.ofEvents i d f #[]++#[{g:=a1,fn:=l,pos:=q,act:=.send ch s},{g:=h,fn:=m,pos:=u,act:=.recv ch r cap},{g:=j,fn:=o,pos:=v,act:=.sendDone ch s},{g:=k,fn:=p,pos:=x,act:=.recvDone ch r}]:Trace),(a.act.touch?=none/\a.act≠ .mark .disable/\a.act≠ .mark .enable/\a.act≠ .mark (.release (stA Wg)))/\a.g<base+n/\∀B,ch<B->a.act.low B:=by
 intro a b;have e:MemOp.ofEvents i d f #[]=#[]:=rfl;rw[e]at b;simp only[TA,To,SE,SS,SU]at b;obtain rfl|rfl|rfl|rfl:=b
 ·exact⟨⟨rfl,by simp,by simp,by simp⟩,y,λ_ c=>c⟩
 ·exact⟨⟨rfl,by simp,by simp,by simp⟩,A,λ_ c=>c⟩
 ·exact⟨⟨rfl,by simp,by simp,by simp⟩,C,λ_ c=>c⟩
 ·exact⟨⟨rfl,by simp,by simp,by simp⟩,D,λ_ c=>c⟩
def DI(G:fo Wg ch base N0 shun)(h:GI P ty Wg ch z An HV Fin n base N0 shun W₀ t₀ gs w t σ){i}(E:i<σ.j){g}(hg:gs[base+i]? =some g){v}(hv:HV i=some v)(hs:(σ.D i).s=8)(Y:(σ.D i).d=0){c}(hR:σ.R i=(8,0,c))
 (ar:Ly P ty Wg ch z v (σ.D i).K (σ.D i).M g w):dN P ty Wg ch z An HV Fin n base N0 shun W₀ t₀ t gs w sl σ (base+i):=by
 have hb:=G.lg;have W:=h.w_;have T:=h.t_;have Q:=h.g_;have H:=R6 E Q.jn;obtain⟨a6,⟨es,rfl,Z⟩,aa⟩:=ar;have ab:(base+i==0)=false:=by simp;omega
 have ad:σ.ct≠some .quit:=λe=>by have:=h.m_.wu (by rw[e];trivial) i E;omega
 obtain⟨s,hch⟩:=W.chn;rw[fp ad]at hch;have F:=(R7.1 hg).1;have o:∀(f:FuncId) (p:String),MemOp.ofEvents (base+i) f p #[]=#[]:=λ_ _=>rfl;obtain⟨a,ha,hm⟩:=Q.mn;by_cases I:∃r hs,σ.mt=.rb r hs
 ·
  obtain⟨r,B,C⟩:=I;obtain⟨g2,rfl,ax,a7,ay,af⟩:=NX hm C;have hp:partners (gs.setIfInBounds (base+i) ph) ch false=[(0,0)]:=by
   rw[partners_one (j:=0) (g:=parked {g2 with offers:=none} #[rcase ch z] (.recv true)) (by rw[Si (by omega)];exact ha) λk x q hx=>?_]
   ·rw[offersAt_parked_recv,RZ rfl];rfl
   ·obtain⟨_,rfl⟩|⟨_,u⟩:=getElem?_stand gs (base+i) k x hx
    ·exact offersAt_ph _ _
    ·exact tU h u q
  have J:=crowd_send_meets (sl:=sl) (i:=base+i) (j:=0) hg (by rw[ab];exact Z) hch (by omega) ha hp;have y:=DC (D':=upd σ.D i ⟨6,0,(σ.D i).K,(σ.D i).M⟩) E Q.jn hv (by omega) (by rw[upd_same]) (λk q=>upd_ne _ _ q) h.v_;rw[C]at y;obtain⟨ag,ak⟩:=y;have aM:B.length<n:=ag;obtain⟨r',rfl⟩:∃r',r=r'+1:=⟨r-1,by omega⟩
  let w':=w.setChan ch 0 #[] false (s+1) (s+1) false;have L:∀b,b≠ch->w'.heap[b]? =w.heap[b]? :=λb m=>Si (Sn m);have N:w'.heap.size=w.heap.size:=by simp[w',World.setChan]
  have O:=W.wg.of_block (L Wg G.ne_);have an:∀K:Nat->Prop,(∀b,K b->¬spB Wg ch b)->RK ty Wg K w w':=λK hK=>⟨λb m=>L b λe=>hK b m (.inr e),λ_=>⟨_,_,O⟩,TM N.symm⟩
  obtain⟨_,_,_,S⟩:=ax w (.refl w);obtain⟨x1,a1⟩:=cj.of ((S i v H hv).rely (an _ λb m=>(W.k0 b m).2.1));obtain⟨x2,U⟩:=cj.of (aa.rely (an _ λb m=>(W.kw i E b m).2.1));refine⟨_,w',_,_,J,h.comm (mt':=.rc r' (B++[v])) (r0':=(20,0,x1)) (D':=upd σ.D i ⟨6,0,(σ.D i).K,(σ.D i).M⟩) (R':=upd σ.R i (6,0,x2)) G ⟨rfl,rfl,rfl⟩ N L ⟨s+1,?_⟩
   (λA l=>(jr (base:=base) (n:=n) (by omega) (by omega) (by omega) (by omega) A l).1) (λA l=>Nat.ne_of_lt (jr (base:=base) (n:=n) (Wg:=Wg) (by omega) (by omega) (by omega) (by omega) A l).2.1) (λA l=>UG (jr (base:=base) (n:=n) (Wg:=Wg) (by omega) (by omega) (by omega) (by omega) A l).2.1) (λA l=>(jr (base:=base) (n:=n) (Wg:=Wg) (by omega) (by omega) (by omega) (by omega) A l).2.2 _ (by rw[N];exact W.sp.2))
   (λk q=>?_) ?_ (λk q=>?_) (λk h1 h2=>?_) ?_ (λk q=>?_) ?_ ?_ ?_ ?_ ?_ ?_,jq H rfl (by rw[hR];exact bS (by omega))⟩
  ·rw[fp ad]
   show(w.heap.setIfInBounds ch _)[ch]? =_;rw[S6];simp[W.sp.2]
  ·by_cases e:k=i
   ·subst e;rw[upd_same];exact⟨rfl,rfl,Y.symm,λx=>by simp at x⟩
   ·rw[upd_ne _ _ e];exact⟨rfl,rfl,rfl,id⟩
  ·refine⟨Conc.served {g2 with offers:=none} (recvd true v true),?_,?_⟩
   ·rw[Si (by omega),S6]
    rw[RZ rfl,RZ (by omega)];rfl
   ·rw[af,ay]
    exact .rc (by simp;omega) a1
  ·by_cases e:k=i
   ·subst e
    refine .inr ⟨Conc.served {g with offers:=none} undef,?_,?_⟩
    ·rw[S6,RZ rfl,RZ (by simp;exact F)]
     rfl
    ·rw[upd_same,upd_same];exact .r0 U
   ·refine .inl ⟨upd_ne _ _ e,upd_ne _ _ e,?_⟩
    rw[Si (by omega),Si (by omega)]
  ·rw[Si (by omega),Si (by omega)]
  ·simp
  ·rw[upd_ne];omega
  ·exact(h.m_.same (D':=⟨6,0,(σ.D i).K,(σ.D i).M⟩) E (.inr ⟨by simp,by omega⟩)).sW (by rw[C];rfl)
  ·have:=sU (D:=σ.D) (D':=⟨6,0,(σ.D i).K,(σ.D i).M⟩) E
   have e1:jC (σ.D i)=1:=RZ (by omega);have e2:jC ⟨6,0,(σ.D i).K,(σ.D i).M⟩=1:=rfl;omega
  ·exact AY (.inl ⟨_,_,C⟩) (.inr ⟨_,_,rfl⟩)
  ·rintro⟨_,_,e⟩;cases e
  ·intro _ _ e;cases e
  ·exact ak
 ·
  have V:offersAt a ch false=[]:=by
   obtain⟨h1,_⟩|⟨r,B,g2,h1,_⟩:=hm.status
   ·exact fu (.inl h1) _ _
   ·exact absurd ⟨r,B,h1⟩ I
  have hp:partners (gs.setIfInBounds (base+i) ph) ch false=[]:=partners_nil λk x hx=>by
   obtain⟨_,rfl⟩|⟨_,u⟩:=getElem?_stand gs (base+i) k x hx
   ·exact offersAt_ph _ _
   ·by_cases q:k=0
    ·subst q
     rw[ha]at u;cases u;exact V
    ·exact tU h u q
  have X:=crowd_waits (sl:=sl) (i:=base+i) hg (by rw[ab];exact Z) (λcc ao=>by simp at ao;subst ao;exact ways_send_none hch (R2 _) hp)
  obtain⟨x2,U⟩:=cj.of aa;refine⟨_,w,_,_,X,h.comm (mt':=σ.mt) (r0':=σ.r0) (D':=upd σ.D i ⟨7,0,(σ.D i).K,(σ.D i).M⟩) (R':=upd σ.R i (7,0,x2)) G ⟨rfl,rfl,rfl⟩ rfl (λ_ _=>rfl) W.chn
   (λA l=>?_) (λA l=>?_) (λA l=>by rw[o]at l;simp at l) (λA l=>by rw[o]at l;simp at l)
   (λk q=>?_) ?_ (λk q=>?_) (λk h1 h2=>?_) ?_ (λk q=>?_) ?_ ?_ ?_ ?_ ?_ ?_,jq H rfl (by rw[hR];exact bS (by omega))⟩
  ·rw[o]at l;simp at l
  ·rw[o]at l;simp at l
  ·by_cases e:k=i
   ·subst e;rw[upd_same];exact⟨rfl,rfl,Y.symm,λx=>by simp at x⟩
   ·rw[upd_ne _ _ e];exact⟨rfl,rfl,rfl,id⟩
  ·exact⟨a,by rw[Si (by omega)];exact ha,hm⟩
  ·by_cases e:k=i
   ·subst e
    refine .inr ⟨_,by rw[S6,RZ rfl,RZ F],?_⟩;rw[upd_same,upd_same];exact .blk hv U
   ·exact .inl ⟨upd_ne _ _ e,upd_ne _ _ e,by rw[Si (by omega)]⟩
  ·rw[Si (by omega)]
  ·simp
  ·rw[upd_ne];omega
  ·exact h.m_.same (D':=⟨7,0,(σ.D i).K,(σ.D i).M⟩) E (.inr ⟨by simp,by omega⟩)
  ·have:=sU (D:=σ.D) (D':=⟨7,0,(σ.D i).K,(σ.D i).M⟩) E
   have e1:jC (σ.D i)=1:=RZ (by omega);have e2:jC ⟨7,0,(σ.D i).K,(σ.D i).M⟩=1:=rfl;omega
  ·rfl
  ·exactλe=>absurd e I
  ·exact Q.mq
  ·exact ze (λk q=>by
    by_cases e:k=i
    ·subst e;rw[upd_same];simp[hs]
    ·rw[upd_ne _ _ e]) h.v_
def Ga{r a K M g}(h:nZ P ty Wg ch z HV Fin n r a K M g w):
 g.status=.running/\stepG P true g w=.comm {g with offers:=none} #[rcase ch z] true (.recv true) w #[]/\Fin a K M (Conc.served g (.tuple #[z,.bool false])) w:=by
 cases r with
 |zero=>exact h
 |succ r=>exact⟨h.1,h.2.1,h.2.2.1⟩
def LG{b D ρ a d i sh}(h:WSit P ty Wg ch z b D ρ (parked a #[scase ch d i] sh) w):
 b=some d/\D=⟨7,0,D.K,D.M⟩/\sh=.send/\∃c,ρ=(7,0,c)/\cj P ty Wg false (SR0 P ty Wg) D.K D.M (Conc.served a undef) w c:=by
 have m:∀{g:Goroutine},(parked a #[scase ch d i] sh)=g->(g.status=.running\/g.status=.finished)->False:=λe h=>by subst e;rcases h with h|h<;>cases h
 have j:=h.status;obtain⟨_,k⟩|⟨o,_⟩:=j
 ·exact(m rfl k).elim
 ·generalize l:parked a #[scase ch d i] sh=u at h
  cases h with
  | @blk K M p _ c v b q=>obtain⟨f,cs,st,x,of⟩:=a;obtain⟨y,cs',st',r,s⟩:=p;simp only[parked,scase,Goroutine.mk.injEq,SV,U4,Array.mk.injEq,U6,CommCase.mk.injEq]at l;obtain⟨rfl,rfl,_,rfl,k,rfl⟩:=l;obtain⟨⟨_,rfl,rfl⟩,_⟩:=k;exact⟨b,rfl,rfl,c,rfl,q⟩
  |_=>cases o
def LH(P ty)(Wg ch:Nat)(z:Value)(An:aJ)(HV:Nat->Option Value)(Fin:List Value->aJ)(n base N0:Nat)(shun:Nat->Prop)(W₀:World)(t₀ t:Trace)(gs:Array Goroutine)(w:World)(sl:Option (Nat×Nat))(σ:GSt P ty Wg):Prop:=∃r a b fn pos,(σ.mt=.rc r a\/σ.mt=.rw r a)/\σ.ct=some .quit/\Fin a σ.K0 σ.M0 (Conc.served b (.tuple #[z,.bool false])) w/\runT P (crowd gs w sl) 0=(.next (crowd (gs.setIfInBounds 0 (Conc.served b (.tuple #[z,.bool false]))) w sl),#[{g:=0,fn:=fn,pos:=pos,act:=.recvClosed ch}])
def AZ(G:fo Wg ch base N0 shun)(h:GI P ty Wg ch z An HV Fin n base N0 shun W₀ t₀ gs w t σ){g:Goroutine}(hg:gs[0]? =some g){r:Nat}{I:List Value}{c:RC P ty Wg}{g2:Goroutine}(bm:r+I.length=n)
 (V:σ.mt=.rc r I/\g=g2/\σ.r0=(20,0,c)\/σ.mt=.rw r I/\g={parked {g2 with offers:=none} #[rcase ch z] (.recv true)with status:=.running}/\σ.r0=(18,0,c)) (hj:σ.j=n) (ar:σ.d0=0)
 (X:∀J,RK ty Wg σ.K0 w J->nZ P ty Wg ch z HV Fin n r I σ.K0 σ.M0 g2 J):
 dN P ty Wg ch z An HV Fin n base N0 shun W₀ t₀ t gs w sl σ 0\/LH P ty Wg ch z An HV Fin n base N0 shun W₀ t₀ t gs w sl σ:=by
 have hb:=G.lg;have W:=h.w_;have T:=h.t_;have Q:=h.g_;have L:=(R7.1 hg).1;obtain⟨b6,N,ax⟩:=Ga (X w (.refl w));have Y:stepG P true g w=.comm {g2 with offers:=none} #[rcase ch z] true (.recv true) w #[]:=by
  obtain⟨_,rfl,_⟩|⟨_,rfl,_⟩:=V
  ·exact N
  ·rw[<-N];exact stepG_same rfl rfl rfl w
 have o:∀(f:FuncId) (p:String),MemOp.ofEvents 0 f p #[]=#[]:=λ_ _=>rfl;obtain⟨s,hch⟩:=W.chn;have A:(∀i,i<σ.j->(σ.D i).s≠7)->partners (gs.setIfInBounds 0 ph) ch true=[]:=λh7=>partners_nil λk x hx=>by
  obtain⟨_,rfl⟩|⟨m,F⟩:=getElem?_stand gs 0 k x hx
  ·exact offersAt_ph _ _
  ·obtain B|⟨i,q,_,O,_⟩:=Hk h F m
   ·exact B
   ·exact absurd O (h7 i q)
 by_cases Z:σ.ct=some .quit
 ·
  right;rw[Z]at hch;have hQ:=h.m_.wu (by rw[Z];trivial);have hp:=A λi q=>by rw[hQ i q];omega
  have:=crowd_recv_closed (sl:=sl) (i:=0) hg Y hch hp;rw[o,TA]at this;exact⟨r,I,g2,_,_,V.imp (·.1) (·.1),Z,ax,this⟩
 ·
  left;rw[fp Z]at hch;have bo:=V.resolve_right λ⟨e,_⟩=>Z (Q.mq _ _ e);obtain⟨y,rfl,br⟩:=bo;by_cases h7:∃i,i<σ.j/\(σ.D i).s=7
  ·
   obtain⟨i0,bs,bx⟩:=h7;obtain⟨g0,bA,bB⟩:=Q.wk i0 bs;have S:∀k x,k≠0->gs[k]? =some x->offersAt x ch true≠[]->∃i,i<σ.j/\k=base+i/\(σ.D i).s=7/\∃U v,x=parked U #[scase ch v undef] .send:=by
    intro k x m hx aa;obtain B|⟨i,q,rfl,O,_⟩:=Hk h hx m
    ·exact absurd B aa
    ·obtain⟨g',ay,hw⟩:=Q.wk i q
     rw[hx]at ay;cases ay;obtain⟨B,_⟩|⟨_,U,v,rfl⟩:=hw.status
     ·exact absurd O B
     ·exact⟨i,q,rfl,O,U,v,rfl⟩
   have aa:partners (gs.setIfInBounds 0 ph) ch true≠[]:=by
    intro e;obtain⟨B,_⟩|⟨_,U,v,rfl⟩:=bB.status
    ·exact B bx
    ·have:(base+i0,0)∈partners (gs.setIfInBounds 0 ph) ch true:=mem_partners.2 ⟨_,by rw[Si (by omega)];exact bA,by rw[offersAt_parked_send,RZ rfl];simp⟩
     rw[e]at this;cases this
   obtain⟨j,U,vj,zj,b7,d,H,ab,ad⟩:=crowd_recv_meets_some (sl:=sl) (i:=0) hg Y hch aa λj k bC=>by
    obtain⟨x,hx,m⟩:=mem_partners.1 bC;obtain⟨_,rfl⟩|⟨H,F⟩:=getElem?_stand gs 0 j x hx
    ·rw[offersAt_ph]at m;cases m
    ·obtain⟨i,q,rfl,_,U,v,rfl⟩:=S j x H F λe=>by rw[e]at m;cases m
     rw[offersAt_parked_send,RZ rfl]at m;exact⟨by simpa using m,H,U,v,undef,_,F⟩
   obtain⟨i,q,rfl,b8,_⟩:=S j _ H ab (by rw[offersAt_parked_send,RZ rfl];simp);have aM:=R6 q Q.jn;obtain⟨gx,a1,b0⟩:=Q.wk i q;rw[ab]at a1;cases a1;obtain⟨hv,hD,rfl,cw,hR,b1⟩:=LG b0;have b2:(σ.D i).d=0:=by rw[hD]
   have C:=DC (D':=upd σ.D i ⟨6,0,(σ.D i).K,(σ.D i).M⟩) q Q.jn hv (by omega) (by rw[upd_same]) (λk m=>upd_ne _ _ m) h.v_;rw[y]at C;obtain⟨a6,a7⟩:=C;have b3:I.length<n:=a6;obtain⟨r',rfl⟩:∃r',r=r'+1:=⟨r-1,by omega⟩
   let w':=(w.at d).setChan ch 0 #[] false (s+1) (s+1) false;have af:∀b,b≠ch->w'.heap[b]? =w.heap[b]? :=λb u=>Si (Sn u);have ag:w'.heap.size=w.heap.size:=by show(w.heap.setIfInBounds ch _).size=_;simp
   have ak:=W.wg.of_block (af Wg G.ne_);have a8:∀K:Nat->Prop,(∀b,K b->¬spB Wg ch b)->RK ty Wg K w w':=λK hK=>⟨λb u=>af b λe=>hK b u (.inr e),λ_=>⟨_,_,ak⟩,TM ag.symm⟩
   obtain⟨_,_,_,an⟩:=X w (.refl w);obtain⟨x1,b4⟩:=cj.of ((an i vj aM hv).rely (a8 _ λb u=>(W.k0 b u).2.1));obtain⟨x2,b5⟩:=cj.of (b1.now.rely (a8 _ λb u=>(W.kw i q b u).2.1));refine⟨_,w',_,_,ad,h.comm (mt':=.rc r' (I++[vj])) (r0':=(20,0,x1)) (D':=upd σ.D i ⟨6,0,(σ.D i).K,(σ.D i).M⟩) (R':=upd σ.R i (6,0,x2)) G ⟨rfl,rfl,rfl⟩ ag af ⟨s+1,?_⟩
    (λE a=>(jr (base:=base) (n:=n) (by omega) (by omega) (by omega) (by omega) E a).1) (λE a=>Nat.ne_of_lt (jr (base:=base) (n:=n) (Wg:=Wg) (by omega) (by omega) (by omega) (by omega) E a).2.1) (λE a=>UG (jr (base:=base) (n:=n) (Wg:=Wg) (by omega) (by omega) (by omega) (by omega) E a).2.1) (λE a=>(jr (base:=base) (n:=n) (Wg:=Wg) (by omega) (by omega) (by omega) (by omega) E a).2.2 _ (by rw[ag];exact W.sp.2))
    (λk m=>?_) ?_ (λk m=>?_) (λk B O=>?_) ?_ (λk m=>?_) ?_ ?_ ?_ ?_ ?_ ?_,jq aM rfl (by rw[hR];exact bS (by omega))⟩
   ·rw[fp Z]
    show(w.heap.setIfInBounds ch _)[ch]? =_;rw[S6];simp[W.sp.2]
   ·by_cases e:k=i
    ·subst e;rw[upd_same];exact⟨rfl,rfl,b2.symm,λx=>by simp at x⟩
    ·rw[upd_ne _ _ e];exact⟨rfl,rfl,rfl,id⟩
   ·refine⟨Conc.served {g with offers:=none} (recvd true vj true),?_,?_⟩
    ·rw[S6,RZ rfl,RZ (by simp;exact L)]
     rfl
    ·rw[ar,hj]
     exact .rc (by simp;omega) b4
   ·by_cases e:k=i
    ·subst e
     refine .inr ⟨Conc.served U undef,?_,?_⟩
     ·have ba:=(R7.1 ab).1
      rw[Si (by omega),S6,RZ rfl,RZ ba];rfl
     ·rw[upd_same,upd_same];exact .r0 b5
    ·refine .inl ⟨upd_ne _ _ e,upd_ne _ _ e,?_⟩
     rw[Si (by omega),Si (by omega)]
   ·rw[Si (by omega),Si (by omega)]
   ·simp
   ·rw[upd_ne];omega
   ·exact(h.m_.same (D':=⟨6,0,(σ.D i).K,(σ.D i).M⟩) q (.inr ⟨by simp,by omega⟩)).sW (by rw[y];rfl)
   ·have:=sU (D:=σ.D) (D':=⟨6,0,(σ.D i).K,(σ.D i).M⟩) q
    have e1:jC (σ.D i)=1:=RZ (by omega);have e2:jC ⟨6,0,(σ.D i).K,(σ.D i).M⟩=1:=rfl;omega
   ·exact AY (.inr ⟨_,_,y⟩) (.inr ⟨_,_,rfl⟩)
   ·rintro⟨_,_,e⟩;cases e
   ·intro _ _ e;cases e
   ·exact a7
  ·
   have bb:∀i,i<σ.j->(σ.D i).s≠7:=λi q e=>h7 ⟨i,q,e⟩;have ao:=crowd_waits (sl:=sl) (i:=0) hg Y (λcc bk=>by simp at bk;subst bk;exact ways_recv_none hch (A bb))
   refine⟨_,w,_,_,ao,h.comm (mt':=.rb r I) (r0':=(19,0,c)) (D':=σ.D) (R':=σ.R) G ⟨rfl,rfl,rfl⟩ rfl (λ_ _=>rfl) W.chn
    (λE a=>by rw[o]at a;simp at a) (λE a=>by rw[o]at a;simp at a) (λE a=>by rw[o]at a;simp at a) (λE a=>by rw[o]at a;simp at a)
    (λk m=>⟨rfl,rfl,rfl,id⟩) ⟨_,by rw[S6,RZ rfl,RZ L],?_⟩ (λk m=>.inl ⟨rfl,rfl,by rw[Si (by omega)]⟩) (λk B O=>by rw[Si (by omega)]) (by simp) (λk m=>rfl)
    (h.m_.sW (by rw[y];rfl)) rfl (AY (.inr ⟨_,_,y⟩) (.inl ⟨_,_,rfl⟩)) (λ_=>⟨Z,bb⟩) (λ_ _ e=>by cases e) ?_,?_⟩
   ·rw[ar,hj];exact .rb bm X
   ·obtain⟨l,B,O,h3⟩:=h.v_
    exact⟨l,B,O,by rw[<-h3,y];rfl⟩
   ·exact sV rfl (by rw[br];exact bS (by omega))
end
end Go.Tm

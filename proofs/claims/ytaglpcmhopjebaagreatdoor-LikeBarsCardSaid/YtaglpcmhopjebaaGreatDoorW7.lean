import Derived.Conc.Pipeline2
import Derived.Test.YtaglpcmhopjebaaGreatDoorW6
set_option linter.all false
set_option maxRecDepth 100000
set_option maxHeartbeats 20000000
namespace Go.Tm
open Go.Conc Go.ConcN Go.Conc.Lib
open Go.ConcR (KK WgAt stA smA rd wr mk DC0 Bk)
section
variable {P:Program} {ty:TypeId} {Wg ch:Nat} {z:x6} {An:aQ} {HV:Nat->Option x6} {Fin:List x6->aQ} {n base N0:Nat} {shun:Nat->Prop} {F0:xv} {t₀ t:Trace} {gs:Array V4} {w w':xv} {sl:Option (Nat×Nat)} {σ:GSt P ty Wg}
def zG(G:gu Wg ch base N0 shun)(h:GI P ty Wg ch z An HV Fin n base N0 shun F0 t₀ gs w t σ){g g' es c c' X Y ρ' d' st' sm'} (l:σ.ct=some c) (hg:gs[base+n]? =some g) (F:stepG P false g w=.go g' w' es) (H:w'.os=w.os/\w'.tape=w.tape/\w'.output=w.output) (I:w.heap.size<=w'.heap.size) (d:∀b,b<w.heap.size->b≠Wg->σ.own b≠base+n->w'.heap[b]? =w.heap[b]?) (hwg:WgAt ty Wg w' st' sm') (J:∀e∈es,EvK Wg (orK σ.Kc w w') (orK σ.Mc w w') e\/EvB Wg e\/G3 Wg e) (hK:∀b,X b->orK σ.Kc w w' b) (hM:∀b,Y b->orK σ.Mc w w' b) (hS:CSit P ty Wg ch An (VW σ.j σ.D) c' d' X Y ρ' g' w') (K:Rk.lt P ty Wg ρ' σ.rc) (hd:deafBehind σ.dc es=d') (m:Mode σ.j σ.D σ.mt (some c') st' sm') (q:c'=.quit↔c=.quit) (u:c'=.cl->c=.cl\/AcqAll Wg n base (t++MemOp.ofEvents (base+n) g.frame.fn g.frame.place es)) (v:c=.quit->∀e∈es,(MemAct.ofEvent e).touch?=none):eC P ty Wg ch z An HV Fin n base N0 shun F0 t₀ t gs w sl σ (base+n):=by (have hb:=G.mO;have W:=h.w_;have T:=h.t_;have Q:=h.g_;have y:=T.tr.yc ch (.inr rfl);have L:fF (some c')=fF σ.ct:=by rw[l];by_cases e:c=.quit;rw[q.2 e,e];rw[gy (by simpa usingλx=>e (q.1 x)),gy (by simpa using e)]);(have f:=d ch W.sp.2 (WT G.ne_) (by rw[y];omega);obtain⟨s,M⟩:=W.chn;have A:∀N∈MemOp.ofEvents (base+n) g.frame.fn g.frame.place es,N.g=base+n:=λN O=>by obtain⟨e,_,rfl⟩:=Go.Conc.mem_ofEvents O;rfl);have k:∀E r,E<n->RelBy (stA Wg) t (base+E) r->RelBy (stA Wg) (t++MemOp.ofEvents (base+n) g.frame.fn g.frame.place es) (base+E) r:=λE r ab hr=>eB hr A (by omega);refine h.closer G l hg F H I (λb h1 R _ h3=>d b h1 R h3) hwg ⟨s,by rw[f,M,L]⟩ (λe he=>(J e he).imp id (.imp id .inl)) hK hM hS (.inl ⟨rfl,K⟩) hd m ?_ ?_ rfl ?_ ?_ ?_ ?_ ?_;intro a _ B o;(have:woken P g g' w' a=a:=by obtain⟨h1,_⟩|⟨r,p,g2,h1,_⟩:=B.status;unfold Go.Conc.woken;split;exact again_running _ (.inl h1);rfl;refine B.woken g g' w' ⟨s,s,false,?_⟩;rw[f,M,l,gy (by simpa using o r p h1)]);rw[this];exact B;intro i gw Z hw;(refine hw.woken g g' w' λh7=>⟨s,s,false,?_⟩);(have o:c≠ .quit:=λe=>by have:=h.m_.zA (by rw[l,e];trivial) i Z;rw[h7]at this;cases this);rw[f,M,l,gy (by simpa using o)];(exactλe=>absurd (Q.mc.2 e) (by rw[l];simp));intro B;obtain⟨h1,R⟩:=Q.mb B;exact⟨λe=>h1 (by rw[l,q.1 e]),R⟩;intro r p e;have:=Q.mq r p e;rw[l]at this;exact q.2 (WV this);intro e;obtain e'|h1:=u e;exact mf (T.acq (by rw[l,e'])) k;exact h1;intro e;refine mg (T.cls (by rw[l,q.1 e])) k λi Z ad S=>?_;obtain⟨x,hx,_⟩:=S;obtain⟨N,ho,C⟩:=touch_of hx;obtain⟨aa,_⟩|⟨_,U⟩:=getElem?_append_cases ho;omega;obtain⟨ev,V,rfl⟩:=Go.Conc.mem_ofEvents U;rw[v (q.1 e) ev V]at C;cases C
def fH(G:gu Wg ch base N0 shun)(h:GI P ty Wg ch z An HV Fin n base N0 shun F0 t₀ gs w t σ){g g' es c ρ'} (k:σ.ct=some c) (s:gs[base+n]? =some g) (l:stepG P false g w=.go g' w' es) (m:c≠ .quit) (a:Eff σ.Mc w w') (f:∀e∈es,EvK Wg (orK σ.Kc w w') (orK σ.Mc w w') e) (u:CSit P ty Wg ch An (VW σ.j σ.D) c σ.dc (orK σ.Kc w w') (orK σ.Mc w w') ρ' g' w') (o:Rk.lt P ty Wg ρ' σ.rc):eC P ty Wg ch z An HV Fin n base N0 shun F0 t₀ t gs w sl σ (base+n):=by
 have W:=h.w_;have T:=h.t_;have A:=G.mO;have i:σ.ct≠none:=by rw[k];simp
 have r:=T.tr.yc Wg (.inl rfl);have d:∀b,b<w.heap.size->σ.own b≠base+n->w'.heap[b]? =w.heap[b]? :=λb p q=>a.keep b p λv=>q (W.mc i b v);exact zG (st':=σ.st) (sm':=σ.sm) G h k s l ⟨a.os,a.tape,a.output⟩ a.size (λb p _ q=>d b p q) (W.wg.of_block (d Wg W.sp.1 (by omega))) (λe y=>.inl (f e y)) (λ_ x=>x) (λ_ x=>x) u o (zC f _)
  (by rw[<-k];exact h.m_) Yx (λe=>.inl e) (λe=>absurd e m)
def eL(G:gu Wg ch base N0 shun)(h:GI P ty Wg ch z An HV Fin n base N0 shun F0 t₀ gs w t σ){g g' es c c' ρ' d' st' sm'} (q:σ.ct=some c) (r:gs[base+n]? =some g) (m:stepG P false g w=.go g' w' es) (s:w'=w\/∃a v,a.block=Wg/\w'=w.setCell a v) (hwg:WgAt ty Wg w' st' sm') (o:∀e∈es,EvB Wg e\/G3 Wg e) (u:CSit P ty Wg ch An (VW σ.j σ.D) c' d' σ.Kc σ.Mc ρ' g' w') (p:Rk.lt P ty Wg ρ' σ.rc) (x:deafBehind σ.dc es=d') (d:Mode σ.j σ.D σ.mt (some c') st' sm') (y:c'=.quit↔c=.quit) (f:c'=.cl->AcqAll Wg n base (t++MemOp.ofEvents (base+n) g.frame.fn g.frame.place es)) (i:c=.quit->∀e∈es,(MemAct.ofEvent e).touch?=none):eC P ty Wg ch z An HV Fin n base N0 shun F0 t₀ t gs w sl σ (base+n):=by (have k:w'.os=w.os/\w'.tape=w.tape/\w'.output=w.output/\w'.heap.size=w.heap.size/\∀b,b≠Wg->w'.heap[b]? =w.heap[b]? :=by obtain rfl|⟨a,v,A,rfl⟩:=s;exact⟨rfl,rfl,rfl,rfl,λ_ _=>rfl⟩;exact nv a v A);exact zG G h q r m ⟨k.1,k.2.1,k.2.2.1⟩ (X0 k.2.2.2.1.symm) (λb _ l _=>k.2.2.2.2 b l) hwg (λe B=>.inr (o e B)) (λb l=>.inl l) (λb l=>.inl l) u p x d y (λe=>.inr (f e)) i
def Mode.SZ{j D mt ct st sm}(h:Mode j D mt ct st sm)(g:CTag.reg ct):(sm=0/\∀e,CTag.reg e->Mode j D mt e st sm)\/(GM j D/\st=0/\sm=1):=by (have no:∀{ct:Option CTag},CTag.reg ct->(CTag.opn ct->False)/\(CTag.fin ct->False):=by intro ct h;cases ct with|none=>exact h.elim|some c=>cases c<;>first|exact h.elim|exact⟨id,id⟩);cases h with|opn a=>exact((no g).1 a).elim|reg a b c=>exact .inl ⟨rfl,λe f=>.reg f b c⟩|last L a b c d=>exact .inl ⟨rfl,λe f=>.last L f b c d⟩|sema a b c=>exact .inr ⟨c,rfl,rfl⟩|fin a=>exact((no g).2 a).elim
def Mode.isFin{j D mt ct st sm}(h:Mode j D mt ct st sm)(d:CTag.fin ct):GM j D/\st=0/\sm=0:=by (have no:∀{ct:Option CTag},CTag.fin ct->(CTag.opn ct->False)/\(CTag.reg ct->False):=by intro ct h;cases ct with|none=>exact h.elim|some c=>cases c<;>first|exact h.elim|exact⟨id,id⟩);cases h with|opn a=>exact((no d).1 a).elim|reg a=>exact((no d).2 a).elim|last L a=>exact((no d).2 a).elim|sema a=>exact((no d).2 a).elim|fin a b=>exact⟨b,rfl,rfl⟩
def R4{j D}(h:VW j D=0)(b:xw j D):GM j D:=by intro i a;obtain c|h0:=b i a;have:=JZ a c;omega;exact h0
def J3{mt j d K M ρ a}(h:gq P ty Wg ch z An HV Fin n mt j d K M ρ a w){g g' s r}(k:mayWake P g=true)(f:g'.status=.running\/g'.status=.finished) (o:w.heap[ch]? =some (.chan 0 #[] true s r false)):∃mt' ρ',gq P ty Wg ch z An HV Fin n mt' j d K M ρ' (woken P g g' w a) w/\mt'.got=mt.got/\mt'.pend=mt.pend/\(∀r b,mt'≠ .rb r b)/\(((∃r st,mt'=.sp r st)\/mt'=.gc)->((∃r st,mt=.sp r st)\/mt=.gc))/\(ρ'=ρ\/Rk.lt P ty Wg ρ' ρ):=by
 have same:a.status=.running->(∀r b,mt≠ .rb r b)->∃mt' ρ',gq P ty Wg ch z An HV Fin n mt' j d K M ρ' (woken P g g' w a) w/\mt'.got=mt.got/\mt'.pend=mt.pend/\(∀r b,mt'≠ .rb r b)/\
  (((∃r st,mt'=.sp r st)\/mt'=.gc)->((∃r st,mt=.sp r st)\/mt=.gc))/\(ρ'=ρ\/Rk.lt P ty Wg ρ' ρ):=by
  intro b i;have e:woken P g g' w a=a:=by
   unfold Go.Conc.woken;split
   .exact again_running _ (.inl b)
   .rfl
  exact⟨mt,ρ,by rw[e];exact h,rfl,rfl,i,id,.inl rfl⟩
 obtain⟨b,i⟩|⟨p,b,l,rfl,rfl⟩:=h.status;exact same b i;have e:woken P g g' w (parked l #[rcase ch z] (.recv true))={parked l #[rcase ch z] (.recv true)with status:=.running}:=by unfold Go.Conc.woken;rw[Wu (by rcases f with f|f<;>rw[k,f]<;>rfl)];exact again_recv_closed o
 rw[e];generalize q:parked l #[rcase ch z] (.recv true)=v at h;cases h with| @rb _ _ x _ c _ _ u m=>exact⟨.rw p b,(18,0,c),.rw u m,rfl,rfl,by simp,by simp,.inr (cO (by omega))⟩
def EC(G:gu Wg ch base N0 shun)(h:GI P ty Wg ch z An HV Fin n base N0 shun F0 t₀ gs w t σ){g}(x:σ.ct=some .cl)(hg:gs[base+n]? =some g)(y:σ.dc=0){c}(K:σ.rc=(12,0,c)) (o:SCl P ch σ.Kc σ.Mc g w):eC P ty Wg ch z An HV Fin n base N0 shun F0 t₀ t gs w sl σ (base+n):=by
 have hb:=G.mO;have W:=h.w_;have T:=h.t_;have Q:=h.g_;obtain⟨ad,L,o⟩:=o;obtain⟨s,I⟩:=W.chn;rw[x]at I;obtain⟨g',M,q,hq⟩:=o s s false I;obtain⟨hQ,A,B⟩:=h.m_.isFin (by rw[x];trivial);have j:σ.ct≠none:=by rw[x];simp
 have N:=(T.dc j).trans y;let w':xv:={w with heap:=w.heap.setIfInBounds ch (.chan 0 #[] true s s false)}
 have k:w'.heap[ch]? =some (.chan 0 #[] true s s false):=by show(w.heap.setIfInBounds ch _)[ch]? =_;rw[Xt];simp[W.sp.2]
 have p:∀b,b≠ch->w'.heap[b]? =w.heap[b]? :=λb d=>WK (WT d);have l:w'.heap.size=w.heap.size:=by simp[w']
 have f:=W.wg.of_block (p Wg G.ne_);obtain⟨a,ha,O⟩:=Q.mn;have C:=O.rely ⟨λb d=>p b λe=>(W.k0 b d).2.1 (.inr e),λ_=>⟨_,_,f⟩,X0 l.symm⟩;obtain⟨mt',r0',R,D,S,U,E,V⟩:=J3 C L hq.status k;have m:MemOp.ofEvents (base+n) g.frame.fn g.frame.place (closeEvents ch)=#[{g:=base+n,fn:=g.frame.fn,pos:=g.frame.place,act:=.access ⟨.obj ch,false,true⟩},{g:=base+n,fn:=g.frame.fn,pos:=g.frame.place,act:=.close ch}]:=by simp[MemOp.ofEvents,closeEvents,MemAct.ofEvent]
 refine h.closer (c':=.quit) (ρ':=(0,q,c)) (r0':=r0') (mt':=mt') G x hg M ⟨rfl,rfl,rfl⟩ (X0 l.symm) (λb _ _ X _=>p b X) f ⟨s,k⟩ (λe F=>?_) (λb d=>.inl d) (λb d=>.inl d) (.quit hq)
  ?_ ?_ ?_ ?_ ?_ D (λe=>absurd (Q.mc.2 (E e)) j) (λ⟨r,I,e⟩=>absurd e (U r I)) (λ_ _ _=>rfl) (λe=>by cases e) λ_=>?_
 simp only[closeEvents,Xs,WO,WY,W7]at F;exact .inr (.inr (.inr F));obtain e|e:=V;exact .inl ⟨e,by rw[K];exact cO (by omega)⟩;exact .inr e;rw[y];exact deafBehind_still (λe F=>by simp only[closeEvents,Xs,WO,WY,W7]at F;rcases F with rfl|rfl<;>simp) 0;rw[A,B];exact .fin trivial hQ;intro a' H _ _;rw[ha]at H;cases H;exact R;intro i gw J hw;exact hw.woken g g' w' λh7=>by have:=hQ i J;omega
 obtain⟨q',h1,X,h3,h4⟩:=T.acq x;have u:=lt_of_act? h1;have v:∀Y∈MemOp.ofEvents (base+n) g.frame.fn g.frame.place (closeEvents ch),Y.g=base+n:=λY Z=>by obtain⟨e,_,rfl⟩:=Go.Conc.mem_ofEvents Z;rfl
 have hp:(t++MemOp.ofEvents (base+n) g.frame.fn g.frame.place (closeEvents ch))[t.size+1]? =some {g:=base+n,fn:=g.frame.fn,pos:=g.frame.place,act:=.close ch}:=by rw[m,YP];simp
 refine⟨q',t.size+1,by rw[act?_old u];exact h1,by rw[g?_old u];exact X,(heard_old u).2 h3,λi J=>?_,by omega,by rw[act?_of hp],by simp[Trace.g?,hp],⟨base+n,by simp[Trace.g?,hp],?_⟩,λi J aa=>?_⟩;obtain⟨r,hr,ab⟩:=h4 i J;exact⟨r,eB hr v (by omega),ab⟩;rw[deaf_inside t (base+n) _ _ _ 1 (by simp[closeEvents]),N];rfl;obtain⟨Y,ho,_⟩:=Xb.1 aa;have:=lt_size_of_getElem? ho;rw[m]at this;simp at this;omega
def zH(G:gu Wg ch base N0 shun)(h:GI P ty Wg ch z An HV Fin n base N0 shun F0 t₀ gs w t σ){g}(p:σ.ct=some .acq)(H:gs[base+n]? =some g)(k:σ.dc=0){c}(q:σ.rc=(13,0,c)) (s:RX P ty Wg ch σ.Kc σ.Mc g w):eC P ty Wg ch z An HV Fin n base N0 shun F0 t₀ t gs w sl σ (base+n):=by
 have W:=h.w_;have T:=h.t_;have Q:=h.g_;obtain⟨B,g',u,d⟩:=s;obtain⟨C,l,m⟩:=h.m_.isFin (by rw[p];trivial);have b:σ.ct≠none:=by rw[p];simp
 have v:=(T.dc b).trans k;obtain⟨x,I⟩:=dj.of d;refine eL (st':=0) (sm':=0) (c':=.cl) G h p H u (.inl rfl) (by have:=W.wg;rw[l,m]at this;exact this) (λe D=>by simp at D;subst D;exact .inl (jo λa=>by simp)) (.cl I) (by rw[q];exact cO (by simp[kN])) (by rw[k];rfl)
  (.fin trivial C) (by simp) (λ_=>?_) (λe=>by cases e)
 have e1:MemOp.ofEvents (base+n) g.frame.fn g.frame.place #[mk (.acquire (stA Wg))]=#[{g:=base+n,fn:=g.frame.fn,pos:=g.frame.place,act:=.mark (.acquire (stA Wg))}]:=by simp[MemOp.ofEvents,Go.ConcR.mk,MemAct.ofEvent]
 have y:(t++MemOp.ofEvents (base+n) g.frame.fn g.frame.place #[mk (.acquire (stA Wg))])[t.size]? =some {g:=base+n,fn:=g.frame.fn,pos:=g.frame.place,act:=.mark (.acquire (stA Wg))}:=by rw[e1];simp
 have f:∀E∈MemOp.ofEvents (base+n) g.frame.fn g.frame.place #[mk (.acquire (stA Wg))],E.g=base+n:=λE A=>by obtain⟨e,_,rfl⟩:=Go.Conc.mem_ofEvents A;rfl
 refine⟨t.size,by rw[act?_of y],by simp[Trace.g?,y],⟨base+n,by simp[Trace.g?,y],by rw[deaf_old (Wv _)];exact v⟩,λi J=>?_⟩;have o:i<σ.j:=by rw[Q.cn b];exact J
 obtain⟨r,F⟩:=T.rel i o (by rw[C i o];omega);exact⟨r,eB F f (by omega),lt_of_act? F.act⟩
def G5(G:gu Wg ch base N0 shun)(h:GI P ty Wg ch z An HV Fin n base N0 shun F0 t₀ gs w t σ){g}(l:σ.ct=some .quit)(p:gs[base+n]? =some g)(a:g.status=.running){q c}(f:σ.rc=(0,q,c)) (b:QuitsD P q σ.dc g):eC P ty Wg ch z An HV Fin n base N0 shun F0 t₀ t gs w sl σ (base+n):=by
 cases q with
 |zero=>rw[b.1]at a;cases a
 |succ q=>
  obtain⟨r,_⟩|⟨_,g',es,o,i,s⟩:=b;rw[r]at a;cases a
  exact eL (st':=σ.st) (sm':=σ.sm) (c':=.quit) (ρ':=(0,q,c)) G h l p (i w) (.inl rfl) h.w_.wg
   (λe j=>.inl (by
    have d:=o e j;obtain⟨k,u,v⟩:=e;cases k<;>simp[Event.mute]at d;rename_i m;cases m<;>simp at d
    .exact⟨λx b=>by simp[MemAct.ofEvent,MemAct.touch?]at b,by simp,λ_ _ _=>trivial⟩
    .exact⟨λx b=>by simp[MemAct.ofEvent,MemAct.touch?]at b,by simp,λ_ _ _=>trivial⟩)) (.quit s) (by rw[f];exact td (by omega)) rfl
   (by rw[<-l];exact h.m_) Yx (λe=>by cases e) λ_ e j=>touch_mute (o e j)
def G6(G:gu Wg ch base N0 shun)(hn:n<2147483647)(ad:∀K M g w,An K M g w->Run P false ty Wg (SW1 P ty Wg ch An) K M g w)(h:GI P ty Wg ch z An HV Fin n base N0 shun F0 t₀ gs w t σ){g ct}(i:σ.ct=some ct)(y:gs[base+n]? =some g)(L:g.status=.running):eC P ty Wg ch z An HV Fin n base N0 shun F0 t₀ t gs w sl σ (base+n):=by
 obtain⟨g0,U,V⟩:=h.g_.cl ct i;rw[y]at U;cases U;have W:=h.w_;have Q:=h.g_;have X:σ.ct≠none:=by rw[i];simp
 have C:σ.mt.pend=0:=by have:=mt Q.mc.2 X;generalize σ.mt=m at this;cases m<;>first|rfl|exact absurd (.inl ⟨_,_,rfl⟩) this
 have ah:=Py σ.j σ.D;have ak:=Q.jn;have Y:∀e∈#[rd (stA Wg),wr (stA Wg)],EvB Wg e:=λe v=>by obtain⟨a,b,ha,rfl⟩:=nV (Wg:=Wg) (.inl rfl) e v;exact fG ha b
 have I:∀e∈#[rd (stA Wg)],EvB Wg e:=λe v=>by obtain⟨a,b,ha,rfl⟩:=nV (Wg:=Wg) (.inr (.inl rfl)) e v;exact fG ha b
 generalize k:σ.Kc=Kc at V;generalize d:σ.Mc=Mc at V;generalize B:σ.rc=R at V;generalize q:σ.dc=dc at V;cases V with
 |wd E=>
  obtain p|⟨_,g',w',es,N,f,o,r,s,u⟩:=E.nu;obtain⟨_,g',f,l⟩:=p w (.refl w)
  obtain⟨x,F⟩:=dj.of l;obtain⟨S,_,A,H⟩:=h.m_.CE (by rw[i];trivial);exact eL (st':=σ.st) (sm':=σ.sm) (c':=.w1) G h i y f (.inl rfl) W.wg (λe v=>by simp at v;subst v;exact .inl (jo λa=>by simp)) (by rw[k,d];exact .w1 F) (by rw[B];exact cO (by simp[kN])) (by rw[q];rfl)
   (by rw[A,H];exact .opn trivial S λZ e=>by cases e) (by simp) (λe=>by cases e) (λe=>by cases e)
  exact fH G h i y f (by simp) (by rw[d];exact o) (by rw[k,d];exact r) (by rw[k,d,q];exact .wd s) (by rw[B];exact fU u)
 |w1 E=>
  obtain p|⟨_,g',w',es,N,f,o,r,s,u⟩:=E.nu;obtain⟨_,p⟩:=p w (.refl w);obtain⟨S,_,A,H⟩:=h.m_.CE (by rw[i];trivial);rw[C,XE]at A;have hwg:=W.wg;rw[A,H]at hwg;obtain⟨g',f,h0,J⟩:=p (VW σ.j σ.D) (by omega) hwg;by_cases O:VW σ.j σ.D=0;obtain⟨x,F⟩:=dj.of (h0 O)
  exact eL (st':=0) (sm':=0) (c':=.we) G h i y f (.inl rfl) (by rw[O]at hwg;simpa using hwg) (λe v=>.inl (I e v)) (by rw[k,d];exact .we F) (by rw[B];exact cO (by simp[kN])) (by rw[q];exact uj _)
   (.fin trivial (R4 O S)) (by simp) (λe=>by cases e) (λe=>by cases e)
  obtain⟨x,F⟩:=dj.of (J O)
  exact eL (c':=.w2 (VW σ.j σ.D)) G h i y f (.inl rfl) hwg (λe v=>.inl (I e v)) (by rw[k,d];exact .w2 F) (by rw[B];exact cO (by simp[kN])) (by rw[q];exact uj _)
   (by
    have:=Mode.opn (j:=σ.j) (D:=σ.D) (mt:=σ.mt) (ct:=some (.w2 (VW σ.j σ.D))) trivial S λZ e=>by simp at e;subst e;omega
    rw[C,XE]at this;exact this) (by simp) (λe=>by cases e) (λe=>by cases e)
  exact fH G h i y f (by simp) (by rw[d];exact o) (by rw[k,d];exact r) (by rw[k,d,q];exact .w1 s) (by rw[B];exact fU u)
 | @w2 K M g w c Z E=>
  obtain p|⟨_,g',w',es,N,f,o,r,s,u⟩:=E.nu;obtain⟨_,p⟩:=p w (.refl w);obtain⟨S,af,A,H⟩:=h.m_.CE (by rw[i];trivial);rw[C,XE]at A;have hwg:=W.wg;rw[A,H]at hwg;obtain⟨hit,aa⟩:=p (VW σ.j σ.D) (by omega) hwg;have ag:=af Z i;by_cases O:VW σ.j σ.D=Z;obtain⟨g',f,l⟩:=hit O
  obtain⟨x,F⟩:=dj.of l;exact eL (c':=.sw) G h i y f (.inr ⟨_,_,rfl,rfl⟩) (hwg.setSt _) (λe v=>.inl (Y e v)) (by rw[k,d];exact .sw F) (by rw[B];exact cO (by simp[kN];split<;>omega)) (by rw[q];exact lL _ _)
   (.reg trivial S (by omega)) (by simp) (λe=>by cases e) (λe=>by cases e)
  obtain⟨g',f,l⟩:=aa O
  obtain⟨x,F⟩:=dj.of (l.bind λK M g w=>ad K M g w);exact eL (c':=.w1) G h i y f (.inl rfl) hwg (λe v=>.inl (I e v)) (by rw[k,d];exact .w1 F) (by rw[B];exact cO (by simp[kN,WT O])) (by rw[q];exact uj _)
   (by
    have:=Mode.opn (j:=σ.j) (D:=σ.D) (mt:=σ.mt) (ct:=some .w1) trivial S λZ e=>by cases e
    rw[C,XE]at this;exact this) (by simp) (λe=>by cases e) (λe=>by cases e)
  exact fH G h i y f (by simp) (by rw[d];exact o) (by rw[k,d];exact r) (by rw[k,d,q];exact .w2 s) (by rw[B];exact fU u)
 |sw E=>
  obtain p|⟨_,g',w',es,N,f,o,r,s,u⟩:=E.nu;obtain⟨_,g',f,l⟩:=p w (.refl w)
  obtain⟨x,F⟩:=dj.of l;refine eL (st':=σ.st) (sm':=σ.sm) (c':=.w3) G h i y f (.inl rfl) W.wg (λe v=>by simp at v;subst v;exact .inr rfl) (by rw[k,d];exact .w3 F) (by rw[B];exact cO (by simp[kN])) (by rw[q];rfl)
   ?_ (by simp) (λe=>by cases e) (λe=>by cases e)
  rcases h.m_.SZ (by rw[i];trivial)with⟨_,hm⟩|⟨hQ,J,h2⟩
  exact hm _ trivial;rw[J,h2];exact .sema trivial (by simp) hQ;exact fH G h i y f (by simp) (by rw[d];exact o) (by rw[k,d];exact r) (by rw[k,d,q];exact .sw s) (by rw[B];exact fU u)
 | @w3 K M g w c E=>
  obtain p|⟨_,g',w',es,N,f,o,r,s,u⟩:=E.nu;obtain⟨_,_,ab,T⟩:=p w (.refl w);rcases h.m_.SZ (by rw[i];trivial)with⟨J,hm⟩|⟨hQ,J,h2⟩
  have hwg:=W.wg
  have f:=ab ⟨σ.st,by rw[<-J];exact hwg⟩;exact eL (st':=σ.st) (sm':=σ.sm) (c':=.blk) (ρ':=(kN (VW σ.j σ.D) .blk,0,c)) G h i y f (.inl rfl) hwg (λe v=>by simp at v) (by rw[k,d];exact .blk p) (by rw[B];exact cO (by simp[kN])) (by rw[q];rfl)
   (hm _ trivial) (by simp) (λe=>by cases e) (λe=>by cases e)
  have hwg:=W.wg
  rw[J,h2]at hwg;obtain⟨g',f,l⟩:=T hwg;obtain⟨x,F⟩:=dj.of l;exact eL (c':=.w4) G h i y f (.inr ⟨_,_,rfl,rfl⟩) (hwg.setSm _) (λe v=>.inl (PC e v)) (by rw[k,d];exact .w4 F) (by rw[B];exact cO (by simp[kN])) (by rw[q];exact GQ _)
   (.fin trivial hQ) (by simp) (λe=>by cases e) (λe=>by cases e)
  exact fH G h i y f (by simp) (by rw[d];exact o) (by rw[k,d];exact r) (by rw[k,d,q];exact .w3 s) (by rw[B];exact fU u)
 |blk E=>cases L
 |w4 E=>
  obtain p|⟨_,g',w',es,N,f,o,r,s,u⟩:=E.nu;obtain⟨_,p⟩:=p w (.refl w)
  obtain⟨hQ,J,h2⟩:=h.m_.isFin (by rw[i];trivial);have hwg:=W.wg;rw[J,h2]at hwg;obtain⟨g',f,l⟩:=p hwg;obtain⟨x,F⟩:=dj.of l;exact eL (c':=.we) G h i y f (.inl rfl) hwg (λe v=>.inl (I e v)) (by rw[k,d];exact .we F) (by rw[B];exact cO (by simp[kN])) (by rw[q];exact uj _)
   (.fin trivial hQ) (by simp) (λe=>by cases e) (λe=>by cases e)
  exact fH G h i y f (by simp) (by rw[d];exact o) (by rw[k,d];exact r) (by rw[k,d,q];exact .w4 s) (by rw[B];exact fU u)
 |we E=>
  obtain p|⟨_,g',w',es,N,f,o,r,s,u⟩:=E.nu;obtain⟨_,g',f,l⟩:=p w (.refl w)
  obtain⟨x,F⟩:=dj.of l;obtain⟨hQ,J,h2⟩:=h.m_.isFin (by rw[i];trivial);exact eL (st':=σ.st) (sm':=σ.sm) (c':=.acq) G h i y f (.inl rfl) W.wg (λe v=>by simp at v;subst v;exact .inl (jo λa=>by simp)) (by rw[k,d];exact .acq F) (by rw[B];exact cO (by simp[kN])) (by rw[q];rfl)
   (by rw[J,h2];exact .fin trivial hQ) (by simp) (λe=>by cases e) (λe=>by cases e)
  exact fH G h i y f (by simp) (by rw[d];exact o) (by rw[k,d];exact r) (by rw[k,d,q];exact .we s) (by rw[B];exact fU u)
 |acq E=>obtain p|⟨_,g',w',es,N,f,o,r,s,u⟩:=E.nu;exact zH G h i y q B (by rw[k,d];exact p w (.refl w));exact fH G h i y f (by simp) (by rw[d];exact o) (by rw[k,d];exact r) (by rw[k,d,q];exact .acq s) (by rw[B];exact fU u)
 |cl E=>obtain p|⟨_,g',w',es,N,f,o,r,s,u⟩:=E.nu;exact EC G h i y q B (by rw[k,d];exact p w (.refl w));exact fH G h i y f (by simp) (by rw[d];exact o) (by rw[k,d];exact r) (by rw[k,d,q];exact .cl s) (by rw[B];exact fU u)
 |quit hq=>exact G5 G h i y L B (by rw[q];exact hq)
end
section
variable {P:Program} {ty:TypeId} {Wg ch:Nat} {z:x6} {An:aQ} {HV:Nat->Option x6} {Fin:List x6->aQ} {n base N0:Nat} {shun:Nat->Prop} {F0:xv} {t₀ t:Trace} {gs gs':Array V4} {w w':xv} {sl:Option (Nat×Nat)} {σ:GSt P ty Wg}
def GI.comm(G:gu Wg ch base N0 shun)(h:GI P ty Wg ch z An HV Fin n base N0 shun F0 t₀ gs w t σ){ops:Trace}{mt' r0'}{D':Nat->WD}{R':Nat->Rk P ty Wg} (H:w'.os=w.os/\w'.tape=w.tape/\w'.output=w.output) (o:w'.heap.size=w.heap.size) (q:∀b,b≠ch->w'.heap[b]? =w.heap[b]?) (S:∃s,w'.heap[ch]? =some (.chan 0 #[] (fF σ.ct) s s false)) (v:∀m∈ops,m.act.touch?=none/\m.act≠ .mark .disable/\m.act≠ .mark .enable/\m.act≠ .mark (.release (stA Wg))) (C:∀m∈ops,m.g≠base+n) (Z:∀m∈ops,m.g<base+n+1) (I:∀m∈ops,m.act.low w'.heap.size) (Y:∀i,i<σ.j->(D' i).K=(σ.D i).K/\(D' i).M=(σ.D i).M/\(D' i).d=(σ.D i).d/\((D' i).s<=5->(σ.D i).s<=5)) (aa:∃a,gs'[0]? =some a/\gq P ty Wg ch z An HV Fin n mt' σ.j σ.d0 σ.K0 σ.M0 r0' a w') (ab:∀i,i<σ.j->(D' i=σ.D i/\R' i=σ.R i/\gs'[base+i]? =gs[base+i]?)\/∃g,gs'[base+i]? =some g/\WSit P ty Wg ch z (HV i) (D' i) (R' i) g w') (E:∀k,0<k->(k<base\/k=base+n)->gs'[k]? =gs[k]?) (ad:gs'.size=gs.size) (U:∀i,σ.j<=i->R' i=σ.R i) (J:Mode σ.j D' mt' σ.ct σ.st σ.sm) (hV:VW σ.j D'=VW σ.j σ.D) (af:((∃r st,mt'=.sp r st)\/mt'=.gc)↔((∃r st,σ.mt=.sp r st)\/σ.mt=.gc)) (ag:(∃r V,mt'=.rb r V)->σ.ct≠some .quit/\∀i,i<σ.j->(D' i).s≠7) (ah:∀r V,mt'=.rw r V->σ.ct=some .quit) (X:∃l:List Nat,l.Nodup/\(∀i,i∈l↔i<σ.j/\(D' i).s<=6/\HV i≠none)/\mt'.got=l.filterMap HV):GI P ty Wg ch z An HV Fin n base N0 shun F0 t₀ gs' w' (t++ops) {σ with mt:=mt',r0:=r0',D:=D',R:=R'}:=by (have hb:=G.mO;have W:=h.w_;have T:=h.t_;have Q:=h.g_;have y:∀k,Deaf (t++ops) k=Deaf t k:=λk=>oU (λm p=>⟨(v m p).2.1,(v m p).2.2.1⟩) k;have F:∀K:Nat->Prop,(∀b,K b->¬spB Wg ch b)->RK ty Wg K w w':=λK hK=>⟨λb f=>q b λe=>hK b f (.inr e),λ⟨st,sm,hl⟩=>⟨st,sm,hl.of_block (q Wg G.ne_)⟩,X0 o.symm⟩);have A:∀i r,RelBy (stA Wg) t (base+i) r->RelBy (stA Wg) (t++ops) (base+i) r:=λi r L=>qk L λm p=>(v m p).1;refine⟨⟨H.1.trans W.os,H.2.1.trans W.tape,H.2.2.trans W.output,by rw[o];exact W.ik,λb f=>?_,S,W.wg.of_block (q Wg G.ne_),by rw[o];exact W.sp,?_,?_,?_,?_,?_,W.mc,?_,W.GN,W.GO,W.Ex,λk=>by rw[o];exact W.Ey k⟩,⟨?_,?_,?_,?_,T.norel.app λm p=>(v m p).2.2.2,(y 0).trans T.d0,λi x=>?_,λB=>(y _).trans (T.dc B),λk h1 N h3=>(y k).trans (T.above k h1 N h3),λi x V=>?_,λB=>?_,λB=>?_⟩,⟨?_,Q.jn,Q.cn,aa,Q.mc.trans af.symm,λi x=>?_,?_,?_,?_,ag,ah⟩,J,X⟩;rw[q b (by have:=G.ch_;omega)];exact W.old b f;intro i x b f;rw[o];exact W.kw i x b (by rw[<-(Y i x).1];exact f);intro i x b f;exact W.mw i x b (by rw[<-(Y i x).2.1];exact f);intro b f;rw[o];exact W.k0 b f;intro b f;rw[o];exact W.m0 b f;intro B b f;rw[o];exact W.kc B b f;intro b f;rw[o];exact W.owns b f;obtain⟨u,rfl⟩:=T.pre;exact⟨_,XM ..⟩;exact T.tr.still (λm p=>(v m p).1) λm p e=>absurd e (C m p);exact mN T.seen (X0 o.symm) I;exact jU T.gb Z;exact(y _).trans ((T.dw i x).trans (Y i x).2.2.1.symm);obtain⟨r,L⟩:=T.rel i x ((Y i x).2.2.2 V);exact⟨r,A i r L⟩;exact mf (T.acq B) λi r _ L=>A i r L;refine mg (T.cls B) (λi r _ L=>A i r L) λi x ak=>?_;obtain⟨m,ho,al⟩:=Xb.1 ak;obtain⟨ax,_⟩|⟨_,an⟩:=getElem?_append_cases ho;omega;exact absurd al (C m an);show gs'.size=_;rw[ad];exact Q.size;obtain⟨e1,e2,e3⟩|h1:=ab i x;obtain⟨g,O,hw⟩:=Q.wk i x;refine⟨g,by rw[e3];exact O,?_⟩;show WSit P ty Wg ch z (HV i) (D' i) (R' i) g w';rw[e1,e2];exact hw.rely (F _ λb f=>(W.kw i x b f).2.1);exact h1;intro i h1 N;show(R' i).1=9;rw[U i h1];exact Q.unb i h1 N;intro c B;(obtain⟨g,O,ao⟩:=Q.cl c B;have ar:0<base+n:=by omega);refine⟨g,by rw[E _ ar (.inr rfl)];exact O,?_⟩;show CSit P ty Wg ch An (VW σ.j D') c σ.dc σ.Kc σ.Mc σ.rc g w';rw[hV];exact ao.rely (F _ λb f=>(W.kc (by rw[B];simp) b f).2.1);intro i g h1 N O;rw[E i h1 (.inl N)]at O;rw[y];exact Q.lv i g h1 N O
def zI(h:GI P ty Wg ch z An HV Fin n base N0 shun F0 t₀ gs w t σ){k}(d:k<gs.size):k=0\/(0<k/\k<base)\/(∃i,i<σ.j/\k=base+i)\/(σ.ct≠none/\k=base+n):=by have a:=h.g_.size;obtain h1|h1:=Wx k base;omega;obtain h2|h2:=Wx k (base+σ.j);exact .inr (.inr (.inl ⟨k-base,by omega,by omega⟩));cases b:σ.ct with|none=>rw[b]at a;simp at a;omega|some c=>have e:=h.g_.cn (by rw[b];simp);rw[b]at a;simp at a;exact .inr (.inr (.inr ⟨by simp,by omega⟩))
def gD{g}(h:g.status=.running\/g.status=.finished)(r s):offersAt g r s=[]:=offersAt_of_not_blocked (by rcases h with h|h<;>rw[h]<;>simp) r s
def xx(h:GI P ty Wg ch z An HV Fin n base N0 shun F0 t₀ gs w t σ){k g}(d:gs[k]? =some g)(j:k≠0):offersAt g ch false=[]:=by obtain b|⟨b,e⟩|⟨i,l,rfl⟩|⟨m,rfl⟩:=zI h (WC.1 d).1;exact absurd b j;exact gD (h.g_.lv k g b e d).status _ _;obtain⟨g',a,o⟩:=h.g_.wk i l;rw[d]at a;cases a;obtain⟨_,b⟩|⟨_,q,v,rfl⟩:=o.status;exact gD b _ _;exact offersAt_parked_send' ..;obtain⟨c,f⟩:=Zt.1 m;obtain⟨g',a,p⟩:=h.g_.cl c f;rw[d]at a;cases a;obtain⟨_,b⟩|⟨_,b,e⟩:=p.status;exact gD b _ _;unfold offersAt;rw[b,e]
def Ll(h:GI P ty Wg ch z An HV Fin n base N0 shun F0 t₀ gs w t σ){k g}(d:gs[k]? =some g)(m:k≠0):offersAt g ch true=[]\/∃i,i<σ.j/\k=base+i/\(σ.D i).s=7/\offersAt g ch true=[0]:=by obtain b|⟨b,e⟩|⟨i,l,rfl⟩|⟨o,rfl⟩:=zI h (WC.1 d).1;exact absurd b m;exact .inl (gD (h.g_.lv k g b e d).status _ _);obtain⟨g',a,p⟩:=h.g_.wk i l;rw[d]at a;cases a;obtain⟨_,b⟩|⟨q,u,v,rfl⟩:=p.status;exact .inl (gD b _ _);exact .inr ⟨i,l,rfl,q,by rw[offersAt_parked_send,Wu rfl]⟩;obtain⟨c,f⟩:=Zt.1 o;obtain⟨g',a,r⟩:=h.g_.cl c f;rw[d]at a;cases a;obtain⟨_,b⟩|⟨_,b,e⟩:=r.status;exact .inl (gD b _ _);refine .inl ?_;unfold offersAt;rw[b,e]
def R5{mt j d K M ρ a}(h:gq P ty Wg ch z An HV Fin n mt j d K M ρ a w){r f}(e:mt=.rb r f):∃g,a=parked {g with offers:=none} #[rcase ch z] (.recv true)/\(∀c,RK ty Wg K w c->qi P ty Wg ch z HV Fin n r f K M g c)/\r+f.length=n/\j=n/\d=0:=by subst e;cases h with|rb a b=>exact⟨_,rfl,b,a,rfl,rfl⟩
theorem se{HV:Nat->Option x6}:∀{l:List Nat},(∀i∈l,HV i≠none)->(l.filterMap HV).length=l.length
 | [],_=>rfl
 |a::l,h=>by obtain⟨v,b⟩:=Zt.1 (h a (by simp));rw[List.filterMap_cons,b];simp[se (l:=l) λi c=>h i (by simp[c])]
theorem zJ:∀{n} {l:List Nat},l.Nodup->(∀i∈l,i<n)->l.length<=n
 |0,[],_,_=>Wv _
 |0,a::l,_,h=>absurd (h a (by simp)) (WM _)
 |n+1,l,c,h=>by
  by_cases d:n∈l
  .have:=zJ (n:=n) (c.erase n) λi b=>by
    have f:=h i (List.mem_of_mem_erase b);have g:i≠n:=λe=>by subst e;exact(List.Nodup.mem_erase_iff c).1 b |>.1 rfl
    omega
   rw[List.length_erase_of_mem d]at this;omega
  .have:=zJ (n:=n) c λi b=>by have f:=h i b;have g:i≠n:=λe=>d (e▸b);omega
   omega
def G7{i}(o:i<σ.j)(p:σ.j<=n){v}(g:HV i=some v)(r:6<(σ.D i).s){D':Nat->WD}(c:(D' i).s=6)(d:∀k,k≠i->D' k=σ.D k)(h:Got P ty Wg HV σ):σ.mt.got.length<n/\∃l:List Nat,l.Nodup/\(∀k,k∈l↔k<σ.j/\(D' k).s<=6/\HV k≠none)/\σ.mt.got++[v]=l.filterMap HV:=by (obtain⟨l,q,b,m⟩:=h;have f:i∉l:=λe=>by have:=((b i).1 e).2.1;omega);have a:=List.nodup_cons.2 ⟨f,q⟩;refine⟨?_,l++[i],?_,λk=>?_,?_⟩;rw[m,se λk hk=>((b k).1 hk).2.2];(have:=zJ (n:=n) a λk hk=>by obtain rfl|hk:=WO.1 hk;omega;have:=((b k).1 hk).1;omega);simp at this;omega;exact(List.perm_append_singleton i l).nodup_iff.2 a;rw[XT,Ya];by_cases e:k=i;subst e;simp[o,c,g];rw[d k e,b k];simp[e];rw[m];simp[g]
def ED{mt mt':pB}(h:(∃r a,mt=.rb r a)\/(∃r a,mt=.rc r a))(c:(∃r a,mt'=.rb r a)\/(∃r a,mt'=.rc r a)):((∃r st,mt'=.sp r st)\/mt'=.gc)↔((∃r st,mt=.sp r st)\/mt=.gc):=by constructor;(rintro(⟨_,_,e⟩|e)<;>rcases c with⟨_,_,b⟩|⟨_,_,b⟩<;>rw[b]at e<;>cases e);rintro(⟨_,_,e⟩|e)<;>rcases h with⟨_,_,b⟩|⟨_,_,b⟩<;>rw[b]at e<;>cases e
def ku{i d f s r cap a1 h j k l m o p q u v x}(y:a1<base+n)(A:h<base+n)(C:j<base+n)(D:k<base+n):∀a∈(MemOp.ofEvents i d f #[]++#[{g:=a1,fn:=l,pos:=q,act:=.send ch s},{g:=h,fn:=m,pos:=u,act:=.recv ch r cap},{g:=j,fn:=o,pos:=v,act:=.sendDone ch s},{g:=k,fn:=p,pos:=x,act:=.recvDone ch r}]:Trace),(a.act.touch?=none/\a.act≠ .mark .disable/\a.act≠ .mark .enable/\a.act≠ .mark (.release (stA Wg)))/\a.g<base+n/\∀B,ch<B->a.act.low B:=by intro a b;have e:MemOp.ofEvents i d f #[]=#[]:=rfl;rw[e]at b;simp only[XY,Xs,WO,WY,W7]at b;obtain rfl|rfl|rfl|rfl:=b;exact⟨⟨rfl,by simp,by simp,by simp⟩,y,λ_ c=>c⟩;exact⟨⟨rfl,by simp,by simp,by simp⟩,A,λ_ c=>c⟩;exact⟨⟨rfl,by simp,by simp,by simp⟩,C,λ_ c=>c⟩;exact⟨⟨rfl,by simp,by simp,by simp⟩,D,λ_ c=>c⟩
def G8(G:gu Wg ch base N0 shun)(h:GI P ty Wg ch z An HV Fin n base N0 shun F0 t₀ gs w t σ){i}(E:i<σ.j){g}(hg:gs[base+i]? =some g){v}(hv:HV i=some v)(hs:(σ.D i).s=8)(Y:(σ.D i).d=0){c}(hR:σ.R i=(8,0,c)) (an:Pu P ty Wg ch z v (σ.D i).K (σ.D i).M g w):eC P ty Wg ch z An HV Fin n base N0 shun F0 t₀ t gs w sl σ (base+i):=by
 have hb:=G.mO;have W:=h.w_;have T:=h.t_;have Q:=h.g_;have H:=Wy E Q.jn;obtain⟨aK,⟨es,rfl,Z⟩,aa⟩:=an;have ab:(base+i==0)=false:=by simp;omega
 have ad:σ.ct≠some .quit:=λe=>by have:=h.m_.zA (by rw[e];trivial) i E;omega
 obtain⟨s,hch⟩:=W.chn;rw[gy ad]at hch;have F:=(WC.1 hg).1;have o:∀(f:FuncId) (p:String),MemOp.ofEvents (base+i) f p #[]=#[]:=λ_ _=>rfl;obtain⟨a,ha,hm⟩:=Q.mn;by_cases I:∃r hs,σ.mt=.rb r hs
 ·
  obtain⟨r,B,C⟩:=I;obtain⟨g2,rfl,ao,aM,ar,af⟩:=R5 hm C;have hp:partners (gs.setIfInBounds (base+i) ph) ch false=[(0,0)]:=by
   rw[partners_one (j:=0) (g:=parked {g2 with offers:=none} #[rcase ch z] (.recv true)) (by rw[WK (by omega)];exact ha) λk x q hx=>?_]
   .rw[offersAt_parked_recv,Wu rfl];rfl
   .obtain⟨_,rfl⟩|⟨_,u⟩:=getElem?_stand gs (base+i) k x hx
    .exact offersAt_ph _ _
    .exact xx h u q
  have J:=crowd_send_meets (sl:=sl) (i:=base+i) (j:=0) hg (by rw[ab];exact Z) hch (by omega) ha hp;have y:=G7 (D':=upd σ.D i ⟨6,0,(σ.D i).K,(σ.D i).M⟩) E Q.jn hv (by omega) (by rw[upd_same]) (λk q=>upd_ne _ _ q) h.v_;rw[C]at y;obtain⟨ag,ah⟩:=y;have ax:B.length<n:=ag;obtain⟨r',rfl⟩:∃r',r=r'+1:=⟨r-1,by omega⟩
  let w':=w.setChan ch 0 #[] false (s+1) (s+1) false;have L:∀b,b≠ch->w'.heap[b]? =w.heap[b]? :=λb m=>WK (WT m);have N:w'.heap.size=w.heap.size:=by simp[w',World.setChan]
  have O:=W.wg.of_block (L Wg G.ne_);have ak:∀K:Nat->Prop,(∀b,K b->¬spB Wg ch b)->RK ty Wg K w w':=λK hK=>⟨λb m=>L b λe=>hK b m (.inr e),λ_=>⟨_,_,O⟩,X0 N.symm⟩
  obtain⟨_,_,_,S⟩:=ao w (.refl w);obtain⟨x1,ay⟩:=dj.of ((S i v H hv).rely (ak _ λb m=>(W.k0 b m).2.1));obtain⟨x2,U⟩:=dj.of (aa.rely (ak _ λb m=>(W.kw i E b m).2.1));refine⟨_,w',_,_,J,h.comm (mt':=.rc r' (B++[v])) (r0':=(20,0,x1)) (D':=upd σ.D i ⟨6,0,(σ.D i).K,(σ.D i).M⟩) (R':=upd σ.R i (6,0,x2)) G ⟨rfl,rfl,rfl⟩ N L ⟨s+1,?_⟩
   (λA l=>(ku (base:=base) (n:=n) (by omega) (by omega) (by omega) (by omega) A l).1) (λA l=>Nat.ne_of_lt (ku (base:=base) (n:=n) (Wg:=Wg) (by omega) (by omega) (by omega) (by omega) A l).2.1) (λA l=>Zs (ku (base:=base) (n:=n) (Wg:=Wg) (by omega) (by omega) (by omega) (by omega) A l).2.1) (λA l=>(ku (base:=base) (n:=n) (Wg:=Wg) (by omega) (by omega) (by omega) (by omega) A l).2.2 _ (by rw[N];exact W.sp.2))
   (λk q=>?_) ?_ (λk q=>?_) (λk h1 h2=>?_) ?_ (λk q=>?_) ?_ ?_ ?_ ?_ ?_ ?_,kr H rfl (by rw[hR];exact cO (by omega))⟩
  .rw[gy ad]
   show(w.heap.setIfInBounds ch _)[ch]? =_;rw[Xt];simp[W.sp.2]
  .by_cases e:k=i
   .subst e;rw[upd_same];exact⟨rfl,rfl,Y.symm,λx=>by simp at x⟩
   .rw[upd_ne _ _ e];exact⟨rfl,rfl,rfl,id⟩
  .refine⟨Conc.served {g2 with offers:=none} (recvd true v true),?_,?_⟩
   .rw[WK (by omega),Xt]
    rw[Wu rfl,Wu (by omega)];rfl
   .rw[af,ar]
    exact .rc (by simp;omega) ay
  .by_cases e:k=i
   .subst e
    refine .inr ⟨Conc.served {g with offers:=none} undef,?_,?_⟩
    .rw[Xt,Wu rfl,Wu (by simp;exact F)]
     rfl
    .rw[upd_same,upd_same];exact .r0 U
   .refine .inl ⟨upd_ne _ _ e,upd_ne _ _ e,?_⟩
    rw[WK (by omega),WK (by omega)]
  .rw[WK (by omega),WK (by omega)]
  .simp
  .rw[upd_ne];omega
  .exact(h.m_.same (D':=⟨6,0,(σ.D i).K,(σ.D i).M⟩) E (.inr ⟨by simp,by omega⟩)).vP (by rw[C];rfl)
  .have:=vN (D:=σ.D) (D':=⟨6,0,(σ.D i).K,(σ.D i).M⟩) E
   have e1:kM (σ.D i)=1:=Wu (by omega);have e2:kM ⟨6,0,(σ.D i).K,(σ.D i).M⟩=1:=rfl;omega
  .exact ED (.inl ⟨_,_,C⟩) (.inr ⟨_,_,rfl⟩)
  .rintro⟨_,_,e⟩;cases e
  .intro _ _ e;cases e
  .exact ah
 ·
  have V:offersAt a ch false=[]:=by
   obtain⟨h1,_⟩|⟨r,B,g2,h1,_⟩:=hm.status
   .exact gD (.inl h1) _ _
   .exact absurd ⟨r,B,h1⟩ I
  have hp:partners (gs.setIfInBounds (base+i) ph) ch false=[]:=partners_nil λk x hx=>by
   obtain⟨_,rfl⟩|⟨_,u⟩:=getElem?_stand gs (base+i) k x hx
   .exact offersAt_ph _ _
   .by_cases q:k=0
    .subst q
     rw[ha]at u;cases u;exact V
    .exact xx h u q
  have X:=crowd_waits (sl:=sl) (i:=base+i) hg (by rw[ab];exact Z) (λcc al=>by simp at al;subst al;exact ways_send_none hch (Wv _) hp)
  obtain⟨x2,U⟩:=dj.of aa;refine⟨_,w,_,_,X,h.comm (mt':=σ.mt) (r0':=σ.r0) (D':=upd σ.D i ⟨7,0,(σ.D i).K,(σ.D i).M⟩) (R':=upd σ.R i (7,0,x2)) G ⟨rfl,rfl,rfl⟩ rfl (λ_ _=>rfl) W.chn
   (λA l=>?_) (λA l=>?_) (λA l=>by rw[o]at l;simp at l) (λA l=>by rw[o]at l;simp at l)
   (λk q=>?_) ?_ (λk q=>?_) (λk h1 h2=>?_) ?_ (λk q=>?_) ?_ ?_ ?_ ?_ ?_ ?_,kr H rfl (by rw[hR];exact cO (by omega))⟩
  .rw[o]at l;simp at l
  .rw[o]at l;simp at l
  .by_cases e:k=i
   .subst e;rw[upd_same];exact⟨rfl,rfl,Y.symm,λx=>by simp at x⟩
   .rw[upd_ne _ _ e];exact⟨rfl,rfl,rfl,id⟩
  .exact⟨a,by rw[WK (by omega)];exact ha,hm⟩
  .by_cases e:k=i
   .subst e
    refine .inr ⟨_,by rw[Xt,Wu rfl,Wu F],?_⟩;rw[upd_same,upd_same];exact .blk hv U
   .exact .inl ⟨upd_ne _ _ e,upd_ne _ _ e,by rw[WK (by omega)]⟩
  .rw[WK (by omega)]
  .simp
  .rw[upd_ne];omega
  .exact h.m_.same (D':=⟨7,0,(σ.D i).K,(σ.D i).M⟩) E (.inr ⟨by simp,by omega⟩)
  .have:=vN (D:=σ.D) (D':=⟨7,0,(σ.D i).K,(σ.D i).M⟩) E
   have e1:kM (σ.D i)=1:=Wu (by omega);have e2:kM ⟨7,0,(σ.D i).K,(σ.D i).M⟩=1:=rfl;omega
  .rfl
  .exactλe=>absurd e I
  .exact Q.mq
  .exact Cz (λk q=>by
    by_cases e:k=i
    .subst e;rw[upd_same];simp[hs]
    .rw[upd_ne _ _ e]) h.v_
def J4{r a K M g}(h:qi P ty Wg ch z HV Fin n r a K M g w):g.status=.running/\stepG P true g w=.comm {g with offers:=none} #[rcase ch z] true (.recv true) w #[]/\Fin a K M (Conc.served g (.tuple #[z,.bool false])) w:=by cases r with|zero=>exact h|succ r=>exact⟨h.1,h.2.1,h.2.2.1⟩
def PD{b D ρ a d i sh}(h:WSit P ty Wg ch z b D ρ (parked a #[scase ch d i] sh) w):b=some d/\D=⟨7,0,D.K,D.M⟩/\sh=.send/\∃c,ρ=(7,0,c)/\dj P ty Wg false (SR0 P ty Wg) D.K D.M (Conc.served a undef) w c:=by (have m:∀{g:V4},(parked a #[scase ch d i] sh)=g->(g.status=.running\/g.status=.finished)->False:=λe h=>by subst e;rcases h with h|h<;>cases h);have j:=h.status;obtain⟨_,k⟩|⟨o,_⟩:=j;exact(m rfl k).elim;generalize l:parked a #[scase ch d i] sh=u at h;cases h with| @blk K M p _ c v b q=>obtain⟨f,cs,st,x,of⟩:=a;obtain⟨y,cs',st',r,s⟩:=p;simp only[parked,scase,Goroutine.mk.injEq,Xo,ZM,aap,Y2,CommCase.mk.injEq]at l;obtain⟨rfl,rfl,_,rfl,k,rfl⟩:=l;obtain⟨⟨_,rfl,rfl⟩,_⟩:=k;exact⟨b,rfl,rfl,c,rfl,q⟩|_=>cases o
def PE(P ty)(Wg ch:Nat)(z:x6)(An:aQ)(HV:Nat->Option x6)(Fin:List x6->aQ)(n base N0:Nat)(shun:Nat->Prop)(F0:xv)(t₀ t:Trace)(gs:Array V4)(w:xv)(sl:Option (Nat×Nat))(σ:GSt P ty Wg):Prop:=∃r a b fn pos,(σ.mt=.rc r a\/σ.mt=.rw r a)/\σ.ct=some .quit/\Fin a σ.K0 σ.M0 (Conc.served b (.tuple #[z,.bool false])) w/\runT P (crowd gs w sl) 0=(.next (crowd (gs.setIfInBounds 0 (Conc.served b (.tuple #[z,.bool false]))) w sl),#[{g:=0,fn:=fn,pos:=pos,act:=.recvClosed ch}])
def EE(G:gu Wg ch base N0 shun)(h:GI P ty Wg ch z An HV Fin n base N0 shun F0 t₀ gs w t σ){g:V4}(hg:gs[0]? =some g){r:Nat}{I:List x6}{c:RC P ty Wg}{g2:V4}(a8:r+I.length=n) (V:σ.mt=.rc r I/\g=g2/\σ.r0=(20,0,c)\/σ.mt=.rw r I/\g={parked {g2 with offers:=none} #[rcase ch z] (.recv true)with status:=.running}/\σ.r0=(18,0,c)) (hj:σ.j=n) (an:σ.d0=0) (X:∀J,RK ty Wg σ.K0 w J->qi P ty Wg ch z HV Fin n r I σ.K0 σ.M0 g2 J):eC P ty Wg ch z An HV Fin n base N0 shun F0 t₀ t gs w sl σ 0\/PE P ty Wg ch z An HV Fin n base N0 shun F0 t₀ t gs w sl σ:=by
 have hb:=G.mO;have W:=h.w_;have T:=h.t_;have Q:=h.g_;have L:=(WC.1 hg).1;obtain⟨b2,N,ao⟩:=J4 (X w (.refl w));have Y:stepG P true g w=.comm {g2 with offers:=none} #[rcase ch z] true (.recv true) w #[]:=by obtain⟨_,rfl,_⟩|⟨_,rfl,_⟩:=V;exact N;rw[<-N];exact stepG_same rfl rfl rfl w
 have o:∀(f:FuncId) (p:String),MemOp.ofEvents 0 f p #[]=#[]:=λ_ _=>rfl;obtain⟨s,hch⟩:=W.chn;have A:(∀i,i<σ.j->(σ.D i).s≠7)->partners (gs.setIfInBounds 0 ph) ch true=[]:=λh7=>partners_nil λk x hx=>by obtain⟨_,rfl⟩|⟨m,F⟩:=getElem?_stand gs 0 k x hx;exact offersAt_ph _ _;obtain B|⟨i,q,_,O,_⟩:=Ll h F m;exact B;exact absurd O (h7 i q)
 by_cases Z:σ.ct=some .quit
 ·
  right;rw[Z]at hch;have hQ:=h.m_.zA (by rw[Z];trivial);have hp:=A λi q=>by rw[hQ i q];omega
  have:=crowd_recv_closed (sl:=sl) (i:=0) hg Y hch hp;rw[o,XY]at this;exact⟨r,I,g2,_,_,V.imp (·.1) (·.1),Z,ao,this⟩
 ·
  left;rw[gy Z]at hch;have ba:=V.resolve_right λ⟨e,_⟩=>Z (Q.mq _ _ e);obtain⟨y,rfl,bb⟩:=ba;by_cases h7:∃i,i<σ.j/\(σ.D i).s=7
  ·
   obtain⟨i0,bk,bm⟩:=h7;obtain⟨g0,bo,br⟩:=Q.wk i0 bk;have S:∀k x,k≠0->gs[k]? =some x->offersAt x ch true≠[]->∃i,i<σ.j/\k=base+i/\(σ.D i).s=7/\∃U v,x=parked U #[scase ch v undef] .send:=by
    intro k x m hx aa;obtain B|⟨i,q,rfl,O,_⟩:=Ll h hx m
    .exact absurd B aa
    .obtain⟨g',ar,hw⟩:=Q.wk i q
     rw[hx]at ar;cases ar;obtain⟨B,_⟩|⟨_,U,v,rfl⟩:=hw.status
     .exact absurd O B
     .exact⟨i,q,rfl,O,U,v,rfl⟩
   have aa:partners (gs.setIfInBounds 0 ph) ch true≠[]:=by
    intro e;obtain⟨B,_⟩|⟨_,U,v,rfl⟩:=br.status
    .exact B bm
    .have:(base+i0,0)∈partners (gs.setIfInBounds 0 ph) ch true:=mem_partners.2 ⟨_,by rw[WK (by omega)];exact bo,by rw[offersAt_parked_send,Wu rfl];simp⟩
     rw[e]at this;cases this
   obtain⟨j,U,vj,zj,b3,d,H,ab,ad⟩:=crowd_recv_meets_some (sl:=sl) (i:=0) hg Y hch aa λj k bs=>by
    obtain⟨x,hx,m⟩:=mem_partners.1 bs;obtain⟨_,rfl⟩|⟨H,F⟩:=getElem?_stand gs 0 j x hx
    .rw[offersAt_ph]at m;cases m
    .obtain⟨i,q,rfl,_,U,v,rfl⟩:=S j x H F λe=>by rw[e]at m;cases m
     rw[offersAt_parked_send,Wu rfl]at m;exact⟨by simpa using m,H,U,v,undef,_,F⟩
   obtain⟨i,q,rfl,b4,_⟩:=S j _ H ab (by rw[offersAt_parked_send,Wu rfl];simp);have ax:=Wy q Q.jn;obtain⟨gx,ay,bx⟩:=Q.wk i q;rw[ab]at ay;cases ay;obtain⟨hv,hD,rfl,cw,hR,bA⟩:=PD bx;have bB:(σ.D i).d=0:=by rw[hD]
   have C:=G7 (D':=upd σ.D i ⟨6,0,(σ.D i).K,(σ.D i).M⟩) q Q.jn hv (by omega) (by rw[upd_same]) (λk m=>upd_ne _ _ m) h.v_;rw[y]at C;obtain⟨aK,aM⟩:=C;have bC:I.length<n:=aK;obtain⟨r',rfl⟩:∃r',r=r'+1:=⟨r-1,by omega⟩
   let w':=(w.at d).setChan ch 0 #[] false (s+1) (s+1) false;have af:∀b,b≠ch->w'.heap[b]? =w.heap[b]? :=λb u=>WK (WT u);have ag:w'.heap.size=w.heap.size:=by show(w.heap.setIfInBounds ch _).size=_;simp
   have ah:=W.wg.of_block (af Wg G.ne_);have aR:∀K:Nat->Prop,(∀b,K b->¬spB Wg ch b)->RK ty Wg K w w':=λK hK=>⟨λb u=>af b λe=>hK b u (.inr e),λ_=>⟨_,_,ah⟩,X0 ag.symm⟩
   obtain⟨_,_,_,ak⟩:=X w (.refl w);obtain⟨x1,b0⟩:=dj.of ((ak i vj ax hv).rely (aR _ λb u=>(W.k0 b u).2.1));obtain⟨x2,b1⟩:=dj.of (bA.now.rely (aR _ λb u=>(W.kw i q b u).2.1));refine⟨_,w',_,_,ad,h.comm (mt':=.rc r' (I++[vj])) (r0':=(20,0,x1)) (D':=upd σ.D i ⟨6,0,(σ.D i).K,(σ.D i).M⟩) (R':=upd σ.R i (6,0,x2)) G ⟨rfl,rfl,rfl⟩ ag af ⟨s+1,?_⟩
    (λE a=>(ku (base:=base) (n:=n) (by omega) (by omega) (by omega) (by omega) E a).1) (λE a=>Nat.ne_of_lt (ku (base:=base) (n:=n) (Wg:=Wg) (by omega) (by omega) (by omega) (by omega) E a).2.1) (λE a=>Zs (ku (base:=base) (n:=n) (Wg:=Wg) (by omega) (by omega) (by omega) (by omega) E a).2.1) (λE a=>(ku (base:=base) (n:=n) (Wg:=Wg) (by omega) (by omega) (by omega) (by omega) E a).2.2 _ (by rw[ag];exact W.sp.2))
    (λk m=>?_) ?_ (λk m=>?_) (λk B O=>?_) ?_ (λk m=>?_) ?_ ?_ ?_ ?_ ?_ ?_,kr ax rfl (by rw[hR];exact cO (by omega))⟩
   .rw[gy Z]
    show(w.heap.setIfInBounds ch _)[ch]? =_;rw[Xt];simp[W.sp.2]
   .by_cases e:k=i
    .subst e;rw[upd_same];exact⟨rfl,rfl,bB.symm,λx=>by simp at x⟩
    .rw[upd_ne _ _ e];exact⟨rfl,rfl,rfl,id⟩
   .refine⟨Conc.served {g with offers:=none} (recvd true vj true),?_,?_⟩
    .rw[Xt,Wu rfl,Wu (by simp;exact L)]
     rfl
    .rw[an,hj]
     exact .rc (by simp;omega) b0
   .by_cases e:k=i
    .subst e
     refine .inr ⟨Conc.served U undef,?_,?_⟩
     .have a1:=(WC.1 ab).1
      rw[WK (by omega),Xt,Wu rfl,Wu a1];rfl
     .rw[upd_same,upd_same];exact .r0 b1
    .refine .inl ⟨upd_ne _ _ e,upd_ne _ _ e,?_⟩
     rw[WK (by omega),WK (by omega)]
   .rw[WK (by omega),WK (by omega)]
   .simp
   .rw[upd_ne];omega
   .exact(h.m_.same (D':=⟨6,0,(σ.D i).K,(σ.D i).M⟩) q (.inr ⟨by simp,by omega⟩)).vP (by rw[y];rfl)
   .have:=vN (D:=σ.D) (D':=⟨6,0,(σ.D i).K,(σ.D i).M⟩) q
    have e1:kM (σ.D i)=1:=Wu (by omega);have e2:kM ⟨6,0,(σ.D i).K,(σ.D i).M⟩=1:=rfl;omega
   .exact ED (.inr ⟨_,_,y⟩) (.inr ⟨_,_,rfl⟩)
   .rintro⟨_,_,e⟩;cases e
   .intro _ _ e;cases e
   .exact aM
  ·
   have a6:∀i,i<σ.j->(σ.D i).s≠7:=λi q e=>h7 ⟨i,q,e⟩;have al:=crowd_waits (sl:=sl) (i:=0) hg Y (λcc a7=>by simp at a7;subst a7;exact ways_recv_none hch (A a6))
   refine⟨_,w,_,_,al,h.comm (mt':=.rb r I) (r0':=(19,0,c)) (D':=σ.D) (R':=σ.R) G ⟨rfl,rfl,rfl⟩ rfl (λ_ _=>rfl) W.chn
    (λE a=>by rw[o]at a;simp at a) (λE a=>by rw[o]at a;simp at a) (λE a=>by rw[o]at a;simp at a) (λE a=>by rw[o]at a;simp at a)
    (λk m=>⟨rfl,rfl,rfl,id⟩) ⟨_,by rw[Xt,Wu rfl,Wu L],?_⟩ (λk m=>.inl ⟨rfl,rfl,by rw[WK (by omega)]⟩) (λk B O=>by rw[WK (by omega)]) (by simp) (λk m=>rfl)
    (h.m_.vP (by rw[y];rfl)) rfl (ED (.inr ⟨_,_,y⟩) (.inl ⟨_,_,rfl⟩)) (λ_=>⟨Z,a6⟩) (λ_ _ e=>by cases e) ?_,?_⟩
   .rw[an,hj];exact .rb a8 X
   .obtain⟨l,B,O,h3⟩:=h.v_
    exact⟨l,B,O,by rw[<-h3,y];rfl⟩
   .exact vO rfl (by rw[bb];exact cO (by omega))
def GI.S6(G:gu Wg ch base N0 shun)(h:GI P ty Wg ch z An HV Fin n base N0 shun F0 t₀ gs w t σ)(d):GI P ty Wg ch z An HV Fin n base N0 shun F0 t₀ gs (w.at d) t σ:=by
 have W:=h.w_;have Q:=h.g_;have rk:∀K,RK ty Wg K w (w.at d):=λK=>⟨λ_ _=>rfl,id,Wv _⟩
 obtain⟨a,e,f⟩:=Q.mn;have:=h.comm (w':=w.at d) (gs':=gs) (ops:=#[]) (mt':=σ.mt) (r0':=σ.r0) (D':=σ.D) (R':=σ.R) G ⟨rfl,rfl,rfl⟩ rfl (λ_ _=>rfl) W.chn (λc b=>by simp at b) (λc b=>by simp at b) (λc b=>by simp at b) (λc b=>by simp at b)
  (λ_ _=>⟨rfl,rfl,rfl,id⟩) ⟨a,e,f.rely (rk _)⟩ (λi g=>.inl ⟨rfl,rfl,rfl⟩) (λ_ _ _=>rfl) rfl (λ_ _=>rfl) h.m_ rfl Yx Q.mb Q.mq h.v_
 rw[ZF]at this;exact this
def G9(G:gu Wg ch base N0 shun)(h:GI P ty Wg ch z An HV Fin n base N0 shun F0 t₀ gs w t σ){k}(h0:0<k)(V:k<base){g}(hg:gs[k]? =some g)(p:g.status=.running):eC P ty Wg ch z An HV Fin n base N0 shun F0 t₀ t gs w sl σ k:=by
 have hb:=G.mO;have W:=h.w_;have T:=h.t_;have Q:=h.g_;have hq:=Q.lv k g h0 V hg;have X:=(WC.1 hg).1;have ag:(k==0)=false:=by simp;omega
 cases M:σ.q k with
 |zero=>rw[M]at hq;rw[hq.1]at p;cases p
 |succ m=>
  rw[M]at hq;obtain⟨hf,_⟩|⟨_,g',es,Y,Z,aa⟩:=hq;rw[hf]at p;cases p;have N:=runT_crowd_go (P:=P) (sl:=sl) (i:=k) hg (by rw[ag];exact Z w);have f:∀I∈MemOp.ofEvents k g.frame.fn g.frame.place es,I.g=k:=λI l=>by obtain⟨e,_,rfl⟩:=Go.Conc.mem_ofEvents l;rfl
  have O:∀I∈MemOp.ofEvents k g.frame.fn g.frame.place es,I.act.touch?=none:=λI l=>by obtain⟨e,he,rfl⟩:=Go.Conc.mem_ofEvents l;exact touch_mute (Y e he)
  have ay:sumTo base (upd σ.q k m)+(m+1)=sumTo base σ.q+m:=by have:=sumTo_upd σ.q m id V;simpa[M]using this
  obtain⟨b,A,v,ah⟩:∃b A,(b=σ.ct\/(σ.ct=some .blk/\b=some .w3))/\
   ∀c,b=some c->∃gc,((gs.map (woken P g g' w)).setIfInBounds k g')[base+n]? =some gc/\CSit P ty Wg ch An (VW σ.j σ.D) c σ.dc σ.Kc σ.Mc A gc w:=by
   cases o:σ.ct with
   |none=>exact⟨none,σ.rc,.inl rfl,λc e=>by cases e⟩
   |some c=>
    obtain⟨gc,ak,al⟩:=Q.cl c o;obtain⟨c',an,y,K,_⟩:=al.woken g g' w aa.status;refine⟨some c',an,?_,λc2 e=>?_⟩
    .obtain rfl|⟨rfl,rfl⟩:=K
     .exact .inl rfl
     .exact .inr ⟨rfl,rfl⟩
    .cases e
     refine⟨_,?_,y⟩;rw[bW _ _ _ _ _ (by omega),ak];rfl
  have d:b=none↔σ.ct=none:=by obtain rfl|⟨a,rfl⟩:=v;rfl;simp[a]
  have B:b=some .quit↔σ.ct=some .quit:=by obtain rfl|⟨a,rfl⟩:=v;rfl;simp[a]
  have ab:b=some .cl↔σ.ct=some .cl:=by obtain rfl|⟨a,rfl⟩:=v;rfl;simp[a]
  have ao:fF b=fF σ.ct:=by obtain rfl|⟨a,rfl⟩:=v;rfl;rw[a];rfl
  have C:∀E r,E<n->RelBy (stA Wg) t (base+E) r->RelBy (stA Wg) (t++MemOp.ofEvents k g.frame.fn g.frame.place es) (base+E) r:=λE r _ hr=>eB hr f (by omega);have F:∀k',k'≠k->Deaf (t++MemOp.ofEvents k g.frame.fn g.frame.place es) k'=Deaf t k':=λk' R=>Deaf_other t (WT R) _ f;have H:σ.ct≠some .quit->∃s r tm,w.heap[ch]? =some (.chan 0 #[] false s r tm):=by intro o;obtain⟨s,J⟩:=W.chn;rw[gy o]at J;exact⟨s,s,false,J⟩
  let S:GSt P ty Wg:={σ with ct:=b,rc:=A,q:=upd σ.q k m}
  refine⟨_,w,_,S,N,⟨?_,?_,?_,h.m_.retag v,h.v_⟩,?_⟩;refine⟨W.os,W.tape,W.output,W.ik,W.old,?_,W.wg,W.sp,W.kw,W.mw,W.k0,W.m0,λo=>W.kc λe=>o (d.2 e),λo=>W.mc λe=>o (d.2 e),W.owns,W.GN,W.GO.trans (not_congr d.symm),W.Ex,W.Ey⟩;obtain⟨s,J⟩:=W.chn;exact⟨s,by rw[J];show _=some (Obj.chan 0 #[] (fF b) s s false);rw[ao]⟩
  refine⟨?_,T.tr.still O λI l e=>absurd ((f I l).symm.trans e) (by omega),mN T.seen (Wv _) λI l=>?_,jU T.gb (λI l=>by
   rw[f I l];have y:=(WC.1 hg).1;have K:=Q.size;have h3:=Q.jn;split at K<;>omega),T.norel.app (norel_of λe he=>?_),(F 0 (by omega)).trans T.d0,λE x=>(F _ (by omega)).trans (T.dw E x),λo=>(F _ (by omega)).trans (T.dc λe=>o (d.2 e)),
   λk' y K h3=>(F k' (by omega)).trans (T.above k' y K λe=>h3 λe'=>e (d.1 e')),λE x J=>?_,λo=>mf (T.acq (ab.1 o)) C,λo=>mg (T.cls (B.1 o)) C (jI f (by omega))⟩
  obtain⟨u,rfl⟩:=T.pre;exact⟨_,XM ..⟩;obtain⟨e,he,rfl⟩:=Go.Conc.mem_ofEvents l;exact low_mute (Y e he) _;intro e2;have:=Y e he;obtain⟨aK,aM,sy⟩:=e;simp only at e2;subst e2;simp[Event.mute]at this;obtain⟨r,hr⟩:=T.rel E x J;exact⟨r,eB hr f (by omega)⟩;refine⟨?_,Q.jn,λo=>Q.cn λe=>o (d.2 e),?_,d.trans Q.mc,λE x=>?_,Q.unb,ah,λk' gk y K hk=>?_,λY=>?_,λr J e=>B.2 (Q.mq r J e)⟩;have:(if b.isSome then 1 else 0)=(if σ.ct.isSome then 1 else 0):=by obtain rfl|⟨a,rfl⟩:=v;rfl;rw[a];rfl
  simp only[W9,Yj];rw[this];exact Q.size;obtain⟨a,ha,U⟩:=Q.mn;refine⟨woken P g g' w a,by rw[bW _ _ _ _ _ (by omega),ha];rfl,?_⟩;have e:woken P g g' w a=a:=by obtain⟨y,_⟩|⟨r,J,g2,y,_⟩:=U.status;exact woken_run y;exact U.woken g g' w (H (Q.mb ⟨r,J,y⟩).1)
  rw[e];exact U;obtain⟨gw,ar,ad⟩:=Q.wk E x;refine⟨woken P g g' w gw,by rw[bW _ _ _ _ _ (by omega),ar];rfl,?_⟩;have e':=ad.woken g g' w λaf=>H λo=>by rw[h.m_.zA (by rw[o];trivial) E x]at af;cases af
  rw[e'];exact ad;by_cases e:k'=k;subst e;rw[fY _ _ _ _ X]at hk;cases hk;simp only[S,upd_same];rw[Deaf_own];exact aa;rw[bW _ _ _ _ _ e]at hk;obtain⟨ax,R,rfl⟩:=Xb.1 hk;have L:=Q.lv k' ax y K R;simp only[S,upd_ne σ.q m e];rw[woken_quitsD L,F k' e];exact L;obtain⟨y,K⟩:=Q.mb Y;exact⟨λe'=>y (B.1 e'),K⟩;unfold mu;refine Prod.Lex.right _ (Prod.Lex.right _ (Prod.Lex.left _ _ ?_));show sumTo base (upd σ.q k m)<sumTo base σ.q;omega
theorem pr{D}:∀{j},1<=VW j D->∃i,i<j/\4<=(D i).s
 |0,h=>by simp[VW,sumTo]at h
 |j+1,h=>by
  by_cases a:4<=(D j).s
  .exact⟨j,by omega,a⟩
  .have:1<=VW j D:=by simp only[VW,sumTo,kM,Wt a]at h⊢;simpa using h
   obtain⟨i,c,b⟩:=pr this;exact⟨i,by omega,b⟩
def Bj(h:GI P ty Wg ch z An HV Fin n base N0 shun F0 t₀ gs w t σ):∃(i:Nat) (g:V4),gs[i]? =some g/\g.status=.running:=by
 have Q:=h.g_;obtain⟨a,v,x⟩:=Q.mn;obtain⟨d,_⟩|⟨r,y,G,d,_⟩:=x.status;exact⟨0,a,v,d⟩;obtain⟨m,A⟩:=Q.mb ⟨r,y,d⟩
 cases f:σ.ct with
 |none=>rcases Q.mc.1 f with⟨_,_,e⟩|e<;>rw[d]at e<;>cases e
 |some c=>obtain⟨g,B,b⟩:=Q.cl c f;obtain⟨o,C⟩|⟨rfl,_,_⟩:=b.status;exact⟨_,g,B,b.busy o λe=>m (by rw[f,e])⟩;(have busy:∀i,i<σ.j->(σ.D i).s≠0->∃(i:Nat) (g:V4),gs[i]? =some g/\g.status=.running:=λi k E=>by obtain⟨gw,p,F⟩:=Q.wk i k;exact⟨_,gw,p,F.busy (A i k) E⟩);have l:=h.m_;rw[f]at l;generalize σ.st=st at l;generalize σ.sm=sm at l;cases l with|opn a=>exact a.elim|reg _ _ u=>obtain⟨i,k,H⟩:=pr u;exact busy i k (by omega)|last L _ q u _=>exact busy L q (by omega)|sema _ q=>exact absurd rfl q|fin a=>exact a.elim
def J5(h:GI P ty Wg ch z An HV Fin n base N0 shun F0 t₀ gs w t σ):∀g∈gs,awake g:=by intro g j;obtain⟨k,e⟩:=Zr.1 j;obtain rfl|⟨d,l⟩|⟨i,m,rfl⟩|⟨o,rfl⟩:=zI h (WC.1 e).1;obtain⟨a,p,q⟩:=h.g_.mn;rw[p]at e;cases e;obtain⟨d,_⟩|⟨_,_,r,_,rfl⟩:=q.status;exact awake_of (.inl d);exact awake_of (.inr (.inl rfl));exact awake_of ((h.g_.lv k g d l e).status.elim .inl λx=>.inr (.inr x));obtain⟨g',b,s⟩:=h.g_.wk i m;rw[e]at b;cases b;obtain⟨_,d⟩|⟨_,r,v,rfl⟩:=s.status;exact awake_of (d.elim .inl λx=>.inr (.inr x));exact awake_of (.inr (.inl rfl));obtain⟨c,f⟩:=Zt.1 o;obtain⟨g',b,u⟩:=h.g_.cl c f;rw[e]at b;cases b;obtain⟨_,d⟩|⟨_,d,_⟩:=u.status;exact awake_of (d.elim .inl λx=>.inr (.inr x));exact awake_of (.inr (.inl d))
def PF(G:gu Wg ch base N0 shun)(p:n<2147483647)(q:∀K M g w,An K M g w->Run P false ty Wg (SW1 P ty Wg ch An) K M g w)(h:GI P ty Wg ch z An HV Fin n base N0 shun F0 t₀ gs w t σ){k g}(e:gs[k]? =some g)(b:g.status=.running):eC P ty Wg ch z An HV Fin n base N0 shun F0 t₀ t gs w sl σ k\/(k=0/\PE P ty Wg ch z An HV Fin n base N0 shun F0 t₀ t gs w sl σ):=by obtain rfl|⟨l,B⟩|⟨i,y,rfl⟩|⟨C,rfl⟩:=zI h (WC.1 e).1;rcases EB (sl:=sl) G p h e b with l|⟨r,c,f,j,m,d,o,a⟩|⟨c,j,m,d,o,a⟩|⟨r,A,c,H,f,s,m,d,a⟩;exact .inl l;exact .inl (J1 (c:=c) G h e f j m d a);exact .inl (GZ G h e j m d o a);(exact(EE G h e f s m d a).imp id λx=>⟨rfl,x⟩);exact .inl (G9 G h l B e b);rcases GU (sl:=sl) G p h y e b with l|⟨v,c,D,A,E,F,a⟩;exact .inl l;exact .inl (G8 G h y e D A E F a);obtain⟨c,u⟩:=Zt.1 C;exact .inl (G6 G p q h u e b)
structure S8(P:Program)(Wg ch:Nat)(z:x6)(HV:Nat->Option x6)(Fin:List x6->aQ)(n base N0:Nat)(shun:Nat->Prop)(Shun:Loc->Prop)(F0:xv)(gs':Array V4)(w':xv)(t':Trace):Prop where
 main:∃g2 K M hs,gs'[0]? =some (Conc.served g2 (.tuple #[z,.bool false]))/\Fin hs K M (Conc.served g2 (.tuple #[z,.bool false])) w'/\(∀b,K b->b<w'.heap.size/\¬spB Wg ch b/\¬shun b)/\(∀b,M b->b<w'.heap.size/\¬spB Wg ch b/\N0<=b)/\∃l:List Nat,l.Nodup/\(∀i,i∈l↔i<n/\HV i≠none)/\hs=l.filterMap HV
 size:gs'.size=base+n+1
 lv:∃q,Leavers P t' gs' q
 past:Past (λl=>Shun l\/∃b,blk l=some b/\spB Wg ch b) w'.heap.size t'
 few:∀op∈t',op.g<base+n+1
 sp:Wg<w'.heap.size/\ch<w'.heap.size
 os:w'.os=F0.os
 tape:w'.tape=F0.tape
 output:w'.output=F0.output
 ik:N0<=w'.heap.size
 old:∀b,b<N0->w'.heap[b]? =F0.heap[b]?
def R6{mt j d K M ρ a}(h:gq P ty Wg ch z An HV Fin n mt j d K M ρ a w)(e:(∃r b,mt=.rc r b)\/(∃r b,mt=.rw r b)):d=0:=by cases h<;>first|rfl|(rcases e with⟨_,_,e⟩|⟨_,_,e⟩<;>cases e)
def MD{a D ρ g}(h:WSit P ty Wg ch z a D ρ g w)(e:D.s=0):∃q,QuitsD P q D.d g:=by cases h with|quit b=>exact⟨_,b⟩|_=>cases e
def ME{v ct d K M ρ g}(h:CSit P ty Wg ch An v ct d K M ρ g w)(e:ct=.quit):∃q,QuitsD P q d g:=by cases h with|quit a=>exact⟨_,a⟩|_=>cases e
def Ha(G:gu Wg ch base N0 shun)(h:GI P ty Wg ch z An HV Fin n base N0 shun F0 t₀ gs w t σ){Shun C0}(hP:Past Shun C0 t₀)(hx:PE P ty Wg ch z An HV Fin n base N0 shun F0 t₀ t gs w sl σ):∃gs' ops,runT P (crowd gs w sl) 0=(.next (crowd gs' w sl),ops)/\S8 P Wg ch z HV Fin n base N0 shun Shun F0 gs' w (t++ops):=by
 have hb:=G.mO;have W:=h.w_;have T:=h.t_;have Q:=h.g_;obtain⟨r,hs,g2,fn,pos,Y,B,Z,aa⟩:=hx;have J:σ.ct≠none:=by rw[B];simp
 have hj:=Q.cn J;have an:gs.size=base+n+1:=by have:=Q.size;rw[B,hj]at this;simpa using this
 have hQ:=h.m_.zA (by rw[B];trivial);have ao:σ.d0=0:=by obtain⟨a,_,hm⟩:=Q.mn;exact R6 hm (Y.imp (λe=>⟨_,_,e⟩) λe=>⟨_,_,e⟩)
 refine⟨_,_,aa,?_⟩;generalize hu:(#[{g:=0,fn:=fn,pos:=pos,act:=.recvClosed ch}]:Trace)=u;have L:∀m∈u,m.g=0:=λm d=>by subst hu;simp at d;subst d;rfl
 have ar:∀m∈u,m.act.touch?=none:=λm d=>by subst hu;simp at d;subst d;rfl
 have M:(t++u)[t.size]? =some {g:=0,fn:=fn,pos:=pos,act:=.recvClosed ch}:=by subst hu;simp
 have N:∀k,Deaf (t++u) k=Deaf t k:=λk=>oU (λm d=>by subst hu;simp at d;subst d;simp) k;have ab:=T.d0.trans ao;obtain⟨q,p,q1,q2,q3,q4,q5,p1,p2,p3,p4⟩:=T.cls B;have F:=lt_of_act? q1;have H:=lt_of_act? p1;have ax:(t++u).heard t.size:=⟨0,by simp[Trace.g?,M],by rw[deaf_old (Wv _)];exact ab⟩
 have O:HappensBefore (t++u) p t.size:=.single (.inr ⟨.closed (c:=ch) (by rw[act?_old H];exact p1) (by simp[Trace.act?,M]),(heard_old H).2 p3,ax⟩);have hK:∀i,HappensBefore (t++u) i t.size->Knows (t++u) 0 i:=λi E=>⟨t.size,_,M,rfl,.inr E⟩
 have A:∀i g,(t++u).g? i=some g->g≠0->i<t.size/\t.g? i=some g:=λi g E s=>by obtain⟨m,d,R⟩:=Xb.1 E;obtain⟨S,ad⟩|⟨_,ay⟩:=getElem?_append_cases d;exact⟨S,by simp[Trace.g?,ad,R]⟩;rw[L m ay]at R;exact absurd R.symm s
 have po:∀i j g,i<j->(t++u).g? i=some g->(t++u).g? j=some g->HappensBefore (t++u) i j:=λi j g aK E hj=>by obtain⟨x,hx,aM⟩:=Xb.1 E;obtain⟨y,hy,aR⟩:=Xb.1 hj;exact hb_po aK hx hy (aM.trans aR.symm)
 have back:∀g,σ.low g≠0->Vf (t++u) g:=by intro g s i U af;have a1:g≠0:=λe=>s (by rw[e];exact T.tr.z_);obtain⟨S,ag⟩:=A i g U a1;have K:=(counts_old S).1 af;obtain⟨i',a8,rfl⟩|rfl:=W.Ex g s;(have ah:i'<n:=by omega);obtain⟨r,hr,a6⟩:=q4 i' ah;have V:=lt_of_act? hr.act;have a7:=Nat.le_of_not_lt λC=>hr.after i C ag K;have e1:HappensBefore (t++u) r q:=.single (.inr ⟨.marked a6 (.inr (by rw[act?_old V];exact hr.act)) (by rw[act?_old F];exact q1) (λk _ I=>by rw[act?_old (Nat.lt_trans I F)];exact T.norel k),(heard_old V).2 hr.heard,(heard_old F).2 q3⟩);have e2:=po q p _ q5 (by rw[g?_old F];exact q2) (by rw[g?_old H];exact p2);have e3:HappensBefore (t++u) r t.size:=(e1.trans e2).trans O;obtain h1|h1:=Wx i r;exact hK i ((po i r _ h1 U (by rw[g?_old V];exact hr.g)).trans e3);(obtain rfl:i=r:=by omega);exact hK i e3;have a7:=Nat.le_of_not_lt λC=>p4 i C ag K;obtain h1|h1:=Wx i p;exact hK i ((po i p _ h1 U (by rw[g?_old H];exact p2)).trans O);(obtain rfl:i=p:=by omega);exact hK i O
 have D:∀m∈t++u,m.act.low w.heap.size:=mN T.seen (Wv _) λm d=>by subst hu;simp at d;subst d;exact W.sp.2
 obtain⟨v,hv⟩:=T.pre;have ht:=T.tr.still ar λm d e=>absurd ((L m d).symm.trans e) (by omega);have X:Past (λl=>Shun l\/∃b,blk l=some b/\spB Wg ch b) w.heap.size (t++u):=by (have e:t++u=t₀++(v++u):=by rw[hv,XM]);rw[e]at ht back D⊢;exact ht.past hP back (by rw[<-e,N];exact ab) D
 refine⟨⟨g2,σ.K0,σ.M0,hs,?_,Z,λb o=>⟨(W.k0 b o).1,(W.k0 b o).2.1,(W.k0 b o).2.2.1⟩,λb o=>⟨(W.m0 b o).1,(W.m0 b o).2.1,(W.m0 b o).2.2.1⟩,?_⟩,by simpa using an,?_,X,jU T.gb λm d=>by rw[L m d];omega,W.sp,W.os,W.tape,W.output,W.ik,W.old⟩;rw[Xt,Wu rfl,Wu (by omega)];obtain⟨l,h1,h2,h3⟩:=h.v_;refine⟨l,h1,λi=>?_,?_⟩;rw[h2 i,hj];constructor;rintro⟨a,_,c⟩;exact⟨a,c⟩;rintro⟨a,c⟩;exact⟨a,by rw[hQ i (by omega)];omega,c⟩;rw[<-h3];rcases Y with e|e<;>rw[e]<;>rfl;have ak:∀k g,0<k->gs[k]? =some g->∃q,QuitsD P q (Deaf t k) g:=by intro k g I s;obtain h1|⟨h1,h2⟩|⟨i,E,rfl⟩|⟨hc,rfl⟩:=zI h (WC.1 s).1;omega;exact⟨_,Q.lv k g h1 h2 s⟩;obtain⟨g',f,hw⟩:=Q.wk i E;rw[s]at f;cases f;have h0:=hQ i E;rw[T.dw i E];exact MD hw h0;obtain⟨g',f,hw⟩:=Q.cl _ B;rw[s]at f;cases f;rw[T.dc J];exact ME hw rfl
 classical
 refine⟨λk=>if I:∃q,∀g,0<k->gs[k]? =some g->QuitsD P q (Deaf t k) g then I.choose else 0,λk g I s=>?_,λk I=>?_⟩;rw[WK (by omega)]at s;have al:∃q,∀g,0<k->gs[k]? =some g->QuitsD P q (Deaf t k) g:=by obtain⟨q,hq⟩:=ak k g I s;exact⟨q,λg' _ f=>by rw[s]at f;cases f;exact hq⟩
 simp only[Yw al];rw[N];exact al.choose_spec g I s;simp at I;rw[N];exact T.above k (by omega) (λi E=>by omega) λ_=>by omega
def phase(G:gu Wg ch base N0 shun)(r:n<2147483647)(j:∀K M g w,An K M g w->Run P false ty Wg (SW1 P ty Wg ch An) K M g w){Shun C0}(s:Past Shun C0 t₀):∀(m) (gs) (w) (sl) (t) (σ),mu (n:=n) (base:=base) σ=m->GI P ty Wg ch z An HV Fin n base N0 shun F0 t₀ gs w t σ->∃N gs' w' a t',runNT P N (crowd gs w sl) t=(.next (crowd gs' w' a),t')/\S8 P Wg ch z HV Fin n base N0 shun Shun F0 gs' w' t':=by intro m;induction m using(RY P ty Wg).induction with|_ m u=>(rintro gs w sl t σ rfl h;obtain⟨i,g,d,a,v,b,c⟩:=crowd_pick (P:=P) (w:=w) (sl:=sl) (J5 h) (Bj h);rcases PF (sl:=a) G r j (h.S6 G d) v b with⟨gs',w',ops,k,l,x,y⟩|⟨rfl,A⟩);obtain⟨N,e,o,f,p,B,q⟩:=u _ y gs' w' a (t++ops) k rfl x;exact⟨N+1,e,o,f,p,by simp only[runNT,c,l];exact B,q⟩;obtain⟨gs',ops,l,q⟩:=Ha G (h.S6 G d) s A;exact⟨1,gs',w.at d,a,t++ops,by simp only[runNT,c,l],q⟩
end
end Go.Tm

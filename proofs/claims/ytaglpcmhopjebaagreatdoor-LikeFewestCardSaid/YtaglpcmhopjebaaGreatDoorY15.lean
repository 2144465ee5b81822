import Derived.Test.YtaglpcmhopjebaaGreatDoorY14
set_option linter.all false
set_option maxRecDepth 100000
set_option maxHeartbeats 20000000
namespace Go.Tm
open Go.Conc Go.ConcN Go.Conc.Lib
open Go.ConcR (KK WgAt stA smA rd wr mk DC0 Bk)
section
variable {P:Program} {ty:TypeId} {Wg ch:Nat} {z:Value} {An:aK} {HV:Nat->Option Value} {Fin:List Value->aK} {n base N0:Nat} {shun:Nat->Prop} {W₀:World} {t₀ t:Trace} {gs:Array Goroutine} {w w':World} {sl:Option (Nat×Nat)} {σ:GSt P ty Wg}
def rB(a):deafBehind 1 #[rd a]=1:=deafBehind_still (λe b=>by simp at b;subst b;simp[rd]) 1
def M6(a):deafBehind 1 #[wr a]=1:=deafBehind_still (λe b=>by simp at b;subst b;simp[wr]) 1
def Ix(G:fh Wg ch base N0 shun)(h:GI P ty Wg ch z An HV Fin n base N0 shun W₀ t₀ gs w t σ){i}(q:i<σ.j){g}
 (J:gs[base+i]? =some g) (H:(σ.D i).s=3) (f:(σ.D i).d=1) {ρ} (L:σ.R i=((σ.D i).s,ρ)) (u:SD2 P ty Wg (σ.D i).K (σ.D i).M g w):
 dM P ty Wg ch z An HV Fin n base N0 shun W₀ t₀ t gs w sl σ (base+i):=by
 obtain⟨I,u⟩:=u;obtain⟨v,N,l,y⟩:=h.m_.isLast q (by omega);rw[H]at l;have hwg:=h.w_.wg;rw[l,y]at hwg;obtain⟨g',A,m,c⟩:=u hwg;have B:Deaf t (base+i)=0+1:=(h.t_.dw i q).trans f;have o:=mf (Wg:=Wg) (es:=#[rd (stA Wg)]) (.inr (.inl rfl));obtain⟨gs',C,O,Q,S⟩:=h.fR (sl:=sl) (w':=w) (s':=2) (d':=1) (ρ':=(2,m,ρ.2)) (st':=1) (sm':=0) G q J A (.inl (cJ (λ_ _ x=>x.1) c)) (.inl rfl) hwg
  (λe E=>by obtain⟨a,b,T,rfl⟩:=o e E;exact eG T b) (.d3 c) (by rw[L];exact bU (by omega)) (by rw[f];exact rB _)
  (λ_ r I=>ks I B λe E=>by obtain⟨a,b,_,rfl⟩:=o e E;exact⟨a,b,rfl⟩) (λ_=>.inl (by omega))
  (λU F _=>by
   refine Mode.retag (ct:=σ.ct) ?_ F;have:=Mode.last (j:=σ.j) (D:=upd σ.D i ⟨2,1,(σ.D i).K,(σ.D i).M⟩) (mt:=σ.mt) i v q (by rw[upd_same];exact .inr (.inl rfl)) λk V p=>by rw[upd_ne _ _ p];exact N k V p
   rw[upd_same,Ro (by simp)]at this;exact this) (by simp[H]) (by simp)
 exact⟨gs',_,_,C,O,Q,S⟩
def Iy(G:fh Wg ch base N0 shun)(h:GI P ty Wg ch z An HV Fin n base N0 shun W₀ t₀ gs w t σ){i}(q:i<σ.j){g}
 (J:gs[base+i]? =some g) (H:(σ.D i).s=2) (f:(σ.D i).d=1) {ρ} (L:σ.R i=((σ.D i).s,ρ)) (u:SD3 P ty Wg (σ.D i).K (σ.D i).M g w):
 dM P ty Wg ch z An HV Fin n base N0 shun W₀ t₀ t gs w sl σ (base+i):=by
 obtain⟨I,u⟩:=u;obtain⟨v,N,l,y⟩:=h.m_.isLast q (by omega);rw[H]at l;have hwg:=h.w_.wg;rw[l,y]at hwg;obtain⟨g',A,m,c⟩:=u hwg;have B:Deaf t (base+i)=0+1:=(h.t_.dw i q).trans f;have o:=mf (Wg:=Wg) (es:=#[wr (stA Wg)]) (.inr (.inr rfl));obtain⟨gs',C,O,Q,S⟩:=h.fR (sl:=sl) (s':=1) (d':=1) (ρ':=(1,m,ρ.2)) (st':=0) (sm':=0) G q J A (.inl (cJ (λ_ _ x=>x.1) c)) (.inr ⟨_,_,rfl,rfl⟩) (hwg.setSt _)
  (λe E=>by obtain⟨a,b,T,rfl⟩:=o e E;exact eG T b) (.d4 c) (by rw[L];exact bU (by omega)) (by rw[f];exact M6 _)
  (λ_ r I=>ks I B λe E=>by obtain⟨a,b,_,rfl⟩:=o e E;exact⟨a,b,rfl⟩) (λ_=>.inl (by omega))
  (λU F _=>by
   refine Mode.retag (ct:=σ.ct) ?_ F;have:=Mode.last (j:=σ.j) (D:=upd σ.D i ⟨1,1,(σ.D i).K,(σ.D i).M⟩) (mt:=σ.mt) i v q (by rw[upd_same];exact .inr (.inr rfl)) λk V p=>by rw[upd_ne _ _ p];exact N k V p
   rw[upd_same,Rp rfl]at this;exact this) (by simp[H]) (by simp)
 exact⟨gs',_,_,C,O,Q,S⟩
def KJ(e)(b:e∈semEvents (smA Wg)):EvB Wg e:=by
 simp only[semEvents,SS,RX,Se,Sf]at b;obtain rfl|rfl|rfl|rfl:=b
 ·exact ik (m:=.disable) λa=>by simp
 ·exact eG rfl _
 ·exact eG rfl _
 ·exact ik (m:=.enable) λa=>by simp
def CY(a):deafBehind 1 (semEvents a)=1:=rfl
def Iz{k r fn pos}(h:RelBy (stA Wg) t k r)(b:Deaf t k=1):RelBy (stA Wg) (t++MemOp.ofEvents k fn pos (semEvents (smA Wg))) k r:=by
 refine h.appOwn fn pos _ λj e a=>?_;rw[b];unfold semEvents at a⊢
 match j,a with
 |0,a=>simp at a;subst a;exact .inl rfl
 |1,a=>simp at a;subst a;exact .inr ⟨⟨_,_,rfl⟩,TO 1⟩
 |2,a=>simp at a;subst a;exact .inr ⟨⟨_,_,rfl⟩,TO 1⟩
 |3,a=>simp at a;subst a;exact .inl rfl
 |j+4,a=>simp at a
def IA(G:fh Wg ch base N0 shun)(h:GI P ty Wg ch z An HV Fin n base N0 shun W₀ t₀ gs w t σ){i}(c:i<σ.j){g}
 (E:gs[base+i]? =some g) (A:(σ.D i).s=1) (a:(σ.D i).d=1) {ρ} (F:σ.R i=((σ.D i).s,ρ)) (f:SD4 P ty Wg (σ.D i).K (σ.D i).M g w):
 dM P ty Wg ch z An HV Fin n base N0 shun W₀ t₀ t gs w sl σ (base+i):=by
 obtain⟨B,l,f⟩:=f;obtain⟨m,H,b,o⟩:=h.m_.isLast c (by omega);rw[A]at b;have hwg:=h.w_.wg;rw[b,o]at hwg;obtain⟨g',p,q,C⟩:=f hwg;have u:=(h.t_.dw i c).trans a;obtain⟨gs',v,I,J,L⟩:=h.fR (sl:=sl) (s':=0) (d':=1) (ρ':=(0,q,ρ.2)) (st':=0) (sm':=1) G c E p C.status (.inr ⟨_,_,rfl,rfl⟩) (hwg.setSm _)
  KJ (.quit C) (by rw[F];exact bU (by omega)) (by rw[a];exact CY _)
  (λ_ r B=>Iz B u) (λ_=>.inl (by omega))
  (λN x y=>by
   refine .sema ?_ (y l) λk O=>?_
   ·obtain rfl|⟨_,rfl⟩:=x
    ·exact m
    ·trivial
   ·by_cases e:k=i
    ·subst e;rw[upd_same]
    ·rw[upd_ne _ _ e];exact H k O e) (by simp[A]) (by simp)
 exact⟨gs',_,_,v,I,J,L⟩
def CZ(G:fh Wg ch base N0 shun)(h:GI P ty Wg ch z An HV Fin n base N0 shun W₀ t₀ gs w t σ){i}(v:i<σ.j){g q c}
 (C:gs[base+i]? =some g) (a:g.status=.running) (y:(σ.D i).s=0) (E:σ.R i=(0,q,c)) (b:QuitsD P q (σ.D i).d g):
 dM P ty Wg ch z An HV Fin n base N0 shun W₀ t₀ t gs w sl σ (base+i):=by
 cases q with
 |zero=>rw[b.1]at a;cases a
 |succ q=>
  obtain⟨F,_⟩|⟨_,g',es,A,k,B⟩:=b
  ·rw[F]at a;cases a
  obtain⟨gs',l,H,I,J⟩:=h.fR (sl:=sl) (w':=w) (s':=0) (d':=deafBehind (σ.D i).d es) (ρ':=(0,q,c)) (st':=σ.st) (sm':=σ.sm) G v C (k w) B.status (.inl rfl) h.w_.wg
   (λe o=>by
    have f:=A e o;obtain⟨p,K,N⟩:=e;cases p<;>simp[Event.mute]at f;rename_i m;cases m<;>simp at f
    ·exact⟨λx b=>by simp[MemAct.ofEvent,MemAct.touch?]at b,by simp,λ_ _ _=>trivial⟩
    ·exact⟨λx b=>by simp[MemAct.ofEvent,MemAct.touch?]at b,by simp,λ_ _ _=>trivial⟩) (.quit B) (by rw[E];exact qi (by omega)) rfl
   (λ_ r L=>qh L λe o=>touch_mute (A e o)) (λ_=>.inl (by omega)) (λM u _=>(h.m_.same v (.inl y.symm)).retag u) (by simp[y]) (by simp)
  exact⟨gs',w,_,l,H,I,J⟩
def C3(G:fh Wg ch base N0 shun)(I:n<2147483647)(h:GI P ty Wg ch z An HV Fin n base N0 shun W₀ t₀ gs w t σ){i}(o:i<σ.j){g}(p:gs[base+i]? =some g)(y:g.status=.running):
 dM P ty Wg ch z An HV Fin n base N0 shun W₀ t₀ t gs w sl σ (base+i)\/∃v c,HV i=some v/\(σ.D i).s=8/\(σ.D i).d=0/\σ.R i=(8,0,c)/\KD P ty Wg ch z v (σ.D i).K (σ.D i).M g w:=by
 obtain⟨g0,C,F⟩:=h.g_.wk i o;rw[p]at C;cases C;generalize e:σ.D i=D at F;generalize q:σ.R i=R at F;cases F with
 |run E=>
  obtain b|⟨_,g',w',es,x',f,r,A,u,B⟩:=E.py
  ·unfold SWk at b
   cases H:HV i with
   |none=>rw[H]at b;refine .inl (nV G h o p (.inl ⟨by rw[e],H⟩) (by rw[e]) (ρ:=(0,_)) (by rw[e,q]) (by rw[e];exact b))
   |some v=>rw[H]at b;exact .inr ⟨v,_,rfl,rfl,rfl,rfl,b⟩
  ·exact .inl (vZ G h o p f (u.status AD) (.inl (by rw[e])) (by rw[e]) (by rw[e];exact r) (by rw[e];exact A) (ρ':=(8,0,x')) (by rw[e];exact .run u) (by rw[q];exact eP B))
 |blk _ E=>cases y
 |r0 E=>
  refine .inl ?_;obtain b|⟨_,g',w',es,x',f,r,A,u,B⟩:=E.py
  ·exact nV G h o p (.inr (by rw[e])) (by rw[e]) (ρ:=(0,_)) (by rw[e,q]) (by rw[e];exact b)
  ·exact vZ G h o p f (u.status λ_ _ _ _ x=>x.1) (.inr (by rw[e])) (by rw[e]) (by rw[e];exact r) (by rw[e];exact A) (ρ':=(6,0,x')) (by rw[e];exact .r0 u) (by rw[q];exact eP B)
 | @k1 K M g w c m f=>
  refine .inl ?_;have a:SK1 P ty Wg K M g w->dM P ty Wg ch z An HV Fin n base N0 shun W₀ t₀ t gs w sl σ (base+i):=λk=>wh G h o p (by rw[e]) (by rw[e]) (ρ:=(m,c)) (by rw[e,q]) (by rw[e];exact k);cases m with
  |zero=>exact a (f w (.refl w))
  |succ m=>
   obtain k|⟨_,k⟩:=f
   ·exact a (k w (.refl w))
   ·have:=k w (.refl w)
    cases b:stepG P false g w with
    |go g' w' es=>rw[b,goes_go]at this;obtain⟨⟨rfl,rfl⟩,l⟩:=this;exact il G h o p b (.inl (cJ (λ_ _ x=>x.1) l)) (by rw[e];simp) (ρ':=(5,m,c)) (by rw[e];exact .k1 l) (by rw[q];exact qi (by omega))
    |_=>rw[b]at this;exact this.elim
 | @d1 K M g w c m f=>
  refine .inl ?_;have a:SD1 P ty Wg K M g w->dM P ty Wg ch z An HV Fin n base N0 shun W₀ t₀ t gs w sl σ (base+i):=λk=>Fv G I h o p (by rw[e]) (by rw[e]) (ρ:=(m,c)) (by rw[e,q]) (by rw[e];exact k);cases m with
  |zero=>exact a (f w (.refl w))
  |succ m=>
   obtain k|⟨_,k⟩:=f
   ·exact a (k w (.refl w))
   ·have:=k w (.refl w)
    cases b:stepG P false g w with
    |go g' w' es=>rw[b,goes_go]at this;obtain⟨⟨rfl,rfl⟩,l⟩:=this;exact il G h o p b (.inl (cJ (λ_ _ x=>x.1) l)) (by rw[e];simp) (ρ':=(4,m,c)) (by rw[e];exact .d1 l) (by rw[q];exact qi (by omega))
    |_=>rw[b]at this;exact this.elim
 | @d2 K M g w c m f=>
  refine .inl ?_;have a:SD2 P ty Wg K M g w->dM P ty Wg ch z An HV Fin n base N0 shun W₀ t₀ t gs w sl σ (base+i):=λk=>Ix G h o p (by rw[e]) (by rw[e]) (ρ:=(m,c)) (by rw[e,q]) (by rw[e];exact k);cases m with
  |zero=>exact a (f w (.refl w))
  |succ m=>
   obtain k|⟨_,k⟩:=f
   ·exact a (k w (.refl w))
   ·have:=k w (.refl w)
    cases b:stepG P false g w with
    |go g' w' es=>rw[b,goes_go]at this;obtain⟨⟨rfl,rfl⟩,l⟩:=this;exact il G h o p b (.inl (cJ (λ_ _ x=>x.1) l)) (by rw[e];simp) (ρ':=(3,m,c)) (by rw[e];exact .d2 l) (by rw[q];exact qi (by omega))
    |_=>rw[b]at this;exact this.elim
 | @d3 K M g w c m f=>
  refine .inl ?_;have a:SD3 P ty Wg K M g w->dM P ty Wg ch z An HV Fin n base N0 shun W₀ t₀ t gs w sl σ (base+i):=λk=>Iy G h o p (by rw[e]) (by rw[e]) (ρ:=(m,c)) (by rw[e,q]) (by rw[e];exact k);cases m with
  |zero=>exact a (f w (.refl w))
  |succ m=>
   obtain k|⟨_,k⟩:=f
   ·exact a (k w (.refl w))
   ·have:=k w (.refl w)
    cases b:stepG P false g w with
    |go g' w' es=>rw[b,goes_go]at this;obtain⟨⟨rfl,rfl⟩,l⟩:=this;exact il G h o p b (.inl (cJ (λ_ _ x=>x.1) l)) (by rw[e];simp) (ρ':=(2,m,c)) (by rw[e];exact .d3 l) (by rw[q];exact qi (by omega))
    |_=>rw[b]at this;exact this.elim
 | @d4 K M g w c m f=>
  refine .inl ?_;have a:SD4 P ty Wg K M g w->dM P ty Wg ch z An HV Fin n base N0 shun W₀ t₀ t gs w sl σ (base+i):=λk=>IA G h o p (by rw[e]) (by rw[e]) (ρ:=(m,c)) (by rw[e,q]) (by rw[e];exact k);cases m with
  |zero=>exact a (f w (.refl w))
  |succ m=>
   obtain k|⟨_,k⟩:=f
   ·exact a (k w (.refl w))
   ·have:=k w (.refl w)
    cases b:stepG P false g w with
    |go g' w' es=>rw[b,goes_go]at this;obtain⟨⟨rfl,rfl⟩,l⟩:=this;exact il G h o p b (.inl (cJ (λ_ _ x=>x.1) l)) (by rw[e];simp) (ρ':=(1,m,c)) (by rw[e];exact .d4 l) (by rw[q];exact qi (by omega))
    |_=>rw[b]at this;exact this.elim
 |quit J=>exact .inl (CZ G h o p y (by rw[e]) q (by rw[e];exact J))
def C4(Wg:Nat)(e:Event):Prop:=e=mk (.read (smA Wg))
def yZ{e}(h:C4 Wg e){x}(a:(MemAct.ofEvent e).touch?=some x):blk x.loc=some Wg/\x.kind=.said/\x.write=false:=by unfold C4 at h;subst h;simp[Go.ConcR.mk,MemAct.ofEvent,MemAct.touch?]at a;subst a;exact⟨rfl,rfl,rfl⟩
theorem C5{own low:Nat->Nat}{K M:Nat->Prop}
 (o:∀b,K b->b<w.heap.size/\¬spB Wg ch b/\¬shun b/\own b=0) (p:∀b,M b->∀k,low k<=b) (c:∀k,low k<=w.heap.size) (d:∀b,w.heap.size<=b->own b=0) (q:0<base)
 (r:Wg<w.heap.size/\ch<w.heap.size) (f:∀b,shun b->b<w.heap.size) {es} (s:∀e∈es,EvK Wg (orK K w w') (orK M w w') e\/EvB Wg e\/(C4 Wg e/\low (base+n)=0)) (fn) (pos):
 ∀m∈MemOp.ofEvents 0 fn pos es,∀x,m.act.touch?=some x->Okx shun (spB Wg ch) (base+n) own low 0 x:=by
 intro m g x i;obtain⟨e,j,rfl⟩:=Go.Conc.mem_ofEvents g;refine⟨.inl rfl,?_⟩;obtain h|h|⟨h,u⟩:=s e j
 ·obtain⟨b,l,h⟩:=h.1 x i
  refine⟨b,l,?_⟩;obtain⟨a,h2,h3⟩|⟨rfl,h2⟩:=h
  ·obtain h2|h2:=h2
   ·obtain⟨k1,v,y,A⟩:=o b h2
    refine .inr (.inl ⟨A,v,y,a,.inl ⟨rfl,λB=>?_⟩⟩);obtain h3|h3:=h3 B
    ·exact p b h3
    ·exact absurd h3.1 (by omega)
   ·refine .inr (.inl ⟨d b h2.1,λe=>?_,λe=>absurd (f b e) (SK.2 h2.1),a,.inl ⟨rfl,λ_ k=>Rr (c k) h2.1⟩⟩)
    have:=h2.1;rcases e with e|e<;>omega
  ·exact .inr (.inr ⟨.inl rfl,.inl h2⟩)
 ·obtain⟨a,h2⟩:=h.1 x i
  exact⟨Wg,a,.inr (.inr ⟨.inl rfl,.inl h2⟩)⟩
 ·obtain⟨a,h2,h3⟩:=yZ h i
  exact⟨Wg,a,.inr (.inr ⟨.inl rfl,.inr ⟨h2,.inl ⟨rfl,h3,u⟩⟩⟩)⟩
def sX{a}(b:a.R=σ.R)(h:Rk.lt P ty Wg a.r0 σ.r0):CX P ty Wg (mu (n:=n) (base:=base) a) (mu (n:=n) (base:=base) σ):=by unfold mu;rw[b];exact Prod.Lex.right _ (Prod.Lex.left _ _ h)
def GI.uN(G:fh Wg ch base N0 shun)(h:GI P ty Wg ch z An HV Fin n base N0 shun W₀ t₀ gs w t σ){g g' es mt' K' M' ρ' d' st' sm'}
 (hg:gs[0]? =some g) (a8:stepG P true g w=.go g' w' es) (Z:g'.status=.running)
 (aa:w'.os=w.os/\w'.tape=w.tape/\w'.output=w.output) (f:w.heap.size<=w'.heap.size)
 (A:∀b,b<w.heap.size->b≠Wg->¬σ.M0 b->w'.heap[b]? =w.heap[b]?) (hwg:WgAt ty Wg w' st' sm')
 (U:∀e∈es,EvK Wg (orK σ.K0 w w') (orK σ.M0 w w') e\/EvB Wg e\/(C4 Wg e/\σ.ct=none))
 (hK:∀b,K' b->orK σ.K0 w w' b) (hM:∀b,M' b->orK σ.M0 w w' b)
 (hS:fg P ty Wg ch z An HV Fin n mt' σ.j d' K' M' ρ' g' w') (ba:Rk.lt P ty Wg ρ' σ.r0) (hd:deafBehind σ.d0 es=d')
 (ab:∀m,(m=σ.ct\/(σ.ct=some .blk/\m=some .w3))->Mode σ.j σ.D mt' m st' sm')
 (al:mt'.got=σ.mt.got) (bb:((∃r st,mt'=.sp r st)\/mt'=.gc)↔((∃r st,σ.mt=.sp r st)\/σ.mt=.gc)) (an:∀r H,mt'≠ .rb r H/\mt'≠ .rw r H):
 ∃gs' V,runT P (crowd gs w sl) 0=(.next (crowd gs' w' sl),MemOp.ofEvents 0 g.frame.fn g.frame.place es)/\GI P ty Wg ch z An HV Fin n base N0 shun W₀ t₀ gs' w' (t++MemOp.ofEvents 0 g.frame.fn g.frame.place es) V/\CX P ty Wg (mu (n:=n) (base:=base) V) (mu (n:=n) (base:=base) σ):=by
 have hb:=G.kR;have W:=h.w_;have T:=h.t_;have Q:=h.g_;have ao:=(Rx.1 hg).1;have ad:=runT_crowd_go (P:=P) (sl:=sl) (i:=0) hg (by simpa using a8);have o:∀X∈MemOp.ofEvents 0 g.frame.fn g.frame.place es,X.g=0:=λX L=>by obtain⟨e,_,rfl⟩:=Go.Conc.mem_ofEvents L;rfl
 have E:=A ch W.sp.2 (RN G.ne_) λe=>(W.m0 ch e).2.1 (.inr rfl);have af:WgLive ty Wg w':=⟨_,_,hwg⟩
 have Y:∀K:Nat->Prop,(∀b,K b->b<w.heap.size/\b≠Wg/\¬σ.M0 b)->RK ty Wg K w w':=λK ag=>⟨λb d=>A b (ag b d).1 (ag b d).2.1 (ag b d).2.2,λ_=>af,f⟩
 have F:∀b,shun b->b<w.heap.size:=λb d=>Ru (G.KG b d) W.fP;have B:∀b,w.heap.size<=b->σ.own b=0:=λb d=>SQ λe=>by have:=(W.owns b e).2.2.1;omega
 have M:∀b,w.heap.size<=b->¬spB Wg ch b:=λb d e=>by have:=W.sp;rcases e with e|e<;>omega
 obtain⟨m,N,I,bd⟩:∃m N,(m=σ.ct\/(σ.ct=some .blk/\m=some .w3))/\
  ∀c,m=some c->∃gc,((gs.map (woken P g g' w')).setIfInBounds 0 g')[base+n]? =some gc/\CSit P ty Wg ch An (VW σ.j σ.D) c σ.dc σ.Kc σ.Mc N gc w':=by
  cases v:σ.ct with
  |none=>exact⟨none,σ.rc,.inl rfl,λc e=>by cases e⟩
  |some c=>
   obtain⟨gc,bk,bm⟩:=Q.cl c v;have bo:σ.ct≠none:=by rw[v];simp
   have hr:=Y _ λb d=>by obtain⟨a1,J,O,y⟩:=W.kc bo b d;refine⟨a1,λe=>J (.inl e),λe=>?_⟩;obtain⟨_,_,_,m4,m5⟩:=W.m0 b e;have:=m5 (base+n);rcases y with y|y<;>omega
   obtain⟨c',br,h1,R,_⟩:=(bm.rely hr).woken g g' w' (.inl Z);refine⟨some c',br,?_,λc2 e=>?_⟩
   ·obtain rfl|⟨rfl,rfl⟩:=R
    ·exact .inl rfl
    ·exact .inr ⟨rfl,rfl⟩
   ·cases e
    refine⟨_,?_,h1⟩;rw[bK _ _ _ _ _ (by omega),bk];rfl
 have p:m=none↔σ.ct=none:=by
  obtain rfl|⟨a,rfl⟩:=I
  ·rfl
  ·simp[a]
 have ar:m=some .quit↔σ.ct=some .quit:=by
  obtain rfl|⟨a,rfl⟩:=I
  ·rfl
  ·simp[a]
 have ax:m=some .cl↔σ.ct=some .cl:=by
  obtain rfl|⟨a,rfl⟩:=I
  ·rfl
  ·simp[a]
 have bs:eF m=eF σ.ct:=by
  obtain rfl|⟨a,rfl⟩:=I
  ·rfl
  ·rw[a];rfl
 have ay:∀e∈es,EvK Wg (orK σ.K0 w w') (orK σ.M0 w w') e\/EvB Wg e\/(C4 Wg e/\σ.low (base+n)=0):=λe he=>(U e he).imp id (.imp id λ⟨a,b⟩=>⟨a,SQ λx=>absurd b (W.CW.1 x)⟩);have bx:∀X∈MemOp.ofEvents 0 g.frame.fn g.frame.place es,X.act≠ .mark (.release (stA Wg)):=norel_of λe he=>by
  obtain h1|h1|⟨h1,_⟩:=U e he
  ·exact h1.2.2.2.1 _
  ·exact h1.2.1 _
  ·unfold C4 at h1;subst h1;simp[Go.ConcR.mk]
 have bA:∀X∈MemOp.ofEvents 0 g.frame.fn g.frame.place es,∀x,X.act.touch?=some x->∀b,blk x.loc=some b->b<w'.heap.size:=by
  intro X L x hx b d;obtain⟨e,bB,rfl⟩:=Go.Conc.mem_ofEvents L;obtain h1|h1|⟨h1,_⟩:=U e bB
  ·obtain⟨b2,aM,h1⟩:=h1.1 x hx
   rw[d]at aM;cases aM;obtain⟨_,R|R,_⟩|⟨rfl,_⟩:=h1
   ·exact Ru (W.k0 b R).1 f
   ·exact R.2
   ·exact Ru W.sp.1 f
  ·have:=(h1.1 x hx).1
   rw[d]at this;cases this;exact Ru W.sp.1 f
  ·have:=(yZ h1 hx).1
   rw[d]at this;cases this;exact Ru W.sp.1 f
 have bC:∀e∈es,(MemAct.ofEvent e).touch?=none->(MemAct.ofEvent e).low w'.heap.size:=by
  intro e he hn;obtain h1|h1|⟨h1,_⟩:=U e he
  ·exact h1.2.2.2.2 _ hn
  ·exact h1.2.2 _ (Ru W.sp.1 f) hn
  ·unfold C4 at h1;subst h1;simp[Go.ConcR.mk,MemAct.ofEvent,MemAct.touch?]at hn
 have S:∀C r,C<n->RelBy (stA Wg) t (base+C) r->RelBy (stA Wg) (t++MemOp.ofEvents 0 g.frame.fn g.frame.place es) (base+C) r:=λC r _ hr=>dL hr o (by omega);let V:GSt P ty Wg:={σ with mt:=mt',K0:=K',M0:=M',r0:=ρ',d0:=d',ct:=m,rc:=N,st:=st',sm:=sm'}
 refine⟨_,V,ad,⟨?_,?_,?_,ab m I,?_⟩,sX rfl ba⟩
 ·refine⟨aa.1.trans W.os,aa.2.1.trans W.tape,aa.2.2.trans W.output,Rr W.fP f,λb d=>?_,?_,hwg,⟨Ru W.sp.1 f,Ru W.sp.2 f⟩,?_,W.mw,?_,?_,?_,λv=>W.mc λe=>v (p.2 e),?_,W.CU,W.CW.trans (not_congr p.symm),W.Az,λk=>Rr (W.AA k) f⟩
  ·rw[A b (Ru d W.fP) (by have:=G.wg_;omega) (λe=>by have:=(W.m0 b e).2.2.1;omega)]
   exact W.old b d
  ·obtain⟨s,H⟩:=W.chn
   exact⟨s,by rw[E,H];show _=some (Obj.chan 0 #[] (eF m) s s false);rw[bs]⟩
  ·intro C q b d
   obtain⟨a1,J,O,y⟩:=W.kw C q b d;exact⟨Ru a1 f,J,O,y⟩
  ·intro b d
   obtain h1|h1:=hK b d
   ·obtain⟨a1,J,O,y⟩:=W.k0 b h1
    exact⟨Ru a1 f,J,O,y⟩
   ·exact⟨h1.2,M b h1.1,λe=>absurd (F b e) (SK.2 h1.1),B b h1.1⟩
  ·intro b d
   obtain h1|h1:=hM b d
   ·obtain⟨a1,J,O,y,a5⟩:=W.m0 b h1
    exact⟨Ru a1 f,J,O,y,a5⟩
   ·exact⟨h1.2,M b h1.1,Rr W.fP h1.1,B b h1.1,λk=>Rr (W.AA k) h1.1⟩
  ·intro v b d
   obtain⟨a1,J,O,y⟩:=W.kc (λe=>v (p.2 e)) b d;exact⟨Ru a1 f,J,O,y⟩
  ·intro b d
   obtain⟨a1,J,O,y⟩:=W.owns b d;exact⟨a1,J,Ru O f,y⟩
 ·refine⟨?_,?_,kQ T.seen f (vX bA bC),iV T.gb λX L=>by rw[o X L];omega,T.norel.app bx,?_,λC q=>(Deaf_other t (by omega) _ o).trans (T.dw C q),λv=>(Deaf_other t (by omega) _ o).trans (T.dc λe=>v (p.2 e)),?_,?_,?_,?_⟩
  ·obtain⟨u,rfl⟩:=T.pre
   exact⟨_,SP ..⟩
  ·exact T.tr.app o (λe=>by omega) (C5 W.k0 (λb d=>(W.m0 b d).2.2.2.2) W.AA B hb W.sp F ay _ _)
  ·rw[Deaf_own,T.d0];exact hd
  ·intro k hk h1 R
   exact(Deaf_other t (g:=k) (g':=0) (by omega) _ o).trans (T.above k hk h1 λe=>R λe'=>e (p.1 e'))
  ·intro C q H
   obtain⟨r,hr⟩:=T.rel C q H;exact⟨r,dL hr o (by omega)⟩
  ·exactλv=>kq (T.acq (ax.1 v)) S
  ·exactλv=>kr (T.cls (ar.1 v)) S (iM o (by omega))
 ·have ak:σ.ct≠some .quit->∃s r tm,w'.heap[ch]? =some (.chan 0 #[] false s r tm):=by intro v;obtain⟨s,H⟩:=W.chn;rw[fj v]at H;exact⟨s,s,false,E.trans H⟩
  refine⟨?_,Q.jn,λv=>Q.cn λe=>v (p.2 e),⟨g',eV _ _ _ _ ao,hS⟩,p.trans (Q.mc.trans bb.symm),?_,Q.unb,bd,?_,?_,?_⟩
  ·have:(if m.isSome then 1 else 0)=(if σ.ct.isSome then 1 else 0):=by
    obtain rfl|⟨a,rfl⟩:=I
    ·rfl
    ·rw[a];rfl
   simp only[R3,TX];rw[this];exact Q.size
  ·intro C q
   obtain⟨gw,b0,a6⟩:=Q.wk C q;refine⟨woken P g g' w' gw,by rw[bK _ _ _ _ _ (by omega),b0];rfl,?_⟩;have hr:=Y _ λb d=>by obtain⟨a1,J,O,y⟩:=W.kw C q b d;refine⟨a1,λe=>J (.inl e),λe=>?_⟩;obtain⟨_,_,_,m4,m5⟩:=W.m0 b e;have:=m5 (base+C);rcases y with y|y<;>omega
   have e':=a6.woken g g' w' λa7=>ak λv=>by rw[h.m_.vW (by rw[v];trivial) C q]at a7;cases a7
   rw[e'];exact a6.rely hr
  ·intro k gk h1 R hk
   rw[bK _ _ _ _ _ (by omega)]at hk;obtain⟨b1,b3,rfl⟩:=R4.1 hk;have hq:=Q.lv k b1 h1 R b3;rw[woken_quitsD hq,Deaf_other t (by omega) _ o];exact hq
  ·rintro⟨r,H,e⟩
   exact absurd e (an r H).1
  ·intro r H e
   exact absurd e (an r H).2
 ·obtain⟨l,h1,R,h3⟩:=h.v_
  exact⟨l,h1,R,al.trans h3⟩
end
def Mode.y5{j D mt ct st sm}(h:Mode j D mt ct st sm)(d:CTag.opn ct):tU j D/\(∀e,ct=some (.w2 e)->VW j D<=e/\1<=e)/\st=((VW j D+mt.pend:Nat):Int)*KK/\sm=0:=by
 have no:∀{ct:Option CTag},CTag.opn ct->(CTag.reg ct->False)/\(CTag.fin ct->False):=by
  intro ct h;cases ct with
  |none=>exact⟨id,id⟩
  |some c=>cases c<;>first|exact h.elim|exact⟨id,id⟩
 cases h with
 |opn a b c=>exact⟨b,c,rfl,rfl⟩
 |reg a=>exact((no d).1 a).elim
 |last _ a=>exact((no d).1 a).elim
 |sema a=>exact((no d).1 a).elim
 |fin a=>exact((no d).2 a).elim
def Mode.sY{j D mt mt' ct st sm}(h:Mode j D mt ct st sm)(e:mt'.pend=mt.pend):Mode j D mt' ct st sm:=by
 cases h with
 |opn a b c=>rw[<-e];exact .opn a b c
 |reg a b c=>exact .reg a b c
 |last L a b c d=>exact .last L a b c d
 |sema a b c=>exact .sema a b c
 |fin a b=>exact .fin a b
section
variable {P:Program} {ty:TypeId} {Wg ch:Nat} {z:Value} {An:aK} {HV:Nat->Option Value} {Fin:List Value->aK} {n base N0:Nat} {shun:Nat->Prop} {W₀:World} {t₀ t:Trace} {gs:Array Goroutine} {w w':World} {sl:Option (Nat×Nat)} {σ:GSt P ty Wg}
def fo(G:fh Wg ch base N0 shun)(h:GI P ty Wg ch z An HV Fin n base N0 shun W₀ t₀ gs w t σ){g g' es ρ'}
 (s:gs[0]? =some g) (k:stepG P true g w=.go g' w' es) (f:g'.status=.running) (l:∀r q,σ.mt≠ .rb r q/\σ.mt≠ .rw r q)
 (d:Eff σ.M0 w w') (i:∀e∈es,EvK Wg (orK σ.K0 w w') (orK σ.M0 w w') e)
 (u:fg P ty Wg ch z An HV Fin n σ.mt σ.j σ.d0 (orK σ.K0 w w') (orK σ.M0 w w') ρ' g' w') (m:Rk.lt P ty Wg ρ' σ.r0):
 dM P ty Wg ch z An HV Fin n base N0 shun W₀ t₀ t gs w sl σ 0:=by
 have W:=h.w_;obtain⟨gs',o,v,y,A⟩:=h.uN (sl:=sl) (mt':=σ.mt) (st':=σ.st) (sm':=σ.sm) G s k f ⟨d.os,d.tape,d.output⟩ d.size (λb a _ c=>d.keep b a c)
  (W.wg.of_block (d.keep Wg W.sp.1 λe=>(W.m0 Wg e).2.1 (.inl rfl))) (λe B=>.inl (i e B)) (λ_ x=>x) (λ_ x=>x) u m (vY i _) (λC p=>h.m_.retag p) rfl Ty l
 exact⟨gs',w',_,o,v,y,A⟩
def ku(G:fh Wg ch base N0 shun)(h:GI P ty Wg ch z An HV Fin n base N0 shun W₀ t₀ gs w t σ){g g' es mt' ρ' d' st' sm'}
 (y:gs[0]? =some g) (m:stepG P true g w=.go g' w' es) (c:g'.status=.running)
 (A:w'=w\/∃a v,a.block=Wg/\w'=w.setCell a v) (hwg:WgAt ty Wg w' st' sm')
 (o:∀e∈es,EvB Wg e\/(C4 Wg e/\σ.ct=none))
 (B:fg P ty Wg ch z An HV Fin n mt' σ.j d' σ.K0 σ.M0 ρ' g' w') (p:Rk.lt P ty Wg ρ' σ.r0) (C:deafBehind σ.d0 es=d')
 (d:∀f,(f=σ.ct\/(σ.ct=some .blk/\f=some .w3))->Mode σ.j σ.D mt' f st' sm')
 (i:mt'.got=σ.mt.got) (q:((∃r st,mt'=.sp r st)\/mt'=.gc)↔((∃r st,σ.mt=.sp r st)\/σ.mt=.gc)) (s:∀r x,mt'≠ .rb r x/\mt'≠ .rw r x):
 dM P ty Wg ch z An HV Fin n base N0 shun W₀ t₀ t gs w sl σ 0:=by
 have k:w'.os=w.os/\w'.tape=w.tape/\w'.output=w.output/\w'.heap.size=w.heap.size/\∀b,b≠Wg->w'.heap[b]? =w.heap[b]? :=by
  obtain rfl|⟨a,v,E,rfl⟩:=A
  ·exact⟨rfl,rfl,rfl,rfl,λ_ _=>rfl⟩
  ·exact lH a v E
 obtain⟨gs',u,F,H,I⟩:=h.uN (sl:=sl) G y m c ⟨k.1,k.2.1,k.2.2.1⟩ (Tk k.2.2.2.1.symm) (λb _ l _=>k.2.2.2.2 b l) hwg (λe J=>.inr (o e J)) (λb l=>.inl l) (λb l=>.inl l) B p C d i q s;exact⟨gs',w',_,u,F,H,I⟩
def wj{r st c st'}:((∃a b,(ns.sp r st)=.sp a b)\/ns.sp r st=.gc)↔((∃a b,(ns.sp c st')=.sp a b)\/ns.sp c st'=.gc):=⟨λ_=>.inl ⟨_,_,rfl⟩,λ_=>.inl ⟨_,_,rfl⟩⟩
def AE(G:fh Wg ch base N0 shun)(hn:n<2147483647)(h:GI P ty Wg ch z An HV Fin n base N0 shun W₀ t₀ gs w t σ){g:Goroutine}(A:gs[0]? =some g)(L:g.status=.running):
 dM P ty Wg ch z An HV Fin n base N0 shun W₀ t₀ t gs w sl σ 0\/
 (∃r c,r<n/\σ.mt=.sp r 1/\σ.j=n-(r+1)/\σ.d0=0/\σ.r0=(100+10*r+1,0,c)/\SGo P ty Wg ch z HV n r (SSp P ty Wg ch z An HV Fin n r) σ.K0 σ.M0 g w)\/
 (∃c,σ.mt=.gc/\σ.j=n/\σ.d0=0/\σ.r0=(90,0,c)/\Iv P ty Wg ch z An HV Fin n σ.K0 σ.M0 g w)\/
 (∃r N c X,r+N.length=n/\(σ.mt=.rc r N/\g=X/\σ.r0=(20,0,c)\/σ.mt=.rw r N/\g={parked {X with offers:=none} #[rcase ch z] (.recv true)with status:=.running}/\σ.r0=(18,0,c))/\σ.j=n/\σ.d0=0/\∀H,RK ty Wg σ.K0 w H->nU P ty Wg ch z HV Fin n r N σ.K0 σ.M0 X H):=by
 obtain⟨g0,O,Z⟩:=h.g_.mn;rw[A]at O;cases O;have W:=h.w_;have Q:=h.g_;obtain⟨j,D,R,mt,K0,M0,r0,d0,ct,Kc,Mc,rc,dc,q,own,low,st,sm⟩:=σ;simp only at Z W Q;have I:((∃r st,mt=.sp r st)\/mt=.gc)->ct=none:=Q.mc.2;have S:∀o:Option CTag,ct=none->(o=ct\/(ct=some .blk/\o=some .w3))->o=none:=by
  intro o h0 hc;obtain rfl|⟨a,_⟩:=hc
  ·exact h0
  ·rw[h0]at a;cases a
 cases Z with
 |kd m B=>
  refine .inl ?_;obtain k|⟨_,g',w',es,x',d,f,l,i,p⟩:=B.py
  ·obtain⟨_,g',d,s⟩:=k
   obtain⟨x,v⟩:=cN.of s;exact ku (mt':=.sp _ 4) G h A d (v.status λ_ _ _ _ y=>y.1) (.inl rfl) W.wg (λe C=>by simp at C;subst C;exact .inl (ik λa=>by simp)) (.a1 m v) (bU (by omega)) rfl
    (λo u=>(h.m_.retag u).sY rfl) rfl wj (λ_ _=>by simp)
  ·exact fo G h A d (i.status λ_ _ _ _ y=>y.1) (λ_ _=>by simp) f l (.kd m i) (eP p)
 | @a1 K M g w c r m B=>
  refine .inl ?_;obtain k|⟨_,g',w',es,x',d,f,l,i,p⟩:=B.py
  ·obtain⟨_,k⟩:=k
   have T:=I (.inl ⟨_,_,rfl⟩);obtain⟨hO,_,J,U⟩:=h.m_.y5 (by show CTag.opn ct;rw[T];trivial);have hV:=KH (n-(r+1)) D;have hwg:=W.wg;simp only at J U hwg hO;rw[J,U]at hwg;have hwg:WgAt ty Wg w (((VW (n-(r+1)) D:Nat):Int)*KK) 0:=by simpa[ns.pend]using hwg
   obtain⟨g',d,hnx⟩:=k (VW (n-(r+1)) D) (by omega) hwg;have l:=mf (Wg:=Wg) (.inl rfl);have E:∀F:Nat,F<=3->∀o,(o=ct\/(ct=some .blk/\o=some .w3))->Mode (n-(r+1)) D (.sp r F) o ((((VW (n-(r+1)) D:Nat):Int)+1)*KK) 0:=by intro F h2 o u;rw[S o T u];have:=Mode.opn (j:=n-(r+1)) (D:=D) (mt:=.sp r F) (ct:=none) trivial hO (λvs e=>by cases e);simpa[ns.pend,h2]using this
   obtain hnx|hnx:=hnx
   ·obtain⟨x,v⟩:=cN.of hnx
    exact ku (mt':=.sp r 3) G h A d (v.status λ_ _ _ _ y=>y.1) (.inr ⟨_,_,rfl,rfl⟩) (hwg.setSt _) (λe C=>by obtain⟨a,b,Y,rfl⟩:=l e C;exact .inl (eG Y b)) (.sr m v) (bU (by omega)) (jZ _ _)
     (E 3 (by omega)) rfl wj (λ_ _=>by simp)
   ·obtain⟨x,v⟩:=cN.of hnx
    exact ku (mt':=.sp r 2) G h A d (v.status λ_ _ _ _ y=>y.1) (.inr ⟨_,_,rfl,rfl⟩) (hwg.setSt _) (λe C=>by obtain⟨a,b,Y,rfl⟩:=l e C;exact .inl (eG Y b)) (.ke m v) (bU (by omega)) (jZ _ _)
     (E 2 (by omega)) rfl wj (λ_ _=>by simp)
  ·exact fo G h A d (i.status λ_ _ _ _ y=>y.1) (λ_ _=>by simp) f l (.a1 m i) (eP p)
 |sr m B=>
  refine .inl ?_;obtain k|⟨_,g',w',es,x',d,f,l,i,p⟩:=B.py
  ·obtain⟨_,g',d,s⟩:=k
   obtain⟨x,v⟩:=cN.of s;exact ku (mt':=.sp _ 2) G h A d (v.status λ_ _ _ _ y=>y.1) (.inl rfl) W.wg (λe C=>by simp at C;subst C;exact .inr ⟨rfl,I (.inl ⟨_,_,rfl⟩)⟩) (.ke m v) (bU (by omega)) rfl
    (λo u=>(h.m_.retag u).sY rfl) rfl wj (λ_ _=>by simp)
  ·exact fo G h A d (i.status λ_ _ _ _ y=>y.1) (λ_ _=>by simp) f l (.sr m i) (eP p)
 |ke m B=>
  refine .inl ?_;obtain k|⟨_,g',w',es,x',d,f,l,i,p⟩:=B.py
  ·obtain⟨_,g',d,s⟩:=k
   obtain⟨x,v⟩:=cN.of s;exact ku (mt':=.sp _ 1) G h A d (v.status λ_ _ _ _ y=>y.1) (.inl rfl) W.wg (λe C=>by simp at C;subst C;exact .inl (ik λa=>by simp)) (.go m v) (bU (by omega)) rfl
    (λo u=>(h.m_.retag u).sY rfl) rfl wj (λ_ _=>by simp)
  ·exact fo G h A d (i.status λ_ _ _ _ y=>y.1) (λ_ _=>by simp) f l (.ke m i) (eP p)
 |go m B=>
  obtain k|⟨_,g',w',es,x',d,f,l,i,p⟩:=B.py
  ·exact .inr (.inl ⟨_,_,m,rfl,rfl,rfl,rfl,k⟩)
  ·exact .inl (fo G h A d (i.status λ_ _ _ _ y=>y.1) (λ_ _=>by simp) f l (.go m i) (eP p))
 |gc B=>
  obtain k|⟨_,g',w',es,x',d,f,l,i,p⟩:=B.py
  ·exact .inr (.inr (.inl ⟨_,rfl,rfl,rfl,rfl,k⟩))
  ·exact .inl (fo G h A d (i.status λ_ _ _ _ y=>y.1) (λ_ _=>by simp) f l (.gc i) (eP p))
 |rc V B=>
  obtain k|⟨_,g',w',es,x',d,f,l,i,p⟩:=B.lG
  ·exact .inr (.inr (.inr ⟨_,_,_,g,V,.inl ⟨rfl,rfl,rfl⟩,rfl,rfl,k⟩))
  ·exact .inl (fo G h A d (i.status (yX _ _)) (λ_ _=>by simp) f l (.rc V i) (eP p))
 |rb=>cases L
 | @rw K M g w c r N V k=>exact .inr (.inr (.inr ⟨_,_,c,g,V,.inr ⟨rfl,rfl,rfl⟩,rfl,rfl,k⟩))
end
end Go.Tm

import Derived.Conc.CrowdBase
import Derived.Conc.CrowdComm
import Derived.Test.YtaglpcmhopjebaaGreatDoorY3
set_option linter.all false
set_option maxRecDepth 100000
set_option maxHeartbeats 20000000
namespace Go.Tm
open Go.Conc Go.ConcN
section
variable {S:Kn} {P:Program} {fs:Array Func}
def FF(c:Tab S P fs)(b:∀f,S.stop f=false){π:Ren P.globals.size}{f:FuncId}(d:S.ent f=true){a A}(e:VsR π a A):bj S π (Frame.enter (ah P fs) f a .normal) (Frame.enter P f A .normal):=by rcases uj (π:=π) c f (.inr d) (λx=>by rw[b f]at x;cases x) e (cs:=[aG]) (by simp)with h|⟨_,g,a1,A1,h1,_⟩;exact h;rw[b g]at h1;cases h1
def yB{P f a w}:(⟨Frame.enter P f a .normal,[],w⟩:Gh).Flat:=by intro b c;simp[rb,Frame.enter]at c;exact c.symm▸rfl
def pA(d:Tab S P fs)(c:∀f,S.stop f=false){Pr Post π}{f:FuncId}(h:S.ent f=true){a A}(i:VsR π a A){w W}(j:bt S Pr π w W)(k:∀g,S.dF g=true->π g g) (l:∀b,b.heap=w.heap->Calls (ah P fs) f a b λe w'=>∃v,e=.returned v/\Post v w'):Cp S P fs Pr Post π ⟨Frame.enter (ah P fs) f a .normal,[],au w (λ_ _=>0) 0⟩ (Frame.enter P f A .normal) [] W:=
 ⟨FF d c h i,.nil,j.heap rfl rfl,yB,EX (λ_ _=>mS) λτ _ _=>l _ rfl,k⟩
def pB{G B a}(h:∀x∈a,aw (idR G B) x x):VsR (idR G B) a a:=aY.refl h
def IC(k:Tab S P fs)(a:∀f,S.stop f=false){f:FuncId}(t:S.ent f=true){args B W}(d:∀b,B b->∃c e F,W.heap[b]? =some (.cells c e F))(u:P.globals.size<=W.heap.size)(l:∀g,S.dF g=true->B g) (y:∀x∈args,aw (idR P.globals.size B) x x) {Post} (A:∀w,w.heap=(dg (idR P.globals.size B) B W).heap->Calls (ah P fs) f args w λe w'=>∃v,e=.returned v/\Post v w') (C:∀w,w.heap=(dg (idR P.globals.size B) (λ_=>False) W).heap->Calls (ah P fs) f args w λe w'=>∃v,e=.returned v/\∀b,b<w.heap.size->w'.heap[b]? =w.heap[b]?):∃D E,iV S P fs (idR P.globals.size B) W (dg (idR P.globals.size B) (λ_=>False) W) Post (idR P.globals.size B) (idR P.globals.size B) D E (Frame.enter P f args .normal) [] W:=by (have i:∀(Pr:Nat->Prop) b,B b->∃o,W.heap[b]? =some o/\((∃c e f,o=.cells c e f)\/(¬Pr b/\(∀c e f,o≠ .cells c e f)/\fV S (idR P.globals.size B) o o)):=λPr b j=>by obtain⟨c,e,F,h⟩:=d b j;exact⟨_,h,.inl ⟨c,e,F,rfl⟩⟩);(have e:(λR=>∃r,(idR P.globals.size B) r R)=B:=funext λR=>propext ⟨λ⟨r,n,p⟩=>n▸p,λh=>⟨R,rfl,h⟩⟩;have q:bt S (λR=>∃r,(idR P.globals.size B) r R) (idR P.globals.size B) (dg (idR P.globals.size B) B W) W:=by rw[e];exact kT (i B) (λ_ h=>h) u (d 0 (l 0 k.xT)));have s:=kT (S:=S) (Pr:=λ_=>False) (i λ_=>False) (λ_ h=>h.elim) u (d 0 (l 0 k.xT));refine⟨_,_,⟨pA k a t (pB y) q (λg h=>⟨rfl,l g h⟩) A,pA k a t (pB y) s (λg h=>⟨rfl,l g h⟩) λw h=>(C w h).mono ?_,Ren.le_refl _,Ren.le_refl _,?_,λ_ _ _=>rfl,λR=>WC⟩⟩;rintro I w' ⟨v,n,p⟩;(refine⟨v,n,λr R G=>?_⟩;obtain⟨rfl,j⟩:=G;obtain⟨c,z,F,m⟩:=d r j;have H:r<w.heap.size:=by rw[h,lE];exact(UO.1 m).1);rw[p r H,h];rintro r R ⟨rfl,j⟩;obtain⟨c,z,F,m⟩:=d r j;refine⟨c.map (mask (idR P.globals.size B)),c,z,F,?_,m⟩;rw[gi,m];simp[kI]
def Qr(p:Tab S P fs)(a:∀f,S.stop f=false)(i:∀g,S.calm g){f:FuncId}(D:S.ent f=true){args K W ty Wg mn}(E:P.globals.size<=W.heap.size) (G:∀g,S.dF g=true->K g/\∃c e F,W.heap[g]? =some (.cells c e F)) (q:∀b,K b->b<W.heap.size) (s:Wg<W.heap.size) (j:WgLive ty Wg W) (H:∀x∈args,aw (idR P.globals.size λb=>K b/\∃c e F,W.heap[b]? =some (.cells c e F)) x x) {V} (I:∀(π:Ren P.globals.size) v,aw π V v->v=V) (u:∀(fz) (w),w.heap=(dg (idR P.globals.size λb=>K b/\∃c e F,W.heap[b]? =some (.cells c e F)) fz W).heap->Calls (ah P fs) f args w λe w'=>e=.returned V/\∀b,b<w.heap.size->w'.heap[b]? =w.heap[b]?) (Q) (C) (cs) (m:∀k n w',(∀b,K b->k b/\¬n b/\w'.heap[b]? =W.heap[b]?)->(∀b,k b->b<w'.heap.size)->WgLive ty Wg w'->Run P mn ty Wg Q k n ⟨C.finish V,cs,.running,none,none⟩ w'):Run P mn ty Wg Q K (λ_=>False) ⟨Frame.enter P f args .normal,C::cs,.running,none,none⟩ W:=by
 obtain⟨J,L,M⟩:=IC (Post:=λv _=>v=V) p a D (B:=λb=>K b/\∃c e F,W.heap[b]? =some (.cells c e F)) (W:=W) (λb h=>h.2) E (λg h=>G g h) H
  (λw h=>(u _ w h).mono λe w' h=>⟨V,h.1,rfl⟩) (λw h=>(u _ w h).mono λe w' h=>⟨V,h.1,h.2⟩)
 have o:=vo (mn:=mn) (ty:=ty) (Wg:=Wg) (B:=C::cs) (Q:=λk n g w'=>g=⟨C.finish V,cs,.running,none,none⟩) p a i (idR P.globals.size λb=>K b/\∃c e F,W.heap[b]? =some (.cells c e F)) (λN O J L F W' hI h R=>?_) (Ren.le_refl _) M;refine(o.frame (Y2:=K) (Z2:=λ_=>False) (B:=K) (C0:=W) (λb ⟨r,y⟩=>?_) (λb l=>?_) q (λb l=>⟨l,id,rfl⟩) id ⟨s,id⟩ (UI _)).bind ?_;exact y.1▸y.2.1;exact l.2 l.1;rintro k n g w' ⟨K1,M1,rfl,_,_,T,U,X,h6⟩;exact m k n w' (λb l=>U b l) T (X j);refine .ks rfl λz d=>?_;have Y:=h.EZ d.keep d.size;obtain⟨v,V',w',t,ev,A,a1,Z,a3,a4,a5,a6,_⟩:=Y.leave p R C cs mn Wg;subst Z;have:=I _ _ a3;subst this;exact⟨_,t,ev,a1,a4,a5,.stop λ_ _=>rfl⟩
def FG(l:Tab S P fs)(a:∀f,S.stop f=false){f:FuncId}(u:S.ent f=true){args}{B O:Nat->Prop}{W}(d:∀b,B b->∃c e F,W.heap[b]? =some (.cells c e F))(y:P.globals.size<=W.heap.size)(m:∀g,S.dF g=true->B g) (z:∀x∈args,aw (idR P.globals.size B) x x) {Post} (C:∀w,w.heap=(dg (idR P.globals.size B) (λb=>B b/\¬O b) W).heap->Calls (ah P fs) f args w λe w'=>∃v,e=.returned v/\Post v w') (D:∀w,w.heap=(dg (idR P.globals.size B) (λ_=>False) W).heap->Calls (ah P fs) f args w λe w'=>∃v,e=.returned v/\∀b,b<w.heap.size->¬O b->w'.heap[b]? =w.heap[b]?):∃E G,iV S P fs (idR P.globals.size λb=>B b/\¬O b) W (dg (idR P.globals.size B) (λ_=>False) W) Post (idR P.globals.size B) (idR P.globals.size B) E G (Frame.enter P f args .normal) [] W:=by (have i:∀(Pr:Nat->Prop) b,B b->∃o,W.heap[b]? =some o/\((∃c e f,o=.cells c e f)\/(¬Pr b/\(∀c e f,o≠ .cells c e f)/\fV S (idR P.globals.size B) o o)):=λPr b j=>by obtain⟨c,e,F,h⟩:=d b j;exact⟨_,h,.inl ⟨c,e,F,rfl⟩⟩);(have e:(λR=>∃r,(idR P.globals.size λb=>B b/\¬O b) r R)=λb=>B b/\¬O b:=funext λR=>propext ⟨λ⟨r,p,q⟩=>p▸q,λh=>⟨R,rfl,h⟩⟩;have s:bt S (λR=>∃r,(idR P.globals.size λb=>B b/\¬O b) r R) (idR P.globals.size B) (dg (idR P.globals.size B) (λb=>B b/\¬O b) W) W:=by rw[e];exact kT (i _) (λ_ h=>h.1) y (d 0 (m 0 l.xT)));(have t:=kT (S:=S) (Pr:=λ_=>False) (i λ_=>False) (λ_ h=>h.elim) y (d 0 (m 0 l.xT));have k:Ren.le (idR P.globals.size λb=>B b/\¬O b) (idR P.globals.size B):=λr R h=>⟨h.1,h.2.1⟩);refine⟨_,_,⟨pA l a u (pB z) s (λg h=>⟨rfl,m g h⟩) C,pA l a u (pB z) t (λg h=>⟨rfl,m g h⟩) λw h=>(D w h).mono ?_,k,k,?_,λ_ _ _=>rfl,λR=>WC⟩⟩;rintro K w' ⟨v,p,q⟩;(refine⟨v,p,λr R H=>?_⟩;obtain⟨rfl,j,I⟩:=H;obtain⟨c,A,F,n⟩:=d r j;have J:r<w.heap.size:=by rw[h,lE];exact(UO.1 n).1);rw[q r J I,h];rintro r R ⟨rfl,j,_⟩;obtain⟨c,A,F,n⟩:=d r j;refine⟨c.map (mask (idR P.globals.size B)),c,A,F,?_,n⟩;rw[gi,n];simp[kI]
def Ob(z:Tab S P fs)(d:∀f,S.stop f=false)(k:∀g,S.calm g){f:FuncId}(hf:S.ent f=true){args}{K M O:Nat->Prop}{W ty Wg mn}(hG:P.globals.size<=W.heap.size) (hg:∀g,S.dF g=true->K g/\∃c e F,W.heap[g]? =some (.cells c e F)) (A:∀b,K b->b<W.heap.size) (D:Wg<W.heap.size) (l:WgLive ty Wg W) (E:¬M Wg) (G:∀b,O b->M b) (n:∀b,O b->K b/\∃c e F,W.heap[b]? =some (.cells c e F)) (ha:∀x∈args,aw (idR P.globals.size λb=>K b/\∃c e F,W.heap[b]? =some (.cells c e F)) x x) {Post:Zj->x6->Prop} {T:Zj->(Nat->Option Obj)->Prop} (hT:∀(Pr) (π) v V w w',Ren.le (idR P.globals.size λb=>K b/\∃c e F,W.heap[b]? =some (.cells c e F)) π->Post v w->aw π v V->bt S Pr π w w'->∀h,(∀b,O b->h b=w'.heap[b]?)->T V h) (U:∀(fz) (w),(∀b,O b->¬fz b)->w.heap=(dg (idR P.globals.size λb=>K b/\∃c e F,W.heap[b]? =some (.cells c e F)) fz W).heap->Calls (ah P fs) f args w λe w'=>∃v,e=.returned v/\Post v w'/\∀b,b<w.heap.size->¬O b->w'.heap[b]? =w.heap[b]?) (Q) (C) (cs) (o:∀i p w' V,(∀b,K b->¬M b->i b/\¬p b/\w'.heap[b]? =W.heap[b]?)->(∀b,i b->b<w'.heap.size)->WgLive ty Wg w'->T V (λb=>w'.heap[b]?)->(∀b,O b->i b)->Run P mn ty Wg Q i p ⟨C.finish V,cs,.running,none,none⟩ w'):Run P mn ty Wg Q K M ⟨Frame.enter P f args .normal,C::cs,.running,none,none⟩ W:=by
 obtain⟨cA,cB,hD⟩:=FG (O:=O) (Post:=Post) z d hf (B:=λb=>K b/\∃c e F,W.heap[b]? =some (.cells c e F)) (W:=W) (λb h=>h.2) hG (λg h=>hg g h) ha
  (λw h=>(U _ w (λb a x=>x.2 a) h).mono λe w' ⟨v,H,h2,_⟩=>⟨v,H,h2⟩) (λw h=>(U _ w (λb a x=>x) h).mono λe w' ⟨v,H,_,I⟩=>⟨v,H,I⟩)
 have q:=vo (mn:=mn) (ty:=ty) (Wg:=Wg) (B:=C::cs) (Q:=λi p g w'=>∃V,g=⟨C.finish V,cs,.running,none,none⟩/\T V (λb=>w'.heap[b]?)/\∀b,O b->i b) z d k (idR P.globals.size λb=>K b/\∃c e F,W.heap[b]? =some (.cells c e F)) (λaa ab cA cB F W' J h he=>?_) (Ren.le_refl _) hD;refine(q.frame (Y2:=K) (Z2:=M) (B:=λb=>K b/\¬M b) (C0:=W) (λb ⟨r,m⟩=>?_) (λb a=>?_) A (λb a=>⟨a.1,a.2,rfl⟩) id ⟨D,E⟩ (UI _)).bind ?_;exact m.1▸m.2.1;obtain⟨⟨r,m⟩,hn⟩:=a;obtain⟨rfl,m⟩:=m;exact G r (VV λho=>hn ⟨r,rfl,m,ho⟩);rintro i p g w' ⟨K1,M1,⟨V,rfl,L,s⟩,N,_,I,h4,h5,h6⟩;exact o i p w' V (λb a hm=>h4 b ⟨a,hm⟩) I (h5 l) L λb a=>N b (s b a);refine .ks rfl λX j=>?_;have h':=h.EZ j.keep j.size;obtain⟨v,Y,w',t,ev,u,a1,a2,a3,a4,a5,a6,a7,a8⟩:=h'.leave z he C cs mn Wg;have R:=Ren.le_trans J a8;refine⟨_,t,ev,a1,a4,a5,.stop λZ y=>⟨Y,rfl,hT _ u v Y w' t R a2 a3 a7 _ λb a=>y.keep b (.inl ⟨b,J b b ⟨rfl,n b a⟩⟩),λb a=>.inl ⟨b,J b b ⟨rfl,n b a⟩⟩⟩⟩
end
end Go.Tm
namespace Go.Tm
open Go.Conc Go.ConcN Go.Conc.Lib
open Go.ConcR (KK WgAt stA smA rd wr mk DC0)
structure WD where
 s:Nat
 d:Nat
 K:Nat->Prop
 M:Nat->Prop
inductive oy where
 |sp (r st:Nat)|gc|rc (r:Nat) (hs:List Zj)|rb (r:Nat) (hs:List Zj)|rw(r:Nat) (hs:List Zj)
inductive CTag where
 |wd|w1|w2 (vs:Nat)|sw|w3|blk|w4|we|acq|cl|quit
def oy.pend:oy->Nat
 | .sp _ st=>if st<=3 then 1 else 0
 |_=>0
def oy.got:oy->List Zj
 | .rc _ hs| .rb _ hs| .rw _ hs=>hs
 |_=>[]
def kg(d:WD):Nat:=if 4<=d.s then 1 else 0
def VW(j:Nat)(D:Nat->WD):Nat:=sumTo j λi=>kg (D i)
def kh(v:Nat):CTag->Nat
 | .wd=>100| .w1=>50| .w2 a=>if a=v then 40 else 60| .sw=>30| .w3=>20| .blk=>19| .w4=>15| .we=>14| .acq=>13| .cl=>12| .quit=>0
section
variable (P:Program) (ty:TypeId) (Wg ch:Nat) (z:Zj) (An:aL) (HV:Nat->Option Zj) (Fin:List Zj->aL) (n:Nat)
inductive WSit(hv:Option Zj):WD->Rk P ty Wg->Zx->x6->Prop
 |run {K M:Nat->Prop} {g:Zx} {w:x6} {c:RC P ty Wg}:cW P ty Wg false (SWk P ty Wg ch z hv) K M g w c->WSit hv ⟨8,0,K,M⟩ (8,0,c) g w
 |blk {K M:Nat->Prop} {g:Zx} {w:x6} {c:RC P ty Wg} {v:Zj}:hv=some v->cW P ty Wg false (SR0 P ty Wg) K M (Conc.served g undef) w c->WSit hv ⟨7,0,K,M⟩ (7,0,c) (parked g #[scase ch v undef] .send) w
 |r0 {K M:Nat->Prop} {g:Zx} {w:x6} {c:RC P ty Wg}:cW P ty Wg false (SR0 P ty Wg) K M g w c->WSit hv ⟨6,0,K,M⟩ (6,0,c) g w
 |k1 {K M:Nat->Prop} {g:Zx} {w:x6} {c:RC P ty Wg} {m:Nat}:Goes P false (RK ty Wg K) DC0 (SK1 P ty Wg K M) m g w->WSit hv ⟨5,0,K,M⟩ (5,m,c) g w
 |d1 {K M:Nat->Prop} {g:Zx} {w:x6} {c:RC P ty Wg} {m:Nat}:Goes P false (RK ty Wg K) DC0 (SD1 P ty Wg K M) m g w->WSit hv ⟨4,1,K,M⟩ (4,m,c) g w
 |d2 {K M:Nat->Prop} {g:Zx} {w:x6} {c:RC P ty Wg} {m:Nat}:Goes P false (RK ty Wg K) DC0 (SD2 P ty Wg K M) m g w->WSit hv ⟨3,1,K,M⟩ (3,m,c) g w
 |d3 {K M:Nat->Prop} {g:Zx} {w:x6} {c:RC P ty Wg} {m:Nat}:Goes P false (RK ty Wg K) DC0 (SD3 P ty Wg K M) m g w->WSit hv ⟨2,1,K,M⟩ (2,m,c) g w
 |d4 {K M:Nat->Prop} {g:Zx} {w:x6} {c:RC P ty Wg} {m:Nat}:Goes P false (RK ty Wg K) DC0 (SD4 P ty Wg K M) m g w->WSit hv ⟨1,1,K,M⟩ (1,m,c) g w
 |quit {K M:Nat->Prop} {g:Zx} {w:x6} {c:RC P ty Wg} {q d:Nat}:QuitsD P q d g->WSit hv ⟨0,d,K,M⟩ (0,q,c) g w
inductive fO:oy->Nat->Nat->(Nat->Prop)->(Nat->Prop)->Rk P ty Wg->Zx->x6->Prop
 |kd {K M:Nat->Prop} {g:Zx} {w:x6} {c:RC P ty Wg} {r:Nat}:r<n->cW P ty Wg true (SKd P ty Wg ch z HV n r (SSp P ty Wg ch z An HV Fin n r)) K M g w c->fO (.sp r 5) (n-(r+1)) 0 K M (100+10*r+5,0,c) g w
 |a1 {K M:Nat->Prop} {g:Zx} {w:x6} {c:RC P ty Wg} {r:Nat}:r<n->cW P ty Wg true (SA1 P ty Wg ch z HV n r (SSp P ty Wg ch z An HV Fin n r)) K M g w c->fO (.sp r 4) (n-(r+1)) 1 K M (100+10*r+4,0,c) g w
 |sr {K M:Nat->Prop} {g:Zx} {w:x6} {c:RC P ty Wg} {r:Nat}:r<n->cW P ty Wg true (SSr P ty Wg ch z HV n r (SSp P ty Wg ch z An HV Fin n r)) K M g w c->fO (.sp r 3) (n-(r+1)) 1 K M (100+10*r+3,0,c) g w
 |ke {K M:Nat->Prop} {g:Zx} {w:x6} {c:RC P ty Wg} {r:Nat}:r<n->cW P ty Wg true (SKe P ty Wg ch z HV n r (SSp P ty Wg ch z An HV Fin n r)) K M g w c->fO (.sp r 2) (n-(r+1)) 1 K M (100+10*r+2,0,c) g w
 |go {K M:Nat->Prop} {g:Zx} {w:x6} {c:RC P ty Wg} {r:Nat}:r<n->cW P ty Wg true (SGo P ty Wg ch z HV n r (SSp P ty Wg ch z An HV Fin n r)) K M g w c->fO (.sp r 1) (n-(r+1)) 0 K M (100+10*r+1,0,c) g w
 |gc {K M:Nat->Prop} {g:Zx} {w:x6} {c:RC P ty Wg}:cW P ty Wg true (KO P ty Wg ch z An HV Fin n) K M g w c->fO .gc n 0 K M (90,0,c) g w
 |rc {K M:Nat->Prop} {g:Zx} {w:x6} {c:RC P ty Wg} {r:Nat} {hs:List Zj}:r+hs.length=n->cW P ty Wg true (pj P ty Wg ch z HV Fin n r hs) K M g w c->fO (.rc r hs) n 0 K M (20,0,c) g w
 |rb {K M:Nat->Prop} {g:Zx} {w:x6} {c:RC P ty Wg} {r:Nat} {hs:List Zj}:r+hs.length=n->(∀i1,RK ty Wg K w i1->pj P ty Wg ch z HV Fin n r hs K M g i1)->fO (.rb r hs) n 0 K M (19,0,c) (parked {g with offers:=none} #[rcase ch z] (.recv true)) w
 |rw{K M:Nat->Prop} {g:Zx} {w:x6} {c:RC P ty Wg} {r:Nat} {hs:List Zj}:r+hs.length=n->(∀i1,RK ty Wg K w i1->pj P ty Wg ch z HV Fin n r hs K M g i1)->fO (.rw r hs) n 0 K M (18,0,c) {parked {g with offers:=none} #[rcase ch z] (.recv true)with status:=.running} w
inductive CSit(v:Nat):CTag->Nat->(Nat->Prop)->(Nat->Prop)->Rk P ty Wg->Zx->x6->Prop
 |wd {K M:Nat->Prop} {g:Zx} {w:x6} {c:RC P ty Wg}:cW P ty Wg false (SWd P ty Wg ch An) K M g w c->CSit v .wd 0 K M (kh v .wd,0,c) g w
 |w1 {K M:Nat->Prop} {g:Zx} {w:x6} {c:RC P ty Wg}:cW P ty Wg false (SW1 P ty Wg ch An) K M g w c->CSit v .w1 1 K M (kh v .w1,0,c) g w
 |w2 {K M:Nat->Prop} {g:Zx} {w:x6} {c:RC P ty Wg} {vs:Nat}:cW P ty Wg false (SW2 P ty Wg ch An vs) K M g w c->CSit v (.w2 vs) 1 K M (kh v (.w2 vs),0,c) g w
 |sw {K M:Nat->Prop} {g:Zx} {w:x6} {c:RC P ty Wg}:cW P ty Wg false (SSw P ty Wg ch) K M g w c->CSit v .sw 1 K M (kh v .sw,0,c) g w
 |w3 {K M:Nat->Prop} {g:Zx} {w:x6} {c:RC P ty Wg}:cW P ty Wg false (SW3 P ty Wg ch) K M g w c->CSit v .w3 1 K M (kh v .w3,0,c) g w
 |blk {K M:Nat->Prop} {g:Zx} {w:x6} {c:RC P ty Wg}:(∀i1,RK ty Wg K w i1->SW3 P ty Wg ch K M g i1)->CSit v .blk 1 K M (kh v .blk,0,c) {g with status:=.blocked} w
 |w4 {K M:Nat->Prop} {g:Zx} {w:x6} {c:RC P ty Wg}:cW P ty Wg false (SW4 P ty Wg ch) K M g w c->CSit v .w4 1 K M (kh v .w4,0,c) g w
 |we {K M:Nat->Prop} {g:Zx} {w:x6} {c:RC P ty Wg}:cW P ty Wg false (SWe P ty Wg ch) K M g w c->CSit v .we 1 K M (kh v .we,0,c) g w
 |acq {K M:Nat->Prop} {g:Zx} {w:x6} {c:RC P ty Wg}:cW P ty Wg false (Qg P ty Wg ch) K M g w c->CSit v .acq 0 K M (kh v .acq,0,c) g w
 |cl {K M:Nat->Prop} {g:Zx} {w:x6} {c:RC P ty Wg}:cW P ty Wg false (SCl P ch) K M g w c->CSit v .cl 0 K M (kh v .cl,0,c) g w
 |quit {K M:Nat->Prop} {g:Zx} {w:x6} {c:RC P ty Wg} {q d:Nat}:QuitsD P q d g->CSit v .quit d K M (kh v .quit,q,c) g w
end
def fe:Option CTag->Bool
 |some .quit=>true
 |_=>false
def vp(j:Nat)(D:Nat->WD):Prop:=∀i,i<j->4<=(D i).s\/(D i).s=0
def E0(j:Nat)(D:Nat->WD):Prop:=∀i,i<j->(D i).s=0
def CTag.opn:Option CTag->Prop
 |none|some .wd|some .w1|some (.w2 _)=>True
 |_=>False
def CTag.reg:Option CTag->Prop
 |some .sw|some .w3|some .blk=>True
 |_=>False
def CTag.fin:Option CTag->Prop
 |some .w4|some .we|some .acq|some .cl|some .quit=>True
 |_=>False
inductive Mode(j:Nat)(D:Nat->WD)(mt:oy):Option CTag->Int->Int->Prop
 |opn {ct:Option CTag}:CTag.opn ct->vp j D->(∀vs,ct=some (.w2 vs)->VW j D<=vs/\1<=vs)->Mode j D mt ct (((VW j D+mt.pend:Nat):Int)*KK) 0
 |reg {ct:Option CTag}:CTag.reg ct->vp j D->1<=VW j D->Mode j D mt ct (((VW j D:Nat):Int)*KK+1) 0
 |last {ct:Option CTag} (L:Nat):CTag.reg ct->L<j->((D L).s=3\/(D L).s=2\/(D L).s=1)->(∀i,i<j->i≠L->(D i).s=0)->Mode j D mt ct (if(D L).s=1 then 0 else 1) 0
 |sema {ct:Option CTag}:CTag.reg ct->ct≠some .blk->E0 j D->Mode j D mt ct 0 1
 |fin {ct:Option CTag}:CTag.fin ct->E0 j D->Mode j D mt ct 0 0
def Mode.yb{j D mt ct st sm}(h:Mode j D mt ct st sm)(b:CTag.fin ct):E0 j D:=by (have no:∀{ct:Option CTag},CTag.fin ct->(CTag.opn ct->False)/\(CTag.reg ct->False):=by intro ct h;cases ct with|none=>exact h.elim|some c=>cases c<;>first|exact h.elim|exact⟨id,id⟩);cases h with|opn a=>exact((no b).1 a).elim|reg a=>exact((no b).2 a).elim|last _ a=>exact((no b).2 a).elim|sema a=>exact((no b).2 a).elim|fin _ a=>exact a
structure GSt(P:Program)(ty:TypeId)(Wg:Nat) where
 j:Nat
 D:Nat->WD
 R:Nat->Rk P ty Wg
 mt:oy
 K0:Nat->Prop
 M0:Nat->Prop
 r0:Rk P ty Wg
 d0:Nat
 ct:Option CTag
 Kc:Nat->Prop
 Mc:Nat->Prop
 rc:Rk P ty Wg
 dc:Nat
 q:Nat->Nat
 own:Nat->Nat
 low:Nat->Nat
 st:Int
 sm:Int
section
variable (P:Program) (ty:TypeId) (Wg ch:Nat) (z:Zj) (An:aL) (HV:Nat->Option Zj) (Fin:List Zj->aL) (n base N0:Nat) (shun:Nat->Prop) (F0:x6) (t₀:Trace)
def spB(b:Nat):Prop:=b=Wg\/b=ch
structure GW(w:x6)(σ:GSt P ty Wg):Prop where
 os:w.os=F0.os
 tape:w.tape=F0.tape
 output:w.output=F0.output
 gy:N0<=w.heap.size
 old:∀b,b<N0->w.heap[b]? =F0.heap[b]?
 chn:∃s,w.heap[ch]? =some (.chan 0 #[] (fe σ.ct) s s false)
 wg:WgAt ty Wg w σ.st σ.sm
 sp:Wg<w.heap.size/\ch<w.heap.size
 kw:∀i,i<σ.j->∀b,(σ.D i).K b->b<w.heap.size/\¬spB Wg ch b/\¬shun b/\(σ.own b=base+i\/(σ.own b=0/\b<σ.low (base+i)))
 mw:∀i,i<σ.j->∀b,(σ.D i).M b->σ.own b=base+i
 k0:∀b,σ.K0 b->b<w.heap.size/\¬spB Wg ch b/\¬shun b/\σ.own b=0
 m0:∀b,σ.M0 b->b<w.heap.size/\¬spB Wg ch b/\N0<=b/\σ.own b=0/\∀k,σ.low k<=b
 kc:σ.ct≠none->∀b,σ.Kc b->b<w.heap.size/\¬spB Wg ch b/\¬shun b/\(σ.own b=base+n\/(σ.own b=0/\b<σ.low (base+n)))
 mc:σ.ct≠none->∀b,σ.Mc b->σ.own b=base+n
 owns:∀b,σ.own b≠0->N0<=b/\base<=σ.own b/\b<w.heap.size/\¬spB Wg ch b
 E1:∀i,i<σ.j->σ.low (base+i)≠0
 E2:σ.low (base+n)≠0↔σ.ct≠none
 CU:∀k,σ.low k≠0->(∃i,i<σ.j/\k=base+i)\/k=base+n
 CW:∀k,σ.low k<=w.heap.size
def jB{N}{t u:Trace}(h:∀a∈t,a.g<N)(c:∀a∈u,a.g<N):∀a∈t++u,a.g<N:=λa b=>(VJ.1 b).elim (h a) (c a)
def AcqAll(t:Trace):Prop:=∃q,t.act? q=some (.mark (.acquire (stA Wg)))/\t.g? q=some (base+n)/\t.heard q/\∀i,i<n->∃r,RelBy (stA Wg) t (base+i) r/\r<q
def CX(t:Trace):Prop:=∃q p,t.act? q=some (.mark (.acquire (stA Wg)))/\t.g? q=some (base+n)/\t.heard q/\(∀i,i<n->∃r,RelBy (stA Wg) t (base+i) r/\r<q)/\q<p/\t.act? p=some (.close ch)/\t.g? p=some (base+n)/\t.heard p/\∀i,p<i->t.g? i=some (base+n)->¬t.counts i
structure GT(w:x6)(t:Trace)(σ:GSt P ty Wg):Prop where
 pre:∃u,t=t₀++u
 tr:TI shun (spB Wg ch) (base+n) t₀.size σ.own σ.low t
 seen:∀op∈t,op.act.low w.heap.size
 gb:∀op∈t,op.g<base+n+1
 norel:NoRelease (stA Wg) t
 d0:Deaf t 0=σ.d0
 dw:∀i,i<σ.j->Deaf t (base+i)=(σ.D i).d
 dc:σ.ct≠none->Deaf t (base+n)=σ.dc
 above:∀k,base<=k->(∀i,i<σ.j->k≠base+i)->(σ.ct≠none->k≠base+n)->Deaf t k=0
 rel:∀i,i<σ.j->(σ.D i).s<=5->∃r,RelBy (stA Wg) t (base+i) r
 acq:σ.ct=some .cl->AcqAll Wg n base t
 cls:σ.ct=some .quit->CX Wg ch n base t
def GT.tb{P ty Wg ch n base shun t₀ t w σ}(T:GT P ty Wg ch n base shun t₀ w t σ):∀(i) x b,touchAt t i=some x->blk x.loc=some b->b<w.heap.size:=by intro i x b d e;obtain⟨f,a,c⟩:=touch_of d;exact JB (T.seen f (mem_of_getElem? a)) c e
structure GG(gs:Array Zx)(w:x6)(t:Trace)(σ:GSt P ty Wg):Prop where
 size:gs.size=base+σ.j+(if σ.ct.isSome then 1 else 0)
 jn:σ.j<=n
 cn:σ.ct≠none->σ.j=n
 mn:∃a,gs[0]? =some a/\fO P ty Wg ch z An HV Fin n σ.mt σ.j σ.d0 σ.K0 σ.M0 σ.r0 a w
 mc:σ.ct=none↔((∃r st,σ.mt=.sp r st)\/σ.mt=.gc)
 wk:∀i,i<σ.j->∃g,gs[base+i]? =some g/\WSit P ty Wg ch z (HV i) (σ.D i) (σ.R i) g w
 unb:∀i,σ.j<=i->i<n->(σ.R i).1=9
 cl:∀c,σ.ct=some c->∃g,gs[base+n]? =some g/\CSit P ty Wg ch An (VW σ.j σ.D) c σ.dc σ.Kc σ.Mc σ.rc g w
 lv:∀i g,0<i->i<base->gs[i]? =some g->QuitsD P (σ.q i) (Deaf t i) g
 mb:(∃r hs,σ.mt=.rb r hs)->σ.ct≠some .quit/\∀i,i<σ.j->(σ.D i).s≠7
 mq:∀r hs,σ.mt=.rw r hs->σ.ct=some .quit
def Got(σ:GSt P ty Wg):Prop:=∃l:List Nat,l.Nodup/\(∀i,i∈l↔i<σ.j/\(σ.D i).s<=6/\HV i≠none)/\σ.mt.got=l.filterMap HV
structure GI(gs:Array Zx)(w:x6)(t:Trace)(σ:GSt P ty Wg):Prop where
 w_:GW P ty Wg ch n base N0 shun F0 w σ
 t_:GT P ty Wg ch n base shun t₀ w t σ
 g_:GG P ty Wg ch z An HV Fin n base gs w t σ
 m_:Mode σ.j σ.D σ.mt σ.ct σ.st σ.sm
 v_:Got P ty Wg HV σ
end
structure nT(ty:TypeId)(Wg:Nat)(K:Nat->Prop)(Fx:x6->Prop):Prop where
 rely:∀w i1,RK ty Wg K w i1->Fx w->Fx i1
 set:∀w a v,a.block=Wg->Fx w->Fx (w.setCell a v)
def yq{ty Wg K b o}(e:K b)(f:b≠Wg):nT ty Wg K (λw=>w.heap[b]? =some o):=⟨λw d h c=>(h.keep b e).trans c,λw a v i c=>by rw[dU w a v b (by rw[i];exact f)];exact c⟩
def nT.and{ty Wg K F G}(h:nT ty Wg K F)(c:nT ty Wg K G):nT ty Wg K (λw=>F w/\G w):=⟨λw b r x=>⟨h.rely w b r x.1,c.rely w b r x.2⟩,λw a v d x=>⟨h.set w a v d x.1,c.set w a v d x.2⟩⟩
def nT.all{ty Wg K}{d:Type}{F:d->x6->Prop}(h:∀a,nT ty Wg K (F a)):nT ty Wg K (λw=>∀a,F a w):=⟨λw c r x a=>(h a).rely w c r (x a),λw a v e x b=>(h b).set w a v e (x b)⟩
def nT.const{ty Wg K}(p):nT ty Wg K (λ_=>p):=⟨λ_ _ _ x=>x,λ_ _ _ _ x=>x⟩
section
variable {P:Program} {mn:Bool} {ty:TypeId} {Wg ch:Nat} {z:Zj} {K M:Nat->Prop} {Fn:Zx->x6->Prop} {Fx:x6->Prop}
def dO(fx:nT ty Wg K Fx){e}{S:aL}{g w}(h:∃m,Goes P mn (RL ty Wg) DC0 e m g w)(d:Fx w)(f:∀g w,e g w->Fx w->S K M g w):Run P mn ty Wg S K M g w:=by obtain⟨m,h⟩:=h;induction m generalizing g w with|zero=>exact .stop λa b=>f _ _ (h a b.rl) (fx.rely w a b d)|succ m i=>obtain h|⟨j,h⟩:=h;exact .stop λa b=>f _ _ (h a b.rl) (fx.rely w a b d);refine .ks j λa b=>?_;have:=h a b.rl;cases c:stepG P mn g a with|go g' w' es=>rw[c,goes_go]at this;obtain⟨⟨rfl,rfl⟩,k⟩:=this;refine⟨g',w',#[],rfl,Eff.refl _ _,by simp,?_⟩;rw[cN rfl,cN rfl];exact i (fx.rely w w' b d) k|_=>rw[c]at this;exact this.elim
def yt(fx:nT ty Wg K Fx){c S g w}(h:∃m,Goes P mn (RL ty Wg) DC0 c m g w)(f:Fx w)(i:∀g w,c g w->Fx w->Run P mn ty Wg S K M g w):Run P mn ty Wg S K M g w:=by refine(dO (K:=K) (M:=M) (S:=λd e g w=>d=K/\e=M/\c g w/\Fx w) fx h f λg w a b=>⟨rfl,rfl,a,b⟩).bind ?_;rintro d e g w ⟨rfl,rfl,a,b⟩;exact i g w a b
section closer
variable (fx:nT ty Wg K Fx) (hF:∀g w,Fn g w->Fx w->Run P false ty Wg (SCl P ch) K M g w)
include fx hF
def TF(g:Zx)(w:x6)(h:Tw P false ty Wg Fn g w)(c:Fx w):Qg P ty Wg ch K M g w:=⟨h.1,let⟨g',a,b⟩:=h.2;⟨g',a,yt fx b c hF⟩⟩
def TG(g:Zx)(w:x6)(h:XWe P false ty Wg Fn g w)(c:Fx w):SWe P ty Wg ch K M g w:=⟨h.1,let⟨g',a,b⟩:=h.2;⟨g',a,dO fx b c (TF fx hF)⟩⟩
def Uq(g:Zx)(w:x6)(h:XW4 P false ty Wg Fn g w)(c:Fx w):SW4 P ty Wg ch K M g w:=⟨h.1,λx=>let⟨g',a,b⟩:=h.2 x;⟨g',a,dO fx b c (TG fx hF)⟩⟩
def Ur(g:Zx)(w:x6)(h:XW3 P false ty Wg Fn g w)(c:Fx w):SW3 P ty Wg ch K M g w:=⟨h.1,h.2.1,h.2.2.1,λx=>let⟨g',a,b⟩:=h.2.2.2 x;⟨g',a,dO fx b (fx.set _ _ _ rfl c) (Uq fx hF)⟩⟩
def Us(g:Zx)(w:x6)(h:XSw P false ty Wg Fn g w)(c:Fx w):SSw P ty Wg ch K M g w:=⟨h.1,let⟨g',a,b⟩:=h.2;⟨g',a,dO fx b c (Ur fx hF)⟩⟩
def AnF(K M:Nat->Prop)(Fx:x6->Prop)(Anch:Zx->x6->Prop):aL:=λa b g w=>a=K/\b=M/\Anch g w/\Fx w
variable {Anch:Zx->x6->Prop}
def Ut(f:Nat)(g:Zx)(w:x6)(h:XW2 P false ty Wg Fn Anch f g w)(i:Fx w):SW2 P ty Wg ch (AnF K M Fx Anch) f K M g w:=
 ⟨h.1,λv j k=>let⟨a,b⟩:=h.2 v j k
  ⟨λe=>let⟨g',c,d⟩:=a e;⟨g',c,dO fx d (fx.set _ _ _ rfl i) (Us fx hF)⟩,λe=>let⟨g',c,d⟩:=b e;⟨g',c,dO fx d i λg w x y=>⟨rfl,rfl,x,y⟩⟩⟩⟩
def Uu(g:Zx)(w:x6)(h:XW1 P false ty Wg Fn Anch g w)(d:Fx w):SW1 P ty Wg ch (AnF K M Fx Anch) K M g w:=⟨h.1,λv f i=>let⟨g',a,b,c⟩:=h.2 v f i;⟨g',a,λe=>dO fx (b e) d (TG fx hF),λe=>dO fx (c e) d (Ut fx hF v)⟩⟩
def NV(c:∀g w,Anch g w->∃m,Goes P false (RL ty Wg) DC0 (XW1 P false ty Wg Fn Anch) m g w)(a b:Nat->Prop)(g:Zx)(w:x6)(h:AnF K M Fx Anch a b g w):Run P false ty Wg (SW1 P ty Wg ch (AnF K M Fx Anch)) a b g w:=by obtain⟨rfl,rfl,h,d⟩:=h;exact dO fx (c g w h) d (Uu fx hF)
def Uv(c:∀g w,Anch g w->∃m,Goes P false (RL ty Wg) DC0 (XW1 P false ty Wg Fn Anch) m g w)(g:Zx)(w:x6)(h:XWd P false ty Wg Anch g w)(d:Fx w):SWd P ty Wg ch (AnF K M Fx Anch) K M g w:=⟨h.1,let⟨g',a,b⟩:=h.2;⟨g',a,yt fx b d λg w x y=>NV fx hF c K M g w ⟨rfl,rfl,x,y⟩⟩⟩
end closer
section wR
variable {HV:Nat->Option Zj} {n r:Nat} {Nx:aL} (fx:nT ty Wg K Fx) (hF:∀g w,Fn g w->Fx w->Run P true ty Wg (SGo P ty Wg ch z HV n r Nx) K M g w)
include fx hF
def TH(g:Zx)(w:x6)(h:XKe P true ty Wg Fn g w)(c:Fx w):SKe P ty Wg ch z HV n r Nx K M g w:=⟨h.1,let⟨g',a,b⟩:=h.2;⟨g',a,yt fx b c hF⟩⟩
def Uw(g:Zx)(w:x6)(h:XSr P true ty Wg Fn g w)(c:Fx w):SSr P ty Wg ch z HV n r Nx K M g w:=⟨h.1,let⟨g',a,b⟩:=h.2;⟨g',a,dO fx b c (TH fx hF)⟩⟩
def Ux(g:Zx)(w:x6)(h:XA1 P true ty Wg Fn g w)(c:Fx w):SA1 P ty Wg ch z HV n r Nx K M g w:=⟨h.1,λv d e=>let⟨g',a,b⟩:=h.2 v d e;⟨g',a,b.elim (λb=>.inl (dO fx b (fx.set _ _ _ rfl c) (Uw fx hF))) λb=>.inr (dO fx b (fx.set _ _ _ rfl c) (TH fx hF))⟩⟩
def Uy(g:Zx)(w:x6)(h:XKd P true ty Wg Fn g w)(c:Fx w):SKd P ty Wg ch z HV n r Nx K M g w:=⟨h.1,let⟨g',a,b⟩:=h.2;⟨g',a,dO fx b c (Ux fx hF)⟩⟩
end wR
end
end Go.Tm
namespace Go.Tm
open Go.Conc Go.ConcN Go.Conc.Lib
open Go.ConcR (KK WgAt stA smA rd wr mk DC0 Bk)
section
variable {P:Program} {ty:TypeId} {Wg ch:Nat} {z:Zj} {An:aL} {HV:Nat->Option Zj} {Fin:List Zj->aL} {n:Nat} {hv:Option Zj}
def CY(K M g w)(h:SWk P ty Wg ch z hv K M g w):g.status=.running:=by unfold SWk at h;split at h<;>exact h.1
def AI(r a K M g w)(h:pj P ty Wg ch z HV Fin n r a K M g w):g.status=.running:=by cases r<;>exact h.1
def cO{mn K D}{a:Zx->x6->Prop}(b:∀g w,a g w->g.status=.running){m g w}(h:Goes P mn (RK ty Wg K) D a m g w):g.status=.running:=Goes.running b w (.refl w) h
def nj{mn K D c m g w i1}(h:Goes P mn (RK ty Wg K) D c m g w)(r:RK ty Wg K w i1):Goes P mn (RK ty Wg K) D c m g i1:=Goes.rely (R:=RK ty Wg K) (λ_ _ _ a b=>a.trans b) h r
def WSit.status{D ρ g w}(h:WSit P ty Wg ch z hv D ρ g w):(D.s≠7/\(g.status=.running\/g.status=.finished))\/(D.s=7/\∃a v,g=parked a #[scase ch v undef] .send):=by cases h with|run h=>exact .inl ⟨by simp,.inl (h.status CY)⟩|blk _ h=>exact .inr ⟨rfl,_,_,rfl⟩|r0 h=>exact .inl ⟨by simp,.inl (h.status λ_ _ _ _ x=>x.1)⟩|k1 h=>exact .inl ⟨by simp,.inl (cO (λ_ _ x=>x.1) h)⟩|d1 h=>exact .inl ⟨by simp,.inl (cO (λ_ _ x=>x.1) h)⟩|d2 h=>exact .inl ⟨by simp,.inl (cO (λ_ _ x=>x.1) h)⟩|d3 h=>exact .inl ⟨by simp,.inl (cO (λ_ _ x=>x.1) h)⟩|d4 h=>exact .inl ⟨by simp,.inl (cO (λ_ _ x=>x.1) h)⟩|quit h=>exact .inl ⟨by simp,h.status⟩
def WSit.busy{D ρ g w}(h:WSit P ty Wg ch z hv D ρ g w)(a:D.s≠7)(b:D.s≠0):g.status=.running:=by cases h with|run h=>exact h.status CY|blk _ h=>exact absurd rfl a|r0 h=>exact h.status λ_ _ _ _ x=>x.1|k1 h=>exact cO (λ_ _ x=>x.1) h|d1 h=>exact cO (λ_ _ x=>x.1) h|d2 h=>exact cO (λ_ _ x=>x.1) h|d3 h=>exact cO (λ_ _ x=>x.1) h|d4 h=>exact cO (λ_ _ x=>x.1) h|quit h=>exact absurd rfl b
def WSit.rely{D ρ g w w'}(h:WSit P ty Wg ch z hv D ρ g w)(r:RK ty Wg D.K w w'):WSit P ty Wg ch z hv D ρ g w':=by cases h with|run h=>exact .run (h.rely r)|blk e h=>exact .blk e (h.rely r)|r0 h=>exact .r0 (h.rely r)|k1 h=>exact .k1 (nj h r)|d1 h=>exact .d1 (nj h r)|d2 h=>exact .d2 (nj h r)|d3 h=>exact .d3 (nj h r)|d4 h=>exact .d4 (nj h r)|quit h=>exact .quit h
def WSit.woken{D ρ g w}(h:WSit P ty Wg ch z hv D ρ g w)(a c)(w':x6)(b:D.s=7->∃s r d,w'.heap[ch]? =some (.chan 0 #[] false s r d)):woken P a c w' g=g:=by obtain⟨_,h⟩|⟨e,f,v,rfl⟩:=h.status;unfold Go.Conc.woken;split;exact again_running _ h;rfl;obtain⟨s,r,d,b⟩:=b e;exact woken_send_open a c b
def fO.status{mt j d K M ρ g w}(h:fO P ty Wg ch z An HV Fin n mt j d K M ρ g w):(g.status=.running/\∀r a,mt≠ .rb r a)\/∃r a b,mt=.rb r a/\g=parked b #[rcase ch z] (.recv true):=by cases h with|kd _ h=>exact .inl ⟨h.status λ_ _ _ _ x=>x.1,by simp⟩|a1 _ h=>exact .inl ⟨h.status λ_ _ _ _ x=>x.1,by simp⟩|sr _ h=>exact .inl ⟨h.status λ_ _ _ _ x=>x.1,by simp⟩|ke _ h=>exact .inl ⟨h.status λ_ _ _ _ x=>x.1,by simp⟩|go _ h=>exact .inl ⟨h.status λ_ _ _ _ x=>x.1,by simp⟩|gc h=>exact .inl ⟨h.status λ_ _ _ _ x=>x.1,by simp⟩|rc _ h=>exact .inl ⟨h.status (AI _ _),by simp⟩|rb _ h=>exact .inr ⟨_,_,_,rfl,rfl⟩|rw _ h=>exact .inl ⟨rfl,by simp⟩
def fO.rely{mt j d K M ρ g w w'}(h:fO P ty Wg ch z An HV Fin n mt j d K M ρ g w)(r:RK ty Wg K w w'):fO P ty Wg ch z An HV Fin n mt j d K M ρ g w':=by cases h with|kd a h=>exact .kd a (h.rely r)|a1 a h=>exact .a1 a (h.rely r)|sr a h=>exact .sr a (h.rely r)|ke a h=>exact .ke a (h.rely r)|go a h=>exact .go a (h.rely r)|gc h=>exact .gc (h.rely r)|rc a h=>exact .rc a (h.rely r)|rb a h=>exact .rb a λb c=>h b (r.trans c)|rw a h=>exact .rw a λb c=>h b (r.trans c)
def fO.woken{mt j d K M ρ g w}(h:fO P ty Wg ch z An HV Fin n mt j d K M ρ g w)(a c)(w':x6)(b:∃s r e,w'.heap[ch]? =some (.chan 0 #[] false s r e)):woken P a c w' g=g:=by obtain⟨h,_⟩|⟨_,_,_,_,rfl⟩:=h.status;unfold Go.Conc.woken;split;exact again_running _ (.inl h);rfl;obtain⟨s,r,e,b⟩:=b;exact woken_recv_open a c b
def CSit.rely{v ct d K M ρ g w w'}(h:CSit P ty Wg ch An v ct d K M ρ g w)(r:RK ty Wg K w w'):CSit P ty Wg ch An v ct d K M ρ g w':=by cases h with|wd h=>exact .wd (h.rely r)|w1 h=>exact .w1 (h.rely r)|w2 h=>exact .w2 (h.rely r)|sw h=>exact .sw (h.rely r)|w3 h=>exact .w3 (h.rely r)|blk h=>exact .blk λa b=>h a (r.trans b)|w4 h=>exact .w4 (h.rely r)|we h=>exact .we (h.rely r)|acq h=>exact .acq (h.rely r)|cl h=>exact .cl (h.rely r)|quit h=>exact .quit h
def CSit.RA{v ct d K M ρ g w}(h:CSit P ty Wg ch An v ct d K M ρ g w)(a):∃ρ',CSit P ty Wg ch An a ct d K M ρ' g w:=by cases h with|wd h=>exact⟨_,.wd h⟩|w1 h=>exact⟨_,.w1 h⟩|w2 h=>exact⟨_,.w2 h⟩|sw h=>exact⟨_,.sw h⟩|w3 h=>exact⟨_,.w3 h⟩| @blk K M g w c h=>exact⟨(_,0,c),.blk h⟩|w4 h=>exact⟨_,.w4 h⟩|we h=>exact⟨_,.we h⟩|acq h=>exact⟨_,.acq h⟩|cl h=>exact⟨_,.cl h⟩| @quit K M g w c q d h=>exact⟨(_,q,c),.quit h⟩
def CSit.status{v ct d K M ρ g w}(h:CSit P ty Wg ch An v ct d K M ρ g w):(ct≠ .blk/\(g.status=.running\/g.status=.finished))\/(ct=.blk/\g.status=.blocked/\g.offers=none):=by cases h with|wd h=>exact .inl ⟨by simp,.inl (h.status λ_ _ _ _ x=>x.1)⟩|w1 h=>exact .inl ⟨by simp,.inl (h.status λ_ _ _ _ x=>x.1)⟩|w2 h=>exact .inl ⟨by simp,.inl (h.status λ_ _ _ _ x=>x.1)⟩|sw h=>exact .inl ⟨by simp,.inl (h.status λ_ _ _ _ x=>x.1)⟩|w3 h=>exact .inl ⟨by simp,.inl (h.status λ_ _ _ _ x=>x.1)⟩| @blk K M g w c h=>exact .inr ⟨rfl,rfl,(h w (.refl w)).2.1⟩|w4 h=>exact .inl ⟨by simp,.inl (h.status λ_ _ _ _ x=>x.1)⟩|we h=>exact .inl ⟨by simp,.inl (h.status λ_ _ _ _ x=>x.1)⟩|acq h=>exact .inl ⟨by simp,.inl (h.status λ_ _ _ _ x=>x.1)⟩|cl h=>exact .inl ⟨by simp,.inl (h.status λ_ _ _ _ x=>x.1)⟩|quit h=>exact .inl ⟨by simp,h.status⟩
def CSit.busy{v ct d K M ρ g w}(h:CSit P ty Wg ch An v ct d K M ρ g w)(a:ct≠ .blk)(b:ct≠ .quit):g.status=.running:=by cases h with|wd h=>exact h.status λ_ _ _ _ x=>x.1|w1 h=>exact h.status λ_ _ _ _ x=>x.1|w2 h=>exact h.status λ_ _ _ _ x=>x.1|sw h=>exact h.status λ_ _ _ _ x=>x.1|w3 h=>exact h.status λ_ _ _ _ x=>x.1|blk h=>exact absurd rfl a|w4 h=>exact h.status λ_ _ _ _ x=>x.1|we h=>exact h.status λ_ _ _ _ x=>x.1|acq h=>exact h.status λ_ _ _ _ x=>x.1|cl h=>exact h.status λ_ _ _ _ x=>x.1|quit h=>exact absurd rfl b
def CSit.woken{v ct d K M ρ g w}(h:CSit P ty Wg ch An v ct d K M ρ g w)(a f w')(j:f.status=.running\/f.status=.finished):∃b ρ',CSit P ty Wg ch An v b d K M ρ' (woken P a f w' g) w/\(b=ct\/(ct=.blk/\b=.w3))/\(mayWake P a=true->b≠ .blk):=by obtain⟨k,o⟩|⟨rfl,o,s⟩:=h.status;refine⟨ct,ρ,?_,.inl rfl,λ_=>k⟩;(have:Go.Conc.woken P a f w' g=g:=by unfold Go.Conc.woken;split;exact again_running _ o;rfl);rw[this];exact h;cases h with| @blk _ _ g w c l=>by_cases m:mayWake P a=true;(have e:Go.Conc.woken P a f w' {g with status:=.blocked}=g:=by (have p:=(l w (.refl w)));unfold Go.Conc.woken;rw[UH (by rcases j with j|j<;>rw[m,j]<;>rfl)];have i:=p.2.1;obtain⟨gf,gc,q,t,go⟩:=g;simp only at i;subst i;have:q=.running:=p.1;subst this;rfl);rw[e];obtain⟨x,r⟩:=cW.of (P:=P) (mn:=false) (Run.stop l);exact⟨.w3,_,.w3 r,.inr ⟨rfl,rfl⟩,λ_=>by simp⟩;(have e:Go.Conc.woken P a f w' {g with status:=.blocked}={g with status:=.blocked}:=by unfold Go.Conc.woken;rw[UG (by simp[m])]);rw[e];exact⟨.blk,(kh v .blk,0,c),.blk l,.inl rfl,λh=>absurd h m⟩
end
section
def iC(own:Nat->Nat)(x:Nat)(w w':x6)(b:Nat):Nat:=if w.heap.size<=b/\b<w'.heap.size then x else own b
def sX{own x w w' b}(h:b<w.heap.size):iC own x w w' b=own b:=by unfold iC;rw[UG (by omega)]
def jQ{own x w w' b}(h:Io w w' b):iC own x w w' b=x:=by unfold iC;exact UH h
def EvB(Wg:Nat)(e:Event):Prop:=(∀x,(MemAct.ofEvent e).touch?=some x->blk x.loc=some Wg/\x.kind=.atomic)/\(∀a,e.loc≠ .mark (.release a))/\∀B,Wg<B->(MemAct.ofEvent e).touch?=none->(MemAct.ofEvent e).low B
def RB(Wg:Nat):Mark->Prop
 | .acquire a| .releaseMerge a=>a.block=Wg
 |_=>True
def iO{Wg:Nat}{m:Mark}(h:∀a,m≠ .release a/\m≠ .read a/\m≠ .write a)(b:RB Wg m:=by first|exact trivial|exact rfl):EvB Wg (mk m):=by refine⟨λx c=>?_,λa e=>(h a).1 (Loc.mark.inj e),λB d f=>?_⟩;rotate_left;unfold Go.ConcR.mk;(cases m with|acquire a=>show a.block<B;have:a.block=Wg:=b;omega|releaseMerge a=>show a.block<B;have:a.block=Wg:=b;omega|release a=>exact absurd rfl (h a).1|read a=>exact absurd rfl (h a).2.1|write a=>exact absurd rfl (h a).2.2|_=>trivial);unfold Go.ConcR.mk at c;cases m<;>simp[MemAct.ofEvent,MemAct.touch?]at c;exact absurd rfl (h _).2.1;exact absurd rfl (h _).2.2
def fg{Wg a}(d:a.block=Wg)(b):EvB Wg ⟨.cell a,b,true⟩:=by refine⟨λx c=>?_,by simp,λB _ e=>by simp[MemAct.ofEvent,MemAct.touch?]at e⟩;simp[MemAct.ofEvent,MemAct.touch?]at c;subst c;exact⟨by simp[blk,d],rfl⟩
section
variable {P:Program} {ty:TypeId} {Wg ch:Nat} {z:Zj} {An:aL} {HV:Nat->Option Zj} {Fin:List Zj->aL} {n base N0:Nat} {shun:Nat->Prop} {F0:x6} {t₀ t:Trace}
def Ip{w w':x6}{own low:Nat->Nat}{K M:Nat->Prop}{i}(B:0<base)(m:low (base+i)≠0) (o:∀b,K b->b<w.heap.size/\¬spB Wg ch b/\¬shun b/\(own b=base+i\/(own b=0/\b<low (base+i)))) (p:∀b,M b->own b=base+i) (q:Wg<w.heap.size/\ch<w.heap.size) (r:∀b,shun b->b<w.heap.size) {es} (s:∀e∈es,EvK Wg (orK K w w') (orK M w w') e\/EvB Wg e) (fn) (pos):∀k∈MemOp.ofEvents (base+i) fn pos es,∀x,k.act.touch?=some x->Okx shun (spB Wg ch) (base+n) (iC own (base+i) w w') low (base+i) x:=by intro k f x l;obtain⟨e,g,rfl⟩:=Go.Conc.mem_ofEvents f;refine⟨.inr m,?_⟩;obtain h|h:=s e g;obtain⟨b,j,h⟩:=h.1 x l;refine⟨b,j,?_⟩;obtain⟨c,h2,h3⟩|⟨rfl,h2⟩:=h;obtain h2|h2:=h2;obtain⟨k1,u,v,d⟩:=o b h2;have a:iC own (base+i) w w' b=own b:=sX k1;obtain d|⟨d,y⟩:=d;exact .inl ⟨a.trans d,by omega,c⟩;refine .inr (.inl ⟨a.trans d,u,v,c,.inr ⟨by omega,?_,y⟩⟩);(cases A:x.write with|false=>rfl|true=>obtain h3|h3:=h3 A;have:=p b h3;omega;exact absurd h3.1 (by omega));exact .inl ⟨jQ h2,by omega,c⟩;exact .inr (.inr ⟨.inl rfl,.inl h2⟩);obtain⟨c,h2⟩:=h.1 x l;exact⟨Wg,c,.inr (.inr ⟨.inl rfl,.inl h2⟩)⟩
def JC{c:MemAct}{B}(d:∀x,c.touch?=some x->∀b,blk x.loc=some b->b<B)(f:c.touch?=none->c.low B):c.low B:=by
 cases c with
 |access e=>have:=d _ rfl;show e.loc.low B;cases g:e.loc<;>first|trivial|exact this _ (by simp[blk,g])
 |mark m=>cases m with|read a=>exact d _ rfl _ rfl|write a=>exact d _ rfl _ rfl|_=>exact f rfl
 |_=>exact f rfl
def yc{es g fn pos B}(f:∀a∈MemOp.ofEvents g fn pos es,∀x,a.act.touch?=some x->∀b,blk x.loc=some b->b<B)(h:∀e∈es,(MemAct.ofEvent e).touch?=none->(MemAct.ofEvent e).low B):∀a∈MemOp.ofEvents g fn pos es,a.act.low B:=by intro a c;refine JC (f a c) λi=>?_;obtain⟨e,d,rfl⟩:=Go.Conc.mem_ofEvents c;exact h e d i
def lY{w w':x6}(h:∀a∈t,a.act.low w.heap.size)(c:w.heap.size<=w'.heap.size){u:Trace}(d:∀a∈u,a.act.low w'.heap.size):∀a∈t++u,a.act.low w'.heap.size:=by intro a b;obtain h1|h1:=VJ.1 b;exact MemAct.low_mono c (h a h1);exact d a h1
def NK{K M es}(b:∀e∈es,EvK Wg K M e\/EvB Wg e)(g fn pos):∀c∈MemOp.ofEvents g fn pos es,c.act≠ .mark (.release (stA Wg)):=by refine norel_of λe a=>?_;obtain h|h:=b e a;exact h.2.2.2.1 _;exact h.2.1 _
def KP{w w':x6}{K M:Nat->Prop}(o:∀b,K b->b<w.heap.size)(p:w.heap.size<=w'.heap.size)(q:Wg<w.heap.size){es}(i:∀e∈es,EvK Wg (orK K w w') M e\/EvB Wg e)(g fn pos):∀j∈MemOp.ofEvents g fn pos es,j.act.low w'.heap.size:=by refine yc (λj d x k b l=>?_) λe a m=>?_;obtain⟨e,a,rfl⟩:=Go.Conc.mem_ofEvents d;obtain h|h:=i e a;obtain⟨r,c,h⟩:=h.1 x k;rw[l]at c;cases c;obtain⟨_,f|f,_⟩|⟨rfl,_⟩:=h;exact UL (o b f) p;exact f.2;omega;have:=(h.1 x k).1;rw[l]at this;cases this;omega;obtain h|h:=i e a;exact h.2.2.2.2 _ m;exact h.2.2 _ (by omega) m
def mu(σ:GSt P ty Wg):List (Rk P ty Wg)×Rk P ty Wg×Nat×Rk P ty Wg:=((List.range n).map σ.R,σ.r0,sumTo base σ.q,σ.rc)
def E3(P ty Wg):List (Rk P ty Wg)×Rk P ty Wg×Nat×Rk P ty Wg->List (Rk P ty Wg)×Rk P ty Wg×Nat×Rk P ty Wg->Prop:=Prod.Lex (iY (Rk.lt P ty Wg)) (Prod.Lex (Rk.lt P ty Wg) (Prod.Lex (· < ·) (Rk.lt P ty Wg)))
def Qh(P ty Wg):WellFounded (E3 P ty Wg):=(Prod.lex ⟨_,iY.wf (Rk.wf P ty Wg)⟩ (Prod.lex ⟨_,Rk.wf P ty Wg⟩ (Prod.lex Nat.lt_wfRel ⟨_,Rk.wf P ty Wg⟩))).wf
def Qi{b}(f i)(x:b)(c:i<n):(List.range n).map (upd f i x)=((List.range n).map f).set i x:=by apply List.ext_getElem?;intro k;rw[Xz];by_cases h:i=k;subst h;simp[c,upd_same];rw[UG h];by_cases a:k<n;simp[a,upd_ne f x (U4 h)];simp[a]
def jR{σ a i ρ}(b:i<n)(c:a.R=upd σ.R i ρ)(h:Rk.lt P ty Wg ρ (σ.R i)):E3 P ty Wg (mu (n:=n) (base:=base) a) (mu (n:=n) (base:=base) σ):=by refine Prod.Lex.left _ _ ?_;rw[c,Qi _ _ _ b];exact iY.set (by simp[b]) h
end
end
section
variable {P:Program} {ty:TypeId} {Wg ch:Nat} {z:Zj} {An:aL} {HV:Nat->Option Zj} {Fin:List Zj->aL} {n base N0:Nat} {shun:Nat->Prop} {F0:x6} {t₀ t:Trace} {gs:Array Zx} {w w':x6} {sl:Option (Nat×Nat)} {σ:GSt P ty Wg}
structure fP(Wg ch base N0:Nat)(shun:Nat->Prop):Prop where
 lZ:0<base
 NL:∀b,shun b->b<N0
 wg_:N0<=Wg
 ch_:N0<=ch
 ne_:Wg≠ch
def bQ(gs:Array Zx)(f x k)(g':Zx)(h:k≠x):((gs.map f).setIfInBounds x g')[k]? =(gs[k]?).map f:=by rw[UU (U4 h),Vk]
def fI(gs:Array Zx)(f x)(g':Zx)(h:x<gs.size):((gs.map f).setIfInBounds x g')[x]? =some g':=by rw[Vz];simp[h]
def AJ{D':Nat->WD}{D:Nat->WD}{j}(h:∀i,i<j->((D' i).s<=6/\HV i≠none↔(D i).s<=6/\HV i≠none)){mt:oy} (c:∃l:List Nat,l.Nodup/\(∀i,i∈l↔i<j/\(D i).s<=6/\HV i≠none)/\mt.got=l.filterMap HV):∃l:List Nat,l.Nodup/\(∀i,i∈l↔i<j/\(D' i).s<=6/\HV i≠none)/\mt.got=l.filterMap HV:=by obtain⟨l,d,e,f⟩:=c;refine⟨l,d,λi=>?_,f⟩;rw[e i];constructor;rintro⟨a,b⟩;exact⟨a,(h i a).2 b⟩;rintro⟨a,b⟩;exact⟨a,(h i a).1 b⟩
def fQ{ct}(h:ct≠some .quit):fe ct=false:=by cases ct with|none=>rfl|some c=>cases c<;>first|rfl|exact absurd rfl h
def dV{a k r g}{u:Trace}(h:RelBy a t k r)(b:∀c∈u,c.g=g)(d:g≠k):RelBy a (t++u) k r:=RelBy.appOther h b d
def ly{u}(h:AcqAll Wg n base t)(e:∀i r,i<n->RelBy (stA Wg) t (base+i) r->RelBy (stA Wg) (t++u) (base+i) r):AcqAll Wg n base (t++u):=by obtain⟨q,c,f,g,j⟩:=h;have a:=lt_of_act? c;exact⟨q,by rw[act?_old a];exact c,by rw[g?_old a];exact f,(heard_old a).2 g,λi d=>let⟨r,k,b⟩:=j i d;⟨r,e i r d k,b⟩⟩
def lz{u}(h:CX Wg ch n base t)(k:∀i r,i<n->RelBy (stA Wg) t (base+i) r->RelBy (stA Wg) (t++u) (base+i) r)(l:∀i,t.size<=i->(t++u).g? i=some (base+n)->¬(t++u).counts i):CX Wg ch n base (t++u):=by obtain⟨q,p,f,m,o,s,v,g,x,y,A⟩:=h;have c:=lt_of_act? f;have d:=lt_of_act? g;refine⟨q,p,by rw[act?_old c];exact f,by rw[g?_old c];exact m,(heard_old c).2 o,λi b=>let⟨r,B,e⟩:=s i b;⟨r,k i r b B,e⟩,v,by rw[act?_old d];exact g,by rw[g?_old d];exact x,(heard_old d).2 y,λi b j=>?_⟩;obtain a|hge:=UK i t.size;rw[counts_old a];exact A i b (by rw[<-g?_old (u:=u) a];exact j);exact l i hge j
def jk{u:Trace}{g k}(e:∀b∈u,b.g=g)(c:g≠k):∀i,t.size<=i->(t++u).g? i=some k->¬(t++u).counts i:=by intro i l f;obtain⟨b,h,a⟩:=Vi.1 f;obtain⟨j,_⟩|⟨_,d⟩:=getElem?_append_cases h;omega;rw[e b d]at a;exact absurd a c
def GI.worker(G:fP Wg ch base N0 shun)(h:GI P ty Wg ch z An HV Fin n base N0 shun F0 t₀ gs w t σ){i}(S:i<σ.j){g g' es D' ρ' st' sm'} (hg:gs[base+i]? =some g) (bo:stepG P false g w=.go g' w' es) (ad:g'.status=.running\/g'.status=.finished) (af:w'.os=w.os/\w'.tape=w.tape/\w'.output=w.output) (x:w.heap.size<=w'.heap.size) (I:∀b,b<w.heap.size->b≠Wg->σ.own b≠base+i->w'.heap[b]? =w.heap[b]?) (hwg:WgAt ty Wg w' st' sm') (ag:∀e∈es,EvK Wg (orK (σ.D i).K w w') (orK (σ.D i).M w w') e\/EvB Wg e) (hK:∀b,D'.K b->orK (σ.D i).K w w' b) (hM:∀b,D'.M b->orK (σ.D i).M w w' b) (hS:WSit P ty Wg ch z (HV i) D' ρ' g' w') (br:Rk.lt P ty Wg ρ' (σ.R i)) (hd:deafBehind (σ.D i).d es=D'.d) (aM:(σ.D i).s<=5->∀r,RelBy (stA Wg) t (base+i) r->RelBy (stA Wg) (t++MemOp.ofEvents (base+i) g.frame.fn g.frame.place es) (base+i) r) (aR:D'.s<=5->(σ.D i).s<=5\/∃r,RelBy (stA Wg) (t++MemOp.ofEvents (base+i) g.frame.fn g.frame.place es) (base+i) r) (ak:∀p,(p=σ.ct\/(σ.ct=some .blk/\p=some .w3))->(mayWake P g=true->p≠some .blk)->Mode σ.j (upd σ.D i D') σ.mt p st' sm') (an:D'.s<=6/\HV i≠none↔(σ.D i).s<=6/\HV i≠none) (h7:D'.s≠7):∃gs' o,runT P (crowd gs w sl) (base+i)=(.next (crowd gs' w' sl),MemOp.ofEvents (base+i) g.frame.fn g.frame.place es)/\GI P ty Wg ch z An HV Fin n base N0 shun F0 t₀ gs' w' (t++MemOp.ofEvents (base+i) g.frame.fn g.frame.place es) o/\E3 P ty Wg (mu (n:=n) (base:=base) o) (mu (n:=n) (base:=base) σ):=by
 have hb:=G.lZ;have W:=h.w_;have T:=h.t_;have Q:=h.g_;have bs:=UL S Q.jn;have a6:=(UO.1 hg).1;have bx:(base+i==0)=false:=by simp;omega
 have ao:=runT_crowd_go (P:=P) (sl:=sl) (i:=base+i) hg (by rw[bx];exact bo);have v:∀op∈MemOp.ofEvents (base+i) g.frame.fn g.frame.place es,op.g=base+i:=λop ar=>by obtain⟨e,_,rfl⟩:=Go.Conc.mem_ofEvents ar;rfl
 have a7:=T.tr.wu Wg (.inl rfl);have ab:=T.tr.wu ch (.inr rfl);have L:=I ch W.sp.2 (U4 G.ne_) (by rw[ab];omega);have ax:WgLive ty Wg w':=⟨_,_,hwg⟩
 have U:∀K:Nat->Prop,(∀b,K b->b<w.heap.size/\b≠Wg/\σ.own b≠base+i)->RK ty Wg K w w':=λK ay=>⟨λb f=>I b (ay b f).1 (ay b f).2.1 (ay b f).2.2,λ_=>ax,x⟩
 have N:∀b,shun b->b<w.heap.size:=λb f=>UL (G.NL b f) W.gy;have a8:=W.E1 i S;obtain⟨p,V,O,bA,bB⟩:∃p V,(p=σ.ct\/(σ.ct=some .blk/\p=some .w3))/\(mayWake P g=true->p≠some .blk)/\
  ∀c,p=some c->∃gc,((gs.map (woken P g g' w')).setIfInBounds (base+i) g')[base+n]? =some gc/\CSit P ty Wg ch An (VW σ.j (upd σ.D i D')) c σ.dc σ.Kc σ.Mc V gc w':=by
  cases y:σ.ct with
  |none=>exact⟨none,σ.rc,.inl rfl,λ_=>by simp,λc e=>by cases e⟩
  |some c=>
   obtain⟨gc,bC,b0⟩:=Q.cl c y;have b1:σ.ct≠none:=by rw[y];simp
   have hr:=U _ λb f=>by obtain⟨a1,C,H,B⟩:=W.kc b1 b f;refine⟨a1,λe=>C (.inl e),?_⟩;rcases B with B|B<;>omega
   obtain⟨c',b7,J,h2,h3⟩:=(b0.rely hr).woken g g' w' ad;obtain⟨b2,h4⟩:=J.RA (VW σ.j (upd σ.D i D'));refine⟨some c',b2,?_,λe=>by simpa using h3 e,λc2 e=>?_⟩
   .obtain rfl|⟨rfl,rfl⟩:=h2
    .exact .inl rfl
    .exact .inr ⟨rfl,rfl⟩
   .cases e
    refine⟨_,?_,h4⟩;rw[bQ _ _ _ _ _ (by omega),bC];rfl
 have A:p=none↔σ.ct=none:=by obtain rfl|⟨a,rfl⟩:=O;rfl;simp[a]
 have X:p=some .quit↔σ.ct=some .quit:=by obtain rfl|⟨a,rfl⟩:=O;rfl;simp[a]
 have ba:p=some .cl↔σ.ct=some .cl:=by obtain rfl|⟨a,rfl⟩:=O;rfl;simp[a]
 have b3:fe p=fe σ.ct:=by obtain rfl|⟨a,rfl⟩:=O;rfl;rw[a];rfl
 have Y:∀m r,m<n->RelBy (stA Wg) t (base+m) r->(m=i->(σ.D i).s<=5)->RelBy (stA Wg) (t++MemOp.ofEvents (base+i) g.frame.fn g.frame.place es) (base+m) r:=λm r _ hr E=>by by_cases e:m=i;subst e;exact aM (E rfl) r hr;exact dV hr v (by omega)
 have l:∀b,b<w.heap.size->iC σ.own (base+i) w w' b=σ.own b:=λb f=>sX f;have yb:(σ.ct=some .cl\/σ.ct=some .quit)->(σ.D i).s<=5:=by intro y;rw[h.m_.yb (by rcases y with y|y<;>rw[y]<;>trivial) i S];omega
 let o:GSt P ty Wg:={σ with D:=upd σ.D i D',R:=upd σ.R i ρ',ct:=p,rc:=V,own:=iC σ.own (base+i) w w',st:=st',sm:=sm'}
 refine⟨_,o,ao,⟨?_,?_,?_,ak p O bA,?_⟩,jR bs rfl br⟩;refine⟨af.1.trans W.os,af.2.1.trans W.tape,af.2.2.trans W.output,UJ W.gy x,λb f=>?_,?_,hwg,⟨UL W.sp.1 x,UL W.sp.2 x⟩,?_,?_,?_,?_,?_,?_,?_,?_,?_,?_,λk=>UJ (W.CW k) x⟩;rw[I b (UL f W.gy) (by have:=G.wg_;omega) (λe=>by have:=(W.owns b (by omega)).1;omega)];exact W.old b f;obtain⟨s,E⟩:=W.chn;exact⟨s,by rw[L,E];show _=some (Obj.chan 0 #[] (fe p) s s false);rw[b3]⟩;intro m q b f;by_cases e:m=i;subst e;simp only[o,upd_same]at f;obtain hb2|hb2:=hK b f;obtain⟨a1,C,H,B⟩:=W.kw _ S b hb2;refine⟨UL a1 x,C,H,?_⟩;show iC σ.own (base+m) w w' b=base+m\/(iC σ.own (base+m) w w' b=0/\b<σ.low (base+m));rw[l b a1];exact B;refine⟨hb2.2,λe=>?_,λe=>absurd (N b e) (VN.2 hb2.1),.inl (jQ hb2)⟩;obtain e|e:=e;have:=W.sp.1;have:=hb2.1;omega;have:=W.sp.2;have:=hb2.1;omega;have hb2:(σ.D m).K b:=by simpa[o,upd_ne σ.D D' e]using f
 obtain⟨a1,C,H,B⟩:=W.kw m q b hb2;refine⟨UL a1 x,C,H,?_⟩;show iC σ.own (base+i) w w' b=base+m\/(iC σ.own (base+i) w w' b=0/\b<σ.low (base+m));rw[l b a1];exact B;intro m q b f;by_cases e:m=i;subst e;simp only[o,upd_same]at f;obtain hb2|hb2:=hM b f;have:=W.mw _ S b hb2;have F:=(W.owns b (by omega)).2.2.1;show iC σ.own (base+m) w w' b=base+m;rw[l b F];exact this;exact jQ hb2;have hb2:(σ.D m).M b:=by simpa[o,upd_ne σ.D D' e]using f
 have:=W.mw m q b hb2;have F:=(W.owns b (by omega)).2.2.1;show iC σ.own (base+i) w w' b=base+m;rw[l b F];exact this;intro b f;obtain⟨a1,C,H,B⟩:=W.k0 b f;exact⟨UL a1 x,C,H,(l b a1).trans B⟩;intro b f;obtain⟨a1,C,H,B,a5⟩:=W.m0 b f;exact⟨UL a1 x,C,H,(l b a1).trans B,a5⟩;intro y b f;obtain⟨a1,C,H,B⟩:=W.kc (λe=>y (A.2 e)) b f;refine⟨UL a1 x,C,H,?_⟩;show iC σ.own (base+i) w w' b=base+n\/(iC σ.own (base+i) w w' b=0/\b<σ.low (base+n));rw[l b a1];exact B;intro y b f;have:=W.mc (λe=>y (A.2 e)) b f;have F:=(W.owns b (by omega)).2.2.1;exact(l b F).trans this;intro b f;by_cases hn:Io w w' b;have e:o.own b=base+i:=jQ hn;refine⟨UJ W.gy hn.1,by rw[e];omega,hn.2,λe=>?_⟩;obtain e|e:=e;have:=W.sp.1;have:=hn.1;omega;have:=W.sp.2;have:=hn.1;omega;have e:o.own b=σ.own b:=by show iC σ.own (base+i) w w' b=_;unfold iC;exact UG hn
 rw[e]at f⊢;obtain⟨a1,C,H,B⟩:=W.owns b f;exact⟨a1,C,UL H x,B⟩;exact W.E1;exact W.E2.trans (not_congr A.symm);exact W.CU;refine⟨?_,?_,?_,jB T.gb λop ar=>by rw[v op ar];have:=Q.jn;omega,?_,?_,?_,?_,?_,?_,?_,?_⟩;obtain⟨u,rfl⟩:=T.pre;exact⟨_,VU ..⟩;have ht:=T.tr.owned (own':=iC σ.own (base+i) w w') T.tb l (λb f=>by obtain rfl|rfl:=f;rw[l _ W.sp.1];exact a7;rw[l _ W.sp.2];exact ab);exact ht.app v (λe=>absurd e (by omega)) (Ip hb a8 (λb f=>by obtain⟨a1,C,H,B⟩:=W.kw i S b f;exact⟨a1,C,H,B⟩) (W.mw i S) W.sp N ag _ _);exact lY T.seen x (KP (λb f=>(W.kw i S b f).1) x W.sp.1 ag _ _ _);exact T.norel.app (NK ag _ _ _);exact(Deaf_other t (by omega) _ v).trans T.d0;intro m q;by_cases e:m=i;subst e;simp only[o,upd_same];rw[Deaf_own,T.dw _ S];exact hd;simp only[o,upd_ne σ.D D' e];exact(Deaf_other t (by omega) _ v).trans (T.dw m q);intro y;exact(Deaf_other t (by omega) _ v).trans (T.dc λe=>y (A.2 e));intro k hk J h2;exact(Deaf_other t (g:=k) (g':=base+i) (λe=>J i S e.symm) _ v).trans (T.above k hk J λe=>h2 λe'=>e (A.1 e'));intro m q E;by_cases e:m=i;subst e;simp only[o,upd_same]at E;obtain bb|hr:=aR E;obtain⟨r,hr⟩:=T.rel _ S bb;exact⟨r,aM bb r hr⟩;exact hr;simp only[o,upd_ne σ.D D' e]at E;obtain⟨r,hr⟩:=T.rel m q E;exact⟨r,dV hr v (by omega)⟩;intro y;have Z:=ba.1 y;exact ly (T.acq Z) λm r q hr=>Y m r q hr λ_=>yb (.inl Z);intro y;have Z:=X.1 y;exact lz (T.cls Z) (λm r q hr=>Y m r q hr λ_=>yb (.inr Z)) (jk v (by omega));have aa:σ.ct≠some .quit->∃s r tm,w'.heap[ch]? =some (.chan 0 #[] false s r tm):=by intro y;obtain⟨s,E⟩:=W.chn;rw[fQ y]at E;exact⟨s,s,false,L.trans E⟩
 refine⟨?_,Q.jn,λy=>Q.cn λe=>y (A.2 e),?_,A.trans Q.mc,?_,?_,bB,?_,?_,?_⟩;have:(if p.isSome then 1 else 0)=(if σ.ct.isSome then 1 else 0):=by obtain rfl|⟨a,rfl⟩:=O;rfl;rw[a];rfl
 simp only[Vg,Wq];rw[this];exact Q.size;obtain⟨a,ha,aK⟩:=Q.mn;refine⟨woken P g g' w' a,by rw[bQ _ _ _ _ _ (by omega),ha];rfl,?_⟩;have hr:=U _ λb f=>by obtain⟨a1,C,H,B⟩:=W.k0 b f;exact⟨a1,λe=>C (.inl e),by omega⟩
 have e:woken P g g' w' a=a:=by obtain⟨J,_⟩|⟨r,E,g2,J,_⟩:=aK.status;unfold Go.Conc.woken;split;exact again_running _ (.inl J);rfl;exact aK.woken g g' w' (aa (Q.mb ⟨r,E,J⟩).1)
 rw[e];exact aK.rely hr;intro m q;by_cases e:m=i;subst e;refine⟨g',fI _ _ _ _ a6,?_⟩;simp only[o,upd_same];exact hS;obtain⟨gw,b4,bk⟩:=Q.wk m q;refine⟨woken P g g' w' gw,by rw[bQ _ _ _ _ _ (by omega),b4];rfl,?_⟩;have hr:=U _ λb f=>by obtain⟨a1,C,H,B⟩:=W.kw m q b f;refine⟨a1,λe=>C (.inl e),?_⟩;rcases B with B|B<;>omega
 have e':=bk.woken g g' w' λbm=>aa λy=>by rw[h.m_.yb (by rw[y];trivial) m q]at bm;cases bm
 simp only[o,upd_ne σ.D D' e,upd_ne σ.R ρ' e];rw[e'];exact bk.rely hr;intro m J h2;simp only[o,upd_ne σ.R ρ' (show m≠i fromλe=>by subst e;exact absurd S (VN.2 J))];exact Q.unb m J h2;intro k gk J h2 hk;rw[bQ _ _ _ _ _ (by omega)]at hk;obtain⟨b5,b6,rfl⟩:=Vi.1 hk;have hq:=Q.lv k b5 J h2 b6;rw[woken_quitsD hq,Deaf_other t (by omega) _ v];exact hq;rintro⟨r,E,e⟩;obtain⟨J,h2⟩:=Q.mb ⟨r,E,e⟩;refine⟨λe'=>J (X.1 e'),λm q=>?_⟩;by_cases e':m=i;subst e';simp only[o,upd_same];exact h7;simp only[o,upd_ne σ.D D' e'];exact h2 m q;intro r E e;exact X.2 (Q.mq r E e)
 exact AJ (λm q=>by
  by_cases e:m=i
  .subst e;simp only[o,upd_same];exact an
  .simp only[o,upd_ne σ.D D' e]) h.v_
end
section
variable {j:Nat} {D:Nat->WD} {D':WD} {mt:oy} {ct ct':Option CTag} {st sm:Int} {i:Nat}
def uk(a:i<j):VW j (upd D i D')+kg (D i)=VW j D+kg D':=sumTo_upd D D' kg a
def Mode.same(r:i<j)(h:Mode j D mt ct st sm)(g:D'.s=(D i).s\/(4<=D'.s/\4<=(D i).s)):Mode j (upd D i D') mt ct st sm:=by
 have x:kg D'=kg (D i):=by unfold kg;obtain e|⟨a,b⟩:=g;rw[e];rw[UH a,UH b]
 have m:VW j (upd D i D')=VW j D:=by have:=uk (D':=D') r (D:=D);omega
 have o:vp j D->vp j (upd D i D'):=by intro h k f;by_cases e:k=i;subst e;rw[upd_same];obtain e|⟨a,_⟩:=g;rw[e];exact h k f;exact .inl a;rw[upd_ne D D' e];exact h k f
 have p:E0 j D->E0 j (upd D i D'):=by intro h k f;by_cases e:k=i;subst e;rw[upd_same];obtain e|⟨_,b⟩:=g;rw[e];exact h k f;rw[h k f]at b;omega;rw[upd_ne D D' e];exact h k f
 cases h with
 |opn a b c=>rw[<-m];exact .opn a (o b) (by rw[m];exact c)
 |reg a b c=>rw[<-m];exact .reg a (o b) (by rw[m];exact c)
 |last L a b c d=>(have e:(upd D i D' L).s=(D L).s:=by by_cases e:L=i;subst e;rw[upd_same];obtain e|⟨_,b⟩:=g;exact e;rcases c with c|c|c<;>rw[c]at b<;>omega;rw[upd_ne D D' e]);rw[<-e];refine .last L a b (by rw[e];exact c) λk f l=>?_;by_cases q:k=i;subst q;rw[upd_same];have:=d k f l;obtain u|⟨_,v⟩:=g;rw[u];exact this;rw[this]at v;omega;rw[upd_ne D D' q];exact d k f l
 |sema a b c=>exact .sema a b (p c)
 |fin a b=>exact .fin a (p b)
def Mode.retag(h:Mode j D mt ct st sm)(e:ct'=ct\/(ct=some .blk/\ct'=some .w3)):Mode j D mt ct' st sm:=by obtain rfl|⟨rfl,rfl⟩:=e;exact h;cases h with|opn a=>exact a.elim|reg a b c=>exact .reg trivial b c|last L a b c d=>exact .last L trivial b c d|sema a b c=>exact .sema trivial (by simp) c|fin a=>exact a.elim
def Mode.isLast(h:Mode j D mt ct st sm)(f:i<j)(g:(D i).s=3\/(D i).s=2\/(D i).s=1):CTag.reg ct/\(∀k,k<j->k≠i->(D k).s=0)/\st=(if(D i).s=1 then 0 else 1)/\sm=0:=by
 cases h with
 |opn a b=>rcases b i f with x|x<;>omega
 |reg a b=>rcases b i f with x|x<;>omega
 |last L a b c d=>by_cases e:i=L;subst e;exact⟨a,d,rfl,rfl⟩;have:=d i f e;omega
 |sema a b c=>have:=c i f;omega
 |fin a b=>have:=b i f;omega
def Iq(a:i<j)(b:4<=(D i).s):1<=VW j D:=by have:=le_sumTo (f:=λi=>kg (D i)) a;have e:kg (D i)=1:=UH b;unfold VW;omega
def NM(j D):VW j D<=j:=by (have:=sumTo_le (f:=λi=>kg (D i)) (c:=1) (j:=j) λi _=>by unfold kg;split<;>omega);unfold VW;omega
def RD(h:VW j D=1)(c:vp j D)(d:i<j)(f:4<=(D i).s):∀k,k<j->k≠i->(D k).s=0:=by intro k b a;obtain g|h0:=c k b;exfalso;have l:kg (⟨0,0,λ_=>False,λ_=>False⟩:WD)=0:=rfl;have m:=uk (D':=⟨0,0,λ_=>False,λ_=>False⟩) d (D:=D);have e:kg (D i)=1:=UH f;have o:=Iq (D:=upd D i ⟨0,0,λ_=>False,λ_=>False⟩) b (by rw[upd_ne _ _ a];exact g);omega;exact h0
def Mode.isOpen(h:Mode j D mt ct st sm)(f:i<j)(k:4<=(D i).s):vp j D/\sm=0/\((CTag.opn ct/\(∀g,ct=some (.w2 g)->VW j D<=g/\1<=g)/\st=((VW j D+mt.pend:Nat):Int)*KK)\/(CTag.reg ct/\st=((VW j D:Nat):Int)*KK+1)):=by cases h with|opn a b c=>exact⟨b,rfl,.inl ⟨a,c,rfl⟩⟩|reg a b c=>exact⟨b,rfl,.inr ⟨a,rfl⟩⟩|last L a b c d=>by_cases e:i=L;subst e;omega;have:=d i f e;omega|sema a b c=>have:=c i f;omega|fin a b=>have:=b i f;omega
end
section
variable {P:Program} {ty:TypeId} {Wg ch:Nat} {z:Zj} {An:aL} {HV:Nat->Option Zj} {Fin:List Zj->aL} {n base N0:Nat} {shun:Nat->Prop} {F0:x6} {t₀ t:Trace} {gs:Array Zx} {w w':x6} {sl:Option (Nat×Nat)} {σ:GSt P ty Wg}
def rH{k r fn pos es}(h:RelBy (stA Wg) t k r)(a:∀e∈es,(MemAct.ofEvent e).touch?=none):RelBy (stA Wg) (t++MemOp.ofEvents k fn pos es) k r:=h.appOwn fn pos es λj e b=>.inl (a e (VI b))
def lA{k r d fn pos es}(h:RelBy (stA Wg) t k r)(g:Deaf t k=d+1)(f:∀e∈es,∃a b,e=(⟨.cell a,b,true⟩:Event)):RelBy (stA Wg) (t++MemOp.ofEvents k fn pos es) k r:=by refine h.appOwn fn pos es λj e m=>.inr ⟨?_,?_⟩;obtain⟨a,b,rfl⟩:=f e (VI m);exact⟨a,b,rfl⟩;(have:deafBehind (Deaf t k) (es.extract 0 j)=Deaf t k:=by refine deafBehind_still (λx o=>?_) _;obtain⟨a,b,rfl⟩:=f x (by obtain⟨l,c⟩:=XB.1 o;rw[Ya]at c;split at c;exact VI c;cases c);simp);rw[this,g];omega
def yd{K M es}(h:∀e∈es,EvK Wg K M e)(d):deafBehind d es=d:=deafBehind_still (λe a=>⟨(h e a).2.1,(h e a).2.2.1⟩) d
def mL(a v)(c:a.block=Wg):(w.setCell a v).os=w.os/\(w.setCell a v).tape=w.tape/\(w.setCell a v).output=w.output/\(w.setCell a v).heap.size=w.heap.size/\∀b,b≠Wg->(w.setCell a v).heap[b]? =w.heap[b]? :=⟨rfl,rfl,rfl,by simp[World.setCell],λb d=>dU w a v b (by rw[c];exact d)⟩
def GI.gz(G:fP Wg ch base N0 shun)(h:GI P ty Wg ch z An HV Fin n base N0 shun F0 t₀ gs w t σ){i}(A:i<σ.j){g g' es s' d' ρ' st' sm'} (B:gs[base+i]? =some g) (q:stepG P false g w=.go g' w' es) (c:g'.status=.running\/g'.status=.finished) (C:w'=w\/∃a v,a.block=Wg/\w'=w.setCell a v) (hwg:WgAt ty Wg w' st' sm') (u:∀e∈es,EvB Wg e) (E:WSit P ty Wg ch z (HV i) ⟨s',d',(σ.D i).K,(σ.D i).M⟩ ρ' g' w') (x:Rk.lt P ty Wg ρ' (σ.R i)) (F:deafBehind (σ.D i).d es=d') (y:(σ.D i).s<=5->∀r,RelBy (stA Wg) t (base+i) r->RelBy (stA Wg) (t++MemOp.ofEvents (base+i) g.frame.fn g.frame.place es) (base+i) r) (l:s'<=5->(σ.D i).s<=5\/∃r,RelBy (stA Wg) (t++MemOp.ofEvents (base+i) g.frame.fn g.frame.place es) (base+i) r) (f:∀ct',(ct'=σ.ct\/(σ.ct=some .blk/\ct'=some .w3))->(mayWake P g=true->ct'≠some .blk)->Mode σ.j (upd σ.D i ⟨s',d',(σ.D i).K,(σ.D i).M⟩) σ.mt ct' st' sm') (k:s'<=6/\HV i≠none↔(σ.D i).s<=6/\HV i≠none) (H:s'≠7):∃gs' m,runT P (crowd gs w sl) (base+i)=(.next (crowd gs' w' sl),MemOp.ofEvents (base+i) g.frame.fn g.frame.place es)/\GI P ty Wg ch z An HV Fin n base N0 shun F0 t₀ gs' w' (t++MemOp.ofEvents (base+i) g.frame.fn g.frame.place es) m/\E3 P ty Wg (mu (n:=n) (base:=base) m) (mu (n:=n) (base:=base) σ):=by (have o:w'.os=w.os/\w'.tape=w.tape/\w'.output=w.output/\w'.heap.size=w.heap.size/\∀b,b≠Wg->w'.heap[b]? =w.heap[b]? :=by obtain rfl|⟨a,v,I,rfl⟩:=C;exact⟨rfl,rfl,rfl,rfl,λ_ _=>rfl⟩;exact mL a v I);exact h.worker (D':=⟨s',d',(σ.D i).K,(σ.D i).M⟩) G A B q c ⟨o.1,o.2.1,o.2.2.1⟩ (Wh o.2.2.2.1.symm) (λb _ p _=>o.2.2.2.2 b p) hwg (λe J=>.inr (u e J)) (λb p=>.inl p) (λb p=>.inl p) E x F y l f k H
end
section
variable {P:Program} {ty:TypeId} {Wg ch:Nat} {z:Zj} {An:aL} {HV:Nat->Option Zj} {Fin:List Zj->aL} {n base N0:Nat} {shun:Nat->Prop} {F0:x6} {t₀ t:Trace} {gs:Array Zx} {w w':x6} {sl:Option (Nat×Nat)} {σ:GSt P ty Wg}
def fO.bound{mt j d K M ρ g}(h:fO P ty Wg ch z An HV Fin n mt j d K M ρ g w):j+mt.pend<=n:=by cases h<;>simp only[oy.pend]<;>(try simp)<;>omega
def dW(P ty)(Wg ch:Nat)(z:Zj)(An:aL)(HV:Nat->Option Zj)(Fin:List Zj->aL)(n base N0:Nat)(shun:Nat->Prop)(F0:x6)(t₀ t:Trace)(gs:Array Zx)(w:x6)(sl:Option (Nat×Nat))(σ:GSt P ty Wg)(x:Nat):Prop:=∃gs' w' ops a,runT P (crowd gs w sl) x=(.next (crowd gs' w' sl),ops)/\GI P ty Wg ch z An HV Fin n base N0 shun F0 t₀ gs' w' (t++ops) a/\E3 P ty Wg (mu (n:=n) (base:=base) a) (mu (n:=n) (base:=base) σ)
def cj{a b}(h:a<b){x y}:Rk.lt P ty Wg (a,x) (b,y):=Prod.Lex.left _ _ h
def rI{a p q}(h:p<q){x y}:Rk.lt P ty Wg (a,p,x) (a,q,y):=Prod.Lex.right _ (Prod.Lex.left _ _ h)
def fF{a p x y}(h:RC.lt P ty Wg x y):Rk.lt P ty Wg (a,p,x) (a,p,y):=Prod.Lex.right _ (Prod.Lex.right _ h)
def ye(G:fP Wg ch base N0 shun)(h:GI P ty Wg ch z An HV Fin n base N0 shun F0 t₀ gs w t σ){i}(p:i<σ.j){g g' es ρ'} (B:gs[base+i]? =some g) (q:stepG P false g w=.go g' w' es) (f:g'.status=.running) (J:(σ.D i).s=8\/(σ.D i).s=6) (r:(σ.D i).d=0) (a:Eff (σ.D i).M w w') (k:∀e∈es,EvK Wg (orK (σ.D i).K w w') (orK (σ.D i).M w w') e) (C:WSit P ty Wg ch z (HV i) ⟨(σ.D i).s,0,orK (σ.D i).K w w',orK (σ.D i).M w w'⟩ ρ' g' w') (u:Rk.lt P ty Wg ρ' (σ.R i)):dW P ty Wg ch z An HV Fin n base N0 shun F0 t₀ t gs w sl σ (base+i):=by
 have W:=h.w_;have T:=h.t_;have o:=G.lZ;have y:=T.tr.wu Wg (.inl rfl);have c:∀b,b<w.heap.size->σ.own b≠base+i->w'.heap[b]? =w.heap[b]? :=λb l m=>a.keep b l λE=>m (W.mw i p b E);obtain⟨gs',v,l,m,F⟩:=h.worker (sl:=sl) (D':=⟨(σ.D i).s,0,orK (σ.D i).K w w',orK (σ.D i).M w w'⟩) (st':=σ.st) (sm':=σ.sm) G p B q (.inl f) ⟨a.os,a.tape,a.output⟩ a.size (λb l _ m=>c b l m)
  (W.wg.of_block (c Wg W.sp.1 (by omega))) (λe H=>.inl (k e H)) (λb o=>o) (λb o=>o) C u (by rw[yd k];exact r) (λA=>by omega) (λA=>by simp only at A;omega)
  (λI x _=>(h.m_.same (D':=⟨(σ.D i).s,0,orK (σ.D i).K w w',orK (σ.D i).M w w'⟩) p (.inl rfl)).retag x) WC (by simp only;omega)
 exact⟨gs',w',_,v,l,m,F⟩
def iP(G:fP Wg ch base N0 shun)(h:GI P ty Wg ch z An HV Fin n base N0 shun F0 t₀ gs w t σ){i}(k:i<σ.j){g g' ρ'} (l:gs[base+i]? =some g) (b:stepG P false g w=.go g' w #[]) (a:g'.status=.running\/g'.status=.finished) (m:(σ.D i).s≠7) (o:WSit P ty Wg ch z (HV i) ⟨(σ.D i).s,(σ.D i).d,(σ.D i).K,(σ.D i).M⟩ ρ' g' w) (c:Rk.lt P ty Wg ρ' (σ.R i)):dW P ty Wg ch z An HV Fin n base N0 shun F0 t₀ t gs w sl σ (base+i):=by
 obtain⟨gs',e,p,q,u⟩:=h.gz (sl:=sl) (w':=w) (st':=σ.st) (sm':=σ.sm) G k l b a (.inl rfl) h.w_.wg (by simp) o c rfl (λ_ r v=>rH v (by simp)) (λx=>.inl x)
  (λy f _=>(h.m_.same k (.inl rfl)).retag f) WC m
 exact⟨gs',w,_,e,p,q,u⟩
def NN{m:Mark}(h:∀a,m≠ .read a/\m≠ .write a):(MemAct.ofEvent (mk m)).touch?=none:=by unfold Go.ConcR.mk;cases m<;>simp[MemAct.ofEvent,MemAct.touch?];exact absurd rfl (h _).1;exact absurd rfl (h _).2
def pk(G:fP Wg ch base N0 shun)(h:GI P ty Wg ch z An HV Fin n base N0 shun F0 t₀ gs w t σ){i}(k:i<σ.j){g} (u:gs[base+i]? =some g) (v:(σ.D i).s=8/\HV i=none\/(σ.D i).s=6) (c:(σ.D i).d=0) {ρ} (y:σ.R i=((σ.D i).s,ρ)) (A:SR0 P ty Wg (σ.D i).K (σ.D i).M g w):dW P ty Wg ch z An HV Fin n base N0 shun F0 t₀ t gs w sl σ (base+i):=by
 obtain⟨H,g',l,m,f⟩:=A;have o:=(h.t_.dw i k).trans c;obtain⟨gs',p,B,C,E⟩:=h.gz (sl:=sl) (w':=w) (s':=5) (d':=0) (ρ':=(5,m,ρ.2)) (st':=σ.st) (sm':=σ.sm) G k u l (.inl (cO (λ_ _ x=>x.1) f)) (.inl rfl) h.w_.wg
  (λe r=>by simp at r;subst r;exact iO λa=>by simp) (.k1 f) (by rw[y];exact cj (by omega)) (by rw[c];rfl)
  (λI=>by omega) (λ_=>.inr ⟨_,RelBy.new o _ _⟩) (λF q _=>(h.m_.same k (.inr ⟨by simp,by omega⟩)).retag q) (by rcases v with⟨a,b⟩|a<;>simp[a]<;>assumption) (by simp)
 exact⟨gs',w,_,p,B,C,E⟩
def yg(G:fP Wg ch base N0 shun)(h:GI P ty Wg ch z An HV Fin n base N0 shun F0 t₀ gs w t σ){i}(p:i<σ.j){g} (u:gs[base+i]? =some g) (v:(σ.D i).s=5) (f:(σ.D i).d=0) {ρ} (y:σ.R i=((σ.D i).s,ρ)) (A:SK1 P ty Wg (σ.D i).K (σ.D i).M g w):dW P ty Wg ch z An HV Fin n base N0 shun F0 t₀ t gs w sl σ (base+i):=by
 obtain⟨q,g',k,m,b⟩:=A;obtain⟨gs',l,B,C,E⟩:=h.gz (sl:=sl) (w':=w) (s':=4) (d':=1) (ρ':=(4,m,ρ.2)) (st':=σ.st) (sm':=σ.sm) G p u k (.inl (cO (λ_ _ x=>x.1) b)) (.inl rfl) h.w_.wg
  (λe c=>by simp at c;subst c;exact iO λa=>by simp) (.d1 b) (by rw[y];exact cj (by omega)) (by rw[f];rfl)
  (λ_ r q=>rH q λe c=>by simp at c;subst c;exact NN λa=>by simp) (λ_=>.inl (by omega)) (λF o _=>(h.m_.same p (.inr ⟨by simp,by omega⟩)).retag o) (by simp[v]) (by simp)
 exact⟨gs',w,_,l,B,C,E⟩
def kS(a b):deafBehind 1 #[rd a,wr b]=1:=deafBehind_still (λe c=>by simp at c;rcases c with rfl|rfl<;>simp[rd,wr]) 1
def nk{es}(h:es=#[rd (stA Wg),wr (stA Wg)]\/es=#[rd (stA Wg)]\/es=#[wr (stA Wg)]):∀e∈es,∃a b,a.block=Wg/\e=(⟨.cell a,b,true⟩:Event):=by intro e c;rcases h with rfl|rfl|rfl<;>simp at c;obtain rfl|rfl:=c;exact⟨_,_,rfl,rfl⟩;exact⟨_,_,rfl,rfl⟩;subst c;exact⟨_,_,rfl,rfl⟩;subst c;exact⟨_,_,rfl,rfl⟩
def Ir(G:fP Wg ch base N0 shun)(hn:n<2147483647)(h:GI P ty Wg ch z An HV Fin n base N0 shun F0 t₀ gs w t σ){i}(p:i<σ.j){g} (Z:gs[base+i]? =some g) (hs:(σ.D i).s=4) (u:(σ.D i).d=1) {ρ} (hR:σ.R i=((σ.D i).s,ρ)) (X:SD1 P ty Wg (σ.D i).K (σ.D i).M g w):dW P ty Wg ch z An HV Fin n base N0 shun F0 t₀ t gs w sl σ (base+i):=by
 obtain⟨N,X⟩:=X;have W:=h.w_;obtain⟨hO,aa,F⟩:=h.m_.isOpen p (by omega);have ag:=Iq (D:=σ.D) p (by omega);have ak:=NM σ.j σ.D;have an:=h.g_.jn;have H:Deaf t (base+i)=0+1:=(h.t_.dw i p).trans u;have v:=nk (Wg:=Wg) (.inl rfl);have c:∀e∈#[rd (stA Wg),wr (stA Wg)],EvB Wg e:=λe I=>by obtain⟨a,b,ha,rfl⟩:=v e I;exact fg ha b
 have hwg:=W.wg;rw[aa]at hwg;have A:=λD':WD=>uk (D:=σ.D) (D':=D') p;have af:kg (σ.D i)=1:=UH (by omega);have B:∀{g':Zx} {q:Nat},QuitsD P q 1 g'->g'.status=.running\/g'.status=.finished:=λf=>f.status;obtain⟨Y,ab,J⟩|⟨Y,J⟩:=F
 ·
  have e1:σ.st=(((VW σ.j σ.D+σ.mt.pend-1:Nat):Int)+1)*KK+((0:Nat):Int):=by rw[J];simp only[KK];omega
  have ao:σ.mt.pend<=1:=by unfold oy.pend;split<;>(try split)<;>omega
  have ar:σ.j+σ.mt.pend<=n:=by obtain⟨a,_,hm⟩:=h.g_.mn;exact hm.bound
  rw[e1]at hwg;obtain⟨g',y,_,f⟩:=X (VW σ.j σ.D+σ.mt.pend-1) 0 (by omega) (by omega) hwg;obtain⟨q,f⟩:=f (by omega);obtain⟨gs',l,O,Q,S⟩:=h.gz (sl:=sl) (s':=0) (d':=1) (ρ':=(0,q,ρ.2)) G p Z y (B f) (.inr ⟨_,_,rfl,rfl⟩) (hwg.setSt _) c (.quit f) (by rw[hR];exact cj (by omega)) (by rw[u];exact kS _ _)
   (λ_ r N=>lA N H λe I=>by obtain⟨a,b,_,rfl⟩:=v e I;exact⟨a,b,rfl⟩) (λ_=>.inl (by omega))
   (λT o _=>by
    have ad:kg (⟨0,1,(σ.D i).K,(σ.D i).M⟩:WD)=0:=rfl;have hV:=A ⟨0,1,(σ.D i).K,(σ.D i).M⟩;refine Mode.retag (ct:=σ.ct) ?_ o;have e:(((VW σ.j σ.D+σ.mt.pend-1:Nat):Int))*KK+((0:Nat):Int)=((VW σ.j (upd σ.D i ⟨0,1,(σ.D i).K,(σ.D i).M⟩)+σ.mt.pend:Nat):Int)*KK:=by
     have:VW σ.j σ.D+σ.mt.pend-1=VW σ.j (upd σ.D i ⟨0,1,(σ.D i).K,(σ.D i).M⟩)+σ.mt.pend:=by omega
     rw[this];simp
    rw[e];refine .opn Y (λk U=>?_) λvs e=>?_
    .by_cases e:k=i
     .subst e;rw[upd_same];exact .inr rfl
     .rw[upd_ne _ _ e];exact hO k U
    .have:=ab vs e;omega) (by simp[hs]) (by simp)
  exact⟨gs',_,_,l,O,Q,S⟩
 ·
  have e1:σ.st=(((VW σ.j σ.D-1:Nat):Int)+1)*KK+((1:Nat):Int):=by rw[J];simp only[KK];omega
  rw[e1]at hwg;obtain⟨g',y,L,f⟩:=X (VW σ.j σ.D-1) 1 (by omega) (by omega) hwg;by_cases C:VW σ.j σ.D=1
  ·
   obtain⟨m,E⟩:=L ⟨by omega,rfl⟩;have hz:=RD C hO p (by omega);obtain⟨gs',l,O,Q,S⟩:=h.gz (sl:=sl) (s':=3) (d':=1) (ρ':=(3,m,ρ.2)) G p Z y (.inl (cO (λ_ _ x=>x.1) E)) (.inr ⟨_,_,rfl,rfl⟩) (hwg.setSt _) c (.d2 E) (by rw[hR];exact cj (by omega)) (by rw[u];exact kS _ _)
    (λ_ r N=>lA N H λe I=>by obtain⟨a,b,_,rfl⟩:=v e I;exact⟨a,b,rfl⟩) (λ_=>.inl (by omega))
    (λT o _=>by
     refine Mode.retag (ct:=σ.ct) ?_ o;have e:(((VW σ.j σ.D-1:Nat):Int))*KK+((1:Nat):Int)=(if(upd σ.D i ⟨3,1,(σ.D i).K,(σ.D i).M⟩ i).s=1 then 0 else 1):=by rw[upd_same,UG (by simp),C];simp
     rw[e];refine .last i Y p (by rw[upd_same];exact .inl rfl) λk U V=>?_;rw[upd_ne _ _ V];exact hz k U V) (by simp[hs]) (by simp)
   exact⟨gs',_,_,l,O,Q,S⟩
  .obtain⟨q,f⟩:=f (by omega)
   obtain⟨gs',l,O,Q,S⟩:=h.gz (sl:=sl) (s':=0) (d':=1) (ρ':=(0,q,ρ.2)) G p Z y (B f) (.inr ⟨_,_,rfl,rfl⟩) (hwg.setSt _) c (.quit f) (by rw[hR];exact cj (by omega)) (by rw[u];exact kS _ _)
    (λ_ r N=>lA N H λe I=>by obtain⟨a,b,_,rfl⟩:=v e I;exact⟨a,b,rfl⟩) (λ_=>.inl (by omega))
    (λT o _=>by
     have ad:kg (⟨0,1,(σ.D i).K,(σ.D i).M⟩:WD)=0:=rfl;have hV:=A ⟨0,1,(σ.D i).K,(σ.D i).M⟩;refine Mode.retag (ct:=σ.ct) ?_ o;have e:(((VW σ.j σ.D-1:Nat):Int))*KK+((1:Nat):Int)=((VW σ.j (upd σ.D i ⟨0,1,(σ.D i).K,(σ.D i).M⟩):Nat):Int)*KK+1:=by
      have:VW σ.j σ.D-1=VW σ.j (upd σ.D i ⟨0,1,(σ.D i).K,(σ.D i).M⟩):=by omega
      rw[this];simp
     rw[e];refine .reg Y (λk U=>?_) (by omega);by_cases e:k=i
     .subst e;rw[upd_same];exact .inr rfl
     .rw[upd_ne _ _ e];exact hO k U) (by simp[hs]) (by simp)
   exact⟨gs',_,_,l,O,Q,S⟩
def sY(a):deafBehind 1 #[rd a]=1:=deafBehind_still (λe b=>by simp at b;subst b;simp[rd]) 1
def Qj(a):deafBehind 1 #[wr a]=1:=deafBehind_still (λe b=>by simp at b;subst b;simp[wr]) 1
def KQ(G:fP Wg ch base N0 shun)(h:GI P ty Wg ch z An HV Fin n base N0 shun F0 t₀ gs w t σ){i}(q:i<σ.j){g} (J:gs[base+i]? =some g) (H:(σ.D i).s=3) (f:(σ.D i).d=1) {ρ} (L:σ.R i=((σ.D i).s,ρ)) (u:SD2 P ty Wg (σ.D i).K (σ.D i).M g w):dW P ty Wg ch z An HV Fin n base N0 shun F0 t₀ t gs w sl σ (base+i):=by
 obtain⟨I,u⟩:=u;obtain⟨v,N,l,y⟩:=h.m_.isLast q (by omega);rw[H]at l;have hwg:=h.w_.wg;rw[l,y]at hwg;obtain⟨g',A,m,c⟩:=u hwg;have B:Deaf t (base+i)=0+1:=(h.t_.dw i q).trans f;have o:=nk (Wg:=Wg) (es:=#[rd (stA Wg)]) (.inr (.inl rfl));obtain⟨gs',C,O,Q,S⟩:=h.gz (sl:=sl) (w':=w) (s':=2) (d':=1) (ρ':=(2,m,ρ.2)) (st':=1) (sm':=0) G q J A (.inl (cO (λ_ _ x=>x.1) c)) (.inl rfl) hwg
  (λe E=>by obtain⟨a,b,T,rfl⟩:=o e E;exact fg T b) (.d3 c) (by rw[L];exact cj (by omega)) (by rw[f];exact sY _)
  (λ_ r I=>lA I B λe E=>by obtain⟨a,b,_,rfl⟩:=o e E;exact⟨a,b,rfl⟩) (λ_=>.inl (by omega))
  (λU F _=>by
   refine Mode.retag (ct:=σ.ct) ?_ F;have:=Mode.last (j:=σ.j) (D:=upd σ.D i ⟨2,1,(σ.D i).K,(σ.D i).M⟩) (mt:=σ.mt) i v q (by rw[upd_same];exact .inr (.inl rfl)) λk V p=>by rw[upd_ne _ _ p];exact N k V p
   rw[upd_same,UG (by simp)]at this;exact this) (by simp[H]) (by simp)
 exact⟨gs',_,_,C,O,Q,S⟩
def KR(G:fP Wg ch base N0 shun)(h:GI P ty Wg ch z An HV Fin n base N0 shun F0 t₀ gs w t σ){i}(q:i<σ.j){g} (J:gs[base+i]? =some g) (H:(σ.D i).s=2) (f:(σ.D i).d=1) {ρ} (L:σ.R i=((σ.D i).s,ρ)) (u:SD3 P ty Wg (σ.D i).K (σ.D i).M g w):dW P ty Wg ch z An HV Fin n base N0 shun F0 t₀ t gs w sl σ (base+i):=by
 obtain⟨I,u⟩:=u;obtain⟨v,N,l,y⟩:=h.m_.isLast q (by omega);rw[H]at l;have hwg:=h.w_.wg;rw[l,y]at hwg;obtain⟨g',A,m,c⟩:=u hwg;have B:Deaf t (base+i)=0+1:=(h.t_.dw i q).trans f;have o:=nk (Wg:=Wg) (es:=#[wr (stA Wg)]) (.inr (.inr rfl));obtain⟨gs',C,O,Q,S⟩:=h.gz (sl:=sl) (s':=1) (d':=1) (ρ':=(1,m,ρ.2)) (st':=0) (sm':=0) G q J A (.inl (cO (λ_ _ x=>x.1) c)) (.inr ⟨_,_,rfl,rfl⟩) (hwg.setSt _)
  (λe E=>by obtain⟨a,b,T,rfl⟩:=o e E;exact fg T b) (.d4 c) (by rw[L];exact cj (by omega)) (by rw[f];exact Qj _)
  (λ_ r I=>lA I B λe E=>by obtain⟨a,b,_,rfl⟩:=o e E;exact⟨a,b,rfl⟩) (λ_=>.inl (by omega))
  (λU F _=>by
   refine Mode.retag (ct:=σ.ct) ?_ F;have:=Mode.last (j:=σ.j) (D:=upd σ.D i ⟨1,1,(σ.D i).K,(σ.D i).M⟩) (mt:=σ.mt) i v q (by rw[upd_same];exact .inr (.inr rfl)) λk V p=>by rw[upd_ne _ _ p];exact N k V p
   rw[upd_same,UH rfl]at this;exact this) (by simp[H]) (by simp)
 exact⟨gs',_,_,C,O,Q,S⟩
def NO(e)(b:e∈semEvents (smA Wg)):EvB Wg e:=by simp only[semEvents,VH,U8,Vf,Vh]at b;obtain rfl|rfl|rfl|rfl:=b;(exact iO (m:=.disable) λa=>by simp);exact fg rfl _;exact fg rfl _;exact iO (m:=.enable) λa=>by simp
def E4(a):deafBehind 1 (semEvents a)=1:=rfl
def KS{k r fn pos}(h:RelBy (stA Wg) t k r)(b:Deaf t k=1):RelBy (stA Wg) (t++MemOp.ofEvents k fn pos (semEvents (smA Wg))) k r:=by refine h.appOwn fn pos _ λj e a=>?_;rw[b];unfold semEvents at a⊢;match j,a with|0,a=>simp at a;subst a;exact .inl rfl|1,a=>simp at a;subst a;exact .inr ⟨⟨_,_,rfl⟩,WY 1⟩|2,a=>simp at a;subst a;exact .inr ⟨⟨_,_,rfl⟩,WY 1⟩|3,a=>simp at a;subst a;exact .inl rfl|j+4,a=>simp at a
def KT(G:fP Wg ch base N0 shun)(h:GI P ty Wg ch z An HV Fin n base N0 shun F0 t₀ gs w t σ){i}(c:i<σ.j){g} (E:gs[base+i]? =some g) (A:(σ.D i).s=1) (a:(σ.D i).d=1) {ρ} (F:σ.R i=((σ.D i).s,ρ)) (f:SD4 P ty Wg (σ.D i).K (σ.D i).M g w):dW P ty Wg ch z An HV Fin n base N0 shun F0 t₀ t gs w sl σ (base+i):=by
 obtain⟨B,l,f⟩:=f;obtain⟨m,H,b,o⟩:=h.m_.isLast c (by omega);rw[A]at b;have hwg:=h.w_.wg;rw[b,o]at hwg;obtain⟨g',p,q,C⟩:=f hwg;have u:=(h.t_.dw i c).trans a;obtain⟨gs',v,I,J,L⟩:=h.gz (sl:=sl) (s':=0) (d':=1) (ρ':=(0,q,ρ.2)) (st':=0) (sm':=1) G c E p C.status (.inr ⟨_,_,rfl,rfl⟩) (hwg.setSm _)
  NO (.quit C) (by rw[F];exact cj (by omega)) (by rw[a];exact E4 _)
  (λ_ r B=>KS B u) (λ_=>.inl (by omega))
  (λN x y=>by
   refine .sema ?_ (y l) λk O=>?_
   .obtain rfl|⟨_,rfl⟩:=x
    .exact m
    .trivial
   .by_cases e:k=i
    .subst e;rw[upd_same]
    .rw[upd_ne _ _ e];exact H k O e) (by simp[A]) (by simp)
 exact⟨gs',_,_,v,I,J,L⟩
def E5(G:fP Wg ch base N0 shun)(h:GI P ty Wg ch z An HV Fin n base N0 shun F0 t₀ gs w t σ){i}(v:i<σ.j){g q c} (C:gs[base+i]? =some g) (a:g.status=.running) (y:(σ.D i).s=0) (E:σ.R i=(0,q,c)) (b:QuitsD P q (σ.D i).d g):dW P ty Wg ch z An HV Fin n base N0 shun F0 t₀ t gs w sl σ (base+i):=by
 cases q with
 |zero=>rw[b.1]at a;cases a
 |succ q=>
  obtain⟨F,_⟩|⟨_,g',es,A,k,B⟩:=b;rw[F]at a;cases a
  obtain⟨gs',l,H,I,J⟩:=h.gz (sl:=sl) (w':=w) (s':=0) (d':=deafBehind (σ.D i).d es) (ρ':=(0,q,c)) (st':=σ.st) (sm':=σ.sm) G v C (k w) B.status (.inl rfl) h.w_.wg
   (λe o=>by
    have f:=A e o;obtain⟨p,K,N⟩:=e;cases p<;>simp[Event.mute]at f;rename_i m;cases m<;>simp at f
    .exact⟨λx b=>by simp[MemAct.ofEvent,MemAct.touch?]at b,by simp,λ_ _ _=>trivial⟩
    .exact⟨λx b=>by simp[MemAct.ofEvent,MemAct.touch?]at b,by simp,λ_ _ _=>trivial⟩) (.quit B) (by rw[E];exact rI (by omega)) rfl
   (λ_ r L=>rH L λe o=>touch_mute (A e o)) (λ_=>.inl (by omega)) (λM u _=>(h.m_.same v (.inl y.symm)).retag u) (by simp[y]) (by simp)
  exact⟨gs',w,_,l,H,I,J⟩
def E6(G:fP Wg ch base N0 shun)(J:n<2147483647)(h:GI P ty Wg ch z An HV Fin n base N0 shun F0 t₀ gs w t σ){i}(o:i<σ.j){g}(p:gs[base+i]? =some g)(y:g.status=.running):dW P ty Wg ch z An HV Fin n base N0 shun F0 t₀ t gs w sl σ (base+i)\/∃v c,HV i=some v/\(σ.D i).s=8/\(σ.D i).d=0/\σ.R i=(8,0,c)/\NI P ty Wg ch z v (σ.D i).K (σ.D i).M g w:=by
 obtain⟨g0,C,F⟩:=h.g_.wk i o;rw[p]at C;cases C;generalize e:σ.D i=D at F;generalize q:σ.R i=R at F;cases F with
 |run E=>obtain b|⟨_,g',w',es,H,f,r,A,u,B⟩:=E.qR;unfold SWk at b;(cases I:HV i with|none=>rw[I]at b;refine .inl (pk G h o p (.inl ⟨by rw[e],I⟩) (by rw[e]) (ρ:=(0,_)) (by rw[e,q]) (by rw[e];exact b))|some v=>rw[I]at b;exact .inr ⟨v,_,rfl,rfl,rfl,rfl,b⟩);exact .inl (ye G h o p f (u.status CY) (.inl (by rw[e])) (by rw[e]) (by rw[e];exact r) (by rw[e];exact A) (ρ':=(8,0,H)) (by rw[e];exact .run u) (by rw[q];exact fF B))
 |blk _ E=>cases y
 |r0 E=>refine .inl ?_;obtain b|⟨_,g',w',es,H,f,r,A,u,B⟩:=E.qR;exact pk G h o p (.inr (by rw[e])) (by rw[e]) (ρ:=(0,_)) (by rw[e,q]) (by rw[e];exact b);exact ye G h o p f (u.status λ_ _ _ _ x=>x.1) (.inr (by rw[e])) (by rw[e]) (by rw[e];exact r) (by rw[e];exact A) (ρ':=(6,0,H)) (by rw[e];exact .r0 u) (by rw[q];exact fF B)
 | @k1 K M g w c m f=>refine .inl ?_;have a:SK1 P ty Wg K M g w->dW P ty Wg ch z An HV Fin n base N0 shun F0 t₀ t gs w sl σ (base+i):=λk=>yg G h o p (by rw[e]) (by rw[e]) (ρ:=(m,c)) (by rw[e,q]) (by rw[e];exact k);cases m with|zero=>exact a (f w (.refl w))|succ m=>obtain k|⟨_,k⟩:=f;exact a (k w (.refl w));have:=k w (.refl w);cases b:stepG P false g w with|go g' w' es=>rw[b,goes_go]at this;obtain⟨⟨rfl,rfl⟩,l⟩:=this;exact iP G h o p b (.inl (cO (λ_ _ x=>x.1) l)) (by rw[e];simp) (ρ':=(5,m,c)) (by rw[e];exact .k1 l) (by rw[q];exact rI (by omega))|_=>rw[b]at this;exact this.elim
 | @d1 K M g w c m f=>refine .inl ?_;have a:SD1 P ty Wg K M g w->dW P ty Wg ch z An HV Fin n base N0 shun F0 t₀ t gs w sl σ (base+i):=λk=>Ir G J h o p (by rw[e]) (by rw[e]) (ρ:=(m,c)) (by rw[e,q]) (by rw[e];exact k);cases m with|zero=>exact a (f w (.refl w))|succ m=>obtain k|⟨_,k⟩:=f;exact a (k w (.refl w));have:=k w (.refl w);cases b:stepG P false g w with|go g' w' es=>rw[b,goes_go]at this;obtain⟨⟨rfl,rfl⟩,l⟩:=this;exact iP G h o p b (.inl (cO (λ_ _ x=>x.1) l)) (by rw[e];simp) (ρ':=(4,m,c)) (by rw[e];exact .d1 l) (by rw[q];exact rI (by omega))|_=>rw[b]at this;exact this.elim
 | @d2 K M g w c m f=>refine .inl ?_;have a:SD2 P ty Wg K M g w->dW P ty Wg ch z An HV Fin n base N0 shun F0 t₀ t gs w sl σ (base+i):=λk=>KQ G h o p (by rw[e]) (by rw[e]) (ρ:=(m,c)) (by rw[e,q]) (by rw[e];exact k);cases m with|zero=>exact a (f w (.refl w))|succ m=>obtain k|⟨_,k⟩:=f;exact a (k w (.refl w));have:=k w (.refl w);cases b:stepG P false g w with|go g' w' es=>rw[b,goes_go]at this;obtain⟨⟨rfl,rfl⟩,l⟩:=this;exact iP G h o p b (.inl (cO (λ_ _ x=>x.1) l)) (by rw[e];simp) (ρ':=(3,m,c)) (by rw[e];exact .d2 l) (by rw[q];exact rI (by omega))|_=>rw[b]at this;exact this.elim
 | @d3 K M g w c m f=>refine .inl ?_;have a:SD3 P ty Wg K M g w->dW P ty Wg ch z An HV Fin n base N0 shun F0 t₀ t gs w sl σ (base+i):=λk=>KR G h o p (by rw[e]) (by rw[e]) (ρ:=(m,c)) (by rw[e,q]) (by rw[e];exact k);cases m with|zero=>exact a (f w (.refl w))|succ m=>obtain k|⟨_,k⟩:=f;exact a (k w (.refl w));have:=k w (.refl w);cases b:stepG P false g w with|go g' w' es=>rw[b,goes_go]at this;obtain⟨⟨rfl,rfl⟩,l⟩:=this;exact iP G h o p b (.inl (cO (λ_ _ x=>x.1) l)) (by rw[e];simp) (ρ':=(2,m,c)) (by rw[e];exact .d3 l) (by rw[q];exact rI (by omega))|_=>rw[b]at this;exact this.elim
 | @d4 K M g w c m f=>refine .inl ?_;have a:SD4 P ty Wg K M g w->dW P ty Wg ch z An HV Fin n base N0 shun F0 t₀ t gs w sl σ (base+i):=λk=>KT G h o p (by rw[e]) (by rw[e]) (ρ:=(m,c)) (by rw[e,q]) (by rw[e];exact k);cases m with|zero=>exact a (f w (.refl w))|succ m=>obtain k|⟨_,k⟩:=f;exact a (k w (.refl w));have:=k w (.refl w);cases b:stepG P false g w with|go g' w' es=>rw[b,goes_go]at this;obtain⟨⟨rfl,rfl⟩,l⟩:=this;exact iP G h o p b (.inl (cO (λ_ _ x=>x.1) l)) (by rw[e];simp) (ρ':=(1,m,c)) (by rw[e];exact .d4 l) (by rw[q];exact rI (by omega))|_=>rw[b]at this;exact this.elim
 |quit L=>exact .inl (E5 G h o p y (by rw[e]) q (by rw[e];exact L))
def E7(Wg:Nat)(e:Event):Prop:=e=mk (.read (smA Wg))
def AK{e}(h:E7 Wg e){x}(a:(MemAct.ofEvent e).touch?=some x):blk x.loc=some Wg/\x.kind=.said/\x.write=false:=by unfold E7 at h;subst h;simp[Go.ConcR.mk,MemAct.ofEvent,MemAct.touch?]at a;subst a;exact⟨rfl,rfl,rfl⟩
theorem E8{own low:Nat->Nat}{K M:Nat->Prop} (o:∀b,K b->b<w.heap.size/\¬spB Wg ch b/\¬shun b/\own b=0) (p:∀b,M b->∀k,low k<=b) (c:∀k,low k<=w.heap.size) (d:∀b,w.heap.size<=b->own b=0) (q:0<base) (r:Wg<w.heap.size/\ch<w.heap.size) (f:∀b,shun b->b<w.heap.size) {es} (s:∀e∈es,EvK Wg (orK K w w') (orK M w w') e\/EvB Wg e\/(E7 Wg e/\low (base+n)=0)) (fn) (pos):∀m∈MemOp.ofEvents 0 fn pos es,∀x,m.act.touch?=some x->Okx shun (spB Wg ch) (base+n) own low 0 x:=by intro m g x i;obtain⟨e,j,rfl⟩:=Go.Conc.mem_ofEvents g;refine⟨.inl rfl,?_⟩;obtain h|h|⟨h,u⟩:=s e j;obtain⟨b,l,h⟩:=h.1 x i;refine⟨b,l,?_⟩;obtain⟨a,h2,h3⟩|⟨rfl,h2⟩:=h;obtain h2|h2:=h2;obtain⟨k1,v,y,A⟩:=o b h2;refine .inr (.inl ⟨A,v,y,a,.inl ⟨rfl,λB=>?_⟩⟩);obtain h3|h3:=h3 B;exact p b h3;exact absurd h3.1 (by omega);refine .inr (.inl ⟨d b h2.1,λe=>?_,λe=>absurd (f b e) (VN.2 h2.1),a,.inl ⟨rfl,λ_ k=>UJ (c k) h2.1⟩⟩);have:=h2.1;rcases e with e|e<;>omega;exact .inr (.inr ⟨.inl rfl,.inl h2⟩);obtain⟨a,h2⟩:=h.1 x i;exact⟨Wg,a,.inr (.inr ⟨.inl rfl,.inl h2⟩)⟩;obtain⟨a,h2,h3⟩:=AK h i;exact⟨Wg,a,.inr (.inr ⟨.inl rfl,.inr ⟨h2,.inl ⟨rfl,h3,u⟩⟩⟩)⟩
def um{a}(b:a.R=σ.R)(h:Rk.lt P ty Wg a.r0 σ.r0):E3 P ty Wg (mu (n:=n) (base:=base) a) (mu (n:=n) (base:=base) σ):=by unfold mu;rw[b];exact Prod.Lex.right _ (Prod.Lex.left _ _ h)
def GI.wR(G:fP Wg ch base N0 shun)(h:GI P ty Wg ch z An HV Fin n base N0 shun F0 t₀ gs w t σ){g g' es mt' K' M' ρ' d' st' sm'} (hg:gs[0]? =some g) (a7:stepG P true g w=.go g' w' es) (Z:g'.status=.running) (aa:w'.os=w.os/\w'.tape=w.tape/\w'.output=w.output) (f:w.heap.size<=w'.heap.size) (A:∀b,b<w.heap.size->b≠Wg->¬σ.M0 b->w'.heap[b]? =w.heap[b]?) (hwg:WgAt ty Wg w' st' sm') (U:∀e∈es,EvK Wg (orK σ.K0 w w') (orK σ.M0 w w') e\/EvB Wg e\/(E7 Wg e/\σ.ct=none)) (hK:∀b,K' b->orK σ.K0 w w' b) (hM:∀b,M' b->orK σ.M0 w w' b) (hS:fO P ty Wg ch z An HV Fin n mt' σ.j d' K' M' ρ' g' w') (a8:Rk.lt P ty Wg ρ' σ.r0) (hd:deafBehind σ.d0 es=d') (ab:∀m,(m=σ.ct\/(σ.ct=some .blk/\m=some .w3))->Mode σ.j σ.D mt' m st' sm') (an:mt'.got=σ.mt.got) (ba:((∃r st,mt'=.sp r st)\/mt'=.gc)↔((∃r st,σ.mt=.sp r st)\/σ.mt=.gc)) (ao:∀r H,mt'≠ .rb r H/\mt'≠ .rw r H):∃gs' V,runT P (crowd gs w sl) 0=(.next (crowd gs' w' sl),MemOp.ofEvents 0 g.frame.fn g.frame.place es)/\GI P ty Wg ch z An HV Fin n base N0 shun F0 t₀ gs' w' (t++MemOp.ofEvents 0 g.frame.fn g.frame.place es) V/\E3 P ty Wg (mu (n:=n) (base:=base) V) (mu (n:=n) (base:=base) σ):=by
 have hb:=G.lZ;have W:=h.w_;have T:=h.t_;have Q:=h.g_;have ar:=(UO.1 hg).1;have ad:=runT_crowd_go (P:=P) (sl:=sl) (i:=0) hg (by simpa using a7);have o:∀X∈MemOp.ofEvents 0 g.frame.fn g.frame.place es,X.g=0:=λX L=>by obtain⟨e,_,rfl⟩:=Go.Conc.mem_ofEvents L;rfl
 have E:=A ch W.sp.2 (U4 G.ne_) λe=>(W.m0 ch e).2.1 (.inr rfl);have af:WgLive ty Wg w':=⟨_,_,hwg⟩
 have Y:∀K:Nat->Prop,(∀b,K b->b<w.heap.size/\b≠Wg/\¬σ.M0 b)->RK ty Wg K w w':=λK ag=>⟨λb d=>A b (ag b d).1 (ag b d).2.1 (ag b d).2.2,λ_=>af,f⟩
 have F:∀b,shun b->b<w.heap.size:=λb d=>UL (G.NL b d) W.gy;have B:∀b,w.heap.size<=b->σ.own b=0:=λb d=>VV λe=>by have:=(W.owns b e).2.2.1;omega
 have M:∀b,w.heap.size<=b->¬spB Wg ch b:=λb d e=>by have:=W.sp;rcases e with e|e<;>omega
 obtain⟨m,N,I,bb⟩:∃m N,(m=σ.ct\/(σ.ct=some .blk/\m=some .w3))/\
  ∀c,m=some c->∃gc,((gs.map (woken P g g' w')).setIfInBounds 0 g')[base+n]? =some gc/\CSit P ty Wg ch An (VW σ.j σ.D) c σ.dc σ.Kc σ.Mc N gc w':=by
  cases v:σ.ct with
  |none=>exact⟨none,σ.rc,.inl rfl,λc e=>by cases e⟩
  |some c=>
   obtain⟨gc,bk,bm⟩:=Q.cl c v;have bo:σ.ct≠none:=by rw[v];simp
   have hr:=Y _ λb d=>by obtain⟨a1,J,O,y⟩:=W.kc bo b d;refine⟨a1,λe=>J (.inl e),λe=>?_⟩;obtain⟨_,_,_,m4,m5⟩:=W.m0 b e;have:=m5 (base+n);rcases y with y|y<;>omega
   obtain⟨c',br,h1,R,_⟩:=(bm.rely hr).woken g g' w' (.inl Z);refine⟨some c',br,?_,λc2 e=>?_⟩
   .obtain rfl|⟨rfl,rfl⟩:=R
    .exact .inl rfl
    .exact .inr ⟨rfl,rfl⟩
   .cases e
    refine⟨_,?_,h1⟩;rw[bQ _ _ _ _ _ (by omega),bk];rfl
 have p:m=none↔σ.ct=none:=by obtain rfl|⟨a,rfl⟩:=I;rfl;simp[a]
 have ax:m=some .quit↔σ.ct=some .quit:=by obtain rfl|⟨a,rfl⟩:=I;rfl;simp[a]
 have ay:m=some .cl↔σ.ct=some .cl:=by obtain rfl|⟨a,rfl⟩:=I;rfl;simp[a]
 have bs:fe m=fe σ.ct:=by obtain rfl|⟨a,rfl⟩:=I;rfl;rw[a];rfl
 have aK:∀e∈es,EvK Wg (orK σ.K0 w w') (orK σ.M0 w w') e\/EvB Wg e\/(E7 Wg e/\σ.low (base+n)=0):=λe he=>(U e he).imp id (.imp id λ⟨a,b⟩=>⟨a,VV λx=>absurd b (W.E2.1 x)⟩);have bx:∀X∈MemOp.ofEvents 0 g.frame.fn g.frame.place es,X.act≠ .mark (.release (stA Wg)):=norel_of λe he=>by obtain h1|h1|⟨h1,_⟩:=U e he;exact h1.2.2.2.1 _;exact h1.2.1 _;unfold E7 at h1;subst h1;simp[Go.ConcR.mk]
 have bA:∀X∈MemOp.ofEvents 0 g.frame.fn g.frame.place es,∀x,X.act.touch?=some x->∀b,blk x.loc=some b->b<w'.heap.size:=by intro X L x hx b d;obtain⟨e,bB,rfl⟩:=Go.Conc.mem_ofEvents L;obtain h1|h1|⟨h1,_⟩:=U e bB;obtain⟨b2,aM,h1⟩:=h1.1 x hx;rw[d]at aM;cases aM;obtain⟨_,R|R,_⟩|⟨rfl,_⟩:=h1;exact UL (W.k0 b R).1 f;exact R.2;exact UL W.sp.1 f;have:=(h1.1 x hx).1;rw[d]at this;cases this;exact UL W.sp.1 f;have:=(AK h1 hx).1;rw[d]at this;cases this;exact UL W.sp.1 f
 have bC:∀e∈es,(MemAct.ofEvent e).touch?=none->(MemAct.ofEvent e).low w'.heap.size:=by intro e he hn;obtain h1|h1|⟨h1,_⟩:=U e he;exact h1.2.2.2.2 _ hn;exact h1.2.2 _ (UL W.sp.1 f) hn;unfold E7 at h1;subst h1;simp[Go.ConcR.mk,MemAct.ofEvent,MemAct.touch?]at hn
 have S:∀C r,C<n->RelBy (stA Wg) t (base+C) r->RelBy (stA Wg) (t++MemOp.ofEvents 0 g.frame.fn g.frame.place es) (base+C) r:=λC r _ hr=>dV hr o (by omega);let V:GSt P ty Wg:={σ with mt:=mt',K0:=K',M0:=M',r0:=ρ',d0:=d',ct:=m,rc:=N,st:=st',sm:=sm'}
 refine⟨_,V,ad,⟨?_,?_,?_,ab m I,?_⟩,um rfl a8⟩;refine⟨aa.1.trans W.os,aa.2.1.trans W.tape,aa.2.2.trans W.output,UJ W.gy f,λb d=>?_,?_,hwg,⟨UL W.sp.1 f,UL W.sp.2 f⟩,?_,W.mw,?_,?_,?_,λv=>W.mc λe=>v (p.2 e),?_,W.E1,W.E2.trans (not_congr p.symm),W.CU,λk=>UJ (W.CW k) f⟩;rw[A b (UL d W.gy) (by have:=G.wg_;omega) (λe=>by have:=(W.m0 b e).2.2.1;omega)];exact W.old b d;obtain⟨s,H⟩:=W.chn;exact⟨s,by rw[E,H];show _=some (Obj.chan 0 #[] (fe m) s s false);rw[bs]⟩;intro C q b d;obtain⟨a1,J,O,y⟩:=W.kw C q b d;exact⟨UL a1 f,J,O,y⟩;intro b d;obtain h1|h1:=hK b d;obtain⟨a1,J,O,y⟩:=W.k0 b h1;exact⟨UL a1 f,J,O,y⟩;exact⟨h1.2,M b h1.1,λe=>absurd (F b e) (VN.2 h1.1),B b h1.1⟩;intro b d;obtain h1|h1:=hM b d;obtain⟨a1,J,O,y,a5⟩:=W.m0 b h1;exact⟨UL a1 f,J,O,y,a5⟩;exact⟨h1.2,M b h1.1,UJ W.gy h1.1,B b h1.1,λk=>UJ (W.CW k) h1.1⟩;intro v b d;obtain⟨a1,J,O,y⟩:=W.kc (λe=>v (p.2 e)) b d;exact⟨UL a1 f,J,O,y⟩;intro b d;obtain⟨a1,J,O,y⟩:=W.owns b d;exact⟨a1,J,UL O f,y⟩;refine⟨?_,?_,lY T.seen f (yc bA bC),jB T.gb λX L=>by rw[o X L];omega,T.norel.app bx,?_,λC q=>(Deaf_other t (by omega) _ o).trans (T.dw C q),λv=>(Deaf_other t (by omega) _ o).trans (T.dc λe=>v (p.2 e)),?_,?_,?_,?_⟩;obtain⟨u,rfl⟩:=T.pre;exact⟨_,VU ..⟩;exact T.tr.app o (λe=>by omega) (E8 W.k0 (λb d=>(W.m0 b d).2.2.2.2) W.CW B hb W.sp F aK _ _);rw[Deaf_own,T.d0];exact hd;intro k hk h1 R;exact(Deaf_other t (g:=k) (g':=0) (by omega) _ o).trans (T.above k hk h1 λe=>R λe'=>e (p.1 e'));intro C q H;obtain⟨r,hr⟩:=T.rel C q H;exact⟨r,dV hr o (by omega)⟩;exactλv=>ly (T.acq (ay.1 v)) S
 exactλv=>lz (T.cls (ax.1 v)) S (jk o (by omega))
 have ak:σ.ct≠some .quit->∃s r tm,w'.heap[ch]? =some (.chan 0 #[] false s r tm):=by intro v;obtain⟨s,H⟩:=W.chn;rw[fQ v]at H;exact⟨s,s,false,E.trans H⟩
 refine⟨?_,Q.jn,λv=>Q.cn λe=>v (p.2 e),⟨g',fI _ _ _ _ ar,hS⟩,p.trans (Q.mc.trans ba.symm),?_,Q.unb,bb,?_,?_,?_⟩;have:(if m.isSome then 1 else 0)=(if σ.ct.isSome then 1 else 0):=by obtain rfl|⟨a,rfl⟩:=I;rfl;rw[a];rfl
 simp only[Vg,Wq];rw[this];exact Q.size;intro C q;obtain⟨gw,b0,aR⟩:=Q.wk C q;refine⟨woken P g g' w' gw,by rw[bQ _ _ _ _ _ (by omega),b0];rfl,?_⟩;have hr:=Y _ λb d=>by obtain⟨a1,J,O,y⟩:=W.kw C q b d;refine⟨a1,λe=>J (.inl e),λe=>?_⟩;obtain⟨_,_,_,m4,m5⟩:=W.m0 b e;have:=m5 (base+C);rcases y with y|y<;>omega
 have e':=aR.woken g g' w' λa6=>ak λv=>by rw[h.m_.yb (by rw[v];trivial) C q]at a6;cases a6
 rw[e'];exact aR.rely hr;intro k gk h1 R hk;rw[bQ _ _ _ _ _ (by omega)]at hk;obtain⟨b1,b3,rfl⟩:=Vi.1 hk;have hq:=Q.lv k b1 h1 R b3;rw[woken_quitsD hq,Deaf_other t (by omega) _ o];exact hq;rintro⟨r,H,e⟩;exact absurd e (ao r H).1;intro r H e;exact absurd e (ao r H).2;obtain⟨l,h1,R,h3⟩:=h.v_;exact⟨l,h1,R,an.trans h3⟩
end
end Go.Tm

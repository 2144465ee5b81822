import Derived.Conc.CrowdBase
import Derived.Conc.CrowdComm
import Derived.Test.YtaglpcmhopjebaaGreatDoorU9
set_option linter.all false
set_option maxRecDepth 100000
set_option maxHeartbeats 20000000
namespace Go.Tm
open Go.Conc Go.ConcN
section
variable {S:Kn} {P:Program} {fs:Array Func}
def E7(c:Tab S P fs)(b:∀f,S.stop f=false){π:Ren P.globals.size}{f:FuncId}(d:S.ent f=true){a A}(e:VsR π a A):bg S π (Frame.enter (ah P fs) f a .normal) (Frame.enter P f A .normal):=by rcases tW (π:=π) c f (.inr d) (λx=>by rw[b f]at x;cases x) e (cs:=[aH]) (by simp)with h|⟨_,g,a1,A1,h1,_⟩;exact h;rw[b g]at h1;cases h1
def yk{P f a w}:(⟨Frame.enter P f a .normal,[],w⟩:Gh).Flat:=by intro b c;simp[rb,Frame.enter]at c;exact c.symm▸rfl
def oT(d:Tab S P fs)(c:∀f,S.stop f=false){Pr Post π}{f:FuncId}(h:S.ent f=true){a A}(i:VsR π a A){w W}(j:bw S Pr π w W)(k:∀g,S.dF g=true->π g g) (l:∀b,b.heap=w.heap->Calls (ah P fs) f a b λe w'=>∃v,e=.returned v/\Post v w'):Cp S P fs Pr Post π ⟨Frame.enter (ah P fs) f a .normal,[],av w (λ_ _=>0) 0⟩ (Frame.enter P f A .normal) [] W:=
 ⟨E7 d c h i,.nil,j.heap rfl rfl,yk,Ew (λ_ _=>mz) λτ _ _=>l _ rfl,k⟩
def oU{G B a}(h:∀x∈a,aA (idR G B) x x):VsR (idR G B) a a:=aZ.refl h
def Ik(k:Tab S P fs)(a:∀f,S.stop f=false){f:FuncId}(t:S.ent f=true){args B W}(d:∀b,B b->∃c e F,W.heap[b]? =some (.cells c e F))(u:P.globals.size<=W.heap.size)(l:∀g,S.dF g=true->B g) (y:∀x∈args,aA (idR P.globals.size B) x x) {Post} (A:∀w,w.heap=(dj (idR P.globals.size B) B W).heap->Calls (ah P fs) f args w λe w'=>∃v,e=.returned v/\Post v w') (C:∀w,w.heap=(dj (idR P.globals.size B) (λ_=>False) W).heap->Calls (ah P fs) f args w λe w'=>∃v,e=.returned v/\∀b,b<w.heap.size->w'.heap[b]? =w.heap[b]?):∃D E,iN S P fs (idR P.globals.size B) W (dj (idR P.globals.size B) (λ_=>False) W) Post (idR P.globals.size B) (idR P.globals.size B) D E (Frame.enter P f args .normal) [] W:=by (have i:∀(Pr:Nat->Prop) b,B b->∃o,W.heap[b]? =some o/\((∃c e f,o=.cells c e f)\/(¬Pr b/\(∀c e f,o≠ .cells c e f)/\fG S (idR P.globals.size B) o o)):=λPr b j=>by obtain⟨c,e,F,h⟩:=d b j;exact⟨_,h,.inl ⟨c,e,F,rfl⟩⟩);(have e:(λR=>∃r,(idR P.globals.size B) r R)=B:=funext λR=>propext ⟨λ⟨r,n,p⟩=>n▸p,λh=>⟨R,rfl,h⟩⟩;have q:bw S (λR=>∃r,(idR P.globals.size B) r R) (idR P.globals.size B) (dj (idR P.globals.size B) B W) W:=by rw[e];exact kB (i B) (λ_ h=>h) u (d 0 (l 0 k.xE)));have s:=kB (S:=S) (Pr:=λ_=>False) (i λ_=>False) (λ_ h=>h.elim) u (d 0 (l 0 k.xE));refine⟨_,_,⟨oT k a t (oU y) q (λg h=>⟨rfl,l g h⟩) A,oT k a t (oU y) s (λg h=>⟨rfl,l g h⟩) λw h=>(C w h).mono ?_,Ren.le_refl _,Ren.le_refl _,?_,λ_ _ _=>rfl,λR=>VZ⟩⟩;rintro I w' ⟨v,n,p⟩;(refine⟨v,n,λr R G=>?_⟩;obtain⟨rfl,j⟩:=G;obtain⟨c,z,F,m⟩:=d r j;have H:r<w.heap.size:=by rw[h,kW];exact(Uk.1 m).1);rw[p r H,h];rintro r R ⟨rfl,j⟩;obtain⟨c,z,F,m⟩:=d r j;refine⟨c.map (mask (idR P.globals.size B)),c,z,F,?_,m⟩;rw[fN,m];simp[km]
def PW(p:Tab S P fs)(a:∀f,S.stop f=false)(i:∀g,S.calm g){f:FuncId}(D:S.ent f=true){args K W ty Wg mn}(E:P.globals.size<=W.heap.size) (G:∀g,S.dF g=true->K g/\∃c e F,W.heap[g]? =some (.cells c e F)) (q:∀b,K b->b<W.heap.size) (s:Wg<W.heap.size) (j:WgLive ty Wg W) (H:∀x∈args,aA (idR P.globals.size λb=>K b/\∃c e F,W.heap[b]? =some (.cells c e F)) x x) {V} (I:∀(π:Ren P.globals.size) v,aA π V v->v=V) (u:∀(fz) (w),w.heap=(dj (idR P.globals.size λb=>K b/\∃c e F,W.heap[b]? =some (.cells c e F)) fz W).heap->Calls (ah P fs) f args w λe w'=>e=.returned V/\∀b,b<w.heap.size->w'.heap[b]? =w.heap[b]?) (Q) (C) (cs) (m:∀k n w',(∀b,K b->k b/\¬n b/\w'.heap[b]? =W.heap[b]?)->(∀b,k b->b<w'.heap.size)->WgLive ty Wg w'->Run P mn ty Wg Q k n ⟨C.finish V,cs,.running,none,none⟩ w'):Run P mn ty Wg Q K (λ_=>False) ⟨Frame.enter P f args .normal,C::cs,.running,none,none⟩ W:=by
 obtain⟨J,L,M⟩:=Ik (Post:=λv _=>v=V) p a D (B:=λb=>K b/\∃c e F,W.heap[b]? =some (.cells c e F)) (W:=W) (λb h=>h.2) E (λg h=>G g h) H
  (λw h=>(u _ w h).mono λe w' h=>⟨V,h.1,rfl⟩) (λw h=>(u _ w h).mono λe w' h=>⟨V,h.1,h.2⟩)
 have o:=uW (mn:=mn) (ty:=ty) (Wg:=Wg) (B:=C::cs) (Q:=λk n g w'=>g=⟨C.finish V,cs,.running,none,none⟩) p a i (idR P.globals.size λb=>K b/\∃c e F,W.heap[b]? =some (.cells c e F)) (λN O J L F W' hI h R=>?_) (Ren.le_refl _) M;refine(o.frame (K₂:=K) (M₂:=λ_=>False) (B:=K) (w₀:=W) (λb ⟨r,y⟩=>?_) (λb l=>?_) q (λb l=>⟨l,id,rfl⟩) id ⟨s,id⟩ (Ue _)).bind ?_;exact y.1▸y.2.1;exact l.2 l.1;rintro k n g w' ⟨K1,M1,rfl,_,_,T,U,X,h6⟩;exact m k n w' (λb l=>U b l) T (X j);refine .jX rfl λz d=>?_;have Y:=h.Ey d.keep d.size;obtain⟨v,V',w',t,ev,A,a1,Z,a3,a4,a5,a6,_⟩:=Y.leave p R C cs mn Wg;subst Z;have:=I _ _ a3;subst this;exact⟨_,t,ev,a1,a4,a5,.stop λ_ _=>rfl⟩
def E8(l:Tab S P fs)(a:∀f,S.stop f=false){f:FuncId}(u:S.ent f=true){args}{B O:Nat->Prop}{W}(d:∀b,B b->∃c e F,W.heap[b]? =some (.cells c e F))(y:P.globals.size<=W.heap.size)(m:∀g,S.dF g=true->B g) (z:∀x∈args,aA (idR P.globals.size B) x x) {Post} (C:∀w,w.heap=(dj (idR P.globals.size B) (λb=>B b/\¬O b) W).heap->Calls (ah P fs) f args w λe w'=>∃v,e=.returned v/\Post v w') (D:∀w,w.heap=(dj (idR P.globals.size B) (λ_=>False) W).heap->Calls (ah P fs) f args w λe w'=>∃v,e=.returned v/\∀b,b<w.heap.size->¬O b->w'.heap[b]? =w.heap[b]?):∃E G,iN S P fs (idR P.globals.size λb=>B b/\¬O b) W (dj (idR P.globals.size B) (λ_=>False) W) Post (idR P.globals.size B) (idR P.globals.size B) E G (Frame.enter P f args .normal) [] W:=by (have i:∀(Pr:Nat->Prop) b,B b->∃o,W.heap[b]? =some o/\((∃c e f,o=.cells c e f)\/(¬Pr b/\(∀c e f,o≠ .cells c e f)/\fG S (idR P.globals.size B) o o)):=λPr b j=>by obtain⟨c,e,F,h⟩:=d b j;exact⟨_,h,.inl ⟨c,e,F,rfl⟩⟩);(have e:(λR=>∃r,(idR P.globals.size λb=>B b/\¬O b) r R)=λb=>B b/\¬O b:=funext λR=>propext ⟨λ⟨r,p,q⟩=>p▸q,λh=>⟨R,rfl,h⟩⟩;have s:bw S (λR=>∃r,(idR P.globals.size λb=>B b/\¬O b) r R) (idR P.globals.size B) (dj (idR P.globals.size B) (λb=>B b/\¬O b) W) W:=by rw[e];exact kB (i _) (λ_ h=>h.1) y (d 0 (m 0 l.xE)));(have t:=kB (S:=S) (Pr:=λ_=>False) (i λ_=>False) (λ_ h=>h.elim) y (d 0 (m 0 l.xE));have k:Ren.le (idR P.globals.size λb=>B b/\¬O b) (idR P.globals.size B):=λr R h=>⟨h.1,h.2.1⟩);refine⟨_,_,⟨oT l a u (oU z) s (λg h=>⟨rfl,m g h⟩) C,oT l a u (oU z) t (λg h=>⟨rfl,m g h⟩) λw h=>(D w h).mono ?_,k,k,?_,λ_ _ _=>rfl,λR=>VZ⟩⟩;rintro K w' ⟨v,p,q⟩;(refine⟨v,p,λr R H=>?_⟩;obtain⟨rfl,j,I⟩:=H;obtain⟨c,A,F,n⟩:=d r j;have J:r<w.heap.size:=by rw[h,kW];exact(Uk.1 n).1);rw[q r J I,h];rintro r R ⟨rfl,j,_⟩;obtain⟨c,A,F,n⟩:=d r j;refine⟨c.map (mask (idR P.globals.size B)),c,A,F,?_,n⟩;rw[fN,n];simp[km]
def NB(z:Tab S P fs)(d:∀f,S.stop f=false)(k:∀g,S.calm g){f:FuncId}(hf:S.ent f=true){args}{K M O:Nat->Prop}{W ty Wg mn}(hG:P.globals.size<=W.heap.size) (hg:∀g,S.dF g=true->K g/\∃c e F,W.heap[g]? =some (.cells c e F)) (A:∀b,K b->b<W.heap.size) (D:Wg<W.heap.size) (l:WgLive ty Wg W) (E:¬M Wg) (G:∀b,O b->M b) (n:∀b,O b->K b/\∃c e F,W.heap[b]? =some (.cells c e F)) (ha:∀x∈args,aA (idR P.globals.size λb=>K b/\∃c e F,W.heap[b]? =some (.cells c e F)) x x) {Post:Value->World->Prop} {T:Value->(Nat->Option Obj)->Prop} (hT:∀(Pr) (π) v V w w',Ren.le (idR P.globals.size λb=>K b/\∃c e F,W.heap[b]? =some (.cells c e F)) π->Post v w->aA π v V->bw S Pr π w w'->∀h,(∀b,O b->h b=w'.heap[b]?)->T V h) (U:∀(fz) (w),(∀b,O b->¬fz b)->w.heap=(dj (idR P.globals.size λb=>K b/\∃c e F,W.heap[b]? =some (.cells c e F)) fz W).heap->Calls (ah P fs) f args w λe w'=>∃v,e=.returned v/\Post v w'/\∀b,b<w.heap.size->¬O b->w'.heap[b]? =w.heap[b]?) (Q) (C) (cs) (o:∀i p w' V,(∀b,K b->¬M b->i b/\¬p b/\w'.heap[b]? =W.heap[b]?)->(∀b,i b->b<w'.heap.size)->WgLive ty Wg w'->T V (λb=>w'.heap[b]?)->(∀b,O b->i b)->Run P mn ty Wg Q i p ⟨C.finish V,cs,.running,none,none⟩ w'):Run P mn ty Wg Q K M ⟨Frame.enter P f args .normal,C::cs,.running,none,none⟩ W:=by
 obtain⟨cA,cB,hD⟩:=E8 (O:=O) (Post:=Post) z d hf (B:=λb=>K b/\∃c e F,W.heap[b]? =some (.cells c e F)) (W:=W) (λb h=>h.2) hG (λg h=>hg g h) ha
  (λw h=>(U _ w (λb a x=>x.2 a) h).mono λe w' ⟨v,H,h2,_⟩=>⟨v,H,h2⟩) (λw h=>(U _ w (λb a x=>x) h).mono λe w' ⟨v,H,_,I⟩=>⟨v,H,I⟩)
 have q:=uW (mn:=mn) (ty:=ty) (Wg:=Wg) (B:=C::cs) (Q:=λi p g w'=>∃V,g=⟨C.finish V,cs,.running,none,none⟩/\T V (λb=>w'.heap[b]?)/\∀b,O b->i b) z d k (idR P.globals.size λb=>K b/\∃c e F,W.heap[b]? =some (.cells c e F)) (λaa ab cA cB F W' J h he=>?_) (Ren.le_refl _) hD;refine(q.frame (K₂:=K) (M₂:=M) (B:=λb=>K b/\¬M b) (w₀:=W) (λb ⟨r,m⟩=>?_) (λb a=>?_) A (λb a=>⟨a.1,a.2,rfl⟩) id ⟨D,E⟩ (Ue _)).bind ?_;exact m.1▸m.2.1;obtain⟨⟨r,m⟩,hn⟩:=a;obtain⟨rfl,m⟩:=m;exact G r (Vq λho=>hn ⟨r,rfl,m,ho⟩);rintro i p g w' ⟨K1,M1,⟨V,rfl,L,s⟩,N,_,I,h4,h5,h6⟩;exact o i p w' V (λb a hm=>h4 b ⟨a,hm⟩) I (h5 l) L λb a=>N b (s b a);refine .jX rfl λX j=>?_;have h':=h.Ey j.keep j.size;obtain⟨v,Y,w',t,ev,u,a1,a2,a3,a4,a5,a6,a7,a8⟩:=h'.leave z he C cs mn Wg;have R:=Ren.le_trans J a8;refine⟨_,t,ev,a1,a4,a5,.stop λZ y=>⟨Y,rfl,hT _ u v Y w' t R a2 a3 a7 _ λb a=>y.keep b (.inl ⟨b,J b b ⟨rfl,n b a⟩⟩),λb a=>.inl ⟨b,J b b ⟨rfl,n b a⟩⟩⟩⟩
end
end Go.Tm
namespace Go.Tm
open Go.Conc Go.ConcN Go.Conc.Lib
open Go.ConcR (KK WgAt stA smA rd wr mk DC0)
structure WD where
 s:Nat
 d:Nat
 K:Nat->Prop
 M:Nat->Prop
inductive nT where
 |sp (r st:Nat)|gc|rc (r:Nat) (hs:List Value)|rb (r:Nat) (hs:List Value)|rw(r:Nat) (hs:List Value)
inductive CTag where
 |wd|w1|w2 (vs:Nat)|sw|w3|blk|w4|we|acq|cl|quit
def nT.pend:nT->Nat
 | .sp _ st=>if st<=3 then 1 else 0
 |_=>0
def nT.got:nT->List Value
 | .rc _ hs| .rb _ hs| .rw _ hs=>hs
 |_=>[]
def jO(d:WD):Nat:=if 4<=d.s then 1 else 0
def VW(j:Nat)(D:Nat->WD):Nat:=sumTo j λi=>jO (D i)
def jP(v:Nat):CTag->Nat
 | .wd=>100| .w1=>50| .w2 a=>if a=v then 40 else 60| .sw=>30| .w3=>20| .blk=>19| .w4=>15| .we=>14| .acq=>13| .cl=>12| .quit=>0
section
variable (P:Program) (ty:TypeId) (Wg ch:Nat) (z:Value) (An:aJ) (HV:Nat->Option Value) (Fin:List Value->aJ) (n:Nat)
inductive WSit(hv:Option Value):WD->Rk P ty Wg->Goroutine->World->Prop
 |run {K M:Nat->Prop} {g:Goroutine} {w:World} {c:RC P ty Wg}:cZ P ty Wg false (SWk P ty Wg ch z hv) K M g w c->WSit hv ⟨8,0,K,M⟩ (8,0,c) g w
 |blk {K M:Nat->Prop} {g:Goroutine} {w:World} {c:RC P ty Wg} {v:Value}:hv=some v->cZ P ty Wg false (SR0 P ty Wg) K M (Conc.served g undef) w c->WSit hv ⟨7,0,K,M⟩ (7,0,c) (parked g #[scase ch v undef] .send) w
 |r0 {K M:Nat->Prop} {g:Goroutine} {w:World} {c:RC P ty Wg}:cZ P ty Wg false (SR0 P ty Wg) K M g w c->WSit hv ⟨6,0,K,M⟩ (6,0,c) g w
 |k1 {K M:Nat->Prop} {g:Goroutine} {w:World} {c:RC P ty Wg} {m:Nat}:Goes P false (RK ty Wg K) DC0 (SK1 P ty Wg K M) m g w->WSit hv ⟨5,0,K,M⟩ (5,m,c) g w
 |d1 {K M:Nat->Prop} {g:Goroutine} {w:World} {c:RC P ty Wg} {m:Nat}:Goes P false (RK ty Wg K) DC0 (SD1 P ty Wg K M) m g w->WSit hv ⟨4,1,K,M⟩ (4,m,c) g w
 |d2 {K M:Nat->Prop} {g:Goroutine} {w:World} {c:RC P ty Wg} {m:Nat}:Goes P false (RK ty Wg K) DC0 (SD2 P ty Wg K M) m g w->WSit hv ⟨3,1,K,M⟩ (3,m,c) g w
 |d3 {K M:Nat->Prop} {g:Goroutine} {w:World} {c:RC P ty Wg} {m:Nat}:Goes P false (RK ty Wg K) DC0 (SD3 P ty Wg K M) m g w->WSit hv ⟨2,1,K,M⟩ (2,m,c) g w
 |d4 {K M:Nat->Prop} {g:Goroutine} {w:World} {c:RC P ty Wg} {m:Nat}:Goes P false (RK ty Wg K) DC0 (SD4 P ty Wg K M) m g w->WSit hv ⟨1,1,K,M⟩ (1,m,c) g w
 |quit {K M:Nat->Prop} {g:Goroutine} {w:World} {c:RC P ty Wg} {q d:Nat}:QuitsD P q d g->WSit hv ⟨0,d,K,M⟩ (0,q,c) g w
inductive fw:nT->Nat->Nat->(Nat->Prop)->(Nat->Prop)->Rk P ty Wg->Goroutine->World->Prop
 |kd {K M:Nat->Prop} {g:Goroutine} {w:World} {c:RC P ty Wg} {r:Nat}:r<n->cZ P ty Wg true (SKd P ty Wg ch z HV n r (SSp P ty Wg ch z An HV Fin n r)) K M g w c->fw (.sp r 5) (n-(r+1)) 0 K M (100+10*r+5,0,c) g w
 |a1 {K M:Nat->Prop} {g:Goroutine} {w:World} {c:RC P ty Wg} {r:Nat}:r<n->cZ P ty Wg true (SA1 P ty Wg ch z HV n r (SSp P ty Wg ch z An HV Fin n r)) K M g w c->fw (.sp r 4) (n-(r+1)) 1 K M (100+10*r+4,0,c) g w
 |sr {K M:Nat->Prop} {g:Goroutine} {w:World} {c:RC P ty Wg} {r:Nat}:r<n->cZ P ty Wg true (SSr P ty Wg ch z HV n r (SSp P ty Wg ch z An HV Fin n r)) K M g w c->fw (.sp r 3) (n-(r+1)) 1 K M (100+10*r+3,0,c) g w
 |ke {K M:Nat->Prop} {g:Goroutine} {w:World} {c:RC P ty Wg} {r:Nat}:r<n->cZ P ty Wg true (SKe P ty Wg ch z HV n r (SSp P ty Wg ch z An HV Fin n r)) K M g w c->fw (.sp r 2) (n-(r+1)) 1 K M (100+10*r+2,0,c) g w
 |go {K M:Nat->Prop} {g:Goroutine} {w:World} {c:RC P ty Wg} {r:Nat}:r<n->cZ P ty Wg true (SGo P ty Wg ch z HV n r (SSp P ty Wg ch z An HV Fin n r)) K M g w c->fw (.sp r 1) (n-(r+1)) 0 K M (100+10*r+1,0,c) g w
 |gc {K M:Nat->Prop} {g:Goroutine} {w:World} {c:RC P ty Wg}:cZ P ty Wg true (Kv P ty Wg ch z An HV Fin n) K M g w c->fw .gc n 0 K M (90,0,c) g w
 |rc {K M:Nat->Prop} {g:Goroutine} {w:World} {c:RC P ty Wg} {r:Nat} {hs:List Value}:r+hs.length=n->cZ P ty Wg true (oK P ty Wg ch z HV Fin n r hs) K M g w c->fw (.rc r hs) n 0 K M (20,0,c) g w
 |rb {K M:Nat->Prop} {g:Goroutine} {w:World} {c:RC P ty Wg} {r:Nat} {hs:List Value}:r+hs.length=n->(∀w₁,RK ty Wg K w w₁->oK P ty Wg ch z HV Fin n r hs K M g w₁)->fw (.rb r hs) n 0 K M (19,0,c) (parked {g with offers:=none} #[rcase ch z] (.recv true)) w
 |rw{K M:Nat->Prop} {g:Goroutine} {w:World} {c:RC P ty Wg} {r:Nat} {hs:List Value}:r+hs.length=n->(∀w₁,RK ty Wg K w w₁->oK P ty Wg ch z HV Fin n r hs K M g w₁)->fw (.rw r hs) n 0 K M (18,0,c) {parked {g with offers:=none} #[rcase ch z] (.recv true)with status:=.running} w
inductive CSit(v:Nat):CTag->Nat->(Nat->Prop)->(Nat->Prop)->Rk P ty Wg->Goroutine->World->Prop
 |wd {K M:Nat->Prop} {g:Goroutine} {w:World} {c:RC P ty Wg}:cZ P ty Wg false (SWd P ty Wg ch An) K M g w c->CSit v .wd 0 K M (jP v .wd,0,c) g w
 |w1 {K M:Nat->Prop} {g:Goroutine} {w:World} {c:RC P ty Wg}:cZ P ty Wg false (SW1 P ty Wg ch An) K M g w c->CSit v .w1 1 K M (jP v .w1,0,c) g w
 |w2 {K M:Nat->Prop} {g:Goroutine} {w:World} {c:RC P ty Wg} {vs:Nat}:cZ P ty Wg false (SW2 P ty Wg ch An vs) K M g w c->CSit v (.w2 vs) 1 K M (jP v (.w2 vs),0,c) g w
 |sw {K M:Nat->Prop} {g:Goroutine} {w:World} {c:RC P ty Wg}:cZ P ty Wg false (SSw P ty Wg ch) K M g w c->CSit v .sw 1 K M (jP v .sw,0,c) g w
 |w3 {K M:Nat->Prop} {g:Goroutine} {w:World} {c:RC P ty Wg}:cZ P ty Wg false (SW3 P ty Wg ch) K M g w c->CSit v .w3 1 K M (jP v .w3,0,c) g w
 |blk {K M:Nat->Prop} {g:Goroutine} {w:World} {c:RC P ty Wg}:(∀w₁,RK ty Wg K w w₁->SW3 P ty Wg ch K M g w₁)->CSit v .blk 1 K M (jP v .blk,0,c) {g with status:=.blocked} w
 |w4 {K M:Nat->Prop} {g:Goroutine} {w:World} {c:RC P ty Wg}:cZ P ty Wg false (SW4 P ty Wg ch) K M g w c->CSit v .w4 1 K M (jP v .w4,0,c) g w
 |we {K M:Nat->Prop} {g:Goroutine} {w:World} {c:RC P ty Wg}:cZ P ty Wg false (SWe P ty Wg ch) K M g w c->CSit v .we 1 K M (jP v .we,0,c) g w
 |acq {K M:Nat->Prop} {g:Goroutine} {w:World} {c:RC P ty Wg}:cZ P ty Wg false (PH P ty Wg ch) K M g w c->CSit v .acq 0 K M (jP v .acq,0,c) g w
 |cl {K M:Nat->Prop} {g:Goroutine} {w:World} {c:RC P ty Wg}:cZ P ty Wg false (SCl P ch) K M g w c->CSit v .cl 0 K M (jP v .cl,0,c) g w
 |quit {K M:Nat->Prop} {g:Goroutine} {w:World} {c:RC P ty Wg} {q d:Nat}:QuitsD P q d g->CSit v .quit d K M (jP v .quit,q,c) g w
end
def eK:Option CTag->Bool
 |some .quit=>true
 |_=>false
def uX(j:Nat)(D:Nat->WD):Prop:=∀i,i<j->4<=(D i).s\/(D i).s=0
def Ez(j:Nat)(D:Nat->WD):Prop:=∀i,i<j->(D i).s=0
def CTag.opn:Option CTag->Prop
 |none|some .wd|some .w1|some (.w2 _)=>True
 |_=>False
def CTag.reg:Option CTag->Prop
 |some .sw|some .w3|some .blk=>True
 |_=>False
def CTag.fin:Option CTag->Prop
 |some .w4|some .we|some .acq|some .cl|some .quit=>True
 |_=>False
inductive Mode(j:Nat)(D:Nat->WD)(mt:nT):Option CTag->Int->Int->Prop
 |opn {ct:Option CTag}:CTag.opn ct->uX j D->(∀vs,ct=some (.w2 vs)->VW j D<=vs/\1<=vs)->Mode j D mt ct (((VW j D+mt.pend:Nat):Int)*KK) 0
 |reg {ct:Option CTag}:CTag.reg ct->uX j D->1<=VW j D->Mode j D mt ct (((VW j D:Nat):Int)*KK+1) 0
 |last {ct:Option CTag} (L:Nat):CTag.reg ct->L<j->((D L).s=3\/(D L).s=2\/(D L).s=1)->(∀i,i<j->i≠L->(D i).s=0)->Mode j D mt ct (if(D L).s=1 then 0 else 1) 0
 |sema {ct:Option CTag}:CTag.reg ct->ct≠some .blk->Ez j D->Mode j D mt ct 0 1
 |fin {ct:Option CTag}:CTag.fin ct->Ez j D->Mode j D mt ct 0 0
def Mode.xM{j D mt ct st sm}(h:Mode j D mt ct st sm)(b:CTag.fin ct):Ez j D:=by (have no:∀{ct:Option CTag},CTag.fin ct->(CTag.opn ct->False)/\(CTag.reg ct->False):=by intro ct h;cases ct with|none=>exact h.elim|some c=>cases c<;>first|exact h.elim|exact⟨id,id⟩);cases h with|opn a=>exact((no b).1 a).elim|reg a=>exact((no b).2 a).elim|last _ a=>exact((no b).2 a).elim|sema a=>exact((no b).2 a).elim|fin _ a=>exact a
structure GSt(P:Program)(ty:TypeId)(Wg:Nat) where
 j:Nat
 D:Nat->WD
 R:Nat->Rk P ty Wg
 mt:nT
 K0:Nat->Prop
 M0:Nat->Prop
 r0:Rk P ty Wg
 d0:Nat
 ct:Option CTag
 Kc:Nat->Prop
 Mc:Nat->Prop
 rc:Rk P ty Wg
 dc:Nat
 q:Nat->Nat
 own:Nat->Nat
 low:Nat->Nat
 st:Int
 sm:Int
section
variable (P:Program) (ty:TypeId) (Wg ch:Nat) (z:Value) (An:aJ) (HV:Nat->Option Value) (Fin:List Value->aJ) (n base N0:Nat) (shun:Nat->Prop) (W₀:World) (t₀:Trace)
def spB(b:Nat):Prop:=b=Wg\/b=ch
structure GW(w:World)(σ:GSt P ty Wg):Prop where
 os:w.os=W₀.os
 tape:w.tape=W₀.tape
 output:w.output=W₀.output
 ga:N0<=w.heap.size
 old:∀b,b<N0->w.heap[b]? =W₀.heap[b]?
 chn:∃s,w.heap[ch]? =some (.chan 0 #[] (eK σ.ct) s s false)
 wg:WgAt ty Wg w σ.st σ.sm
 sp:Wg<w.heap.size/\ch<w.heap.size
 kw:∀i,i<σ.j->∀b,(σ.D i).K b->b<w.heap.size/\¬spB Wg ch b/\¬shun b/\(σ.own b=base+i\/(σ.own b=0/\b<σ.low (base+i)))
 mw:∀i,i<σ.j->∀b,(σ.D i).M b->σ.own b=base+i
 k0:∀b,σ.K0 b->b<w.heap.size/\¬spB Wg ch b/\¬shun b/\σ.own b=0
 m0:∀b,σ.M0 b->b<w.heap.size/\¬spB Wg ch b/\N0<=b/\σ.own b=0/\∀k,σ.low k<=b
 kc:σ.ct≠none->∀b,σ.Kc b->b<w.heap.size/\¬spB Wg ch b/\¬shun b/\(σ.own b=base+n\/(σ.own b=0/\b<σ.low (base+n)))
 mc:σ.ct≠none->∀b,σ.Mc b->σ.own b=base+n
 owns:∀b,σ.own b≠0->N0<=b/\base<=σ.own b/\b<w.heap.size/\¬spB Wg ch b
 EA:∀i,i<σ.j->σ.low (base+i)≠0
 EB:σ.low (base+n)≠0↔σ.ct≠none
 Cm:∀k,σ.low k≠0->(∃i,i<σ.j/\k=base+i)\/k=base+n
 Cn:∀k,σ.low k<=w.heap.size
def jl{N}{t u:Trace}(h:∀a∈t,a.g<N)(c:∀a∈u,a.g<N):∀a∈t++u,a.g<N:=λa b=>(Vf.1 b).elim (h a) (c a)
def AcqAll(t:Trace):Prop:=∃q,t.act? q=some (.mark (.acquire (stA Wg)))/\t.g? q=some (base+n)/\t.heard q/\∀i,i<n->∃r,RelBy (stA Wg) t (base+i) r/\r<q
def Co(t:Trace):Prop:=∃q p,t.act? q=some (.mark (.acquire (stA Wg)))/\t.g? q=some (base+n)/\t.heard q/\(∀i,i<n->∃r,RelBy (stA Wg) t (base+i) r/\r<q)/\q<p/\t.act? p=some (.close ch)/\t.g? p=some (base+n)/\t.heard p/\∀i,p<i->t.g? i=some (base+n)->¬t.counts i
structure GT(w:World)(t:Trace)(σ:GSt P ty Wg):Prop where
 pre:∃u,t=t₀++u
 tr:TI shun (spB Wg ch) (base+n) t₀.size σ.own σ.low t
 seen:∀op∈t,op.act.low w.heap.size
 gb:∀op∈t,op.g<base+n+1
 norel:NoRelease (stA Wg) t
 d0:Deaf t 0=σ.d0
 dw:∀i,i<σ.j->Deaf t (base+i)=(σ.D i).d
 dc:σ.ct≠none->Deaf t (base+n)=σ.dc
 above:∀k,base<=k->(∀i,i<σ.j->k≠base+i)->(σ.ct≠none->k≠base+n)->Deaf t k=0
 rel:∀i,i<σ.j->(σ.D i).s<=5->∃r,RelBy (stA Wg) t (base+i) r
 acq:σ.ct=some .cl->AcqAll Wg n base t
 cls:σ.ct=some .quit->Co Wg ch n base t
def GT.tb{P ty Wg ch n base shun t₀ t w σ}(T:GT P ty Wg ch n base shun t₀ w t σ):∀(i) x b,touchAt t i=some x->blk x.loc=some b->b<w.heap.size:=by intro i x b d e;obtain⟨f,a,c⟩:=touch_of d;exact Ji (T.seen f (mem_of_getElem? a)) c e
structure GG(gs:Array Goroutine)(w:World)(t:Trace)(σ:GSt P ty Wg):Prop where
 size:gs.size=base+σ.j+(if σ.ct.isSome then 1 else 0)
 jn:σ.j<=n
 cn:σ.ct≠none->σ.j=n
 mn:∃a,gs[0]? =some a/\fw P ty Wg ch z An HV Fin n σ.mt σ.j σ.d0 σ.K0 σ.M0 σ.r0 a w
 mc:σ.ct=none↔((∃r st,σ.mt=.sp r st)\/σ.mt=.gc)
 wk:∀i,i<σ.j->∃g,gs[base+i]? =some g/\WSit P ty Wg ch z (HV i) (σ.D i) (σ.R i) g w
 unb:∀i,σ.j<=i->i<n->(σ.R i).1=9
 cl:∀c,σ.ct=some c->∃g,gs[base+n]? =some g/\CSit P ty Wg ch An (VW σ.j σ.D) c σ.dc σ.Kc σ.Mc σ.rc g w
 lv:∀i g,0<i->i<base->gs[i]? =some g->QuitsD P (σ.q i) (Deaf t i) g
 mb:(∃r hs,σ.mt=.rb r hs)->σ.ct≠some .quit/\∀i,i<σ.j->(σ.D i).s≠7
 mq:∀r hs,σ.mt=.rw r hs->σ.ct=some .quit
def Got(σ:GSt P ty Wg):Prop:=∃l:List Nat,l.Nodup/\(∀i,i∈l↔i<σ.j/\(σ.D i).s<=6/\HV i≠none)/\σ.mt.got=l.filterMap HV
structure GI(gs:Array Goroutine)(w:World)(t:Trace)(σ:GSt P ty Wg):Prop where
 w_:GW P ty Wg ch n base N0 shun W₀ w σ
 t_:GT P ty Wg ch n base shun t₀ w t σ
 g_:GG P ty Wg ch z An HV Fin n base gs w t σ
 m_:Mode σ.j σ.D σ.mt σ.ct σ.st σ.sm
 v_:Got P ty Wg HV σ
end
structure nB(ty:TypeId)(Wg:Nat)(K:Nat->Prop)(Fx:World->Prop):Prop where
 rely:∀w w₁,RK ty Wg K w w₁->Fx w->Fx w₁
 set:∀w a v,a.block=Wg->Fx w->Fx (w.setCell a v)
def ya{ty Wg K b o}(e:K b)(f:b≠Wg):nB ty Wg K (λw=>w.heap[b]? =some o):=⟨λw d h c=>(h.keep b e).trans c,λw a v i c=>by rw[dS w a v b (by rw[i];exact f)];exact c⟩
def nB.and{ty Wg K F G}(h:nB ty Wg K F)(c:nB ty Wg K G):nB ty Wg K (λw=>F w/\G w):=⟨λw b r x=>⟨h.rely w b r x.1,c.rely w b r x.2⟩,λw a v d x=>⟨h.set w a v d x.1,c.set w a v d x.2⟩⟩
def nB.all{ty Wg K}{d:Type}{F:d->World->Prop}(h:∀a,nB ty Wg K (F a)):nB ty Wg K (λw=>∀a,F a w):=⟨λw c r x a=>(h a).rely w c r (x a),λw a v e x b=>(h b).set w a v e (x b)⟩
def nB.const{ty Wg K}(p):nB ty Wg K (λ_=>p):=⟨λ_ _ _ x=>x,λ_ _ _ _ x=>x⟩
section
variable {P:Program} {mn:Bool} {ty:TypeId} {Wg ch:Nat} {z:Value} {K M:Nat->Prop} {Fn:Goroutine->World->Prop} {Fx:World->Prop}
def dO(fx:nB ty Wg K Fx){e}{S:aJ}{g w}(h:∃m,Goes P mn (RL ty Wg) DC0 e m g w)(d:Fx w)(f:∀g w,e g w->Fx w->S K M g w):Run P mn ty Wg S K M g w:=by obtain⟨m,h⟩:=h;induction m generalizing g w with|zero=>exact .stop λa b=>f _ _ (h a b.rl) (fx.rely w a b d)|succ m i=>obtain h|⟨j,h⟩:=h;exact .stop λa b=>f _ _ (h a b.rl) (fx.rely w a b d);refine .jX j λa b=>?_;have:=h a b.rl;cases c:stepG P mn g a with|go g' w' es=>rw[c,goes_go]at this;obtain⟨⟨rfl,rfl⟩,k⟩:=this;refine⟨g',w',#[],rfl,Eff.refl _ _,by simp,?_⟩;rw[cP rfl,cP rfl];exact i (fx.rely w w' b d) k|_=>rw[c]at this;exact this.elim
def yb(fx:nB ty Wg K Fx){c S g w}(h:∃m,Goes P mn (RL ty Wg) DC0 c m g w)(f:Fx w)(i:∀g w,c g w->Fx w->Run P mn ty Wg S K M g w):Run P mn ty Wg S K M g w:=by refine(dO (K:=K) (M:=M) (S:=λd e g w=>d=K/\e=M/\c g w/\Fx w) fx h f λg w a b=>⟨rfl,rfl,a,b⟩).bind ?_;rintro d e g w ⟨rfl,rfl,a,b⟩;exact i g w a b
section closer
variable (fx:nB ty Wg K Fx) (hF:∀g w,Fn g w->Fx w->Run P false ty Wg (SCl P ch) K M g w)
include fx hF
def Ta(g:Goroutine)(w:World)(h:SQ P false ty Wg Fn g w)(c:Fx w):PH P ty Wg ch K M g w:=⟨h.1,let⟨g',a,b⟩:=h.2;⟨g',a,yb fx b c hF⟩⟩
def Tb(g:Goroutine)(w:World)(h:XWe P false ty Wg Fn g w)(c:Fx w):SWe P ty Wg ch K M g w:=⟨h.1,let⟨g',a,b⟩:=h.2;⟨g',a,dO fx b c (Ta fx hF)⟩⟩
def TU(g:Goroutine)(w:World)(h:XW4 P false ty Wg Fn g w)(c:Fx w):SW4 P ty Wg ch K M g w:=⟨h.1,λx=>let⟨g',a,b⟩:=h.2 x;⟨g',a,dO fx b c (Tb fx hF)⟩⟩
def TW(g:Goroutine)(w:World)(h:XW3 P false ty Wg Fn g w)(c:Fx w):SW3 P ty Wg ch K M g w:=⟨h.1,h.2.1,h.2.2.1,λx=>let⟨g',a,b⟩:=h.2.2.2 x;⟨g',a,dO fx b (fx.set _ _ _ rfl c) (TU fx hF)⟩⟩
def TX(g:Goroutine)(w:World)(h:XSw P false ty Wg Fn g w)(c:Fx w):SSw P ty Wg ch K M g w:=⟨h.1,let⟨g',a,b⟩:=h.2;⟨g',a,dO fx b c (TW fx hF)⟩⟩
def AnF(K M:Nat->Prop)(Fx:World->Prop)(Anch:Goroutine->World->Prop):aJ:=λa b g w=>a=K/\b=M/\Anch g w/\Fx w
variable {Anch:Goroutine->World->Prop}
def TY(f:Nat)(g:Goroutine)(w:World)(h:XW2 P false ty Wg Fn Anch f g w)(i:Fx w):SW2 P ty Wg ch (AnF K M Fx Anch) f K M g w:=
 ⟨h.1,λv j k=>let⟨a,b⟩:=h.2 v j k
  ⟨λe=>let⟨g',c,d⟩:=a e;⟨g',c,dO fx d (fx.set _ _ _ rfl i) (TX fx hF)⟩,λe=>let⟨g',c,d⟩:=b e;⟨g',c,dO fx d i λg w x y=>⟨rfl,rfl,x,y⟩⟩⟩⟩
def TZ(g:Goroutine)(w:World)(h:XW1 P false ty Wg Fn Anch g w)(d:Fx w):SW1 P ty Wg ch (AnF K M Fx Anch) K M g w:=⟨h.1,λv f i=>let⟨g',a,b,c⟩:=h.2 v f i;⟨g',a,λe=>dO fx (b e) d (Tb fx hF),λe=>dO fx (c e) d (TY fx hF v)⟩⟩
def Nq(c:∀g w,Anch g w->∃m,Goes P false (RL ty Wg) DC0 (XW1 P false ty Wg Fn Anch) m g w)(a b:Nat->Prop)(g:Goroutine)(w:World)(h:AnF K M Fx Anch a b g w):Run P false ty Wg (SW1 P ty Wg ch (AnF K M Fx Anch)) a b g w:=by obtain⟨rfl,rfl,h,d⟩:=h;exact dO fx (c g w h) d (TZ fx hF)
def T1(c:∀g w,Anch g w->∃m,Goes P false (RL ty Wg) DC0 (XW1 P false ty Wg Fn Anch) m g w)(g:Goroutine)(w:World)(h:XWd P false ty Wg Anch g w)(d:Fx w):SWd P ty Wg ch (AnF K M Fx Anch) K M g w:=⟨h.1,let⟨g',a,b⟩:=h.2;⟨g',a,yb fx b d λg w x y=>Nq fx hF c K M g w ⟨rfl,rfl,x,y⟩⟩⟩
end closer
section wm
variable {HV:Nat->Option Value} {n r:Nat} {Nx:aJ} (fx:nB ty Wg K Fx) (hF:∀g w,Fn g w->Fx w->Run P true ty Wg (SGo P ty Wg ch z HV n r Nx) K M g w)
include fx hF
def Tc(g:Goroutine)(w:World)(h:XKe P true ty Wg Fn g w)(c:Fx w):SKe P ty Wg ch z HV n r Nx K M g w:=⟨h.1,let⟨g',a,b⟩:=h.2;⟨g',a,yb fx b c hF⟩⟩
def T2(g:Goroutine)(w:World)(h:XSr P true ty Wg Fn g w)(c:Fx w):SSr P ty Wg ch z HV n r Nx K M g w:=⟨h.1,let⟨g',a,b⟩:=h.2;⟨g',a,dO fx b c (Tc fx hF)⟩⟩
def T3(g:Goroutine)(w:World)(h:XA1 P true ty Wg Fn g w)(c:Fx w):SA1 P ty Wg ch z HV n r Nx K M g w:=⟨h.1,λv d e=>let⟨g',a,b⟩:=h.2 v d e;⟨g',a,b.elim (λb=>.inl (dO fx b (fx.set _ _ _ rfl c) (T2 fx hF))) λb=>.inr (dO fx b (fx.set _ _ _ rfl c) (Tc fx hF))⟩⟩
def T4(g:Goroutine)(w:World)(h:XKd P true ty Wg Fn g w)(c:Fx w):SKd P ty Wg ch z HV n r Nx K M g w:=⟨h.1,let⟨g',a,b⟩:=h.2;⟨g',a,dO fx b c (T3 fx hF)⟩⟩
end wm
end
end Go.Tm
namespace Go.Tm
open Go.Conc Go.ConcN Go.Conc.Lib
open Go.ConcR (KK WgAt stA smA rd wr mk DC0 Bk)
section
variable {P:Program} {ty:TypeId} {Wg ch:Nat} {z:Value} {An:aJ} {HV:Nat->Option Value} {Fin:List Value->aJ} {n:Nat} {hv:Option Value}
def Cq(K M g w)(h:SWk P ty Wg ch z hv K M g w):g.status=.running:=by unfold SWk at h;split at h<;>exact h.1
def Aq(r a K M g w)(h:oK P ty Wg ch z HV Fin n r a K M g w):g.status=.running:=by cases r<;>exact h.1
def cQ{mn K D}{a:Goroutine->World->Prop}(b:∀g w,a g w->g.status=.running){m g w}(h:Goes P mn (RK ty Wg K) D a m g w):g.status=.running:=Goes.running b w (.refl w) h
def mN{mn K D c m g w w₁}(h:Goes P mn (RK ty Wg K) D c m g w)(r:RK ty Wg K w w₁):Goes P mn (RK ty Wg K) D c m g w₁:=Goes.rely (R:=RK ty Wg K) (λ_ _ _ a b=>a.trans b) h r
def WSit.status{D ρ g w}(h:WSit P ty Wg ch z hv D ρ g w):(D.s≠7/\(g.status=.running\/g.status=.finished))\/(D.s=7/\∃a v,g=parked a #[scase ch v undef] .send):=by cases h with|run h=>exact .inl ⟨by simp,.inl (h.status Cq)⟩|blk _ h=>exact .inr ⟨rfl,_,_,rfl⟩|r0 h=>exact .inl ⟨by simp,.inl (h.status λ_ _ _ _ x=>x.1)⟩|k1 h=>exact .inl ⟨by simp,.inl (cQ (λ_ _ x=>x.1) h)⟩|d1 h=>exact .inl ⟨by simp,.inl (cQ (λ_ _ x=>x.1) h)⟩|d2 h=>exact .inl ⟨by simp,.inl (cQ (λ_ _ x=>x.1) h)⟩|d3 h=>exact .inl ⟨by simp,.inl (cQ (λ_ _ x=>x.1) h)⟩|d4 h=>exact .inl ⟨by simp,.inl (cQ (λ_ _ x=>x.1) h)⟩|quit h=>exact .inl ⟨by simp,h.status⟩
def WSit.busy{D ρ g w}(h:WSit P ty Wg ch z hv D ρ g w)(a:D.s≠7)(b:D.s≠0):g.status=.running:=by cases h with|run h=>exact h.status Cq|blk _ h=>exact absurd rfl a|r0 h=>exact h.status λ_ _ _ _ x=>x.1|k1 h=>exact cQ (λ_ _ x=>x.1) h|d1 h=>exact cQ (λ_ _ x=>x.1) h|d2 h=>exact cQ (λ_ _ x=>x.1) h|d3 h=>exact cQ (λ_ _ x=>x.1) h|d4 h=>exact cQ (λ_ _ x=>x.1) h|quit h=>exact absurd rfl b
def WSit.rely{D ρ g w w'}(h:WSit P ty Wg ch z hv D ρ g w)(r:RK ty Wg D.K w w'):WSit P ty Wg ch z hv D ρ g w':=by cases h with|run h=>exact .run (h.rely r)|blk e h=>exact .blk e (h.rely r)|r0 h=>exact .r0 (h.rely r)|k1 h=>exact .k1 (mN h r)|d1 h=>exact .d1 (mN h r)|d2 h=>exact .d2 (mN h r)|d3 h=>exact .d3 (mN h r)|d4 h=>exact .d4 (mN h r)|quit h=>exact .quit h
def WSit.woken{D ρ g w}(h:WSit P ty Wg ch z hv D ρ g w)(a c)(w':World)(b:D.s=7->∃s r d,w'.heap[ch]? =some (.chan 0 #[] false s r d)):woken P a c w' g=g:=by obtain⟨_,h⟩|⟨e,f,v,rfl⟩:=h.status;unfold Go.Conc.woken;split;exact again_running _ h;rfl;obtain⟨s,r,d,b⟩:=b e;exact woken_send_open a c b
def fw.status{mt j d K M ρ g w}(h:fw P ty Wg ch z An HV Fin n mt j d K M ρ g w):(g.status=.running/\∀r a,mt≠ .rb r a)\/∃r a b,mt=.rb r a/\g=parked b #[rcase ch z] (.recv true):=by cases h with|kd _ h=>exact .inl ⟨h.status λ_ _ _ _ x=>x.1,by simp⟩|a1 _ h=>exact .inl ⟨h.status λ_ _ _ _ x=>x.1,by simp⟩|sr _ h=>exact .inl ⟨h.status λ_ _ _ _ x=>x.1,by simp⟩|ke _ h=>exact .inl ⟨h.status λ_ _ _ _ x=>x.1,by simp⟩|go _ h=>exact .inl ⟨h.status λ_ _ _ _ x=>x.1,by simp⟩|gc h=>exact .inl ⟨h.status λ_ _ _ _ x=>x.1,by simp⟩|rc _ h=>exact .inl ⟨h.status (Aq _ _),by simp⟩|rb _ h=>exact .inr ⟨_,_,_,rfl,rfl⟩|rw _ h=>exact .inl ⟨rfl,by simp⟩
def fw.rely{mt j d K M ρ g w w'}(h:fw P ty Wg ch z An HV Fin n mt j d K M ρ g w)(r:RK ty Wg K w w'):fw P ty Wg ch z An HV Fin n mt j d K M ρ g w':=by cases h with|kd a h=>exact .kd a (h.rely r)|a1 a h=>exact .a1 a (h.rely r)|sr a h=>exact .sr a (h.rely r)|ke a h=>exact .ke a (h.rely r)|go a h=>exact .go a (h.rely r)|gc h=>exact .gc (h.rely r)|rc a h=>exact .rc a (h.rely r)|rb a h=>exact .rb a λb c=>h b (r.trans c)|rw a h=>exact .rw a λb c=>h b (r.trans c)
def fw.woken{mt j d K M ρ g w}(h:fw P ty Wg ch z An HV Fin n mt j d K M ρ g w)(a c)(w':World)(b:∃s r e,w'.heap[ch]? =some (.chan 0 #[] false s r e)):woken P a c w' g=g:=by obtain⟨h,_⟩|⟨_,_,_,_,rfl⟩:=h.status;unfold Go.Conc.woken;split;exact again_running _ (.inl h);rfl;obtain⟨s,r,e,b⟩:=b;exact woken_recv_open a c b
def CSit.rely{v ct d K M ρ g w w'}(h:CSit P ty Wg ch An v ct d K M ρ g w)(r:RK ty Wg K w w'):CSit P ty Wg ch An v ct d K M ρ g w':=by cases h with|wd h=>exact .wd (h.rely r)|w1 h=>exact .w1 (h.rely r)|w2 h=>exact .w2 (h.rely r)|sw h=>exact .sw (h.rely r)|w3 h=>exact .w3 (h.rely r)|blk h=>exact .blk λa b=>h a (r.trans b)|w4 h=>exact .w4 (h.rely r)|we h=>exact .we (h.rely r)|acq h=>exact .acq (h.rely r)|cl h=>exact .cl (h.rely r)|quit h=>exact .quit h
def CSit.Q3{v ct d K M ρ g w}(h:CSit P ty Wg ch An v ct d K M ρ g w)(a):∃ρ',CSit P ty Wg ch An a ct d K M ρ' g w:=by cases h with|wd h=>exact⟨_,.wd h⟩|w1 h=>exact⟨_,.w1 h⟩|w2 h=>exact⟨_,.w2 h⟩|sw h=>exact⟨_,.sw h⟩|w3 h=>exact⟨_,.w3 h⟩| @blk K M g w c h=>exact⟨(_,0,c),.blk h⟩|w4 h=>exact⟨_,.w4 h⟩|we h=>exact⟨_,.we h⟩|acq h=>exact⟨_,.acq h⟩|cl h=>exact⟨_,.cl h⟩| @quit K M g w c q d h=>exact⟨(_,q,c),.quit h⟩
def CSit.status{v ct d K M ρ g w}(h:CSit P ty Wg ch An v ct d K M ρ g w):(ct≠ .blk/\(g.status=.running\/g.status=.finished))\/(ct=.blk/\g.status=.blocked/\g.offers=none):=by cases h with|wd h=>exact .inl ⟨by simp,.inl (h.status λ_ _ _ _ x=>x.1)⟩|w1 h=>exact .inl ⟨by simp,.inl (h.status λ_ _ _ _ x=>x.1)⟩|w2 h=>exact .inl ⟨by simp,.inl (h.status λ_ _ _ _ x=>x.1)⟩|sw h=>exact .inl ⟨by simp,.inl (h.status λ_ _ _ _ x=>x.1)⟩|w3 h=>exact .inl ⟨by simp,.inl (h.status λ_ _ _ _ x=>x.1)⟩| @blk K M g w c h=>exact .inr ⟨rfl,rfl,(h w (.refl w)).2.1⟩|w4 h=>exact .inl ⟨by simp,.inl (h.status λ_ _ _ _ x=>x.1)⟩|we h=>exact .inl ⟨by simp,.inl (h.status λ_ _ _ _ x=>x.1)⟩|acq h=>exact .inl ⟨by simp,.inl (h.status λ_ _ _ _ x=>x.1)⟩|cl h=>exact .inl ⟨by simp,.inl (h.status λ_ _ _ _ x=>x.1)⟩|quit h=>exact .inl ⟨by simp,h.status⟩
def CSit.busy{v ct d K M ρ g w}(h:CSit P ty Wg ch An v ct d K M ρ g w)(a:ct≠ .blk)(b:ct≠ .quit):g.status=.running:=by cases h with|wd h=>exact h.status λ_ _ _ _ x=>x.1|w1 h=>exact h.status λ_ _ _ _ x=>x.1|w2 h=>exact h.status λ_ _ _ _ x=>x.1|sw h=>exact h.status λ_ _ _ _ x=>x.1|w3 h=>exact h.status λ_ _ _ _ x=>x.1|blk h=>exact absurd rfl a|w4 h=>exact h.status λ_ _ _ _ x=>x.1|we h=>exact h.status λ_ _ _ _ x=>x.1|acq h=>exact h.status λ_ _ _ _ x=>x.1|cl h=>exact h.status λ_ _ _ _ x=>x.1|quit h=>exact absurd rfl b
def CSit.woken{v ct d K M ρ g w}(h:CSit P ty Wg ch An v ct d K M ρ g w)(a f w')(j:f.status=.running\/f.status=.finished):∃b ρ',CSit P ty Wg ch An v b d K M ρ' (woken P a f w' g) w/\(b=ct\/(ct=.blk/\b=.w3))/\(mayWake P a=true->b≠ .blk):=by obtain⟨k,o⟩|⟨rfl,o,s⟩:=h.status;refine⟨ct,ρ,?_,.inl rfl,λ_=>k⟩;(have:Go.Conc.woken P a f w' g=g:=by unfold Go.Conc.woken;split;exact again_running _ o;rfl);rw[this];exact h;cases h with| @blk _ _ g w c l=>by_cases m:mayWake P a=true;(have e:Go.Conc.woken P a f w' {g with status:=.blocked}=g:=by (have p:=(l w (.refl w)));unfold Go.Conc.woken;rw[Ud (by rcases j with j|j<;>rw[m,j]<;>rfl)];have i:=p.2.1;obtain⟨gf,gc,q,t,go⟩:=g;simp only at i;subst i;have:q=.running:=p.1;subst this;rfl);rw[e];obtain⟨x,r⟩:=cZ.of (P:=P) (mn:=false) (Run.stop l);exact⟨.w3,_,.w3 r,.inr ⟨rfl,rfl⟩,λ_=>by simp⟩;(have e:Go.Conc.woken P a f w' {g with status:=.blocked}={g with status:=.blocked}:=by unfold Go.Conc.woken;rw[Uc (by simp[m])]);rw[e];exact⟨.blk,(jP v .blk,0,c),.blk l,.inl rfl,λh=>absurd h m⟩
end
section
def ir(own:Nat->Nat)(x:Nat)(w w':World)(b:Nat):Nat:=if w.heap.size<=b/\b<w'.heap.size then x else own b
def sK{own x w w' b}(h:b<w.heap.size):ir own x w w' b=own b:=by unfold ir;rw[Uc (by omega)]
def jD{own x w w' b}(h:Ht w w' b):ir own x w w' b=x:=by unfold ir;exact Ud h
def EvB(Wg:Nat)(e:Event):Prop:=(∀x,(MemAct.ofEvent e).touch?=some x->blk x.loc=some Wg/\x.kind=.atomic)/\(∀a,e.loc≠ .mark (.release a))/\∀B,Wg<B->(MemAct.ofEvent e).touch?=none->(MemAct.ofEvent e).low B
def Q4(Wg:Nat):Mark->Prop
 | .acquire a| .releaseMerge a=>a.block=Wg
 |_=>True
def iE{Wg:Nat}{m:Mark}(h:∀a,m≠ .release a/\m≠ .read a/\m≠ .write a)(b:Q4 Wg m:=by first|exact trivial|exact rfl):EvB Wg (mk m):=by refine⟨λx c=>?_,λa e=>(h a).1 (Loc.mark.inj e),λB d f=>?_⟩;rotate_left;unfold Go.ConcR.mk;(cases m with|acquire a=>show a.block<B;have:a.block=Wg:=b;omega|releaseMerge a=>show a.block<B;have:a.block=Wg:=b;omega|release a=>exact absurd rfl (h a).1|read a=>exact absurd rfl (h a).2.1|write a=>exact absurd rfl (h a).2.2|_=>trivial);unfold Go.ConcR.mk at c;cases m<;>simp[MemAct.ofEvent,MemAct.touch?]at c;exact absurd rfl (h _).2.1;exact absurd rfl (h _).2.2
def eL{Wg a}(d:a.block=Wg)(b):EvB Wg ⟨.cell a,b,true⟩:=by refine⟨λx c=>?_,by simp,λB _ e=>by simp[MemAct.ofEvent,MemAct.touch?]at e⟩;simp[MemAct.ofEvent,MemAct.touch?]at c;subst c;exact⟨by simp[blk,d],rfl⟩
section
variable {P:Program} {ty:TypeId} {Wg ch:Nat} {z:Value} {An:aJ} {HV:Nat->Option Value} {Fin:List Value->aJ} {n base N0:Nat} {shun:Nat->Prop} {W₀:World} {t₀ t:Trace}
def Hu{w w':World}{own low:Nat->Nat}{K M:Nat->Prop}{i}(B:0<base)(m:low (base+i)≠0) (o:∀b,K b->b<w.heap.size/\¬spB Wg ch b/\¬shun b/\(own b=base+i\/(own b=0/\b<low (base+i)))) (p:∀b,M b->own b=base+i) (q:Wg<w.heap.size/\ch<w.heap.size) (r:∀b,shun b->b<w.heap.size) {es} (s:∀e∈es,EvK Wg (orK K w w') (orK M w w') e\/EvB Wg e) (fn) (pos):∀k∈MemOp.ofEvents (base+i) fn pos es,∀x,k.act.touch?=some x->Okx shun (spB Wg ch) (base+n) (ir own (base+i) w w') low (base+i) x:=by intro k f x l;obtain⟨e,g,rfl⟩:=Go.Conc.mem_ofEvents f;refine⟨.inr m,?_⟩;obtain h|h:=s e g;obtain⟨b,j,h⟩:=h.1 x l;refine⟨b,j,?_⟩;obtain⟨c,h2,h3⟩|⟨rfl,h2⟩:=h;obtain h2|h2:=h2;obtain⟨k1,u,v,d⟩:=o b h2;have a:ir own (base+i) w w' b=own b:=sK k1;obtain d|⟨d,y⟩:=d;exact .inl ⟨a.trans d,by omega,c⟩;refine .inr (.inl ⟨a.trans d,u,v,c,.inr ⟨by omega,?_,y⟩⟩);(cases A:x.write with|false=>rfl|true=>obtain h3|h3:=h3 A;have:=p b h3;omega;exact absurd h3.1 (by omega));exact .inl ⟨jD h2,by omega,c⟩;exact .inr (.inr ⟨.inl rfl,.inl h2⟩);obtain⟨c,h2⟩:=h.1 x l;exact⟨Wg,c,.inr (.inr ⟨.inl rfl,.inl h2⟩)⟩
def Jj{c:MemAct}{B}(d:∀x,c.touch?=some x->∀b,blk x.loc=some b->b<B)(f:c.touch?=none->c.low B):c.low B:=by
 cases c with
 |access e=>have:=d _ rfl;show e.loc.low B;cases g:e.loc<;>first|trivial|exact this _ (by simp[blk,g])
 |mark m=>cases m with|read a=>exact d _ rfl _ rfl|write a=>exact d _ rfl _ rfl|_=>exact f rfl
 |_=>exact f rfl
def xN{es g fn pos B}(f:∀a∈MemOp.ofEvents g fn pos es,∀x,a.act.touch?=some x->∀b,blk x.loc=some b->b<B)(h:∀e∈es,(MemAct.ofEvent e).touch?=none->(MemAct.ofEvent e).low B):∀a∈MemOp.ofEvents g fn pos es,a.act.low B:=by intro a c;refine Jj (f a c) λi=>?_;obtain⟨e,d,rfl⟩:=Go.Conc.mem_ofEvents c;exact h e d i
def lG{w w':World}(h:∀a∈t,a.act.low w.heap.size)(c:w.heap.size<=w'.heap.size){u:Trace}(d:∀a∈u,a.act.low w'.heap.size):∀a∈t++u,a.act.low w'.heap.size:=by intro a b;obtain h1|h1:=Vf.1 b;exact MemAct.low_mono c (h a h1);exact d a h1
def Nf{K M es}(b:∀e∈es,EvK Wg K M e\/EvB Wg e)(g fn pos):∀c∈MemOp.ofEvents g fn pos es,c.act≠ .mark (.release (stA Wg)):=by refine norel_of λe a=>?_;obtain h|h:=b e a;exact h.2.2.2.1 _;exact h.2.1 _
def Kw{w w':World}{K M:Nat->Prop}(o:∀b,K b->b<w.heap.size)(p:w.heap.size<=w'.heap.size)(q:Wg<w.heap.size){es}(i:∀e∈es,EvK Wg (orK K w w') M e\/EvB Wg e)(g fn pos):∀j∈MemOp.ofEvents g fn pos es,j.act.low w'.heap.size:=by refine xN (λj d x k b l=>?_) λe a m=>?_;obtain⟨e,a,rfl⟩:=Go.Conc.mem_ofEvents d;obtain h|h:=i e a;obtain⟨r,c,h⟩:=h.1 x k;rw[l]at c;cases c;obtain⟨_,f|f,_⟩|⟨rfl,_⟩:=h;exact Ui (o b f) p;exact f.2;omega;have:=(h.1 x k).1;rw[l]at this;cases this;omega;obtain h|h:=i e a;exact h.2.2.2.2 _ m;exact h.2.2 _ (by omega) m
def mu(σ:GSt P ty Wg):List (Rk P ty Wg)×Rk P ty Wg×Nat×Rk P ty Wg:=((List.range n).map σ.R,σ.r0,sumTo base σ.q,σ.rc)
def EC(P ty Wg):List (Rk P ty Wg)×Rk P ty Wg×Nat×Rk P ty Wg->List (Rk P ty Wg)×Rk P ty Wg×Nat×Rk P ty Wg->Prop:=Prod.Lex (iP (Rk.lt P ty Wg)) (Prod.Lex (Rk.lt P ty Wg) (Prod.Lex (· < ·) (Rk.lt P ty Wg)))
def PI(P ty Wg):WellFounded (EC P ty Wg):=(Prod.lex ⟨_,iP.wf (Rk.wf P ty Wg)⟩ (Prod.lex ⟨_,Rk.wf P ty Wg⟩ (Prod.lex Nat.lt_wfRel ⟨_,Rk.wf P ty Wg⟩))).wf
def PK{b}(f i)(x:b)(hi:i<n):(List.range n).map (upd f i x)=((List.range n).map f).set i x:=by apply List.ext_getElem?;intro k;rw[List.getElem?_set];by_cases h:i=k;subst h;simp[hi,upd_same];rw[Uc h];by_cases a:k<n;simp[a,upd_ne f x (Ux h)];simp[a]
def jE{σ a i ρ}(hi:i<n)(b:a.R=upd σ.R i ρ)(h:Rk.lt P ty Wg ρ (σ.R i)):EC P ty Wg (mu (n:=n) (base:=base) a) (mu (n:=n) (base:=base) σ):=by refine Prod.Lex.left _ _ ?_;rw[b,PK _ _ _ hi];exact iP.set (by simp[hi]) h
end
end
end Go.Tm

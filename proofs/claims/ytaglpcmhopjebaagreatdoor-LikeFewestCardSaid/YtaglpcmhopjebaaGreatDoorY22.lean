import Derived.Test.YtaglpcmhopjebaaGreatDoorY21
set_option linter.all false
set_option maxRecDepth 100000
set_option maxHeartbeats 20000000
namespace Go.Tm
open Go.Proofs Go.Conc Go.ConcN Go.Conc.Lib Go.ConcR.Gen Go.ConcN.Gen
open Go.ConcR (KK WgAt stA smA rd wr mk DC0)
def rH(H:Nat->Option (Int×Int×Int))(i:Nat):Option Value:=(H i).map λh=>eQ h.1 h.2.1 h.2.2
def od:Option (Int×Int×Int)->Array Value
 |some (a,b,c)=>#[.int .i64 a,.int .i64 b,.int .i64 c]
 |none=>#[.int .i64 0,.int .i64 0,.int .i64 0]
def II(H i):rH H i=if(H i).isSome then some (.agg (od (H i)))else none:=by
 unfold rH;cases H i with
 |none=>rfl
 |some h=>rfl
def IJ(h):(od h).size=3:=by cases h<;>rfl
def KX(h):(od h).all (·.oneCell')=true:=by cases h<;>simp[od,Value.oneCell']
def IK(n:Nat)(H:Nat->Option (Int×Int×Int))(a:List Value):Prop:=∃l:List Nat,l.Nodup/\(∀i,i∈l↔i<n/\rH H i≠none)/\a=l.filterMap (rH H)
def zo(N0:Nat)(L:List Value)(K:Nat->Prop)(V:Value)(w:World):Prop:=kS w N0 66 jR V L.length (bt L)/\∀g,V.ownBlock=some g->K g
def zo.rely{N0 L K V w w₁ Wg}(h:zo N0 L K V w)(r:RK 195 Wg K w w₁):zo N0 L K V w₁:=⟨h.1.keep λg a=>r.keep g (h.2 g a),h.2⟩
section
variable {C:Frame} {CS:List Frame} {sc:Array Value} {Kold:Nat->Prop} {w:World} {n:Nat} {H:Nat->Option (Int×Int×Int)} {Srt:List Value->List Value}
def wT(w:World)(Kold:Nat->Prop)(sc:Array Value)(n:Nat)(H:Nat->Option (Int×Int×Int)):Prop:=
 ∀i,i<n->∀(Wg:Nat) (K:Nat->Prop) (w':World),(∀b,Kold b->K b)->(∀b,K b->b<w'.heap.size)->WgLive 195 Wg w'->w.heap.size<=w'.heap.size->(∀b,Kold b->w'.heap[b]? =w.heap[b]?)->∀(Q:aK) (C:Frame) (cs:List Frame),
  (∀c d a,(∀b,K b->c b/\¬d b/\a.heap[b]? =w'.heap[b]?)->(∀b,c b->b<a.heap.size)->WgLive 195 Wg a->Run Tryz.prog false 195 Wg Q c d (G (C.finish (.tuple #[.agg (od (H i)),.bool (H i).isSome])) cs) a)->
  Run Tryz.prog false 195 Wg Q K (λ_=>False) (G (Frame.enter Tryz.prog 125 #[.agg sc,.int .i64 i] .normal) (C::cs)) w'
def tj(w:World)(Kold:Nat->Prop)(sc:Array Value)(n:Nat)(H:Nat->Option (Int×Int×Int))(Srt:List Value->List Value):Prop:=
 ∀c,IK n H c->∀(Wg N0:Nat) (K M:Nat->Prop) (w':World) (d:Value),(∀b,Kold b->K b/\¬M b)->(∀b,K b->b<w'.heap.size)->¬M Wg->WgLive 195 Wg w'->w.heap.size<=w'.heap.size->(∀b,Kold b->w'.heap[b]? =w.heap[b]?)->kS w' N0 66 jR d c.length (bt c)->
  (∀g,d.ownBlock=some g->K g/\M g/\¬Kold g)->∀(Q:aK) (C:Frame) (cs:List Frame),
  (∀e f a V,zo N0 (Srt c) e V a->Run Tryz.prog true 195 Wg Q e f (G (C.finish V) cs) a)->
  Run Tryz.prog true 195 Wg Q K M (G (Frame.enter Tryz.prog 128 #[d,.func (.func 129) #[.agg sc] #[]] .normal) (C::cs)) w'
structure KY(Shun:Loc->Prop)(C:Frame)(CS:List Frame)(n:Nat)(H:Nat->Option (Int×Int×Int))(Srt:List Value->List Value)(w:World)(gs':Array Goroutine)(w':World)(t':Trace)(V:Value)(Wg ch:Nat):Prop where
 bes:Bes Tryz.prog (λl=>Shun l\/∃b,blk l=some b/\spB Wg ch b) gs' w' t' (G (C.finish V) CS)
 res:∃N0 K hs,w.heap.size<=N0/\IK n H hs/\zo N0 (Srt hs) K V w'/\∀b,K b->b<w'.heap.size/\¬spB Wg ch b
 os:w'.os=w.os
 tape:w'.tape=w.tape
 output:w'.output=w.output
 grown:w.heap.size<=w'.heap.size
 sp:w.heap.size<=Wg/\w.heap.size<=ch/\Wg<w'.heap.size/\ch<w'.heap.size
 old:∀b,b<w.heap.size->w'.heap[b]? =w.heap[b]?
def OE{Wg0 K u}(h:Tch Wg0 K u){c x b}(e:c∈u)(f:c.act.touch?=some x)(d:blk x.loc=some b):K b\/b=Wg0:=by
 obtain⟨i,a,g,_⟩|⟨a,_⟩:=(h.t c e x f).2
 ·rw[d]at a;cases a;exact .inl g
 ·rw[d]at a;cases a;exact .inr rfl
def AU{Shun}{ShB:Nat->Prop}(E:∀l,Shun l->∃b,blk l=some b/\ShB b){cM aM}(ay:sc[9]? =some (.slice aM n cM))(U:(Tryz.prog.info? 125).map (·.size)=some sc.size)(hn:n<2147483647)
 (hK:∀b,Kold b->b<w.heap.size/\¬ShB b) (T:∀b,ShB b->b<w.heap.size) (h0:0<w.heap.size) (gs) (sl) (t)
 (d:Bes Tryz.prog Shun gs w t (G (Frame.enter Tryz.prog 74 #[.agg sc] .normal) (C::CS))) (W:wT w Kold sc n H) (F:tj w Kold sc n H Srt):
 ∃N gs' w' a6 t' V Wg ch,runNT Tryz.prog N (crowd gs w sl) t=(.next (crowd gs' w' a6),t')/\KY Shun C CS n H Srt w gs' w' t' V Wg ch:=by
 have m:=d.past;obtain⟨N1,X,w1,a7,t1,sb,ch,fb,Wg,r1,p⟩:=KW E ay hK T h0 gs sl t d;obtain⟨o1,o2,o3,o4,o5⟩:=p.ord;obtain⟨u1,e1,Y⟩:=p.tr;obtain⟨x9,s,I⟩:=p.bes;have f:∀b,Kold b->b<w.heap.size:=λb d=>(hK b d).1;have J:∀b,b<w.heap.size->¬spB Wg ch b:=λb h k=>by rcases k with rfl|rfl<;>omega
 obtain⟨An,a8,ba⟩:=Dj (Wg:=Wg) (ch:=ch) (fb:=fb) (K:=λb=>b=fb) (M:=λ_=>False) rfl (by omega);have Z:∀K,Stood Wg ch sb fb sc Kold w K w1:=λK=>⟨p.hsb,p.hfb,λb d=>p.old b (f b d)⟩
 have u:WgLive 195 Wg w1:=⟨0,0,p.hwg⟩
 have L:∀i,i<n->∀(ib:Nat) (K:Nat->Prop) (w':World),K sb->K fb->K ib->(∀b,Kold b->K b)->(∀b,K b->b<w'.heap.size)->(∀b,K b->b≠Wg)->WgLive 195 Wg w'->Stood Wg ch sb fb sc Kold w K w'->w'.heap[ib]? =some (.cells #[.int .i64 i] 3 (0,0))->
  Run Tryz.prog false 195 Wg (SWk Tryz.prog 195 Wg ch (eQ 0 0 0) (rH H i)) K (λ_=>False) (born Tryz.prog {target:=.fn (.func 123) #[ptr Wg,ptr sb,ptr ib,ptr fb],args:=#[]}) w':=by
  intro i hi ib K w' k1 k2 k3 k4 k5 k6 O y bb;rw[II];exact Di k1 k3 k2 O y.sb_ bb y.fb_ (IJ _) (KX _) k6 U λQ C' q=>W i hi Wg K w' k4 k5 O (by have:=(Rx.1 y.sb_).1;have:=k5 sb k1;obtain⟨st,sm,h⟩:=O;have:=(Rx.1 (show w'.heap[Wg]? =some _ from h)).1;omega) y.old Q C' _ q
 have bd:∀i v,i<n->rH H i=some v->∃a b c,v=eQ a b c:=λi v _ h=>by obtain⟨x,_,rfl⟩:=R4.1 h;exact⟨_,_,_,rfl⟩
 have B:=FF (Wg:=Wg) (ch:=ch) (sb:=sb) (fb:=fb) (n:=n) (z:=eQ 0 0 0) (An:=An) (HV:=rH H) (Fin:=GN Wg ch sb fb w1.heap.size sc Kold w (C::CS)) (CS:=C::CS) (sc:=sc) (Kold:=Kold) (W₁:=w) w1.heap.size hn L
  (λK w' x0 x5 x8 x9 s aa ab ad af ag ak k1 k2 k3 k4 k5 k6 k7 k8=>IG hn bd ⟨by omega,by omega,λb d=>Ru (f b d) (by omega)⟩ ba K w' x0 x5 x8 x9 s aa ab ad af ag ak k1 k2 k3 k4 k5 k6 k7 k8)
  n (Rq _) (λb=>Kold b\/b=sb\/b=fb) w1 (.agg sc) undef (.chan (some ch)) x9 s (.slice aM n cM) undef undef undef undef undef (.inr (.inl rfl)) (.inr (.inr rfl)) (λb h=>.inl h)
  (λb h=>by rcases h with h|rfl|rfl; · have:=f b h;omega
            ·omega
            ·omega)
  (λb h=>by rcases h with h|rfl|rfl; · have:=f b h;omega
            ·omega
            ·omega) u (Z _) (Rq _)
 rw[Nat.sub_self]at B;have bk:∀(i:Nat) (A:MemOp) x b,t1[i]? =some A->A.act.touch?=some x->blk x.loc=some b->¬spB Wg ch b:=by
  intro i A x b ho hx al;rw[e1]at ho;obtain hm|hm:=SI.1 (mem_of_getElem? ho)
  ·exact J b (GC (m.seen A hm) hx al)
  ·obtain(h|rfl|rfl)|rfl:=OE Y hm hx al
   ·exact J b (f b h)
   ·intro k;rcases k with rfl|rfl<;>omega
   ·intro k;rcases k with rfl|rfl<;>omega
   ·intro k;rcases k with rfl|rfl<;>omega
 have an:NoRelease (stA Wg) t1:=by
  intro i hi;obtain⟨A,ho,P⟩:=R4.1 hi;rw[e1]at ho;obtain hm|hm:=SI.1 (mem_of_getElem? ho)
  ·have:=m.seen A hm
   rw[P]at this;have:Wg<w.heap.size:=this;omega
  ·have:=Y.l A hm (by rw[P];rfl) 0
   rw[P]at this;exact absurd this (RZ _)
 obtain⟨σ,bm⟩:=KP (N0:=w.heap.size) (shun:=ShB) E I T (by omega) (by omega) (by omega) (by omega) p.hwg p.hch (λb h=>by
  obtain h|rfl|rfl:=h
  ·exact⟨by have:=f b h;omega,J b (f b h),(hK b h).2⟩
  ·exact⟨by omega,λk=>by rcases k with rfl|rfl<;>omega,λx=>by have:=T _ x;omega⟩
  ·exact⟨by omega,λk=>by rcases k with rfl|rfl<;>omega,λx=>by have:=T _ x;omega⟩) bk an B
 have ao:fh Wg ch X.size w.heap.size ShB:=⟨(Rx.1 I.g0).1,T,by omega,by omega,by omega⟩
 obtain⟨N2,bo,w2,br,t2,r2,o⟩:=phase ao hn a8 I.past _ X w1 a7 t1 σ rfl bm;obtain⟨g2,K2,M2,hs2,a1,a2,a3,a4,a5⟩:=o.main;have ar:∀l,(Shun l\/∃b,blk l=some b/\spB Wg ch b)->∃b,blk l=some b/\(ShB b\/spB Wg ch b):=λl h=>h.elim (λh=>(E l h).imp λb x=>⟨x.1,.inl x.2⟩) λ⟨b,h1,h2⟩=>⟨b,h1,.inr h2⟩
 have j:=o.sp;have R:∀b,b<w.heap.size->w2.heap[b]? =w.heap[b]? :=λb d=>(o.old b d).trans (p.old b d);have b0:∃v6,nZ Wg ch sb fb w1.heap.size sc Kold w K2 M2 w2 v6 hs2:=by obtain⟨x0,x5,v6,x7,x8,x9,s,aa,b1,b2,ab,ad,af,ag,ak,b4,b5,b6,b7,b8,ca,cb,cc,_,h⟩:=a2;exact⟨v6,h⟩
 have ax:=KT (C:=C) (CS:=CS) a2 (Ps:=λK M V w'=>zo w1.heap.size (Srt hs2) K V w') U (λQ Cf w' v6 S q=>F hs2 a5 Wg w1.heap.size K2 M2 w' v6 (λb d=>⟨S.KS b d,λhm=>absurd (a4 b hm).2.2 (by have:=f b d;omega)⟩) S.kl (λhm=>(a4 Wg hm).2.1 (.inl rfl)) S.live (Rr (by omega) S.base) S.st.old S.row (λg hg=>by obtain⟨q1,q2,_,_,_,q3⟩:=S.own g hg;exact⟨q1,q2,q3⟩) Q Cf _ λK' M' bs V hr=>q K' M' bs V hr) (λK' M' V w' bC r h=>h.rely r)
 obtain⟨N3,bx,w3,bA,t3,r3,D⟩:=mN (Shun:=λl=>Shun l\/∃b,blk l=some b/\spB Wg ch b) (ShB:=λb=>ShB b\/spB Wg ch b) ar ax bo br t2 ⟨a1,o.lv,o.past,λA bB=>by rw[o.size];exact o.few A bB⟩
  (λb d=>⟨(a3 b d).1,λk=>k.elim (a3 b d).2.2 (a3 b d).2.1⟩) (λb d=>d.elim (λh=>Ru (T b h) o.fP) λh=>h.elim (λe=>e▸j.1) λe=>e▸j.2) j.1
 obtain⟨g3,K3,M3,u3,c1,⟨V,rfl,c2⟩,c3,c4,c5,c6,c7,c8,c9⟩:=D.at_;refine⟨N1+(N2+N3),bx,w3,bA,t3,V,Wg,ch,?_,c1,⟨w1.heap.size,K3,hs2,by omega,a5,c2,λb d=>⟨(c7 b d).1,λk=>(c7 b d).2 (.inr k)⟩⟩,?_,?_,?_,?_,⟨by omega,by omega,Ru j.1 D.grown,Ru j.2 D.grown⟩,λb d=>?_⟩
 ·rw[gO r1,gO r2,r3]
 ·rw[D.os,o.os,p.os]
 ·rw[D.tape,o.tape,p.tape]
 ·rw[D.output,o.output,p.output]
 ·exact Rr o.fP D.grown
 ·rw[D.keep b (Ru d o.fP) λhm=>absurd (a4 b hm).2.2 (by omega)]
  exact R b d
end
end Go.Tm
namespace Go.Tm
def Gd.nxs{S P Post c c' n}(l:Gd S P Post c)(h:Nxs S P c c' n):Gd S P Post c':=by
 refine⟨λk a=>h.2.1 k (Rr h.1 a),λτ e m=>?_⟩;have o:∀k<c.w.drawn,τ k=c.w.tape k:=λk a=>(e k (Ru a h.1)).trans (h.2.2.1 k a);have p:∀k,c.w.drawn<=k->S.fJ (τ k):=λk a=>by
  obtain x|x:=Ry k c'.w.drawn
  ·rw[e k x];exact h.2.1 k a
  ·exact m k x
 obtain⟨N,fr,w',g,b⟩:=l.2 τ o p;have j:=h.2.2.2 τ e;obtain f|hge:=Ry N n
 ·exfalso
  have d:=gq P g j (Ux f);obtain⟨i,q⟩:∃i,n-N=i+1:=⟨n-N-1,by omega⟩
  rw[q]at d;obtain⟨x,xs,e0⟩:∃x xs,c'.cs++[aI]=x::xs:=by cases c'.cs<;>exact⟨_,_,rfl⟩
  rw[e0]at d;obtain⟨v,b,_⟩|⟨ch,_,r,s⟩:=b
  ·exact gone b d
  ·exact rz r s d
 ·exact⟨N-n,fr,w',gq P j g hge,b⟩
def Gd.Rh{S P Post c}(h:Gd S P Post c):Acc (λc' c=>∃n,0<n/\Nxs S P c c' n) c:=by
 apply SQ;intro p;obtain⟨f,z,u⟩:=lZ p;subst z;have A:∀n k,(f n).w.drawn<=k->S.fJ ((f n).w.tape k):=by
  intro n;cases n with
  |zero=>exact h.1
  |succ n=>obtain⟨_,_,a,b,_⟩:=u n;exactλk B=>b k (Rr a B)
 have e:∀k n,∃K,k<=K/\Nxs S P (f n) (f (n+k)) K:=by
  intro k;induction k with
  |zero=>exactλn=>⟨0,Rq _,.refl (A n)⟩
  |succ k C=>intro n;obtain⟨K,I,D⟩:=C n;obtain⟨m,J,E⟩:=u (n+k);exact⟨K+m,by omega,D.trans E⟩
 have q:∀n m i,i<(f n).w.drawn->i<(f m).w.drawn->(f n).w.tape i=(f m).w.tape i:=by
  intro n m i r s;obtain hnm|hnm:=Us n m
  ·obtain⟨k,rfl⟩:=Ud hnm
   obtain⟨_,_,a⟩:=e k n;exact(a.2.2.1 i r).symm
  ·obtain⟨k,rfl⟩:=Ud hnm
   obtain⟨_,_,a⟩:=e k m;exact a.2.2.1 i s
 let τ:Nat->Question->Nat:=λi=>open Classical in if h:∃n,i<(f n).w.drawn then(f h.choose).w.tape i elseλ_=>0
 have g:∀n i,i<(f n).w.drawn->τ i=(f n).w.tape i:=by
  intro n i j;have d:∃n,i<(f n).w.drawn:=⟨n,j⟩
  show(open Classical in if h:∃n,i<(f n).w.drawn then(f h.choose).w.tape i elseλ_=>0)=_;rw[Tx d];exact q _ _ i d.choose_spec j
 have l:∀i,(f 0).w.drawn<=i->S.fJ (τ i):=by
  intro i j;by_cases d:∃n,i<(f n).w.drawn
  ·obtain⟨n,r⟩:=d
   rw[g n i r];obtain⟨_,_,a⟩:=e n 0;rw[RB]at a;exact a.2.1 i j
  ·show S.fJ (open Classical in if h:∃n,i<(f n).w.drawn then(f h.choose).w.tape i elseλ_=>0)
   rw[dif_neg d];exact lM
 obtain⟨N,fr,w',F,t⟩:=h.2 τ (g 0) l;obtain⟨K,L,y⟩:=e (N+1) 0;rw[RB]at y;have G:=y.2.2.2 τ (g (N+1));have o:=gq P F G (by omega);obtain⟨i,j⟩:∃i,K-N=i+1:=⟨K-N-1,by omega⟩
 rw[j]at o;obtain⟨x,xs,e0⟩:∃x xs,(f (N+1)).cs++[aI]=x::xs:=by cases(f (N+1)).cs<;>exact⟨_,_,rfl⟩
 rw[e0]at o;obtain⟨v,t,_⟩|⟨ch,_,s,H⟩:=t
 ·exact gone t o
 ·exact rz s H o
def Dx{S Q G f g args a w₀}{Post:Value->World->Prop}{PreB:List PanicEntry->World->Prop}{c k ch0}
 (l:∀τ,(∀n<w₀.drawn,τ n=w₀.tape n)->Calls Q f args (av w₀ τ w₀.drawn) λe w'=>(∃v,e=.returned v/\Post v w')\/∃ch,Off ch/\e=.panicked ch/\PreB ch w')
 (T:Nxs S Q ⟨Frame.enter Q f args .normal,[],w₀⟩ c k) (U:c.fr=Frame.enter Q g a .normal) (π:Ren G) (V:∀x∈c.cs,Marks π x) (W:Dp π c.w) (m:∀x∈c.cs,x.mode=.run\/x.mode=.returning)
 (q:∀(cs) (τ),(∀n,c.w.drawn<=n->τ n=λ_=>1)->∃j d w1,runN Q j (lone (Frame.enter Q g a .normal) cs (av c.w τ c.w.drawn))=.next (lone d cs w1)/\d.mode=.panicking ch0/\d.defers=[]/\w1.heap=c.w.heap):
 ∃p,PreB ch0 p/\p.heap.size=c.w.heap.size/\∀b:Nat,p.heap[b]? =c.w.heap[b]? \/p.heap[b]? =some (.deferred none):=by
 obtain⟨X,n2,n3,n4⟩:=T;let τ:Nat->Question->Nat:=λn=>if n<c.w.drawn then c.w.tape n elseλ_=>1
 have s:∀n<c.w.drawn,τ n=c.w.tape n:=λn t=>Rp t;have u:∀n,c.w.drawn<=n->τ n=λ_=>1:=λn t=>Ro (by omega);have y:∀n<w₀.drawn,τ n=w₀.tape n:=λn t=>(s n (Ru t X)).trans (n3 n t);have Y:=n4 τ s;obtain⟨j,d,w1,J,Z,f2,B⟩:=q (c.cs++[aI]) τ u;rw[<-U]at J;have K:runN Q (k+j) (lone (Frame.enter Q f args .normal) [aI] (av w₀ τ w₀.drawn))=.next (lone d (c.cs++[aI]) w1):=by
  have e:runN Q k (lone (Frame.enter Q f args .normal) [aI] (av w₀ τ w₀.drawn))=.next (lone c.fr (c.cs++[aI]) (av c.w τ c.w.drawn)):=Y
  rw[runN_add,e];exact J
 obtain⟨e,p,C,E,F,_,z⟩:=l τ y [aI];have hE:∃N,runN Q N (lone (Frame.enter Q f args .normal) [aI] (av w₀ τ w₀.drawn))=.next (lone C [aI] p):=by rcases E with⟨v,rfl,_⟩|⟨ch,_,rfl,_⟩<;>exact F
 obtain⟨N,A⟩:=hE;have H:wV G w1 ch0 (lone d (c.cs++[aI]) w1):=by
  refine .up π Z (λx h=>?_) ?_ m (.refl _)
  ·cases h with
   |head=>intro D L;rw[f2]at L;cases L
   |tail _ h=>exact V x h
  ·intro r R o hr M
   rw[B]at M;exact W r R o hr M
 obtain I|hge:=Ry N (k+j)
 ·exfalso
  have h:=gq Q A K (Ux I);obtain⟨i,hi⟩:∃i,k+j-N=i+1:=⟨k+j-N-1,by omega⟩
  rw[hi]at h;obtain⟨x,xs,e0⟩:∃x xs,c.cs++[aI]=x::xs:=by cases c.cs<;>exact⟨_,_,rfl⟩
  rw[e0]at h;obtain⟨v,rfl,_⟩|⟨ch,_,rfl,_⟩:=E
  ·exact gone z h
  ·exact rz z.1 z.2.1 h
 ·have h:=gq Q K A hge
  obtain⟨O,P⟩:=Dw _ H h;obtain⟨v,rfl,_⟩|⟨ch,_,rfl,hp⟩:=E
  ·have:=z.1;rw[O]at this;cases this
  ·have e:=z.1
   rw[O]at e;cases e;exact⟨p,hp,by rw[P.1,B],λb=>by rw[<-B];exact P.2 b⟩
end Go.Tm
namespace Go.Tm
open Go.Proofs Go.Conc Go.ConcN
def Ren.add{G:Nat}(π:Ren G)(r R:Nat)(d:∀X,¬π r X)(e:∀x,¬π x R)(f:r<G↔R<G):Ren G where
 rel a b:=π a b\/(a=r/\b=R)
 fn a b c hb hc:=by
  obtain hb|⟨rfl,rfl⟩:=hb
  ·obtain hc|⟨rfl,rfl⟩:=hc
   ·exact π.fn a b c hb hc
   ·exact absurd hb (d b)
  ·obtain hc|⟨_,rfl⟩:=hc
   ·exact absurd hc (d c)
   ·rfl
 inj a b c ha hb:=by
  obtain ha|⟨rfl,rfl⟩:=ha
  ·obtain hb|⟨rfl,rfl⟩:=hb
   ·exact π.inj a b c ha hb
   ·exact absurd ha (e a)
  ·obtain hb|⟨rfl,_⟩:=hb
   ·exact absurd hb (e b)
   ·rfl
 dB a b h:=by
  obtain h|⟨rfl,rfl⟩:=h
  ·exact π.dB a b h
  ·exact f
def Ren.K7{G π r R}{a:∀X,¬π r X}{b:∀x,¬π x R}{c:r<G↔R<G}:Ren.le π (π.add r R a b c):=λ_ _ h=>.inl h
section
variable {S:Kn} {P:Program} {G:Nat}
def bj.keep{Pr}{π:Ren G}{w W w' W':World}(h:bj S Pr π w W)(k1:∀b,b<w.heap.size->w'.heap[b]? =w.heap[b]?)(e:∀b,b<W.heap.size->W'.heap[b]? =W.heap[b]?)(f:w.heap.size<=w'.heap.size)(d:W.heap.size<=W'.heap.size):
 bj S Pr π w' W':=
 ⟨λr R a=>by rw[k1 r (h.lt a).1,e R (h.lt a).2];exact h.obj r R a,λr R a c=>by rw[k1 r (h.lt a).1];exact h.uf r R a c,λR c=>Ru (h.uR R c) d,Rr h.gw f,Rr h.gW d⟩
def bj.add{Pr π w W}(h:bj S Pr π w W){r R}{e:∀X,¬π r X}{f:∀x,¬π x R}{g:r<G↔R<G}{o O}(e1:w.heap[r]? =some o)(j:W.heap[R]? =some O)(k:fA S (π.add r R e f g) o O)(d:¬Pr R):
 bj S Pr (π.add r R e f g) w W:=by
 refine⟨λa b c=>?_,λa b c i=>?_,h.uR,h.gw,h.gW⟩
 ·obtain c|⟨rfl,rfl⟩:=c
  ·obtain⟨o',l,a1,m,n⟩:=h.obj a b c
   exact⟨o',l,a1,m,n.mono Ren.K7⟩
  ·exact⟨o,O,e1,j,k⟩
 ·obtain c|⟨rfl,rfl⟩:=c
  ·exact h.uf a b c i
  ·exact absurd i d
end
def FK{G}(π:Ren G)(L)(f:∀v∈L,∃a b c,v=eQ a b c)(k):VsR π (bt L++cO jR k).toArray (bt L++cO jR k).toArray:=by
 refine aU.refl λx hx=>?_;have hx:x∈bt L++cO jR k:=by simpa using hx
 obtain hx|hx:=Tt.1 hx
 ·obtain⟨v,g,d⟩:=US.1 hx
  obtain⟨a,b,c,rfl⟩:=f v g;simp[eQ,Value.cells]at d;rcases d with rfl|rfl|rfl<;>exact .int _ _
 ·obtain⟨l,h,e⟩:=U8.1 hx
  have:=U9 h;subst this;simp[jR]at e;subst e;exact .int _ _
section
variable {S:Kn} {fs:Array Func} {Post PostR:Value->World->Prop} {dN:World->Value->List Value->Prop} {c₀:Gh}
def Dy(S:Kn)(fs:Array Func)(dN:World->Value->List Value->Prop)(c₀:Gh):Prop:=∀(c:Gh) (k:Nat) (v:Value) (π:Ren Tryz.prog.globals.size),Nxs S (ah Tryz.prog fs) c₀ c k->c.fr=Frame.enter (ah Tryz.prog fs) 74 #[v] .normal->(∀x∈c.cs,Marks π x)->Dp π c.w->(∀x∈c.cs,x.mode=.run\/x.mode=.returning)->∃L,dN c.w v L
def mQ(S:Kn)(fs:Array Func)(Post:Value->World->Prop)(dN:World->Value->List Value->Prop):Prop:=∀(c:Gh) (v:Value) (C:Frame) (cs:List Frame) (L:List Value) (cap:Nat),c.fr=Frame.enter (ah Tryz.prog fs) 74 #[v] .normal->c.cs=C::cs->Gd S (ah Tryz.prog fs) Post c->dN c.w v L->(L≠[]->L.length<=cap/\cap<=maxLen)->∃V w' k,0<k/\Nxs S (ah Tryz.prog fs) c ⟨C.finish V,cs,w'⟩ k/\c.w.heap.size<=w'.heap.size/\(∀b,b<c.w.heap.size->w'.heap[b]? =c.w.heap[b]?)/\((L=[]/\V=.slice none 0 0)\/∃r,L≠[]/\c.w.heap.size<=r/\V=.slice (some ⟨r,0,none⟩) L.length cap/\w'.heap[r]? =some (.cells (bt L++cO jR (cap-L.length)).toArray 66 (0,0)))
def tl(S:Kn)(dN:World->Value->List Value->Prop):Prop:=∀(Pr:Nat->Prop) (π:Ren Tryz.prog.globals.size) (w W:World) (v A:Value) (L:List Value),az π v A->bj S Pr π w W->dN w v L->(∀g,S.dB g=true->π g g)->∃sc n H d Kold f h,A=.agg sc/\sc[9]? =some (.slice f n h)/\(Tryz.prog.info? 125).map (·.size)=some sc.size/\n<2147483647/\(∀b,Kold b->∃r,π r b)/\wT W Kold sc n H/\tj W Kold sc n H d/\(∀e,IK n H e->d e=L)/\∀x∈L,∃a b c,x=eQ a b c
def join(ht:Tab S Tryz.prog fs)(ad:∀g,S.calm g)(bo:∀f,S.ent f=true->Tryz.prog.inits.idxOf? f=none)(br:0<Tryz.prog.globals.size)
 {Pr} {s} {Z} (af:∀v V w' W' (ag),Post v w'->az ag v V->bj S Pr ag w' W'->iA Pr s Z ag W'->PostR V W')
 (ax:Dy S fs dN c₀) (ay:mQ S fs Post dN) (bs:tl S dN) {c} (a1:Acc (λc' c=>∃n,0<n/\Nxs S (ah Tryz.prog fs) c c' n) c):
 ∀(k) (π) (F) (CS) (W) (gs) (sl) (t) (Shun) (ShB:Nat->Prop),Nxs S (ah Tryz.prog fs) c₀ c k->(∀l,Shun l->∃b,blk l=some b/\ShB b)->iA Pr s Z π W->Cp S Tryz.prog fs Pr Post π c F CS W->Bes Tryz.prog Shun gs W t ⟨F,CS,.running,none,none⟩->(∀b,ShB b->b<W.heap.size/\¬∃r,π r b)->df Tryz.prog PostR (crowd gs W sl) t:=by
 induction a1 with
 |intro c _ ih=>
  intro k π F CS W gs sl t Shun ShB hN E bx h hb a6;obtain⟨g0,⟨q,hL⟩,hP,hF⟩:=hb;obtain⟨N,I,W1,ak,t1,q1,d,D,FR,bA,k1,r1,r2,r3,r4,r5,r6,r7,r8,r9,al⟩:=Df [] ht ad E h.qg.acc _ π F CS W gs sl t q (Rq _) h (by simpa using g0) hL hP hF a6;have aa:=bx.chg r7;have i:∀b,ShB b->b<W1.heap.size/\¬∃r,d r b:=λb hb=>⟨Ru (a6 b hb).1 r7.size,r6 b hb⟩
  obtain⟨a7,he⟩|⟨f,a,A,hs,⟨bB,ha⟩,e1,e2,bC,J,p,an,ao,a8⟩:=r8
  ·have ab:=a7.cs
   rw[he.1]at ab;cases ab;exact(IL ht bo E af _ d D FR W1 I ak t1 q1 (Rq _) aa a7 he (by simpa using r3) r4 r5 r9 i).back r1
  ·have hf:=(ht.stop f hs).1
   have hf:f=74:=hf;subst hf;obtain⟨v,rfl⟩:∃v,a=#[v]:=by
    obtain⟨l⟩:=a
    match l,bB with
    | [v],_=>exact⟨v,rfl⟩
   obtain⟨V0,rfl⟩:∃V0,A=#[V0]:=by
    have h1:A.size=1:=ha.1.symm;clear ha e2 r3;obtain⟨l⟩:=A
    match l,h1 with
    | [x],_=>exact⟨x,rfl⟩
   have hv:=ha.2 0 v V0 rfl rfl;have M:∀x∈D.cs,x.mode=.run\/x.mode=.returning:=λx u=>by obtain⟨y,hy⟩:=J.left x u;exact hy.calm
   have O:∀x∈D.cs,Marks d x:=λx u=>by obtain⟨y,hy⟩:=J.left x u;exact hy.marks
   obtain⟨L,ar⟩:=ax D (k+k1) v d (hN.trans al) e1 O (p.dp λ_ _ h=>h) M;obtain⟨sc,n,H,cq,Kold,aM,cM,rfl,q1,q2,q3,q4,q5,q6,q7,q8⟩:=bs Pr d D.w W1 v V0 L hv p ar a8;obtain⟨C,cs,Q⟩:∃C cs,D.cs=C::cs:=by
    cases u:D.cs with
    |nil=>exact absurd u bC
    |cons C cs=>exact⟨C,cs,rfl⟩
   rw[Q]at J;obtain⟨C',CS',rfl,b0,ba⟩:∃C' CS',bA=C'::CS'/\aZ S d C C'/\bg (aZ S d) cs CS':=by
    cases J with
    |cons a b=>exact⟨_,_,rfl,a,b⟩
   have b1:Bes Tryz.prog Shun I W1 t1 (G (Frame.enter Tryz.prog 74 #[.agg sc] .normal) (C'::CS')):=⟨by rw[e2]at r3;simpa[G]using r3,⟨_,r4⟩,r5,r9⟩
   obtain⟨N2,b2,W2,b3,t2,V,Wg,ch,b4,o⟩:=AU (C:=C') (CS:=CS') E q1 q2 q3 (λb hb=>by obtain⟨r,hr⟩:=q4 b hb;exact⟨(p.lt hr).2,λx=>(i b x).2 ⟨r,hr⟩⟩) (λb hb=>(i b hb).1) (Ru br p.gW) I ak t1 b1 q5 q6
   obtain⟨N0,K,b5,cr,hh,z,b6⟩:=o.res;rw[q7 b5 hh]at z;have bb:∀l,(Shun l\/∃b,blk l=some b/\spB Wg ch b)->∃b,blk l=some b/\(ShB b\/spB Wg ch b):=λl h=>h.elim (λh=>(E l h).imp λb x=>⟨x.1,.inl x.2⟩) λ⟨b,h1,h2⟩=>⟨b,h1,.inr h2⟩
   have B:∀b,(ShB b\/spB Wg ch b)->b<W2.heap.size/\¬∃r,d r b:=λb hb=>by
    obtain hb|hb:=hb
    ·exact⟨Ru (i b hb).1 o.grown,(i b hb).2⟩
    ·refine⟨hb.elim (λe=>e▸o.sp.2.2.1) (λe=>e▸o.sp.2.2.2),λ⟨r,hr⟩=>?_⟩
     have h1:=(p.lt hr).2;have:=o.sp;rcases hb with rfl|rfl<;>omega
   have b7:∀V w',(⟨C.finish V,cs,w'⟩:Gh).Flat:=λV w' b hb=>by refine an b ?_;rw[Q];simp only[lY]at hb;rw[UT,VJ];exact hb
   have go:∀(V1:Value) (w1:World) (T:Nat) (j:Ren Tryz.prog.globals.size),0<T->Nxs S (ah Tryz.prog fs) D ⟨C.finish V1,cs,w1⟩ T->Ren.le d j->(∀r R,j r R->d r R\/W1.heap.size<=R)->az j V1 V->bj S Pr j w1 W2->(∀b,(ShB b\/spB Wg ch b)->¬∃r,j r b)->df Tryz.prog PostR (crowd I W1 ak) t1:=by
    intro V1 w1 T j U m Y b8 ca cb cc;have bd:Cp S Tryz.prog fs Pr Post j ⟨C.finish V1,cs,w1⟩ (C'.finish V) CS' W2:=⟨(b0.mono Y).finish ca,ba.mono λ_ _ x=>aZ.mono Y x,cb,b7 V1 w1,ao.nxs m,λg hg=>Y _ _ (a8 g hg)⟩
    exact(ih ⟨C.finish V1,cs,w1⟩ ⟨k1+T,by omega,al.trans m⟩ (k+k1+T) j (C'.finish V) CS' W2 b2 b3 t2 _ _ ((hN.trans al).trans m) bb (aa.still o.os o.output o.grown o.old b8 Y) bd o.bes λb hb=>⟨(B b hb).1,cc b hb⟩).back b4
   refine df.back ?_ r1;obtain⟨rfl,cd⟩|⟨g,cap,rfl,cu,bk,cf,ck,cl⟩:=z.1.2
   ·have bm:=Ss cd
    obtain⟨V1,w1,T,U,m,s1,s2,hV⟩:=ay D v C cs L 0 e1 Q ao ar (λh=>absurd bm h);obtain⟨_,rfl⟩|⟨r,cm,_⟩:=hV
    ·exact go _ w1 T d U m (Ren.le_refl _) (λ_ _ h=>.inl h) (.js 0 0) (p.keep s2 o.old s1 o.grown) λb hb=>(B b hb).2
    ·exact absurd bm cm
   ·obtain⟨V1,w1,T,U,m,s1,s2,hV⟩:=ay D v C cs L cap e1 Q ao ar (λ_=>⟨cf,ck⟩)
    obtain⟨rfl,_⟩|⟨r,_,cv,rfl,hr⟩:=hV
    ·simp at cl
    ·have cn:=(Rx.1 bk).1
     have cp:=(Rx.1 hr).1;have n1:∀X,¬d r X:=λX hX=>by have:=(p.lt hX).1;omega
     have n2:∀x,¬d x g:=λx u=>by have:=(p.lt u).2;omega
     have n3:r<Tryz.prog.globals.size↔g<Tryz.prog.globals.size:=by have:=p.gw;have:=p.gW;omega
     refine go _ w1 T (d.add r g n1 n2 n3) U m Ren.K7 (λ_ _ h=>h.imp id λh=>by rw[h.2];omega) (.slice _ _ (.mk (.inr ⟨rfl,rfl⟩))) ((p.keep s2 o.old s1 o.grown).add hr bk (.cells 66 (FK _ L q8 _) (.inl rfl)) (λhp=>by have:=p.uR _ hp;omega)) λb hb ⟨x,u⟩=>?_;obtain u|⟨_,rfl⟩:=u
     ·exact(B b hb).2 ⟨x,u⟩
     ·obtain hb|hb:=hb
      ·have:=(i b hb).1;omega
      ·exact(b6 b (z.2 b rfl)).2 hb
end
end Go.Tm

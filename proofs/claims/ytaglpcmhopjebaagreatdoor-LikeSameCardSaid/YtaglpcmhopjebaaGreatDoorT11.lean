import Derived.Test.YtaglpcmhopjebaaGreatDoorT10
set_option linter.all false
set_option maxRecDepth 100000
set_option maxHeartbeats 20000000
namespace Go.Tm
open Go.Conc Go.ConcN Go.Conc.Lib
open Go.ConcR (KK WgAt stA smA rd wr mk DC0 Bk)
section
variable {P:Program} {ty:TypeId} {Wg ch:Nat} {z:Value} {An:aN} {HV:Nat->Option Value} {Fin:List Value->aN} {n base N0:Nat} {shun:Nat->Prop} {W₀:World} {t₀ t:Trace} {gs:Array Goroutine} {w w':World} {sl:Option (Nat×Nat)} {σ:GSt P ty Wg}
structure fo(Wg ch base N0:Nat)(shun:Nat->Prop):Prop where
 kY:0<base
 Mi:∀b,shun b->b<N0
 wg_:N0<=Wg
 ch_:N0<=ch
 ne_:Wg≠ch
def bK(gs:Array Goroutine)(f x k)(g':Goroutine)(h:k≠x):((gs.map f).setIfInBounds x g')[k]? =(gs[k]?).map f:=by rw[Te (Tl h),Tw]
def eX(gs:Array Goroutine)(f x)(g':Goroutine)(h:x<gs.size):((gs.map f).setIfInBounds x g')[x]? =some g':=by rw[TP];simp[h]
def zB{D':Nat->WD}{D:Nat->WD}{j}(h:∀i,i<j->((D' i).s<=6/\HV i≠none↔(D i).s<=6/\HV i≠none)){mt:nw} (c:∃l:List Nat,l.Nodup/\(∀i,i∈l↔i<j/\(D i).s<=6/\HV i≠none)/\mt.got=l.filterMap HV):∃l:List Nat,l.Nodup/\(∀i,i∈l↔i<j/\(D' i).s<=6/\HV i≠none)/\mt.got=l.filterMap HV:=by obtain⟨l,d,e,f⟩:=c;refine⟨l,d,λi=>?_,f⟩;rw[e i];constructor;rintro⟨a,b⟩;exact⟨a,(h i a).2 b⟩;rintro⟨a,b⟩;exact⟨a,(h i a).1 b⟩
def fp{ct}(h:ct≠some .quit):eG ct=false:=by cases ct with|none=>rfl|some c=>cases c<;>first|rfl|exact absurd rfl h
def dN{a k r g}{u:Trace}(h:RelBy a t k r)(b:∀c∈u,c.g=g)(d:g≠k):RelBy a (t++u) k r:=RelBy.appOther h b d
def kD{u}(h:AcqAll Wg n base t)(e:∀i r,i<n->RelBy (stA Wg) t (base+i) r->RelBy (stA Wg) (t++u) (base+i) r):AcqAll Wg n base (t++u):=by obtain⟨q,c,f,g,j⟩:=h;have a:=lt_of_act? c;exact⟨q,by rw[act?_old a];exact c,by rw[g?_old a];exact f,(heard_old a).2 g,λi d=>let⟨r,k,b⟩:=j i d;⟨r,e i r d k,b⟩⟩
def kE{u}(h:Bh Wg ch n base t)(k:∀i r,i<n->RelBy (stA Wg) t (base+i) r->RelBy (stA Wg) (t++u) (base+i) r)(l:∀i,t.size<=i->(t++u).g? i=some (base+n)->¬(t++u).counts i):Bh Wg ch n base (t++u):=by obtain⟨q,p,f,m,o,s,v,g,x,y,A⟩:=h;have c:=lt_of_act? f;have d:=lt_of_act? g;refine⟨q,p,by rw[act?_old c];exact f,by rw[g?_old c];exact m,(heard_old c).2 o,λi b=>let⟨r,B,e⟩:=s i b;⟨r,k i r b B,e⟩,v,by rw[act?_old d];exact g,by rw[g?_old d];exact x,(heard_old d).2 y,λi b j=>?_⟩;obtain a|hge:=S6 i t.size;rw[counts_old a];exact A i b (by rw[<-g?_old (u:=u) a];exact j);exact l i hge j
def iI{u:Trace}{g k}(e:∀b∈u,b.g=g)(c:g≠k):∀i,t.size<=i->(t++u).g? i=some k->¬(t++u).counts i:=by intro i l f;obtain⟨b,h,a⟩:=Ty.1 f;obtain⟨j,_⟩|⟨_,d⟩:=getElem?_append_cases h;omega;rw[e b d]at a;exact absurd a c
def GI.worker(G:fo Wg ch base N0 shun)(h:GI P ty Wg ch z An HV Fin n base N0 shun W₀ t₀ gs w t σ){i}(S:i<σ.j){g g' es D' ρ' st' sm'} (hg:gs[base+i]? =some g) (bs:stepG P false g w=.go g' w' es) (ad:g'.status=.running\/g'.status=.finished) (af:w'.os=w.os/\w'.tape=w.tape/\w'.output=w.output) (x:w.heap.size<=w'.heap.size) (I:∀b,b<w.heap.size->b≠Wg->σ.own b≠base+i->w'.heap[b]? =w.heap[b]?) (hwg:WgAt ty Wg w' st' sm') (ag:∀e∈es,EvK Wg (orK (σ.D i).K w w') (orK (σ.D i).M w w') e\/EvB Wg e) (hK:∀b,D'.K b->orK (σ.D i).K w w' b) (hM:∀b,D'.M b->orK (σ.D i).M w w' b) (hS:WSit P ty Wg ch z (HV i) D' ρ' g' w') (bx:Rk.lt P ty Wg ρ' (σ.R i)) (hd:deafBehind (σ.D i).d es=D'.d) (a6:(σ.D i).s<=5->∀r,RelBy (stA Wg) t (base+i) r->RelBy (stA Wg) (t++MemOp.ofEvents (base+i) g.frame.fn g.frame.place es) (base+i) r) (a7:D'.s<=5->(σ.D i).s<=5\/∃r,RelBy (stA Wg) (t++MemOp.ofEvents (base+i) g.frame.fn g.frame.place es) (base+i) r) (ak:∀p,(p=σ.ct\/(σ.ct=some .blk/\p=some .w3))->(mayWake P g=true->p≠some .blk)->Mode σ.j (upd σ.D i D') σ.mt p st' sm') (an:D'.s<=6/\HV i≠none↔(σ.D i).s<=6/\HV i≠none) (h7:D'.s≠7):∃gs' o,runT P (crowd gs w sl) (base+i)=(.next (crowd gs' w' sl),MemOp.ofEvents (base+i) g.frame.fn g.frame.place es)/\GI P ty Wg ch z An HV Fin n base N0 shun W₀ t₀ gs' w' (t++MemOp.ofEvents (base+i) g.frame.fn g.frame.place es) o/\DI P ty Wg (mu (n:=n) (base:=base) o) (mu (n:=n) (base:=base) σ):=by
 have hb:=G.kY;have W:=h.w_;have T:=h.t_;have Q:=h.g_;have bA:=SZ S Q.jn;have a8:=(S8.1 hg).1;have bB:(base+i==0)=false:=by simp;omega
 have ao:=runT_crowd_go (P:=P) (sl:=sl) (i:=base+i) hg (by rw[bB];exact bs);have v:∀op∈MemOp.ofEvents (base+i) g.frame.fn g.frame.place es,op.g=base+i:=λop ar=>by obtain⟨e,_,rfl⟩:=Go.Conc.mem_ofEvents ar;rfl
 have ba:=T.tr.uT Wg (.inl rfl);have ab:=T.tr.uT ch (.inr rfl);have L:=I ch W.sp.2 (Tl G.ne_) (by rw[ab];omega);have ax:WgLive ty Wg w':=⟨_,_,hwg⟩
 have U:∀K:Nat->Prop,(∀b,K b->b<w.heap.size/\b≠Wg/\σ.own b≠base+i)->RK ty Wg K w w':=λK ay=>⟨λb f=>I b (ay b f).1 (ay b f).2.1 (ay b f).2.2,λ_=>ax,x⟩
 have N:∀b,shun b->b<w.heap.size:=λb f=>SZ (G.Mi b f) W.fR;have bb:=W.Dz i S;obtain⟨p,V,O,bC,b0⟩:∃p V,(p=σ.ct\/(σ.ct=some .blk/\p=some .w3))/\(mayWake P g=true->p≠some .blk)/\
  ∀c,p=some c->∃gc,((gs.map (woken P g g' w')).setIfInBounds (base+i) g')[base+n]? =some gc/\CSit P ty Wg ch An (VW σ.j (upd σ.D i D')) c σ.dc σ.Kc σ.Mc V gc w':=by
  cases y:σ.ct with
  |none=>exact⟨none,σ.rc,.inl rfl,λ_=>by simp,λc e=>by cases e⟩
  |some c=>
   obtain⟨gc,b1,b2⟩:=Q.cl c y;have b3:σ.ct≠none:=by rw[y];simp
   have hr:=U _ λb f=>by obtain⟨a1,C,H,B⟩:=W.kc b3 b f;refine⟨a1,λe=>C (.inl e),?_⟩;rcases B with B|B<;>omega
   obtain⟨c',ca,J,h2,h3⟩:=(b2.rely hr).woken g g' w' ad;obtain⟨b4,h4⟩:=J.PY (VW σ.j (upd σ.D i D'));refine⟨some c',b4,?_,λe=>by simpa using h3 e,λc2 e=>?_⟩
   ·obtain rfl|⟨rfl,rfl⟩:=h2
    ·exact .inl rfl
    ·exact .inr ⟨rfl,rfl⟩
   ·cases e
    refine⟨_,?_,h4⟩;rw[bK _ _ _ _ _ (by omega),b1];rfl
 have A:p=none↔σ.ct=none:=by obtain rfl|⟨a,rfl⟩:=O;rfl;simp[a]
 have X:p=some .quit↔σ.ct=some .quit:=by obtain rfl|⟨a,rfl⟩:=O;rfl;simp[a]
 have bk:p=some .cl↔σ.ct=some .cl:=by obtain rfl|⟨a,rfl⟩:=O;rfl;simp[a]
 have b5:eG p=eG σ.ct:=by obtain rfl|⟨a,rfl⟩:=O;rfl;rw[a];rfl
 have Y:∀m r,m<n->RelBy (stA Wg) t (base+m) r->(m=i->(σ.D i).s<=5)->RelBy (stA Wg) (t++MemOp.ofEvents (base+i) g.frame.fn g.frame.place es) (base+m) r:=λm r _ hr E=>by by_cases e:m=i;subst e;exact a6 (E rfl) r hr;exact dN hr v (by omega)
 have l:∀b,b<w.heap.size->gX σ.own (base+i) w w' b=σ.own b:=λb f=>rI f;have wY:(σ.ct=some .cl\/σ.ct=some .quit)->(σ.D i).s<=5:=by intro y;rw[h.m_.wY (by rcases y with y|y<;>rw[y]<;>trivial) i S];omega
 let o:GSt P ty Wg:={σ with D:=upd σ.D i D',R:=upd σ.R i ρ',ct:=p,rc:=V,own:=gX σ.own (base+i) w w',st:=st',sm:=sm'}
 refine⟨_,o,ao,⟨?_,?_,?_,ak p O bC,?_⟩,jl bA rfl bx⟩;refine⟨af.1.trans W.os,af.2.1.trans W.tape,af.2.2.trans W.output,SV W.fR x,λb f=>?_,?_,hwg,⟨SZ W.sp.1 x,SZ W.sp.2 x⟩,?_,?_,?_,?_,?_,?_,?_,?_,?_,?_,λk=>SV (W.Bg k) x⟩;rw[I b (SZ f W.fR) (by have:=G.wg_;omega) (λe=>by have:=(W.owns b (by omega)).1;omega)];exact W.old b f;obtain⟨s,E⟩:=W.chn;exact⟨s,by rw[L,E];show _=some (Obj.chan 0 #[] (eG p) s s false);rw[b5]⟩;intro m q b f;by_cases e:m=i;subst e;simp only[o,upd_same]at f;obtain hb2|hb2:=hK b f;obtain⟨a1,C,H,B⟩:=W.kw _ S b hb2;refine⟨SZ a1 x,C,H,?_⟩;show gX σ.own (base+m) w w' b=base+m\/(gX σ.own (base+m) w w' b=0/\b<σ.low (base+m));rw[l b a1];exact B;refine⟨hb2.2,λe=>?_,λe=>absurd (N b e) (T4.2 hb2.1),.inl (jk hb2)⟩;obtain e|e:=e;have:=W.sp.1;have:=hb2.1;omega;have:=W.sp.2;have:=hb2.1;omega;have hb2:(σ.D m).K b:=by simpa[o,upd_ne σ.D D' e]using f
 obtain⟨a1,C,H,B⟩:=W.kw m q b hb2;refine⟨SZ a1 x,C,H,?_⟩;show gX σ.own (base+i) w w' b=base+m\/(gX σ.own (base+i) w w' b=0/\b<σ.low (base+m));rw[l b a1];exact B;intro m q b f;by_cases e:m=i;subst e;simp only[o,upd_same]at f;obtain hb2|hb2:=hM b f;have:=W.mw _ S b hb2;have F:=(W.owns b (by omega)).2.2.1;show gX σ.own (base+m) w w' b=base+m;rw[l b F];exact this;exact jk hb2;have hb2:(σ.D m).M b:=by simpa[o,upd_ne σ.D D' e]using f
 have:=W.mw m q b hb2;have F:=(W.owns b (by omega)).2.2.1;show gX σ.own (base+i) w w' b=base+m;rw[l b F];exact this;intro b f;obtain⟨a1,C,H,B⟩:=W.k0 b f;exact⟨SZ a1 x,C,H,(l b a1).trans B⟩;intro b f;obtain⟨a1,C,H,B,a5⟩:=W.m0 b f;exact⟨SZ a1 x,C,H,(l b a1).trans B,a5⟩;intro y b f;obtain⟨a1,C,H,B⟩:=W.kc (λe=>y (A.2 e)) b f;refine⟨SZ a1 x,C,H,?_⟩;show gX σ.own (base+i) w w' b=base+n\/(gX σ.own (base+i) w w' b=0/\b<σ.low (base+n));rw[l b a1];exact B;intro y b f;have:=W.mc (λe=>y (A.2 e)) b f;have F:=(W.owns b (by omega)).2.2.1;exact(l b F).trans this;intro b f;by_cases hn:Gt w w' b;have e:o.own b=base+i:=jk hn;refine⟨SV W.fR hn.1,by rw[e];omega,hn.2,λe=>?_⟩;obtain e|e:=e;have:=W.sp.1;have:=hn.1;omega;have:=W.sp.2;have:=hn.1;omega;have e:o.own b=σ.own b:=by show gX σ.own (base+i) w w' b=_;unfold gX;exact SQ hn
 rw[e]at f⊢;obtain⟨a1,C,H,B⟩:=W.owns b f;exact⟨a1,C,SZ H x,B⟩;exact W.Dz;exact W.DC.trans (not_congr A.symm);exact W.Bf;refine⟨?_,?_,?_,iV T.gb λop ar=>by rw[v op ar];have:=Q.jn;omega,?_,?_,?_,?_,?_,?_,?_,?_⟩;obtain⟨u,rfl⟩:=T.pre;exact⟨_,Ub ..⟩;have ht:=T.tr.owned (own':=gX σ.own (base+i) w w') T.tb l (λb f=>by obtain rfl|rfl:=f;rw[l _ W.sp.1];exact ba;rw[l _ W.sp.2];exact ab);exact ht.app v (λe=>absurd e (by omega)) (Gu hb bb (λb f=>by obtain⟨a1,C,H,B⟩:=W.kw i S b f;exact⟨a1,C,H,B⟩) (W.mw i S) W.sp N ag _ _);exact kX T.seen x (Jz (λb f=>(W.kw i S b f).1) x W.sp.1 ag _ _ _);exact T.norel.app (Mh ag _ _ _);exact(Deaf_other t (by omega) _ v).trans T.d0;intro m q;by_cases e:m=i;subst e;simp only[o,upd_same];rw[Deaf_own,T.dw _ S];exact hd;simp only[o,upd_ne σ.D D' e];exact(Deaf_other t (by omega) _ v).trans (T.dw m q);intro y;exact(Deaf_other t (by omega) _ v).trans (T.dc λe=>y (A.2 e));intro k hk J h2;exact(Deaf_other t (g:=k) (g':=base+i) (λe=>J i S e.symm) _ v).trans (T.above k hk J λe=>h2 λe'=>e (A.1 e'));intro m q E;by_cases e:m=i;subst e;simp only[o,upd_same]at E;obtain bm|hr:=a7 E;obtain⟨r,hr⟩:=T.rel _ S bm;exact⟨r,a6 bm r hr⟩;exact hr;simp only[o,upd_ne σ.D D' e]at E;obtain⟨r,hr⟩:=T.rel m q E;exact⟨r,dN hr v (by omega)⟩;intro y;have Z:=bk.1 y;exact kD (T.acq Z) λm r q hr=>Y m r q hr λ_=>wY (.inl Z);intro y;have Z:=X.1 y;exact kE (T.cls Z) (λm r q hr=>Y m r q hr λ_=>wY (.inr Z)) (iI v (by omega));have aa:σ.ct≠some .quit->∃s r tm,w'.heap[ch]? =some (.chan 0 #[] false s r tm):=by intro y;obtain⟨s,E⟩:=W.chn;rw[fp y]at E;exact⟨s,s,false,L.trans E⟩
 refine⟨?_,Q.jn,λy=>Q.cn λe=>y (A.2 e),?_,A.trans Q.mc,?_,?_,b0,?_,?_,?_⟩;have:(if p.isSome then 1 else 0)=(if σ.ct.isSome then 1 else 0):=by obtain rfl|⟨a,rfl⟩:=O;rfl;rw[a];rfl
 simp only[Tv,Uu];rw[this];exact Q.size;obtain⟨a,ha,aM⟩:=Q.mn;refine⟨woken P g g' w' a,by rw[bK _ _ _ _ _ (by omega),ha];rfl,?_⟩;have hr:=U _ λb f=>by obtain⟨a1,C,H,B⟩:=W.k0 b f;exact⟨a1,λe=>C (.inl e),by omega⟩
 have e:woken P g g' w' a=a:=by obtain⟨J,_⟩|⟨r,E,g2,J,_⟩:=aM.status;unfold Go.Conc.woken;split;exact again_running _ (.inl J);rfl;exact aM.woken g g' w' (aa (Q.mb ⟨r,E,J⟩).1)
 rw[e];exact aM.rely hr;intro m q;by_cases e:m=i;subst e;refine⟨g',eX _ _ _ _ a8,?_⟩;simp only[o,upd_same];exact hS;obtain⟨gw,b6,bo⟩:=Q.wk m q;refine⟨woken P g g' w' gw,by rw[bK _ _ _ _ _ (by omega),b6];rfl,?_⟩;have hr:=U _ λb f=>by obtain⟨a1,C,H,B⟩:=W.kw m q b f;refine⟨a1,λe=>C (.inl e),?_⟩;rcases B with B|B<;>omega
 have e':=bo.woken g g' w' λbr=>aa λy=>by rw[h.m_.wY (by rw[y];trivial) m q]at br;cases br
 simp only[o,upd_ne σ.D D' e,upd_ne σ.R ρ' e];rw[e'];exact bo.rely hr;intro m J h2;simp only[o,upd_ne σ.R ρ' (show m≠i fromλe=>by subst e;exact absurd S (T4.2 J))];exact Q.unb m J h2;intro k gk J h2 hk;rw[bK _ _ _ _ _ (by omega)]at hk;obtain⟨b7,b8,rfl⟩:=Ty.1 hk;have hq:=Q.lv k b7 J h2 b8;rw[woken_quitsD hq,Deaf_other t (by omega) _ v];exact hq;rintro⟨r,E,e⟩;obtain⟨J,h2⟩:=Q.mb ⟨r,E,e⟩;refine⟨λe'=>J (X.1 e'),λm q=>?_⟩;by_cases e':m=i;subst e';simp only[o,upd_same];exact h7;simp only[o,upd_ne σ.D D' e'];exact h2 m q;intro r E e;exact X.2 (Q.mq r E e)
 exact zB (λm q=>by
  by_cases e:m=i
  ·subst e;simp only[o,upd_same];exact an
  ·simp only[o,upd_ne σ.D D' e]) h.v_
end
section
variable {j:Nat} {D:Nat->WD} {D':WD} {mt:nw} {ct ct':Option CTag} {st sm:Int} {i:Nat}
def tk(a:i<j):VW j (upd D i D')+jy (D i)=VW j D+jy D':=sumTo_upd D D' jy a
def Mode.same(r:i<j)(h:Mode j D mt ct st sm)(g:D'.s=(D i).s\/(4<=D'.s/\4<=(D i).s)):Mode j (upd D i D') mt ct st sm:=by
 have x:jy D'=jy (D i):=by unfold jy;obtain e|⟨a,b⟩:=g;rw[e];rw[SS a,SS b]
 have m:VW j (upd D i D')=VW j D:=by have:=tk (D':=D') r (D:=D);omega
 have o:ue j D->ue j (upd D i D'):=by intro h k f;by_cases e:k=i;subst e;rw[upd_same];obtain e|⟨a,_⟩:=g;rw[e];exact h k f;exact .inl a;rw[upd_ne D D' e];exact h k f
 have p:Dy j D->Dy j (upd D i D'):=by intro h k f;by_cases e:k=i;subst e;rw[upd_same];obtain e|⟨_,b⟩:=g;rw[e];exact h k f;rw[h k f]at b;omega;rw[upd_ne D D' e];exact h k f
 cases h with
 |opn a b c=>rw[<-m];exact .opn a (o b) (by rw[m];exact c)
 |reg a b c=>rw[<-m];exact .reg a (o b) (by rw[m];exact c)
 |last L a b c d=>(have e:(upd D i D' L).s=(D L).s:=by by_cases e:L=i;subst e;rw[upd_same];obtain e|⟨_,b⟩:=g;exact e;rcases c with c|c|c<;>rw[c]at b<;>omega;rw[upd_ne D D' e]);rw[<-e];refine .last L a b (by rw[e];exact c) λk f l=>?_;by_cases q:k=i;subst q;rw[upd_same];have:=d k f l;obtain u|⟨_,v⟩:=g;rw[u];exact this;rw[this]at v;omega;rw[upd_ne D D' q];exact d k f l
 |sema a b c=>exact .sema a b (p c)
 |fin a b=>exact .fin a (p b)
def Mode.retag(h:Mode j D mt ct st sm)(e:ct'=ct\/(ct=some .blk/\ct'=some .w3)):Mode j D mt ct' st sm:=by obtain rfl|⟨rfl,rfl⟩:=e;exact h;cases h with|opn a=>exact a.elim|reg a b c=>exact .reg trivial b c|last L a b c d=>exact .last L trivial b c d|sema a b c=>exact .sema trivial (by simp) c|fin a=>exact a.elim
def Mode.isLast(h:Mode j D mt ct st sm)(f:i<j)(g:(D i).s=3\/(D i).s=2\/(D i).s=1):CTag.reg ct/\(∀k,k<j->k≠i->(D k).s=0)/\st=(if(D i).s=1 then 0 else 1)/\sm=0:=by
 cases h with
 |opn a b=>rcases b i f with x|x<;>omega
 |reg a b=>rcases b i f with x|x<;>omega
 |last L a b c d=>by_cases e:i=L;subst e;exact⟨a,d,rfl,rfl⟩;have:=d i f e;omega
 |sema a b c=>have:=c i f;omega
 |fin a b=>have:=b i f;omega
def Gv(a:i<j)(b:4<=(D i).s):1<=VW j D:=by have:=le_sumTo (f:=λi=>jy (D i)) a;have e:jy (D i)=1:=SS b;unfold VW;omega
def Mj(j D):VW j D<=j:=by (have:=sumTo_le (f:=λi=>jy (D i)) (c:=1) (j:=j) λi _=>by unfold jy;split<;>omega);unfold VW;omega
def P1(h:VW j D=1)(c:ue j D)(d:i<j)(f:4<=(D i).s):∀k,k<j->k≠i->(D k).s=0:=by intro k b a;obtain g|h0:=c k b;exfalso;have l:jy (⟨0,0,λ_=>False,λ_=>False⟩:WD)=0:=rfl;have m:=tk (D':=⟨0,0,λ_=>False,λ_=>False⟩) d (D:=D);have e:jy (D i)=1:=SS f;have o:=Gv (D:=upd D i ⟨0,0,λ_=>False,λ_=>False⟩) b (by rw[upd_ne _ _ a];exact g);omega;exact h0
def Mode.isOpen(h:Mode j D mt ct st sm)(f:i<j)(k:4<=(D i).s):ue j D/\sm=0/\((CTag.opn ct/\(∀g,ct=some (.w2 g)->VW j D<=g/\1<=g)/\st=((VW j D+mt.pend:Nat):Int)*KK)\/(CTag.reg ct/\st=((VW j D:Nat):Int)*KK+1)):=by cases h with|opn a b c=>exact⟨b,rfl,.inl ⟨a,c,rfl⟩⟩|reg a b c=>exact⟨b,rfl,.inr ⟨a,rfl⟩⟩|last L a b c d=>by_cases e:i=L;subst e;omega;have:=d i f e;omega|sema a b c=>have:=c i f;omega|fin a b=>have:=b i f;omega
end
section
variable {P:Program} {ty:TypeId} {Wg ch:Nat} {z:Value} {An:aN} {HV:Nat->Option Value} {Fin:List Value->aN} {n base N0:Nat} {shun:Nat->Prop} {W₀:World} {t₀ t:Trace} {gs:Array Goroutine} {w w':World} {sl:Option (Nat×Nat)} {σ:GSt P ty Wg}
def qp{k r fn pos es}(h:RelBy (stA Wg) t k r)(a:∀e∈es,(MemAct.ofEvent e).touch?=none):RelBy (stA Wg) (t++MemOp.ofEvents k fn pos es) k r:=h.appOwn fn pos es λj e b=>.inl (a e (TU b))
def kF{k r d fn pos es}(h:RelBy (stA Wg) t k r)(g:Deaf t k=d+1)(f:∀e∈es,∃a b,e=(⟨.cell a,b,true⟩:Event)):RelBy (stA Wg) (t++MemOp.ofEvents k fn pos es) k r:=by refine h.appOwn fn pos es λj e m=>.inr ⟨?_,?_⟩;obtain⟨a,b,rfl⟩:=f e (TU m);exact⟨a,b,rfl⟩;(have:deafBehind (Deaf t k) (es.extract 0 j)=Deaf t k:=by refine deafBehind_still (λx o=>?_) _;obtain⟨a,b,rfl⟩:=f x (by obtain⟨l,c⟩:=Vs.1 o;rw[VT]at c;split at c;exact TU c;cases c);simp);rw[this,g];omega
def xc{K M es}(h:∀e∈es,EvK Wg K M e)(d):deafBehind d es=d:=deafBehind_still (λe a=>⟨(h e a).2.1,(h e a).2.2.1⟩) d
def lO(a v)(c:a.block=Wg):(w.setCell a v).os=w.os/\(w.setCell a v).tape=w.tape/\(w.setCell a v).output=w.output/\(w.setCell a v).heap.size=w.heap.size/\∀b,b≠Wg->(w.setCell a v).heap[b]? =w.heap[b]? :=⟨rfl,rfl,rfl,by simp[World.setCell],λb d=>dM w a v b (by rw[c];exact d)⟩
def GI.fS(G:fo Wg ch base N0 shun)(h:GI P ty Wg ch z An HV Fin n base N0 shun W₀ t₀ gs w t σ){i}(A:i<σ.j){g g' es s' d' ρ' st' sm'} (B:gs[base+i]? =some g) (q:stepG P false g w=.go g' w' es) (c:g'.status=.running\/g'.status=.finished) (C:w'=w\/∃a v,a.block=Wg/\w'=w.setCell a v) (hwg:WgAt ty Wg w' st' sm') (u:∀e∈es,EvB Wg e) (E:WSit P ty Wg ch z (HV i) ⟨s',d',(σ.D i).K,(σ.D i).M⟩ ρ' g' w') (x:Rk.lt P ty Wg ρ' (σ.R i)) (F:deafBehind (σ.D i).d es=d') (y:(σ.D i).s<=5->∀r,RelBy (stA Wg) t (base+i) r->RelBy (stA Wg) (t++MemOp.ofEvents (base+i) g.frame.fn g.frame.place es) (base+i) r) (l:s'<=5->(σ.D i).s<=5\/∃r,RelBy (stA Wg) (t++MemOp.ofEvents (base+i) g.frame.fn g.frame.place es) (base+i) r) (f:∀ct',(ct'=σ.ct\/(σ.ct=some .blk/\ct'=some .w3))->(mayWake P g=true->ct'≠some .blk)->Mode σ.j (upd σ.D i ⟨s',d',(σ.D i).K,(σ.D i).M⟩) σ.mt ct' st' sm') (k:s'<=6/\HV i≠none↔(σ.D i).s<=6/\HV i≠none) (H:s'≠7):∃gs' m,runT P (crowd gs w sl) (base+i)=(.next (crowd gs' w' sl),MemOp.ofEvents (base+i) g.frame.fn g.frame.place es)/\GI P ty Wg ch z An HV Fin n base N0 shun W₀ t₀ gs' w' (t++MemOp.ofEvents (base+i) g.frame.fn g.frame.place es) m/\DI P ty Wg (mu (n:=n) (base:=base) m) (mu (n:=n) (base:=base) σ):=by (have o:w'.os=w.os/\w'.tape=w.tape/\w'.output=w.output/\w'.heap.size=w.heap.size/\∀b,b≠Wg->w'.heap[b]? =w.heap[b]? :=by obtain rfl|⟨a,v,I,rfl⟩:=C;exact⟨rfl,rfl,rfl,rfl,λ_ _=>rfl⟩;exact lO a v I);exact h.worker (D':=⟨s',d',(σ.D i).K,(σ.D i).M⟩) G A B q c ⟨o.1,o.2.1,o.2.2.1⟩ (Uv o.2.2.2.1.symm) (λb _ p _=>o.2.2.2.2 b p) hwg (λe J=>.inr (u e J)) (λb p=>.inl p) (λb p=>.inl p) E x F y l f k H
end
section
variable {P:Program} {ty:TypeId} {Wg ch:Nat} {z:Value} {An:aN} {HV:Nat->Option Value} {Fin:List Value->aN} {n base N0:Nat} {shun:Nat->Prop} {W₀:World} {t₀ t:Trace} {gs:Array Goroutine} {w w':World} {sl:Option (Nat×Nat)} {σ:GSt P ty Wg}
def fj.bound{mt j d K M ρ g}(h:fj P ty Wg ch z An HV Fin n mt j d K M ρ g w):j+mt.pend<=n:=by cases h<;>simp only[nw.pend]<;>(try simp)<;>omega
def dO(P ty)(Wg ch:Nat)(z:Value)(An:aN)(HV:Nat->Option Value)(Fin:List Value->aN)(n base N0:Nat)(shun:Nat->Prop)(W₀:World)(t₀ t:Trace)(gs:Array Goroutine)(w:World)(sl:Option (Nat×Nat))(σ:GSt P ty Wg)(x:Nat):Prop:=∃gs' w' ops a,runT P (crowd gs w sl) x=(.next (crowd gs' w' sl),ops)/\GI P ty Wg ch z An HV Fin n base N0 shun W₀ t₀ gs' w' (t++ops) a/\DI P ty Wg (mu (n:=n) (base:=base) a) (mu (n:=n) (base:=base) σ)
def bV{a b}(h:a<b){x y}:Rk.lt P ty Wg (a,x) (b,y):=Prod.Lex.left _ _ h
def qq{a p q}(h:p<q){x y}:Rk.lt P ty Wg (a,p,x) (a,q,y):=Prod.Lex.right _ (Prod.Lex.left _ _ h)
def eR{a p x y}(h:RC.lt P ty Wg x y):Rk.lt P ty Wg (a,p,x) (a,p,y):=Prod.Lex.right _ (Prod.Lex.right _ h)
def xd(G:fo Wg ch base N0 shun)(h:GI P ty Wg ch z An HV Fin n base N0 shun W₀ t₀ gs w t σ){i}(p:i<σ.j){g g' es ρ'} (B:gs[base+i]? =some g) (q:stepG P false g w=.go g' w' es) (f:g'.status=.running) (J:(σ.D i).s=8\/(σ.D i).s=6) (r:(σ.D i).d=0) (a:Eff (σ.D i).M w w') (k:∀e∈es,EvK Wg (orK (σ.D i).K w w') (orK (σ.D i).M w w') e) (C:WSit P ty Wg ch z (HV i) ⟨(σ.D i).s,0,orK (σ.D i).K w w',orK (σ.D i).M w w'⟩ ρ' g' w') (u:Rk.lt P ty Wg ρ' (σ.R i)):dO P ty Wg ch z An HV Fin n base N0 shun W₀ t₀ t gs w sl σ (base+i):=by
 have W:=h.w_;have T:=h.t_;have o:=G.kY;have y:=T.tr.uT Wg (.inl rfl);have c:∀b,b<w.heap.size->σ.own b≠base+i->w'.heap[b]? =w.heap[b]? :=λb l m=>a.keep b l λE=>m (W.mw i p b E);obtain⟨gs',v,l,m,F⟩:=h.worker (sl:=sl) (D':=⟨(σ.D i).s,0,orK (σ.D i).K w w',orK (σ.D i).M w w'⟩) (st':=σ.st) (sm':=σ.sm) G p B q (.inl f) ⟨a.os,a.tape,a.output⟩ a.size (λb l _ m=>c b l m)
  (W.wg.of_block (c Wg W.sp.1 (by omega))) (λe H=>.inl (k e H)) (λb o=>o) (λb o=>o) C u (by rw[xc k];exact r) (λA=>by omega) (λA=>by simp only at A;omega)
  (λI x _=>(h.m_.same (D':=⟨(σ.D i).s,0,orK (σ.D i).K w w',orK (σ.D i).M w w'⟩) p (.inl rfl)).retag x) UI (by simp only;omega)
 exact⟨gs',w',_,v,l,m,F⟩
def ik(G:fo Wg ch base N0 shun)(h:GI P ty Wg ch z An HV Fin n base N0 shun W₀ t₀ gs w t σ){i}(k:i<σ.j){g g' ρ'} (l:gs[base+i]? =some g) (b:stepG P false g w=.go g' w #[]) (a:g'.status=.running\/g'.status=.finished) (m:(σ.D i).s≠7) (o:WSit P ty Wg ch z (HV i) ⟨(σ.D i).s,(σ.D i).d,(σ.D i).K,(σ.D i).M⟩ ρ' g' w) (c:Rk.lt P ty Wg ρ' (σ.R i)):dO P ty Wg ch z An HV Fin n base N0 shun W₀ t₀ t gs w sl σ (base+i):=by
 obtain⟨gs',e,p,q,u⟩:=h.fS (sl:=sl) (w':=w) (st':=σ.st) (sm':=σ.sm) G k l b a (.inl rfl) h.w_.wg (by simp) o c rfl (λ_ r v=>qp v (by simp)) (λx=>.inl x)
  (λy f _=>(h.m_.same k (.inl rfl)).retag f) UI m
 exact⟨gs',w,_,e,p,q,u⟩
def Mk{m:Mark}(h:∀a,m≠ .read a/\m≠ .write a):(MemAct.ofEvent (mk m)).touch?=none:=by unfold Go.ConcR.mk;cases m<;>simp[MemAct.ofEvent,MemAct.touch?];exact absurd rfl (h _).1;exact absurd rfl (h _).2
def od(G:fo Wg ch base N0 shun)(h:GI P ty Wg ch z An HV Fin n base N0 shun W₀ t₀ gs w t σ){i}(k:i<σ.j){g} (u:gs[base+i]? =some g) (v:(σ.D i).s=8/\HV i=none\/(σ.D i).s=6) (c:(σ.D i).d=0) {ρ} (y:σ.R i=((σ.D i).s,ρ)) (A:SR0 P ty Wg (σ.D i).K (σ.D i).M g w):dO P ty Wg ch z An HV Fin n base N0 shun W₀ t₀ t gs w sl σ (base+i):=by
 obtain⟨H,g',l,m,f⟩:=A;have o:=(h.t_.dw i k).trans c;obtain⟨gs',p,B,C,E⟩:=h.fS (sl:=sl) (w':=w) (s':=5) (d':=0) (ρ':=(5,m,ρ.2)) (st':=σ.st) (sm':=σ.sm) G k u l (.inl (cg (λ_ _ x=>x.1) f)) (.inl rfl) h.w_.wg
  (λe r=>by simp at r;subst r;exact ij λa=>by simp) (.k1 f) (by rw[y];exact bV (by omega)) (by rw[c];rfl)
  (λI=>by omega) (λ_=>.inr ⟨_,RelBy.new o _ _⟩) (λF q _=>(h.m_.same k (.inr ⟨by simp,by omega⟩)).retag q) (by rcases v with⟨a,b⟩|a<;>simp[a]<;>assumption) (by simp)
 exact⟨gs',w,_,p,B,C,E⟩
def xe(G:fo Wg ch base N0 shun)(h:GI P ty Wg ch z An HV Fin n base N0 shun W₀ t₀ gs w t σ){i}(p:i<σ.j){g} (u:gs[base+i]? =some g) (v:(σ.D i).s=5) (f:(σ.D i).d=0) {ρ} (y:σ.R i=((σ.D i).s,ρ)) (A:SK1 P ty Wg (σ.D i).K (σ.D i).M g w):dO P ty Wg ch z An HV Fin n base N0 shun W₀ t₀ t gs w sl σ (base+i):=by
 obtain⟨q,g',k,m,b⟩:=A;obtain⟨gs',l,B,C,E⟩:=h.fS (sl:=sl) (w':=w) (s':=4) (d':=1) (ρ':=(4,m,ρ.2)) (st':=σ.st) (sm':=σ.sm) G p u k (.inl (cg (λ_ _ x=>x.1) b)) (.inl rfl) h.w_.wg
  (λe c=>by simp at c;subst c;exact ij λa=>by simp) (.d1 b) (by rw[y];exact bV (by omega)) (by rw[f];rfl)
  (λ_ r q=>qp q λe c=>by simp at c;subst c;exact Mk λa=>by simp) (λ_=>.inl (by omega)) (λF o _=>(h.m_.same p (.inr ⟨by simp,by omega⟩)).retag o) (by simp[v]) (by simp)
 exact⟨gs',w,_,l,B,C,E⟩
def kj(a b):deafBehind 1 #[rd a,wr b]=1:=deafBehind_still (λe c=>by simp at c;rcases c with rfl|rfl<;>simp[rd,wr]) 1
def mm{es}(h:es=#[rd (stA Wg),wr (stA Wg)]\/es=#[rd (stA Wg)]\/es=#[wr (stA Wg)]):∀e∈es,∃a b,a.block=Wg/\e=(⟨.cell a,b,true⟩:Event):=by intro e c;rcases h with rfl|rfl|rfl<;>simp at c;obtain rfl|rfl:=c;exact⟨_,_,rfl,rfl⟩;exact⟨_,_,rfl,rfl⟩;subst c;exact⟨_,_,rfl,rfl⟩;subst c;exact⟨_,_,rfl,rfl⟩
def Gw(G:fo Wg ch base N0 shun)(hn:n<2147483647)(h:GI P ty Wg ch z An HV Fin n base N0 shun W₀ t₀ gs w t σ){i}(p:i<σ.j){g} (Z:gs[base+i]? =some g) (hs:(σ.D i).s=4) (u:(σ.D i).d=1) {ρ} (hR:σ.R i=((σ.D i).s,ρ)) (X:SD1 P ty Wg (σ.D i).K (σ.D i).M g w):dO P ty Wg ch z An HV Fin n base N0 shun W₀ t₀ t gs w sl σ (base+i):=by
 obtain⟨N,X⟩:=X;have W:=h.w_;obtain⟨hO,aa,F⟩:=h.m_.isOpen p (by omega);have ag:=Gv (D:=σ.D) p (by omega);have ak:=Mj σ.j σ.D;have an:=h.g_.jn;have H:Deaf t (base+i)=0+1:=(h.t_.dw i p).trans u;have v:=mm (Wg:=Wg) (.inl rfl);have c:∀e∈#[rd (stA Wg),wr (stA Wg)],EvB Wg e:=λe I=>by obtain⟨a,b,ha,rfl⟩:=v e I;exact eH ha b
 have hwg:=W.wg;rw[aa]at hwg;have A:=λD':WD=>tk (D:=σ.D) (D':=D') p;have af:jy (σ.D i)=1:=SS (by omega);have B:∀{g':Goroutine} {q:Nat},QuitsD P q 1 g'->g'.status=.running\/g'.status=.finished:=λf=>f.status;obtain⟨Y,ab,J⟩|⟨Y,J⟩:=F
 ·
  have e1:σ.st=(((VW σ.j σ.D+σ.mt.pend-1:Nat):Int)+1)*KK+((0:Nat):Int):=by rw[J];simp only[KK];omega
  have ao:σ.mt.pend<=1:=by unfold nw.pend;split<;>(try split)<;>omega
  have ar:σ.j+σ.mt.pend<=n:=by obtain⟨a,_,hm⟩:=h.g_.mn;exact hm.bound
  rw[e1]at hwg;obtain⟨g',y,_,f⟩:=X (VW σ.j σ.D+σ.mt.pend-1) 0 (by omega) (by omega) hwg;obtain⟨q,f⟩:=f (by omega);obtain⟨gs',l,O,Q,S⟩:=h.fS (sl:=sl) (s':=0) (d':=1) (ρ':=(0,q,ρ.2)) G p Z y (B f) (.inr ⟨_,_,rfl,rfl⟩) (hwg.setSt _) c (.quit f) (by rw[hR];exact bV (by omega)) (by rw[u];exact kj _ _)
   (λ_ r N=>kF N H λe I=>by obtain⟨a,b,_,rfl⟩:=v e I;exact⟨a,b,rfl⟩) (λ_=>.inl (by omega))
   (λT o _=>by
    have ad:jy (⟨0,1,(σ.D i).K,(σ.D i).M⟩:WD)=0:=rfl;have hV:=A ⟨0,1,(σ.D i).K,(σ.D i).M⟩;refine Mode.retag (ct:=σ.ct) ?_ o;have e:(((VW σ.j σ.D+σ.mt.pend-1:Nat):Int))*KK+((0:Nat):Int)=((VW σ.j (upd σ.D i ⟨0,1,(σ.D i).K,(σ.D i).M⟩)+σ.mt.pend:Nat):Int)*KK:=by
     have:VW σ.j σ.D+σ.mt.pend-1=VW σ.j (upd σ.D i ⟨0,1,(σ.D i).K,(σ.D i).M⟩)+σ.mt.pend:=by omega
     rw[this];simp
    rw[e];refine .opn Y (λk U=>?_) λvs e=>?_
    ·by_cases e:k=i
     ·subst e;rw[upd_same];exact .inr rfl
     ·rw[upd_ne _ _ e];exact hO k U
    ·have:=ab vs e;omega) (by simp[hs]) (by simp)
  exact⟨gs',_,_,l,O,Q,S⟩
 ·
  have e1:σ.st=(((VW σ.j σ.D-1:Nat):Int)+1)*KK+((1:Nat):Int):=by rw[J];simp only[KK];omega
  rw[e1]at hwg;obtain⟨g',y,L,f⟩:=X (VW σ.j σ.D-1) 1 (by omega) (by omega) hwg;by_cases C:VW σ.j σ.D=1
  ·
   obtain⟨m,E⟩:=L ⟨by omega,rfl⟩;have hz:=P1 C hO p (by omega);obtain⟨gs',l,O,Q,S⟩:=h.fS (sl:=sl) (s':=3) (d':=1) (ρ':=(3,m,ρ.2)) G p Z y (.inl (cg (λ_ _ x=>x.1) E)) (.inr ⟨_,_,rfl,rfl⟩) (hwg.setSt _) c (.d2 E) (by rw[hR];exact bV (by omega)) (by rw[u];exact kj _ _)
    (λ_ r N=>kF N H λe I=>by obtain⟨a,b,_,rfl⟩:=v e I;exact⟨a,b,rfl⟩) (λ_=>.inl (by omega))
    (λT o _=>by
     refine Mode.retag (ct:=σ.ct) ?_ o;have e:(((VW σ.j σ.D-1:Nat):Int))*KK+((1:Nat):Int)=(if(upd σ.D i ⟨3,1,(σ.D i).K,(σ.D i).M⟩ i).s=1 then 0 else 1):=by rw[upd_same,SQ (by simp),C];simp
     rw[e];refine .last i Y p (by rw[upd_same];exact .inl rfl) λk U V=>?_;rw[upd_ne _ _ V];exact hz k U V) (by simp[hs]) (by simp)
   exact⟨gs',_,_,l,O,Q,S⟩
  ·obtain⟨q,f⟩:=f (by omega)
   obtain⟨gs',l,O,Q,S⟩:=h.fS (sl:=sl) (s':=0) (d':=1) (ρ':=(0,q,ρ.2)) G p Z y (B f) (.inr ⟨_,_,rfl,rfl⟩) (hwg.setSt _) c (.quit f) (by rw[hR];exact bV (by omega)) (by rw[u];exact kj _ _)
    (λ_ r N=>kF N H λe I=>by obtain⟨a,b,_,rfl⟩:=v e I;exact⟨a,b,rfl⟩) (λ_=>.inl (by omega))
    (λT o _=>by
     have ad:jy (⟨0,1,(σ.D i).K,(σ.D i).M⟩:WD)=0:=rfl;have hV:=A ⟨0,1,(σ.D i).K,(σ.D i).M⟩;refine Mode.retag (ct:=σ.ct) ?_ o;have e:(((VW σ.j σ.D-1:Nat):Int))*KK+((1:Nat):Int)=((VW σ.j (upd σ.D i ⟨0,1,(σ.D i).K,(σ.D i).M⟩):Nat):Int)*KK+1:=by
      have:VW σ.j σ.D-1=VW σ.j (upd σ.D i ⟨0,1,(σ.D i).K,(σ.D i).M⟩):=by omega
      rw[this];simp
     rw[e];refine .reg Y (λk U=>?_) (by omega);by_cases e:k=i
     ·subst e;rw[upd_same];exact .inr rfl
     ·rw[upd_ne _ _ e];exact hO k U) (by simp[hs]) (by simp)
   exact⟨gs',_,_,l,O,Q,S⟩
def rJ(a):deafBehind 1 #[rd a]=1:=deafBehind_still (λe b=>by simp at b;subst b;simp[rd]) 1
def OL(a):deafBehind 1 #[wr a]=1:=deafBehind_still (λe b=>by simp at b;subst b;simp[wr]) 1
def JA(G:fo Wg ch base N0 shun)(h:GI P ty Wg ch z An HV Fin n base N0 shun W₀ t₀ gs w t σ){i}(q:i<σ.j){g} (J:gs[base+i]? =some g) (H:(σ.D i).s=3) (f:(σ.D i).d=1) {ρ} (L:σ.R i=((σ.D i).s,ρ)) (u:SD2 P ty Wg (σ.D i).K (σ.D i).M g w):dO P ty Wg ch z An HV Fin n base N0 shun W₀ t₀ t gs w sl σ (base+i):=by
 obtain⟨I,u⟩:=u;obtain⟨v,N,l,y⟩:=h.m_.isLast q (by omega);rw[H]at l;have hwg:=h.w_.wg;rw[l,y]at hwg;obtain⟨g',A,m,c⟩:=u hwg;have B:Deaf t (base+i)=0+1:=(h.t_.dw i q).trans f;have o:=mm (Wg:=Wg) (es:=#[rd (stA Wg)]) (.inr (.inl rfl));obtain⟨gs',C,O,Q,S⟩:=h.fS (sl:=sl) (w':=w) (s':=2) (d':=1) (ρ':=(2,m,ρ.2)) (st':=1) (sm':=0) G q J A (.inl (cg (λ_ _ x=>x.1) c)) (.inl rfl) hwg
  (λe E=>by obtain⟨a,b,T,rfl⟩:=o e E;exact eH T b) (.d3 c) (by rw[L];exact bV (by omega)) (by rw[f];exact rJ _)
  (λ_ r I=>kF I B λe E=>by obtain⟨a,b,_,rfl⟩:=o e E;exact⟨a,b,rfl⟩) (λ_=>.inl (by omega))
  (λU F _=>by
   refine Mode.retag (ct:=σ.ct) ?_ F;have:=Mode.last (j:=σ.j) (D:=upd σ.D i ⟨2,1,(σ.D i).K,(σ.D i).M⟩) (mt:=σ.mt) i v q (by rw[upd_same];exact .inr (.inl rfl)) λk V p=>by rw[upd_ne _ _ p];exact N k V p
   rw[upd_same,SQ (by simp)]at this;exact this) (by simp[H]) (by simp)
 exact⟨gs',_,_,C,O,Q,S⟩
def JB(G:fo Wg ch base N0 shun)(h:GI P ty Wg ch z An HV Fin n base N0 shun W₀ t₀ gs w t σ){i}(q:i<σ.j){g} (J:gs[base+i]? =some g) (H:(σ.D i).s=2) (f:(σ.D i).d=1) {ρ} (L:σ.R i=((σ.D i).s,ρ)) (u:SD3 P ty Wg (σ.D i).K (σ.D i).M g w):dO P ty Wg ch z An HV Fin n base N0 shun W₀ t₀ t gs w sl σ (base+i):=by
 obtain⟨I,u⟩:=u;obtain⟨v,N,l,y⟩:=h.m_.isLast q (by omega);rw[H]at l;have hwg:=h.w_.wg;rw[l,y]at hwg;obtain⟨g',A,m,c⟩:=u hwg;have B:Deaf t (base+i)=0+1:=(h.t_.dw i q).trans f;have o:=mm (Wg:=Wg) (es:=#[wr (stA Wg)]) (.inr (.inr rfl));obtain⟨gs',C,O,Q,S⟩:=h.fS (sl:=sl) (s':=1) (d':=1) (ρ':=(1,m,ρ.2)) (st':=0) (sm':=0) G q J A (.inl (cg (λ_ _ x=>x.1) c)) (.inr ⟨_,_,rfl,rfl⟩) (hwg.setSt _)
  (λe E=>by obtain⟨a,b,T,rfl⟩:=o e E;exact eH T b) (.d4 c) (by rw[L];exact bV (by omega)) (by rw[f];exact OL _)
  (λ_ r I=>kF I B λe E=>by obtain⟨a,b,_,rfl⟩:=o e E;exact⟨a,b,rfl⟩) (λ_=>.inl (by omega))
  (λU F _=>by
   refine Mode.retag (ct:=σ.ct) ?_ F;have:=Mode.last (j:=σ.j) (D:=upd σ.D i ⟨1,1,(σ.D i).K,(σ.D i).M⟩) (mt:=σ.mt) i v q (by rw[upd_same];exact .inr (.inr rfl)) λk V p=>by rw[upd_ne _ _ p];exact N k V p
   rw[upd_same,SS rfl]at this;exact this) (by simp[H]) (by simp)
 exact⟨gs',_,_,C,O,Q,S⟩
def Ml(e)(b:e∈semEvents (smA Wg)):EvB Wg e:=by simp only[semEvents,T3,Ts,TB,TC]at b;obtain rfl|rfl|rfl|rfl:=b;(exact ij (m:=.disable) λa=>by simp);exact eH rfl _;exact eH rfl _;exact ij (m:=.enable) λa=>by simp
def DJ(a):deafBehind 1 (semEvents a)=1:=rfl
def JC{k r fn pos}(h:RelBy (stA Wg) t k r)(b:Deaf t k=1):RelBy (stA Wg) (t++MemOp.ofEvents k fn pos (semEvents (smA Wg))) k r:=by refine h.appOwn fn pos _ λj e a=>?_;rw[b];unfold semEvents at a⊢;match j,a with|0,a=>simp at a;subst a;exact .inl rfl|1,a=>simp at a;subst a;exact .inr ⟨⟨_,_,rfl⟩,UZ 1⟩|2,a=>simp at a;subst a;exact .inr ⟨⟨_,_,rfl⟩,UZ 1⟩|3,a=>simp at a;subst a;exact .inl rfl|j+4,a=>simp at a
def JD(G:fo Wg ch base N0 shun)(h:GI P ty Wg ch z An HV Fin n base N0 shun W₀ t₀ gs w t σ){i}(c:i<σ.j){g} (E:gs[base+i]? =some g) (A:(σ.D i).s=1) (a:(σ.D i).d=1) {ρ} (F:σ.R i=((σ.D i).s,ρ)) (f:SD4 P ty Wg (σ.D i).K (σ.D i).M g w):dO P ty Wg ch z An HV Fin n base N0 shun W₀ t₀ t gs w sl σ (base+i):=by
 obtain⟨B,l,f⟩:=f;obtain⟨m,H,b,o⟩:=h.m_.isLast c (by omega);rw[A]at b;have hwg:=h.w_.wg;rw[b,o]at hwg;obtain⟨g',p,q,C⟩:=f hwg;have u:=(h.t_.dw i c).trans a;obtain⟨gs',v,I,J,L⟩:=h.fS (sl:=sl) (s':=0) (d':=1) (ρ':=(0,q,ρ.2)) (st':=0) (sm':=1) G c E p C.status (.inr ⟨_,_,rfl,rfl⟩) (hwg.setSm _)
  Ml (.quit C) (by rw[F];exact bV (by omega)) (by rw[a];exact DJ _)
  (λ_ r B=>JC B u) (λ_=>.inl (by omega))
  (λN x y=>by
   refine .sema ?_ (y l) λk O=>?_
   ·obtain rfl|⟨_,rfl⟩:=x
    ·exact m
    ·trivial
   ·by_cases e:k=i
    ·subst e;rw[upd_same]
    ·rw[upd_ne _ _ e];exact H k O e) (by simp[A]) (by simp)
 exact⟨gs',_,_,v,I,J,L⟩
def DK(G:fo Wg ch base N0 shun)(h:GI P ty Wg ch z An HV Fin n base N0 shun W₀ t₀ gs w t σ){i}(v:i<σ.j){g q c} (C:gs[base+i]? =some g) (a:g.status=.running) (y:(σ.D i).s=0) (E:σ.R i=(0,q,c)) (b:QuitsD P q (σ.D i).d g):dO P ty Wg ch z An HV Fin n base N0 shun W₀ t₀ t gs w sl σ (base+i):=by
 cases q with
 |zero=>rw[b.1]at a;cases a
 |succ q=>
  obtain⟨F,_⟩|⟨_,g',es,A,k,B⟩:=b;rw[F]at a;cases a
  obtain⟨gs',l,H,I,J⟩:=h.fS (sl:=sl) (w':=w) (s':=0) (d':=deafBehind (σ.D i).d es) (ρ':=(0,q,c)) (st':=σ.st) (sm':=σ.sm) G v C (k w) B.status (.inl rfl) h.w_.wg
   (λe o=>by
    have f:=A e o;obtain⟨p,K,N⟩:=e;cases p<;>simp[Event.mute]at f;rename_i m;cases m<;>simp at f
    ·exact⟨λx b=>by simp[MemAct.ofEvent,MemAct.touch?]at b,by simp,λ_ _ _=>trivial⟩
    ·exact⟨λx b=>by simp[MemAct.ofEvent,MemAct.touch?]at b,by simp,λ_ _ _=>trivial⟩) (.quit B) (by rw[E];exact qq (by omega)) rfl
   (λ_ r L=>qp L λe o=>touch_mute (A e o)) (λ_=>.inl (by omega)) (λM u _=>(h.m_.same v (.inl y.symm)).retag u) (by simp[y]) (by simp)
  exact⟨gs',w,_,l,H,I,J⟩
def DL(G:fo Wg ch base N0 shun)(J:n<2147483647)(h:GI P ty Wg ch z An HV Fin n base N0 shun W₀ t₀ gs w t σ){i}(o:i<σ.j){g}(p:gs[base+i]? =some g)(y:g.status=.running):dO P ty Wg ch z An HV Fin n base N0 shun W₀ t₀ t gs w sl σ (base+i)\/∃v c,HV i=some v/\(σ.D i).s=8/\(σ.D i).d=0/\σ.R i=(8,0,c)/\Mf P ty Wg ch z v (σ.D i).K (σ.D i).M g w:=by
 obtain⟨g0,C,F⟩:=h.g_.wk i o;rw[p]at C;cases C;generalize e:σ.D i=D at F;generalize q:σ.R i=R at F;cases F with
 |run E=>obtain b|⟨_,g',w',es,H,f,r,A,u,B⟩:=E.pJ;unfold SWk at b;(cases I:HV i with|none=>rw[I]at b;refine .inl (od G h o p (.inl ⟨by rw[e],I⟩) (by rw[e]) (ρ:=(0,_)) (by rw[e,q]) (by rw[e];exact b))|some v=>rw[I]at b;exact .inr ⟨v,_,rfl,rfl,rfl,rfl,b⟩);exact .inl (xd G h o p f (u.status Bi) (.inl (by rw[e])) (by rw[e]) (by rw[e];exact r) (by rw[e];exact A) (ρ':=(8,0,H)) (by rw[e];exact .run u) (by rw[q];exact eR B))
 |blk _ E=>cases y
 |r0 E=>refine .inl ?_;obtain b|⟨_,g',w',es,H,f,r,A,u,B⟩:=E.pJ;exact od G h o p (.inr (by rw[e])) (by rw[e]) (ρ:=(0,_)) (by rw[e,q]) (by rw[e];exact b);exact xd G h o p f (u.status λ_ _ _ _ x=>x.1) (.inr (by rw[e])) (by rw[e]) (by rw[e];exact r) (by rw[e];exact A) (ρ':=(6,0,H)) (by rw[e];exact .r0 u) (by rw[q];exact eR B)
 | @k1 K M g w c m f=>refine .inl ?_;have a:SK1 P ty Wg K M g w->dO P ty Wg ch z An HV Fin n base N0 shun W₀ t₀ t gs w sl σ (base+i):=λk=>xe G h o p (by rw[e]) (by rw[e]) (ρ:=(m,c)) (by rw[e,q]) (by rw[e];exact k);cases m with|zero=>exact a (f w (.refl w))|succ m=>obtain k|⟨_,k⟩:=f;exact a (k w (.refl w));have:=k w (.refl w);cases b:stepG P false g w with|go g' w' es=>rw[b,goes_go]at this;obtain⟨⟨rfl,rfl⟩,l⟩:=this;exact ik G h o p b (.inl (cg (λ_ _ x=>x.1) l)) (by rw[e];simp) (ρ':=(5,m,c)) (by rw[e];exact .k1 l) (by rw[q];exact qq (by omega))|_=>rw[b]at this;exact this.elim
 | @d1 K M g w c m f=>refine .inl ?_;have a:SD1 P ty Wg K M g w->dO P ty Wg ch z An HV Fin n base N0 shun W₀ t₀ t gs w sl σ (base+i):=λk=>Gw G J h o p (by rw[e]) (by rw[e]) (ρ:=(m,c)) (by rw[e,q]) (by rw[e];exact k);cases m with|zero=>exact a (f w (.refl w))|succ m=>obtain k|⟨_,k⟩:=f;exact a (k w (.refl w));have:=k w (.refl w);cases b:stepG P false g w with|go g' w' es=>rw[b,goes_go]at this;obtain⟨⟨rfl,rfl⟩,l⟩:=this;exact ik G h o p b (.inl (cg (λ_ _ x=>x.1) l)) (by rw[e];simp) (ρ':=(4,m,c)) (by rw[e];exact .d1 l) (by rw[q];exact qq (by omega))|_=>rw[b]at this;exact this.elim
 | @d2 K M g w c m f=>refine .inl ?_;have a:SD2 P ty Wg K M g w->dO P ty Wg ch z An HV Fin n base N0 shun W₀ t₀ t gs w sl σ (base+i):=λk=>JA G h o p (by rw[e]) (by rw[e]) (ρ:=(m,c)) (by rw[e,q]) (by rw[e];exact k);cases m with|zero=>exact a (f w (.refl w))|succ m=>obtain k|⟨_,k⟩:=f;exact a (k w (.refl w));have:=k w (.refl w);cases b:stepG P false g w with|go g' w' es=>rw[b,goes_go]at this;obtain⟨⟨rfl,rfl⟩,l⟩:=this;exact ik G h o p b (.inl (cg (λ_ _ x=>x.1) l)) (by rw[e];simp) (ρ':=(3,m,c)) (by rw[e];exact .d2 l) (by rw[q];exact qq (by omega))|_=>rw[b]at this;exact this.elim
 | @d3 K M g w c m f=>refine .inl ?_;have a:SD3 P ty Wg K M g w->dO P ty Wg ch z An HV Fin n base N0 shun W₀ t₀ t gs w sl σ (base+i):=λk=>JB G h o p (by rw[e]) (by rw[e]) (ρ:=(m,c)) (by rw[e,q]) (by rw[e];exact k);cases m with|zero=>exact a (f w (.refl w))|succ m=>obtain k|⟨_,k⟩:=f;exact a (k w (.refl w));have:=k w (.refl w);cases b:stepG P false g w with|go g' w' es=>rw[b,goes_go]at this;obtain⟨⟨rfl,rfl⟩,l⟩:=this;exact ik G h o p b (.inl (cg (λ_ _ x=>x.1) l)) (by rw[e];simp) (ρ':=(2,m,c)) (by rw[e];exact .d3 l) (by rw[q];exact qq (by omega))|_=>rw[b]at this;exact this.elim
 | @d4 K M g w c m f=>refine .inl ?_;have a:SD4 P ty Wg K M g w->dO P ty Wg ch z An HV Fin n base N0 shun W₀ t₀ t gs w sl σ (base+i):=λk=>JD G h o p (by rw[e]) (by rw[e]) (ρ:=(m,c)) (by rw[e,q]) (by rw[e];exact k);cases m with|zero=>exact a (f w (.refl w))|succ m=>obtain k|⟨_,k⟩:=f;exact a (k w (.refl w));have:=k w (.refl w);cases b:stepG P false g w with|go g' w' es=>rw[b,goes_go]at this;obtain⟨⟨rfl,rfl⟩,l⟩:=this;exact ik G h o p b (.inl (cg (λ_ _ x=>x.1) l)) (by rw[e];simp) (ρ':=(1,m,c)) (by rw[e];exact .d4 l) (by rw[q];exact qq (by omega))|_=>rw[b]at this;exact this.elim
 |quit L=>exact .inl (DK G h o p y (by rw[e]) q (by rw[e];exact L))
end
end Go.Tm

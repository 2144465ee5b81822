import Derived.Test.YtaglpcmhopjebaaGreatDoorU10
set_option linter.all false
set_option maxRecDepth 100000
set_option maxHeartbeats 20000000
namespace Go.Tm
open Go.Conc Go.ConcN Go.Conc.Lib
open Go.ConcR (KK WgAt stA smA rd wr mk DC0 Bk)
section
variable {P:Program} {ty:TypeId} {Wg ch:Nat} {z:Value} {An:aJ} {HV:Nat->Option Value} {Fin:List Value->aJ} {n base N0:Nat} {shun:Nat->Prop} {W₀:World} {t₀ t:Trace} {gs:Array Goroutine} {w w':World} {sl:Option (Nat×Nat)} {σ:GSt P ty Wg}
structure fA(Wg ch base N0:Nat)(shun:Nat->Prop):Prop where
 lH:0<base
 Ng:∀b,shun b->b<N0
 wg_:N0<=Wg
 ch_:N0<=ch
 ne_:Wg≠ch
def bQ(gs:Array Goroutine)(f x k)(g':Goroutine)(h:k≠x):((gs.map f).setIfInBounds x g')[k]? =(gs[k]?).map f:=by rw[Ur (Ux h),UK]
def fg(gs:Array Goroutine)(f x)(g':Goroutine)(h:x<gs.size):((gs.map f).setIfInBounds x g')[x]? =some g':=by rw[UY];simp[h]
def Ar{D':Nat->WD}{D:Nat->WD}{j}(h:∀i,i<j->((D' i).s<=6/\HV i≠none↔(D i).s<=6/\HV i≠none)){mt:nT} (c:∃l:List Nat,l.Nodup/\(∀i,i∈l↔i<j/\(D i).s<=6/\HV i≠none)/\mt.got=l.filterMap HV):∃l:List Nat,l.Nodup/\(∀i,i∈l↔i<j/\(D' i).s<=6/\HV i≠none)/\mt.got=l.filterMap HV:=by obtain⟨l,d,e,f⟩:=c;refine⟨l,d,λi=>?_,f⟩;rw[e i];constructor;rintro⟨a,b⟩;exact⟨a,(h i a).2 b⟩;rintro⟨a,b⟩;exact⟨a,(h i a).1 b⟩
def fB{ct}(h:ct≠some .quit):eK ct=false:=by cases ct with|none=>rfl|some c=>cases c<;>first|rfl|exact absurd rfl h
def dT{a k r g}{u:Trace}(h:RelBy a t k r)(b:∀c∈u,c.g=g)(d:g≠k):RelBy a (t++u) k r:=RelBy.appOther h b d
def kQ{u}(h:AcqAll Wg n base t)(d:∀i r,i<n->RelBy (stA Wg) t (base+i) r->RelBy (stA Wg) (t++u) (base+i) r):AcqAll Wg n base (t++u):=by obtain⟨q,c,e,f,g⟩:=h;have a:=lt_of_act? c;exact⟨q,by rw[act?_old a];exact c,by rw[g?_old a];exact e,(heard_old a).2 f,λi hi=>let⟨r,j,b⟩:=g i hi;⟨r,d i r hi j,b⟩⟩
def kR{u}(h:Co Wg ch n base t)(j:∀i r,i<n->RelBy (stA Wg) t (base+i) r->RelBy (stA Wg) (t++u) (base+i) r)(k:∀i,t.size<=i->(t++u).g? i=some (base+n)->¬(t++u).counts i):Co Wg ch n base (t++u):=by obtain⟨q,p,e,l,m,o,s,f,v,x,y⟩:=h;have b:=lt_of_act? e;have c:=lt_of_act? f;refine⟨q,p,by rw[act?_old b];exact e,by rw[g?_old b];exact l,(heard_old b).2 m,λi hi=>let⟨r,A,d⟩:=o i hi;⟨r,j i r hi A,d⟩,s,by rw[act?_old c];exact f,by rw[g?_old c];exact v,(heard_old c).2 x,λi hi g=>?_⟩;obtain a|hge:=Uh i t.size;rw[counts_old a];exact y i hi (by rw[<-g?_old (u:=u) a];exact g);exact k i hge g
def iZ{u:Trace}{g k}(e:∀b∈u,b.g=g)(c:g≠k):∀i,t.size<=i->(t++u).g? i=some k->¬(t++u).counts i:=by intro i hi f;obtain⟨b,h,a⟩:=UN.1 f;obtain⟨j,_⟩|⟨_,d⟩:=getElem?_append_cases h;omega;rw[e b d]at a;exact absurd a c
def GI.worker(G:fA Wg ch base N0 shun)(h:GI P ty Wg ch z An HV Fin n base N0 shun W₀ t₀ gs w t σ){i}(hi:i<σ.j){g g' es D' ρ' st' sm'} (hg:gs[base+i]? =some g) (bp:stepG P false g w=.go g' w' es) (ab:g'.status=.running\/g'.status=.finished) (ad:w'.os=w.os/\w'.tape=w.tape/\w'.output=w.output) (x:w.heap.size<=w'.heap.size) (I:∀b,b<w.heap.size->b≠Wg->σ.own b≠base+i->w'.heap[b]? =w.heap[b]?) (hwg:WgAt ty Wg w' st' sm') (af:∀e∈es,EvK Wg (orK (σ.D i).K w w') (orK (σ.D i).M w w') e\/EvB Wg e) (hK:∀b,D'.K b->orK (σ.D i).K w w' b) (hM:∀b,D'.M b->orK (σ.D i).M w w' b) (hS:WSit P ty Wg ch z (HV i) D' ρ' g' w') (bq:Rk.lt P ty Wg ρ' (σ.R i)) (hd:deafBehind (σ.D i).d es=D'.d) (aM:(σ.D i).s<=5->∀r,RelBy (stA Wg) t (base+i) r->RelBy (stA Wg) (t++MemOp.ofEvents (base+i) g.frame.fn g.frame.place es) (base+i) r) (a6:D'.s<=5->(σ.D i).s<=5\/∃r,RelBy (stA Wg) (t++MemOp.ofEvents (base+i) g.frame.fn g.frame.place es) (base+i) r) (ag:∀p,(p=σ.ct\/(σ.ct=some .blk/\p=some .w3))->(mayWake P g=true->p≠some .blk)->Mode σ.j (upd σ.D i D') σ.mt p st' sm') (ak:D'.s<=6/\HV i≠none↔(σ.D i).s<=6/\HV i≠none) (h7:D'.s≠7):∃gs' o,runT P (crowd gs w sl) (base+i)=(.next (crowd gs' w' sl),MemOp.ofEvents (base+i) g.frame.fn g.frame.place es)/\GI P ty Wg ch z An HV Fin n base N0 shun W₀ t₀ gs' w' (t++MemOp.ofEvents (base+i) g.frame.fn g.frame.place es) o/\EC P ty Wg (mu (n:=n) (base:=base) o) (mu (n:=n) (base:=base) σ):=by
 have hb:=G.lH;have W:=h.w_;have T:=h.t_;have Q:=h.g_;have br:=Ui hi Q.jn;have a7:=(Uk.1 hg).1;have bs:(base+i==0)=false:=by simp;omega
 have an:=runT_crowd_go (P:=P) (sl:=sl) (i:=base+i) hg (by rw[bs];exact bp);have v:∀op∈MemOp.ofEvents (base+i) g.frame.fn g.frame.place es,op.g=base+i:=λop ao=>by obtain⟨e,_,rfl⟩:=Go.Conc.mem_ofEvents ao;rfl
 have a8:=T.tr.vP Wg (.inl rfl);have aa:=T.tr.vP ch (.inr rfl);have L:=I ch W.sp.2 (Ux G.ne_) (by rw[aa];omega);have ar:WgLive ty Wg w':=⟨_,_,hwg⟩
 have S:∀K:Nat->Prop,(∀b,K b->b<w.heap.size/\b≠Wg/\σ.own b≠base+i)->RK ty Wg K w w':=λK ax=>⟨λb f=>I b (ax b f).1 (ax b f).2.1 (ax b f).2.2,λ_=>ar,x⟩
 have N:∀b,shun b->b<w.heap.size:=λb f=>Ui (G.Ng b f) W.ga;have ba:=W.EA i hi;obtain⟨p,U,O,bx,bA⟩:∃p U,(p=σ.ct\/(σ.ct=some .blk/\p=some .w3))/\(mayWake P g=true->p≠some .blk)/\
  ∀c,p=some c->∃gc,((gs.map (woken P g g' w')).setIfInBounds (base+i) g')[base+n]? =some gc/\CSit P ty Wg ch An (VW σ.j (upd σ.D i D')) c σ.dc σ.Kc σ.Mc U gc w':=by
  cases y:σ.ct with
  |none=>exact⟨none,σ.rc,.inl rfl,λ_=>by simp,λc e=>by cases e⟩
  |some c=>
   obtain⟨gc,bB,bC⟩:=Q.cl c y;have b0:σ.ct≠none:=by rw[y];simp
   have hr:=S _ λb f=>by obtain⟨a1,C,H,B⟩:=W.kc b0 b f;refine⟨a1,λe=>C (.inl e),?_⟩;rcases B with B|B<;>omega
   obtain⟨c',b6,J,h2,h3⟩:=(bC.rely hr).woken g g' w' ab;obtain⟨b1,h4⟩:=J.Q3 (VW σ.j (upd σ.D i D'));refine⟨some c',b1,?_,λe=>by simpa using h3 e,λc2 e=>?_⟩
   ·obtain rfl|⟨rfl,rfl⟩:=h2
    ·exact .inl rfl
    ·exact .inr ⟨rfl,rfl⟩
   ·cases e
    refine⟨_,?_,h4⟩;rw[bQ _ _ _ _ _ (by omega),bB];rfl
 have A:p=none↔σ.ct=none:=by obtain rfl|⟨a,rfl⟩:=O;rfl;simp[a]
 have V:p=some .quit↔σ.ct=some .quit:=by obtain rfl|⟨a,rfl⟩:=O;rfl;simp[a]
 have bb:p=some .cl↔σ.ct=some .cl:=by obtain rfl|⟨a,rfl⟩:=O;rfl;simp[a]
 have b2:eK p=eK σ.ct:=by obtain rfl|⟨a,rfl⟩:=O;rfl;rw[a];rfl
 have X:∀m r,m<n->RelBy (stA Wg) t (base+m) r->(m=i->(σ.D i).s<=5)->RelBy (stA Wg) (t++MemOp.ofEvents (base+i) g.frame.fn g.frame.place es) (base+m) r:=λm r _ hr E=>by by_cases e:m=i;subst e;exact aM (E rfl) r hr;exact dT hr v (by omega)
 have l:∀b,b<w.heap.size->ir σ.own (base+i) w w' b=σ.own b:=λb f=>sK f;have xM:(σ.ct=some .cl\/σ.ct=some .quit)->(σ.D i).s<=5:=by intro y;rw[h.m_.xM (by rcases y with y|y<;>rw[y]<;>trivial) i hi];omega
 let o:GSt P ty Wg:={σ with D:=upd σ.D i D',R:=upd σ.R i ρ',ct:=p,rc:=U,own:=ir σ.own (base+i) w w',st:=st',sm:=sm'}
 refine⟨_,o,an,⟨?_,?_,?_,ag p O bx,?_⟩,jE br rfl bq⟩;refine⟨ad.1.trans W.os,ad.2.1.trans W.tape,ad.2.2.trans W.output,Uf W.ga x,λb f=>?_,?_,hwg,⟨Ui W.sp.1 x,Ui W.sp.2 x⟩,?_,?_,?_,?_,?_,?_,?_,?_,?_,?_,λk=>Uf (W.Cn k) x⟩;rw[I b (Ui f W.ga) (by have:=G.wg_;omega) (λe=>by have:=(W.owns b (by omega)).1;omega)];exact W.old b f;obtain⟨s,E⟩:=W.chn;exact⟨s,by rw[L,E];show _=some (Obj.chan 0 #[] (eK p) s s false);rw[b2]⟩;intro m q b f;by_cases e:m=i;subst e;simp only[o,upd_same]at f;obtain hb2|hb2:=hK b f;obtain⟨a1,C,H,B⟩:=W.kw _ hi b hb2;refine⟨Ui a1 x,C,H,?_⟩;show ir σ.own (base+m) w w' b=base+m\/(ir σ.own (base+m) w w' b=0/\b<σ.low (base+m));rw[l b a1];exact B;refine⟨hb2.2,λe=>?_,λe=>absurd (N b e) (Vi.2 hb2.1),.inl (jD hb2)⟩;obtain e|e:=e;have:=W.sp.1;have:=hb2.1;omega;have:=W.sp.2;have:=hb2.1;omega;have hb2:(σ.D m).K b:=by simpa[o,upd_ne σ.D D' e]using f
 obtain⟨a1,C,H,B⟩:=W.kw m q b hb2;refine⟨Ui a1 x,C,H,?_⟩;show ir σ.own (base+i) w w' b=base+m\/(ir σ.own (base+i) w w' b=0/\b<σ.low (base+m));rw[l b a1];exact B;intro m q b f;by_cases e:m=i;subst e;simp only[o,upd_same]at f;obtain hb2|hb2:=hM b f;have:=W.mw _ hi b hb2;have F:=(W.owns b (by omega)).2.2.1;show ir σ.own (base+m) w w' b=base+m;rw[l b F];exact this;exact jD hb2;have hb2:(σ.D m).M b:=by simpa[o,upd_ne σ.D D' e]using f
 have:=W.mw m q b hb2;have F:=(W.owns b (by omega)).2.2.1;show ir σ.own (base+i) w w' b=base+m;rw[l b F];exact this;intro b f;obtain⟨a1,C,H,B⟩:=W.k0 b f;exact⟨Ui a1 x,C,H,(l b a1).trans B⟩;intro b f;obtain⟨a1,C,H,B,a5⟩:=W.m0 b f;exact⟨Ui a1 x,C,H,(l b a1).trans B,a5⟩;intro y b f;obtain⟨a1,C,H,B⟩:=W.kc (λe=>y (A.2 e)) b f;refine⟨Ui a1 x,C,H,?_⟩;show ir σ.own (base+i) w w' b=base+n\/(ir σ.own (base+i) w w' b=0/\b<σ.low (base+n));rw[l b a1];exact B;intro y b f;have:=W.mc (λe=>y (A.2 e)) b f;have F:=(W.owns b (by omega)).2.2.1;exact(l b F).trans this;intro b f;by_cases hn:Ht w w' b;have e:o.own b=base+i:=jD hn;refine⟨Uf W.ga hn.1,by rw[e];omega,hn.2,λe=>?_⟩;obtain e|e:=e;have:=W.sp.1;have:=hn.1;omega;have:=W.sp.2;have:=hn.1;omega;have e:o.own b=σ.own b:=by show ir σ.own (base+i) w w' b=_;unfold ir;exact Uc hn
 rw[e]at f⊢;obtain⟨a1,C,H,B⟩:=W.owns b f;exact⟨a1,C,Ui H x,B⟩;exact W.EA;exact W.EB.trans (not_congr A.symm);exact W.Cm;refine⟨?_,?_,?_,jl T.gb λop ao=>by rw[v op ao];have:=Q.jn;omega,?_,?_,?_,?_,?_,?_,?_,?_⟩;obtain⟨u,rfl⟩:=T.pre;exact⟨_,Vo ..⟩;have ht:=T.tr.owned (own':=ir σ.own (base+i) w w') T.tb l (λb f=>by obtain rfl|rfl:=f;rw[l _ W.sp.1];exact a8;rw[l _ W.sp.2];exact aa);exact ht.app v (λe=>absurd e (by omega)) (Hu hb ba (λb f=>by obtain⟨a1,C,H,B⟩:=W.kw i hi b f;exact⟨a1,C,H,B⟩) (W.mw i hi) W.sp N af _ _);exact lG T.seen x (Kw (λb f=>(W.kw i hi b f).1) x W.sp.1 af _ _ _);exact T.norel.app (Nf af _ _ _);exact(Deaf_other t (by omega) _ v).trans T.d0;intro m q;by_cases e:m=i;subst e;simp only[o,upd_same];rw[Deaf_own,T.dw _ hi];exact hd;simp only[o,upd_ne σ.D D' e];exact(Deaf_other t (by omega) _ v).trans (T.dw m q);intro y;exact(Deaf_other t (by omega) _ v).trans (T.dc λe=>y (A.2 e));intro k hk J h2;exact(Deaf_other t (g:=k) (g':=base+i) (λe=>J i hi e.symm) _ v).trans (T.above k hk J λe=>h2 λe'=>e (A.1 e'));intro m q E;by_cases e:m=i;subst e;simp only[o,upd_same]at E;obtain bk|hr:=a6 E;obtain⟨r,hr⟩:=T.rel _ hi bk;exact⟨r,aM bk r hr⟩;exact hr;simp only[o,upd_ne σ.D D' e]at E;obtain⟨r,hr⟩:=T.rel m q E;exact⟨r,dT hr v (by omega)⟩;intro y;have Y:=bb.1 y;exact kQ (T.acq Y) λm r q hr=>X m r q hr λ_=>xM (.inl Y);intro y;have Y:=V.1 y;exact kR (T.cls Y) (λm r q hr=>X m r q hr λ_=>xM (.inr Y)) (iZ v (by omega));have Z:σ.ct≠some .quit->∃s r tm,w'.heap[ch]? =some (.chan 0 #[] false s r tm):=by intro y;obtain⟨s,E⟩:=W.chn;rw[fB y]at E;exact⟨s,s,false,L.trans E⟩
 refine⟨?_,Q.jn,λy=>Q.cn λe=>y (A.2 e),?_,A.trans Q.mc,?_,?_,bA,?_,?_,?_⟩;have:(if p.isSome then 1 else 0)=(if σ.ct.isSome then 1 else 0):=by obtain rfl|⟨a,rfl⟩:=O;rfl;rw[a];rfl
 simp only[UI,VI];rw[this];exact Q.size;obtain⟨a,ha,ay⟩:=Q.mn;refine⟨woken P g g' w' a,by rw[bQ _ _ _ _ _ (by omega),ha];rfl,?_⟩;have hr:=S _ λb f=>by obtain⟨a1,C,H,B⟩:=W.k0 b f;exact⟨a1,λe=>C (.inl e),by omega⟩
 have e:woken P g g' w' a=a:=by obtain⟨J,_⟩|⟨r,E,g2,J,_⟩:=ay.status;unfold Go.Conc.woken;split;exact again_running _ (.inl J);rfl;exact ay.woken g g' w' (Z (Q.mb ⟨r,E,J⟩).1)
 rw[e];exact ay.rely hr;intro m q;by_cases e:m=i;subst e;refine⟨g',fg _ _ _ _ a7,?_⟩;simp only[o,upd_same];exact hS;obtain⟨gw,b3,bm⟩:=Q.wk m q;refine⟨woken P g g' w' gw,by rw[bQ _ _ _ _ _ (by omega),b3];rfl,?_⟩;have hr:=S _ λb f=>by obtain⟨a1,C,H,B⟩:=W.kw m q b f;refine⟨a1,λe=>C (.inl e),?_⟩;rcases B with B|B<;>omega
 have e':=bm.woken g g' w' λbo=>Z λy=>by rw[h.m_.xM (by rw[y];trivial) m q]at bo;cases bo
 simp only[o,upd_ne σ.D D' e,upd_ne σ.R ρ' e];rw[e'];exact bm.rely hr;intro m J h2;simp only[o,upd_ne σ.R ρ' (show m≠i fromλe=>by subst e;exact absurd hi (Vi.2 J))];exact Q.unb m J h2;intro k gk J h2 hk;rw[bQ _ _ _ _ _ (by omega)]at hk;obtain⟨b4,b5,rfl⟩:=UN.1 hk;have hq:=Q.lv k b4 J h2 b5;rw[woken_quitsD hq,Deaf_other t (by omega) _ v];exact hq;rintro⟨r,E,e⟩;obtain⟨J,h2⟩:=Q.mb ⟨r,E,e⟩;refine⟨λe'=>J (V.1 e'),λm q=>?_⟩;by_cases e':m=i;subst e';simp only[o,upd_same];exact h7;simp only[o,upd_ne σ.D D' e'];exact h2 m q;intro r E e;exact V.2 (Q.mq r E e)
 exact Ar (λm q=>by
  by_cases e:m=i
  ·subst e;simp only[o,upd_same];exact ak
  ·simp only[o,upd_ne σ.D D' e]) h.v_
end
section
variable {j:Nat} {D:Nat->WD} {D':WD} {mt:nT} {ct ct':Option CTag} {st sm:Int} {i:Nat}
def tX(hi:i<j):VW j (upd D i D')+jO (D i)=VW j D+jO D':=sumTo_upd D D' jO hi
def Mode.same(hi:i<j)(h:Mode j D mt ct st sm)(g:D'.s=(D i).s\/(4<=D'.s/\4<=(D i).s)):Mode j (upd D i D') mt ct st sm:=by
 have v:jO D'=jO (D i):=by unfold jO;obtain e|⟨a,b⟩:=g;rw[e];rw[Ud a,Ud b]
 have m:VW j (upd D i D')=VW j D:=by have:=tX (D':=D') hi (D:=D);omega
 have o:uX j D->uX j (upd D i D'):=by intro h k f;by_cases e:k=i;subst e;rw[upd_same];obtain e|⟨a,_⟩:=g;rw[e];exact h k f;exact .inl a;rw[upd_ne D D' e];exact h k f
 have p:Ez j D->Ez j (upd D i D'):=by intro h k f;by_cases e:k=i;subst e;rw[upd_same];obtain e|⟨_,b⟩:=g;rw[e];exact h k f;rw[h k f]at b;omega;rw[upd_ne D D' e];exact h k f
 cases h with
 |opn a b c=>rw[<-m];exact .opn a (o b) (by rw[m];exact c)
 |reg a b c=>rw[<-m];exact .reg a (o b) (by rw[m];exact c)
 |last L a b c d=>(have e:(upd D i D' L).s=(D L).s:=by by_cases e:L=i;subst e;rw[upd_same];obtain e|⟨_,b⟩:=g;exact e;rcases c with c|c|c<;>rw[c]at b<;>omega;rw[upd_ne D D' e]);rw[<-e];refine .last L a b (by rw[e];exact c) λk f l=>?_;by_cases q:k=i;subst q;rw[upd_same];have:=d k f l;obtain r|⟨_,u⟩:=g;rw[r];exact this;rw[this]at u;omega;rw[upd_ne D D' q];exact d k f l
 |sema a b c=>exact .sema a b (p c)
 |fin a b=>exact .fin a (p b)
def Mode.retag(h:Mode j D mt ct st sm)(e:ct'=ct\/(ct=some .blk/\ct'=some .w3)):Mode j D mt ct' st sm:=by obtain rfl|⟨rfl,rfl⟩:=e;exact h;cases h with|opn a=>exact a.elim|reg a b c=>exact .reg trivial b c|last L a b c d=>exact .last L trivial b c d|sema a b c=>exact .sema trivial (by simp) c|fin a=>exact a.elim
def Mode.isLast(h:Mode j D mt ct st sm)(hi:i<j)(f:(D i).s=3\/(D i).s=2\/(D i).s=1):CTag.reg ct/\(∀k,k<j->k≠i->(D k).s=0)/\st=(if(D i).s=1 then 0 else 1)/\sm=0:=by
 cases h with
 |opn a b=>rcases b i hi with x|x<;>omega
 |reg a b=>rcases b i hi with x|x<;>omega
 |last L a b c d=>by_cases e:i=L;subst e;exact⟨a,d,rfl,rfl⟩;have:=d i hi e;omega
 |sema a b c=>have:=c i hi;omega
 |fin a b=>have:=b i hi;omega
def Hv(hi:i<j)(a:4<=(D i).s):1<=VW j D:=by have:=le_sumTo (f:=λi=>jO (D i)) hi;have e:jO (D i)=1:=Ud a;unfold VW;omega
def Nh(j D):VW j D<=j:=by (have:=sumTo_le (f:=λi=>jO (D i)) (c:=1) (j:=j) λi _=>by unfold jO;split<;>omega);unfold VW;omega
def Q5(h:VW j D=1)(c:uX j D)(hi:i<j)(d:4<=(D i).s):∀k,k<j->k≠i->(D k).s=0:=by intro k b a;obtain f|h0:=c k b;exfalso;have g:jO (⟨0,0,λ_=>False,λ_=>False⟩:WD)=0:=rfl;have l:=tX (D':=⟨0,0,λ_=>False,λ_=>False⟩) hi (D:=D);have e:jO (D i)=1:=Ud d;have m:=Hv (D:=upd D i ⟨0,0,λ_=>False,λ_=>False⟩) b (by rw[upd_ne _ _ a];exact f);omega;exact h0
def Mode.isOpen(h:Mode j D mt ct st sm)(hi:i<j)(g:4<=(D i).s):uX j D/\sm=0/\((CTag.opn ct/\(∀f,ct=some (.w2 f)->VW j D<=f/\1<=f)/\st=((VW j D+mt.pend:Nat):Int)*KK)\/(CTag.reg ct/\st=((VW j D:Nat):Int)*KK+1)):=by cases h with|opn a b c=>exact⟨b,rfl,.inl ⟨a,c,rfl⟩⟩|reg a b c=>exact⟨b,rfl,.inr ⟨a,rfl⟩⟩|last L a b c d=>by_cases e:i=L;subst e;omega;have:=d i hi e;omega|sema a b c=>have:=c i hi;omega|fin a b=>have:=b i hi;omega
end
section
variable {P:Program} {ty:TypeId} {Wg ch:Nat} {z:Value} {An:aJ} {HV:Nat->Option Value} {Fin:List Value->aJ} {n base N0:Nat} {shun:Nat->Prop} {W₀:World} {t₀ t:Trace} {gs:Array Goroutine} {w w':World} {sl:Option (Nat×Nat)} {σ:GSt P ty Wg}
def rf{k r fn pos es}(h:RelBy (stA Wg) t k r)(a:∀e∈es,(MemAct.ofEvent e).touch?=none):RelBy (stA Wg) (t++MemOp.ofEvents k fn pos es) k r:=h.appOwn fn pos es λj e b=>.inl (a e (UZ b))
def kS{k r d fn pos es}(h:RelBy (stA Wg) t k r)(g:Deaf t k=d+1)(f:∀e∈es,∃a b,e=(⟨.cell a,b,true⟩:Event)):RelBy (stA Wg) (t++MemOp.ofEvents k fn pos es) k r:=by refine h.appOwn fn pos es λj e m=>.inr ⟨?_,?_⟩;obtain⟨a,b,rfl⟩:=f e (UZ m);exact⟨a,b,rfl⟩;(have:deafBehind (Deaf t k) (es.extract 0 j)=Deaf t k:=by refine deafBehind_still (λx o=>?_) _;obtain⟨a,b,rfl⟩:=f x (by obtain⟨l,c⟩:=WO.1 o;rw[Xn]at c;split at c;exact UZ c;cases c);simp);rw[this,g];omega
def xO{K M es}(h:∀e∈es,EvK Wg K M e)(d):deafBehind d es=d:=deafBehind_still (λe a=>⟨(h e a).2.1,(h e a).2.2.1⟩) d
def mi(a v)(c:a.block=Wg):(w.setCell a v).os=w.os/\(w.setCell a v).tape=w.tape/\(w.setCell a v).output=w.output/\(w.setCell a v).heap.size=w.heap.size/\∀b,b≠Wg->(w.setCell a v).heap[b]? =w.heap[b]? :=⟨rfl,rfl,rfl,by simp[World.setCell],λb d=>dS w a v b (by rw[c];exact d)⟩
def GI.gi(G:fA Wg ch base N0 shun)(h:GI P ty Wg ch z An HV Fin n base N0 shun W₀ t₀ gs w t σ){i}(hi:i<σ.j){g g' es s' d' ρ' st' sm'} (A:gs[base+i]? =some g) (q:stepG P false g w=.go g' w' es) (c:g'.status=.running\/g'.status=.finished) (B:w'=w\/∃a v,a.block=Wg/\w'=w.setCell a v) (hwg:WgAt ty Wg w' st' sm') (u:∀e∈es,EvB Wg e) (C:WSit P ty Wg ch z (HV i) ⟨s',d',(σ.D i).K,(σ.D i).M⟩ ρ' g' w') (x:Rk.lt P ty Wg ρ' (σ.R i)) (E:deafBehind (σ.D i).d es=d') (y:(σ.D i).s<=5->∀r,RelBy (stA Wg) t (base+i) r->RelBy (stA Wg) (t++MemOp.ofEvents (base+i) g.frame.fn g.frame.place es) (base+i) r) (l:s'<=5->(σ.D i).s<=5\/∃r,RelBy (stA Wg) (t++MemOp.ofEvents (base+i) g.frame.fn g.frame.place es) (base+i) r) (f:∀ct',(ct'=σ.ct\/(σ.ct=some .blk/\ct'=some .w3))->(mayWake P g=true->ct'≠some .blk)->Mode σ.j (upd σ.D i ⟨s',d',(σ.D i).K,(σ.D i).M⟩) σ.mt ct' st' sm') (k:s'<=6/\HV i≠none↔(σ.D i).s<=6/\HV i≠none) (F:s'≠7):∃gs' m,runT P (crowd gs w sl) (base+i)=(.next (crowd gs' w' sl),MemOp.ofEvents (base+i) g.frame.fn g.frame.place es)/\GI P ty Wg ch z An HV Fin n base N0 shun W₀ t₀ gs' w' (t++MemOp.ofEvents (base+i) g.frame.fn g.frame.place es) m/\EC P ty Wg (mu (n:=n) (base:=base) m) (mu (n:=n) (base:=base) σ):=by (have o:w'.os=w.os/\w'.tape=w.tape/\w'.output=w.output/\w'.heap.size=w.heap.size/\∀b,b≠Wg->w'.heap[b]? =w.heap[b]? :=by obtain rfl|⟨a,v,H,rfl⟩:=B;exact⟨rfl,rfl,rfl,rfl,λ_ _=>rfl⟩;exact mi a v H);exact h.worker (D':=⟨s',d',(σ.D i).K,(σ.D i).M⟩) G hi A q c ⟨o.1,o.2.1,o.2.2.1⟩ (VK o.2.2.2.1.symm) (λb _ p _=>o.2.2.2.2 b p) hwg (λe I=>.inr (u e I)) (λb p=>.inl p) (λb p=>.inl p) C x E y l f k F
end
section
variable {P:Program} {ty:TypeId} {Wg ch:Nat} {z:Value} {An:aJ} {HV:Nat->Option Value} {Fin:List Value->aJ} {n base N0:Nat} {shun:Nat->Prop} {W₀:World} {t₀ t:Trace} {gs:Array Goroutine} {w w':World} {sl:Option (Nat×Nat)} {σ:GSt P ty Wg}
def fw.bound{mt j d K M ρ g}(h:fw P ty Wg ch z An HV Fin n mt j d K M ρ g w):j+mt.pend<=n:=by cases h<;>simp only[nT.pend]<;>(try simp)<;>omega
def dU(P ty)(Wg ch:Nat)(z:Value)(An:aJ)(HV:Nat->Option Value)(Fin:List Value->aJ)(n base N0:Nat)(shun:Nat->Prop)(W₀:World)(t₀ t:Trace)(gs:Array Goroutine)(w:World)(sl:Option (Nat×Nat))(σ:GSt P ty Wg)(x:Nat):Prop:=∃gs' w' ops a,runT P (crowd gs w sl) x=(.next (crowd gs' w' sl),ops)/\GI P ty Wg ch z An HV Fin n base N0 shun W₀ t₀ gs' w' (t++ops) a/\EC P ty Wg (mu (n:=n) (base:=base) a) (mu (n:=n) (base:=base) σ)
def bZ{a b}(h:a<b){x y}:Rk.lt P ty Wg (a,x) (b,y):=Prod.Lex.left _ _ h
def rh{a p q}(h:p<q){x y}:Rk.lt P ty Wg (a,p,x) (a,q,y):=Prod.Lex.right _ (Prod.Lex.left _ _ h)
def eX{a p x y}(h:RC.lt P ty Wg x y):Rk.lt P ty Wg (a,p,x) (a,p,y):=Prod.Lex.right _ (Prod.Lex.right _ h)
def xP(G:fA Wg ch base N0 shun)(h:GI P ty Wg ch z An HV Fin n base N0 shun W₀ t₀ gs w t σ){i}(hi:i<σ.j){g g' es ρ'} (A:gs[base+i]? =some g) (p:stepG P false g w=.go g' w' es) (f:g'.status=.running) (I:(σ.D i).s=8\/(σ.D i).s=6) (q:(σ.D i).d=0) (a:Eff (σ.D i).M w w') (k:∀e∈es,EvK Wg (orK (σ.D i).K w w') (orK (σ.D i).M w w') e) (B:WSit P ty Wg ch z (HV i) ⟨(σ.D i).s,0,orK (σ.D i).K w w',orK (σ.D i).M w w'⟩ ρ' g' w') (r:Rk.lt P ty Wg ρ' (σ.R i)):dU P ty Wg ch z An HV Fin n base N0 shun W₀ t₀ t gs w sl σ (base+i):=by
 have W:=h.w_;have T:=h.t_;have o:=G.lH;have x:=T.tr.vP Wg (.inl rfl);have c:∀b,b<w.heap.size->σ.own b≠base+i->w'.heap[b]? =w.heap[b]? :=λb l m=>a.keep b l λC=>m (W.mw i hi b C);obtain⟨gs',u,l,m,E⟩:=h.worker (sl:=sl) (D':=⟨(σ.D i).s,0,orK (σ.D i).K w w',orK (σ.D i).M w w'⟩) (st':=σ.st) (sm':=σ.sm) G hi A p (.inl f) ⟨a.os,a.tape,a.output⟩ a.size (λb l _ m=>c b l m)
  (W.wg.of_block (c Wg W.sp.1 (by omega))) (λe F=>.inl (k e F)) (λb o=>o) (λb o=>o) B r (by rw[xO k];exact q) (λy=>by omega) (λy=>by simp only at y;omega)
  (λH v _=>(h.m_.same (D':=⟨(σ.D i).s,0,orK (σ.D i).K w w',orK (σ.D i).M w w'⟩) hi (.inl rfl)).retag v) VZ (by simp only;omega)
 exact⟨gs',w',_,u,l,m,E⟩
def iF(G:fA Wg ch base N0 shun)(h:GI P ty Wg ch z An HV Fin n base N0 shun W₀ t₀ gs w t σ){i}(hi:i<σ.j){g g' ρ'} (k:gs[base+i]? =some g) (b:stepG P false g w=.go g' w #[]) (a:g'.status=.running\/g'.status=.finished) (l:(σ.D i).s≠7) (m:WSit P ty Wg ch z (HV i) ⟨(σ.D i).s,(σ.D i).d,(σ.D i).K,(σ.D i).M⟩ ρ' g' w) (c:Rk.lt P ty Wg ρ' (σ.R i)):dU P ty Wg ch z An HV Fin n base N0 shun W₀ t₀ t gs w sl σ (base+i):=by
 obtain⟨gs',e,o,p,q⟩:=h.gi (sl:=sl) (w':=w) (st':=σ.st) (sm':=σ.sm) G hi k b a (.inl rfl) h.w_.wg (by simp) m c rfl (λ_ r u=>rf u (by simp)) (λv=>.inl v)
  (λx f _=>(h.m_.same hi (.inl rfl)).retag f) VZ l
 exact⟨gs',w,_,e,o,p,q⟩
def Ni{m:Mark}(h:∀a,m≠ .read a/\m≠ .write a):(MemAct.ofEvent (mk m)).touch?=none:=by unfold Go.ConcR.mk;cases m<;>simp[MemAct.ofEvent,MemAct.touch?];exact absurd rfl (h _).1;exact absurd rfl (h _).2
def oL(G:fA Wg ch base N0 shun)(h:GI P ty Wg ch z An HV Fin n base N0 shun W₀ t₀ gs w t σ){i}(hi:i<σ.j){g} (r:gs[base+i]? =some g) (u:(σ.D i).s=8/\HV i=none\/(σ.D i).s=6) (c:(σ.D i).d=0) {ρ} (v:σ.R i=((σ.D i).s,ρ)) (y:SR0 P ty Wg (σ.D i).K (σ.D i).M g w):dU P ty Wg ch z An HV Fin n base N0 shun W₀ t₀ t gs w sl σ (base+i):=by
 obtain⟨F,g',k,m,f⟩:=y;have l:=(h.t_.dw i hi).trans c;obtain⟨gs',o,A,B,C⟩:=h.gi (sl:=sl) (w':=w) (s':=5) (d':=0) (ρ':=(5,m,ρ.2)) (st':=σ.st) (sm':=σ.sm) G hi r k (.inl (cQ (λ_ _ x=>x.1) f)) (.inl rfl) h.w_.wg
  (λe q=>by simp at q;subst q;exact iE λa=>by simp) (.k1 f) (by rw[v];exact bZ (by omega)) (by rw[c];rfl)
  (λH=>by omega) (λ_=>.inr ⟨_,RelBy.new l _ _⟩) (λE p _=>(h.m_.same hi (.inr ⟨by simp,by omega⟩)).retag p) (by rcases u with⟨a,b⟩|a<;>simp[a]<;>assumption) (by simp)
 exact⟨gs',w,_,o,A,B,C⟩
def xQ(G:fA Wg ch base N0 shun)(h:GI P ty Wg ch z An HV Fin n base N0 shun W₀ t₀ gs w t σ){i}(hi:i<σ.j){g} (q:gs[base+i]? =some g) (u:(σ.D i).s=5) (f:(σ.D i).d=0) {ρ} (v:σ.R i=((σ.D i).s,ρ)) (y:SK1 P ty Wg (σ.D i).K (σ.D i).M g w):dU P ty Wg ch z An HV Fin n base N0 shun W₀ t₀ t gs w sl σ (base+i):=by
 obtain⟨p,g',k,m,b⟩:=y;obtain⟨gs',l,A,B,C⟩:=h.gi (sl:=sl) (w':=w) (s':=4) (d':=1) (ρ':=(4,m,ρ.2)) (st':=σ.st) (sm':=σ.sm) G hi q k (.inl (cQ (λ_ _ x=>x.1) b)) (.inl rfl) h.w_.wg
  (λe c=>by simp at c;subst c;exact iE λa=>by simp) (.d1 b) (by rw[v];exact bZ (by omega)) (by rw[f];rfl)
  (λ_ r p=>rf p λe c=>by simp at c;subst c;exact Ni λa=>by simp) (λ_=>.inl (by omega)) (λE o _=>(h.m_.same hi (.inr ⟨by simp,by omega⟩)).retag o) (by simp[u]) (by simp)
 exact⟨gs',w,_,l,A,B,C⟩
def kA(a b):deafBehind 1 #[rd a,wr b]=1:=deafBehind_still (λe c=>by simp at c;rcases c with rfl|rfl<;>simp[rd,wr]) 1
def mO{es}(h:es=#[rd (stA Wg),wr (stA Wg)]\/es=#[rd (stA Wg)]\/es=#[wr (stA Wg)]):∀e∈es,∃a b,a.block=Wg/\e=(⟨.cell a,b,true⟩:Event):=by intro e c;rcases h with rfl|rfl|rfl<;>simp at c;obtain rfl|rfl:=c;exact⟨_,_,rfl,rfl⟩;exact⟨_,_,rfl,rfl⟩;subst c;exact⟨_,_,rfl,rfl⟩;subst c;exact⟨_,_,rfl,rfl⟩
def Hw(G:fA Wg ch base N0 shun)(hn:n<2147483647)(h:GI P ty Wg ch z An HV Fin n base N0 shun W₀ t₀ gs w t σ){i}(hi:i<σ.j){g} (Y:gs[base+i]? =some g) (Z:(σ.D i).s=4) (p:(σ.D i).d=1) {ρ} (hR:σ.R i=((σ.D i).s,ρ)) (V:SD1 P ty Wg (σ.D i).K (σ.D i).M g w):dU P ty Wg ch z An HV Fin n base N0 shun W₀ t₀ t gs w sl σ (base+i):=by
 obtain⟨L,V⟩:=V;have W:=h.w_;obtain⟨hO,aa,E⟩:=h.m_.isOpen hi (by omega);have ag:=Hv (D:=σ.D) hi (by omega);have ak:=Nh σ.j σ.D;have an:=h.g_.jn;have F:Deaf t (base+i)=0+1:=(h.t_.dw i hi).trans p;have u:=mO (Wg:=Wg) (.inl rfl);have c:∀e∈#[rd (stA Wg),wr (stA Wg)],EvB Wg e:=λe H=>by obtain⟨a,b,ha,rfl⟩:=u e H;exact eL ha b
 have hwg:=W.wg;rw[aa]at hwg;have y:=λD':WD=>tX (D:=σ.D) (D':=D') hi;have af:jO (σ.D i)=1:=Ud (by omega);have A:∀{g':Goroutine} {q:Nat},QuitsD P q 1 g'->g'.status=.running\/g'.status=.finished:=λf=>f.status;obtain⟨X,ab,I⟩|⟨X,I⟩:=E
 ·
  have e1:σ.st=(((VW σ.j σ.D+σ.mt.pend-1:Nat):Int)+1)*KK+((0:Nat):Int):=by rw[I];simp only[KK];omega
  have ao:σ.mt.pend<=1:=by unfold nT.pend;split<;>(try split)<;>omega
  have ar:σ.j+σ.mt.pend<=n:=by obtain⟨a,_,hm⟩:=h.g_.mn;exact hm.bound
  rw[e1]at hwg;obtain⟨g',v,_,f⟩:=V (VW σ.j σ.D+σ.mt.pend-1) 0 (by omega) (by omega) hwg;obtain⟨q,f⟩:=f (by omega);obtain⟨gs',l,N,O,Q⟩:=h.gi (sl:=sl) (s':=0) (d':=1) (ρ':=(0,q,ρ.2)) G hi Y v (A f) (.inr ⟨_,_,rfl,rfl⟩) (hwg.setSt _) c (.quit f) (by rw[hR];exact bZ (by omega)) (by rw[p];exact kA _ _)
   (λ_ r L=>kS L F λe H=>by obtain⟨a,b,_,rfl⟩:=u e H;exact⟨a,b,rfl⟩) (λ_=>.inl (by omega))
   (λS o _=>by
    have ad:jO (⟨0,1,(σ.D i).K,(σ.D i).M⟩:WD)=0:=rfl;have hV:=y ⟨0,1,(σ.D i).K,(σ.D i).M⟩;refine Mode.retag (ct:=σ.ct) ?_ o;have e:(((VW σ.j σ.D+σ.mt.pend-1:Nat):Int))*KK+((0:Nat):Int)=((VW σ.j (upd σ.D i ⟨0,1,(σ.D i).K,(σ.D i).M⟩)+σ.mt.pend:Nat):Int)*KK:=by
     have:VW σ.j σ.D+σ.mt.pend-1=VW σ.j (upd σ.D i ⟨0,1,(σ.D i).K,(σ.D i).M⟩)+σ.mt.pend:=by omega
     rw[this];simp
    rw[e];refine .opn X (λk T=>?_) λvs e=>?_
    ·by_cases e:k=i
     ·subst e;rw[upd_same];exact .inr rfl
     ·rw[upd_ne _ _ e];exact hO k T
    ·have:=ab vs e;omega) (by simp[Z]) (by simp)
  exact⟨gs',_,_,l,N,O,Q⟩
 ·
  have e1:σ.st=(((VW σ.j σ.D-1:Nat):Int)+1)*KK+((1:Nat):Int):=by rw[I];simp only[KK];omega
  rw[e1]at hwg;obtain⟨g',v,J,f⟩:=V (VW σ.j σ.D-1) 1 (by omega) (by omega) hwg;by_cases B:VW σ.j σ.D=1
  ·
   obtain⟨m,C⟩:=J ⟨by omega,rfl⟩;have hz:=Q5 B hO hi (by omega);obtain⟨gs',l,N,O,Q⟩:=h.gi (sl:=sl) (s':=3) (d':=1) (ρ':=(3,m,ρ.2)) G hi Y v (.inl (cQ (λ_ _ x=>x.1) C)) (.inr ⟨_,_,rfl,rfl⟩) (hwg.setSt _) c (.d2 C) (by rw[hR];exact bZ (by omega)) (by rw[p];exact kA _ _)
    (λ_ r L=>kS L F λe H=>by obtain⟨a,b,_,rfl⟩:=u e H;exact⟨a,b,rfl⟩) (λ_=>.inl (by omega))
    (λS o _=>by
     refine Mode.retag (ct:=σ.ct) ?_ o;have e:(((VW σ.j σ.D-1:Nat):Int))*KK+((1:Nat):Int)=(if(upd σ.D i ⟨3,1,(σ.D i).K,(σ.D i).M⟩ i).s=1 then 0 else 1):=by rw[upd_same,Uc (by simp),B];simp
     rw[e];refine .last i X hi (by rw[upd_same];exact .inl rfl) λk T U=>?_;rw[upd_ne _ _ U];exact hz k T U) (by simp[Z]) (by simp)
   exact⟨gs',_,_,l,N,O,Q⟩
  ·obtain⟨q,f⟩:=f (by omega)
   obtain⟨gs',l,N,O,Q⟩:=h.gi (sl:=sl) (s':=0) (d':=1) (ρ':=(0,q,ρ.2)) G hi Y v (A f) (.inr ⟨_,_,rfl,rfl⟩) (hwg.setSt _) c (.quit f) (by rw[hR];exact bZ (by omega)) (by rw[p];exact kA _ _)
    (λ_ r L=>kS L F λe H=>by obtain⟨a,b,_,rfl⟩:=u e H;exact⟨a,b,rfl⟩) (λ_=>.inl (by omega))
    (λS o _=>by
     have ad:jO (⟨0,1,(σ.D i).K,(σ.D i).M⟩:WD)=0:=rfl;have hV:=y ⟨0,1,(σ.D i).K,(σ.D i).M⟩;refine Mode.retag (ct:=σ.ct) ?_ o;have e:(((VW σ.j σ.D-1:Nat):Int))*KK+((1:Nat):Int)=((VW σ.j (upd σ.D i ⟨0,1,(σ.D i).K,(σ.D i).M⟩):Nat):Int)*KK+1:=by
      have:VW σ.j σ.D-1=VW σ.j (upd σ.D i ⟨0,1,(σ.D i).K,(σ.D i).M⟩):=by omega
      rw[this];simp
     rw[e];refine .reg X (λk T=>?_) (by omega);by_cases e:k=i
     ·subst e;rw[upd_same];exact .inr rfl
     ·rw[upd_ne _ _ e];exact hO k T) (by simp[Z]) (by simp)
   exact⟨gs',_,_,l,N,O,Q⟩
def sL(a):deafBehind 1 #[rd a]=1:=deafBehind_still (λe b=>by simp at b;subst b;simp[rd]) 1
def PL(a):deafBehind 1 #[wr a]=1:=deafBehind_still (λe b=>by simp at b;subst b;simp[wr]) 1
def Kx(G:fA Wg ch base N0 shun)(h:GI P ty Wg ch z An HV Fin n base N0 shun W₀ t₀ gs w t σ){i}(hi:i<σ.j){g} (I:gs[base+i]? =some g) (F:(σ.D i).s=3) (f:(σ.D i).d=1) {ρ} (J:σ.R i=((σ.D i).s,ρ)) (q:SD2 P ty Wg (σ.D i).K (σ.D i).M g w):dU P ty Wg ch z An HV Fin n base N0 shun W₀ t₀ t gs w sl σ (base+i):=by
 obtain⟨H,q⟩:=q;obtain⟨u,L,l,v⟩:=h.m_.isLast hi (by omega);rw[F]at l;have hwg:=h.w_.wg;rw[l,v]at hwg;obtain⟨g',y,m,c⟩:=q hwg;have A:Deaf t (base+i)=0+1:=(h.t_.dw i hi).trans f;have o:=mO (Wg:=Wg) (es:=#[rd (stA Wg)]) (.inr (.inl rfl));obtain⟨gs',B,N,O,Q⟩:=h.gi (sl:=sl) (w':=w) (s':=2) (d':=1) (ρ':=(2,m,ρ.2)) (st':=1) (sm':=0) G hi I y (.inl (cQ (λ_ _ x=>x.1) c)) (.inl rfl) hwg
  (λe C=>by obtain⟨a,b,S,rfl⟩:=o e C;exact eL S b) (.d3 c) (by rw[J];exact bZ (by omega)) (by rw[f];exact sL _)
  (λ_ r H=>kS H A λe C=>by obtain⟨a,b,_,rfl⟩:=o e C;exact⟨a,b,rfl⟩) (λ_=>.inl (by omega))
  (λT E _=>by
   refine Mode.retag (ct:=σ.ct) ?_ E;have:=Mode.last (j:=σ.j) (D:=upd σ.D i ⟨2,1,(σ.D i).K,(σ.D i).M⟩) (mt:=σ.mt) i u hi (by rw[upd_same];exact .inr (.inl rfl)) λk U p=>by rw[upd_ne _ _ p];exact L k U p
   rw[upd_same,Uc (by simp)]at this;exact this) (by simp[F]) (by simp)
 exact⟨gs',_,_,B,N,O,Q⟩
def Ky(G:fA Wg ch base N0 shun)(h:GI P ty Wg ch z An HV Fin n base N0 shun W₀ t₀ gs w t σ){i}(hi:i<σ.j){g} (I:gs[base+i]? =some g) (F:(σ.D i).s=2) (f:(σ.D i).d=1) {ρ} (J:σ.R i=((σ.D i).s,ρ)) (q:SD3 P ty Wg (σ.D i).K (σ.D i).M g w):dU P ty Wg ch z An HV Fin n base N0 shun W₀ t₀ t gs w sl σ (base+i):=by
 obtain⟨H,q⟩:=q;obtain⟨u,L,l,v⟩:=h.m_.isLast hi (by omega);rw[F]at l;have hwg:=h.w_.wg;rw[l,v]at hwg;obtain⟨g',y,m,c⟩:=q hwg;have A:Deaf t (base+i)=0+1:=(h.t_.dw i hi).trans f;have o:=mO (Wg:=Wg) (es:=#[wr (stA Wg)]) (.inr (.inr rfl));obtain⟨gs',B,N,O,Q⟩:=h.gi (sl:=sl) (s':=1) (d':=1) (ρ':=(1,m,ρ.2)) (st':=0) (sm':=0) G hi I y (.inl (cQ (λ_ _ x=>x.1) c)) (.inr ⟨_,_,rfl,rfl⟩) (hwg.setSt _)
  (λe C=>by obtain⟨a,b,S,rfl⟩:=o e C;exact eL S b) (.d4 c) (by rw[J];exact bZ (by omega)) (by rw[f];exact PL _)
  (λ_ r H=>kS H A λe C=>by obtain⟨a,b,_,rfl⟩:=o e C;exact⟨a,b,rfl⟩) (λ_=>.inl (by omega))
  (λT E _=>by
   refine Mode.retag (ct:=σ.ct) ?_ E;have:=Mode.last (j:=σ.j) (D:=upd σ.D i ⟨1,1,(σ.D i).K,(σ.D i).M⟩) (mt:=σ.mt) i u hi (by rw[upd_same];exact .inr (.inr rfl)) λk U p=>by rw[upd_ne _ _ p];exact L k U p
   rw[upd_same,Ud rfl]at this;exact this) (by simp[F]) (by simp)
 exact⟨gs',_,_,B,N,O,Q⟩
def Nj(e)(b:e∈semEvents (smA Wg)):EvB Wg e:=by simp only[semEvents,U8,UC,UR,US]at b;obtain rfl|rfl|rfl|rfl:=b;(exact iE (m:=.disable) λa=>by simp);exact eL rfl _;exact eL rfl _;exact iE (m:=.enable) λa=>by simp
def ED(a):deafBehind 1 (semEvents a)=1:=rfl
def Kz{k r fn pos}(h:RelBy (stA Wg) t k r)(b:Deaf t k=1):RelBy (stA Wg) (t++MemOp.ofEvents k fn pos (semEvents (smA Wg))) k r:=by refine h.appOwn fn pos _ λj e a=>?_;rw[b];unfold semEvents at a⊢;match j,a with|0,a=>simp at a;subst a;exact .inl rfl|1,a=>simp at a;subst a;exact .inr ⟨⟨_,_,rfl⟩,Wp 1⟩|2,a=>simp at a;subst a;exact .inr ⟨⟨_,_,rfl⟩,Wp 1⟩|3,a=>simp at a;subst a;exact .inl rfl|j+4,a=>simp at a
def KA(G:fA Wg ch base N0 shun)(h:GI P ty Wg ch z An HV Fin n base N0 shun W₀ t₀ gs w t σ){i}(hi:i<σ.j){g} (C:gs[base+i]? =some g) (y:(σ.D i).s=1) (a:(σ.D i).d=1) {ρ} (E:σ.R i=((σ.D i).s,ρ)) (c:SD4 P ty Wg (σ.D i).K (σ.D i).M g w):dU P ty Wg ch z An HV Fin n base N0 shun W₀ t₀ t gs w sl σ (base+i):=by
 obtain⟨A,f,c⟩:=c;obtain⟨l,F,b,m⟩:=h.m_.isLast hi (by omega);rw[y]at b;have hwg:=h.w_.wg;rw[b,m]at hwg;obtain⟨g',o,q,B⟩:=c hwg;have p:=(h.t_.dw i hi).trans a;obtain⟨gs',u,H,I,J⟩:=h.gi (sl:=sl) (s':=0) (d':=1) (ρ':=(0,q,ρ.2)) (st':=0) (sm':=1) G hi C o B.status (.inr ⟨_,_,rfl,rfl⟩) (hwg.setSm _)
  Nj (.quit B) (by rw[E];exact bZ (by omega)) (by rw[a];exact ED _)
  (λ_ r A=>Kz A p) (λ_=>.inl (by omega))
  (λL v x=>by
   refine .sema ?_ (x f) λk N=>?_
   ·obtain rfl|⟨_,rfl⟩:=v
    ·exact l
    ·trivial
   ·by_cases e:k=i
    ·subst e;rw[upd_same]
    ·rw[upd_ne _ _ e];exact F k N e) (by simp[y]) (by simp)
 exact⟨gs',_,_,u,H,I,J⟩
def EE(G:fA Wg ch base N0 shun)(h:GI P ty Wg ch z An HV Fin n base N0 shun W₀ t₀ gs w t σ){i}(hi:i<σ.j){g q c} (B:gs[base+i]? =some g) (a:g.status=.running) (v:(σ.D i).s=0) (C:σ.R i=(0,q,c)) (b:QuitsD P q (σ.D i).d g):dU P ty Wg ch z An HV Fin n base N0 shun W₀ t₀ t gs w sl σ (base+i):=by
 cases q with
 |zero=>rw[b.1]at a;cases a
 |succ q=>
  obtain⟨E,_⟩|⟨_,g',es,y,k,A⟩:=b;rw[E]at a;cases a
  obtain⟨gs',l,F,H,I⟩:=h.gi (sl:=sl) (w':=w) (s':=0) (d':=deafBehind (σ.D i).d es) (ρ':=(0,q,c)) (st':=σ.st) (sm':=σ.sm) G hi B (k w) A.status (.inl rfl) h.w_.wg
   (λe o=>by
    have f:=y e o;obtain⟨p,J,M⟩:=e;cases p<;>simp[Event.mute]at f;rename_i m;cases m<;>simp at f
    ·exact⟨λx b=>by simp[MemAct.ofEvent,MemAct.touch?]at b,by simp,λ_ _ _=>trivial⟩
    ·exact⟨λx b=>by simp[MemAct.ofEvent,MemAct.touch?]at b,by simp,λ_ _ _=>trivial⟩) (.quit A) (by rw[C];exact rh (by omega)) rfl
   (λ_ r K=>rf K λe o=>touch_mute (y e o)) (λ_=>.inl (by omega)) (λL u _=>(h.m_.same hi (.inl v.symm)).retag u) (by simp[v]) (by simp)
  exact⟨gs',w,_,l,F,H,I⟩
def EF(G:fA Wg ch base N0 shun)(H:n<2147483647)(h:GI P ty Wg ch z An HV Fin n base N0 shun W₀ t₀ gs w t σ){i}(hi:i<σ.j){g}(o:gs[base+i]? =some g)(u:g.status=.running):dU P ty Wg ch z An HV Fin n base N0 shun W₀ t₀ t gs w sl σ (base+i)\/∃v c,HV i=some v/\(σ.D i).s=8/\(σ.D i).d=0/\σ.R i=(8,0,c)/\Nc P ty Wg ch z v (σ.D i).K (σ.D i).M g w:=by
 obtain⟨g0,B,E⟩:=h.g_.wk i hi;rw[o]at B;cases B;generalize e:σ.D i=D at E;generalize p:σ.R i=R at E;cases E with
 |run C=>obtain b|⟨_,g',w',es,x',f,q,y,r,A⟩:=C.ql;unfold SWk at b;(cases F:HV i with|none=>rw[F]at b;refine .inl (oL G h hi o (.inl ⟨by rw[e],F⟩) (by rw[e]) (ρ:=(0,_)) (by rw[e,p]) (by rw[e];exact b))|some v=>rw[F]at b;exact .inr ⟨v,_,rfl,rfl,rfl,rfl,b⟩);exact .inl (xP G h hi o f (r.status Cq) (.inl (by rw[e])) (by rw[e]) (by rw[e];exact q) (by rw[e];exact y) (ρ':=(8,0,x')) (by rw[e];exact .run r) (by rw[p];exact eX A))
 |blk _ C=>cases u
 |r0 C=>refine .inl ?_;obtain b|⟨_,g',w',es,x',f,q,y,r,A⟩:=C.ql;exact oL G h hi o (.inr (by rw[e])) (by rw[e]) (ρ:=(0,_)) (by rw[e,p]) (by rw[e];exact b);exact xP G h hi o f (r.status λ_ _ _ _ x=>x.1) (.inr (by rw[e])) (by rw[e]) (by rw[e];exact q) (by rw[e];exact y) (ρ':=(6,0,x')) (by rw[e];exact .r0 r) (by rw[p];exact eX A)
 | @k1 K M g w c m f=>refine .inl ?_;have a:SK1 P ty Wg K M g w->dU P ty Wg ch z An HV Fin n base N0 shun W₀ t₀ t gs w sl σ (base+i):=λk=>xQ G h hi o (by rw[e]) (by rw[e]) (ρ:=(m,c)) (by rw[e,p]) (by rw[e];exact k);cases m with|zero=>exact a (f w (.refl w))|succ m=>obtain k|⟨_,k⟩:=f;exact a (k w (.refl w));have:=k w (.refl w);cases b:stepG P false g w with|go g' w' es=>rw[b,goes_go]at this;obtain⟨⟨rfl,rfl⟩,l⟩:=this;exact iF G h hi o b (.inl (cQ (λ_ _ x=>x.1) l)) (by rw[e];simp) (ρ':=(5,m,c)) (by rw[e];exact .k1 l) (by rw[p];exact rh (by omega))|_=>rw[b]at this;exact this.elim
 | @d1 K M g w c m f=>refine .inl ?_;have a:SD1 P ty Wg K M g w->dU P ty Wg ch z An HV Fin n base N0 shun W₀ t₀ t gs w sl σ (base+i):=λk=>Hw G H h hi o (by rw[e]) (by rw[e]) (ρ:=(m,c)) (by rw[e,p]) (by rw[e];exact k);cases m with|zero=>exact a (f w (.refl w))|succ m=>obtain k|⟨_,k⟩:=f;exact a (k w (.refl w));have:=k w (.refl w);cases b:stepG P false g w with|go g' w' es=>rw[b,goes_go]at this;obtain⟨⟨rfl,rfl⟩,l⟩:=this;exact iF G h hi o b (.inl (cQ (λ_ _ x=>x.1) l)) (by rw[e];simp) (ρ':=(4,m,c)) (by rw[e];exact .d1 l) (by rw[p];exact rh (by omega))|_=>rw[b]at this;exact this.elim
 | @d2 K M g w c m f=>refine .inl ?_;have a:SD2 P ty Wg K M g w->dU P ty Wg ch z An HV Fin n base N0 shun W₀ t₀ t gs w sl σ (base+i):=λk=>Kx G h hi o (by rw[e]) (by rw[e]) (ρ:=(m,c)) (by rw[e,p]) (by rw[e];exact k);cases m with|zero=>exact a (f w (.refl w))|succ m=>obtain k|⟨_,k⟩:=f;exact a (k w (.refl w));have:=k w (.refl w);cases b:stepG P false g w with|go g' w' es=>rw[b,goes_go]at this;obtain⟨⟨rfl,rfl⟩,l⟩:=this;exact iF G h hi o b (.inl (cQ (λ_ _ x=>x.1) l)) (by rw[e];simp) (ρ':=(3,m,c)) (by rw[e];exact .d2 l) (by rw[p];exact rh (by omega))|_=>rw[b]at this;exact this.elim
 | @d3 K M g w c m f=>refine .inl ?_;have a:SD3 P ty Wg K M g w->dU P ty Wg ch z An HV Fin n base N0 shun W₀ t₀ t gs w sl σ (base+i):=λk=>Ky G h hi o (by rw[e]) (by rw[e]) (ρ:=(m,c)) (by rw[e,p]) (by rw[e];exact k);cases m with|zero=>exact a (f w (.refl w))|succ m=>obtain k|⟨_,k⟩:=f;exact a (k w (.refl w));have:=k w (.refl w);cases b:stepG P false g w with|go g' w' es=>rw[b,goes_go]at this;obtain⟨⟨rfl,rfl⟩,l⟩:=this;exact iF G h hi o b (.inl (cQ (λ_ _ x=>x.1) l)) (by rw[e];simp) (ρ':=(2,m,c)) (by rw[e];exact .d3 l) (by rw[p];exact rh (by omega))|_=>rw[b]at this;exact this.elim
 | @d4 K M g w c m f=>refine .inl ?_;have a:SD4 P ty Wg K M g w->dU P ty Wg ch z An HV Fin n base N0 shun W₀ t₀ t gs w sl σ (base+i):=λk=>KA G h hi o (by rw[e]) (by rw[e]) (ρ:=(m,c)) (by rw[e,p]) (by rw[e];exact k);cases m with|zero=>exact a (f w (.refl w))|succ m=>obtain k|⟨_,k⟩:=f;exact a (k w (.refl w));have:=k w (.refl w);cases b:stepG P false g w with|go g' w' es=>rw[b,goes_go]at this;obtain⟨⟨rfl,rfl⟩,l⟩:=this;exact iF G h hi o b (.inl (cQ (λ_ _ x=>x.1) l)) (by rw[e];simp) (ρ':=(1,m,c)) (by rw[e];exact .d4 l) (by rw[p];exact rh (by omega))|_=>rw[b]at this;exact this.elim
 |quit I=>exact .inl (EE G h hi o u (by rw[e]) p (by rw[e];exact I))
end
end Go.Tm

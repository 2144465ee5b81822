import Derived.Conc.SmallLaws
import Derived.Test.YtaglpcmhopjebaaGreatDoorY12
import Derived.Test.YtaglpcmhopjebaaGreatDoorY20
set_option linter.all false
set_option maxRecDepth 100000
set_option maxHeartbeats 20000000
namespace Go.Tm
open Go.Proofs Go.Conc Go.ConcN Go.Conc.Lib Go.ConcR.Gen Go.ConcN.Gen
open Go.ConcR (KK WgAt stA smA rd wr mk DC0)
noncomputable def nY:Code:=match jB with| .seq _ (.seq _ (.seq (.seq _ (.block _ (.loop c))) _))=>c|_=>.skip
noncomputable def wS:Code:=match jB with| .seq _ (.seq _ (.seq _ c))=>c|_=>.skip
noncomputable def AT:Array Oper:=match nY with| .seq (.region _ ops _) _=>ops|_=>#[]
noncomputable def zi:Code:=match nY with| .seq _ c=>c|_=>.skip
def eQ(a b c:Int):Value:=.agg #[.int .i64 a,.int .i64 b,.int .i64 c]
def jR:List Value:=[.int .i64 0,.int .i64 0,.int .i64 0]
def bt(a:List Value):List Value:=a.flatMap λv=>v.cells.toList
section
variable {Wg ch sb fb n N0:Nat} {An:aK} {HV:Nat->Option Value} {CS:List Frame} {sc:Array Value} {Kold:Nat->Prop} {W₁:World}
noncomputable def tW(sb fb Wg ch:Nat)(s t u v w x a b c d e f g h i j k l m o p q r:Value):Array Value:=#[s,ptr sb,.slice none 0 0,ptr fb,ptr Wg,t,u,v,w,x,a,b,c,d,e,f,g,h,i,j,.chan (some ch),k,l,m,o,p,q,r,undef,undef,undef,undef]
structure nZ(Wg ch sb fb N0:Nat)(sc:Array Value)(Kold:Nat->Prop)(W₁:World)(K M:Nat->Prop)(w:World)(v6:Value)(hs:List Value):Prop where
 ksb:K sb
 kfb:K fb
 KS:∀b,Kold b->K b
 kl:∀b,K b->b<w.heap.size
 kw:∀b,K b->b≠Wg
 live:WgLive 195 Wg w
 st:Stood Wg ch sb fb sc Kold W₁ K w
 row:kS w N0 66 jR v6 hs.length (bt hs)
 own:∀g,v6.ownBlock=some g->K g/\M g/\g≠Wg/\g≠sb/\g≠fb/\¬Kold g
 base:N0<=w.heap.size
 OD:sb<N0/\fb<N0/\∀b,Kold b->b<N0
def GN(Wg ch sb fb N0:Nat)(sc:Array Value)(Kold:Nat->Prop)(W₁:World)(CS:List Frame)(u:List Value):aK:=λK M g w=>
 ∃v x t y z A a b c d e f h i j k l m o p q r s:Value,
  g=Conc.served (G ((base 74).at ⟨tW sb fb Wg ch v x t y z A a b c d e f h i j k l m o p q r s,[]⟩ [.inRegion AT [0,1],.code zi,.inLoop nY,.inBlock 2,.code wS]) CS) (.tuple #[eQ 0 0 0,.bool false])/\
  nZ Wg ch sb fb N0 sc Kold W₁ K M w t u
def nZ.rely{K M w a c hs}(h:nZ Wg ch sb fb N0 sc Kold W₁ K M w c hs)(r:RK 195 Wg K w a):nZ Wg ch sb fb N0 sc Kold W₁ K M a c hs:=⟨h.ksb,h.kfb,h.KS,λb d=>Ru (h.kl b d) r.size,h.kw,r.live h.live,h.st.mono h.ksb h.kfb h.KS r.keep,h.row.keep λg e=>r.keep g (h.own g e).1,h.own,Rr h.base r.size,h.OD⟩
def Nc:(Tryz.prog.info? 66).map (λi=>(i.zero,i.size,i.bytes))=some (some (eQ 0 0 0),3,24):=by kernel_rfl
def mH:∃i,Tryz.prog.info? 66=some i/\i.zero=some (eQ 0 0 0)/\i.size=3/\i.bytes=24:=by obtain⟨i,b,a⟩:=R4.1 Nc;simp only[Ut]at a;exact⟨i,b,a.1,a.2.1,a.2.2⟩
def zm{u v x y z A a b c d e f g h j l m o p q r s t:Value}{k:List Item}{w:World}:
 stepG Tryz.prog true (G ((base 74).at ⟨tW sb fb Wg ch u v x y z A a b c d e f g h j l m o p q r s t,[]⟩ (.inRegion AT (0::[1])::k)) CS) w=
  .comm {G ((base 74).at ⟨tW sb fb Wg ch u v x y z A a b c d e f g h j l m o p q r s t,[]⟩ (.inRegion AT (0::[1])::k)) CS with offers:=none} #[rcase ch (eQ 0 0 0)] true (.recv true) w #[]:=by
 obtain⟨i,B,C,_⟩:=mH;have D:(zeroValue 66).run Tryz.prog w=.ok (eQ 0 0 0) w:=by simp[zeroValue,typeInfo,B,C]
 simp only[AT,nY,jB,Tryz.f74,tW];rw[stepG_comm (cases:=#[rcase ch (eQ 0 0 0)]) (blocking:=true) (shape:=.recv true) (w':=w) rfl rfl (by k_ne) (by simp[go_sem,rcase,D])];simp[listed,go_sem,seen];rfl
def IF(hn:n<2147483647)(ba:∀i v,i<n->HV i=some v->∃a b c,v=eQ a b c):
 ∀(r) (s),r+s.length<=n->∀(K M) (w) (x0 x5 V x7 x8 x9 y A B C D E F H I J L N O P Q R S),nZ Wg ch sb fb N0 sc Kold W₁ K M w V s->Run Tryz.prog true 195 Wg (nU Tryz.prog 195 Wg ch (eQ 0 0 0) HV (GN Wg ch sb fb N0 sc Kold W₁ CS) n r s) K M (G ((base 74).at ⟨tW sb fb Wg ch x0 x5 V x7 x8 x9 y A B C D E F H I J L N O P Q R S,[]⟩ [.code nY,.inLoop nY,.inBlock 2,.code wS]) CS) w:=by
 intro r;induction r with
 |zero=>
  intro s hr K M w x0 x5 V x7 x8 x9 y A B C D E F H I J L N O P Q R S hA;refine Run.still rfl (λ_=>stepG_seq) ?_;refine Run.still rfl (λ_=>stepG_region) ?_;refine .stop λd q=>⟨rfl,?_,?_⟩
  ·exact zm
  ·exact⟨x0,x5,V,x7,x8,x9,y,A,B,C,D,E,F,H,I,J,L,N,O,P,Q,R,S,rfl,hA.rely q⟩
 |succ r ih=>
  intro s hr K M w x0 x5 V x7 x8 x9 y A B C D E F H I J L N O P Q R S hA;refine Run.still rfl (λ_=>stepG_seq) ?_;refine Run.still rfl (λ_=>stepG_region) ?_;refine .stop λd q=>⟨rfl,?_,?_,?_⟩
  ·exact zm
  ·exact⟨x0,x5,V,x7,x8,x9,y,A,B,C,D,E,F,H,I,J,L,N,O,P,Q,R,S,rfl,hA.rely q⟩
  ·intro i v hi hv
   obtain⟨W,X,Y,rfl⟩:=ba i v hi hv;have f:=hA.rely q;have ay:=ih (s++[eQ W X Y]) (by simp;omega);change Run _ _ _ _ _ _ _ (Conc.served (G ((base 74).at _ (.inRegion AT (0::[1])::[.code zi,.inLoop nY,.inBlock 2,.code wS])) CS) _) _;rw[te];simp only[AT,zi,nY,jB,wS,Tryz.f74,tW]at ay⊢
   walk_nrm
   refine Run.pure (.bool true) rfl rfl (by k_ne) (λ_=>rfl) (λ_=>rfl) ?_
   walk_nrm
   refine Run.still rfl (λ_=>stepG_region_end) ?_;refine Run.still rfl (λ_=>stepG_seq) ?_;refine Run.still rfl (λ_=>stepG_cond (t:=true) rfl) ?_;simp only[↓reduceIte];refine Run.still rfl (λ_=>stepG_skip) ?_;refine Run.still rfl (λ_=>stepG_block) ?_;refine Run.still rfl (λ_=>stepG_seq) ?_;refine Run.still rfl (λ_=>stepG_region) ?_;simp only[RS,Rs,RF,Nat.reduceAdd,RB,List.range,List.range.loop];refine Run.pure (eQ W X Y) rfl rfl (by k_ne) (λ_=>rfl) (λ_=>rfl) ?_
   walk_nrm
   refine Run.fresh (ob:=.cells #[.int .i64 0,.int .i64 0,.int .i64 0] 66 (0,0)) (λm=>.pointer (some ⟨m,0,none⟩)) rfl rfl (by k_ne) (λd=>by go_simp) (λd=>by simp[go_sem, *]) (λm w2 hm aM a1 bC af=>?_) f.kl;have a6:m≠Wg:=λe=>by obtain⟨st,sm,h⟩:=f.live;have:=(Rx.1 (show d.heap[Wg]? =some _ from h)).1;omega
   have bb:∀b,K b->b≠m:=λb k e=>by have:=f.kl b k;omega
   walk_nrm
   refine Run.store (cells:=#[.int .i64 W,.int .i64 X,.int .i64 Y]) rfl rfl (by k_ne) rfl rfl rfl a1 AL rfl (by simp[Value.oneCell']) (.inr rfl) (.inr rfl) a6 (λw3 ag ak b0 Z=>?_)
   walk_nrm
   refine Run.still rfl (λ_=>stepG_region_end) ?_;refine Run.still rfl (λ_=>stepG_region) ?_;simp only[RS,Rs,RF,Nat.reduceAdd,RB,List.range,List.range.loop];refine Run.pure V rfl rfl (by k_ne) (λ_=>rfl) (λ_=>rfl) ?_
   walk_nrm
   refine Run.rE rfl rfl (by k_ne) rfl rfl Tryz.underlying66 rfl (.inr rfl) ak AL ?_
   walk_nrm
   refine Run.fresh (ob:=.cells #[.int .i64 W,.int .i64 X,.int .i64 Y] 66 (0,0)) (λm=>.slice (some ⟨m,0,none⟩) 1 1) rfl rfl (by k_ne) (λd=>by go_simp) (λd=>by simp[go_sem, *]) (λm2 w4 b1 al o b2 aa=>?_) (λb k=>k.elim (λx=>by have:=f.kl b x;omega) λx=>by omega);have a7:m2≠Wg:=λe=>by obtain⟨st,sm,h⟩:=f.live;have:=(Rx.1 (show d.heap[Wg]? =some _ from h)).1;omega
   have T:∀b,K b->w4.heap[b]? =d.heap[b]? :=λb k=>(al b (.inl k)).trans ((ag b (.inl k) (bb b k)).trans (aM b k));have l:=aa (Z (af f.live));have a8:d.heap.size<=w4.heap.size:=by omega
   obtain⟨inf,bd,bk,bm,bo⟩:=mH
   walk_nrm
   refine Run.append (base:=N0) (e:=66) (inf:=inf) (z:=eQ 0 0 0) (zc:=jR) (bytes:=24) (n:=s.length) (xs:=bt s) (news:=[.int .i64 W,.int .i64 X,.int .i64 Y]) (v:=V) (ad:=⟨m2,0,none⟩) (m:=1) (c:=1) (t:=62) rfl rfl (by k_ne) rfl rfl rfl Tryz.underlying62 bd bk (by rw[bm];rfl) bo rfl (by simp[jR]) (f.row.keep λg U=>T g (f.own g U).1) (λg U=>?_) (.inr rfl) rfl ?_ (by simp[Value.oneCell']) ?_ ?_ (Rr f.base a8) (by omega) ?_ ?_ ?_
   ·have:=f.own g U;exact⟨.inl (.inl this.1),.inl (.inl this.2.1),this.2.2.1⟩
   ·intro j u hu
    match j,hu with
    |0,hu=>simpa[World.cell?,o,Addr.add]using hu
    |1,hu=>simpa[World.cell?,o,Addr.add]using hu
    |2,hu=>simpa[World.cell?,o,Addr.add]using hu
    |j+3,hu=>simp at hu
   ·simp only[maxLen];omega
   ·omega
   ·rintro b (k|rfl)
    ·have:=f.kl;obtain k|rfl:=k
     ·have:=f.kl b k;omega
     ·omega
    ·omega
   ·obtain⟨st,sm,h⟩:=l
    exact(Rx.1 (show w4.heap[Wg]? =some _ from h)).1
   intro K' M' v' w5 an ao ar br ab ax bs bx b3 b4;have b5:Wg<w4.heap.size:=by obtain⟨st,sm,h⟩:=l;exact(Rx.1 (show w4.heap[Wg]? =some _ from h)).1
   have bA:=Rr f.base a8;have p:∀b,K b->(∀g,V.ownBlock=some g->g≠b)->w5.heap[b]? =d.heap[b]? :=λb k bB=>(ar b (.inl (.inl k)) λe=>bB b e.symm rfl).trans (T b k);have hR:nZ Wg ch sb fb N0 sc Kold W₁ K' M' w5 v' (s++[eQ W X Y]):=by
    refine⟨ax sb (.inl (.inl f.ksb)),ax fb (.inl (.inl f.kfb)),λb k=>ax b (.inl (.inl (f.KS b k))),bx,λb k=>?_,ab l,⟨?_,?_,λb k=>?_⟩,?_,λg U=>?_,Rr bA br,f.OD⟩
    ·rcases bs b k with((x|rfl)|rfl)|x
     ·exact f.kw b x
     ·exact a6
     ·exact a7
     ·omega
    ·exact(p sb f.ksb λg U=>(f.own g U).2.2.2.1).trans f.st.sb_
    ·exact(p fb f.kfb λg U=>(f.own g U).2.2.2.2.1).trans f.st.fb_
    ·exact(p b (f.KS b k) λg U e=>(f.own g U).2.2.2.2.2 (e▸k)).trans (f.st.old b k)
    ·have e1:(s++[eQ W X Y]).length=s.length+1:=by simp
     have e2:bt (s++[eQ W X Y])=bt s++[.int .i64 W,.int .i64 X,.int .i64 Y]:=by simp[bt,eQ,Value.cells]
     rw[e1,e2];exact an
    ·obtain⟨g1,g2,g3,g4⟩:=ao g U
     refine⟨g1,g2,g3,?_⟩;obtain g4|g4:=g4
     ·exact(f.own g g4.symm).2.2.2
     ·have:=f.OD
      exact⟨by omega,by omega,λx=>by have:=this.2.2 g x;omega⟩
   walk_nrm
   refine Run.pure v' rfl rfl (by k_ne) (λ_=>rfl) (λ_=>rfl) ?_
   walk_nrm
   refine Run.still rfl (λ_=>stepG_region_end) ?_;refine Run.still rfl (λ_=>stepG_inBlock) ?_;refine Run.still rfl (λ_=>stepG_inLoop) ?_;exact ay K' M' w5 _ _ _ _ _ _ _ _ _ _ _ _ _ _ _ _ _ _ _ _ _ _ _ hR
def IG(I:n<2147483647)(t:∀i v,i<n->HV i=some v->∃a b c,v=eQ a b c)(J:sb<N0/\fb<N0/\∀b,Kold b->b<N0)
 (f:∀w,WgLive 195 Wg w->w.heap[fb]? =some (.cells #[.chan (some ch)] 185 (0,0))->Run Tryz.prog false 195 Wg (SWd Tryz.prog 195 Wg ch An) (λb=>b=fb) (λ_=>False) (born Tryz.prog {target:=.fn (.func 126) #[ptr Wg,ptr fb],args:=#[]}) w):
 ∀(K) (w) (y z B C h j k l m o p),K sb->K fb->(∀b,Kold b->K b)->(∀b,K b->b<w.heap.size)->(∀b,K b->b≠Wg)->WgLive 195 Wg w->Stood Wg ch sb fb sc Kold W₁ K w->N0<=w.heap.size->Run Tryz.prog true 195 Wg (Iv Tryz.prog 195 Wg ch (eQ 0 0 0) An HV (GN Wg ch sb fb N0 sc Kold W₁ CS) n) K (λ_=>False) (G ((base 74).at ⟨rF sb fb Wg n n y z B C h j k l m o p,[]⟩ [.code jB]) CS) w:=by
 intro K w y z B C h j k l m o p D q E L M F H u;have r:=IF (Wg:=Wg) (ch:=ch) (sb:=sb) (fb:=fb) (N0:=N0) (HV:=HV) (CS:=CS) (sc:=sc) (Kold:=Kold) (W₁:=W₁) I t n [] (by simp);simp only[AT,zi,nY,jB,wS,Tryz.f74,tW,rF]at r⊢;refine Run.still rfl (λ_=>stepG_seq) ?_;refine Run.still rfl (λ_=>stepG_region) ?_;simp only[RS,Rs,RF,Nat.reduceAdd,RB,List.range,List.range.loop];refine Run.pure (.func (.func 126) #[] #[ptr Wg,ptr fb]) rfl rfl (by k_ne) (λ_=>by go_simp) (λ_=>by simp[go_sem]) ?_
 walk_nrm
 refine .stop λw₁ d=>⟨rfl,_,_,λb=>b=fb,GL rfl rfl (by k_ne) rfl rfl,rfl,rfl,λb e=>by rw[e];exact q,f w₁ (d.live F) ((d.keep fb q).trans H.fb_),?_⟩
 have s:Stood Wg ch sb fb sc Kold W₁ K w₁:=H.mono D q E d.keep;have x:=d.live F
 walk_nrm
 refine Run.still rfl (λ_=>stepG_region_end) ?_;refine Run.still rfl (λ_=>stepG_seq) ?_;refine Run.still rfl (λ_=>stepG_region) ?_;simp only[RS,Rs,RF,Nat.reduceAdd,RB,List.range,List.range.loop];refine Run.pure (.slice none 0 0) rfl rfl (by k_ne) (λ_=>rfl) (λ_=>rfl) ?_
 walk_nrm
 refine Run.still rfl (λ_=>stepG_region_end) ?_;refine Run.still rfl (λ_=>stepG_seq) ?_;refine Run.still rfl (λ_=>stepG_seq) ?_;refine Run.still rfl (λ_=>stepG_region) ?_;simp only[RS,Rs,RF,Nat.reduceAdd,RB,List.range,List.range.loop];refine Run.Dh (A:=⟨fb,0,none⟩) (v:=.chan (some ch)) rfl rfl (by k_ne) rfl rfl rfl Tryz.underlying185 rfl q (by simp[World.cell?,s.fb_]) ?_
 walk_nrm
 refine Run.still rfl (λ_=>stepG_region_end) ?_;refine Run.still rfl (λ_=>stepG_block) ?_;refine Run.still rfl (λ_=>stepG_loop) ?_;refine r K (λ_=>False) w₁ _ _ _ _ _ _ _ _ _ _ _ _ _ _ _ _ _ _ _ _ _ _ _ ⟨D,q,E,λb N=>Ru (L b N) d.size,M,x,s,⟨rfl,.inl ⟨rfl,rfl⟩⟩,(λg O=>by cases O),Rr u d.size,J⟩
end
def Nd:(Tryz.prog.info? 185).map (·.size)=some 1:=by kernel_rfl
noncomputable def KU:Code:=Tryz.f74.body.getD .skip
noncomputable def oa:Array Oper:=match Tryz.f74.body with|some (.seq _ (.seq (.region _ ops _) _))=>ops|_=>#[]
noncomputable def ga:Code:=match Tryz.f74.body with|some (.seq _ (.seq _ c))=>c|_=>.skip
noncomputable def oc:Array Oper:=match ga with| .seq (.region _ ops _) _=>ops|_=>#[]
noncomputable def kT:Code:=match ga with| .seq _ c=>c|_=>.skip
section
variable {CS:List Frame} {sc:Array Value} {K M:Nat->Prop} {w:World}
noncomputable def qj(sb:Nat)(a b c d:Value):Array Value:=#[a,ptr sb,.slice none 0 0,b,c,undef,undef,undef,d,undef,undef,undef,undef,undef,undef,undef,undef,undef,undef,undef,undef,undef,undef,undef,undef,undef,undef,undef,undef,undef,undef,undef]
def Qw(j:∀b,K b->b<w.heap.size):Run Tryz.prog true 195 0 (λh o g w'=>∃sb,w.heap.size<=sb/\w'.heap[sb]? =some (.cells sc 125 (0,0))/\h sb/\(∀b,h b->K b\/b=sb)/\g=G ((base 74).at ⟨qj sb (.agg sc) undef undef undef,[]⟩ [.inRegion oa [0,1,2],.code ga]) CS)
 K M (G (Frame.enter Tryz.prog 74 #[.agg sc] .normal) CS) w:=by
 rw[enter_at (c:=KU) #[.agg sc] Tryz.func74 rfl]
 walk_nrmf Tryz.f74
 simp only[KU,Tryz.f74,Te,oa,ga,qj];refine Run.still rfl (λ_=>stepG_seq) ?_;refine Run.still rfl (λ_=>stepG_region) ?_;simp only[RS,Rs,RF,Nat.reduceAdd,RB,List.range,List.range.loop];refine Run.fresh (ob:=.cells sc 125 (0,0)) (λm=>.pointer (some ⟨m,0,none⟩)) rfl rfl (by k_ne) (λa=>by go_simp) (λa=>by simp[go_sem, *]) (λm w2 k i d l f=>?_) j
 walk_nrm
 refine Run.pure (.slice none 0 0) rfl rfl (by k_ne) (λ_=>rfl) (λ_=>rfl) ?_
 walk_nrm
 refine Run.still rfl (λ_=>stepG_region_end) ?_;refine Run.still rfl (λ_=>stepG_seq) ?_;refine Run.still rfl (λ_=>stepG_region) ?_;simp only[RS,Rs,RF,Nat.reduceAdd,RB,List.range,List.range.loop];exact .stop λa e=>⟨m,k,(e.keep m (.inr rfl)).trans d,.inr rfl,λb n=>n,rfl⟩
def FH(a):(Instr.makeChan 185 (.int .i64 0)).run Tryz.prog a=.ok (.chan (some a.heap.size)) (a.alloc (.chan 0 #[] false 0 0 false)):=by obtain⟨i,b,_⟩:=mH;have:=run_makeChan (P:=Tryz.prog) (w:=a) Tryz.underlying185 b .i64 0 (by omega) (by omega);simpa using this
def ya(a es):(Instr.makeChan 185 (.int .i64 0)).events Tryz.prog a es=es:=by obtain⟨i,b,_⟩:=mH;have:=events_makeChan (P:=Tryz.prog) (w:=a) Tryz.underlying185 b .i64 0 (by omega) (by omega) es;simpa using this
def KV(sb a):stepG Tryz.prog true (G ((base 74).at ⟨qj sb (.agg sc) undef undef undef,[]⟩ [.inRegion oa [0,1,2],.code ga]) CS) a=
 .go (G ((base 74).at ⟨qj sb (.agg sc) undef undef (.chan (some a.heap.size)),[]⟩ [.inRegion oa [1,2],.code ga]) CS) {a with heap:=a.heap.push (.chan 0 #[] false 0 0 false)} #[]:=by
 simp only[oa,ga,Tryz.f74,qj];rw[stepG_value (v:=.chan (some a.heap.size)) (w':={a with heap:=a.heap.push (.chan 0 #[] false 0 0 false)}) rfl rfl (by k_ne) (by simp[go_sem,FH])];simp[listed,go_sem,seen,ya]
def Qx{sb ch}(l:∀b,K b->b<w.heap.size)(r:0<w.heap.size):Run Tryz.prog true 195 0 (λj s g w'=>∃fb,w.heap.size<=fb/\w'.heap[fb]? =some (.cells #[.chan (some ch)] 185 (0,0))/\j fb/\(∀b,j b->K b\/b=fb)/\g=G ((base 74).at ⟨qj sb (.agg sc) (ptr fb) undef (.chan (some ch)),[]⟩ [.inRegion oc [0],.code kT]) CS)
 K M (G ((base 74).at ⟨qj sb (.agg sc) undef undef (.chan (some ch)),[]⟩ [.inRegion oa [1,2],.code ga]) CS) w:=by
 simp only[oa,oc,kT,ga,Tryz.f74,qj];refine Run.fresh (ob:=.cells #[.chan none] 185 (0,0)) (λm=>.pointer (some ⟨m,0,none⟩)) rfl rfl (by k_ne) (λa=>by go_simp) (λa=>by simp[go_sem, *]) (λm w2 n k d o h=>?_) l
 walk_nrm
 refine Run.store (cells:=#[.chan (some ch)]) rfl rfl (by k_ne) rfl rfl rfl d Nd rfl (by simp[Value.oneCell']) (.inr rfl) (.inr rfl) (by omega) (λw3 i c p f=>?_)
 walk_nrm
 refine Run.still rfl (λ_=>stepG_region_end) ?_;refine Run.still rfl (λ_=>stepG_seq) ?_;refine Run.still rfl (λ_=>stepG_region) ?_;simp only[RS,Rs,RF,Nat.reduceAdd,RB,List.range,List.range.loop];exact .stop λa e=>⟨m,n,(e.keep m (.inr rfl)).trans c,.inr rfl,λb q=>q,rfl⟩
def IH{sb ch fb}(a):stepG Tryz.prog true (G ((base 74).at ⟨qj sb (.agg sc) (ptr fb) undef (.chan (some ch)),[]⟩ [.inRegion oc [0],.code kT]) CS) a=
 .go (G ((base 74).at ⟨qj sb (.agg sc) (ptr fb) (ptr a.heap.size) (.chan (some ch)),[]⟩ [.inRegion oc [],.code kT]) CS) {a with heap:=a.heap.push (.cells #[.int .u64 0,.int .u32 0] 195)} #[]:=by
 simp only[oc,kT,ga,Tryz.f74,qj];rw[stepG_value (v:=ptr a.heap.size) (w':={a with heap:=a.heap.push (.cells #[.int .u64 0,.int .u32 0] 195)}) rfl rfl (by k_ne) (by go_simp)];simp[listed,go_sem,seen];rfl
def Qy{sb ch fb Wg n a b}(c:sc[9]? =some (.slice b n a))(d:K sb)(hsb:w.heap[sb]? =some (.cells sc 125 (0,0))):Run Tryz.prog true 195 0 (λi k g w'=>∃j e,i=K/\g=G ((base 74).at ⟨rF sb fb Wg n 0 (.agg sc) undef (.chan (some ch)) j e (.slice b n a) undef undef undef undef undef,[]⟩ [.code mP,.inLoop mP,.inBlock 0,.code jB]) CS)
 K M (G ((base 74).at ⟨qj sb (.agg sc) (ptr fb) (ptr Wg) (.chan (some ch)),[]⟩ [.inRegion oc [],.code kT]) CS) w:=by
 simp only[oc,kT,ga,mP,jB,Tryz.f74,qj,rF];refine Run.still rfl (λ_=>stepG_region_end) ?_;refine Run.still rfl (λ_=>stepG_seq) ?_;refine Run.still rfl (λ_=>stepG_seq) ?_;refine Run.still rfl (λ_=>stepG_region) ?_;simp only[RS,Rs,RF,Nat.reduceAdd,RB,List.range,List.range.loop];refine Run.pure (ptr sb) rfl rfl (by k_ne) (λ_=>by go_simp) (λ_=>by simp[go_sem]) ?_
 walk_nrm
 refine Run.pure (.pointer (some ⟨sb,9,none⟩)) rfl rfl (by k_ne) (λ_=>by go_simp) (λ_=>by simp[go_sem]) ?_
 walk_nrm
 refine Run.Dh (A:=⟨sb,9,none⟩) (v:=.slice b n a) rfl rfl (by k_ne) rfl rfl rfl Tryz.underlying58 rfl d (by simp[World.cell?,hsb,c]) ?_
 walk_nrm
 refine Run.pure (.int .i64 n) rfl rfl (by k_ne) (λ_=>by go_simp) (λ_=>by simp[go_sem]) ?_
 walk_nrm
 refine Run.pure (.int .i64 0) rfl rfl (by k_ne) (λ_=>rfl) (λ_=>rfl) ?_
 walk_nrm
 refine Run.still rfl (λ_=>stepG_region_end) ?_;refine Run.still rfl (λ_=>stepG_block) ?_;refine Run.still rfl (λ_=>stepG_loop) ?_;exact .stop λf h=>⟨_,_,rfl,rfl⟩
def gO{P a b m m1 t t1}(h:runNT P a m t=(.next m1,t1)):runNT P (a+b) m t=runNT P b m1 t1:=by rw[runNT_add,h]
structure Pro(Shun:Loc->Prop)(K:Nat->Prop)(CS:List Frame)(sc:Array Value)(aM:Option Addr)(n cM:Nat)(w:World)(ng:Nat)(t:Trace)(gs':Array Goroutine)(w':World)(t':Trace)(sb ch fb Wg:Nat):Prop where
 size:gs'.size=ng
 tr:∃u,t'=t++u/\Tch 0 (λb=>K b\/b=sb\/b=fb) u
 bes:∃x9 x10,Bes Tryz.prog Shun gs' w' t' (G ((base 74).at ⟨rF sb fb Wg n 0 (.agg sc) undef (.chan (some ch)) x9 x10 (.slice aM n cM) undef undef undef undef undef,[]⟩ [.code mP,.inLoop mP,.inBlock 0,.code jB]) CS)
 ord:w.heap.size<=sb/\sb<ch/\ch<fb/\fb<Wg/\Wg<w'.heap.size
 hsb:w'.heap[sb]? =some (.cells sc 125 (0,0))
 hch:w'.heap[ch]? =some (.chan 0 #[] false 0 0 false)
 hfb:w'.heap[fb]? =some (.cells #[.chan (some ch)] 185 (0,0))
 hwg:w'.heap[Wg]? =some (.cells #[.int .u64 0,.int .u32 0] 195)
 os:w'.os=w.os
 tape:w'.tape=w.tape
 output:w'.output=w.output
 old:∀b,b<w.heap.size->w'.heap[b]? =w.heap[b]?
def Ds{w:World}{d:Nat}{ob:Obj}{b:Nat}(h:b<w.heap.size):({w.at d with heap:=w.heap.push ob}:World).heap[b]? =w.heap[b]? :=by show(w.heap.push ob)[b]? =_;rw[SD,Ro (by omega)]
def Dt{w:World}{d:Nat}{ob:Obj}:({w.at d with heap:=w.heap.push ob}:World).heap[w.heap.size]? =some ob:=by show(w.heap.push ob)[w.heap.size]? =_;simp
def zn{w:World}{d:Nat}{ob:Obj}:({w.at d with heap:=w.heap.push ob}:World).heap.size=w.heap.size+1:=by simp
def KW{Shun:Loc->Prop}{ShB:Nat->Prop}(h:∀l,Shun l->∃b,blk l=some b/\ShB b){n X Y}(F:sc[9]? =some (.slice Y n X))
 (i:∀b,K b->b<w.heap.size/\¬ShB b) (j:∀b,ShB b->b<w.heap.size) (h0:0<w.heap.size) (D) (sl) (t)
 (a:Bes Tryz.prog Shun D w t (G (Frame.enter Tryz.prog 74 #[.agg sc] .normal) CS)):
 ∃N gs' w' H Z sb ch fb Wg,runNT Tryz.prog N (crowd D w sl) t=(.next (crowd gs' w' H),Z)/\Pro Shun K CS sc Y n X w D.size t gs' w' Z sb ch fb Wg:=by
 obtain⟨N1,k,w1,o,t1,r1,b1⟩:=mN h (Qw (CS:=CS) (sc:=sc) (M:=λ_=>False) (λb a=>(i b a).1)) D sl t a i j h0;obtain⟨g1,K1,M1,u1,⟨s1,⟨q1,l1⟩,p1,f1⟩,⟨sb,aa,p,q,r,rfl⟩,e1,I,af,ag,J,ak,al⟩:=b1.at_;have s:=(J sb q).1;obtain⟨N2,L,d2,O,t2,u2,r2,z2,e2,n2,s2⟩:=wK (w:=w1) (g':=λm=>G ((base 74).at ⟨qj sb (.agg sc) undef undef (.chan (some m)),[]⟩ [.inRegion oa [1,2],.code ga]) CS) rfl (KV sb) _ w1.drawn k o t1 q1 (Rq _) s1 l1 p1 f1;generalize c:({w1.at d2 with heap:=w1.heap.push (.chan 0 #[] false 0 0 false)}:World)=w2 at r2 s2;have an:w2.heap.size=w1.heap.size+1:=by rw[<-c];exact zn
 have o2:∀b,b<w1.heap.size->w2.heap[b]? =w1.heap[b]? :=λb a=>by rw[<-c];exact Ds a
 have c2:w2.heap[w1.heap.size]? =some (.chan 0 #[] false 0 0 false):=by rw[<-c];exact Dt
 have ao:=b1.grown;obtain⟨N3,u,w3,v,t3,r3,g⟩:=mN h (Qx (CS:=CS) (sc:=sc) (sb:=sb) (ch:=w1.heap.size) (w:=w2) (K:=λb=>K b\/b=sb) (M:=λ_=>False) (λb a=>a.elim (λx=>by have:=(i b x).1;omega) λx=>by omega) (by omega)) L O t2 s2
  (λb a=>a.elim (λx=>⟨by have:=(i b x).1;omega,(i b x).2⟩) λx=>⟨by omega,λy=>by have:=j b y;omega⟩) (λb a=>by have:=j b a;omega) (by omega)
 obtain⟨g3,K3,M3,u3,⟨s3,⟨q3,l3⟩,p3,f3⟩,⟨fb,ab,z,A,B,rfl⟩,e3,P,ar,ax,Q,ay,a1⟩:=g.at_;have ad:=(Q fb A).1;have a6:=g.grown;obtain⟨N4,R,d4,S,t4,u4,r4,z4,e4,n4,s4⟩:=wK (w:=w3) (g':=λm=>G ((base 74).at ⟨qj sb (.agg sc) (ptr fb) (ptr m) (.chan (some w1.heap.size)),[]⟩ [.inRegion oc [],.code kT]) CS) rfl IH _ w3.drawn u v t3 q3 (Rq _) s3 l3 p3 f3;generalize d:({w3.at d4 with heap:=w3.heap.push (.cells #[.int .u64 0,.int .u32 0] 195)}:World)=w4 at r4 s4;have a7:w4.heap.size=w3.heap.size+1:=by rw[<-d];exact zn
 have E:∀b,b<w3.heap.size->w4.heap[b]? =w3.heap[b]? :=λb a=>by rw[<-d];exact Ds a
 have c4:w4.heap[w3.heap.size]? =some (.cells #[.int .u64 0,.int .u32 0] 195):=by rw[<-d];exact Dt
 have e:w4.heap[sb]? =some (.cells sc 125 (0,0)):=by rw[E sb (by omega),g.keep sb (by omega) id,o2 sb s,p]
 obtain⟨N5,T,w5,U,t5,r5,f⟩:=mN h (Qy (CS:=CS) (sc:=sc) (sb:=sb) (fb:=fb) (ch:=w1.heap.size) (Wg:=w3.heap.size) (w:=w4) (K:=λb=>K b\/b=sb\/b=fb) (M:=λ_=>False) F (.inr (.inl rfl)) e) R S t4 s4
  (λb a=>a.elim (λx=>⟨by have:=(i b x).1;omega,(i b x).2⟩) λx=>⟨by omega,λy=>by have:=j b y;omega⟩) (λb a=>by have:=j b a;omega) (by omega)
 obtain⟨g5,K5,M5,u5,C,⟨x9,V,rfl,rfl⟩,e5,W,a8,ba,bb,bd,bk⟩:=f.at_;have bm:=f.grown;refine⟨N1+(N2+(N3+(N4+N5))),T,w5,U,t5,sb,w1.heap.size,fb,w3.heap.size,?_,⟨?_,⟨u1++(u2++(u3++(u4++u5))),?_,?_⟩,⟨x9,V,C⟩,by omega,?_,?_,?_,?_,?_,?_,?_,λb a=>?_⟩⟩
 ·rw[gO r1,gO (show runNT Tryz.prog N2 (crowd k w1 o) t1=_ from r2),gO r3,gO (show runNT Tryz.prog N4 (crowd u w3 v) t3=_ from r4)]
  exact r5
 ·rw[f.size,z4,g.size,z2,b1.size]
 ·rw[e5,e4,e3,e2,e1];simp only[SP]
 ·refine I.app ?_ λb a=>(r b a).elim .inl λx=>.inr (.inl x)
  refine(wJ n2 (K:=λb=>K b\/b=sb\/b=fb)).app ?_ λb a=>a;refine P.app ?_ λb a=>(B b a).elim (λx=>x.elim .inl λy=>.inr (.inl y)) λx=>.inr (.inr x);exact(wJ n4 (K:=λb=>K b\/b=sb\/b=fb)).app W λb a=>a
 ·rw[f.keep sb (by omega) id,e]
 ·rw[f.keep _ (by omega) id,E _ (by omega),g.keep _ (by omega) id,c2]
 ·rw[f.keep fb (by omega) id,E _ (by omega),z]
 ·rw[f.keep _ (by omega) id,c4]
 ·rw[f.os,<-d];show w3.os=_;rw[g.os,<-c];exact b1.os
 ·rw[f.tape,<-d];show w3.tape=_;rw[g.tape,<-c];exact b1.tape
 ·rw[f.output,<-d];show w3.output=_;rw[g.output,<-c];exact b1.output
 ·rw[f.keep b (by omega) id,E _ (by omega),g.keep _ (by omega) id,o2 _ (by omega),b1.keep b a id]
end
end Go.Tm
namespace Go.Tm
open Go.Proofs Go.Conc Go.ConcN Go.Conc.Lib Go.ConcR.Gen Go.ConcN.Gen
def Qu:(Tryz.f128.name== "runtime.NumGoroutine")=false:=by kernel_rfl
def Qv:Tryz.f128.body.isNone=false:=by kernel_rfl
section
variable {Wg ch sb fb N0:Nat} {C:Frame} {CS:List Frame} {sc:Array Value} {Kold:Nat->Prop} {W₁:World}
def KT{K M w g l}(n:GN Wg ch sb fb N0 sc Kold W₁ (C::CS) l K M g w){Ps:(Nat->Prop)->(Nat->Prop)->Value->World->Prop}
 (i:(Tryz.prog.info? 125).map (·.size)=some sc.size)
 (d:∀(Q) (m) (w') h,nZ Wg ch sb fb N0 sc Kold W₁ K M w' h l->(∀b c e V,Ps b c V e->Run Tryz.prog true 195 Wg Q b c (G (m.finish V) (C::CS)) e)->Run Tryz.prog true 195 Wg Q K M (G (Frame.enter Tryz.prog 128 #[h,.func (.func 129) #[.agg sc] #[]] .normal) (m::C::CS)) w')
 (j:∀b c V w' a,RK 195 Wg b w' a->Ps b c V w'->Ps b c V a):
 Run Tryz.prog true 195 Wg (λb c g' w'=>∃V,g'=G (C.finish V) CS/\Ps b c V w') K M g w:=by
 obtain⟨N,O,h,P,R,S,o,p,q,r,s,u,x,y,z,A,B,D,E,F,H,I,J,rfl,k⟩:=n;change Run _ _ _ _ _ _ _ (Conc.served (G ((base 74).at _ (.inRegion AT (0::[1])::[.code zi,.inLoop nY,.inBlock 2,.code wS])) (C::CS)) _) _;rw[te];simp only[AT,zi,nY,jB,wS,Tryz.f74,tW]
 walk_nrm
 refine Run.pure (.bool false) rfl rfl (by k_ne) (λ_=>rfl) (λ_=>rfl) ?_
 walk_nrm
 refine Run.still rfl (λ_=>stepG_region_end) ?_;refine Run.still rfl (λ_=>stepG_seq) ?_;refine Run.still rfl (λ_=>stepG_cond (t:=false) rfl) ?_;simp only[RQ,↓reduceIte];refine Run.still rfl (λ_=>stepG_exit rfl) ?_;refine Run.still rfl (λ_=>stepG_seq) ?_;refine Run.still rfl (λ_=>stepG_region) ?_;simp only[RS,Rs,RF,Nat.reduceAdd,RB,List.range,List.range.loop];refine Run.pure h rfl rfl (by k_ne) (λ_=>rfl) (λ_=>rfl) ?_
 walk_nrm
 refine Run.rE rfl rfl (by k_ne) rfl rfl Tryz.underlying125 rfl k.ksb k.st.sb_ i ?_
 walk_nrm
 refine Run.pure (.func (.func 129) #[.agg sc] #[]) rfl rfl (by k_ne) (λ_=>by go_simp) (λ_=>by simp[go_sem]) ?_
 walk_nrm
 refine Run.still rfl (λ_=>td rfl rfl (by k_ne) rfl Tryz.func128 Qu Qv) ?_
 walk_nrm
 refine d _ _ _ _ k λb c w' V L=>?_;rw[Frame.finish_at]
 walk_nrm
 refine Run.pure V rfl rfl (by k_ne) (λ_=>rfl) (λ_=>rfl) ?_
 walk_nrm
 refine Run.still rfl (λ_=>stepG_region_end) ?_;refine Run.still rfl (λ_=>stepG_ret') ?_;refine Run.still rfl (λa=>stepG_leave (v:=V) rfl rfl Tryz.func74 (results_tmp (t:=2) rfl _ _ _) (events_results_tmp (t:=2) rfl _ _)) ?_;exact .stop λa f=>⟨V,rfl,j _ _ _ _ _ f L⟩
end
end Go.Tm

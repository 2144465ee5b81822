import Derived.Conc.SmallLaws
import Derived.Test.YtaglpcmhopjebaaGreatDoorQ16
set_option linter.all false
set_option maxRecDepth 100000
set_option maxHeartbeats 20000000
namespace Go.Tm
open Go.Proofs Go.Conc Go.ConcN Go.Conc.Lib Go.ConcR.Gen Go.ConcN.Gen
open Go.ConcR (KK WgAt stA smA rd wr mk DC0)
noncomputable def oe:Code:=match jE with| .seq _ (.seq _ (.seq (.seq _ (.block _ (.loop c))) _))=>c|_=>.skip
noncomputable def xa:Code:=match jE with| .seq _ (.seq _ (.seq _ c))=>c|_=>.skip
noncomputable def Bd:Array Oper:=match oe with| .seq (.region _ ops _) _=>ops|_=>#[]
noncomputable def zu:Code:=match oe with| .seq _ c=>c|_=>.skip
def eR(a b c:Int):Value:=.agg #[.int .i64 a,.int .i64 b,.int .i64 c]
def jW:List Value:=[.int .i64 0,.int .i64 0,.int .i64 0]
def bq(a:List Value):List Value:=a.flatMap λv=>v.cells.toList
section
variable {Wg ch sb fb n N0:Nat} {An:aJ} {HV:Nat->Option Value} {CS:List Frame} {sc:Array Value} {Kold:Nat->Prop} {W₁:World}
noncomputable def tV(sb fb Wg ch:Nat)(s t u v w x a b c d e f g h i j k l m o p q r:Value):Array Value:=#[s,ptr sb,.slice none 0 0,ptr fb,ptr Wg,t,u,v,w,x,a,b,c,d,e,f,g,h,i,j,.chan (some ch),k,l,m,o,p,q,r,undef,undef,undef,undef]
structure og(Wg ch sb fb N0:Nat)(sc:Array Value)(Kold:Nat->Prop)(W₁:World)(K M:Nat->Prop)(w:World)(v6:Value)(hs:List Value):Prop where
 ksb:K sb
 kfb:K fb
 LP:∀b,Kold b->K b
 kl:∀b,K b->b<w.heap.size
 kw:∀b,K b->b≠Wg
 live:WgLive 195 Wg w
 st:Stood Wg ch sb fb sc Kold W₁ K w
 row:lh w N0 66 jW v6 hs.length (bq hs)
 own:∀g,v6.ownBlock=some g->K g/\M g/\g≠Wg/\g≠sb/\g≠fb/\¬Kold g
 base:N0<=w.heap.size
 Pj:sb<N0/\fb<N0/\∀b,Kold b->b<N0
def Hq(Wg ch sb fb N0:Nat)(sc:Array Value)(Kold:Nat->Prop)(W₁:World)(CS:List Frame)(u:List Value):aJ:=λK M g w=>
 ∃v x t y z A a b c d e f h i j k l m o p q r s:Value,
  g=Conc.served (G ((base 74).at ⟨tV sb fb Wg ch v x t y z A a b c d e f h i j k l m o p q r s,[]⟩ [.inRegion Bd [0,1],.code zu,.inLoop oe,.inBlock 2,.code xa]) CS) (.tuple #[eR 0 0 0,.bool false])/\
  og Wg ch sb fb N0 sc Kold W₁ K M w t u
def og.rely{K M w a c hs}(h:og Wg ch sb fb N0 sc Kold W₁ K M w c hs)(r:RK 195 Wg K w a):og Wg ch sb fb N0 sc Kold W₁ K M a c hs:=⟨h.ksb,h.kfb,h.LP,λb d=>R6 (h.kl b d) r.size,h.kw,r.live h.live,h.st.mono h.ksb h.kfb h.LP r.keep,h.row.keep λg e=>r.keep g (h.own g e).1,h.own,R3 h.base r.size,h.Pj⟩
def N6:(Tryz.prog.info? 66).map (λi=>(i.zero,i.size,i.bytes))=some (some (eR 0 0 0),3,24):=by kernel_rfl
def mQ:∃i,Tryz.prog.info? 66=some i/\i.zero=some (eR 0 0 0)/\i.size=3/\i.bytes=24:=by obtain⟨i,b,a⟩:=SH.1 N6;simp only[U4]at a;exact⟨i,b,a.1,a.2.1,a.2.2⟩
def zv{u v x y z A a b c d e f g h j l m o p q r s t:Value}{k:List Item}{w:World}:
 stepG Tryz.prog true (G ((base 74).at ⟨tV sb fb Wg ch u v x y z A a b c d e f g h j l m o p q r s t,[]⟩ (.inRegion Bd (0::[1])::k)) CS) w=
  .comm {G ((base 74).at ⟨tV sb fb Wg ch u v x y z A a b c d e f g h j l m o p q r s t,[]⟩ (.inRegion Bd (0::[1])::k)) CS with offers:=none} #[rcase ch (eR 0 0 0)] true (.recv true) w #[]:=by
 obtain⟨i,B,C,_⟩:=mQ;have D:(zeroValue 66).run Tryz.prog w=.ok (eR 0 0 0) w:=by simp[zeroValue,typeInfo,B,C]
 simp only[Bd,oe,jE,Tryz.f74,tV];rw[stepG_comm (cases:=#[rcase ch (eR 0 0 0)]) (blocking:=true) (shape:=.recv true) (w':=w) rfl rfl (by k_ne) (by simp[go_sem,rcase,D])];simp[listed,go_sem,seen];rfl
def Ji(hn:n<2147483647)(bb:∀i v,i<n->HV i=some v->∃a b c,v=eR a b c):
 ∀(r) (s),r+s.length<=n->∀(K M) (w) (x0 x5 V x7 x8 x9 y A B C D E F H I J L N O P Q R S),og Wg ch sb fb N0 sc Kold W₁ K M w V s->Run Tryz.prog true 195 Wg (nZ Tryz.prog 195 Wg ch (eR 0 0 0) HV (Hq Wg ch sb fb N0 sc Kold W₁ CS) n r s) K M (G ((base 74).at ⟨tV sb fb Wg ch x0 x5 V x7 x8 x9 y A B C D E F H I J L N O P Q R S,[]⟩ [.code oe,.inLoop oe,.inBlock 2,.code xa]) CS) w:=by
 intro r;induction r with
 |zero=>
  intro s hr K M w x0 x5 V x7 x8 x9 y A B C D E F H I J L N O P Q R S hA;refine Run.still rfl (λ_=>stepG_seq) ?_;refine Run.still rfl (λ_=>stepG_region) ?_;refine .stop λd q=>⟨rfl,?_,?_⟩
  ·exact zv
  ·exact⟨x0,x5,V,x7,x8,x9,y,A,B,C,D,E,F,H,I,J,L,N,O,P,Q,R,S,rfl,hA.rely q⟩
 |succ r ih=>
  intro s hr K M w x0 x5 V x7 x8 x9 y A B C D E F H I J L N O P Q R S hA;refine Run.still rfl (λ_=>stepG_seq) ?_;refine Run.still rfl (λ_=>stepG_region) ?_;refine .stop λd q=>⟨rfl,?_,?_,?_⟩
  ·exact zv
  ·exact⟨x0,x5,V,x7,x8,x9,y,A,B,C,D,E,F,H,I,J,L,N,O,P,Q,R,S,rfl,hA.rely q⟩
  ·intro i v hi hv
   obtain⟨W,X,Y,rfl⟩:=bb i v hi hv;have f:=hA.rely q;have aM:=ih (s++[eR W X Y]) (by simp;omega);change Run _ _ _ _ _ _ _ (Conc.served (G ((base 74).at _ (.inRegion Bd (0::[1])::[.code zu,.inLoop oe,.inBlock 2,.code xa])) CS) _) _;rw[sZ];simp only[Bd,zu,oe,jE,xa,Tryz.f74,tV]at aM⊢
   walk_nrm
   refine Run.pure (.bool true) rfl rfl (by k_ne) (λ_=>rfl) (λ_=>rfl) ?_
   walk_nrm
   refine Run.still rfl (λ_=>stepG_region_end) ?_;refine Run.still rfl (λ_=>stepG_seq) ?_;refine Run.still rfl (λ_=>stepG_cond (t:=true) rfl) ?_;simp only[↓reduceIte];refine Run.still rfl (λ_=>stepG_skip) ?_;refine Run.still rfl (λ_=>stepG_block) ?_;refine Run.still rfl (λ_=>stepG_seq) ?_;refine Run.still rfl (λ_=>stepG_region) ?_;simp only[Su,R4,Sl,Nat.reduceAdd,Se,List.range,List.range.loop];refine Run.pure (eR W X Y) rfl rfl (by k_ne) (λ_=>rfl) (λ_=>rfl) ?_
   walk_nrm
   refine Run.fresh (ob:=.cells #[.int .i64 0,.int .i64 0,.int .i64 0] 66 (0,0)) (λm=>.pointer (some ⟨m,0,none⟩)) rfl rfl (by k_ne) (λd=>by go_simp) (λd=>by simp[go_sem, *]) (λm w2 hm a1 a6 b1 af=>?_) f.kl;have a7:m≠Wg:=λe=>by obtain⟨st,sm,h⟩:=f.live;have:=(R7.1 (show d.heap[Wg]? =some _ from h)).1;omega
   have bk:∀b,K b->b≠m:=λb k e=>by have:=f.kl b k;omega
   walk_nrm
   refine Run.store (cells:=#[.int .i64 W,.int .i64 X,.int .i64 Y]) rfl rfl (by k_ne) rfl rfl rfl a6 A5 rfl (by simp[Value.oneCell']) (.inr rfl) (.inr rfl) a7 (λw3 ag ak b2 Z=>?_)
   walk_nrm
   refine Run.still rfl (λ_=>stepG_region_end) ?_;refine Run.still rfl (λ_=>stepG_region) ?_;simp only[Su,R4,Sl,Nat.reduceAdd,Se,List.range,List.range.loop];refine Run.pure V rfl rfl (by k_ne) (λ_=>rfl) (λ_=>rfl) ?_
   walk_nrm
   refine Run.rE rfl rfl (by k_ne) rfl rfl Tryz.underlying66 rfl (.inr rfl) ak A5 ?_
   walk_nrm
   refine Run.fresh (ob:=.cells #[.int .i64 W,.int .i64 X,.int .i64 Y] 66 (0,0)) (λm=>.slice (some ⟨m,0,none⟩) 1 1) rfl rfl (by k_ne) (λd=>by go_simp) (λd=>by simp[go_sem, *]) (λm2 w4 b3 an o b4 aa=>?_) (λb k=>k.elim (λx=>by have:=f.kl b x;omega) λx=>by omega);have a8:m2≠Wg:=λe=>by obtain⟨st,sm,h⟩:=f.live;have:=(R7.1 (show d.heap[Wg]? =some _ from h)).1;omega
   have T:∀b,K b->w4.heap[b]? =d.heap[b]? :=λb k=>(an b (.inl k)).trans ((ag b (.inl k) (bk b k)).trans (a1 b k));have l:=aa (Z (af f.live));have ba:d.heap.size<=w4.heap.size:=by omega
   obtain⟨inf,bm,bo,br,bs⟩:=mQ
   walk_nrm
   refine Run.append (base:=N0) (e:=66) (inf:=inf) (z:=eR 0 0 0) (zc:=jW) (bytes:=24) (n:=s.length) (xs:=bq s) (news:=[.int .i64 W,.int .i64 X,.int .i64 Y]) (v:=V) (ad:=⟨m2,0,none⟩) (m:=1) (c:=1) (t:=62) rfl rfl (by k_ne) rfl rfl rfl Tryz.underlying62 bm bo (by rw[br];rfl) bs rfl (by simp[jW]) (f.row.keep λg U=>T g (f.own g U).1) (λg U=>?_) (.inr rfl) rfl ?_ (by simp[Value.oneCell']) ?_ ?_ (R3 f.base ba) (by omega) ?_ ?_ ?_
   ·have:=f.own g U;exact⟨.inl (.inl this.1),.inl (.inl this.2.1),this.2.2.1⟩
   ·intro j u hu
    match j,hu with
    |0,hu=>simpa[World.cell?,o,Addr.add]using hu
    |1,hu=>simpa[World.cell?,o,Addr.add]using hu
    |2,hu=>simpa[World.cell?,o,Addr.add]using hu
    |j+3,hu=>simp at hu
   ·simp only[maxLen];omega
   ·omega
   ·rintro b (k|rfl)
    ·have:=f.kl;obtain k|rfl:=k
     ·have:=f.kl b k;omega
     ·omega
    ·omega
   ·obtain⟨st,sm,h⟩:=l
    exact(R7.1 (show w4.heap[Wg]? =some _ from h)).1
   intro K' M' v' w5 ao ar ax bx ab ay bA bB b5 b6;have b7:Wg<w4.heap.size:=by obtain⟨st,sm,h⟩:=l;exact(R7.1 (show w4.heap[Wg]? =some _ from h)).1
   have bC:=R3 f.base ba;have p:∀b,K b->(∀g,V.ownBlock=some g->g≠b)->w5.heap[b]? =d.heap[b]? :=λb k b0=>(ax b (.inl (.inl k)) λe=>b0 b e.symm rfl).trans (T b k);have hR:og Wg ch sb fb N0 sc Kold W₁ K' M' w5 v' (s++[eR W X Y]):=by
    refine⟨ay sb (.inl (.inl f.ksb)),ay fb (.inl (.inl f.kfb)),λb k=>ay b (.inl (.inl (f.LP b k))),bB,λb k=>?_,ab l,⟨?_,?_,λb k=>?_⟩,?_,λg U=>?_,R3 bC bx,f.Pj⟩
    ·rcases bA b k with((x|rfl)|rfl)|x
     ·exact f.kw b x
     ·exact a7
     ·exact a8
     ·omega
    ·exact(p sb f.ksb λg U=>(f.own g U).2.2.2.1).trans f.st.sb_
    ·exact(p fb f.kfb λg U=>(f.own g U).2.2.2.2.1).trans f.st.fb_
    ·exact(p b (f.LP b k) λg U e=>(f.own g U).2.2.2.2.2 (e▸k)).trans (f.st.old b k)
    ·have e1:(s++[eR W X Y]).length=s.length+1:=by simp
     have e2:bq (s++[eR W X Y])=bq s++[.int .i64 W,.int .i64 X,.int .i64 Y]:=by simp[bq,eR,Value.cells]
     rw[e1,e2];exact ao
    ·obtain⟨g1,g2,g3,g4⟩:=ar g U
     refine⟨g1,g2,g3,?_⟩;obtain g4|g4:=g4
     ·exact(f.own g g4.symm).2.2.2
     ·have:=f.Pj
      exact⟨by omega,by omega,λx=>by have:=this.2.2 g x;omega⟩
   walk_nrm
   refine Run.pure v' rfl rfl (by k_ne) (λ_=>rfl) (λ_=>rfl) ?_
   walk_nrm
   refine Run.still rfl (λ_=>stepG_region_end) ?_;refine Run.still rfl (λ_=>stepG_inBlock) ?_;refine Run.still rfl (λ_=>stepG_inLoop) ?_;exact aM K' M' w5 _ _ _ _ _ _ _ _ _ _ _ _ _ _ _ _ _ _ _ _ _ _ _ hR
def Jj(I:n<2147483647)(t:∀i v,i<n->HV i=some v->∃a b c,v=eR a b c)(J:sb<N0/\fb<N0/\∀b,Kold b->b<N0)
 (f:∀w,WgLive 195 Wg w->w.heap[fb]? =some (.cells #[.chan (some ch)] 185 (0,0))->Run Tryz.prog false 195 Wg (SWd Tryz.prog 195 Wg ch An) (λb=>b=fb) (λ_=>False) (born Tryz.prog {target:=.fn (.func 126) #[ptr Wg,ptr fb],args:=#[]}) w):
 ∀(K) (w) (y z B C h j k l m o p),K sb->K fb->(∀b,Kold b->K b)->(∀b,K b->b<w.heap.size)->(∀b,K b->b≠Wg)->WgLive 195 Wg w->Stood Wg ch sb fb sc Kold W₁ K w->N0<=w.heap.size->Run Tryz.prog true 195 Wg (I8 Tryz.prog 195 Wg ch (eR 0 0 0) An HV (Hq Wg ch sb fb N0 sc Kold W₁ CS) n) K (λ_=>False) (G ((base 74).at ⟨rF sb fb Wg n n y z B C h j k l m o p,[]⟩ [.code jE]) CS) w:=by
 intro K w y z B C h j k l m o p D q E L M F H u;have r:=Ji (Wg:=Wg) (ch:=ch) (sb:=sb) (fb:=fb) (N0:=N0) (HV:=HV) (CS:=CS) (sc:=sc) (Kold:=Kold) (W₁:=W₁) I t n [] (by simp);simp only[Bd,zu,oe,jE,xa,Tryz.f74,tV,rF]at r⊢;refine Run.still rfl (λ_=>stepG_seq) ?_;refine Run.still rfl (λ_=>stepG_region) ?_;simp only[Su,R4,Sl,Nat.reduceAdd,Se,List.range,List.range.loop];refine Run.pure (.func (.func 126) #[] #[ptr Wg,ptr fb]) rfl rfl (by k_ne) (λ_=>by go_simp) (λ_=>by simp[go_sem]) ?_
 walk_nrm
 refine .stop λw₁ d=>⟨rfl,_,_,λb=>b=fb,Ho rfl rfl (by k_ne) rfl rfl,rfl,rfl,λb e=>by rw[e];exact q,f w₁ (d.live F) ((d.keep fb q).trans H.fb_),?_⟩
 have s:Stood Wg ch sb fb sc Kold W₁ K w₁:=H.mono D q E d.keep;have x:=d.live F
 walk_nrm
 refine Run.still rfl (λ_=>stepG_region_end) ?_;refine Run.still rfl (λ_=>stepG_seq) ?_;refine Run.still rfl (λ_=>stepG_region) ?_;simp only[Su,R4,Sl,Nat.reduceAdd,Se,List.range,List.range.loop];refine Run.pure (.slice none 0 0) rfl rfl (by k_ne) (λ_=>rfl) (λ_=>rfl) ?_
 walk_nrm
 refine Run.still rfl (λ_=>stepG_region_end) ?_;refine Run.still rfl (λ_=>stepG_seq) ?_;refine Run.still rfl (λ_=>stepG_seq) ?_;refine Run.still rfl (λ_=>stepG_region) ?_;simp only[Su,R4,Sl,Nat.reduceAdd,Se,List.range,List.range.loop];refine Run.DN (A:=⟨fb,0,none⟩) (v:=.chan (some ch)) rfl rfl (by k_ne) rfl rfl rfl Tryz.underlying185 rfl q (by simp[World.cell?,s.fb_]) ?_
 walk_nrm
 refine Run.still rfl (λ_=>stepG_region_end) ?_;refine Run.still rfl (λ_=>stepG_block) ?_;refine Run.still rfl (λ_=>stepG_loop) ?_;refine r K (λ_=>False) w₁ _ _ _ _ _ _ _ _ _ _ _ _ _ _ _ _ _ _ _ _ _ _ _ ⟨D,q,E,λb N=>R6 (L b N) d.size,M,x,s,⟨rfl,.inl ⟨rfl,rfl⟩⟩,(λg O=>by cases O),R3 u d.size,J⟩
end
def N7:(Tryz.prog.info? 185).map (·.size)=some 1:=by kernel_rfl
noncomputable def LS:Code:=Tryz.f74.body.getD .skip
noncomputable def oh:Array Oper:=match Tryz.f74.body with|some (.seq _ (.seq (.region _ ops _) _))=>ops|_=>#[]
noncomputable def fW:Code:=match Tryz.f74.body with|some (.seq _ (.seq _ c))=>c|_=>.skip
noncomputable def oq:Array Oper:=match fW with| .seq (.region _ ops _) _=>ops|_=>#[]
noncomputable def lj:Code:=match fW with| .seq _ c=>c|_=>.skip
section
variable {CS:List Frame} {sc:Array Value} {K M:Nat->Prop} {w:World}
noncomputable def ql(sb:Nat)(a b c d:Value):Array Value:=#[a,ptr sb,.slice none 0 0,b,c,undef,undef,undef,d,undef,undef,undef,undef,undef,undef,undef,undef,undef,undef,undef,undef,undef,undef,undef,undef,undef,undef,undef,undef,undef,undef,undef]
def Q5(j:∀b,K b->b<w.heap.size):Run Tryz.prog true 195 0 (λh o g w'=>∃sb,w.heap.size<=sb/\w'.heap[sb]? =some (.cells sc 125 (0,0))/\h sb/\(∀b,h b->K b\/b=sb)/\g=G ((base 74).at ⟨ql sb (.agg sc) undef undef undef,[]⟩ [.inRegion oh [0,1,2],.code fW]) CS)
 K M (G (Frame.enter Tryz.prog 74 #[.agg sc] .normal) CS) w:=by
 rw[enter_at (c:=LS) #[.agg sc] Tryz.func74 rfl]
 walk_nrmf Tryz.f74
 simp only[LS,Tryz.f74,TZ,oh,fW,ql];refine Run.still rfl (λ_=>stepG_seq) ?_;refine Run.still rfl (λ_=>stepG_region) ?_;simp only[Su,R4,Sl,Nat.reduceAdd,Se,List.range,List.range.loop];refine Run.fresh (ob:=.cells sc 125 (0,0)) (λm=>.pointer (some ⟨m,0,none⟩)) rfl rfl (by k_ne) (λa=>by go_simp) (λa=>by simp[go_sem, *]) (λm w2 k i d l f=>?_) j
 walk_nrm
 refine Run.pure (.slice none 0 0) rfl rfl (by k_ne) (λ_=>rfl) (λ_=>rfl) ?_
 walk_nrm
 refine Run.still rfl (λ_=>stepG_region_end) ?_;refine Run.still rfl (λ_=>stepG_seq) ?_;refine Run.still rfl (λ_=>stepG_region) ?_;simp only[Su,R4,Sl,Nat.reduceAdd,Se,List.range,List.range.loop];exact .stop λa e=>⟨m,k,(e.keep m (.inr rfl)).trans d,.inr rfl,λb n=>n,rfl⟩
def Gg(a):(Instr.makeChan 185 (.int .i64 0)).run Tryz.prog a=.ok (.chan (some a.heap.size)) (a.alloc (.chan 0 #[] false 0 0 false)):=by obtain⟨i,b,_⟩:=mQ;have:=run_makeChan (P:=Tryz.prog) (w:=a) Tryz.underlying185 b .i64 0 (by omega) (by omega);simpa using this
def ym(a es):(Instr.makeChan 185 (.int .i64 0)).events Tryz.prog a es=es:=by obtain⟨i,b,_⟩:=mQ;have:=events_makeChan (P:=Tryz.prog) (w:=a) Tryz.underlying185 b .i64 0 (by omega) (by omega) es;simpa using this
def LU(sb a):stepG Tryz.prog true (G ((base 74).at ⟨ql sb (.agg sc) undef undef undef,[]⟩ [.inRegion oh [0,1,2],.code fW]) CS) a=
 .go (G ((base 74).at ⟨ql sb (.agg sc) undef undef (.chan (some a.heap.size)),[]⟩ [.inRegion oh [1,2],.code fW]) CS) {a with heap:=a.heap.push (.chan 0 #[] false 0 0 false)} #[]:=by
 simp only[oh,fW,Tryz.f74,ql];rw[stepG_value (v:=.chan (some a.heap.size)) (w':={a with heap:=a.heap.push (.chan 0 #[] false 0 0 false)}) rfl rfl (by k_ne) (by simp[go_sem,Gg])];simp[listed,go_sem,seen,ym]
def Q6{sb ch}(l:∀b,K b->b<w.heap.size)(r:0<w.heap.size):Run Tryz.prog true 195 0 (λj s g w'=>∃fb,w.heap.size<=fb/\w'.heap[fb]? =some (.cells #[.chan (some ch)] 185 (0,0))/\j fb/\(∀b,j b->K b\/b=fb)/\g=G ((base 74).at ⟨ql sb (.agg sc) (ptr fb) undef (.chan (some ch)),[]⟩ [.inRegion oq [0],.code lj]) CS)
 K M (G ((base 74).at ⟨ql sb (.agg sc) undef undef (.chan (some ch)),[]⟩ [.inRegion oh [1,2],.code fW]) CS) w:=by
 simp only[oh,oq,lj,fW,Tryz.f74,ql];refine Run.fresh (ob:=.cells #[.chan none] 185 (0,0)) (λm=>.pointer (some ⟨m,0,none⟩)) rfl rfl (by k_ne) (λa=>by go_simp) (λa=>by simp[go_sem, *]) (λm w2 n k d o h=>?_) l
 walk_nrm
 refine Run.store (cells:=#[.chan (some ch)]) rfl rfl (by k_ne) rfl rfl rfl d N7 rfl (by simp[Value.oneCell']) (.inr rfl) (.inr rfl) (by omega) (λw3 i c p f=>?_)
 walk_nrm
 refine Run.still rfl (λ_=>stepG_region_end) ?_;refine Run.still rfl (λ_=>stepG_seq) ?_;refine Run.still rfl (λ_=>stepG_region) ?_;simp only[Su,R4,Sl,Nat.reduceAdd,Se,List.range,List.range.loop];exact .stop λa e=>⟨m,n,(e.keep m (.inr rfl)).trans c,.inr rfl,λb q=>q,rfl⟩
def Jk{sb ch fb}(a):stepG Tryz.prog true (G ((base 74).at ⟨ql sb (.agg sc) (ptr fb) undef (.chan (some ch)),[]⟩ [.inRegion oq [0],.code lj]) CS) a=
 .go (G ((base 74).at ⟨ql sb (.agg sc) (ptr fb) (ptr a.heap.size) (.chan (some ch)),[]⟩ [.inRegion oq [],.code lj]) CS) {a with heap:=a.heap.push (.cells #[.int .u64 0,.int .u32 0] 195)} #[]:=by
 simp only[oq,lj,fW,Tryz.f74,ql];rw[stepG_value (v:=ptr a.heap.size) (w':={a with heap:=a.heap.push (.cells #[.int .u64 0,.int .u32 0] 195)}) rfl rfl (by k_ne) (by go_simp)];simp[listed,go_sem,seen];rfl
def Q7{sb ch fb Wg n a b}(c:sc[9]? =some (.slice b n a))(d:K sb)(hsb:w.heap[sb]? =some (.cells sc 125 (0,0))):Run Tryz.prog true 195 0 (λi k g w'=>∃j e,i=K/\g=G ((base 74).at ⟨rF sb fb Wg n 0 (.agg sc) undef (.chan (some ch)) j e (.slice b n a) undef undef undef undef undef,[]⟩ [.code mZ,.inLoop mZ,.inBlock 0,.code jE]) CS)
 K M (G ((base 74).at ⟨ql sb (.agg sc) (ptr fb) (ptr Wg) (.chan (some ch)),[]⟩ [.inRegion oq [],.code lj]) CS) w:=by
 simp only[oq,lj,fW,mZ,jE,Tryz.f74,ql,rF];refine Run.still rfl (λ_=>stepG_region_end) ?_;refine Run.still rfl (λ_=>stepG_seq) ?_;refine Run.still rfl (λ_=>stepG_seq) ?_;refine Run.still rfl (λ_=>stepG_region) ?_;simp only[Su,R4,Sl,Nat.reduceAdd,Se,List.range,List.range.loop];refine Run.pure (ptr sb) rfl rfl (by k_ne) (λ_=>by go_simp) (λ_=>by simp[go_sem]) ?_
 walk_nrm
 refine Run.pure (.pointer (some ⟨sb,9,none⟩)) rfl rfl (by k_ne) (λ_=>by go_simp) (λ_=>by simp[go_sem]) ?_
 walk_nrm
 refine Run.DN (A:=⟨sb,9,none⟩) (v:=.slice b n a) rfl rfl (by k_ne) rfl rfl rfl Tryz.underlying58 rfl d (by simp[World.cell?,hsb,c]) ?_
 walk_nrm
 refine Run.pure (.int .i64 n) rfl rfl (by k_ne) (λ_=>by go_simp) (λ_=>by simp[go_sem]) ?_
 walk_nrm
 refine Run.pure (.int .i64 0) rfl rfl (by k_ne) (λ_=>rfl) (λ_=>rfl) ?_
 walk_nrm
 refine Run.still rfl (λ_=>stepG_region_end) ?_;refine Run.still rfl (λ_=>stepG_block) ?_;refine Run.still rfl (λ_=>stepG_loop) ?_;exact .stop λf h=>⟨_,_,rfl,rfl⟩
def gK{P a b m m1 t t1}(h:runNT P a m t=(.next m1,t1)):runNT P (a+b) m t=runNT P b m1 t1:=by rw[runNT_add,h]
structure Pro(Shun:Loc->Prop)(K:Nat->Prop)(CS:List Frame)(sc:Array Value)(aM:Option Addr)(n cM:Nat)(w:World)(ng:Nat)(t:Trace)(gs':Array Goroutine)(w':World)(t':Trace)(sb ch fb Wg:Nat):Prop where
 size:gs'.size=ng
 tr:∃u,t'=t++u/\Tch 0 (λb=>K b\/b=sb\/b=fb) u
 bes:∃x9 x10,Bes Tryz.prog Shun gs' w' t' (G ((base 74).at ⟨rF sb fb Wg n 0 (.agg sc) undef (.chan (some ch)) x9 x10 (.slice aM n cM) undef undef undef undef undef,[]⟩ [.code mZ,.inLoop mZ,.inBlock 0,.code jE]) CS)
 ord:w.heap.size<=sb/\sb<ch/\ch<fb/\fb<Wg/\Wg<w'.heap.size
 hsb:w'.heap[sb]? =some (.cells sc 125 (0,0))
 hch:w'.heap[ch]? =some (.chan 0 #[] false 0 0 false)
 hfb:w'.heap[fb]? =some (.cells #[.chan (some ch)] 185 (0,0))
 hwg:w'.heap[Wg]? =some (.cells #[.int .u64 0,.int .u32 0] 195)
 os:w'.os=w.os
 tape:w'.tape=w.tape
 output:w'.output=w.output
 old:∀b,b<w.heap.size->w'.heap[b]? =w.heap[b]?
def D2{w:World}{d:Nat}{ob:Obj}{b:Nat}(h:b<w.heap.size):({w.at d with heap:=w.heap.push ob}:World).heap[b]? =w.heap[b]? :=by show(w.heap.push ob)[b]? =_;rw[Ta,RY (by omega)]
def D3{w:World}{d:Nat}{ob:Obj}:({w.at d with heap:=w.heap.push ob}:World).heap[w.heap.size]? =some ob:=by show(w.heap.push ob)[w.heap.size]? =_;simp
def zw{w:World}{d:Nat}{ob:Obj}:({w.at d with heap:=w.heap.push ob}:World).heap.size=w.heap.size+1:=by simp
def LV{Shun:Loc->Prop}{ShB:Nat->Prop}(h:∀l,Shun l->∃b,blk l=some b/\ShB b){n Y Z}(H:sc[9]? =some (.slice Z n Y))
 (i:∀b,K b->b<w.heap.size/\¬ShB b) (k:∀b,ShB b->b<w.heap.size) (h0:0<w.heap.size) (E) (sl) (t)
 (a:Bes Tryz.prog Shun E w t (G (Frame.enter Tryz.prog 74 #[.agg sc] .normal) CS)):
 ∃N gs' w' I t' sb ch fb Wg,runNT Tryz.prog N (crowd E w sl) t=(.next (crowd gs' w' I),t')/\Pro Shun K CS sc Z n Y w E.size t gs' w' t' sb ch fb Wg:=by
 obtain⟨N1,o,w1,p,t1,r1,j⟩:=mX h (Q5 (CS:=CS) (sc:=sc) (M:=λ_=>False) (λb a=>(i b a).1)) E sl t a i k h0;obtain⟨g1,K1,M1,u1,⟨s1,⟨q1,l1⟩,p1,f1⟩,⟨sb,aa,q,r,s,rfl⟩,e1,J,af,ag,L,ak,an⟩:=j.at_;have u:=(L sb r).1;obtain⟨N2,O,d2,P,t2,u2,r2,z2,e2,n2,s2⟩:=wS (w:=w1) (g':=λm=>G ((base 74).at ⟨ql sb (.agg sc) undef undef (.chan (some m)),[]⟩ [.inRegion oh [1,2],.code fW]) CS) rfl (LU sb) _ w1.drawn o p t1 q1 (R2 _) s1 l1 p1 f1;generalize c:({w1.at d2 with heap:=w1.heap.push (.chan 0 #[] false 0 0 false)}:World)=w2 at r2 s2;have ao:w2.heap.size=w1.heap.size+1:=by rw[<-c];exact zw
 have o2:∀b,b<w1.heap.size->w2.heap[b]? =w1.heap[b]? :=λb a=>by rw[<-c];exact D2 a
 have c2:w2.heap[w1.heap.size]? =some (.chan 0 #[] false 0 0 false):=by rw[<-c];exact D3
 have ar:=j.grown;obtain⟨N3,v,w3,z,t3,r3,g⟩:=mX h (Q6 (CS:=CS) (sc:=sc) (sb:=sb) (ch:=w1.heap.size) (w:=w2) (K:=λb=>K b\/b=sb) (M:=λ_=>False) (λb a=>a.elim (λx=>by have:=(i b x).1;omega) λx=>by omega) (by omega)) O P t2 s2
  (λb a=>a.elim (λx=>⟨by have:=(i b x).1;omega,(i b x).2⟩) λx=>⟨by omega,λy=>by have:=k b y;omega⟩) (λb a=>by have:=k b a;omega) (by omega)
 obtain⟨g3,K3,M3,u3,⟨s3,⟨q3,l3⟩,p3,f3⟩,⟨fb,ab,A,B,C,rfl⟩,e3,Q,ax,ay,R,a1,a6⟩:=g.at_;have ad:=(R fb B).1;have a7:=g.grown;obtain⟨N4,S,d4,T,t4,u4,r4,z4,e4,n4,s4⟩:=wS (w:=w3) (g':=λm=>G ((base 74).at ⟨ql sb (.agg sc) (ptr fb) (ptr m) (.chan (some w1.heap.size)),[]⟩ [.inRegion oq [],.code lj]) CS) rfl Jk _ w3.drawn v z t3 q3 (R2 _) s3 l3 p3 f3;generalize d:({w3.at d4 with heap:=w3.heap.push (.cells #[.int .u64 0,.int .u32 0] 195)}:World)=w4 at r4 s4;have a8:w4.heap.size=w3.heap.size+1:=by rw[<-d];exact zw
 have F:∀b,b<w3.heap.size->w4.heap[b]? =w3.heap[b]? :=λb a=>by rw[<-d];exact D2 a
 have c4:w4.heap[w3.heap.size]? =some (.cells #[.int .u64 0,.int .u32 0] 195):=by rw[<-d];exact D3
 have e:w4.heap[sb]? =some (.cells sc 125 (0,0)):=by rw[F sb (by omega),g.keep sb (by omega) id,o2 sb u,q]
 obtain⟨N5,U,w5,V,t5,r5,f⟩:=mX h (Q7 (CS:=CS) (sc:=sc) (sb:=sb) (fb:=fb) (ch:=w1.heap.size) (Wg:=w3.heap.size) (w:=w4) (K:=λb=>K b\/b=sb\/b=fb) (M:=λ_=>False) H (.inr (.inl rfl)) e) S T t4 s4
  (λb a=>a.elim (λx=>⟨by have:=(i b x).1;omega,(i b x).2⟩) λx=>⟨by omega,λy=>by have:=k b y;omega⟩) (λb a=>by have:=k b a;omega) (by omega)
 obtain⟨g5,K5,M5,u5,D,⟨x9,W,rfl,rfl⟩,e5,X,ba,bb,bk,bm,bo⟩:=f.at_;have br:=f.grown;refine⟨N1+(N2+(N3+(N4+N5))),U,w5,V,t5,sb,w1.heap.size,fb,w3.heap.size,?_,⟨?_,⟨u1++(u2++(u3++(u4++u5))),?_,?_⟩,⟨x9,W,D⟩,by omega,?_,?_,?_,?_,?_,?_,?_,λb a=>?_⟩⟩
 ·rw[gK r1,gK (show runNT Tryz.prog N2 (crowd o w1 p) t1=_ from r2),gK r3,gK (show runNT Tryz.prog N4 (crowd v w3 z) t3=_ from r4)]
  exact r5
 ·rw[f.size,z4,g.size,z2,j.size]
 ·rw[e5,e4,e3,e2,e1];simp only[Tq]
 ·refine J.app ?_ λb a=>(s b a).elim .inl λx=>.inr (.inl x)
  refine(wR n2 (K:=λb=>K b\/b=sb\/b=fb)).app ?_ λb a=>a;refine Q.app ?_ λb a=>(C b a).elim (λx=>x.elim .inl λy=>.inr (.inl y)) λx=>.inr (.inr x);exact(wR n4 (K:=λb=>K b\/b=sb\/b=fb)).app X λb a=>a
 ·rw[f.keep sb (by omega) id,e]
 ·rw[f.keep _ (by omega) id,F _ (by omega),g.keep _ (by omega) id,c2]
 ·rw[f.keep fb (by omega) id,F _ (by omega),A]
 ·rw[f.keep _ (by omega) id,c4]
 ·rw[f.os,<-d];show w3.os=_;rw[g.os,<-c];exact j.os
 ·rw[f.tape,<-d];show w3.tape=_;rw[g.tape,<-c];exact j.tape
 ·rw[f.output,<-d];show w3.output=_;rw[g.output,<-c];exact j.output
 ·rw[f.keep b (by omega) id,F _ (by omega),g.keep _ (by omega) id,o2 _ (by omega),j.keep b a id]
end
end Go.Tm
namespace Go.Tm
open Go.Proofs Go.Conc Go.ConcN Go.Conc.Lib Go.ConcR.Gen Go.ConcN.Gen
def Q3:(Tryz.f128.name== "runtime.NumGoroutine")=false:=by kernel_rfl
def Q4:Tryz.f128.body.isNone=false:=by kernel_rfl
section
variable {Wg ch sb fb N0:Nat} {C:Frame} {CS:List Frame} {sc:Array Value} {Kold:Nat->Prop} {W₁:World}
def LQ{K M w g l}(n:Hq Wg ch sb fb N0 sc Kold W₁ (C::CS) l K M g w){Ps:(Nat->Prop)->(Nat->Prop)->Value->World->Prop}
 (i:(Tryz.prog.info? 125).map (·.size)=some sc.size)
 (d:∀(Q) (m) (w') h,og Wg ch sb fb N0 sc Kold W₁ K M w' h l->(∀b c e V,Ps b c V e->Run Tryz.prog true 195 Wg Q b c (G (m.finish V) (C::CS)) e)->Run Tryz.prog true 195 Wg Q K M (G (Frame.enter Tryz.prog 128 #[h,.func (.func 129) #[.agg sc] #[]] .normal) (m::C::CS)) w')
 (j:∀b c V w' a,RK 195 Wg b w' a->Ps b c V w'->Ps b c V a):
 Run Tryz.prog true 195 Wg (λb c g' w'=>∃V,g'=G (C.finish V) CS/\Ps b c V w') K M g w:=by
 obtain⟨N,O,h,P,R,S,o,p,q,r,s,u,x,y,z,A,B,D,E,F,H,I,J,rfl,k⟩:=n;change Run _ _ _ _ _ _ _ (Conc.served (G ((base 74).at _ (.inRegion Bd (0::[1])::[.code zu,.inLoop oe,.inBlock 2,.code xa])) (C::CS)) _) _;rw[sZ];simp only[Bd,zu,oe,jE,xa,Tryz.f74,tV]
 walk_nrm
 refine Run.pure (.bool false) rfl rfl (by k_ne) (λ_=>rfl) (λ_=>rfl) ?_
 walk_nrm
 refine Run.still rfl (λ_=>stepG_region_end) ?_;refine Run.still rfl (λ_=>stepG_seq) ?_;refine Run.still rfl (λ_=>stepG_cond (t:=false) rfl) ?_;simp only[Ss,↓reduceIte];refine Run.still rfl (λ_=>stepG_exit rfl) ?_;refine Run.still rfl (λ_=>stepG_seq) ?_;refine Run.still rfl (λ_=>stepG_region) ?_;simp only[Su,R4,Sl,Nat.reduceAdd,Se,List.range,List.range.loop];refine Run.pure h rfl rfl (by k_ne) (λ_=>rfl) (λ_=>rfl) ?_
 walk_nrm
 refine Run.rE rfl rfl (by k_ne) rfl rfl Tryz.underlying125 rfl k.ksb k.st.sb_ i ?_
 walk_nrm
 refine Run.pure (.func (.func 129) #[.agg sc] #[]) rfl rfl (by k_ne) (λ_=>by go_simp) (λ_=>by simp[go_sem]) ?_
 walk_nrm
 refine Run.still rfl (λ_=>sY rfl rfl (by k_ne) rfl Tryz.func128 Q3 Q4) ?_
 walk_nrm
 refine d _ _ _ _ k λb c w' V L=>?_;rw[Frame.finish_at]
 walk_nrm
 refine Run.pure V rfl rfl (by k_ne) (λ_=>rfl) (λ_=>rfl) ?_
 walk_nrm
 refine Run.still rfl (λ_=>stepG_region_end) ?_;refine Run.still rfl (λ_=>stepG_ret') ?_;refine Run.still rfl (λa=>stepG_leave (v:=V) rfl rfl Tryz.func74 (results_tmp (t:=2) rfl _ _ _) (events_results_tmp (t:=2) rfl _ _)) ?_;exact .stop λa f=>⟨V,rfl,j _ _ _ _ _ f L⟩
end
end Go.Tm
namespace Go.Tm
open Go.Proofs Go.Conc Go.ConcN Go.Conc.Lib Go.ConcR.Gen Go.ConcN.Gen
open Go.ConcR (KK WgAt stA smA rd wr mk DC0)
def rH(H:Nat->Option (Int×Int×Int))(i:Nat):Option Value:=(H i).map λh=>eR h.1 h.2.1 h.2.2
def ot:Option (Int×Int×Int)->Array Value
 |some (a,b,c)=>#[.int .i64 a,.int .i64 b,.int .i64 c]
 |none=>#[.int .i64 0,.int .i64 0,.int .i64 0]
def Jl(H i):rH H i=if(H i).isSome then some (.agg (ot (H i)))else none:=by
 unfold rH;cases H i with
 |none=>rfl
 |some h=>rfl
def Jm(h):(ot h).size=3:=by cases h<;>rfl
def LW(h):(ot h).all (·.oneCell')=true:=by cases h<;>simp[ot,Value.oneCell']
def Jn(n:Nat)(H:Nat->Option (Int×Int×Int))(a:List Value):Prop:=∃l:List Nat,l.Nodup/\(∀i,i∈l↔i<n/\rH H i≠none)/\a=l.filterMap (rH H)
def zy(N0:Nat)(L:List Value)(K:Nat->Prop)(V:Value)(w:World):Prop:=lh w N0 66 jW V L.length (bq L)/\∀g,V.ownBlock=some g->K g
def zy.rely{N0 L K V w w₁ Wg}(h:zy N0 L K V w)(r:RK 195 Wg K w w₁):zy N0 L K V w₁:=⟨h.1.keep λg a=>r.keep g (h.2 g a),h.2⟩
section
variable {C:Frame} {CS:List Frame} {sc:Array Value} {Kold:Nat->Prop} {w:World} {n:Nat} {H:Nat->Option (Int×Int×Int)} {Srt:List Value->List Value}
def xb(w:World)(Kold:Nat->Prop)(sc:Array Value)(n:Nat)(H:Nat->Option (Int×Int×Int)):Prop:=
 ∀i,i<n->∀(Wg:Nat) (K:Nat->Prop) (w':World),(∀b,Kold b->K b)->(∀b,K b->b<w'.heap.size)->WgLive 195 Wg w'->w.heap.size<=w'.heap.size->(∀b,Kold b->w'.heap[b]? =w.heap[b]?)->∀(Q:aJ) (C:Frame) (cs:List Frame),
  (∀c d a,(∀b,K b->c b/\¬d b/\a.heap[b]? =w'.heap[b]?)->(∀b,c b->b<a.heap.size)->WgLive 195 Wg a->Run Tryz.prog false 195 Wg Q c d (G (C.finish (.tuple #[.agg (ot (H i)),.bool (H i).isSome])) cs) a)->
  Run Tryz.prog false 195 Wg Q K (λ_=>False) (G (Frame.enter Tryz.prog 125 #[.agg sc,.int .i64 i] .normal) (C::cs)) w'
def th(w:World)(Kold:Nat->Prop)(sc:Array Value)(n:Nat)(H:Nat->Option (Int×Int×Int))(Srt:List Value->List Value):Prop:=
 ∀c,Jn n H c->∀(Wg N0:Nat) (K M:Nat->Prop) (w':World) (d:Value),(∀b,Kold b->K b/\¬M b)->(∀b,K b->b<w'.heap.size)->¬M Wg->WgLive 195 Wg w'->w.heap.size<=w'.heap.size->(∀b,Kold b->w'.heap[b]? =w.heap[b]?)->lh w' N0 66 jW d c.length (bq c)->
  (∀g,d.ownBlock=some g->K g/\M g/\¬Kold g)->∀(Q:aJ) (C:Frame) (cs:List Frame),
  (∀e f a V,zy N0 (Srt c) e V a->Run Tryz.prog true 195 Wg Q e f (G (C.finish V) cs) a)->
  Run Tryz.prog true 195 Wg Q K M (G (Frame.enter Tryz.prog 128 #[d,.func (.func 129) #[.agg sc] #[]] .normal) (C::cs)) w'
structure LX(Shun:Loc->Prop)(C:Frame)(CS:List Frame)(n:Nat)(H:Nat->Option (Int×Int×Int))(Srt:List Value->List Value)(w:World)(gs':Array Goroutine)(w':World)(t':Trace)(V:Value)(Wg ch:Nat):Prop where
 bes:Bes Tryz.prog (λl=>Shun l\/∃b,blk l=some b/\spB Wg ch b) gs' w' t' (G (C.finish V) CS)
 res:∃N0 K hs,w.heap.size<=N0/\Jn n H hs/\zy N0 (Srt hs) K V w'/\∀b,K b->b<w'.heap.size/\¬spB Wg ch b
 os:w'.os=w.os
 tape:w'.tape=w.tape
 output:w'.output=w.output
 grown:w.heap.size<=w'.heap.size
 sp:w.heap.size<=Wg/\w.heap.size<=ch/\Wg<w'.heap.size/\ch<w'.heap.size
 old:∀b,b<w.heap.size->w'.heap[b]? =w.heap[b]?
def Pk{Wg0 K u}(h:Tch Wg0 K u){c x b}(e:c∈u)(f:c.act.touch?=some x)(d:blk x.loc=some b):K b\/b=Wg0:=by
 obtain⟨i,a,g,_⟩|⟨a,_⟩:=(h.t c e x f).2
 ·rw[d]at a;cases a;exact .inl g
 ·rw[d]at a;cases a;exact .inr rfl
def Be{Shun}{ShB:Nat->Prop}(E:∀l,Shun l->∃b,blk l=some b/\ShB b){cM aM}(a6:sc[9]? =some (.slice aM n cM))(U:(Tryz.prog.info? 125).map (·.size)=some sc.size)(hn:n<2147483647)
 (hK:∀b,Kold b->b<w.heap.size/\¬ShB b) (T:∀b,ShB b->b<w.heap.size) (h0:0<w.heap.size) (gs) (sl) (t)
 (d:Bes Tryz.prog Shun gs w t (G (Frame.enter Tryz.prog 74 #[.agg sc] .normal) (C::CS))) (W:xb w Kold sc n H) (F:th w Kold sc n H Srt):
 ∃N gs' w' a7 t' V Wg ch,runNT Tryz.prog N (crowd gs w sl) t=(.next (crowd gs' w' a7),t')/\LX Shun C CS n H Srt w gs' w' t' V Wg ch:=by
 have m:=d.past;obtain⟨N1,X,w1,a8,t1,sb,ch,fb,Wg,r1,p⟩:=LV E a6 hK T h0 gs sl t d;obtain⟨o1,o2,o3,o4,o5⟩:=p.ord;obtain⟨u1,e1,Y⟩:=p.tr;obtain⟨x9,s,I⟩:=p.bes;have f:∀b,Kold b->b<w.heap.size:=λb d=>(hK b d).1;have J:∀b,b<w.heap.size->¬spB Wg ch b:=λb h k=>by rcases k with rfl|rfl<;>omega
 obtain⟨An,ba,bb⟩:=DT (Wg:=Wg) (ch:=ch) (fb:=fb) (K:=λb=>b=fb) (M:=λ_=>False) rfl (by omega);have Z:∀K,Stood Wg ch sb fb sc Kold w K w1:=λK=>⟨p.hsb,p.hfb,λb d=>p.old b (f b d)⟩
 have u:WgLive 195 Wg w1:=⟨0,0,p.hwg⟩
 have L:∀i,i<n->∀(ib:Nat) (K:Nat->Prop) (w':World),K sb->K fb->K ib->(∀b,Kold b->K b)->(∀b,K b->b<w'.heap.size)->(∀b,K b->b≠Wg)->WgLive 195 Wg w'->Stood Wg ch sb fb sc Kold w K w'->w'.heap[ib]? =some (.cells #[.int .i64 i] 3 (0,0))->
  Run Tryz.prog false 195 Wg (SWk Tryz.prog 195 Wg ch (eR 0 0 0) (rH H i)) K (λ_=>False) (born Tryz.prog {target:=.fn (.func 123) #[ptr Wg,ptr sb,ptr ib,ptr fb],args:=#[]}) w':=by
  intro i hi ib K w' k1 k2 k3 k4 k5 k6 O y bk;rw[Jl];exact DO k1 k3 k2 O y.sb_ bk y.fb_ (Jm _) (LW _) k6 U λQ C' q=>W i hi Wg K w' k4 k5 O (by have:=(R7.1 y.sb_).1;have:=k5 sb k1;obtain⟨st,sm,h⟩:=O;have:=(R7.1 (show w'.heap[Wg]? =some _ from h)).1;omega) y.old Q C' _ q
 have bm:∀i v,i<n->rH H i=some v->∃a b c,v=eR a b c:=λi v _ h=>by obtain⟨x,_,rfl⟩:=SH.1 h;exact⟨_,_,_,rfl⟩
 have B:=Ge (Wg:=Wg) (ch:=ch) (sb:=sb) (fb:=fb) (n:=n) (z:=eR 0 0 0) (An:=An) (HV:=rH H) (Fin:=Hq Wg ch sb fb w1.heap.size sc Kold w (C::CS)) (CS:=C::CS) (sc:=sc) (Kold:=Kold) (W₁:=w) w1.heap.size hn L
  (λK w' x0 x5 x8 x9 s aa ab ad af ag ak k1 k2 k3 k4 k5 k6 k7 k8=>Jj hn bm ⟨by omega,by omega,λb d=>R6 (f b d) (by omega)⟩ bb K w' x0 x5 x8 x9 s aa ab ad af ag ak k1 k2 k3 k4 k5 k6 k7 k8)
  n (R2 _) (λb=>Kold b\/b=sb\/b=fb) w1 (.agg sc) undef (.chan (some ch)) x9 s (.slice aM n cM) undef undef undef undef undef (.inr (.inl rfl)) (.inr (.inr rfl)) (λb h=>.inl h)
  (λb h=>by rcases h with h|rfl|rfl; · have:=f b h;omega
            ·omega
            ·omega)
  (λb h=>by rcases h with h|rfl|rfl; · have:=f b h;omega
            ·omega
            ·omega) u (Z _) (R2 _)
 rw[Nat.sub_self]at B;have bo:∀(i:Nat) (A:MemOp) x b,t1[i]? =some A->A.act.touch?=some x->blk x.loc=some b->¬spB Wg ch b:=by
  intro i A x b ho hx an;rw[e1]at ho;obtain hm|hm:=Tf.1 (mem_of_getElem? ho)
  ·exact J b (Hi (m.seen A hm) hx an)
  ·obtain(h|rfl|rfl)|rfl:=Pk Y hm hx an
   ·exact J b (f b h)
   ·intro k;rcases k with rfl|rfl<;>omega
   ·intro k;rcases k with rfl|rfl<;>omega
   ·intro k;rcases k with rfl|rfl<;>omega
 have ao:NoRelease (stA Wg) t1:=by
  intro i hi;obtain⟨A,ho,P⟩:=SH.1 hi;rw[e1]at ho;obtain hm|hm:=Tf.1 (mem_of_getElem? ho)
  ·have:=m.seen A hm
   rw[P]at this;have:Wg<w.heap.size:=this;omega
  ·have:=Y.l A hm (by rw[P];rfl) 0
   rw[P]at this;exact absurd this (Sm _)
 obtain⟨σ,br⟩:=LK (N0:=w.heap.size) (shun:=ShB) E I T (by omega) (by omega) (by omega) (by omega) p.hwg p.hch (λb h=>by
  obtain h|rfl|rfl:=h
  ·exact⟨by have:=f b h;omega,J b (f b h),(hK b h).2⟩
  ·exact⟨by omega,λk=>by rcases k with rfl|rfl<;>omega,λx=>by have:=T _ x;omega⟩
  ·exact⟨by omega,λk=>by rcases k with rfl|rfl<;>omega,λx=>by have:=T _ x;omega⟩) bo ao B
 have ar:fo Wg ch X.size w.heap.size ShB:=⟨(R7.1 I.g0).1,T,by omega,by omega,by omega⟩
 obtain⟨N2,bs,w2,bx,t2,r2,o⟩:=phase ar hn ba I.past _ X w1 a8 t1 σ rfl br;obtain⟨g2,K2,M2,hs2,a1,a2,a3,a4,a5⟩:=o.main;have ax:∀l,(Shun l\/∃b,blk l=some b/\spB Wg ch b)->∃b,blk l=some b/\(ShB b\/spB Wg ch b):=λl h=>h.elim (λh=>(E l h).imp λb x=>⟨x.1,.inl x.2⟩) λ⟨b,h1,h2⟩=>⟨b,h1,.inr h2⟩
 have j:=o.sp;have R:∀b,b<w.heap.size->w2.heap[b]? =w.heap[b]? :=λb d=>(o.old b d).trans (p.old b d);have b2:∃v6,og Wg ch sb fb w1.heap.size sc Kold w K2 M2 w2 v6 hs2:=by obtain⟨x0,x5,v6,x7,x8,x9,s,aa,b4,b5,ab,ad,af,ag,ak,b6,b7,b8,ca,cb,cc,cd,cf,_,h⟩:=a2;exact⟨v6,h⟩
 have ay:=LQ (C:=C) (CS:=CS) a2 (Ps:=λK M V w'=>zy w1.heap.size (Srt hs2) K V w') U (λQ Cf w' v6 S q=>F hs2 a5 Wg w1.heap.size K2 M2 w' v6 (λb d=>⟨S.LP b d,λhm=>absurd (a4 b hm).2.2 (by have:=f b d;omega)⟩) S.kl (λhm=>(a4 Wg hm).2.1 (.inl rfl)) S.live (R3 (by omega) S.base) S.st.old S.row (λg hg=>by obtain⟨q1,q2,_,_,_,q3⟩:=S.own g hg;exact⟨q1,q2,q3⟩) Q Cf _ λK' M' bA V hr=>q K' M' bA V hr) (λK' M' V w' b1 r h=>h.rely r)
 obtain⟨N3,bB,w3,bC,t3,r3,D⟩:=mX (Shun:=λl=>Shun l\/∃b,blk l=some b/\spB Wg ch b) (ShB:=λb=>ShB b\/spB Wg ch b) ax ay bs bx t2 ⟨a1,o.lv,o.past,λA b0=>by rw[o.size];exact o.few A b0⟩
  (λb d=>⟨(a3 b d).1,λk=>k.elim (a3 b d).2.2 (a3 b d).2.1⟩) (λb d=>d.elim (λh=>R6 (T b h) o.fO) λh=>h.elim (λe=>e▸j.1) λe=>e▸j.2) j.1
 obtain⟨g3,K3,M3,u3,c1,⟨V,rfl,c2⟩,c3,c4,c5,c6,c7,c8,c9⟩:=D.at_;refine⟨N1+(N2+N3),bB,w3,bC,t3,V,Wg,ch,?_,c1,⟨w1.heap.size,K3,hs2,by omega,a5,c2,λb d=>⟨(c7 b d).1,λk=>(c7 b d).2 (.inr k)⟩⟩,?_,?_,?_,?_,⟨by omega,by omega,R6 j.1 D.grown,R6 j.2 D.grown⟩,λb d=>?_⟩
 ·rw[gK r1,gK r2,r3]
 ·rw[D.os,o.os,p.os]
 ·rw[D.tape,o.tape,p.tape]
 ·rw[D.output,o.output,p.output]
 ·exact R3 o.fO D.grown
 ·rw[D.keep b (R6 d o.fO) λhm=>absurd (a4 b hm).2.2 (by omega)]
  exact R b d
end
end Go.Tm
namespace Go.Tm
def Gd.nxs{S P Post c c' n}(l:Gd S P Post c)(h:Nxs S P c c' n):Gd S P Post c':=by
 refine⟨λk a=>h.2.1 k (R3 h.1 a),λτ e m=>?_⟩;have o:∀k<c.w.drawn,τ k=c.w.tape k:=λk a=>(e k (R6 a h.1)).trans (h.2.2.1 k a);have p:∀k,c.w.drawn<=k->S.fJ (τ k):=λk a=>by
  obtain x|x:=R5 k c'.w.drawn
  ·rw[e k x];exact h.2.1 k a
  ·exact m k x
 obtain⟨N,fr,w',g,b⟩:=l.2 τ o p;have j:=h.2.2.2 τ e;obtain f|hge:=R5 N n
 ·exfalso
  have d:=gl P g j (U7 f);obtain⟨i,q⟩:∃i,n-N=i+1:=⟨n-N-1,by omega⟩
  rw[q]at d;obtain⟨x,xs,e0⟩:∃x xs,c'.cs++[aH]=x::xs:=by cases c'.cs<;>exact⟨_,_,rfl⟩
  rw[e0]at d;obtain⟨v,b,_⟩|⟨ch,_,r,s⟩:=b
  ·exact gone b d
  ·exact rz r s d
 ·exact⟨N-n,fr,w',gl P j g hge,b⟩
def Gd.RR{S P Post c}(h:Gd S P Post c):Acc (λc' c=>∃n,0<n/\Nxs S P c c' n) c:=by
 apply Tt;intro p;obtain⟨f,z,u⟩:=mj p;subst z;have A:∀n k,(f n).w.drawn<=k->S.fJ ((f n).w.tape k):=by
  intro n;cases n with
  |zero=>exact h.1
  |succ n=>obtain⟨_,_,a,b,_⟩:=u n;exactλk B=>b k (R3 a B)
 have e:∀k n,∃K,k<=K/\Nxs S P (f n) (f (n+k)) K:=by
  intro k;induction k with
  |zero=>exactλn=>⟨0,R2 _,.refl (A n)⟩
  |succ k C=>intro n;obtain⟨K,I,D⟩:=C n;obtain⟨m,J,E⟩:=u (n+k);exact⟨K+m,by omega,D.trans E⟩
 have q:∀n m i,i<(f n).w.drawn->i<(f m).w.drawn->(f n).w.tape i=(f m).w.tape i:=by
  intro n m i r s;obtain hnm|hnm:=Nat.le_total n m
  ·obtain⟨k,rfl⟩:=UE hnm
   obtain⟨_,_,a⟩:=e k n;exact(a.2.2.1 i r).symm
  ·obtain⟨k,rfl⟩:=UE hnm
   obtain⟨_,_,a⟩:=e k m;exact a.2.2.1 i s
 let τ:Nat->Question->Nat:=λi=>open Classical in if h:∃n,i<(f n).w.drawn then(f h.choose).w.tape i elseλ_=>0
 have g:∀n i,i<(f n).w.drawn->τ i=(f n).w.tape i:=by
  intro n i j;have d:∃n,i<(f n).w.drawn:=⟨n,j⟩
  show(open Classical in if h:∃n,i<(f n).w.drawn then(f h.choose).w.tape i elseλ_=>0)=_;rw[TY d];exact q _ _ i d.choose_spec j
 have l:∀i,(f 0).w.drawn<=i->S.fJ (τ i):=by
  intro i j;by_cases d:∃n,i<(f n).w.drawn
  ·obtain⟨n,r⟩:=d
   rw[g n i r];obtain⟨_,_,a⟩:=e n 0;rw[Se]at a;exact a.2.1 i j
  ·show S.fJ (open Classical in if h:∃n,i<(f n).w.drawn then(f h.choose).w.tape i elseλ_=>0)
   rw[dif_neg d];exact lU
 obtain⟨N,fr,w',F,t⟩:=h.2 τ (g 0) l;obtain⟨K,L,y⟩:=e (N+1) 0;rw[Se]at y;have G:=y.2.2.2 τ (g (N+1));have o:=gl P F G (by omega);obtain⟨i,j⟩:∃i,K-N=i+1:=⟨K-N-1,by omega⟩
 rw[j]at o;obtain⟨x,xs,e0⟩:∃x xs,(f (N+1)).cs++[aH]=x::xs:=by cases(f (N+1)).cs<;>exact⟨_,_,rfl⟩
 rw[e0]at o;obtain⟨v,t,_⟩|⟨ch,_,s,H⟩:=t
 ·exact gone t o
 ·exact rz s H o
def D8{S Q G f g args a w₀}{Post:Value->World->Prop}{PreB:List PanicEntry->World->Prop}{c k ch0}
 (l:∀τ,(∀n<w₀.drawn,τ n=w₀.tape n)->Calls Q f args (aq w₀ τ w₀.drawn) λe w'=>(∃v,e=.returned v/\Post v w')\/∃ch,Off ch/\e=.panicked ch/\PreB ch w')
 (T:Nxs S Q ⟨Frame.enter Q f args .normal,[],w₀⟩ c k) (U:c.fr=Frame.enter Q g a .normal) (π:Ren G) (V:∀x∈c.cs,Marks π x) (W:Dp π c.w) (m:∀x∈c.cs,x.mode=.run\/x.mode=.returning)
 (q:∀(cs) (τ),(∀n,c.w.drawn<=n->τ n=λ_=>1)->∃j d w1,runN Q j (lone (Frame.enter Q g a .normal) cs (aq c.w τ c.w.drawn))=.next (lone d cs w1)/\d.mode=.panicking ch0/\d.defers=[]/\w1.heap=c.w.heap):
 ∃p,PreB ch0 p/\p.heap.size=c.w.heap.size/\∀b:Nat,p.heap[b]? =c.w.heap[b]? \/p.heap[b]? =some (.deferred none):=by
 obtain⟨X,n2,n3,n4⟩:=T;let τ:Nat->Question->Nat:=λn=>if n<c.w.drawn then c.w.tape n elseλ_=>1
 have s:∀n<c.w.drawn,τ n=c.w.tape n:=λn t=>RZ t;have u:∀n,c.w.drawn<=n->τ n=λ_=>1:=λn t=>RY (by omega);have y:∀n<w₀.drawn,τ n=w₀.tape n:=λn t=>(s n (R6 t X)).trans (n3 n t);have Y:=n4 τ s;obtain⟨j,d,w1,J,Z,f2,B⟩:=q (c.cs++[aH]) τ u;rw[<-U]at J;have K:runN Q (k+j) (lone (Frame.enter Q f args .normal) [aH] (aq w₀ τ w₀.drawn))=.next (lone d (c.cs++[aH]) w1):=by
  have e:runN Q k (lone (Frame.enter Q f args .normal) [aH] (aq w₀ τ w₀.drawn))=.next (lone c.fr (c.cs++[aH]) (aq c.w τ c.w.drawn)):=Y
  rw[runN_add,e];exact J
 obtain⟨e,p,C,E,F,_,z⟩:=l τ y [aH];have hE:∃N,runN Q N (lone (Frame.enter Q f args .normal) [aH] (aq w₀ τ w₀.drawn))=.next (lone C [aH] p):=by rcases E with⟨v,rfl,_⟩|⟨ch,_,rfl,_⟩<;>exact F
 obtain⟨N,A⟩:=hE;have H:xd G w1 ch0 (lone d (c.cs++[aH]) w1):=by
  refine .up π Z (λx h=>?_) ?_ m (.refl _)
  ·cases h with
   |head=>intro D L;rw[f2]at L;cases L
   |tail _ h=>exact V x h
  ·intro r R o hr M
   rw[B]at M;exact W r R o hr M
 obtain I|hge:=R5 N (k+j)
 ·exfalso
  have h:=gl Q A K (U7 I);obtain⟨i,hi⟩:∃i,k+j-N=i+1:=⟨k+j-N-1,by omega⟩
  rw[hi]at h;obtain⟨x,xs,e0⟩:∃x xs,c.cs++[aH]=x::xs:=by cases c.cs<;>exact⟨_,_,rfl⟩
  rw[e0]at h;obtain⟨v,rfl,_⟩|⟨ch,_,rfl,_⟩:=E
  ·exact gone z h
  ·exact rz z.1 z.2.1 h
 ·have h:=gl Q K A hge
  obtain⟨O,P⟩:=D7 _ H h;obtain⟨v,rfl,_⟩|⟨ch,_,rfl,hp⟩:=E
  ·have:=z.1;rw[O]at this;cases this
  ·have e:=z.1
   rw[O]at e;cases e;exact⟨p,hp,by rw[P.1,B],λb=>by rw[<-B];exact P.2 b⟩
end Go.Tm

import Derived.Conc.AppendWalk
import Derived.Test.YtaglpcmhopjebaaGreatDoorY11
set_option linter.all false
set_option maxRecDepth 100000
set_option maxHeartbeats 20000000
namespace Go.Tm
open Go.Conc Go.ConcN
def cO(zc:List Value)(k:Nat):List Value:=(List.replicate k zc).flatten
def iW(zc k):(cO zc k).length=k*zc.length:=by
 unfold cO;induction k with
 |zero=>simp
 |succ k c=>simp[List.replicate_succ,c,TZ];omega
def Dk(zc a b)(h:b<=a):(cO zc a).drop (b*zc.length)=cO zc (a-b):=by obtain⟨k,rfl⟩:=Ud h;unfold cO;rw[<-List.replicate_append_replicate,VV,U7 (by rw[<-cO,iW];exact Rq _)];have:((List.replicate b zc).flatten).drop (b*zc.length)=[]:=RY (by rw[<-cO,iW];exact Rq _);rw[this];simp
def mg(z k):(Builtin.zeroCells z k).toList=cO z.toList k:=by
 unfold Builtin.zeroCells;simp only[Array.toList_map,Array.toList_range];induction k with
 |zero=>simp[cO]
 |succ k d=>
  have e:cO z.toList (k+1)=cO z.toList k++z.toList:=by unfold cO;rw[List.replicate_succ',VV];simp
  rw[e,<-d,TZ,Nat.one_mul,List.range_add,TA]
  congr 1
  rw[List.map_map];apply UU
  ·simp
  ·intro i g f
   simp only[Uc,Function.comp,UZ,UH];have c:i<z.size:=by simpa using f
   rw[show(k*z.size+i)%z.size=i from by rw[Tu,Nat.add_mul_mod_self_right,Nat.mod_eq_of_lt c]];simp[c]
inductive aS{α:Type}:Sem α->Prop
 |pure (a):aS (.pure a)
 |halt (h):aS (.halt h)
 |load (a) {k}:(∀v,aS (k v))->aS (.load .plain a k)
 |store (a v) {k}:aS k->aS (.store .plain a v k)
 |new (o) {k}:(∀r,aS (k r))->aS (.new o k)
 |shape (r) {k}:(∀x,aS (k x))->aS (.shape r k)
 |frozen (a) {k}:(∀x,aS (k x))->aS (.frozen a k)
 |choose (q) {k}:(∀x,aS (k x))->aS (.choose q k)
 |program {k}:(∀x,aS (k x))->aS (.program k)
 |mark (m) {k}:aS k->aS (.mark m k)
def aS.bind{d e s}{f:d->Sem e}(h:aS s)(g:∀a,aS (f a)):aS (s>>= f):=by
 show aS (s.bind f);induction h with
 |pure a=>exact g a
 |halt h=>exact .halt h
 |load a _ c=>exact .load a c
 |store a v _ c=>exact .store a v c
 |new o _ c=>exact .new o c
 |shape r _ c=>exact .shape r c
 |frozen a _ c=>exact .frozen a c
 |choose q _ c=>exact .choose q c
 |program _ c=>exact .program c
 |mark m _ c=>exact .mark m c
def aS.cells{g}{s:Sem g}(h:aS s):∀(P) (w) (es),∀ev∈(s.runT P w es).2,ev∈es\/∀A,ev.loc=.cell A->ev.sync=false:=by
 induction h with
 |pure a=>exactλP w es ev h=>.inl h
 |halt a=>exactλP w es ev h=>.inl h
 |load a _ d=>
  intro P w es ev h;simp only[Sem.runT]at h;split at h
  ·obtain h|h:=d _ P _ _ ev h
   ·obtain h|rfl:=TY.1 h
    ·exact .inl h
    ·exact .inr λ_ _=>rfl
   ·exact .inr h
  ·split at h
   ·obtain h|h:=d _ P _ _ ev h
    ·obtain h|h:=SI.1 h
     ·exact .inl h
     ·obtain⟨_,_,rfl⟩:=Un.1 h
      exact .inr λ_ _=>rfl
    ·exact .inr h
   ·exact .inl h
 | @store a v k _ d=>
  intro P w es ev h;by_cases f:(∀c,v≠ .agg c)/\(∀c,v≠ .tuple c)
  ·rw[iC P a v k w es f.1 f.2]at h
   split at h
   ·split at h
    ·exact .inl h
    ·obtain h|h:=d P _ _ ev h
     ·obtain h|rfl:=TY.1 h
      ·exact .inl h
      ·exact .inr λ_ _=>rfl
     ·exact .inr h
   ·split at h
    ·obtain h|h:=d P _ _ ev h
     ·obtain h|h:=SI.1 h
      ·exact .inl h
      ·obtain⟨_,_,rfl⟩:=Un.1 h
       exact .inr λ_ _=>rfl
     ·exact .inr h
    ·exact .inl h
  ·cases v<;>first|(simp at f;done)|exact .inl h
 |new o _ d=>exactλP w es ev h=>d _ P _ _ ev h
 |shape r _ d=>exactλP w es ev h=>d _ P _ _ ev h
 |frozen a _ d=>exactλP w es ev h=>d _ P _ _ ev h
 |choose q _ d=>
  intro P w es ev h;simp only[Sem.runT]at h;split at h
  ·exact d _ P _ _ ev h
  ·exact d _ P _ _ ev h
 |program _ d=>exactλP w es ev h=>d _ P _ _ ev h
 |mark m _ d=>
  intro P w es ev h;obtain h|h:=d P _ _ ev h
  ·obtain h|rfl:=TY.1 h
   ·exact .inl h
   ·exact .inr λA e=>by cases e
  ·exact .inr h
theorem jH(a):∀(n i) (acc),aS (loadCellsFrom a i n acc)
 |0,_,_=>.pure _
 |n+1,i,acc=>aS.bind (.load _ λv=>.pure v) λv=>jH a n (i+1) _
theorem mh(a):∀(c) (i),aS (storeCells a c i)
 | [],_=>.pure _
 |v::c,i=>aS.bind (.store _ _ (.pure _)) λ_=>mh a c (i+1)
def tf(t):aS (underlying t):=by
 unfold underlying;refine aS.bind (.program λ_=>.pure _) λp=>?_;split
 ·exact .pure _
 ·exact .halt _
def kx(t):aS (typeInfo t):=by
 unfold typeInfo;refine aS.bind (.program λ_=>.pure _) λp=>?_;split
 ·exact .pure _
 ·exact .halt _
def AM(t):aS (Go.sizeOf t):=by unfold Go.sizeOf;exact aS.bind (kx t) λ_=>.pure _
def uE(t):aS (zeroValue t):=by
 unfold zeroValue;refine aS.bind (kx t) λi=>?_;split
 ·exact .pure _
 ·exact .halt _
def th(size n x):aS (Builtin.firstCells size n x):=by
 unfold Builtin.firstCells;split
 ·exact jH _ _ _ _
 ·exact .pure _
 ·exact .pure _
 ·exact .halt _
def Dl(v):aS (asInt v):=by
 unfold asInt asIntOf;refine aS.bind ?_ λ_=>.pure _;split
 ·exact .pure _
 ·exact .halt _
 ·exact .halt _
def Dm(v):aS (Builtin.lenOf v):=by
 unfold Builtin.lenOf;split
 ·exact .pure _
 ·exact .pure _
 ·exact .halt _
def Dn{c}(e):aS (runtimePanic e:Sem c):=by unfold runtimePanic;repeat' (first|exact .pure _|exact .halt _|exact .program λ_=>.pure _|exact .new _ λ_=>.pure _|refine aS.bind ?_ λ_=>?_|split)
def xZ(n):aS (askRoom n):=by
 unfold askRoom;split
 ·exact .mark _ (.pure _)
 ·exact .pure _
def ti(a n):aS (Builtin.holdsCells a n):=by unfold Builtin.holdsCells;refine aS.bind (.shape _ λ_=>.pure _) λx=>?_;split<;>exact .pure _
def wQ{c}(a):aS (Pure.pure a:Sem c):=.pure a
def Dq{c}(m):aS (stuck m:Sem c):=.halt _
def rG{c}(m):aS (unsupported m:Sem c):=.halt _
def AN(q):aS (choose q):=.choose _ λ_=>.pure _
def FG(m):aS (mark m):=.mark _ (.pure _)
def AO(e c):aS (newRow e c):=by unfold newRow;exact aS.bind (.new _ λ_=>.pure _) λ_=>.pure _
def IE{d c}[Decidable c]{s t:Sem d}(h:aS s)(e:aS t):aS (if c then s else t):=by split<;>assumption
def AP(a):aS (frozen a):=.frozen _ λ_=>.pure _
def wR(a b n x v):aS (Builtin.mayShare a b n x v):=by unfold Builtin.mayShare;repeat' (with_reducible first|exact wQ _|exact ti _ _|exact AP _|refine aS.bind ?_ λ_=>?_|split|dsimp only)
def AS(ts t as):aS (Builtin.append_ ts t as):=by
 unfold Builtin.append_;repeat' (with_reducible first
  |exact wQ _|exact Dq _|exact rG _|exact Dn _|exact tf _|exact kx _|exact AM _|exact uE _|exact th _ _ _|exact mh _ _ _
  |exact AN _|exact FG _|exact AO _ _|exact Dl _|exact Dm _|exact xZ _|exact wR _ _ _ _ _
  |refine IE ?_ ?_|refine aS.bind ?_ λ_=>?_|split|dsimp only)
def kS(w:World)(base:Nat)(e:TypeId)(zc:List Value)(v:Value)(n:Nat)(xs:List Value):Prop:=xs.length=n*zc.length/\((v=.slice none 0 0/\n=0)\/∃g cap,v=.slice (some ⟨g,0,none⟩) n cap/\base<=g/\w.heap[g]? =some (.cells (xs++cO zc (cap-n)).toArray e (0,0))/\n<=cap/\cap<=maxLen/\0<n)
def kS.owns{w base e zc v n xs}(h:kS w base e zc v n xs):w.ownsRow base e zc.length v n xs:=by
 refine⟨h.1,h.2.imp id ?_⟩;rintro⟨g,cap,rfl,c,d,f,j⟩;refine⟨g,cap,_,rfl,c,d,f,j.1,?_,?_⟩
 ·simp only[RS,RM,iW,h.1,<-TZ]
  congr 1;omega
 ·rw[<-h.1];simp
def kS.keep{w w' base e zc v n xs}(h:kS w base e zc v n xs)(c:∀g,v.ownBlock=some g->w'.heap[g]? =w.heap[g]?):kS w' base e zc v n xs:=by refine⟨h.1,h.2.imp id ?_⟩;rintro⟨g,cap,rfl,d,f,j,l⟩;exact⟨g,cap,rfl,d,(c g rfl).trans f,j,l⟩
section
variable {P:Program}
def ni(w base t ty e i z zc bytes)(H:P.underlying t=some (.slice e))(I:P.info? e=some i)(T:i.zero=some z)
 (d:i.size=zc.length) (J:i.bytes=bytes) (L:z.cells.toList=zc) (V:0<zc.length)
 (v) (n) (xs) (f:kS w base e zc v n xs)
 (a) (m c) (news) (x:news.length=m*zc.length) (h:∀j u,news[j]? =some u->w.cell? (a.add j)=some u) (W:∀u∈news,u.oneCell'=true)
 (y:n+m<=maxLen) (p:(n+m)*bytes<=140737488355328) (r:base<=w.heap.size) (Z:0<m):
 ∃F w',(Builtin.append_ #[t,t] ty #[v,.slice (some a) m c]).run P w=.ok F w'/\kS w' base e zc F (n+m) (xs++news)/\w.grownBy w' v.ownBlock/\((F.ownBlock=v.ownBlock/\w'.heap.size=w.heap.size)\/(F.ownBlock=some w.heap.size/\w'.heap.size=w.heap.size+1/\∀b,b<w.heap.size->w'.heap[b]? =w.heap[b]?)):=by
 subst J;have G:n+m<=9223372036854775807:=by simp only[maxLen]at y;omega
 have q:(xs++news).length=(n+m)*zc.length:=by rw[RM,f.1,x,TZ]
 have grown:∀(old:Nat),kS (w.drew.alloc (.cells (xs.toArray++news.toArray++Builtin.zeroCells z.cells (grownCap w (n+m) old e-(n+m))) e)) base e zc
  (.slice (some ⟨w.heap.size,0,none⟩) (n+m) (grownCap w (n+m) old e)) (n+m) (xs++news):=by
  intro old;refine⟨q,.inr ⟨w.heap.size,_,rfl,r,?_,grownCap_ge w (n+m) old e,grownCap_le_maxLen w (n+m) old e y,by omega⟩⟩;have e0:xs.toArray++news.toArray++Builtin.zeroCells z.cells (grownCap w (n+m) old e-(n+m))=(xs++news++cO zc (grownCap w (n+m) old e-(n+m))).toArray:=by apply Ug;simp only[Array.toList_append,mg,L]
  rw[<-e0];exact heap_alloc_new w.drew _
 have gb:∀(old:Nat) (row:Option Nat),w.grownBy (w.drew.alloc (.cells (xs.toArray++news.toArray++Builtin.zeroCells z.cells (grownCap w (n+m) old e-(n+m))) e)) row:=λold row=>⟨rfl,rfl,rfl,by simp,λk N _=>heap_alloc_old w.drew _ k N⟩
 obtain⟨rfl,rfl⟩|⟨g,cap,rfl,O,U,X,Q⟩:=f.2
 ·have Y:=Ss (by simpa using f.1)
  subst Y;have A:=run_append_nil (P:=P) w t ty e i z H I T a m c news (by rw[x,d]) h (by omega) (by omega) (by have B:=p;simp only[RB]at B;omega);have C:=grown 0;have D:=gb 0 (Value.ownBlock (.slice none 0 0));simp only[RB,Tc,S8]at C D⊢;exact⟨_,_,A,C,D,.inr ⟨rfl,by simp,λb B=>heap_alloc_old w.drew _ b B⟩⟩
 ·by_cases l:n+m<=cap
  ·have R:((xs++cO zc (cap-n)).toArray).size=cap*zc.length:=by
    simp only[RS,RM,iW,f.1,<-TZ]
    congr 1;omega
   have E:n*i.size+news.length<=((xs++cO zc (cap-n)).toArray).size:=by rw[x,R,d,<-TZ];exact Nat.mul_le_mul_right _ l
   have A:=run_append_room (P:=P) w t ty e i H I g n cap _ U a m c news (by rw[x,d]) h W l E;refine⟨_,_,A,⟨q,.inr ⟨g,cap,rfl,O,?_,l,Q.1,by omega⟩⟩,⟨rfl,rfl,rfl,by simp,λk _ N=>setRow_other w g k _ (λe=>N (by simp[Value.ownBlock,e]))⟩,.inl ⟨rfl,by simp⟩⟩;rw[setRow_heap w g _ _ e _ U]
   congr 2
   apply Ug;simp only[R8];rw[d,<-f.1];rw[List.take_left,VY,VY,<-UJ,List.drop_left,x,Dk zc _ _ (by omega)]
   congr 1;omega
  ·have s:=f.owns.cells (g:=g) rfl
   have A:=run_append_grow (P:=P) w t ty e i z H I T ⟨g,0,none⟩ n cap xs (by rw[f.1,d]) s a m c news (by rw[x,d]) h (by omega) (by omega) (growslice_fits (by omega) p);exact⟨_,_,A,grown cap,gb cap _,.inr ⟨rfl,by simp,λb B=>heap_alloc_old w.drew _ b B⟩⟩
variable {mn:Bool} {ty:TypeId} {Wg:Nat} {S:aK} {K M:Nat->Prop} {w:World} {b:Frame} {a:Act} {k:List Item} {cs:List Frame} {ops:Array Oper} {i:Nat} {rest:List Nat} {o:Oper}
def Dr{K M m}(h:Conc.Neutral m):EvK Wg K M ⟨.mark m,false,true⟩:=by have e:m=.noRoom:=h;subst e;exact⟨λx c=>by simp[MemAct.ofEvent,MemAct.touch?]at c,by simp,by simp,by simp,λB _=>trivial⟩
def Run.append(ho:ops[i]? =some o)(hw:Region.wanted o (yielded ops a.tmps)=true)(hk:b.kind≠ .early){s x t}(N:o.op=.call {callee:=.builtin .append,args:=#[s,x],argTypes:=#[t,t]})
 {v} {ad} {m c} (hs:a.eval s=v) (hx:a.eval x=.slice (some ad) m c)
 {base} {e} {inf} {z} {zc} {bytes} (ht:P.underlying t=some (.slice e)) (hi:P.info? e=some inf) (hz:inf.zero=some z) (y:inf.size=zc.length) (O:inf.bytes=bytes) (Y:z.cells.toList=zc) (Z:0<zc.length)
 {n} {xs news} (Q:kS w base e zc v n xs) (B:∀g,v.ownBlock=some g->K g/\M g/\g≠Wg) (R:K ad.block) (hl:news.length=m*zc.length) (E:∀j u,news[j]? =some u->w.cell? (ad.add j)=some u) (h1:∀u∈news,u.oneCell'=true)
 (T:n+m<=maxLen) (p:(n+m)*bytes<=140737488355328) (F:base<=w.heap.size) (hm:0<m) (aa:∀b,K b->b<w.heap.size) (ab:Wg<w.heap.size)
 (hn:∀(U X) H w',kS w' base e zc H (n+m) (xs++news)->(∀g,H.ownBlock=some g->U g/\X g/\g≠Wg/\(some g=v.ownBlock\/w.heap.size<=g))->(∀b,K b->some b≠v.ownBlock->w'.heap[b]? =w.heap[b]?)->w.heap.size<=w'.heap.size->(WgLive ty Wg w->WgLive ty Wg w')->(∀b,K b->U b)->(∀b,U b->K b\/w.heap.size<=b)->(∀b,U b->b<w'.heap.size)->(∀b,M b->X b)->(∀b,X b->M b\/w.heap.size<=b)->Run P mn ty Wg S U X (G (b.at (a.put o.dst H) (.inRegion ops rest::k)) cs) w'):
 Run P mn ty Wg S K M (G (b.at a (.inRegion ops (i::rest)::k)) cs) w:=by
 refine .value ho hw hk λw₁ d=>?_;have l:=Q.keep λg C=>d.keep g (B g C).1;have V:∀j,(ad.add j).block=ad.block:=λj=>by unfold Addr.add;split<;>rfl
 have f:∀j u,news[j]? =some u->w₁.cell? (ad.add j)=some u:=λj u hu=>(World.cell?_of_block (d.keep _ (by rw[V];exact R))).trans (E j u hu);obtain⟨H,w',hr,af,C,I⟩:=ni (P:=P) w₁ base t o.type e inf z zc bytes ht hi hz y O Y Z v n xs l ad m c news hl f h1 T p (Rr F d.size) hm;have q:∀b,K b->b<w₁.heap.size:=λb hb=>Ru (aa b hb) d.size;have W:(execOp a.eval o).run P w₁=.ok (.value H) w':=by unfold execOp;simp only[N,resolve,invoke,builtin,Sem.run_bind,Sem.run_pure,Result.andThen_ok,List.map_toArray,UT,List.map_nil,hs,hx,hr]
 refine⟨H,w',W,⟨C.os,C.tape,C.output,C.size,λb hb ag=>C.block b hb λe=>?_⟩,λev J=>?_,?_⟩
 ·exact ag (B b e.symm).2.1
 ·rw[events_append_op s x t N hs hx]at J
  rcases events_append_where (P:=P) w₁ base t o.type e inf z zc.length bytes ht hi hz y O v n xs l.owns ad m c news hl f h1 T p ev J with⟨A,hA,r⟩|⟨mk,rfl,ak⟩
  ·obtain⟨ax,wr,sy⟩:=ev
   simp only at hA r;subst hA;have L:sy=false:=by
    rcases(AS #[t,t] o.type #[v,.slice (some ad) m c]).cells P w₁ #[] _ J with h|h
    ·simp at h
    ·exact h A rfl
   subst L;obtain⟨rfl,hb⟩|hb:=r
   ·exact rD (.inl (by rw[hb];exact R))
   ·have:=B A.block hb.symm
    cases wr with
    |false=>exact rD (.inl this.1)
    |true=>exact ze (.inl this.1) (.inl this.2.1)
  ·exact Dr ak
 ·have al:=C.block Wg (Ru ab d.size) λe=>(B Wg e.symm).2.2 rfl
  refine hn _ _ H w' af (λg D=>?_) (λb hb an=>(C.block b (q b hb) an).trans (d.keep b hb)) (Rr d.size C.size) (λao=>?_) (λb hb=>.inl hb) (λb hb=>hb.imp id λx=>Rr d.size x.1) (λb hb=>hb.elim (λx=>Ru (q b x) C.size) λx=>x.2) (λb hb=>.inl hb) (λb hb=>hb.imp id λx=>Rr d.size x.1)
  ·obtain⟨e1,_⟩|⟨e1,e2,_⟩:=I
   ·rw[e1]at D
    have:=B g D;exact⟨.inl this.1,.inl this.2.1,this.2.2,.inl D.symm⟩
   ·rw[e1]at D
    cases D;exact⟨.inr ⟨Rq _,by omega⟩,.inr ⟨Rq _,by omega⟩,by have:=d.size;omega,.inr d.size⟩
  ·obtain⟨st,sm,ar⟩:=d.live ao
   exact⟨st,sm,ar.of_block al⟩
end
section
variable {P:Program} {mn:Bool} {ty:TypeId} {Wg:Nat} {S:aK}
def EvK.mono{K f M g:Nat->Prop}{e}(h:EvK Wg K M e)(i:∀b,K b->f b)(j:∀b,M b->g b):EvK Wg f g e:=by refine⟨λx k=>?_,h.2⟩;obtain⟨b,l,m⟩:=h.1 x k;refine⟨b,l,m.imp (λ⟨a,c,d⟩=>⟨a,i b c,λn=>j b (d n)⟩) id⟩
def rI{K a:Nat->Prop}(h:∀b,K b->a b)(w w' b)(c:orK K w w' b):orK a w w' b:=c.imp (h b) id
def OF(S:aK)(B:Nat->Prop)(w₀:World):aK:=λK M g w=>∃a c,S a c g w/\(∀b,a b->K b)/\(∀b,c b->M b)/\(∀b,K b->b<w.heap.size)/\(∀b,B b->K b/\¬M b/\w.heap[b]? =w₀.heap[b]?)/\(WgLive ty Wg w₀->WgLive ty Wg w)/\w₀.heap.size<=w.heap.size
def Run.frame{B w₀ c d g w}(h:Run P mn ty Wg S c d g w):∀{K₂ M₂},(∀b,c b->K₂ b)->(∀b,d b->M₂ b)->(∀b,K₂ b->b<w.heap.size)->
 (∀b,B b->K₂ b/\¬M₂ b/\w.heap[b]? =w₀.heap[b]?)->(WgLive ty Wg w₀->WgLive ty Wg w)->(Wg<w.heap.size/\¬M₂ Wg)->w₀.heap.size<=w.heap.size->Run P mn ty Wg (OF (ty:=ty) (Wg:=Wg) S B w₀) K₂ M₂ g w:=by
 induction h with
 | @stop c d g w h=>
  intro K₂ M₂ l j o q r i s;refine .stop λw₁ a=>⟨c,d,h w₁ ⟨λb hb=>a.keep b (l b hb),a.live,a.size⟩,l,j,λb hb=>Ru (o b hb) a.size,λb hb=>?_,λx=>a.live (r x),Rr s a.size⟩
  obtain⟨a1,p,t⟩:=q b hb;exact⟨a1,p,(a.keep b a1).trans t⟩
 | @step c d g w u m A C=>
  intro K₂ M₂ l j o q r i s;have rk:∀w₁,RK ty Wg K₂ w w₁->RK ty Wg c w w₁:=λw₁ a=>⟨λb hb=>a.keep b (l b hb),a.live,a.size⟩
  refine .jh u λw₁ a=>?_;obtain⟨g',w',es,e1,f,e3⟩:=m w₁ (rk w₁ a);refine⟨g',w',es,e1,⟨f.os,f.tape,f.output,f.size,λb hb D=>f.keep b hb λx=>D (j b x)⟩,λe E=>(e3 e E).mono (rI l w₁ w') (rI j w₁ w'),?_⟩;have k:=Ru i.1 a.size;have v:=f.keep Wg k λx=>i.2 (j Wg x);refine C w₁ g' w' es (rk w₁ a) e1 (rI l w₁ w') (rI j w₁ w') (λb hb=>?_) (λb hb=>?_) (λx=>?_) ⟨Ru k f.size,λx=>?_⟩ (Rr (Rr s a.size) f.size)
  ·obtain hb|hb:=hb
   ·exact Ru (Ru (o b hb) a.size) f.size
   ·exact hb.2
  ·obtain⟨a1,p,t⟩:=q b hb
   have n:=Ru (o b a1) a.size;refine⟨.inl a1,λx=>x.elim p λy=>absurd y.1 (Uu.2 n),?_⟩;rw[f.keep b n λx=>p (j b x),a.keep b a1,t]
  ·obtain⟨st,sm,z⟩:=a.live (r x)
   exact⟨st,sm,z.of_block v⟩
  ·exact x.elim i.2 λy=>absurd y.1 (Uu.2 k)
end
section
variable {S:Kn} {P:Program} {fs:Array Func}
def Du(c:Tab S P fs)(b:∀f,S.stop f=false){π:Ren P.globals.size}{f:FuncId}(d:S.ent f=true){a A}(e:VsR π a A):aZ S π (Frame.enter (ah P fs) f a .normal) (Frame.enter P f A .normal):=by
 rcases sV (π:=π) c f (.inr d) (λx=>by rw[b f]at x;cases x) e (cs:=[aI]) (by simp)with h|⟨_,g,a1,A1,h1,_⟩
 ·exact h
 ·rw[b g]at h1;cases h1
def wU{P f a w}:(⟨Frame.enter P f a .normal,[],w⟩:Gh).Flat:=by intro b c;simp[rb,Frame.enter]at c;exact c.symm▸rfl
def oe(d:Tab S P fs)(c:∀f,S.stop f=false){Pr Post π}{f:FuncId}(h:S.ent f=true){a A}(i:VsR π a A){w W}(j:bj S Pr π w W)(k:∀g,S.dB g=true->π g g)
 (l:∀b,b.heap=w.heap->Calls (ah P fs) f a b λe w'=>∃v,e=.returned v/\Post v w'):
 Cp S P fs Pr Post π ⟨Frame.enter (ah P fs) f a .normal,[],av w (λ_ _=>0) 0⟩ (Frame.enter P f A .normal) [] W:=
 ⟨Du d c h i,.nil,j.heap rfl rfl,wU,CO (λ_ _=>lM) λτ _ _=>l _ rfl,k⟩
def og{G B a}(h:∀x∈a,az (idR G B) x x):VsR (idR G B) a a:=aU.refl h
def FI(q:Tab S P fs)(a:∀f,S.stop f=false){f:FuncId}(s:S.ent f=true){args B W}(k:∀b,B b->∃c e F,W.heap[b]? =some (.cells c e F))(t:P.globals.size<=W.heap.size)(u:∀g,S.dB g=true->B g)
 (y:∀x∈args,az (idR P.globals.size B) x x) {Post}
 (A:∀w,w.heap=(bZ (idR P.globals.size B) B W).heap->Calls (ah P fs) f args w λe w'=>∃v,e=.returned v/\Post v w')
 (C:∀w,w.heap=(bZ (idR P.globals.size B) (λ_=>False) W).heap->Calls (ah P fs) f args w λe w'=>∃v,e=.returned v/\∀b,b<w.heap.size->w'.heap[b]? =w.heap[b]?):
 ∃D E,iw S P fs (idR P.globals.size B) W (bZ (idR P.globals.size B) (λ_=>False) W) Post (idR P.globals.size B) (idR P.globals.size B) D E (Frame.enter P f args .normal) [] W:=by
 have d:∀(Pr:Nat->Prop) b,B b->∃o,W.heap[b]? =some o/\((∃c e f,o=.cells c e f)\/(¬Pr b/\(∀c e f,o≠ .cells c e f)/\fA S (idR P.globals.size B) o o)):=λPr b i=>by obtain⟨c,e,F,h⟩:=k b i;exact⟨_,h,.inl ⟨c,e,F,rfl⟩⟩
 have e:(λR=>∃r,(idR P.globals.size B) r R)=B:=funext λR=>propext ⟨λ⟨r,l,m⟩=>l▸m,λh=>⟨R,rfl,h⟩⟩;have n:bj S (λR=>∃r,(idR P.globals.size B) r R) (idR P.globals.size B) (bZ (idR P.globals.size B) B W) W:=by rw[e];exact j5 (d B) (λ_ h=>h) t
 have p:=j5 (S:=S) (Pr:=λ_=>False) (d λ_=>False) (λ_ h=>h.elim) t;refine⟨_,_,⟨oe q a s (og y) n (λg h=>⟨rfl,u g h⟩) A,oe q a s (og y) p (λg h=>⟨rfl,u g h⟩) λw h=>(C w h).mono ?_,Ren.le_refl _,Ren.le_refl _,?_,λ_ _ _=>rfl,λR=>Ty⟩⟩
 ·rintro I w' ⟨v,l,m⟩
  refine⟨v,l,λr R G=>?_⟩;obtain⟨rfl,i⟩:=G;obtain⟨c,z,F,j⟩:=k r i;have H:r<w.heap.size:=by rw[h,ky];exact(Rx.1 j).1
  rw[m r H,h]
 ·rintro r R ⟨rfl,i⟩
  obtain⟨c,z,F,j⟩:=k r i;refine⟨c.map (mask (idR P.globals.size B)),c,z,F,?_,j⟩;rw[fG,j];simp[jS]
def Nf(p:Tab S P fs)(a:∀f,S.stop f=false)(i:∀g,S.calm g){f:FuncId}(D:S.ent f=true){args K W ty Wg mn}(E:P.globals.size<=W.heap.size)
 (G:∀g,S.dB g=true->K g/\∃c e F,W.heap[g]? =some (.cells c e F)) (q:∀b,K b->b<W.heap.size) (s:Wg<W.heap.size) (j:WgLive ty Wg W)
 (H:∀x∈args,az (idR P.globals.size λb=>K b/\∃c e F,W.heap[b]? =some (.cells c e F)) x x) {V} (I:∀(π:Ren P.globals.size) v,az π V v->v=V)
 (u:∀(fz) (w),w.heap=(bZ (idR P.globals.size λb=>K b/\∃c e F,W.heap[b]? =some (.cells c e F)) fz W).heap->Calls (ah P fs) f args w λe w'=>e=.returned V/\∀b,b<w.heap.size->w'.heap[b]? =w.heap[b]?)
 (Q) (C) (cs) (m:∀k n w',(∀b,K b->k b/\¬n b/\w'.heap[b]? =W.heap[b]?)->(∀b,k b->b<w'.heap.size)->WgLive ty Wg w'->Run P mn ty Wg Q k n ⟨C.finish V,cs,.running,none,none⟩ w'):
 Run P mn ty Wg Q K (λ_=>False) ⟨Frame.enter P f args .normal,C::cs,.running,none,none⟩ W:=by
 obtain⟨J,L,M⟩:=FI (Post:=λv _=>v=V) p a D (B:=λb=>K b/\∃c e F,W.heap[b]? =some (.cells c e F)) (W:=W) (λb h=>h.2) E (λg h=>G g h) H
  (λw h=>(u _ w h).mono λe w' h=>⟨V,h.1,rfl⟩) (λw h=>(u _ w h).mono λe w' h=>⟨V,h.1,h.2⟩)
 have o:=tT (mn:=mn) (ty:=ty) (Wg:=Wg) (B:=C::cs) (Q:=λk n g w'=>g=⟨C.finish V,cs,.running,none,none⟩) p a i (idR P.globals.size λb=>K b/\∃c e F,W.heap[b]? =some (.cells c e F)) (λN O J L F W' hI h R=>?_) (Ren.le_refl _) M
 ·refine(o.frame (K₂:=K) (M₂:=λ_=>False) (B:=K) (w₀:=W) (λb ⟨r,y⟩=>?_) (λb l=>?_) q (λb l=>⟨l,id,rfl⟩) id ⟨s,id⟩ (Rq _)).bind ?_
  ·exact y.1▸y.2.1
  ·exact l.2 l.1
  ·rintro k n g w' ⟨K1,M1,rfl,_,_,T,U,X,h6⟩
   exact m k n w' (λb l=>U b l) T (X j)
 ·refine .jh rfl λz d=>?_
  have Y:=h.CQ d.keep d.size;obtain⟨v,V',w',t,ev,A,a1,Z,a3,a4,a5,a6,_⟩:=Y.leave p R C cs mn Wg;subst Z;have:=I _ _ a3;subst this;exact⟨_,t,ev,a1,a4,a5,.stop λ_ _=>rfl⟩
def Dv(s:Tab S P fs)(a:∀f,S.stop f=false){f:FuncId}(t:S.ent f=true){args}{B O:Nat->Prop}{W}(l:∀b,B b->∃c e F,W.heap[b]? =some (.cells c e F))(u:P.globals.size<=W.heap.size)(y:∀g,S.dB g=true->B g)
 (z:∀x∈args,az (idR P.globals.size B) x x) {Post}
 (C:∀w,w.heap=(bZ (idR P.globals.size B) (λb=>B b/\¬O b) W).heap->Calls (ah P fs) f args w λe w'=>∃v,e=.returned v/\Post v w')
 (D:∀w,w.heap=(bZ (idR P.globals.size B) (λ_=>False) W).heap->Calls (ah P fs) f args w λe w'=>∃v,e=.returned v/\∀b,b<w.heap.size->¬O b->w'.heap[b]? =w.heap[b]?):
 ∃E G,iw S P fs (idR P.globals.size λb=>B b/\¬O b) W (bZ (idR P.globals.size B) (λ_=>False) W) Post (idR P.globals.size B) (idR P.globals.size B) E G (Frame.enter P f args .normal) [] W:=by
 have d:∀(Pr:Nat->Prop) b,B b->∃o,W.heap[b]? =some o/\((∃c e f,o=.cells c e f)\/(¬Pr b/\(∀c e f,o≠ .cells c e f)/\fA S (idR P.globals.size B) o o)):=λPr b i=>by obtain⟨c,e,F,h⟩:=l b i;exact⟨_,h,.inl ⟨c,e,F,rfl⟩⟩
 have e:(λR=>∃r,(idR P.globals.size λb=>B b/\¬O b) r R)=λb=>B b/\¬O b:=funext λR=>propext ⟨λ⟨r,m,n⟩=>m▸n,λh=>⟨R,rfl,h⟩⟩;have p:bj S (λR=>∃r,(idR P.globals.size λb=>B b/\¬O b) r R) (idR P.globals.size B) (bZ (idR P.globals.size B) (λb=>B b/\¬O b) W) W:=by rw[e];exact j5 (d _) (λ_ h=>h.1) u
 have q:=j5 (S:=S) (Pr:=λ_=>False) (d λ_=>False) (λ_ h=>h.elim) u;have j:Ren.le (idR P.globals.size λb=>B b/\¬O b) (idR P.globals.size B):=λr R h=>⟨h.1,h.2.1⟩
 refine⟨_,_,⟨oe s a t (og z) p (λg h=>⟨rfl,y g h⟩) C,oe s a t (og z) q (λg h=>⟨rfl,y g h⟩) λw h=>(D w h).mono ?_,j,j,?_,λ_ _ _=>rfl,λR=>Ty⟩⟩
 ·rintro K w' ⟨v,m,n⟩
  refine⟨v,m,λr R H=>?_⟩;obtain⟨rfl,i,I⟩:=H;obtain⟨c,A,F,k⟩:=l r i;have J:r<w.heap.size:=by rw[h,ky];exact(Rx.1 k).1
  rw[n r J I,h]
 ·rintro r R ⟨rfl,i,_⟩
  obtain⟨c,A,F,k⟩:=l r i;refine⟨c.map (mask (idR P.globals.size B)),c,A,F,?_,k⟩;rw[fG,k];simp[jS]
def K4(z:Tab S P fs)(d:∀f,S.stop f=false)(k:∀g,S.calm g){f:FuncId}(hf:S.ent f=true){args}{K M O:Nat->Prop}{W ty Wg mn}(hG:P.globals.size<=W.heap.size)
 (hg:∀g,S.dB g=true->K g/\∃c e F,W.heap[g]? =some (.cells c e F)) (A:∀b,K b->b<W.heap.size) (D:Wg<W.heap.size) (l:WgLive ty Wg W) (E:¬M Wg) (G:∀b,O b->M b)
 (n:∀b,O b->K b/\∃c e F,W.heap[b]? =some (.cells c e F))
 (ha:∀x∈args,az (idR P.globals.size λb=>K b/\∃c e F,W.heap[b]? =some (.cells c e F)) x x) {Post:Value->World->Prop} {T:Value->(Nat->Option Obj)->Prop}
 (hT:∀(Pr) (π) v V w w',Ren.le (idR P.globals.size λb=>K b/\∃c e F,W.heap[b]? =some (.cells c e F)) π->Post v w->az π v V->bj S Pr π w w'->∀h,(∀b,O b->h b=w'.heap[b]?)->T V h)
 (U:∀(fz) (w),(∀b,O b->¬fz b)->w.heap=(bZ (idR P.globals.size λb=>K b/\∃c e F,W.heap[b]? =some (.cells c e F)) fz W).heap->Calls (ah P fs) f args w λe w'=>∃v,e=.returned v/\Post v w'/\∀b,b<w.heap.size->¬O b->w'.heap[b]? =w.heap[b]?)
 (Q) (C) (cs) (o:∀i p w' V,(∀b,K b->¬M b->i b/\¬p b/\w'.heap[b]? =W.heap[b]?)->(∀b,i b->b<w'.heap.size)->WgLive ty Wg w'->T V (λb=>w'.heap[b]?)->(∀b,O b->i b)->Run P mn ty Wg Q i p ⟨C.finish V,cs,.running,none,none⟩ w'):
 Run P mn ty Wg Q K M ⟨Frame.enter P f args .normal,C::cs,.running,none,none⟩ W:=by
 obtain⟨cA,cB,hD⟩:=Dv (O:=O) (Post:=Post) z d hf (B:=λb=>K b/\∃c e F,W.heap[b]? =some (.cells c e F)) (W:=W) (λb h=>h.2) hG (λg h=>hg g h) ha
  (λw h=>(U _ w (λb a x=>x.2 a) h).mono λe w' ⟨v,H,h2,_⟩=>⟨v,H,h2⟩) (λw h=>(U _ w (λb a x=>x) h).mono λe w' ⟨v,H,_,I⟩=>⟨v,H,I⟩)
 have q:=tT (mn:=mn) (ty:=ty) (Wg:=Wg) (B:=C::cs) (Q:=λi p g w'=>∃V,g=⟨C.finish V,cs,.running,none,none⟩/\T V (λb=>w'.heap[b]?)/\∀b,O b->i b) z d k (idR P.globals.size λb=>K b/\∃c e F,W.heap[b]? =some (.cells c e F)) (λaa ab cA cB F W' J h he=>?_) (Ren.le_refl _) hD
 ·refine(q.frame (K₂:=K) (M₂:=M) (B:=λb=>K b/\¬M b) (w₀:=W) (λb ⟨r,m⟩=>?_) (λb a=>?_) A (λb a=>⟨a.1,a.2,rfl⟩) id ⟨D,E⟩ (Rq _)).bind ?_
  ·exact m.1▸m.2.1
  ·obtain⟨⟨r,m⟩,hn⟩:=a
   obtain⟨rfl,m⟩:=m;exact G r (SQ λho=>hn ⟨r,rfl,m,ho⟩)
  ·rintro i p g w' ⟨K1,M1,⟨V,rfl,L,s⟩,N,_,I,h4,h5,h6⟩
   exact o i p w' V (λb a hm=>h4 b ⟨a,hm⟩) I (h5 l) L λb a=>N b (s b a)
 ·refine .jh rfl λX j=>?_
  have h':=h.CQ j.keep j.size;obtain⟨v,Y,w',t,ev,u,a1,a2,a3,a4,a5,a6,a7,a8⟩:=h'.leave z he C cs mn Wg;have R:=Ren.le_trans J a8;refine⟨_,t,ev,a1,a4,a5,.stop λZ y=>⟨Y,rfl,hT _ u v Y w' t R a2 a3 a7 _ λb a=>y.keep b (.inl ⟨b,J b b ⟨rfl,n b a⟩⟩),λb a=>.inl ⟨b,J b b ⟨rfl,n b a⟩⟩⟩⟩
end
end Go.Tm

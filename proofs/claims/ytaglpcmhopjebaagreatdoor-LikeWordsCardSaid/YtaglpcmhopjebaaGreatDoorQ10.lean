import Derived.Conc.AppendWalk
import Derived.Conc.CrowdBase
import Derived.Conc.CrowdComm
import Derived.Test.YtaglpcmhopjebaaGreatDoorQ9
set_option linter.all false
set_option maxRecDepth 100000
set_option maxHeartbeats 20000000
namespace Go.Tm
open Go.Conc Go.ConcN
def cu(zc:List Value)(k:Nat):List Value:=(List.replicate k zc).flatten
def iY(zc k):(cu zc k).length=k*zc.length:=by
 unfold cu;induction k with
 |zero=>simp
 |succ k c=>simp[List.replicate_succ,c,Uo];omega
def DU(zc a b)(h:b<=a):(cu zc a).drop (b*zc.length)=cu zc (a-b):=by obtain⟨k,rfl⟩:=UE h;unfold cu;rw[<-List.replicate_append_replicate,List.flatten_append,List.drop_append_of_le_length (by rw[<-cu,iY];exact R2 _)];have:((List.replicate b zc).flatten).drop (b*zc.length)=[]:=SJ (by rw[<-cu,iY];exact R2 _);rw[this];simp
def mr(z k):(Builtin.zeroCells z k).toList=cu z.toList k:=by
 unfold Builtin.zeroCells;simp only[Array.toList_map,Array.toList_range];induction k with
 |zero=>simp[cu]
 |succ k d=>
  have e:cu z.toList (k+1)=cu z.toList k++z.toList:=by unfold cu;rw[List.replicate_succ',List.flatten_append];simp
  rw[e,<-d,Uo,Nat.one_mul,List.range_add,T7]
  congr 1
  rw[List.map_map];apply Vq
  ·simp
  ·intro i g f
   simp only[UD,Function.comp,Vv,Vf];have c:i<z.size:=by simpa using f
   rw[show(k*z.size+i)%z.size=i from by rw[UA,Nat.add_mul_mod_self_right,Nat.mod_eq_of_lt c]];simp[c]
inductive aS{α:Type}:Sem α->Prop
 |pure (a):aS (.pure a)
 |halt (h):aS (.halt h)
 |load (a) {k}:(∀v,aS (k v))->aS (.load .plain a k)
 |store (a v) {k}:aS k->aS (.store .plain a v k)
 |new (o) {k}:(∀r,aS (k r))->aS (.new o k)
 |shape (r) {k}:(∀x,aS (k x))->aS (.shape r k)
 |frozen (a) {k}:(∀x,aS (k x))->aS (.frozen a k)
 |choose (q) {k}:(∀x,aS (k x))->aS (.choose q k)
 |program {k}:(∀x,aS (k x))->aS (.program k)
 |mark (m) {k}:aS k->aS (.mark m k)
def aS.bind{d e s}{f:d->Sem e}(h:aS s)(g:∀a,aS (f a)):aS (s>>= f):=by
 show aS (s.bind f);induction h with
 |pure a=>exact g a
 |halt h=>exact .halt h
 |load a _ c=>exact .load a c
 |store a v _ c=>exact .store a v c
 |new o _ c=>exact .new o c
 |shape r _ c=>exact .shape r c
 |frozen a _ c=>exact .frozen a c
 |choose q _ c=>exact .choose q c
 |program _ c=>exact .program c
 |mark m _ c=>exact .mark m c
def aS.cells{g}{s:Sem g}(h:aS s):∀(P) (w) (es),∀ev∈(s.runT P w es).2,ev∈es\/∀A,ev.loc=.cell A->ev.sync=false:=by
 induction h with
 |pure a=>exactλP w es ev h=>.inl h
 |halt a=>exactλP w es ev h=>.inl h
 |load a _ d=>
  intro P w es ev h;simp only[Sem.runT]at h;split at h
  ·obtain h|h:=d _ P _ _ ev h
   ·obtain h|rfl:=Un.1 h
    ·exact .inl h
    ·exact .inr λ_ _=>rfl
   ·exact .inr h
  ·split at h
   ·obtain h|h:=d _ P _ _ ev h
    ·obtain h|h:=Tf.1 h
     ·exact .inl h
     ·obtain⟨_,_,rfl⟩:=UU.1 h
      exact .inr λ_ _=>rfl
    ·exact .inr h
   ·exact .inl h
 | @store a v k _ d=>
  intro P w es ev h;by_cases f:(∀c,v≠ .agg c)/\(∀c,v≠ .tuple c)
  ·rw[iA P a v k w es f.1 f.2]at h
   split at h
   ·split at h
    ·exact .inl h
    ·obtain h|h:=d P _ _ ev h
     ·obtain h|rfl:=Un.1 h
      ·exact .inl h
      ·exact .inr λ_ _=>rfl
     ·exact .inr h
   ·split at h
    ·obtain h|h:=d P _ _ ev h
     ·obtain h|h:=Tf.1 h
      ·exact .inl h
      ·obtain⟨_,_,rfl⟩:=UU.1 h
       exact .inr λ_ _=>rfl
     ·exact .inr h
    ·exact .inl h
  ·cases v<;>first|(simp at f;done)|exact .inl h
 |new o _ d=>exactλP w es ev h=>d _ P _ _ ev h
 |shape r _ d=>exactλP w es ev h=>d _ P _ _ ev h
 |frozen a _ d=>exactλP w es ev h=>d _ P _ _ ev h
 |choose q _ d=>
  intro P w es ev h;simp only[Sem.runT]at h;split at h
  ·exact d _ P _ _ ev h
  ·exact d _ P _ _ ev h
 |program _ d=>exactλP w es ev h=>d _ P _ _ ev h
 |mark m _ d=>
  intro P w es ev h;obtain h|h:=d P _ _ ev h
  ·obtain h|rfl:=Un.1 h
   ·exact .inl h
   ·exact .inr λA e=>by cases e
  ·exact .inr h
theorem jL(a):∀(n i) (acc),aS (loadCellsFrom a i n acc)
 |0,_,_=>.pure _
 |n+1,i,acc=>aS.bind (.load _ λv=>.pure v) λv=>jL a n (i+1) _
theorem mv(a):∀(c) (i),aS (storeCells a c i)
 | [],_=>.pure _
 |v::c,i=>aS.bind (.store _ _ (.pure _)) λ_=>mv a c (i+1)
def td(t):aS (underlying t):=by
 unfold underlying;refine aS.bind (.program λ_=>.pure _) λp=>?_;split
 ·exact .pure _
 ·exact .halt _
def kG(t):aS (typeInfo t):=by
 unfold typeInfo;refine aS.bind (.program λ_=>.pure _) λp=>?_;split
 ·exact .pure _
 ·exact .halt _
def A6(t):aS (Go.sizeOf t):=by unfold Go.sizeOf;exact aS.bind (kG t) λ_=>.pure _
def uG(t):aS (zeroValue t):=by
 unfold zeroValue;refine aS.bind (kG t) λi=>?_;split
 ·exact .pure _
 ·exact .halt _
def te(size n x):aS (Builtin.firstCells size n x):=by
 unfold Builtin.firstCells;split
 ·exact jL _ _ _ _
 ·exact .pure _
 ·exact .pure _
 ·exact .halt _
def DV(v):aS (asInt v):=by
 unfold asInt asIntOf;refine aS.bind ?_ λ_=>.pure _;split
 ·exact .pure _
 ·exact .halt _
 ·exact .halt _
def DX(v):aS (Builtin.lenOf v):=by
 unfold Builtin.lenOf;split
 ·exact .pure _
 ·exact .pure _
 ·exact .halt _
def DY{c}(e):aS (runtimePanic e:Sem c):=by unfold runtimePanic;repeat' (first|exact .pure _|exact .halt _|exact .program λ_=>.pure _|exact .new _ λ_=>.pure _|refine aS.bind ?_ λ_=>?_|split)
def yl(n):aS (askRoom n):=by
 unfold askRoom;split
 ·exact .mark _ (.pure _)
 ·exact .pure _
def tf(a n):aS (Builtin.holdsCells a n):=by unfold Builtin.holdsCells;refine aS.bind (.shape _ λ_=>.pure _) λx=>?_;split<;>exact .pure _
def wY{c}(a):aS (Pure.pure a:Sem c):=.pure a
def DZ{c}(m):aS (stuck m:Sem c):=.halt _
def rG{c}(m):aS (unsupported m:Sem c):=.halt _
def A7(q):aS (choose q):=.choose _ λ_=>.pure _
def Gf(m):aS (mark m):=.mark _ (.pure _)
def A8(e c):aS (newRow e c):=by unfold newRow;exact aS.bind (.new _ λ_=>.pure _) λ_=>.pure _
def Jh{d c}[Decidable c]{s t:Sem d}(h:aS s)(e:aS t):aS (if c then s else t):=by split<;>assumption
def A9(a):aS (frozen a):=.frozen _ λ_=>.pure _
def wZ(a b n x v):aS (Builtin.mayShare a b n x v):=by unfold Builtin.mayShare;repeat' (with_reducible first|exact wY _|exact tf _ _|exact A9 _|refine aS.bind ?_ λ_=>?_|split|dsimp only)
def Bb(ts t as):aS (Builtin.append_ ts t as):=by
 unfold Builtin.append_;repeat' (with_reducible first
  |exact wY _|exact DZ _|exact rG _|exact DY _|exact td _|exact kG _|exact A6 _|exact uG _|exact te _ _ _|exact mv _ _ _
  |exact A7 _|exact Gf _|exact A8 _ _|exact DV _|exact DX _|exact yl _|exact wZ _ _ _ _ _
  |refine Jh ?_ ?_|refine aS.bind ?_ λ_=>?_|split|dsimp only)
def lh(w:World)(base:Nat)(e:TypeId)(zc:List Value)(v:Value)(n:Nat)(xs:List Value):Prop:=xs.length=n*zc.length/\((v=.slice none 0 0/\n=0)\/∃g cap,v=.slice (some ⟨g,0,none⟩) n cap/\base<=g/\w.heap[g]? =some (.cells (xs++cu zc (cap-n)).toArray e (0,0))/\n<=cap/\cap<=maxLen/\0<n)
def lh.owns{w base e zc v n xs}(h:lh w base e zc v n xs):w.ownsRow base e zc.length v n xs:=by
 refine⟨h.1,h.2.imp id ?_⟩;rintro⟨g,cap,rfl,c,d,f,j⟩;refine⟨g,cap,_,rfl,c,d,f,j.1,?_,?_⟩
 ·simp only[Su,Sr,iY,h.1,<-Uo]
  congr 1;omega
 ·rw[<-h.1];simp
def lh.keep{w w' base e zc v n xs}(h:lh w base e zc v n xs)(c:∀g,v.ownBlock=some g->w'.heap[g]? =w.heap[g]?):lh w' base e zc v n xs:=by refine⟨h.1,h.2.imp id ?_⟩;rintro⟨g,cap,rfl,d,f,j,l⟩;exact⟨g,cap,rfl,d,(c g rfl).trans f,j,l⟩
section
variable {P:Program}
def np(w base t ty e i z zc bytes)(H:P.underlying t=some (.slice e))(I:P.info? e=some i)(T:i.zero=some z)
 (d:i.size=zc.length) (J:i.bytes=bytes) (L:z.cells.toList=zc) (V:0<zc.length)
 (v) (n) (xs) (f:lh w base e zc v n xs)
 (a) (m c) (news) (x:news.length=m*zc.length) (h:∀j u,news[j]? =some u->w.cell? (a.add j)=some u) (W:∀u∈news,u.oneCell'=true)
 (y:n+m<=maxLen) (p:(n+m)*bytes<=140737488355328) (r:base<=w.heap.size) (Z:0<m):
 ∃F w',(Builtin.append_ #[t,t] ty #[v,.slice (some a) m c]).run P w=.ok F w'/\lh w' base e zc F (n+m) (xs++news)/\w.grownBy w' v.ownBlock/\((F.ownBlock=v.ownBlock/\w'.heap.size=w.heap.size)\/(F.ownBlock=some w.heap.size/\w'.heap.size=w.heap.size+1/\∀b,b<w.heap.size->w'.heap[b]? =w.heap[b]?)):=by
 subst J;have G:n+m<=9223372036854775807:=by simp only[maxLen]at y;omega
 have q:(xs++news).length=(n+m)*zc.length:=by rw[Sr,f.1,x,Uo]
 have grown:∀(old:Nat),lh (w.drew.alloc (.cells (xs.toArray++news.toArray++Builtin.zeroCells z.cells (grownCap w (n+m) old e-(n+m))) e)) base e zc
  (.slice (some ⟨w.heap.size,0,none⟩) (n+m) (grownCap w (n+m) old e)) (n+m) (xs++news):=by
  intro old;refine⟨q,.inr ⟨w.heap.size,_,rfl,r,?_,grownCap_ge w (n+m) old e,grownCap_le_maxLen w (n+m) old e y,by omega⟩⟩;have e0:xs.toArray++news.toArray++Builtin.zeroCells z.cells (grownCap w (n+m) old e-(n+m))=(xs++news++cu zc (grownCap w (n+m) old e-(n+m))).toArray:=by apply UI;simp only[Array.toList_append,mr,L]
  rw[<-e0];exact heap_alloc_new w.drew _
 have gb:∀(old:Nat) (row:Option Nat),w.grownBy (w.drew.alloc (.cells (xs.toArray++news.toArray++Builtin.zeroCells z.cells (grownCap w (n+m) old e-(n+m))) e)) row:=λold row=>⟨rfl,rfl,rfl,by simp,λk N _=>heap_alloc_old w.drew _ k N⟩
 obtain⟨rfl,rfl⟩|⟨g,cap,rfl,O,U,X,Q⟩:=f.2
 ·have Y:=S8 (by simpa using f.1)
  subst Y;have A:=run_append_nil (P:=P) w t ty e i z H I T a m c news (by rw[x,d]) h (by omega) (by omega) (by have B:=p;simp only[Se]at B;omega);have C:=grown 0;have D:=gb 0 (Value.ownBlock (.slice none 0 0));simp only[Se,Uj,TA]at C D⊢;exact⟨_,_,A,C,D,.inr ⟨rfl,by simp,λb B=>heap_alloc_old w.drew _ b B⟩⟩
 ·by_cases l:n+m<=cap
  ·have R:((xs++cu zc (cap-n)).toArray).size=cap*zc.length:=by
    simp only[Su,Sr,iY,f.1,<-Uo]
    congr 1;omega
   have E:n*i.size+news.length<=((xs++cu zc (cap-n)).toArray).size:=by rw[x,R,d,<-Uo];exact Nat.mul_le_mul_right _ l
   have A:=run_append_room (P:=P) w t ty e i H I g n cap _ U a m c news (by rw[x,d]) h W l E;refine⟨_,_,A,⟨q,.inr ⟨g,cap,rfl,O,?_,l,Q.1,by omega⟩⟩,⟨rfl,rfl,rfl,by simp,λk _ N=>setRow_other w g k _ (λe=>N (by simp[Value.ownBlock,e]))⟩,.inl ⟨rfl,by simp⟩⟩;rw[setRow_heap w g _ _ e _ U]
   congr 2
   apply UI;simp only[Tw];rw[d,<-f.1];rw[List.take_left,VR,VR,<-Uv,List.drop_left,x,DU zc _ _ (by omega)]
   congr 1;omega
  ·have s:=f.owns.cells (g:=g) rfl
   have A:=run_append_grow (P:=P) w t ty e i z H I T ⟨g,0,none⟩ n cap xs (by rw[f.1,d]) s a m c news (by rw[x,d]) h (by omega) (by omega) (growslice_fits (by omega) p);exact⟨_,_,A,grown cap,gb cap _,.inr ⟨rfl,by simp,λb B=>heap_alloc_old w.drew _ b B⟩⟩
variable {mn:Bool} {ty:TypeId} {Wg:Nat} {S:aJ} {K M:Nat->Prop} {w:World} {b:Frame} {a:Act} {k:List Item} {cs:List Frame} {ops:Array Oper} {i:Nat} {rest:List Nat} {o:Oper}
def D1{K M m}(h:Conc.Neutral m):EvK Wg K M ⟨.mark m,false,true⟩:=by have e:m=.noRoom:=h;subst e;exact⟨λx c=>by simp[MemAct.ofEvent,MemAct.touch?]at c,by simp,by simp,by simp,λB _=>trivial⟩
def Run.append(ho:ops[i]? =some o)(hw:Region.wanted o (yielded ops a.tmps)=true)(hk:b.kind≠ .early){s x t}(N:o.op=.call {callee:=.builtin .append,args:=#[s,x],argTypes:=#[t,t]})
 {v} {ad} {m c} (hs:a.eval s=v) (hx:a.eval x=.slice (some ad) m c)
 {base} {e} {inf} {z} {zc} {bytes} (ht:P.underlying t=some (.slice e)) (hi:P.info? e=some inf) (hz:inf.zero=some z) (y:inf.size=zc.length) (O:inf.bytes=bytes) (Y:z.cells.toList=zc) (Z:0<zc.length)
 {n} {xs news} (Q:lh w base e zc v n xs) (B:∀g,v.ownBlock=some g->K g/\M g/\g≠Wg) (R:K ad.block) (hl:news.length=m*zc.length) (E:∀j u,news[j]? =some u->w.cell? (ad.add j)=some u) (h1:∀u∈news,u.oneCell'=true)
 (T:n+m<=maxLen) (p:(n+m)*bytes<=140737488355328) (F:base<=w.heap.size) (hm:0<m) (aa:∀b,K b->b<w.heap.size) (ab:Wg<w.heap.size)
 (hn:∀(U X) H w',lh w' base e zc H (n+m) (xs++news)->(∀g,H.ownBlock=some g->U g/\X g/\g≠Wg/\(some g=v.ownBlock\/w.heap.size<=g))->(∀b,K b->some b≠v.ownBlock->w'.heap[b]? =w.heap[b]?)->w.heap.size<=w'.heap.size->(WgLive ty Wg w->WgLive ty Wg w')->(∀b,K b->U b)->(∀b,U b->K b\/w.heap.size<=b)->(∀b,U b->b<w'.heap.size)->(∀b,M b->X b)->(∀b,X b->M b\/w.heap.size<=b)->Run P mn ty Wg S U X (G (b.at (a.put o.dst H) (.inRegion ops rest::k)) cs) w'):
 Run P mn ty Wg S K M (G (b.at a (.inRegion ops (i::rest)::k)) cs) w:=by
 refine .value ho hw hk λw₁ d=>?_;have l:=Q.keep λg C=>d.keep g (B g C).1;have V:∀j,(ad.add j).block=ad.block:=λj=>by unfold Addr.add;split<;>rfl
 have f:∀j u,news[j]? =some u->w₁.cell? (ad.add j)=some u:=λj u hu=>(World.cell?_of_block (d.keep _ (by rw[V];exact R))).trans (E j u hu);obtain⟨H,w',hr,af,C,I⟩:=np (P:=P) w₁ base t o.type e inf z zc bytes ht hi hz y O Y Z v n xs l ad m c news hl f h1 T p (R3 F d.size) hm;have q:∀b,K b->b<w₁.heap.size:=λb hb=>R6 (aa b hb) d.size;have W:(execOp a.eval o).run P w₁=.ok (.value H) w':=by unfold execOp;simp only[N,resolve,invoke,builtin,Sem.run_bind,Sem.run_pure,Result.andThen_ok,List.map_toArray,Vp,List.map_nil,hs,hx,hr]
 refine⟨H,w',W,⟨C.os,C.tape,C.output,C.size,λb hb ag=>C.block b hb λe=>?_⟩,λev J=>?_,?_⟩
 ·exact ag (B b e.symm).2.1
 ·rw[events_append_op s x t N hs hx]at J
  rcases events_append_where (P:=P) w₁ base t o.type e inf z zc.length bytes ht hi hz y O v n xs l.owns ad m c news hl f h1 T p ev J with⟨A,hA,r⟩|⟨mk,rfl,ak⟩
  ·obtain⟨ay,wr,sy⟩:=ev
   simp only at hA r;subst hA;have L:sy=false:=by
    rcases(Bb #[t,t] o.type #[v,.slice (some ad) m c]).cells P w₁ #[] _ J with h|h
    ·simp at h
    ·exact h A rfl
   subst L;obtain⟨rfl,hb⟩|hb:=r
   ·exact rD (.inl (by rw[hb];exact R))
   ·have:=B A.block hb.symm
    cases wr with
    |false=>exact rD (.inl this.1)
    |true=>exact zp (.inl this.1) (.inl this.2.1)
  ·exact D1 ak
 ·have an:=C.block Wg (R6 ab d.size) λe=>(B Wg e.symm).2.2 rfl
  refine hn _ _ H w' af (λg D=>?_) (λb hb ao=>(C.block b (q b hb) ao).trans (d.keep b hb)) (R3 d.size C.size) (λar=>?_) (λb hb=>.inl hb) (λb hb=>hb.imp id λx=>R3 d.size x.1) (λb hb=>hb.elim (λx=>R6 (q b x) C.size) λx=>x.2) (λb hb=>.inl hb) (λb hb=>hb.imp id λx=>R3 d.size x.1)
  ·obtain⟨e1,_⟩|⟨e1,e2,_⟩:=I
   ·rw[e1]at D
    have:=B g D;exact⟨.inl this.1,.inl this.2.1,this.2.2,.inl D.symm⟩
   ·rw[e1]at D
    cases D;exact⟨.inr ⟨R2 _,by omega⟩,.inr ⟨R2 _,by omega⟩,by have:=d.size;omega,.inr d.size⟩
  ·obtain⟨st,sm,ax⟩:=d.live ar
   exact⟨st,sm,ax.of_block an⟩
end
section
variable {P:Program} {mn:Bool} {ty:TypeId} {Wg:Nat} {S:aJ}
def EvK.mono{K f M g:Nat->Prop}{e}(h:EvK Wg K M e)(i:∀b,K b->f b)(j:∀b,M b->g b):EvK Wg f g e:=by refine⟨λx k=>?_,h.2⟩;obtain⟨b,l,m⟩:=h.1 x k;refine⟨b,l,m.imp (λ⟨a,c,d⟩=>⟨a,i b c,λn=>j b (d n)⟩) id⟩
def rI{K a:Nat->Prop}(h:∀b,K b->a b)(w w' b)(c:orK K w w' b):orK a w w' b:=c.imp (h b) id
def Pl(S:aJ)(B:Nat->Prop)(w₀:World):aJ:=λK M g w=>∃a c,S a c g w/\(∀b,a b->K b)/\(∀b,c b->M b)/\(∀b,K b->b<w.heap.size)/\(∀b,B b->K b/\¬M b/\w.heap[b]? =w₀.heap[b]?)/\(WgLive ty Wg w₀->WgLive ty Wg w)/\w₀.heap.size<=w.heap.size
def Run.frame{B w₀ c d g w}(h:Run P mn ty Wg S c d g w):∀{K₂ M₂},(∀b,c b->K₂ b)->(∀b,d b->M₂ b)->(∀b,K₂ b->b<w.heap.size)->
 (∀b,B b->K₂ b/\¬M₂ b/\w.heap[b]? =w₀.heap[b]?)->(WgLive ty Wg w₀->WgLive ty Wg w)->(Wg<w.heap.size/\¬M₂ Wg)->w₀.heap.size<=w.heap.size->Run P mn ty Wg (Pl (ty:=ty) (Wg:=Wg) S B w₀) K₂ M₂ g w:=by
 induction h with
 | @stop c d g w h=>
  intro K₂ M₂ l j o q r i s;refine .stop λw₁ a=>⟨c,d,h w₁ ⟨λb hb=>a.keep b (l b hb),a.live,a.size⟩,l,j,λb hb=>R6 (o b hb) a.size,λb hb=>?_,λx=>a.live (r x),R3 s a.size⟩
  obtain⟨a1,p,t⟩:=q b hb;exact⟨a1,p,(a.keep b a1).trans t⟩
 | @step c d g w u m A C=>
  intro K₂ M₂ l j o q r i s;have rk:∀w₁,RK ty Wg K₂ w w₁->RK ty Wg c w w₁:=λw₁ a=>⟨λb hb=>a.keep b (l b hb),a.live,a.size⟩
  refine .jK u λw₁ a=>?_;obtain⟨g',w',es,e1,f,e3⟩:=m w₁ (rk w₁ a);refine⟨g',w',es,e1,⟨f.os,f.tape,f.output,f.size,λb hb D=>f.keep b hb λx=>D (j b x)⟩,λe E=>(e3 e E).mono (rI l w₁ w') (rI j w₁ w'),?_⟩;have k:=R6 i.1 a.size;have v:=f.keep Wg k λx=>i.2 (j Wg x);refine C w₁ g' w' es (rk w₁ a) e1 (rI l w₁ w') (rI j w₁ w') (λb hb=>?_) (λb hb=>?_) (λx=>?_) ⟨R6 k f.size,λx=>?_⟩ (R3 (R3 s a.size) f.size)
  ·obtain hb|hb:=hb
   ·exact R6 (R6 (o b hb) a.size) f.size
   ·exact hb.2
  ·obtain⟨a1,p,t⟩:=q b hb
   have n:=R6 (o b a1) a.size;refine⟨.inl a1,λx=>x.elim p λy=>absurd y.1 (U5.2 n),?_⟩;rw[f.keep b n λx=>p (j b x),a.keep b a1,t]
  ·obtain⟨st,sm,z⟩:=a.live (r x)
   exact⟨st,sm,z.of_block v⟩
  ·exact x.elim i.2 λy=>absurd y.1 (U5.2 k)
end
section
variable {S:Kn} {P:Program} {fs:Array Func}
def D4(c:Tab S P fs)(b:∀f,S.stop f=false){π:Ren P.globals.size}{f:FuncId}(d:S.ent f=true){a A}(e:VsR π a A):bd S π (Frame.enter (ah P fs) f a .normal) (Frame.enter P f A .normal):=by
 rcases sT (π:=π) c f (.inr d) (λx=>by rw[b f]at x;cases x) e (cs:=[aH]) (by simp)with h|⟨_,g,a1,A1,h1,_⟩
 ·exact h
 ·rw[b g]at h1;cases h1
def xc{P f a w}:(⟨Frame.enter P f a .normal,[],w⟩:Gh).Flat:=by intro b c;simp[rb,Frame.enter]at c;exact c.symm▸rfl
def ou(d:Tab S P fs)(c:∀f,S.stop f=false){Pr Post π}{f:FuncId}(h:S.ent f=true){a A}(i:VsR π a A){w W}(j:bj S Pr π w W)(k:∀g,S.dq g=true->π g g)
 (l:∀b,b.heap=w.heap->Calls (ah P fs) f a b λe w'=>∃v,e=.returned v/\Post v w'):
 Cp S P fs Pr Post π ⟨Frame.enter (ah P fs) f a .normal,[],aq w (λ_ _=>0) 0⟩ (Frame.enter P f A .normal) [] W:=
 ⟨D4 d c h i,.nil,j.heap rfl rfl,xc,Dh (λ_ _=>lU) λτ _ _=>l _ rfl,k⟩
def ov{G B a}(h:∀x∈a,av (idR G B) x x):VsR (idR G B) a a:=aV.refl h
def Gj(k:Tab S P fs)(a:∀f,S.stop f=false){f:FuncId}(t:S.ent f=true){args B W}(d:∀b,B b->∃c e F,W.heap[b]? =some (.cells c e F))(u:P.globals.size<=W.heap.size)(l:∀g,S.dq g=true->B g)
 (y:∀x∈args,av (idR P.globals.size B) x x) {Post}
 (A:∀w,w.heap=(cP (idR P.globals.size B) B W).heap->Calls (ah P fs) f args w λe w'=>∃v,e=.returned v/\Post v w')
 (C:∀w,w.heap=(cP (idR P.globals.size B) (λ_=>False) W).heap->Calls (ah P fs) f args w λe w'=>∃v,e=.returned v/\∀b,b<w.heap.size->w'.heap[b]? =w.heap[b]?):
 ∃D E,ir S P fs (idR P.globals.size B) W (cP (idR P.globals.size B) (λ_=>False) W) Post (idR P.globals.size B) (idR P.globals.size B) D E (Frame.enter P f args .normal) [] W:=by
 have i:∀(Pr:Nat->Prop) b,B b->∃o,W.heap[b]? =some o/\((∃c e f,o=.cells c e f)\/(¬Pr b/\(∀c e f,o≠ .cells c e f)/\fA S (idR P.globals.size B) o o)):=λPr b j=>by obtain⟨c,e,F,h⟩:=d b j;exact⟨_,h,.inl ⟨c,e,F,rfl⟩⟩
 have e:(λR=>∃r,(idR P.globals.size B) r R)=B:=funext λR=>propext ⟨λ⟨r,n,p⟩=>n▸p,λh=>⟨R,rfl,h⟩⟩;have q:bj S (λR=>∃r,(idR P.globals.size B) r R) (idR P.globals.size B) (cP (idR P.globals.size B) B W) W:=by rw[e];exact ki (i B) (λ_ h=>h) u (d 0 (l 0 k.vW))
 have s:=ki (S:=S) (Pr:=λ_=>False) (i λ_=>False) (λ_ h=>h.elim) u (d 0 (l 0 k.vW));refine⟨_,_,⟨ou k a t (ov y) q (λg h=>⟨rfl,l g h⟩) A,ou k a t (ov y) s (λg h=>⟨rfl,l g h⟩) λw h=>(C w h).mono ?_,Ren.le_refl _,Ren.le_refl _,?_,λ_ _ _=>rfl,λR=>T1⟩⟩
 ·rintro I w' ⟨v,n,p⟩
  refine⟨v,n,λr R G=>?_⟩;obtain⟨rfl,j⟩:=G;obtain⟨c,z,F,m⟩:=d r j;have H:r<w.heap.size:=by rw[h,kH];exact(R7.1 m).1
  rw[p r H,h]
 ·rintro r R ⟨rfl,j⟩
  obtain⟨c,z,F,m⟩:=d r j;refine⟨c.map (mask (idR P.globals.size B)),c,z,F,?_,m⟩;rw[fG,m];simp[jX]
def N8(p:Tab S P fs)(a:∀f,S.stop f=false)(i:∀g,S.calm g){f:FuncId}(D:S.ent f=true){args K W ty Wg mn}(E:P.globals.size<=W.heap.size)
 (G:∀g,S.dq g=true->K g/\∃c e F,W.heap[g]? =some (.cells c e F)) (q:∀b,K b->b<W.heap.size) (s:Wg<W.heap.size) (j:WgLive ty Wg W)
 (H:∀x∈args,av (idR P.globals.size λb=>K b/\∃c e F,W.heap[b]? =some (.cells c e F)) x x) {V} (I:∀(π:Ren P.globals.size) v,av π V v->v=V)
 (u:∀(fz) (w),w.heap=(cP (idR P.globals.size λb=>K b/\∃c e F,W.heap[b]? =some (.cells c e F)) fz W).heap->Calls (ah P fs) f args w λe w'=>e=.returned V/\∀b,b<w.heap.size->w'.heap[b]? =w.heap[b]?)
 (Q) (C) (cs) (m:∀k n w',(∀b,K b->k b/\¬n b/\w'.heap[b]? =W.heap[b]?)->(∀b,k b->b<w'.heap.size)->WgLive ty Wg w'->Run P mn ty Wg Q k n ⟨C.finish V,cs,.running,none,none⟩ w'):
 Run P mn ty Wg Q K (λ_=>False) ⟨Frame.enter P f args .normal,C::cs,.running,none,none⟩ W:=by
 obtain⟨J,L,M⟩:=Gj (Post:=λv _=>v=V) p a D (B:=λb=>K b/\∃c e F,W.heap[b]? =some (.cells c e F)) (W:=W) (λb h=>h.2) E (λg h=>G g h) H
  (λw h=>(u _ w h).mono λe w' h=>⟨V,h.1,rfl⟩) (λw h=>(u _ w h).mono λe w' h=>⟨V,h.1,h.2⟩)
 have o:=tS (mn:=mn) (ty:=ty) (Wg:=Wg) (B:=C::cs) (Q:=λk n g w'=>g=⟨C.finish V,cs,.running,none,none⟩) p a i (idR P.globals.size λb=>K b/\∃c e F,W.heap[b]? =some (.cells c e F)) (λN O J L F W' hI h R=>?_) (Ren.le_refl _) M
 ·refine(o.frame (K₂:=K) (M₂:=λ_=>False) (B:=K) (w₀:=W) (λb ⟨r,y⟩=>?_) (λb l=>?_) q (λb l=>⟨l,id,rfl⟩) id ⟨s,id⟩ (R2 _)).bind ?_
  ·exact y.1▸y.2.1
  ·exact l.2 l.1
  ·rintro k n g w' ⟨K1,M1,rfl,_,_,T,U,X,h6⟩
   exact m k n w' (λb l=>U b l) T (X j)
 ·refine .jK rfl λz d=>?_
  have Y:=h.Dj d.keep d.size;obtain⟨v,V',w',t,ev,A,a1,Z,a3,a4,a5,a6,_⟩:=Y.leave p R C cs mn Wg;subst Z;have:=I _ _ a3;subst this;exact⟨_,t,ev,a1,a4,a5,.stop λ_ _=>rfl⟩
def D5(l:Tab S P fs)(a:∀f,S.stop f=false){f:FuncId}(u:S.ent f=true){args}{B O:Nat->Prop}{W}(d:∀b,B b->∃c e F,W.heap[b]? =some (.cells c e F))(y:P.globals.size<=W.heap.size)(m:∀g,S.dq g=true->B g)
 (z:∀x∈args,av (idR P.globals.size B) x x) {Post}
 (C:∀w,w.heap=(cP (idR P.globals.size B) (λb=>B b/\¬O b) W).heap->Calls (ah P fs) f args w λe w'=>∃v,e=.returned v/\Post v w')
 (D:∀w,w.heap=(cP (idR P.globals.size B) (λ_=>False) W).heap->Calls (ah P fs) f args w λe w'=>∃v,e=.returned v/\∀b,b<w.heap.size->¬O b->w'.heap[b]? =w.heap[b]?):
 ∃E G,ir S P fs (idR P.globals.size λb=>B b/\¬O b) W (cP (idR P.globals.size B) (λ_=>False) W) Post (idR P.globals.size B) (idR P.globals.size B) E G (Frame.enter P f args .normal) [] W:=by
 have i:∀(Pr:Nat->Prop) b,B b->∃o,W.heap[b]? =some o/\((∃c e f,o=.cells c e f)\/(¬Pr b/\(∀c e f,o≠ .cells c e f)/\fA S (idR P.globals.size B) o o)):=λPr b j=>by obtain⟨c,e,F,h⟩:=d b j;exact⟨_,h,.inl ⟨c,e,F,rfl⟩⟩
 have e:(λR=>∃r,(idR P.globals.size λb=>B b/\¬O b) r R)=λb=>B b/\¬O b:=funext λR=>propext ⟨λ⟨r,p,q⟩=>p▸q,λh=>⟨R,rfl,h⟩⟩;have s:bj S (λR=>∃r,(idR P.globals.size λb=>B b/\¬O b) r R) (idR P.globals.size B) (cP (idR P.globals.size B) (λb=>B b/\¬O b) W) W:=by rw[e];exact ki (i _) (λ_ h=>h.1) y (d 0 (m 0 l.vW))
 have t:=ki (S:=S) (Pr:=λ_=>False) (i λ_=>False) (λ_ h=>h.elim) y (d 0 (m 0 l.vW));have k:Ren.le (idR P.globals.size λb=>B b/\¬O b) (idR P.globals.size B):=λr R h=>⟨h.1,h.2.1⟩
 refine⟨_,_,⟨ou l a u (ov z) s (λg h=>⟨rfl,m g h⟩) C,ou l a u (ov z) t (λg h=>⟨rfl,m g h⟩) λw h=>(D w h).mono ?_,k,k,?_,λ_ _ _=>rfl,λR=>T1⟩⟩
 ·rintro K w' ⟨v,p,q⟩
  refine⟨v,p,λr R H=>?_⟩;obtain⟨rfl,j,I⟩:=H;obtain⟨c,A,F,n⟩:=d r j;have J:r<w.heap.size:=by rw[h,kH];exact(R7.1 n).1
  rw[q r J I,h]
 ·rintro r R ⟨rfl,j,_⟩
  obtain⟨c,A,F,n⟩:=d r j;refine⟨c.map (mask (idR P.globals.size B)),c,A,F,?_,n⟩;rw[fG,n];simp[jX]
def LZ(z:Tab S P fs)(d:∀f,S.stop f=false)(k:∀g,S.calm g){f:FuncId}(hf:S.ent f=true){args}{K M O:Nat->Prop}{W ty Wg mn}(hG:P.globals.size<=W.heap.size)
 (hg:∀g,S.dq g=true->K g/\∃c e F,W.heap[g]? =some (.cells c e F)) (A:∀b,K b->b<W.heap.size) (D:Wg<W.heap.size) (l:WgLive ty Wg W) (E:¬M Wg) (G:∀b,O b->M b)
 (n:∀b,O b->K b/\∃c e F,W.heap[b]? =some (.cells c e F))
 (ha:∀x∈args,av (idR P.globals.size λb=>K b/\∃c e F,W.heap[b]? =some (.cells c e F)) x x) {Post:Value->World->Prop} {T:Value->(Nat->Option Obj)->Prop}
 (hT:∀(Pr) (π) v V w w',Ren.le (idR P.globals.size λb=>K b/\∃c e F,W.heap[b]? =some (.cells c e F)) π->Post v w->av π v V->bj S Pr π w w'->∀h,(∀b,O b->h b=w'.heap[b]?)->T V h)
 (U:∀(fz) (w),(∀b,O b->¬fz b)->w.heap=(cP (idR P.globals.size λb=>K b/\∃c e F,W.heap[b]? =some (.cells c e F)) fz W).heap->Calls (ah P fs) f args w λe w'=>∃v,e=.returned v/\Post v w'/\∀b,b<w.heap.size->¬O b->w'.heap[b]? =w.heap[b]?)
 (Q) (C) (cs) (o:∀i p w' V,(∀b,K b->¬M b->i b/\¬p b/\w'.heap[b]? =W.heap[b]?)->(∀b,i b->b<w'.heap.size)->WgLive ty Wg w'->T V (λb=>w'.heap[b]?)->(∀b,O b->i b)->Run P mn ty Wg Q i p ⟨C.finish V,cs,.running,none,none⟩ w'):
 Run P mn ty Wg Q K M ⟨Frame.enter P f args .normal,C::cs,.running,none,none⟩ W:=by
 obtain⟨cA,cB,hD⟩:=D5 (O:=O) (Post:=Post) z d hf (B:=λb=>K b/\∃c e F,W.heap[b]? =some (.cells c e F)) (W:=W) (λb h=>h.2) hG (λg h=>hg g h) ha
  (λw h=>(U _ w (λb a x=>x.2 a) h).mono λe w' ⟨v,H,h2,_⟩=>⟨v,H,h2⟩) (λw h=>(U _ w (λb a x=>x) h).mono λe w' ⟨v,H,_,I⟩=>⟨v,H,I⟩)
 have q:=tS (mn:=mn) (ty:=ty) (Wg:=Wg) (B:=C::cs) (Q:=λi p g w'=>∃V,g=⟨C.finish V,cs,.running,none,none⟩/\T V (λb=>w'.heap[b]?)/\∀b,O b->i b) z d k (idR P.globals.size λb=>K b/\∃c e F,W.heap[b]? =some (.cells c e F)) (λaa ab cA cB F W' J h he=>?_) (Ren.le_refl _) hD
 ·refine(q.frame (K₂:=K) (M₂:=M) (B:=λb=>K b/\¬M b) (w₀:=W) (λb ⟨r,m⟩=>?_) (λb a=>?_) A (λb a=>⟨a.1,a.2,rfl⟩) id ⟨D,E⟩ (R2 _)).bind ?_
  ·exact m.1▸m.2.1
  ·obtain⟨⟨r,m⟩,hn⟩:=a
   obtain⟨rfl,m⟩:=m;exact G r (Tt λho=>hn ⟨r,rfl,m,ho⟩)
  ·rintro i p g w' ⟨K1,M1,⟨V,rfl,L,s⟩,N,_,I,h4,h5,h6⟩
   exact o i p w' V (λb a hm=>h4 b ⟨a,hm⟩) I (h5 l) L λb a=>N b (s b a)
 ·refine .jK rfl λX j=>?_
  have h':=h.Dj j.keep j.size;obtain⟨v,Y,w',t,ev,u,a1,a2,a3,a4,a5,a6,a7,a8⟩:=h'.leave z he C cs mn Wg;have R:=Ren.le_trans J a8;refine⟨_,t,ev,a1,a4,a5,.stop λZ y=>⟨Y,rfl,hT _ u v Y w' t R a2 a3 a7 _ λb a=>y.keep b (.inl ⟨b,J b b ⟨rfl,n b a⟩⟩),λb a=>.inl ⟨b,J b b ⟨rfl,n b a⟩⟩⟩⟩
end
end Go.Tm
namespace Go.Tm
open Go.Conc Go.ConcN Go.Conc.Lib
open Go.ConcR (KK WgAt stA smA rd wr mk DC0)
structure WD where
 s:Nat
 d:Nat
 K:Nat->Prop
 M:Nat->Prop
inductive nw where
 |sp (r st:Nat)|gc|rc (r:Nat) (hs:List Value)|rb (r:Nat) (hs:List Value)|rw(r:Nat) (hs:List Value)
inductive CTag where
 |wd|w1|w2 (vs:Nat)|sw|w3|blk|w4|we|acq|cl|quit
def nw.pend:nw->Nat
 | .sp _ st=>if st<=3 then 1 else 0
 |_=>0
def nw.got:nw->List Value
 | .rc _ hs| .rb _ hs| .rw _ hs=>hs
 |_=>[]
def jC(d:WD):Nat:=if 4<=d.s then 1 else 0
def VW(j:Nat)(D:Nat->WD):Nat:=sumTo j λi=>jC (D i)
def jD(v:Nat):CTag->Nat
 | .wd=>100| .w1=>50| .w2 a=>if a=v then 40 else 60| .sw=>30| .w3=>20| .blk=>19| .w4=>15| .we=>14| .acq=>13| .cl=>12| .quit=>0
section
variable (P:Program) (ty:TypeId) (Wg ch:Nat) (z:Value) (An:aJ) (HV:Nat->Option Value) (Fin:List Value->aJ) (n:Nat)
inductive WSit(hv:Option Value):WD->Rk P ty Wg->Goroutine->World->Prop
 |run {K M:Nat->Prop} {g:Goroutine} {w:World} {c:RC P ty Wg}:cj P ty Wg false (SWk P ty Wg ch z hv) K M g w c->WSit hv ⟨8,0,K,M⟩ (8,0,c) g w
 |blk {K M:Nat->Prop} {g:Goroutine} {w:World} {c:RC P ty Wg} {v:Value}:hv=some v->cj P ty Wg false (SR0 P ty Wg) K M (Conc.served g undef) w c->WSit hv ⟨7,0,K,M⟩ (7,0,c) (parked g #[scase ch v undef] .send) w
 |r0 {K M:Nat->Prop} {g:Goroutine} {w:World} {c:RC P ty Wg}:cj P ty Wg false (SR0 P ty Wg) K M g w c->WSit hv ⟨6,0,K,M⟩ (6,0,c) g w
 |k1 {K M:Nat->Prop} {g:Goroutine} {w:World} {c:RC P ty Wg} {m:Nat}:Goes P false (RK ty Wg K) DC0 (SK1 P ty Wg K M) m g w->WSit hv ⟨5,0,K,M⟩ (5,m,c) g w
 |d1 {K M:Nat->Prop} {g:Goroutine} {w:World} {c:RC P ty Wg} {m:Nat}:Goes P false (RK ty Wg K) DC0 (SD1 P ty Wg K M) m g w->WSit hv ⟨4,1,K,M⟩ (4,m,c) g w
 |d2 {K M:Nat->Prop} {g:Goroutine} {w:World} {c:RC P ty Wg} {m:Nat}:Goes P false (RK ty Wg K) DC0 (SD2 P ty Wg K M) m g w->WSit hv ⟨3,1,K,M⟩ (3,m,c) g w
 |d3 {K M:Nat->Prop} {g:Goroutine} {w:World} {c:RC P ty Wg} {m:Nat}:Goes P false (RK ty Wg K) DC0 (SD3 P ty Wg K M) m g w->WSit hv ⟨2,1,K,M⟩ (2,m,c) g w
 |d4 {K M:Nat->Prop} {g:Goroutine} {w:World} {c:RC P ty Wg} {m:Nat}:Goes P false (RK ty Wg K) DC0 (SD4 P ty Wg K M) m g w->WSit hv ⟨1,1,K,M⟩ (1,m,c) g w
 |quit {K M:Nat->Prop} {g:Goroutine} {w:World} {c:RC P ty Wg} {q d:Nat}:QuitsD P q d g->WSit hv ⟨0,d,K,M⟩ (0,q,c) g w
inductive fj:nw->Nat->Nat->(Nat->Prop)->(Nat->Prop)->Rk P ty Wg->Goroutine->World->Prop
 |kd {K M:Nat->Prop} {g:Goroutine} {w:World} {c:RC P ty Wg} {r:Nat}:r<n->cj P ty Wg true (SKd P ty Wg ch z HV n r (SSp P ty Wg ch z An HV Fin n r)) K M g w c->fj (.sp r 5) (n-(r+1)) 0 K M (100+10*r+5,0,c) g w
 |a1 {K M:Nat->Prop} {g:Goroutine} {w:World} {c:RC P ty Wg} {r:Nat}:r<n->cj P ty Wg true (SA1 P ty Wg ch z HV n r (SSp P ty Wg ch z An HV Fin n r)) K M g w c->fj (.sp r 4) (n-(r+1)) 1 K M (100+10*r+4,0,c) g w
 |sr {K M:Nat->Prop} {g:Goroutine} {w:World} {c:RC P ty Wg} {r:Nat}:r<n->cj P ty Wg true (SSr P ty Wg ch z HV n r (SSp P ty Wg ch z An HV Fin n r)) K M g w c->fj (.sp r 3) (n-(r+1)) 1 K M (100+10*r+3,0,c) g w
 |ke {K M:Nat->Prop} {g:Goroutine} {w:World} {c:RC P ty Wg} {r:Nat}:r<n->cj P ty Wg true (SKe P ty Wg ch z HV n r (SSp P ty Wg ch z An HV Fin n r)) K M g w c->fj (.sp r 2) (n-(r+1)) 1 K M (100+10*r+2,0,c) g w
 |go {K M:Nat->Prop} {g:Goroutine} {w:World} {c:RC P ty Wg} {r:Nat}:r<n->cj P ty Wg true (SGo P ty Wg ch z HV n r (SSp P ty Wg ch z An HV Fin n r)) K M g w c->fj (.sp r 1) (n-(r+1)) 0 K M (100+10*r+1,0,c) g w
 |gc {K M:Nat->Prop} {g:Goroutine} {w:World} {c:RC P ty Wg}:cj P ty Wg true (I8 P ty Wg ch z An HV Fin n) K M g w c->fj .gc n 0 K M (90,0,c) g w
 |rc {K M:Nat->Prop} {g:Goroutine} {w:World} {c:RC P ty Wg} {r:Nat} {hs:List Value}:r+hs.length=n->cj P ty Wg true (nZ P ty Wg ch z HV Fin n r hs) K M g w c->fj (.rc r hs) n 0 K M (20,0,c) g w
 |rb {K M:Nat->Prop} {g:Goroutine} {w:World} {c:RC P ty Wg} {r:Nat} {hs:List Value}:r+hs.length=n->(∀w₁,RK ty Wg K w w₁->nZ P ty Wg ch z HV Fin n r hs K M g w₁)->fj (.rb r hs) n 0 K M (19,0,c) (parked {g with offers:=none} #[rcase ch z] (.recv true)) w
 |rw{K M:Nat->Prop} {g:Goroutine} {w:World} {c:RC P ty Wg} {r:Nat} {hs:List Value}:r+hs.length=n->(∀w₁,RK ty Wg K w w₁->nZ P ty Wg ch z HV Fin n r hs K M g w₁)->fj (.rw r hs) n 0 K M (18,0,c) {parked {g with offers:=none} #[rcase ch z] (.recv true)with status:=.running} w
inductive CSit(v:Nat):CTag->Nat->(Nat->Prop)->(Nat->Prop)->Rk P ty Wg->Goroutine->World->Prop
 |wd {K M:Nat->Prop} {g:Goroutine} {w:World} {c:RC P ty Wg}:cj P ty Wg false (SWd P ty Wg ch An) K M g w c->CSit v .wd 0 K M (jD v .wd,0,c) g w
 |w1 {K M:Nat->Prop} {g:Goroutine} {w:World} {c:RC P ty Wg}:cj P ty Wg false (SW1 P ty Wg ch An) K M g w c->CSit v .w1 1 K M (jD v .w1,0,c) g w
 |w2 {K M:Nat->Prop} {g:Goroutine} {w:World} {c:RC P ty Wg} {vs:Nat}:cj P ty Wg false (SW2 P ty Wg ch An vs) K M g w c->CSit v (.w2 vs) 1 K M (jD v (.w2 vs),0,c) g w
 |sw {K M:Nat->Prop} {g:Goroutine} {w:World} {c:RC P ty Wg}:cj P ty Wg false (SSw P ty Wg ch) K M g w c->CSit v .sw 1 K M (jD v .sw,0,c) g w
 |w3 {K M:Nat->Prop} {g:Goroutine} {w:World} {c:RC P ty Wg}:cj P ty Wg false (SW3 P ty Wg ch) K M g w c->CSit v .w3 1 K M (jD v .w3,0,c) g w
 |blk {K M:Nat->Prop} {g:Goroutine} {w:World} {c:RC P ty Wg}:(∀w₁,RK ty Wg K w w₁->SW3 P ty Wg ch K M g w₁)->CSit v .blk 1 K M (jD v .blk,0,c) {g with status:=.blocked} w
 |w4 {K M:Nat->Prop} {g:Goroutine} {w:World} {c:RC P ty Wg}:cj P ty Wg false (SW4 P ty Wg ch) K M g w c->CSit v .w4 1 K M (jD v .w4,0,c) g w
 |we {K M:Nat->Prop} {g:Goroutine} {w:World} {c:RC P ty Wg}:cj P ty Wg false (SWe P ty Wg ch) K M g w c->CSit v .we 1 K M (jD v .we,0,c) g w
 |acq {K M:Nat->Prop} {g:Goroutine} {w:World} {c:RC P ty Wg}:cj P ty Wg false (NR P ty Wg ch) K M g w c->CSit v .acq 0 K M (jD v .acq,0,c) g w
 |cl {K M:Nat->Prop} {g:Goroutine} {w:World} {c:RC P ty Wg}:cj P ty Wg false (SCl P ch) K M g w c->CSit v .cl 0 K M (jD v .cl,0,c) g w
 |quit {K M:Nat->Prop} {g:Goroutine} {w:World} {c:RC P ty Wg} {q d:Nat}:QuitsD P q d g->CSit v .quit d K M (jD v .quit,q,c) g w
end
def eH:Option CTag->Bool
 |some .quit=>true
 |_=>false
def tT(j:Nat)(D:Nat->WD):Prop:=∀i,i<j->4<=(D i).s\/(D i).s=0
def Dk(j:Nat)(D:Nat->WD):Prop:=∀i,i<j->(D i).s=0
def CTag.opn:Option CTag->Prop
 |none|some .wd|some .w1|some (.w2 _)=>True
 |_=>False
def CTag.reg:Option CTag->Prop
 |some .sw|some .w3|some .blk=>True
 |_=>False
def CTag.fin:Option CTag->Prop
 |some .w4|some .we|some .acq|some .cl|some .quit=>True
 |_=>False
inductive Mode(j:Nat)(D:Nat->WD)(mt:nw):Option CTag->Int->Int->Prop
 |opn {ct:Option CTag}:CTag.opn ct->tT j D->(∀vs,ct=some (.w2 vs)->VW j D<=vs/\1<=vs)->Mode j D mt ct (((VW j D+mt.pend:Nat):Int)*KK) 0
 |reg {ct:Option CTag}:CTag.reg ct->tT j D->1<=VW j D->Mode j D mt ct (((VW j D:Nat):Int)*KK+1) 0
 |last {ct:Option CTag} (L:Nat):CTag.reg ct->L<j->((D L).s=3\/(D L).s=2\/(D L).s=1)->(∀i,i<j->i≠L->(D i).s=0)->Mode j D mt ct (if(D L).s=1 then 0 else 1) 0
 |sema {ct:Option CTag}:CTag.reg ct->ct≠some .blk->Dk j D->Mode j D mt ct 0 1
 |fin {ct:Option CTag}:CTag.fin ct->Dk j D->Mode j D mt ct 0 0
def Mode.wu{j D mt ct st sm}(h:Mode j D mt ct st sm)(b:CTag.fin ct):Dk j D:=by
 have no:∀{ct:Option CTag},CTag.fin ct->(CTag.opn ct->False)/\(CTag.reg ct->False):=by
  intro ct h;cases ct with
  |none=>exact h.elim
  |some c=>cases c<;>first|exact h.elim|exact⟨id,id⟩
 cases h with
 |opn a=>exact((no b).1 a).elim
 |reg a=>exact((no b).2 a).elim
 |last _ a=>exact((no b).2 a).elim
 |sema a=>exact((no b).2 a).elim
 |fin _ a=>exact a
structure GSt(P:Program)(ty:TypeId)(Wg:Nat) where
 j:Nat
 D:Nat->WD
 R:Nat->Rk P ty Wg
 mt:nw
 K0:Nat->Prop
 M0:Nat->Prop
 r0:Rk P ty Wg
 d0:Nat
 ct:Option CTag
 Kc:Nat->Prop
 Mc:Nat->Prop
 rc:Rk P ty Wg
 dc:Nat
 q:Nat->Nat
 own:Nat->Nat
 low:Nat->Nat
 st:Int
 sm:Int
section
variable (P:Program) (ty:TypeId) (Wg ch:Nat) (z:Value) (An:aJ) (HV:Nat->Option Value) (Fin:List Value->aJ) (n base N0:Nat) (shun:Nat->Prop) (W₀:World) (t₀:Trace)
def spB(b:Nat):Prop:=b=Wg\/b=ch
structure GW(w:World)(σ:GSt P ty Wg):Prop where
 os:w.os=W₀.os
 tape:w.tape=W₀.tape
 output:w.output=W₀.output
 fO:N0<=w.heap.size
 old:∀b,b<N0->w.heap[b]? =W₀.heap[b]?
 chn:∃s,w.heap[ch]? =some (.chan 0 #[] (eH σ.ct) s s false)
 wg:WgAt ty Wg w σ.st σ.sm
 sp:Wg<w.heap.size/\ch<w.heap.size
 kw:∀i,i<σ.j->∀b,(σ.D i).K b->b<w.heap.size/\¬spB Wg ch b/\¬shun b/\(σ.own b=base+i\/(σ.own b=0/\b<σ.low (base+i)))
 mw:∀i,i<σ.j->∀b,(σ.D i).M b->σ.own b=base+i
 k0:∀b,σ.K0 b->b<w.heap.size/\¬spB Wg ch b/\¬shun b/\σ.own b=0
 m0:∀b,σ.M0 b->b<w.heap.size/\¬spB Wg ch b/\N0<=b/\σ.own b=0/\∀k,σ.low k<=b
 kc:σ.ct≠none->∀b,σ.Kc b->b<w.heap.size/\¬spB Wg ch b/\¬shun b/\(σ.own b=base+n\/(σ.own b=0/\b<σ.low (base+n)))
 mc:σ.ct≠none->∀b,σ.Mc b->σ.own b=base+n
 owns:∀b,σ.own b≠0->N0<=b/\base<=σ.own b/\b<w.heap.size/\¬spB Wg ch b
 Dl:∀i,i<σ.j->σ.low (base+i)≠0
 Dm:σ.low (base+n)≠0↔σ.ct≠none
 AS:∀k,σ.low k≠0->(∃i,i<σ.j/\k=base+i)\/k=base+n
 AT:∀k,σ.low k<=w.heap.size
def iX{N}{t u:Trace}(h:∀a∈t,a.g<N)(c:∀a∈u,a.g<N):∀a∈t++u,a.g<N:=λa b=>(Tf.1 b).elim (h a) (c a)
def AcqAll(t:Trace):Prop:=∃q,t.act? q=some (.mark (.acquire (stA Wg)))/\t.g? q=some (base+n)/\t.heard q/\∀i,i<n->∃r,RelBy (stA Wg) t (base+i) r/\r<q
def AU(t:Trace):Prop:=∃q p,t.act? q=some (.mark (.acquire (stA Wg)))/\t.g? q=some (base+n)/\t.heard q/\(∀i,i<n->∃r,RelBy (stA Wg) t (base+i) r/\r<q)/\q<p/\t.act? p=some (.close ch)/\t.g? p=some (base+n)/\t.heard p/\∀i,p<i->t.g? i=some (base+n)->¬t.counts i
structure GT(w:World)(t:Trace)(σ:GSt P ty Wg):Prop where
 pre:∃u,t=t₀++u
 tr:TI shun (spB Wg ch) (base+n) t₀.size σ.own σ.low t
 seen:∀op∈t,op.act.low w.heap.size
 gb:∀op∈t,op.g<base+n+1
 norel:NoRelease (stA Wg) t
 d0:Deaf t 0=σ.d0
 dw:∀i,i<σ.j->Deaf t (base+i)=(σ.D i).d
 dc:σ.ct≠none->Deaf t (base+n)=σ.dc
 above:∀k,base<=k->(∀i,i<σ.j->k≠base+i)->(σ.ct≠none->k≠base+n)->Deaf t k=0
 rel:∀i,i<σ.j->(σ.D i).s<=5->∃r,RelBy (stA Wg) t (base+i) r
 acq:σ.ct=some .cl->AcqAll Wg n base t
 cls:σ.ct=some .quit->AU Wg ch n base t
def GT.tb{P ty Wg ch n base shun t₀ t w σ}(T:GT P ty Wg ch n base shun t₀ w t σ):∀(i) x b,touchAt t i=some x->blk x.loc=some b->b<w.heap.size:=by intro i x b d e;obtain⟨f,a,c⟩:=touch_of d;exact Hi (T.seen f (mem_of_getElem? a)) c e
structure GG(gs:Array Goroutine)(w:World)(t:Trace)(σ:GSt P ty Wg):Prop where
 size:gs.size=base+σ.j+(if σ.ct.isSome then 1 else 0)
 jn:σ.j<=n
 cn:σ.ct≠none->σ.j=n
 mn:∃a,gs[0]? =some a/\fj P ty Wg ch z An HV Fin n σ.mt σ.j σ.d0 σ.K0 σ.M0 σ.r0 a w
 mc:σ.ct=none↔((∃r st,σ.mt=.sp r st)\/σ.mt=.gc)
 wk:∀i,i<σ.j->∃g,gs[base+i]? =some g/\WSit P ty Wg ch z (HV i) (σ.D i) (σ.R i) g w
 unb:∀i,σ.j<=i->i<n->(σ.R i).1=9
 cl:∀c,σ.ct=some c->∃g,gs[base+n]? =some g/\CSit P ty Wg ch An (VW σ.j σ.D) c σ.dc σ.Kc σ.Mc σ.rc g w
 lv:∀i g,0<i->i<base->gs[i]? =some g->QuitsD P (σ.q i) (Deaf t i) g
 mb:(∃r hs,σ.mt=.rb r hs)->σ.ct≠some .quit/\∀i,i<σ.j->(σ.D i).s≠7
 mq:∀r hs,σ.mt=.rw r hs->σ.ct=some .quit
def Got(σ:GSt P ty Wg):Prop:=∃l:List Nat,l.Nodup/\(∀i,i∈l↔i<σ.j/\(σ.D i).s<=6/\HV i≠none)/\σ.mt.got=l.filterMap HV
structure GI(gs:Array Goroutine)(w:World)(t:Trace)(σ:GSt P ty Wg):Prop where
 w_:GW P ty Wg ch n base N0 shun W₀ w σ
 t_:GT P ty Wg ch n base shun t₀ w t σ
 g_:GG P ty Wg ch z An HV Fin n base gs w t σ
 m_:Mode σ.j σ.D σ.mt σ.ct σ.st σ.sm
 v_:Got P ty Wg HV σ
end
end Go.Tm

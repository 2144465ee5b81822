import Derived.Conc.AppendWalk
import Derived.Conc.CrowdBase
import Derived.Conc.CrowdComm
import Derived.Test.YtaglpcmhopjebaaGreatDoorW4
set_option linter.all false
set_option maxRecDepth 100000
set_option maxHeartbeats 20000000
namespace Go.Tm
open Go.Conc Go.ConcN
def dk(zc:List x6)(k:Nat):List x6:=(List.replicate k zc).flatten
def jV(zc k):(dk zc k).length=k*zc.length:=by unfold dk;induction k with|zero=>simp|succ k c=>simp[List.replicate_succ,c,YM];omega
def Hh(zc a b)(h:b<=a):(dk zc a).drop (b*zc.length)=dk zc (a-b):=by obtain⟨k,rfl⟩:=Zo h;unfold dk;rw[<-List.replicate_append_replicate,List.flatten_append,List.drop_append_of_le_length (by rw[<-dk,jV];exact Wv _)];have:((List.replicate b zc).flatten).drop (b*zc.length)=[]:=Xg (by rw[<-dk,jV];exact Wv _);rw[this];simp
def nW(z k):(Builtin.zeroCells z k).toList=dk z.toList k:=by unfold Builtin.zeroCells;simp only[Array.toList_map,Array.toList_range];induction k with|zero=>simp[dk]|succ k d=>(have e:dk z.toList (k+1)=dk z.toList k++z.toList:=by unfold dk;rw[List.replicate_succ',List.flatten_append];simp);rw[e,<-d,YM,Nat.one_mul,List.range_add,Yr];congr 1;rw[List.map_map];apply aae;simp;intro i g f;(simp only[Yk,Function.comp,aak,ZY];have c:i<z.size:=by simpa using f);rw[show(k*z.size+i)%z.size=i from by rw[YH,Nat.add_mul_mod_self_right,Yy c]];simp[c]
inductive bc{α:Type}:Sem α->Prop
 |pure (a):bc (.pure a)
 |halt (h):bc (.halt h)
 |load (a) {k}:(∀v,bc (k v))->bc (.load .plain a k)
 |store (a v) {k}:bc k->bc (.store .plain a v k)
 |new (o) {k}:(∀r,bc (k r))->bc (.new o k)
 |shape (r) {k}:(∀x,bc (k x))->bc (.shape r k)
 |frozen (a) {k}:(∀x,bc (k x))->bc (.frozen a k)
 |choose (q) {k}:(∀x,bc (k x))->bc (.choose q k)
 |program {k}:(∀x,bc (k x))->bc (.program k)
 |mark (m) {k}:bc k->bc (.mark m k)
def bc.bind{d e s}{f:d->Sem e}(h:bc s)(g:∀a,bc (f a)):bc (s>>= f):=by show bc (s.bind f);induction h with|pure a=>exact g a|halt h=>exact .halt h|load a _ c=>exact .load a c|store a v _ c=>exact .store a v c|new o _ c=>exact .new o c|shape r _ c=>exact .shape r c|frozen a _ c=>exact .frozen a c|choose q _ c=>exact .choose q c|program _ c=>exact .program c|mark m _ c=>exact .mark m c
def bc.cells{g}{s:Sem g}(h:bc s):∀(P) (w) (es),∀ev∈(s.runT P w es).2,ev∈es\/∀A,ev.loc=.cell A->ev.sync=false:=by
 induction h with
 |pure a=>exactλP w es ev h=>.inl h
 |halt a=>exactλP w es ev h=>.inl h
 |load a _ d=>intro P w es ev h;simp only[Sem.runT]at h;split at h;obtain h|h:=d _ P _ _ ev h;obtain h|rfl:=Y1.1 h;exact .inl h;exact .inr λ_ _=>rfl;exact .inr h;split at h;obtain h|h:=d _ P _ _ ev h;obtain h|h:=XD.1 h;exact .inl h;obtain⟨_,_,rfl⟩:=ZE.1 h;exact .inr λ_ _=>rfl;exact .inr h;exact .inl h
 | @store a v k _ d=>intro P w es ev h;by_cases f:(∀c,v≠ .agg c)/\(∀c,v≠ .tuple c);rw[jC P a v k w es f.1 f.2]at h;split at h;split at h;exact .inl h;obtain h|h:=d P _ _ ev h;obtain h|rfl:=Y1.1 h;exact .inl h;exact .inr λ_ _=>rfl;exact .inr h;split at h;obtain h|h:=d P _ _ ev h;obtain h|h:=XD.1 h;exact .inl h;obtain⟨_,_,rfl⟩:=ZE.1 h;exact .inr λ_ _=>rfl;exact .inr h;exact .inl h;cases v<;>first|(simp at f;done)|exact .inl h
 |new o _ d=>exactλP w es ev h=>d _ P _ _ ev h
 |shape r _ d=>exactλP w es ev h=>d _ P _ _ ev h
 |frozen a _ d=>exactλP w es ev h=>d _ P _ _ ev h
 |choose q _ d=>intro P w es ev h;simp only[Sem.runT]at h;split at h;exact d _ P _ _ ev h;exact d _ P _ _ ev h
 |program _ d=>exactλP w es ev h=>d _ P _ _ ev h
 |mark m _ d=>intro P w es ev h;obtain h|h:=d P _ _ ev h;obtain h|rfl:=Y1.1 h;exact .inl h;(exact .inr λA e=>by cases e);exact .inr h
theorem kX(a):∀(n i) (acc),bc (loadCellsFrom a i n acc)
 |0,_,_=>.pure _
 |n+1,i,acc=>bc.bind (.load _ λv=>.pure v) λv=>kX a n (i+1) _
theorem nX(a):∀(c) (i),bc (storeCells a c i)
 | [],_=>.pure _
 |v::c,i=>bc.bind (.store _ _ (.pure _)) λ_=>nX a c (i+1)
def vV(t):bc (underlying t):=by unfold underlying;refine bc.bind (.program λ_=>.pure _) λp=>?_;split;exact .pure _;exact .halt _
def mo(t):bc (typeInfo t):=by unfold typeInfo;refine bc.bind (.program λ_=>.pure _) λp=>?_;split;exact .pure _;exact .halt _
def EJ(t):bc (Go.sizeOf t):=by unfold Go.sizeOf;exact bc.bind (mo t) λ_=>.pure _
def ye(t):bc (zeroValue t):=by unfold zeroValue;refine bc.bind (mo t) λi=>?_;split;exact .pure _;exact .halt _
def vW(size n x):bc (Builtin.firstCells size n x):=by unfold Builtin.firstCells;split;exact kX _ _ _ _;exact .pure _;exact .pure _;exact .halt _
def Hi(v):bc (asInt v):=by unfold asInt asIntOf;refine bc.bind ?_ λ_=>.pure _;split;exact .pure _;exact .halt _;exact .halt _
def Hj(v):bc (Builtin.lenOf v):=by unfold Builtin.lenOf;split;exact .pure _;exact .pure _;exact .halt _
def Hl{c}(e):bc (runtimePanic e:Sem c):=by unfold runtimePanic;repeat' (first|exact .pure _|exact .halt _|exact .program λ_=>.pure _|exact .new _ λ_=>.pure _|refine bc.bind ?_ λ_=>?_|split)
def Bl(n):bc (askRoom n):=by unfold askRoom;split;exact .mark _ (.pure _);exact .pure _
def vX(a n):bc (Builtin.holdsCells a n):=by unfold Builtin.holdsCells;refine bc.bind (.shape _ λ_=>.pure _) λx=>?_;split<;>exact .pure _
def zT{c}(a):bc (Pure.pure a:Sem c):=.pure a
def Ho{c}(m):bc (stuck m:Sem c):=.halt _
def ur{c}(m):bc (unsupported m:Sem c):=.halt _
def EL(q):bc (choose q):=.choose _ λ_=>.pure _
def J8(m):bc (mark m):=.mark _ (.pure _)
def EM(e c):bc (newRow e c):=by unfold newRow;exact bc.bind (.new _ λ_=>.pure _) λ_=>.pure _
def MG{d c}[Decidable c]{s t:Sem d}(h:bc s)(e:bc t):bc (if c then s else t):=by split<;>assumption
def EN(a):bc (frozen a):=.frozen _ λ_=>.pure _
def zU(a b n x v):bc (Builtin.mayShare a b n x v):=by unfold Builtin.mayShare;repeat' (with_reducible first|exact zT _|exact vX _ _|exact EN _|refine bc.bind ?_ λ_=>?_|split|dsimp only)
def EO(ts t as):bc (Builtin.append_ ts t as):=by
 unfold Builtin.append_;repeat' (with_reducible first
  |exact zT _|exact Ho _|exact ur _|exact Hl _|exact vV _|exact mo _|exact EJ _|exact ye _|exact vW _ _ _|exact nX _ _ _
  |exact EL _|exact J8 _|exact EM _ _|exact Hi _|exact Hj _|exact Bl _|exact zU _ _ _ _ _
  |refine MG ?_ ?_|refine bc.bind ?_ λ_=>?_|split|dsimp only)
def mP(w:xv)(base:Nat)(e:TypeId)(zc:List x6)(v:x6)(n:Nat)(xs:List x6):Prop:=xs.length=n*zc.length/\((v=.slice none 0 0/\n=0)\/∃g cap,v=.slice (some ⟨g,0,none⟩) n cap/\base<=g/\w.heap[g]? =some (.cells (xs++dk zc (cap-n)).toArray e (0,0))/\n<=cap/\cap<=maxLen/\0<n)
def mP.owns{w base e zc v n xs}(h:mP w base e zc v n xs):w.ownsRow base e zc.length v n xs:=by refine⟨h.1,h.2.imp id ?_⟩;rintro⟨g,cap,rfl,c,d,f,j⟩;refine⟨g,cap,_,rfl,c,d,f,j.1,?_,?_⟩;simp only[WX,WS,jV,h.1,<-YM];congr 1;omega;rw[<-h.1];simp
def mP.keep{w w' base e zc v n xs}(h:mP w base e zc v n xs)(c:∀g,v.ownBlock=some g->w'.heap[g]? =w.heap[g]?):mP w' base e zc v n xs:=by refine⟨h.1,h.2.imp id ?_⟩;rintro⟨g,cap,rfl,d,f,j,l⟩;exact⟨g,cap,rfl,d,(c g rfl).trans f,j,l⟩
section
variable {P:Program}
def pv(w base t ty e i z zc bytes)(H:P.underlying t=some (.slice e))(I:P.info? e=some i)(T:i.zero=some z) (d:i.size=zc.length) (J:i.bytes=bytes) (L:z.cells.toList=zc) (V:0<zc.length) (v) (n) (xs) (f:mP w base e zc v n xs) (a) (m c) (news) (x:news.length=m*zc.length) (h:∀j u,news[j]? =some u->w.cell? (a.add j)=some u) (W:∀u∈news,u.oneCell'=true) (y:n+m<=maxLen) (p:(n+m)*bytes<=140737488355328) (r:base<=w.heap.size) (Z:0<m):∃F w',(Builtin.append_ #[t,t] ty #[v,.slice (some a) m c]).run P w=.ok F w'/\mP w' base e zc F (n+m) (xs++news)/\w.grownBy w' v.ownBlock/\((F.ownBlock=v.ownBlock/\w'.heap.size=w.heap.size)\/(F.ownBlock=some w.heap.size/\w'.heap.size=w.heap.size+1/\∀b,b<w.heap.size->w'.heap[b]? =w.heap[b]?)):=by
 subst J;have G:n+m<=9223372036854775807:=by simp only[maxLen]at y;omega
 have q:(xs++news).length=(n+m)*zc.length:=by rw[WS,f.1,x,YM]
 have grown:∀(old:Nat),mP (w.drew.alloc (.cells (xs.toArray++news.toArray++Builtin.zeroCells z.cells (grownCap w (n+m) old e-(n+m))) e)) base e zc
  (.slice (some ⟨w.heap.size,0,none⟩) (n+m) (grownCap w (n+m) old e)) (n+m) (xs++news):=by
  intro old;refine⟨q,.inr ⟨w.heap.size,_,rfl,r,?_,grownCap_ge w (n+m) old e,grownCap_le_maxLen w (n+m) old e y,by omega⟩⟩;have e0:xs.toArray++news.toArray++Builtin.zeroCells z.cells (grownCap w (n+m) old e-(n+m))=(xs++news++dk zc (grownCap w (n+m) old e-(n+m))).toArray:=by apply Zu;simp only[Array.toList_append,nW,L]
  rw[<-e0];exact heap_alloc_new w.drew _
 have gb:∀(old:Nat) (row:Option Nat),w.grownBy (w.drew.alloc (.cells (xs.toArray++news.toArray++Builtin.zeroCells z.cells (grownCap w (n+m) old e-(n+m))) e)) row:=λold row=>⟨rfl,rfl,rfl,by simp,λk N _=>heap_alloc_old w.drew _ k N⟩
 obtain⟨rfl,rfl⟩|⟨g,cap,rfl,O,U,X,Q⟩:=f.2;have Y:=Xp (by simpa using f.1);subst Y;have A:=run_append_nil (P:=P) w t ty e i z H I T a m c news (by rw[x,d]) h (by omega) (by omega) (by have B:=p;simp only[WH]at B;omega);have C:=grown 0;have D:=gb 0 (Value.ownBlock (.slice none 0 0));simp only[WH,XU,XY]at C D⊢;exact⟨_,_,A,C,D,.inr ⟨rfl,by simp,λb B=>heap_alloc_old w.drew _ b B⟩⟩;by_cases l:n+m<=cap;have R:((xs++dk zc (cap-n)).toArray).size=cap*zc.length:=by simp only[WX,WS,jV,f.1,<-YM];congr 1;omega
 have E:n*i.size+news.length<=((xs++dk zc (cap-n)).toArray).size:=by rw[x,R,d,<-YM];exact ZG _ l
 have A:=run_append_room (P:=P) w t ty e i H I g n cap _ U a m c news (by rw[x,d]) h W l E;refine⟨_,_,A,⟨q,.inr ⟨g,cap,rfl,O,?_,l,Q.1,by omega⟩⟩,⟨rfl,rfl,rfl,by simp,λk _ N=>setRow_other w g k _ (λe=>N (by simp[Value.ownBlock,e]))⟩,.inl ⟨rfl,by simp⟩⟩;rw[setRow_heap w g _ _ e _ U];congr 2;apply Zu;simp only[XR];rw[d,<-f.1];rw[List.take_left,aaE,aaE,<-Zc,List.drop_left,x,Hh zc _ _ (by omega)];congr 1;omega;have s:=f.owns.cells (g:=g) rfl;have A:=run_append_grow (P:=P) w t ty e i z H I T ⟨g,0,none⟩ n cap xs (by rw[f.1,d]) s a m c news (by rw[x,d]) h (by omega) (by omega) (growslice_fits (by omega) p);exact⟨_,_,A,grown cap,gb cap _,.inr ⟨rfl,by simp,λb B=>heap_alloc_old w.drew _ b B⟩⟩
variable {mn:Bool} {ty:TypeId} {Wg:Nat} {S:aQ} {K M:Nat->Prop} {w:xv} {b:Frame} {a:Act} {k:List Item} {cs:List Frame} {ops:Array Oper} {i:Nat} {rest:List Nat} {o:Oper}
def Hp{K M m}(h:Conc.Neutral m):EvK Wg K M ⟨.mark m,false,true⟩:=by have e:m=.noRoom:=h;subst e;exact⟨λx c=>by simp[MemAct.ofEvent,MemAct.touch?]at c,by simp,by simp,by simp,λB _=>trivial⟩
def Run.append(ho:ops[i]? =some o)(hw:Region.wanted o (yielded ops a.tmps)=true)(hk:b.kind≠ .early){s x t}(N:o.op=.call {callee:=.builtin .append,args:=#[s,x],argTypes:=#[t,t]}) {v} {ad} {m c} (hs:a.eval s=v) (hx:a.eval x=.slice (some ad) m c) {base} {e} {inf} {z} {zc} {bytes} (ht:P.underlying t=some (.slice e)) (hi:P.info? e=some inf) (hz:inf.zero=some z) (y:inf.size=zc.length) (O:inf.bytes=bytes) (Y:z.cells.toList=zc) (Z:0<zc.length) {n} {xs news} (Q:mP w base e zc v n xs) (B:∀g,v.ownBlock=some g->K g/\M g/\g≠Wg) (R:K ad.block) (hl:news.length=m*zc.length) (E:∀j u,news[j]? =some u->w.cell? (ad.add j)=some u) (h1:∀u∈news,u.oneCell'=true) (T:n+m<=maxLen) (p:(n+m)*bytes<=140737488355328) (F:base<=w.heap.size) (hm:0<m) (aa:∀b,K b->b<w.heap.size) (ab:Wg<w.heap.size) (hn:∀(U X) H w',mP w' base e zc H (n+m) (xs++news)->(∀g,H.ownBlock=some g->U g/\X g/\g≠Wg/\(some g=v.ownBlock\/w.heap.size<=g))->(∀b,K b->some b≠v.ownBlock->w'.heap[b]? =w.heap[b]?)->w.heap.size<=w'.heap.size->(WgLive ty Wg w->WgLive ty Wg w')->(∀b,K b->U b)->(∀b,U b->K b\/w.heap.size<=b)->(∀b,U b->b<w'.heap.size)->(∀b,M b->X b)->(∀b,X b->M b\/w.heap.size<=b)->Run P mn ty Wg S U X (G (b.at (a.put o.dst H) (.inRegion ops rest::k)) cs) w'):Run P mn ty Wg S K M (G (b.at a (.inRegion ops (i::rest)::k)) cs) w:=by (refine .value ho hw hk λw₁ d=>?_;have l:=Q.keep λg C=>d.keep g (B g C).1;have V:∀j,(ad.add j).block=ad.block:=λj=>by unfold Addr.add;split<;>rfl);(have f:∀j u,news[j]? =some u->w₁.cell? (ad.add j)=some u:=λj u hu=>(World.cell?_of_block (d.keep _ (by rw[V];exact R))).trans (E j u hu);obtain⟨H,w',hr,af,C,I⟩:=pv (P:=P) w₁ base t o.type e inf z zc bytes ht hi hz y O Y Z v n xs l ad m c news hl f h1 T p (Ww F d.size) hm;have q:∀b,K b->b<w₁.heap.size:=λb hb=>Wy (aa b hb) d.size;have W:(execOp a.eval o).run P w₁=.ok (.value H) w':=by unfold execOp;simp only[N,resolve,invoke,builtin,Sem.run_bind,Sem.run_pure,Result.andThen_ok,List.map_toArray,aab,List.map_nil,hs,hx,hr]);refine⟨H,w',W,⟨C.os,C.tape,C.output,C.size,λb hb ag=>C.block b hb λe=>?_⟩,λev J=>?_,?_⟩;exact ag (B b e.symm).2.1;rw[events_append_op s x t N hs hx]at J;(rcases events_append_where (P:=P) w₁ base t o.type e inf z zc.length bytes ht hi hz y O v n xs l.owns ad m c news hl f h1 T p ev J with⟨A,hA,r⟩|⟨mk,rfl,ah⟩);obtain⟨ar,wr,sy⟩:=ev;(simp only at hA r;subst hA;have L:sy=false:=by rcases(EO #[t,t] o.type #[v,.slice (some ad) m c]).cells P w₁ #[] _ J with h|h;simp at h;exact h A rfl);subst L;obtain⟨rfl,hb⟩|hb:=r;exact um (.inl (by rw[hb];exact R));have:=B A.block hb.symm;(cases wr with|false=>exact um (.inl this.1)|true=>exact CL (.inl this.1) (.inl this.2.1));exact Hp ah;have ak:=C.block Wg (Wy ab d.size) λe=>(B Wg e.symm).2.2 rfl;refine hn _ _ H w' af (λg D=>?_) (λb hb al=>(C.block b (q b hb) al).trans (d.keep b hb)) (Ww d.size C.size) (λan=>?_) (λb hb=>.inl hb) (λb hb=>hb.imp id λx=>Ww d.size x.1) (λb hb=>hb.elim (λx=>Wy (q b x) C.size) λx=>x.2) (λb hb=>.inl hb) (λb hb=>hb.imp id λx=>Ww d.size x.1);obtain⟨e1,_⟩|⟨e1,e2,_⟩:=I;rw[e1]at D;have:=B g D;exact⟨.inl this.1,.inl this.2.1,this.2.2,.inl D.symm⟩;rw[e1]at D;cases D;exact⟨.inr ⟨Wv _,by omega⟩,.inr ⟨Wv _,by omega⟩,by have:=d.size;omega,.inr d.size⟩;obtain⟨st,sm,ao⟩:=d.live an;exact⟨st,sm,ao.of_block ak⟩
end
section
variable {P:Program} {mn:Bool} {ty:TypeId} {Wg:Nat} {S:aQ}
def EvK.mono{K f M g:Nat->Prop}{e}(h:EvK Wg K M e)(i:∀b,K b->f b)(j:∀b,M b->g b):EvK Wg f g e:=by refine⟨λx k=>?_,h.2⟩;obtain⟨b,l,m⟩:=h.1 x k;refine⟨b,l,m.imp (λ⟨a,c,d⟩=>⟨a,i b c,λn=>j b (d n)⟩) id⟩
def uv{K a:Nat->Prop}(h:∀b,K b->a b)(w w' b)(c:orK K w w' b):orK a w w' b:=c.imp (h b) id
def TH(S:aQ)(B:Nat->Prop)(D0:xv):aQ:=λK M g w=>∃a c,S a c g w/\(∀b,a b->K b)/\(∀b,c b->M b)/\(∀b,K b->b<w.heap.size)/\(∀b,B b->K b/\¬M b/\w.heap[b]? =D0.heap[b]?)/\(WgLive ty Wg D0->WgLive ty Wg w)/\D0.heap.size<=w.heap.size
def Run.frame{B D0 c d g w}(h:Run P mn ty Wg S c d g w):∀{K₂ M₂},(∀b,c b->K₂ b)->(∀b,d b->M₂ b)->(∀b,K₂ b->b<w.heap.size)->(∀b,B b->K₂ b/\¬M₂ b/\w.heap[b]? =D0.heap[b]?)->(WgLive ty Wg D0->WgLive ty Wg w)->(Wg<w.heap.size/\¬M₂ Wg)->D0.heap.size<=w.heap.size->Run P mn ty Wg (TH (ty:=ty) (Wg:=Wg) S B D0) K₂ M₂ g w:=by
 induction h with
 | @stop c d g w h=>(intro K₂ M₂ l j o q r i s;refine .stop λw₁ a=>⟨c,d,h w₁ ⟨λb hb=>a.keep b (l b hb),a.live,a.size⟩,l,j,λb hb=>Wy (o b hb) a.size,λb hb=>?_,λx=>a.live (r x),Ww s a.size⟩);obtain⟨a1,p,t⟩:=q b hb;exact⟨a1,p,(a.keep b a1).trans t⟩
 | @step c d g w u m A C=>(intro K₂ M₂ l j o q r i s;have rk:∀w₁,RK ty Wg K₂ w w₁->RK ty Wg c w w₁:=λw₁ a=>⟨λb hb=>a.keep b (l b hb),a.live,a.size⟩);refine .kW u λw₁ a=>?_;obtain⟨g',w',es,e1,f,e3⟩:=m w₁ (rk w₁ a);refine⟨g',w',es,e1,⟨f.os,f.tape,f.output,f.size,λb hb D=>f.keep b hb λx=>D (j b x)⟩,λe E=>(e3 e E).mono (uv l w₁ w') (uv j w₁ w'),?_⟩;have k:=Wy i.1 a.size;have v:=f.keep Wg k λx=>i.2 (j Wg x);refine C w₁ g' w' es (rk w₁ a) e1 (uv l w₁ w') (uv j w₁ w') (λb hb=>?_) (λb hb=>?_) (λx=>?_) ⟨Wy k f.size,λx=>?_⟩ (Ww (Ww s a.size) f.size);obtain hb|hb:=hb;exact Wy (Wy (o b hb) a.size) f.size;exact hb.2;obtain⟨a1,p,t⟩:=q b hb;have n:=Wy (o b a1) a.size;refine⟨.inl a1,λx=>x.elim p λy=>absurd y.1 (XZ.2 n),?_⟩;rw[f.keep b n λx=>p (j b x),a.keep b a1,t];obtain⟨st,sm,z⟩:=a.live (r x);exact⟨st,sm,z.of_block v⟩;exact x.elim i.2 λy=>absurd y.1 (XZ.2 k)
end
section
variable {S:Kn} {P:Program} {fs:Array Func}
def Hs(c:Tab S P fs)(b:∀f,S.stop f=false){π:Ren P.globals.size}{f:FuncId}(d:S.ent f=true){a A}(e:VsR π a A):bq S π (Frame.enter (ai P fs) f a .normal) (Frame.enter P f A .normal):=by rcases vL (π:=π) c f (.inr d) (λx=>by rw[b f]at x;cases x) e (cs:=[aJ]) (by simp)with h|⟨_,g,a1,A1,h1,_⟩;exact h;rw[b g]at h1;cases h1
def zX{P f a w}:(⟨Frame.enter P f a .normal,[],w⟩:Gh).Flat:=by intro b c;simp[rb,Frame.enter]at c;exact c.symm▸rfl
def qw(d:Tab S P fs)(c:∀f,S.stop f=false){Pr Post π}{f:FuncId}(h:S.ent f=true){a A}(i:VsR π a A){w W}(j:bE S Pr π w W)(k:∀g,S.dU g=true->π g g) (l:∀b,b.heap=w.heap->Calls (ai P fs) f a b λe w'=>∃v,e=.returned v/\Post v w'):Cp S P fs Pr Post π ⟨Frame.enter (ai P fs) f a .normal,[],aw w (λ_ _=>0) 0⟩ (Frame.enter P f A .normal) [] W:=
 ⟨Hs d c h i,.nil,j.heap rfl rfl,zX,GJ (λ_ _=>nF) λτ _ _=>l _ rfl,k⟩
def qx{G B a}(h:∀x∈a,aD (idR G B) x x):VsR (idR G B) a a:=bf.refl h
def Kb(k:Tab S P fs)(a:∀f,S.stop f=false){f:FuncId}(t:S.ent f=true){args B W}(d:∀b,B b->∃c e F,W.heap[b]? =some (.cells c e F))(u:P.globals.size<=W.heap.size)(l:∀g,S.dU g=true->B g) (y:∀x∈args,aD (idR P.globals.size B) x x) {Post} (A:∀w,w.heap=(dD (idR P.globals.size B) B W).heap->Calls (ai P fs) f args w λe w'=>∃v,e=.returned v/\Post v w') (C:∀w,w.heap=(dD (idR P.globals.size B) (λ_=>False) W).heap->Calls (ai P fs) f args w λe w'=>∃v,e=.returned v/\∀b,b<w.heap.size->w'.heap[b]? =w.heap[b]?):∃D E,jx S P fs (idR P.globals.size B) W (dD (idR P.globals.size B) (λ_=>False) W) Post (idR P.globals.size B) (idR P.globals.size B) D E (Frame.enter P f args .normal) [] W:=by (have i:∀(Pr:Nat->Prop) b,B b->∃o,W.heap[b]? =some o/\((∃c e f,o=.cells c e f)\/(¬Pr b/\(∀c e f,o≠ .cells c e f)/\gL S (idR P.globals.size B) o o)):=λPr b j=>by obtain⟨c,e,F,h⟩:=d b j;exact⟨_,h,.inl ⟨c,e,F,rfl⟩⟩);(have e:(λR=>∃r,(idR P.globals.size B) r R)=B:=funext λR=>propext ⟨λ⟨r,n,p⟩=>n▸p,λh=>⟨R,rfl,h⟩⟩;have q:bE S (λR=>∃r,(idR P.globals.size B) r R) (idR P.globals.size B) (dD (idR P.globals.size B) B W) W:=by rw[e];exact lM (i B) (λ_ h=>h) u (d 0 (l 0 k.zo)));have s:=lM (S:=S) (Pr:=λ_=>False) (i λ_=>False) (λ_ h=>h.elim) u (d 0 (l 0 k.zo));refine⟨_,_,⟨qw k a t (qx y) q (λg h=>⟨rfl,l g h⟩) A,qw k a t (qx y) s (λg h=>⟨rfl,l g h⟩) λw h=>(C w h).mono ?_,Ren.le_refl _,Ren.le_refl _,?_,λ_ _ _=>rfl,λR=>Yx⟩⟩;rintro I w' ⟨v,n,p⟩;(refine⟨v,n,λr R G=>?_⟩;obtain⟨rfl,j⟩:=G;obtain⟨c,z,F,m⟩:=d r j;have H:r<w.heap.size:=by rw[h,mr];exact(WC.1 m).1);rw[p r H,h];rintro r R ⟨rfl,j⟩;obtain⟨c,z,F,m⟩:=d r j;refine⟨c.map (mask (idR P.globals.size B)),c,z,F,?_,m⟩;rw[gX,m];simp[lA]
def Se(p:Tab S P fs)(a:∀f,S.stop f=false)(i:∀g,S.calm g){f:FuncId}(D:S.ent f=true){args K W ty Wg mn}(E:P.globals.size<=W.heap.size) (G:∀g,S.dU g=true->K g/\∃c e F,W.heap[g]? =some (.cells c e F)) (q:∀b,K b->b<W.heap.size) (s:Wg<W.heap.size) (j:WgLive ty Wg W) (H:∀x∈args,aD (idR P.globals.size λb=>K b/\∃c e F,W.heap[b]? =some (.cells c e F)) x x) {V} (I:∀(π:Ren P.globals.size) v,aD π V v->v=V) (u:∀(fz) (w),w.heap=(dD (idR P.globals.size λb=>K b/\∃c e F,W.heap[b]? =some (.cells c e F)) fz W).heap->Calls (ai P fs) f args w λe w'=>e=.returned V/\∀b,b<w.heap.size->w'.heap[b]? =w.heap[b]?) (Q) (C) (cs) (m:∀k n w',(∀b,K b->k b/\¬n b/\w'.heap[b]? =W.heap[b]?)->(∀b,k b->b<w'.heap.size)->WgLive ty Wg w'->Run P mn ty Wg Q k n ⟨C.finish V,cs,.running,none,none⟩ w'):Run P mn ty Wg Q K (λ_=>False) ⟨Frame.enter P f args .normal,C::cs,.running,none,none⟩ W:=by
 obtain⟨J,L,M⟩:=Kb (Post:=λv _=>v=V) p a D (B:=λb=>K b/\∃c e F,W.heap[b]? =some (.cells c e F)) (W:=W) (λb h=>h.2) E (λg h=>G g h) H
  (λw h=>(u _ w h).mono λe w' h=>⟨V,h.1,rfl⟩) (λw h=>(u _ w h).mono λe w' h=>⟨V,h.1,h.2⟩)
 have o:=xu (mn:=mn) (ty:=ty) (Wg:=Wg) (B:=C::cs) (Q:=λk n g w'=>g=⟨C.finish V,cs,.running,none,none⟩) p a i (idR P.globals.size λb=>K b/\∃c e F,W.heap[b]? =some (.cells c e F)) (λN O J L F W' hI h R=>?_) (Ren.le_refl _) M;refine(o.frame (K₂:=K) (M₂:=λ_=>False) (B:=K) (D0:=W) (λb ⟨r,y⟩=>?_) (λb l=>?_) q (λb l=>⟨l,id,rfl⟩) id ⟨s,id⟩ (Wv _)).bind ?_;exact y.1▸y.2.1;exact l.2 l.1;rintro k n g w' ⟨K1,M1,rfl,_,_,T,U,X,h6⟩;exact m k n w' (λb l=>U b l) T (X j);refine .kW rfl λz d=>?_;have Y:=h.GL d.keep d.size;obtain⟨v,V',w',t,ev,A,a1,Z,a3,a4,a5,a6,_⟩:=Y.leave p R C cs mn Wg;subst Z;have:=I _ _ a3;subst this;exact⟨_,t,ev,a1,a4,a5,.stop λ_ _=>rfl⟩
def Ht(l:Tab S P fs)(a:∀f,S.stop f=false){f:FuncId}(u:S.ent f=true){args}{B O:Nat->Prop}{W}(d:∀b,B b->∃c e F,W.heap[b]? =some (.cells c e F))(y:P.globals.size<=W.heap.size)(m:∀g,S.dU g=true->B g) (z:∀x∈args,aD (idR P.globals.size B) x x) {Post} (C:∀w,w.heap=(dD (idR P.globals.size B) (λb=>B b/\¬O b) W).heap->Calls (ai P fs) f args w λe w'=>∃v,e=.returned v/\Post v w') (D:∀w,w.heap=(dD (idR P.globals.size B) (λ_=>False) W).heap->Calls (ai P fs) f args w λe w'=>∃v,e=.returned v/\∀b,b<w.heap.size->¬O b->w'.heap[b]? =w.heap[b]?):∃E G,jx S P fs (idR P.globals.size λb=>B b/\¬O b) W (dD (idR P.globals.size B) (λ_=>False) W) Post (idR P.globals.size B) (idR P.globals.size B) E G (Frame.enter P f args .normal) [] W:=by (have i:∀(Pr:Nat->Prop) b,B b->∃o,W.heap[b]? =some o/\((∃c e f,o=.cells c e f)\/(¬Pr b/\(∀c e f,o≠ .cells c e f)/\gL S (idR P.globals.size B) o o)):=λPr b j=>by obtain⟨c,e,F,h⟩:=d b j;exact⟨_,h,.inl ⟨c,e,F,rfl⟩⟩);(have e:(λR=>∃r,(idR P.globals.size λb=>B b/\¬O b) r R)=λb=>B b/\¬O b:=funext λR=>propext ⟨λ⟨r,p,q⟩=>p▸q,λh=>⟨R,rfl,h⟩⟩;have s:bE S (λR=>∃r,(idR P.globals.size λb=>B b/\¬O b) r R) (idR P.globals.size B) (dD (idR P.globals.size B) (λb=>B b/\¬O b) W) W:=by rw[e];exact lM (i _) (λ_ h=>h.1) y (d 0 (m 0 l.zo)));(have t:=lM (S:=S) (Pr:=λ_=>False) (i λ_=>False) (λ_ h=>h.elim) y (d 0 (m 0 l.zo));have k:Ren.le (idR P.globals.size λb=>B b/\¬O b) (idR P.globals.size B):=λr R h=>⟨h.1,h.2.1⟩);refine⟨_,_,⟨qw l a u (qx z) s (λg h=>⟨rfl,m g h⟩) C,qw l a u (qx z) t (λg h=>⟨rfl,m g h⟩) λw h=>(D w h).mono ?_,k,k,?_,λ_ _ _=>rfl,λR=>Yx⟩⟩;rintro K w' ⟨v,p,q⟩;(refine⟨v,p,λr R H=>?_⟩;obtain⟨rfl,j,I⟩:=H;obtain⟨c,A,F,n⟩:=d r j;have J:r<w.heap.size:=by rw[h,mr];exact(WC.1 n).1);rw[q r J I,h];rintro r R ⟨rfl,j,_⟩;obtain⟨c,A,F,n⟩:=d r j;refine⟨c.map (mask (idR P.globals.size B)),c,A,F,?_,n⟩;rw[gX,n];simp[lA]
def PW(z:Tab S P fs)(d:∀f,S.stop f=false)(k:∀g,S.calm g){f:FuncId}(hf:S.ent f=true){args}{K M O:Nat->Prop}{W ty Wg mn}(hG:P.globals.size<=W.heap.size) (hg:∀g,S.dU g=true->K g/\∃c e F,W.heap[g]? =some (.cells c e F)) (A:∀b,K b->b<W.heap.size) (D:Wg<W.heap.size) (l:WgLive ty Wg W) (E:¬M Wg) (G:∀b,O b->M b) (n:∀b,O b->K b/\∃c e F,W.heap[b]? =some (.cells c e F)) (ha:∀x∈args,aD (idR P.globals.size λb=>K b/\∃c e F,W.heap[b]? =some (.cells c e F)) x x) {Post:x6->xv->Prop} {T:x6->(Nat->Option Obj)->Prop} (hT:∀(Pr) (π) v V w w',Ren.le (idR P.globals.size λb=>K b/\∃c e F,W.heap[b]? =some (.cells c e F)) π->Post v w->aD π v V->bE S Pr π w w'->∀h,(∀b,O b->h b=w'.heap[b]?)->T V h) (U:∀(fz) (w),(∀b,O b->¬fz b)->w.heap=(dD (idR P.globals.size λb=>K b/\∃c e F,W.heap[b]? =some (.cells c e F)) fz W).heap->Calls (ai P fs) f args w λe w'=>∃v,e=.returned v/\Post v w'/\∀b,b<w.heap.size->¬O b->w'.heap[b]? =w.heap[b]?) (Q) (C) (cs) (o:∀i p w' V,(∀b,K b->¬M b->i b/\¬p b/\w'.heap[b]? =W.heap[b]?)->(∀b,i b->b<w'.heap.size)->WgLive ty Wg w'->T V (λb=>w'.heap[b]?)->(∀b,O b->i b)->Run P mn ty Wg Q i p ⟨C.finish V,cs,.running,none,none⟩ w'):Run P mn ty Wg Q K M ⟨Frame.enter P f args .normal,C::cs,.running,none,none⟩ W:=by
 obtain⟨cA,cB,hD⟩:=Ht (O:=O) (Post:=Post) z d hf (B:=λb=>K b/\∃c e F,W.heap[b]? =some (.cells c e F)) (W:=W) (λb h=>h.2) hG (λg h=>hg g h) ha
  (λw h=>(U _ w (λb a x=>x.2 a) h).mono λe w' ⟨v,H,h2,_⟩=>⟨v,H,h2⟩) (λw h=>(U _ w (λb a x=>x) h).mono λe w' ⟨v,H,_,I⟩=>⟨v,H,I⟩)
 have q:=xu (mn:=mn) (ty:=ty) (Wg:=Wg) (B:=C::cs) (Q:=λi p g w'=>∃V,g=⟨C.finish V,cs,.running,none,none⟩/\T V (λb=>w'.heap[b]?)/\∀b,O b->i b) z d k (idR P.globals.size λb=>K b/\∃c e F,W.heap[b]? =some (.cells c e F)) (λaa ab cA cB F W' J h he=>?_) (Ren.le_refl _) hD;refine(q.frame (K₂:=K) (M₂:=M) (B:=λb=>K b/\¬M b) (D0:=W) (λb ⟨r,m⟩=>?_) (λb a=>?_) A (λb a=>⟨a.1,a.2,rfl⟩) id ⟨D,E⟩ (Wv _)).bind ?_;exact m.1▸m.2.1;obtain⟨⟨r,m⟩,hn⟩:=a;obtain⟨rfl,m⟩:=m;exact G r (XN λho=>hn ⟨r,rfl,m,ho⟩);rintro i p g w' ⟨K1,M1,⟨V,rfl,L,s⟩,N,_,I,h4,h5,h6⟩;exact o i p w' V (λb a hm=>h4 b ⟨a,hm⟩) I (h5 l) L λb a=>N b (s b a);refine .kW rfl λX j=>?_;have h':=h.GL j.keep j.size;obtain⟨v,Y,w',t,ev,u,a1,a2,a3,a4,a5,a6,a7,a8⟩:=h'.leave z he C cs mn Wg;have R:=Ren.le_trans J a8;refine⟨_,t,ev,a1,a4,a5,.stop λZ y=>⟨Y,rfl,hT _ u v Y w' t R a2 a3 a7 _ λb a=>y.keep b (.inl ⟨b,J b b ⟨rfl,n b a⟩⟩),λb a=>.inl ⟨b,J b b ⟨rfl,n b a⟩⟩⟩⟩
end
end Go.Tm
namespace Go.Tm
open Go.Conc Go.ConcN Go.Conc.Lib
open Go.ConcR (KK WgAt stA smA rd wr mk DC0)
structure WD where
 s:Nat
 d:Nat
 K:Nat->Prop
 M:Nat->Prop
inductive pB where
 |sp (r st:Nat)|gc|rc (r:Nat) (hs:List x6)|rb (r:Nat) (hs:List x6)|rw(r:Nat) (hs:List x6)
inductive CTag where
 |wd|w1|w2 (vs:Nat)|sw|w3|blk|w4|we|acq|cl|quit
def pB.pend:pB->Nat
 | .sp _ st=>if st<=3 then 1 else 0
 |_=>0
def pB.got:pB->List x6
 | .rc _ hs| .rb _ hs| .rw _ hs=>hs
 |_=>[]
def kM(d:WD):Nat:=if 4<=d.s then 1 else 0
def VW(j:Nat)(D:Nat->WD):Nat:=sumTo j λi=>kM (D i)
def kN(v:Nat):CTag->Nat
 | .wd=>100| .w1=>50| .w2 a=>if a=v then 40 else 60| .sw=>30| .w3=>20| .blk=>19| .w4=>15| .we=>14| .acq=>13| .cl=>12| .quit=>0
section
variable (P:Program) (ty:TypeId) (Wg ch:Nat) (z:x6) (An:aQ) (HV:Nat->Option x6) (Fin:List x6->aQ) (n:Nat)
inductive WSit(hv:Option x6):WD->Rk P ty Wg->V4->xv->Prop
 |run {K M:Nat->Prop} {g:V4} {w:xv} {c:RC P ty Wg}:dj P ty Wg false (SWk P ty Wg ch z hv) K M g w c->WSit hv ⟨8,0,K,M⟩ (8,0,c) g w
 |blk {K M:Nat->Prop} {g:V4} {w:xv} {c:RC P ty Wg} {v:x6}:hv=some v->dj P ty Wg false (SR0 P ty Wg) K M (Conc.served g undef) w c->WSit hv ⟨7,0,K,M⟩ (7,0,c) (parked g #[scase ch v undef] .send) w
 |r0 {K M:Nat->Prop} {g:V4} {w:xv} {c:RC P ty Wg}:dj P ty Wg false (SR0 P ty Wg) K M g w c->WSit hv ⟨6,0,K,M⟩ (6,0,c) g w
 |k1 {K M:Nat->Prop} {g:V4} {w:xv} {c:RC P ty Wg} {m:Nat}:Goes P false (RK ty Wg K) DC0 (SK1 P ty Wg K M) m g w->WSit hv ⟨5,0,K,M⟩ (5,m,c) g w
 |d1 {K M:Nat->Prop} {g:V4} {w:xv} {c:RC P ty Wg} {m:Nat}:Goes P false (RK ty Wg K) DC0 (SD1 P ty Wg K M) m g w->WSit hv ⟨4,1,K,M⟩ (4,m,c) g w
 |d2 {K M:Nat->Prop} {g:V4} {w:xv} {c:RC P ty Wg} {m:Nat}:Goes P false (RK ty Wg K) DC0 (SD2 P ty Wg K M) m g w->WSit hv ⟨3,1,K,M⟩ (3,m,c) g w
 |d3 {K M:Nat->Prop} {g:V4} {w:xv} {c:RC P ty Wg} {m:Nat}:Goes P false (RK ty Wg K) DC0 (SD3 P ty Wg K M) m g w->WSit hv ⟨2,1,K,M⟩ (2,m,c) g w
 |d4 {K M:Nat->Prop} {g:V4} {w:xv} {c:RC P ty Wg} {m:Nat}:Goes P false (RK ty Wg K) DC0 (SD4 P ty Wg K M) m g w->WSit hv ⟨1,1,K,M⟩ (1,m,c) g w
 |quit {K M:Nat->Prop} {g:V4} {w:xv} {c:RC P ty Wg} {q d:Nat}:QuitsD P q d g->WSit hv ⟨0,d,K,M⟩ (0,q,c) g w
inductive gq:pB->Nat->Nat->(Nat->Prop)->(Nat->Prop)->Rk P ty Wg->V4->xv->Prop
 |kd {K M:Nat->Prop} {g:V4} {w:xv} {c:RC P ty Wg} {r:Nat}:r<n->dj P ty Wg true (SKd P ty Wg ch z HV n r (SSp P ty Wg ch z An HV Fin n r)) K M g w c->gq (.sp r 5) (n-(r+1)) 0 K M (100+10*r+5,0,c) g w
 |a1 {K M:Nat->Prop} {g:V4} {w:xv} {c:RC P ty Wg} {r:Nat}:r<n->dj P ty Wg true (SA1 P ty Wg ch z HV n r (SSp P ty Wg ch z An HV Fin n r)) K M g w c->gq (.sp r 4) (n-(r+1)) 1 K M (100+10*r+4,0,c) g w
 |sr {K M:Nat->Prop} {g:V4} {w:xv} {c:RC P ty Wg} {r:Nat}:r<n->dj P ty Wg true (SSr P ty Wg ch z HV n r (SSp P ty Wg ch z An HV Fin n r)) K M g w c->gq (.sp r 3) (n-(r+1)) 1 K M (100+10*r+3,0,c) g w
 |ke {K M:Nat->Prop} {g:V4} {w:xv} {c:RC P ty Wg} {r:Nat}:r<n->dj P ty Wg true (SKe P ty Wg ch z HV n r (SSp P ty Wg ch z An HV Fin n r)) K M g w c->gq (.sp r 2) (n-(r+1)) 1 K M (100+10*r+2,0,c) g w
 |go {K M:Nat->Prop} {g:V4} {w:xv} {c:RC P ty Wg} {r:Nat}:r<n->dj P ty Wg true (SGo P ty Wg ch z HV n r (SSp P ty Wg ch z An HV Fin n r)) K M g w c->gq (.sp r 1) (n-(r+1)) 0 K M (100+10*r+1,0,c) g w
 |gc {K M:Nat->Prop} {g:V4} {w:xv} {c:RC P ty Wg}:dj P ty Wg true (Mx P ty Wg ch z An HV Fin n) K M g w c->gq .gc n 0 K M (90,0,c) g w
 |rc {K M:Nat->Prop} {g:V4} {w:xv} {c:RC P ty Wg} {r:Nat} {hs:List x6}:r+hs.length=n->dj P ty Wg true (qi P ty Wg ch z HV Fin n r hs) K M g w c->gq (.rc r hs) n 0 K M (20,0,c) g w
 |rb {K M:Nat->Prop} {g:V4} {w:xv} {c:RC P ty Wg} {r:Nat} {hs:List x6}:r+hs.length=n->(∀w₁,RK ty Wg K w w₁->qi P ty Wg ch z HV Fin n r hs K M g w₁)->gq (.rb r hs) n 0 K M (19,0,c) (parked {g with offers:=none} #[rcase ch z] (.recv true)) w
 |rw{K M:Nat->Prop} {g:V4} {w:xv} {c:RC P ty Wg} {r:Nat} {hs:List x6}:r+hs.length=n->(∀w₁,RK ty Wg K w w₁->qi P ty Wg ch z HV Fin n r hs K M g w₁)->gq (.rw r hs) n 0 K M (18,0,c) {parked {g with offers:=none} #[rcase ch z] (.recv true)with status:=.running} w
inductive CSit(v:Nat):CTag->Nat->(Nat->Prop)->(Nat->Prop)->Rk P ty Wg->V4->xv->Prop
 |wd {K M:Nat->Prop} {g:V4} {w:xv} {c:RC P ty Wg}:dj P ty Wg false (SWd P ty Wg ch An) K M g w c->CSit v .wd 0 K M (kN v .wd,0,c) g w
 |w1 {K M:Nat->Prop} {g:V4} {w:xv} {c:RC P ty Wg}:dj P ty Wg false (SW1 P ty Wg ch An) K M g w c->CSit v .w1 1 K M (kN v .w1,0,c) g w
 |w2 {K M:Nat->Prop} {g:V4} {w:xv} {c:RC P ty Wg} {vs:Nat}:dj P ty Wg false (SW2 P ty Wg ch An vs) K M g w c->CSit v (.w2 vs) 1 K M (kN v (.w2 vs),0,c) g w
 |sw {K M:Nat->Prop} {g:V4} {w:xv} {c:RC P ty Wg}:dj P ty Wg false (SSw P ty Wg ch) K M g w c->CSit v .sw 1 K M (kN v .sw,0,c) g w
 |w3 {K M:Nat->Prop} {g:V4} {w:xv} {c:RC P ty Wg}:dj P ty Wg false (SW3 P ty Wg ch) K M g w c->CSit v .w3 1 K M (kN v .w3,0,c) g w
 |blk {K M:Nat->Prop} {g:V4} {w:xv} {c:RC P ty Wg}:(∀w₁,RK ty Wg K w w₁->SW3 P ty Wg ch K M g w₁)->CSit v .blk 1 K M (kN v .blk,0,c) {g with status:=.blocked} w
 |w4 {K M:Nat->Prop} {g:V4} {w:xv} {c:RC P ty Wg}:dj P ty Wg false (SW4 P ty Wg ch) K M g w c->CSit v .w4 1 K M (kN v .w4,0,c) g w
 |we {K M:Nat->Prop} {g:V4} {w:xv} {c:RC P ty Wg}:dj P ty Wg false (SWe P ty Wg ch) K M g w c->CSit v .we 1 K M (kN v .we,0,c) g w
 |acq {K M:Nat->Prop} {g:V4} {w:xv} {c:RC P ty Wg}:dj P ty Wg false (RX P ty Wg ch) K M g w c->CSit v .acq 0 K M (kN v .acq,0,c) g w
 |cl {K M:Nat->Prop} {g:V4} {w:xv} {c:RC P ty Wg}:dj P ty Wg false (SCl P ch) K M g w c->CSit v .cl 0 K M (kN v .cl,0,c) g w
 |quit {K M:Nat->Prop} {g:V4} {w:xv} {c:RC P ty Wg} {q d:Nat}:QuitsD P q d g->CSit v .quit d K M (kN v .quit,q,c) g w
end
def fF:Option CTag->Bool
 |some .quit=>true
 |_=>false
def xw(j:Nat)(D:Nat->WD):Prop:=∀i,i<j->4<=(D i).s\/(D i).s=0
def GM(j:Nat)(D:Nat->WD):Prop:=∀i,i<j->(D i).s=0
def CTag.opn:Option CTag->Prop
 |none|some .wd|some .w1|some (.w2 _)=>True
 |_=>False
def CTag.reg:Option CTag->Prop
 |some .sw|some .w3|some .blk=>True
 |_=>False
def CTag.fin:Option CTag->Prop
 |some .w4|some .we|some .acq|some .cl|some .quit=>True
 |_=>False
inductive Mode(j:Nat)(D:Nat->WD)(mt:pB):Option CTag->Int->Int->Prop
 |opn {ct:Option CTag}:CTag.opn ct->xw j D->(∀vs,ct=some (.w2 vs)->VW j D<=vs/\1<=vs)->Mode j D mt ct (((VW j D+mt.pend:Nat):Int)*KK) 0
 |reg {ct:Option CTag}:CTag.reg ct->xw j D->1<=VW j D->Mode j D mt ct (((VW j D:Nat):Int)*KK+1) 0
 |last {ct:Option CTag} (L:Nat):CTag.reg ct->L<j->((D L).s=3\/(D L).s=2\/(D L).s=1)->(∀i,i<j->i≠L->(D i).s=0)->Mode j D mt ct (if(D L).s=1 then 0 else 1) 0
 |sema {ct:Option CTag}:CTag.reg ct->ct≠some .blk->GM j D->Mode j D mt ct 0 1
 |fin {ct:Option CTag}:CTag.fin ct->GM j D->Mode j D mt ct 0 0
def Mode.zA{j D mt ct st sm}(h:Mode j D mt ct st sm)(b:CTag.fin ct):GM j D:=by (have no:∀{ct:Option CTag},CTag.fin ct->(CTag.opn ct->False)/\(CTag.reg ct->False):=by intro ct h;cases ct with|none=>exact h.elim|some c=>cases c<;>first|exact h.elim|exact⟨id,id⟩);cases h with|opn a=>exact((no b).1 a).elim|reg a=>exact((no b).2 a).elim|last _ a=>exact((no b).2 a).elim|sema a=>exact((no b).2 a).elim|fin _ a=>exact a
structure GSt(P:Program)(ty:TypeId)(Wg:Nat) where
 j:Nat
 D:Nat->WD
 R:Nat->Rk P ty Wg
 mt:pB
 K0:Nat->Prop
 M0:Nat->Prop
 r0:Rk P ty Wg
 d0:Nat
 ct:Option CTag
 Kc:Nat->Prop
 Mc:Nat->Prop
 rc:Rk P ty Wg
 dc:Nat
 q:Nat->Nat
 own:Nat->Nat
 low:Nat->Nat
 st:Int
 sm:Int
section
variable (P:Program) (ty:TypeId) (Wg ch:Nat) (z:x6) (An:aQ) (HV:Nat->Option x6) (Fin:List x6->aQ) (n base N0:Nat) (shun:Nat->Prop) (F0:xv) (t₀:Trace)
def spB(b:Nat):Prop:=b=Wg\/b=ch
structure GW(w:xv)(σ:GSt P ty Wg):Prop where
 os:w.os=F0.os
 tape:w.tape=F0.tape
 output:w.output=F0.output
 ik:N0<=w.heap.size
 old:∀b,b<N0->w.heap[b]? =F0.heap[b]?
 chn:∃s,w.heap[ch]? =some (.chan 0 #[] (fF σ.ct) s s false)
 wg:WgAt ty Wg w σ.st σ.sm
 sp:Wg<w.heap.size/\ch<w.heap.size
 kw:∀i,i<σ.j->∀b,(σ.D i).K b->b<w.heap.size/\¬spB Wg ch b/\¬shun b/\(σ.own b=base+i\/(σ.own b=0/\b<σ.low (base+i)))
 mw:∀i,i<σ.j->∀b,(σ.D i).M b->σ.own b=base+i
 k0:∀b,σ.K0 b->b<w.heap.size/\¬spB Wg ch b/\¬shun b/\σ.own b=0
 m0:∀b,σ.M0 b->b<w.heap.size/\¬spB Wg ch b/\N0<=b/\σ.own b=0/\∀k,σ.low k<=b
 kc:σ.ct≠none->∀b,σ.Kc b->b<w.heap.size/\¬spB Wg ch b/\¬shun b/\(σ.own b=base+n\/(σ.own b=0/\b<σ.low (base+n)))
 mc:σ.ct≠none->∀b,σ.Mc b->σ.own b=base+n
 owns:∀b,σ.own b≠0->N0<=b/\base<=σ.own b/\b<w.heap.size/\¬spB Wg ch b
 GN:∀i,i<σ.j->σ.low (base+i)≠0
 GO:σ.low (base+n)≠0↔σ.ct≠none
 Ex:∀k,σ.low k≠0->(∃i,i<σ.j/\k=base+i)\/k=base+n
 Ey:∀k,σ.low k<=w.heap.size
def jU{N}{t u:Trace}(h:∀a∈t,a.g<N)(c:∀a∈u,a.g<N):∀a∈t++u,a.g<N:=λa b=>(XD.1 b).elim (h a) (c a)
def AcqAll(t:Trace):Prop:=∃q,t.act? q=some (.mark (.acquire (stA Wg)))/\t.g? q=some (base+n)/\t.heard q/\∀i,i<n->∃r,RelBy (stA Wg) t (base+i) r/\r<q
def Ez(t:Trace):Prop:=∃q p,t.act? q=some (.mark (.acquire (stA Wg)))/\t.g? q=some (base+n)/\t.heard q/\(∀i,i<n->∃r,RelBy (stA Wg) t (base+i) r/\r<q)/\q<p/\t.act? p=some (.close ch)/\t.g? p=some (base+n)/\t.heard p/\∀i,p<i->t.g? i=some (base+n)->¬t.counts i
structure GT(w:xv)(t:Trace)(σ:GSt P ty Wg):Prop where
 pre:∃u,t=t₀++u
 tr:TI shun (spB Wg ch) (base+n) t₀.size σ.own σ.low t
 seen:∀op∈t,op.act.low w.heap.size
 gb:∀op∈t,op.g<base+n+1
 norel:NoRelease (stA Wg) t
 d0:Deaf t 0=σ.d0
 dw:∀i,i<σ.j->Deaf t (base+i)=(σ.D i).d
 dc:σ.ct≠none->Deaf t (base+n)=σ.dc
 above:∀k,base<=k->(∀i,i<σ.j->k≠base+i)->(σ.ct≠none->k≠base+n)->Deaf t k=0
 rel:∀i,i<σ.j->(σ.D i).s<=5->∃r,RelBy (stA Wg) t (base+i) r
 acq:σ.ct=some .cl->AcqAll Wg n base t
 cls:σ.ct=some .quit->Ez Wg ch n base t
def GT.tb{P ty Wg ch n base shun t₀ t w σ}(T:GT P ty Wg ch n base shun t₀ w t σ):∀(i) x b,touchAt t i=some x->blk x.loc=some b->b<w.heap.size:=by intro i x b d e;obtain⟨f,a,c⟩:=touch_of d;exact Lj (T.seen f (mem_of_getElem? a)) c e
structure GG(gs:Array V4)(w:xv)(t:Trace)(σ:GSt P ty Wg):Prop where
 size:gs.size=base+σ.j+(if σ.ct.isSome then 1 else 0)
 jn:σ.j<=n
 cn:σ.ct≠none->σ.j=n
 mn:∃a,gs[0]? =some a/\gq P ty Wg ch z An HV Fin n σ.mt σ.j σ.d0 σ.K0 σ.M0 σ.r0 a w
 mc:σ.ct=none↔((∃r st,σ.mt=.sp r st)\/σ.mt=.gc)
 wk:∀i,i<σ.j->∃g,gs[base+i]? =some g/\WSit P ty Wg ch z (HV i) (σ.D i) (σ.R i) g w
 unb:∀i,σ.j<=i->i<n->(σ.R i).1=9
 cl:∀c,σ.ct=some c->∃g,gs[base+n]? =some g/\CSit P ty Wg ch An (VW σ.j σ.D) c σ.dc σ.Kc σ.Mc σ.rc g w
 lv:∀i g,0<i->i<base->gs[i]? =some g->QuitsD P (σ.q i) (Deaf t i) g
 mb:(∃r hs,σ.mt=.rb r hs)->σ.ct≠some .quit/\∀i,i<σ.j->(σ.D i).s≠7
 mq:∀r hs,σ.mt=.rw r hs->σ.ct=some .quit
def Got(σ:GSt P ty Wg):Prop:=∃l:List Nat,l.Nodup/\(∀i,i∈l↔i<σ.j/\(σ.D i).s<=6/\HV i≠none)/\σ.mt.got=l.filterMap HV
structure GI(gs:Array V4)(w:xv)(t:Trace)(σ:GSt P ty Wg):Prop where
 w_:GW P ty Wg ch n base N0 shun F0 w σ
 t_:GT P ty Wg ch n base shun t₀ w t σ
 g_:GG P ty Wg ch z An HV Fin n base gs w t σ
 m_:Mode σ.j σ.D σ.mt σ.ct σ.st σ.sm
 v_:Got P ty Wg HV σ
end
structure oW(ty:TypeId)(Wg:Nat)(K:Nat->Prop)(Fx:xv->Prop):Prop where
 rely:∀w w₁,RK ty Wg K w w₁->Fx w->Fx w₁
 set:∀w a v,a.block=Wg->Fx w->Fx (w.setCell a v)
def zO{ty Wg K b o}(e:K b)(f:b≠Wg):oW ty Wg K (λw=>w.heap[b]? =some o):=⟨λw d h c=>(h.keep b e).trans c,λw a v i c=>by rw[eA w a v b (by rw[i];exact f)];exact c⟩
def oW.and{ty Wg K F G}(h:oW ty Wg K F)(c:oW ty Wg K G):oW ty Wg K (λw=>F w/\G w):=⟨λw b r x=>⟨h.rely w b r x.1,c.rely w b r x.2⟩,λw a v d x=>⟨h.set w a v d x.1,c.set w a v d x.2⟩⟩
def oW.all{ty Wg K}{d:Type}{F:d->xv->Prop}(h:∀a,oW ty Wg K (F a)):oW ty Wg K (λw=>∀a,F a w):=⟨λw c r x a=>(h a).rely w c r (x a),λw a v e x b=>(h b).set w a v e (x b)⟩
def oW.const{ty Wg K}(p):oW ty Wg K (λ_=>p):=⟨λ_ _ _ x=>x,λ_ _ _ _ x=>x⟩
section
variable {P:Program} {mn:Bool} {ty:TypeId} {Wg ch:Nat} {z:x6} {K M:Nat->Prop} {Fn:V4->xv->Prop} {Fx:xv->Prop}
def er(fx:oW ty Wg K Fx){e}{S:aQ}{g w}(h:∃m,Goes P mn (RL ty Wg) DC0 e m g w)(d:Fx w)(f:∀g w,e g w->Fx w->S K M g w):Run P mn ty Wg S K M g w:=by obtain⟨m,h⟩:=h;induction m generalizing g w with|zero=>exact .stop λa b=>f _ _ (h a b.rl) (fx.rely w a b d)|succ m i=>obtain h|⟨j,h⟩:=h;exact .stop λa b=>f _ _ (h a b.rl) (fx.rely w a b d);refine .kW j λa b=>?_;have:=h a b.rl;cases c:stepG P mn g a with|go g' w' es=>rw[c,goes_go]at this;obtain⟨⟨rfl,rfl⟩,k⟩:=this;refine⟨g',w',#[],rfl,Eff.refl _ _,by simp,?_⟩;rw[db rfl,db rfl];exact i (fx.rely w w' b d) k|_=>rw[c]at this;exact this.elim
def zP(fx:oW ty Wg K Fx){c S g w}(h:∃m,Goes P mn (RL ty Wg) DC0 c m g w)(f:Fx w)(i:∀g w,c g w->Fx w->Run P mn ty Wg S K M g w):Run P mn ty Wg S K M g w:=by refine(er (K:=K) (M:=M) (S:=λd e g w=>d=K/\e=M/\c g w/\Fx w) fx h f λg w a b=>⟨rfl,rfl,a,b⟩).bind ?_;rintro d e g w ⟨rfl,rfl,a,b⟩;exact i g w a b
section closer
variable (fx:oW ty Wg K Fx) (hF:∀g w,Fn g w->Fx w->Run P false ty Wg (SCl P ch) K M g w)
include fx hF
def Vm(g:V4)(w:xv)(h:Vd P false ty Wg Fn g w)(c:Fx w):RX P ty Wg ch K M g w:=⟨h.1,let⟨g',a,b⟩:=h.2;⟨g',a,zP fx b c hF⟩⟩
def Vn(g:V4)(w:xv)(h:XWe P false ty Wg Fn g w)(c:Fx w):SWe P ty Wg ch K M g w:=⟨h.1,let⟨g',a,b⟩:=h.2;⟨g',a,er fx b c (Vm fx hF)⟩⟩
def Wb(g:V4)(w:xv)(h:XW4 P false ty Wg Fn g w)(c:Fx w):SW4 P ty Wg ch K M g w:=⟨h.1,λx=>let⟨g',a,b⟩:=h.2 x;⟨g',a,er fx b c (Vn fx hF)⟩⟩
def Wc(g:V4)(w:xv)(h:XW3 P false ty Wg Fn g w)(c:Fx w):SW3 P ty Wg ch K M g w:=⟨h.1,h.2.1,h.2.2.1,λx=>let⟨g',a,b⟩:=h.2.2.2 x;⟨g',a,er fx b (fx.set _ _ _ rfl c) (Wb fx hF)⟩⟩
def Wd(g:V4)(w:xv)(h:XSw P false ty Wg Fn g w)(c:Fx w):SSw P ty Wg ch K M g w:=⟨h.1,let⟨g',a,b⟩:=h.2;⟨g',a,er fx b c (Wc fx hF)⟩⟩
def AnF(K M:Nat->Prop)(Fx:xv->Prop)(Anch:V4->xv->Prop):aQ:=λa b g w=>a=K/\b=M/\Anch g w/\Fx w
variable {Anch:V4->xv->Prop}
def Wh(f:Nat)(g:V4)(w:xv)(h:XW2 P false ty Wg Fn Anch f g w)(i:Fx w):SW2 P ty Wg ch (AnF K M Fx Anch) f K M g w:=
 ⟨h.1,λv j k=>let⟨a,b⟩:=h.2 v j k
  ⟨λe=>let⟨g',c,d⟩:=a e;⟨g',c,er fx d (fx.set _ _ _ rfl i) (Wd fx hF)⟩,λe=>let⟨g',c,d⟩:=b e;⟨g',c,er fx d i λg w x y=>⟨rfl,rfl,x,y⟩⟩⟩⟩
def Wi(g:V4)(w:xv)(h:XW1 P false ty Wg Fn Anch g w)(d:Fx w):SW1 P ty Wg ch (AnF K M Fx Anch) K M g w:=⟨h.1,λv f i=>let⟨g',a,b,c⟩:=h.2 v f i;⟨g',a,λe=>er fx (b e) d (Vn fx hF),λe=>er fx (c e) d (Wh fx hF v)⟩⟩
def PI(c:∀g w,Anch g w->∃m,Goes P false (RL ty Wg) DC0 (XW1 P false ty Wg Fn Anch) m g w)(a b:Nat->Prop)(g:V4)(w:xv)(h:AnF K M Fx Anch a b g w):Run P false ty Wg (SW1 P ty Wg ch (AnF K M Fx Anch)) a b g w:=by obtain⟨rfl,rfl,h,d⟩:=h;exact er fx (c g w h) d (Wi fx hF)
def Wj(c:∀g w,Anch g w->∃m,Goes P false (RL ty Wg) DC0 (XW1 P false ty Wg Fn Anch) m g w)(g:V4)(w:xv)(h:XWd P false ty Wg Anch g w)(d:Fx w):SWd P ty Wg ch (AnF K M Fx Anch) K M g w:=⟨h.1,let⟨g',a,b⟩:=h.2;⟨g',a,zP fx b d λg w x y=>PI fx hF c K M g w ⟨rfl,rfl,x,y⟩⟩⟩
end closer
section yq
variable {HV:Nat->Option x6} {n r:Nat} {Nx:aQ} (fx:oW ty Wg K Fx) (hF:∀g w,Fn g w->Fx w->Run P true ty Wg (SGo P ty Wg ch z HV n r Nx) K M g w)
include fx hF
def Vo(g:V4)(w:xv)(h:XKe P true ty Wg Fn g w)(c:Fx w):SKe P ty Wg ch z HV n r Nx K M g w:=⟨h.1,let⟨g',a,b⟩:=h.2;⟨g',a,zP fx b c hF⟩⟩
def Wk(g:V4)(w:xv)(h:XSr P true ty Wg Fn g w)(c:Fx w):SSr P ty Wg ch z HV n r Nx K M g w:=⟨h.1,let⟨g',a,b⟩:=h.2;⟨g',a,er fx b c (Vo fx hF)⟩⟩
def Wl(g:V4)(w:xv)(h:XA1 P true ty Wg Fn g w)(c:Fx w):SA1 P ty Wg ch z HV n r Nx K M g w:=⟨h.1,λv d e=>let⟨g',a,b⟩:=h.2 v d e;⟨g',a,b.elim (λb=>.inl (er fx b (fx.set _ _ _ rfl c) (Wk fx hF))) λb=>.inr (er fx b (fx.set _ _ _ rfl c) (Vo fx hF))⟩⟩
def Wm(g:V4)(w:xv)(h:XKd P true ty Wg Fn g w)(c:Fx w):SKd P ty Wg ch z HV n r Nx K M g w:=⟨h.1,let⟨g',a,b⟩:=h.2;⟨g',a,er fx b c (Wl fx hF)⟩⟩
end yq
end
end Go.Tm
namespace Go.Tm
open Go.Conc Go.ConcN Go.Conc.Lib
open Go.ConcR (KK WgAt stA smA rd wr mk DC0 Bk)
section
variable {P:Program} {ty:TypeId} {Wg ch:Nat} {z:x6} {An:aQ} {HV:Nat->Option x6} {Fin:List x6->aQ} {n:Nat} {hv:Option x6}
def EA(K M g w)(h:SWk P ty Wg ch z hv K M g w):g.status=.running:=by unfold SWk at h;split at h<;>exact h.1
def Cy(r a K M g w)(h:qi P ty Wg ch z HV Fin n r a K M g w):g.status=.running:=by cases r<;>exact h.1
def de{mn K D}{a:V4->xv->Prop}(b:∀g w,a g w->g.status=.running){m g w}(h:Goes P mn (RK ty Wg K) D a m g w):g.status=.running:=Goes.running b w (.refl w) h
def nU{mn K D c m g w w₁}(h:Goes P mn (RK ty Wg K) D c m g w)(r:RK ty Wg K w w₁):Goes P mn (RK ty Wg K) D c m g w₁:=Goes.rely (R:=RK ty Wg K) (λ_ _ _ a b=>a.trans b) h r
def WSit.status{D ρ g w}(h:WSit P ty Wg ch z hv D ρ g w):(D.s≠7/\(g.status=.running\/g.status=.finished))\/(D.s=7/\∃a v,g=parked a #[scase ch v undef] .send):=by cases h with|run h=>exact .inl ⟨by simp,.inl (h.status EA)⟩|blk _ h=>exact .inr ⟨rfl,_,_,rfl⟩|r0 h=>exact .inl ⟨by simp,.inl (h.status λ_ _ _ _ x=>x.1)⟩|k1 h=>exact .inl ⟨by simp,.inl (de (λ_ _ x=>x.1) h)⟩|d1 h=>exact .inl ⟨by simp,.inl (de (λ_ _ x=>x.1) h)⟩|d2 h=>exact .inl ⟨by simp,.inl (de (λ_ _ x=>x.1) h)⟩|d3 h=>exact .inl ⟨by simp,.inl (de (λ_ _ x=>x.1) h)⟩|d4 h=>exact .inl ⟨by simp,.inl (de (λ_ _ x=>x.1) h)⟩|quit h=>exact .inl ⟨by simp,h.status⟩
def WSit.busy{D ρ g w}(h:WSit P ty Wg ch z hv D ρ g w)(a:D.s≠7)(b:D.s≠0):g.status=.running:=by cases h with|run h=>exact h.status EA|blk _ h=>exact absurd rfl a|r0 h=>exact h.status λ_ _ _ _ x=>x.1|k1 h=>exact de (λ_ _ x=>x.1) h|d1 h=>exact de (λ_ _ x=>x.1) h|d2 h=>exact de (λ_ _ x=>x.1) h|d3 h=>exact de (λ_ _ x=>x.1) h|d4 h=>exact de (λ_ _ x=>x.1) h|quit h=>exact absurd rfl b
def WSit.rely{D ρ g w w'}(h:WSit P ty Wg ch z hv D ρ g w)(r:RK ty Wg D.K w w'):WSit P ty Wg ch z hv D ρ g w':=by cases h with|run h=>exact .run (h.rely r)|blk e h=>exact .blk e (h.rely r)|r0 h=>exact .r0 (h.rely r)|k1 h=>exact .k1 (nU h r)|d1 h=>exact .d1 (nU h r)|d2 h=>exact .d2 (nU h r)|d3 h=>exact .d3 (nU h r)|d4 h=>exact .d4 (nU h r)|quit h=>exact .quit h
def WSit.woken{D ρ g w}(h:WSit P ty Wg ch z hv D ρ g w)(a c)(w':xv)(b:D.s=7->∃s r d,w'.heap[ch]? =some (.chan 0 #[] false s r d)):woken P a c w' g=g:=by obtain⟨_,h⟩|⟨e,f,v,rfl⟩:=h.status;unfold Go.Conc.woken;split;exact again_running _ h;rfl;obtain⟨s,r,d,b⟩:=b e;exact woken_send_open a c b
def gq.status{mt j d K M ρ g w}(h:gq P ty Wg ch z An HV Fin n mt j d K M ρ g w):(g.status=.running/\∀r a,mt≠ .rb r a)\/∃r a b,mt=.rb r a/\g=parked b #[rcase ch z] (.recv true):=by cases h with|kd _ h=>exact .inl ⟨h.status λ_ _ _ _ x=>x.1,by simp⟩|a1 _ h=>exact .inl ⟨h.status λ_ _ _ _ x=>x.1,by simp⟩|sr _ h=>exact .inl ⟨h.status λ_ _ _ _ x=>x.1,by simp⟩|ke _ h=>exact .inl ⟨h.status λ_ _ _ _ x=>x.1,by simp⟩|go _ h=>exact .inl ⟨h.status λ_ _ _ _ x=>x.1,by simp⟩|gc h=>exact .inl ⟨h.status λ_ _ _ _ x=>x.1,by simp⟩|rc _ h=>exact .inl ⟨h.status (Cy _ _),by simp⟩|rb _ h=>exact .inr ⟨_,_,_,rfl,rfl⟩|rw _ h=>exact .inl ⟨rfl,by simp⟩
def gq.rely{mt j d K M ρ g w w'}(h:gq P ty Wg ch z An HV Fin n mt j d K M ρ g w)(r:RK ty Wg K w w'):gq P ty Wg ch z An HV Fin n mt j d K M ρ g w':=by cases h with|kd a h=>exact .kd a (h.rely r)|a1 a h=>exact .a1 a (h.rely r)|sr a h=>exact .sr a (h.rely r)|ke a h=>exact .ke a (h.rely r)|go a h=>exact .go a (h.rely r)|gc h=>exact .gc (h.rely r)|rc a h=>exact .rc a (h.rely r)|rb a h=>exact .rb a λb c=>h b (r.trans c)|rw a h=>exact .rw a λb c=>h b (r.trans c)
def gq.woken{mt j d K M ρ g w}(h:gq P ty Wg ch z An HV Fin n mt j d K M ρ g w)(a c)(w':xv)(b:∃s r e,w'.heap[ch]? =some (.chan 0 #[] false s r e)):woken P a c w' g=g:=by obtain⟨h,_⟩|⟨_,_,_,_,rfl⟩:=h.status;unfold Go.Conc.woken;split;exact again_running _ (.inl h);rfl;obtain⟨s,r,e,b⟩:=b;exact woken_recv_open a c b
def CSit.rely{v ct d K M ρ g w w'}(h:CSit P ty Wg ch An v ct d K M ρ g w)(r:RK ty Wg K w w'):CSit P ty Wg ch An v ct d K M ρ g w':=by cases h with|wd h=>exact .wd (h.rely r)|w1 h=>exact .w1 (h.rely r)|w2 h=>exact .w2 (h.rely r)|sw h=>exact .sw (h.rely r)|w3 h=>exact .w3 (h.rely r)|blk h=>exact .blk λa b=>h a (r.trans b)|w4 h=>exact .w4 (h.rely r)|we h=>exact .we (h.rely r)|acq h=>exact .acq (h.rely r)|cl h=>exact .cl (h.rely r)|quit h=>exact .quit h
def CSit.TB{v ct d K M ρ g w}(h:CSit P ty Wg ch An v ct d K M ρ g w)(a):∃ρ',CSit P ty Wg ch An a ct d K M ρ' g w:=by cases h with|wd h=>exact⟨_,.wd h⟩|w1 h=>exact⟨_,.w1 h⟩|w2 h=>exact⟨_,.w2 h⟩|sw h=>exact⟨_,.sw h⟩|w3 h=>exact⟨_,.w3 h⟩| @blk K M g w c h=>exact⟨(_,0,c),.blk h⟩|w4 h=>exact⟨_,.w4 h⟩|we h=>exact⟨_,.we h⟩|acq h=>exact⟨_,.acq h⟩|cl h=>exact⟨_,.cl h⟩| @quit K M g w c q d h=>exact⟨(_,q,c),.quit h⟩
def CSit.status{v ct d K M ρ g w}(h:CSit P ty Wg ch An v ct d K M ρ g w):(ct≠ .blk/\(g.status=.running\/g.status=.finished))\/(ct=.blk/\g.status=.blocked/\g.offers=none):=by cases h with|wd h=>exact .inl ⟨by simp,.inl (h.status λ_ _ _ _ x=>x.1)⟩|w1 h=>exact .inl ⟨by simp,.inl (h.status λ_ _ _ _ x=>x.1)⟩|w2 h=>exact .inl ⟨by simp,.inl (h.status λ_ _ _ _ x=>x.1)⟩|sw h=>exact .inl ⟨by simp,.inl (h.status λ_ _ _ _ x=>x.1)⟩|w3 h=>exact .inl ⟨by simp,.inl (h.status λ_ _ _ _ x=>x.1)⟩| @blk K M g w c h=>exact .inr ⟨rfl,rfl,(h w (.refl w)).2.1⟩|w4 h=>exact .inl ⟨by simp,.inl (h.status λ_ _ _ _ x=>x.1)⟩|we h=>exact .inl ⟨by simp,.inl (h.status λ_ _ _ _ x=>x.1)⟩|acq h=>exact .inl ⟨by simp,.inl (h.status λ_ _ _ _ x=>x.1)⟩|cl h=>exact .inl ⟨by simp,.inl (h.status λ_ _ _ _ x=>x.1)⟩|quit h=>exact .inl ⟨by simp,h.status⟩
def CSit.busy{v ct d K M ρ g w}(h:CSit P ty Wg ch An v ct d K M ρ g w)(a:ct≠ .blk)(b:ct≠ .quit):g.status=.running:=by cases h with|wd h=>exact h.status λ_ _ _ _ x=>x.1|w1 h=>exact h.status λ_ _ _ _ x=>x.1|w2 h=>exact h.status λ_ _ _ _ x=>x.1|sw h=>exact h.status λ_ _ _ _ x=>x.1|w3 h=>exact h.status λ_ _ _ _ x=>x.1|blk h=>exact absurd rfl a|w4 h=>exact h.status λ_ _ _ _ x=>x.1|we h=>exact h.status λ_ _ _ _ x=>x.1|acq h=>exact h.status λ_ _ _ _ x=>x.1|cl h=>exact h.status λ_ _ _ _ x=>x.1|quit h=>exact absurd rfl b
def CSit.woken{v ct d K M ρ g w}(h:CSit P ty Wg ch An v ct d K M ρ g w)(a f w')(j:f.status=.running\/f.status=.finished):∃b ρ',CSit P ty Wg ch An v b d K M ρ' (woken P a f w' g) w/\(b=ct\/(ct=.blk/\b=.w3))/\(mayWake P a=true->b≠ .blk):=by obtain⟨k,o⟩|⟨rfl,o,s⟩:=h.status;refine⟨ct,ρ,?_,.inl rfl,λ_=>k⟩;(have:Go.Conc.woken P a f w' g=g:=by unfold Go.Conc.woken;split;exact again_running _ o;rfl);rw[this];exact h;cases h with| @blk _ _ g w c l=>by_cases m:mayWake P a=true;(have e:Go.Conc.woken P a f w' {g with status:=.blocked}=g:=by (have p:=(l w (.refl w)));unfold Go.Conc.woken;rw[Wu (by rcases j with j|j<;>rw[m,j]<;>rfl)];have i:=p.2.1;obtain⟨gf,gc,q,t,go⟩:=g;simp only at i;subst i;have:q=.running:=p.1;subst this;rfl);rw[e];obtain⟨x,r⟩:=dj.of (P:=P) (mn:=false) (Run.stop l);exact⟨.w3,_,.w3 r,.inr ⟨rfl,rfl⟩,λ_=>by simp⟩;(have e:Go.Conc.woken P a f w' {g with status:=.blocked}={g with status:=.blocked}:=by unfold Go.Conc.woken;rw[Wt (by simp[m])]);rw[e];exact⟨.blk,(kN v .blk,0,c),.blk l,.inl rfl,λh=>absurd h m⟩
end
section
def jc(own:Nat->Nat)(x:Nat)(w w':xv)(b:Nat):Nat:=if w.heap.size<=b/\b<w'.heap.size then x else own b
def ui{own x w w' b}(h:b<w.heap.size):jc own x w w' b=own b:=by unfold jc;rw[Wt (by omega)]
def kq{own x w w' b}(h:JX w w' b):jc own x w w' b=x:=by unfold jc;exact Wu h
def EvB(Wg:Nat)(e:Event):Prop:=(∀x,(MemAct.ofEvent e).touch?=some x->blk x.loc=some Wg/\x.kind=.atomic)/\(∀a,e.loc≠ .mark (.release a))/\∀B,Wg<B->(MemAct.ofEvent e).touch?=none->(MemAct.ofEvent e).low B
def TC(Wg:Nat):Mark->Prop
 | .acquire a| .releaseMerge a=>a.block=Wg
 |_=>True
def jo{Wg:Nat}{m:Mark}(h:∀a,m≠ .release a/\m≠ .read a/\m≠ .write a)(b:TC Wg m:=by first|exact trivial|exact rfl):EvB Wg (mk m):=by refine⟨λx c=>?_,λa e=>(h a).1 (Loc.mark.inj e),λB d f=>?_⟩;rotate_left;unfold Go.ConcR.mk;(cases m with|acquire a=>show a.block<B;have:a.block=Wg:=b;omega|releaseMerge a=>show a.block<B;have:a.block=Wg:=b;omega|release a=>exact absurd rfl (h a).1|read a=>exact absurd rfl (h a).2.1|write a=>exact absurd rfl (h a).2.2|_=>trivial);unfold Go.ConcR.mk at c;cases m<;>simp[MemAct.ofEvent,MemAct.touch?]at c;exact absurd rfl (h _).2.1;exact absurd rfl (h _).2.2
def fG{Wg a}(d:a.block=Wg)(b):EvB Wg ⟨.cell a,b,true⟩:=by refine⟨λx c=>?_,by simp,λB _ e=>by simp[MemAct.ofEvent,MemAct.touch?]at e⟩;simp[MemAct.ofEvent,MemAct.touch?]at c;subst c;exact⟨by simp[blk,d],rfl⟩
section
variable {P:Program} {ty:TypeId} {Wg ch:Nat} {z:x6} {An:aQ} {HV:Nat->Option x6} {Fin:List x6->aQ} {n base N0:Nat} {shun:Nat->Prop} {F0:xv} {t₀ t:Trace}
def JY{w w':xv}{own low:Nat->Nat}{K M:Nat->Prop}{i}(B:0<base)(m:low (base+i)≠0) (o:∀b,K b->b<w.heap.size/\¬spB Wg ch b/\¬shun b/\(own b=base+i\/(own b=0/\b<low (base+i)))) (p:∀b,M b->own b=base+i) (q:Wg<w.heap.size/\ch<w.heap.size) (r:∀b,shun b->b<w.heap.size) {es} (s:∀e∈es,EvK Wg (orK K w w') (orK M w w') e\/EvB Wg e) (fn) (pos):∀k∈MemOp.ofEvents (base+i) fn pos es,∀x,k.act.touch?=some x->Okx shun (spB Wg ch) (base+n) (jc own (base+i) w w') low (base+i) x:=by intro k f x l;obtain⟨e,g,rfl⟩:=Go.Conc.mem_ofEvents f;refine⟨.inr m,?_⟩;obtain h|h:=s e g;obtain⟨b,j,h⟩:=h.1 x l;refine⟨b,j,?_⟩;obtain⟨c,h2,h3⟩|⟨rfl,h2⟩:=h;obtain h2|h2:=h2;obtain⟨k1,u,v,d⟩:=o b h2;have a:jc own (base+i) w w' b=own b:=ui k1;obtain d|⟨d,y⟩:=d;exact .inl ⟨a.trans d,by omega,c⟩;refine .inr (.inl ⟨a.trans d,u,v,c,.inr ⟨by omega,?_,y⟩⟩);(cases A:x.write with|false=>rfl|true=>obtain h3|h3:=h3 A;have:=p b h3;omega;exact absurd h3.1 (by omega));exact .inl ⟨kq h2,by omega,c⟩;exact .inr (.inr ⟨.inl rfl,.inl h2⟩);obtain⟨c,h2⟩:=h.1 x l;exact⟨Wg,c,.inr (.inr ⟨.inl rfl,.inl h2⟩)⟩
def Lk{c:MemAct}{B}(d:∀x,c.touch?=some x->∀b,blk x.loc=some b->b<B)(f:c.touch?=none->c.low B):c.low B:=by
 cases c with
 |access e=>have:=d _ rfl;show e.loc.low B;cases g:e.loc<;>first|trivial|exact this _ (by simp[blk,g])
 |mark m=>cases m with|read a=>exact d _ rfl _ rfl|write a=>exact d _ rfl _ rfl|_=>exact f rfl
 |_=>exact f rfl
def zB{es g fn pos B}(f:∀a∈MemOp.ofEvents g fn pos es,∀x,a.act.touch?=some x->∀b,blk x.loc=some b->b<B)(h:∀e∈es,(MemAct.ofEvent e).touch?=none->(MemAct.ofEvent e).low B):∀a∈MemOp.ofEvents g fn pos es,a.act.low B:=by intro a c;refine Lk (f a c) λi=>?_;obtain⟨e,d,rfl⟩:=Go.Conc.mem_ofEvents c;exact h e d i
def mN{w w':xv}(h:∀a∈t,a.act.low w.heap.size)(c:w.heap.size<=w'.heap.size){u:Trace}(d:∀a∈u,a.act.low w'.heap.size):∀a∈t++u,a.act.low w'.heap.size:=by intro a b;obtain h1|h1:=XD.1 b;exact MemAct.low_mono c (h a h1);exact d a h1
def Pw{K M es}(b:∀e∈es,EvK Wg K M e\/EvB Wg e)(g fn pos):∀c∈MemOp.ofEvents g fn pos es,c.act≠ .mark (.release (stA Wg)):=by refine norel_of λe a=>?_;obtain h|h:=b e a;exact h.2.2.2.1 _;exact h.2.1 _
def My{w w':xv}{K M:Nat->Prop}(o:∀b,K b->b<w.heap.size)(p:w.heap.size<=w'.heap.size)(q:Wg<w.heap.size){es}(i:∀e∈es,EvK Wg (orK K w w') M e\/EvB Wg e)(g fn pos):∀j∈MemOp.ofEvents g fn pos es,j.act.low w'.heap.size:=by refine zB (λj d x k b l=>?_) λe a m=>?_;obtain⟨e,a,rfl⟩:=Go.Conc.mem_ofEvents d;obtain h|h:=i e a;obtain⟨r,c,h⟩:=h.1 x k;rw[l]at c;cases c;obtain⟨_,f|f,_⟩|⟨rfl,_⟩:=h;exact Wy (o b f) p;exact f.2;omega;have:=(h.1 x k).1;rw[l]at this;cases this;omega;obtain h|h:=i e a;exact h.2.2.2.2 _ m;exact h.2.2 _ (by omega) m
def mu(σ:GSt P ty Wg):List (Rk P ty Wg)×Rk P ty Wg×Nat×Rk P ty Wg:=((List.range n).map σ.R,σ.r0,sumTo base σ.q,σ.rc)
def GP(P ty Wg):List (Rk P ty Wg)×Rk P ty Wg×Nat×Rk P ty Wg->List (Rk P ty Wg)×Rk P ty Wg×Nat×Rk P ty Wg->Prop:=Prod.Lex (jA (Rk.lt P ty Wg)) (Prod.Lex (Rk.lt P ty Wg) (Prod.Lex (· < ·) (Rk.lt P ty Wg)))
def RY(P ty Wg):WellFounded (GP P ty Wg):=(Prod.lex ⟨_,jA.wf (Rk.wf P ty Wg)⟩ (Prod.lex ⟨_,Rk.wf P ty Wg⟩ (Prod.lex Nat.lt_wfRel ⟨_,Rk.wf P ty Wg⟩))).wf
def RZ{b}(f i)(x:b)(c:i<n):(List.range n).map (upd f i x)=((List.range n).map f).set i x:=by apply aao;intro k;rw[Zq];by_cases h:i=k;subst h;simp[c,upd_same];rw[Wt h];by_cases a:k<n;simp[a,upd_ne f x (WT h)];simp[a]
def kr{σ a i ρ}(b:i<n)(c:a.R=upd σ.R i ρ)(h:Rk.lt P ty Wg ρ (σ.R i)):GP P ty Wg (mu (n:=n) (base:=base) a) (mu (n:=n) (base:=base) σ):=by refine Prod.Lex.left _ _ ?_;rw[c,RZ _ _ _ b];exact jA.set (by simp[b]) h
end
end
section
variable {P:Program} {ty:TypeId} {Wg ch:Nat} {z:x6} {An:aQ} {HV:Nat->Option x6} {Fin:List x6->aQ} {n base N0:Nat} {shun:Nat->Prop} {F0:xv} {t₀ t:Trace} {gs:Array V4} {w w':xv} {sl:Option (Nat×Nat)} {σ:GSt P ty Wg}
structure gu(Wg ch base N0:Nat)(shun:Nat->Prop):Prop where
 mO:0<base
 Px:∀b,shun b->b<N0
 wg_:N0<=Wg
 ch_:N0<=ch
 ne_:Wg≠ch
def bW(gs:Array V4)(f x k)(g':V4)(h:k≠x):((gs.map f).setIfInBounds x g')[k]? =(gs[k]?).map f:=by rw[WK (WT h),Xd]
def fY(gs:Array V4)(f x)(g':V4)(h:x<gs.size):((gs.map f).setIfInBounds x g')[x]? =some g':=by rw[Xt];simp[h]
def Cz{D':Nat->WD}{D:Nat->WD}{j}(h:∀i,i<j->((D' i).s<=6/\HV i≠none↔(D i).s<=6/\HV i≠none)){mt:pB} (c:∃l:List Nat,l.Nodup/\(∀i,i∈l↔i<j/\(D i).s<=6/\HV i≠none)/\mt.got=l.filterMap HV):∃l:List Nat,l.Nodup/\(∀i,i∈l↔i<j/\(D' i).s<=6/\HV i≠none)/\mt.got=l.filterMap HV:=by obtain⟨l,d,e,f⟩:=c;refine⟨l,d,λi=>?_,f⟩;rw[e i];constructor;rintro⟨a,b⟩;exact⟨a,(h i a).2 b⟩;rintro⟨a,b⟩;exact⟨a,(h i a).1 b⟩
def gy{ct}(h:ct≠some .quit):fF ct=false:=by cases ct with|none=>rfl|some c=>cases c<;>first|rfl|exact absurd rfl h
def eB{a k r g}{u:Trace}(h:RelBy a t k r)(b:∀c∈u,c.g=g)(d:g≠k):RelBy a (t++u) k r:=RelBy.appOther h b d
def mf{u}(h:AcqAll Wg n base t)(e:∀i r,i<n->RelBy (stA Wg) t (base+i) r->RelBy (stA Wg) (t++u) (base+i) r):AcqAll Wg n base (t++u):=by obtain⟨q,c,f,g,j⟩:=h;have a:=lt_of_act? c;exact⟨q,by rw[act?_old a];exact c,by rw[g?_old a];exact f,(heard_old a).2 g,λi d=>let⟨r,k,b⟩:=j i d;⟨r,e i r d k,b⟩⟩
def mg{u}(h:Ez Wg ch n base t)(k:∀i r,i<n->RelBy (stA Wg) t (base+i) r->RelBy (stA Wg) (t++u) (base+i) r)(l:∀i,t.size<=i->(t++u).g? i=some (base+n)->¬(t++u).counts i):Ez Wg ch n base (t++u):=by obtain⟨q,p,f,m,o,s,v,g,x,y,A⟩:=h;have c:=lt_of_act? f;have d:=lt_of_act? g;refine⟨q,p,by rw[act?_old c];exact f,by rw[g?_old c];exact m,(heard_old c).2 o,λi b=>let⟨r,B,e⟩:=s i b;⟨r,k i r b B,e⟩,v,by rw[act?_old d];exact g,by rw[g?_old d];exact x,(heard_old d).2 y,λi b j=>?_⟩;obtain a|hge:=Wx i t.size;rw[counts_old a];exact A i b (by rw[<-g?_old (u:=u) a];exact j);exact l i hge j
def jI{u:Trace}{g k}(e:∀b∈u,b.g=g)(c:g≠k):∀i,t.size<=i->(t++u).g? i=some k->¬(t++u).counts i:=by intro i l f;obtain⟨b,h,a⟩:=Xb.1 f;obtain⟨j,_⟩|⟨_,d⟩:=getElem?_append_cases h;omega;rw[e b d]at a;exact absurd a c
def GI.worker(G:gu Wg ch base N0 shun)(h:GI P ty Wg ch z An HV Fin n base N0 shun F0 t₀ gs w t σ){i}(S:i<σ.j){g g' es D' ρ' st' sm'} (hg:gs[base+i]? =some g) (bk:stepG P false g w=.go g' w' es) (ad:g'.status=.running\/g'.status=.finished) (af:w'.os=w.os/\w'.tape=w.tape/\w'.output=w.output) (x:w.heap.size<=w'.heap.size) (I:∀b,b<w.heap.size->b≠Wg->σ.own b≠base+i->w'.heap[b]? =w.heap[b]?) (hwg:WgAt ty Wg w' st' sm') (ag:∀e∈es,EvK Wg (orK (σ.D i).K w w') (orK (σ.D i).M w w') e\/EvB Wg e) (hK:∀b,D'.K b->orK (σ.D i).K w w' b) (hM:∀b,D'.M b->orK (σ.D i).M w w' b) (hS:WSit P ty Wg ch z (HV i) D' ρ' g' w') (bm:Rk.lt P ty Wg ρ' (σ.R i)) (hd:deafBehind (σ.D i).d es=D'.d) (ay:(σ.D i).s<=5->∀r,RelBy (stA Wg) t (base+i) r->RelBy (stA Wg) (t++MemOp.ofEvents (base+i) g.frame.fn g.frame.place es) (base+i) r) (aK:D'.s<=5->(σ.D i).s<=5\/∃r,RelBy (stA Wg) (t++MemOp.ofEvents (base+i) g.frame.fn g.frame.place es) (base+i) r) (ah:∀p,(p=σ.ct\/(σ.ct=some .blk/\p=some .w3))->(mayWake P g=true->p≠some .blk)->Mode σ.j (upd σ.D i D') σ.mt p st' sm') (ak:D'.s<=6/\HV i≠none↔(σ.D i).s<=6/\HV i≠none) (h7:D'.s≠7):∃gs' o,runT P (crowd gs w sl) (base+i)=(.next (crowd gs' w' sl),MemOp.ofEvents (base+i) g.frame.fn g.frame.place es)/\GI P ty Wg ch z An HV Fin n base N0 shun F0 t₀ gs' w' (t++MemOp.ofEvents (base+i) g.frame.fn g.frame.place es) o/\GP P ty Wg (mu (n:=n) (base:=base) o) (mu (n:=n) (base:=base) σ):=by
 have hb:=G.mO;have W:=h.w_;have T:=h.t_;have Q:=h.g_;have bo:=Wy S Q.jn;have aM:=(WC.1 hg).1;have br:(base+i==0)=false:=by simp;omega
 have al:=runT_crowd_go (P:=P) (sl:=sl) (i:=base+i) hg (by rw[br];exact bk);have v:∀op∈MemOp.ofEvents (base+i) g.frame.fn g.frame.place es,op.g=base+i:=λop an=>by obtain⟨e,_,rfl⟩:=Go.Conc.mem_ofEvents an;rfl
 have aR:=T.tr.yc Wg (.inl rfl);have ab:=T.tr.yc ch (.inr rfl);have L:=I ch W.sp.2 (WT G.ne_) (by rw[ab];omega);have ao:WgLive ty Wg w':=⟨_,_,hwg⟩
 have U:∀K:Nat->Prop,(∀b,K b->b<w.heap.size/\b≠Wg/\σ.own b≠base+i)->RK ty Wg K w w':=λK ar=>⟨λb f=>I b (ar b f).1 (ar b f).2.1 (ar b f).2.2,λ_=>ao,x⟩
 have N:∀b,shun b->b<w.heap.size:=λb f=>Wy (G.Px b f) W.ik;have a6:=W.GN i S;obtain⟨p,V,O,bs,bx⟩:∃p V,(p=σ.ct\/(σ.ct=some .blk/\p=some .w3))/\(mayWake P g=true->p≠some .blk)/\
  ∀c,p=some c->∃gc,((gs.map (woken P g g' w')).setIfInBounds (base+i) g')[base+n]? =some gc/\CSit P ty Wg ch An (VW σ.j (upd σ.D i D')) c σ.dc σ.Kc σ.Mc V gc w':=by
  cases y:σ.ct with
  |none=>exact⟨none,σ.rc,.inl rfl,λ_=>by simp,λc e=>by cases e⟩
  |some c=>
   obtain⟨gc,bA,bB⟩:=Q.cl c y;have bC:σ.ct≠none:=by rw[y];simp
   have hr:=U _ λb f=>by obtain⟨a1,C,H,B⟩:=W.kc bC b f;refine⟨a1,λe=>C (.inl e),?_⟩;rcases B with B|B<;>omega
   obtain⟨c',b5,J,h2,h3⟩:=(bB.rely hr).woken g g' w' ad;obtain⟨b0,h4⟩:=J.TB (VW σ.j (upd σ.D i D'));refine⟨some c',b0,?_,λe=>by simpa using h3 e,λc2 e=>?_⟩
   .obtain rfl|⟨rfl,rfl⟩:=h2
    .exact .inl rfl
    .exact .inr ⟨rfl,rfl⟩
   .cases e
    refine⟨_,?_,h4⟩;rw[bW _ _ _ _ _ (by omega),bA];rfl
 have A:p=none↔σ.ct=none:=by obtain rfl|⟨a,rfl⟩:=O;rfl;simp[a]
 have X:p=some .quit↔σ.ct=some .quit:=by obtain rfl|⟨a,rfl⟩:=O;rfl;simp[a]
 have a7:p=some .cl↔σ.ct=some .cl:=by obtain rfl|⟨a,rfl⟩:=O;rfl;simp[a]
 have b1:fF p=fF σ.ct:=by obtain rfl|⟨a,rfl⟩:=O;rfl;rw[a];rfl
 have Y:∀m r,m<n->RelBy (stA Wg) t (base+m) r->(m=i->(σ.D i).s<=5)->RelBy (stA Wg) (t++MemOp.ofEvents (base+i) g.frame.fn g.frame.place es) (base+m) r:=λm r _ hr E=>by by_cases e:m=i;subst e;exact ay (E rfl) r hr;exact eB hr v (by omega)
 have l:∀b,b<w.heap.size->jc σ.own (base+i) w w' b=σ.own b:=λb f=>ui f;have zA:(σ.ct=some .cl\/σ.ct=some .quit)->(σ.D i).s<=5:=by intro y;rw[h.m_.zA (by rcases y with y|y<;>rw[y]<;>trivial) i S];omega
 let o:GSt P ty Wg:={σ with D:=upd σ.D i D',R:=upd σ.R i ρ',ct:=p,rc:=V,own:=jc σ.own (base+i) w w',st:=st',sm:=sm'}
 refine⟨_,o,al,⟨?_,?_,?_,ah p O bs,?_⟩,kr bo rfl bm⟩;refine⟨af.1.trans W.os,af.2.1.trans W.tape,af.2.2.trans W.output,Ww W.ik x,λb f=>?_,?_,hwg,⟨Wy W.sp.1 x,Wy W.sp.2 x⟩,?_,?_,?_,?_,?_,?_,?_,?_,?_,?_,λk=>Ww (W.Ey k) x⟩;rw[I b (Wy f W.ik) (by have:=G.wg_;omega) (λe=>by have:=(W.owns b (by omega)).1;omega)];exact W.old b f;obtain⟨s,E⟩:=W.chn;exact⟨s,by rw[L,E];show _=some (Obj.chan 0 #[] (fF p) s s false);rw[b1]⟩;intro m q b f;by_cases e:m=i;subst e;simp only[o,upd_same]at f;obtain hb2|hb2:=hK b f;obtain⟨a1,C,H,B⟩:=W.kw _ S b hb2;refine⟨Wy a1 x,C,H,?_⟩;show jc σ.own (base+m) w w' b=base+m\/(jc σ.own (base+m) w w' b=0/\b<σ.low (base+m));rw[l b a1];exact B;refine⟨hb2.2,λe=>?_,λe=>absurd (N b e) (XG.2 hb2.1),.inl (kq hb2)⟩;obtain e|e:=e;have:=W.sp.1;have:=hb2.1;omega;have:=W.sp.2;have:=hb2.1;omega;have hb2:(σ.D m).K b:=by simpa[o,upd_ne σ.D D' e]using f
 obtain⟨a1,C,H,B⟩:=W.kw m q b hb2;refine⟨Wy a1 x,C,H,?_⟩;show jc σ.own (base+i) w w' b=base+m\/(jc σ.own (base+i) w w' b=0/\b<σ.low (base+m));rw[l b a1];exact B;intro m q b f;by_cases e:m=i;subst e;simp only[o,upd_same]at f;obtain hb2|hb2:=hM b f;have:=W.mw _ S b hb2;have F:=(W.owns b (by omega)).2.2.1;show jc σ.own (base+m) w w' b=base+m;rw[l b F];exact this;exact kq hb2;have hb2:(σ.D m).M b:=by simpa[o,upd_ne σ.D D' e]using f
 have:=W.mw m q b hb2;have F:=(W.owns b (by omega)).2.2.1;show jc σ.own (base+i) w w' b=base+m;rw[l b F];exact this;intro b f;obtain⟨a1,C,H,B⟩:=W.k0 b f;exact⟨Wy a1 x,C,H,(l b a1).trans B⟩;intro b f;obtain⟨a1,C,H,B,a5⟩:=W.m0 b f;exact⟨Wy a1 x,C,H,(l b a1).trans B,a5⟩;intro y b f;obtain⟨a1,C,H,B⟩:=W.kc (λe=>y (A.2 e)) b f;refine⟨Wy a1 x,C,H,?_⟩;show jc σ.own (base+i) w w' b=base+n\/(jc σ.own (base+i) w w' b=0/\b<σ.low (base+n));rw[l b a1];exact B;intro y b f;have:=W.mc (λe=>y (A.2 e)) b f;have F:=(W.owns b (by omega)).2.2.1;exact(l b F).trans this;intro b f;by_cases hn:JX w w' b;have e:o.own b=base+i:=kq hn;refine⟨Ww W.ik hn.1,by rw[e];omega,hn.2,λe=>?_⟩;obtain e|e:=e;have:=W.sp.1;have:=hn.1;omega;have:=W.sp.2;have:=hn.1;omega;have e:o.own b=σ.own b:=by show jc σ.own (base+i) w w' b=_;unfold jc;exact Wt hn
 rw[e]at f⊢;obtain⟨a1,C,H,B⟩:=W.owns b f;exact⟨a1,C,Wy H x,B⟩;exact W.GN;exact W.GO.trans (not_congr A.symm);exact W.Ex;refine⟨?_,?_,?_,jU T.gb λop an=>by rw[v op an];have:=Q.jn;omega,?_,?_,?_,?_,?_,?_,?_,?_⟩;obtain⟨u,rfl⟩:=T.pre;exact⟨_,XM ..⟩;have ht:=T.tr.owned (own':=jc σ.own (base+i) w w') T.tb l (λb f=>by obtain rfl|rfl:=f;rw[l _ W.sp.1];exact aR;rw[l _ W.sp.2];exact ab);exact ht.app v (λe=>absurd e (by omega)) (JY hb a6 (λb f=>by obtain⟨a1,C,H,B⟩:=W.kw i S b f;exact⟨a1,C,H,B⟩) (W.mw i S) W.sp N ag _ _);exact mN T.seen x (My (λb f=>(W.kw i S b f).1) x W.sp.1 ag _ _ _);exact T.norel.app (Pw ag _ _ _);exact(Deaf_other t (by omega) _ v).trans T.d0;intro m q;by_cases e:m=i;subst e;simp only[o,upd_same];rw[Deaf_own,T.dw _ S];exact hd;simp only[o,upd_ne σ.D D' e];exact(Deaf_other t (by omega) _ v).trans (T.dw m q);intro y;exact(Deaf_other t (by omega) _ v).trans (T.dc λe=>y (A.2 e));intro k hk J h2;exact(Deaf_other t (g:=k) (g':=base+i) (λe=>J i S e.symm) _ v).trans (T.above k hk J λe=>h2 λe'=>e (A.1 e'));intro m q E;by_cases e:m=i;subst e;simp only[o,upd_same]at E;obtain a8|hr:=aK E;obtain⟨r,hr⟩:=T.rel _ S a8;exact⟨r,ay a8 r hr⟩;exact hr;simp only[o,upd_ne σ.D D' e]at E;obtain⟨r,hr⟩:=T.rel m q E;exact⟨r,eB hr v (by omega)⟩;intro y;have Z:=a7.1 y;exact mf (T.acq Z) λm r q hr=>Y m r q hr λ_=>zA (.inl Z);intro y;have Z:=X.1 y;exact mg (T.cls Z) (λm r q hr=>Y m r q hr λ_=>zA (.inr Z)) (jI v (by omega));have aa:σ.ct≠some .quit->∃s r tm,w'.heap[ch]? =some (.chan 0 #[] false s r tm):=by intro y;obtain⟨s,E⟩:=W.chn;rw[gy y]at E;exact⟨s,s,false,L.trans E⟩
 refine⟨?_,Q.jn,λy=>Q.cn λe=>y (A.2 e),?_,A.trans Q.mc,?_,?_,bx,?_,?_,?_⟩;have:(if p.isSome then 1 else 0)=(if σ.ct.isSome then 1 else 0):=by obtain rfl|⟨a,rfl⟩:=O;rfl;rw[a];rfl
 simp only[W9,Yj];rw[this];exact Q.size;obtain⟨a,ha,ax⟩:=Q.mn;refine⟨woken P g g' w' a,by rw[bW _ _ _ _ _ (by omega),ha];rfl,?_⟩;have hr:=U _ λb f=>by obtain⟨a1,C,H,B⟩:=W.k0 b f;exact⟨a1,λe=>C (.inl e),by omega⟩
 have e:woken P g g' w' a=a:=by obtain⟨J,_⟩|⟨r,E,g2,J,_⟩:=ax.status;unfold Go.Conc.woken;split;exact again_running _ (.inl J);rfl;exact ax.woken g g' w' (aa (Q.mb ⟨r,E,J⟩).1)
 rw[e];exact ax.rely hr;intro m q;by_cases e:m=i;subst e;refine⟨g',fY _ _ _ _ aM,?_⟩;simp only[o,upd_same];exact hS;obtain⟨gw,b2,ba⟩:=Q.wk m q;refine⟨woken P g g' w' gw,by rw[bW _ _ _ _ _ (by omega),b2];rfl,?_⟩;have hr:=U _ λb f=>by obtain⟨a1,C,H,B⟩:=W.kw m q b f;refine⟨a1,λe=>C (.inl e),?_⟩;rcases B with B|B<;>omega
 have e':=ba.woken g g' w' λbb=>aa λy=>by rw[h.m_.zA (by rw[y];trivial) m q]at bb;cases bb
 simp only[o,upd_ne σ.D D' e,upd_ne σ.R ρ' e];rw[e'];exact ba.rely hr;intro m J h2;simp only[o,upd_ne σ.R ρ' (show m≠i fromλe=>by subst e;exact absurd S (XG.2 J))];exact Q.unb m J h2;intro k gk J h2 hk;rw[bW _ _ _ _ _ (by omega)]at hk;obtain⟨b3,b4,rfl⟩:=Xb.1 hk;have hq:=Q.lv k b3 J h2 b4;rw[woken_quitsD hq,Deaf_other t (by omega) _ v];exact hq;rintro⟨r,E,e⟩;obtain⟨J,h2⟩:=Q.mb ⟨r,E,e⟩;refine⟨λe'=>J (X.1 e'),λm q=>?_⟩;by_cases e':m=i;subst e';simp only[o,upd_same];exact h7;simp only[o,upd_ne σ.D D' e'];exact h2 m q;intro r E e;exact X.2 (Q.mq r E e)
 exact Cz (λm q=>by
  by_cases e:m=i
  .subst e;simp only[o,upd_same];exact ak
  .simp only[o,upd_ne σ.D D' e]) h.v_
end
end Go.Tm

import Derived.Laws.Sem
import Derived.Test.YtaglpcmhopjebaaGreatDoorT1
set_option linter.all false
set_option maxRecDepth 100000
set_option maxHeartbeats 20000000
namespace Go.Tm
def Plain(v:Value):Prop:=∀(G:Nat) (π:Ren G),av π v v
def dC(P:Program):Prop:=∀t i z,P.info? t=some i->i.zero=some z->Plain z
abbrev VQ{G}:Ren G->Value->Value->Prop:=λπ v V=>av π v V
abbrev EqQ{G}{c:Type}:Ren G->c->c->Prop:=λ_ a b=>a=b
abbrev AQ{G}:Ren G->Addr->Addr->Prop:=λπ a A=>aQ π a A
abbrev VsQ{G}:Ren G->Array Value->Array Value->Prop:=λπ a A=>VsR π a A
section
variable {S:Kn} {P:Program} {fs:Array Func} {π:Ren P.globals.size}
def al{a b Q h}{s:Sem b}:(SR S (ah P fs) P) Q π (stuck h:Sem a) s:=.never (.halt _)
def aC{a b:Type}{Q:Ren P.globals.size->a->b->Prop}{h:Unsupported}{s:Sem b}(c:gi (.unsupported h):=by exact True.intro):(SR S (ah P fs) P) Q π (unsupported h:Sem a) s:=.never (.halt _ c)
def ai{c d Q}{a:c}{b:d}(h:Q π a b):(SR S (ah P fs) P) Q π (pure a) (pure b):=.pure h
def vH{a}{s:Sem a}(h:cu s:=by repeat' (first|with_reducible exact cu.unsupported _ (by with_unfolding_all exact True.intro)|with_reducible first
 |exact cu.stuck _|exact cu.pure _|exact cu.program|exact cu.choose _|exact cu.shape _|exact cu.frozen _|exact cu.mark _|exact cu.newObj _|exact cu.sys _|assumption
 |refine cu.ite ?_ ?_|refine cu.bind ?_ λ_=>?_|dsimp only|split)):cu s:=h
def yj(t):cu (typeInfo t):=by unfold typeInfo;exact vH
def df(t):cu (underlying t):=by unfold underlying;exact vH
def CE(t):cu (elemOf t):=by unfold elemOf;refine cu.bind (df t) λ_=>?_;exact vH
def CF(t v):cu (newVar t v):=by unfold newVar newRow;exact vH
def qP(t):cu (typeStr t):=by unfold typeStr;refine cu.bind (yj t) λ_=>?_;exact vH
def pq{a}(v):dL (goPanic v:Sem a):=.halt _
def aG{a}(e):dL (runtimePanic e:Sem a):=by
 unfold runtimePanic;refine ew _ _ (.inr ⟨.program,λp=>?_⟩);cases e<;>simp only[]<;>first
  |exact pq _
  |exact ew _ _ (.inr ⟨CE _,λ_=>ew _ _ (.inr ⟨CF _ _,λ_=>pq _⟩)⟩)
def qQ{a}(k x y c):dL (boundsPanic k x y c:Sem a):=by unfold boundsPanic;simp only[];split<;>refine ew _ _ (.inr ⟨?_,λ_=>aG _⟩);exact cu.bind (.choose _) λ_=>.pure _;exact .pure _
def dg{a b Q e}{s:Sem b}:(SR S (ah P fs) P) Q π (runtimePanic e:Sem a) s:=.never (aG e)
def dP{a b Q k x y c}{s:Sem b}:(SR S (ah P fs) P) Q π (boundsPanic k x y c:Sem a) s:=.never (qQ k x y c)
def bX:(SR S (ah P fs) P) (λ_ a b=>ah P fs=a/\P=b) π program program:=.program (.pure ⟨rfl,rfl⟩)
def eo(q:Question)(a:Ht q=false:=by with_unfolding_all rfl):(SR S (ah P fs) P) EqQ π (choose q) (choose q):=.choose (λf b h=>absurd h (K4 a f b)) λ_=>.pure rfl
def pX(n):(SR S (ah P fs) P) (λ_ _ _=>True) π (askRoom n) (askRoom n):=by unfold askRoom;split;exact .noRoom (.pure trivial);exact .pure trivial
def du(t):(SR S (ah P fs) P) (λ_ a b=>a=b/\P.info? t=some b) π (typeInfo t) (typeInfo t):=by unfold typeInfo;refine bX.bind ?_;rintro c l _ _ ⟨rfl,rfl⟩;rw[IM];cases h:P.info? t with|none=>exact al|some i=>exact ai ⟨rfl,rfl⟩
def aA(t):(SR S (ah P fs) P) (λ_ a b=>a=b/\P.underlying t=some b) π (underlying t) (underlying t):=by unfold underlying;refine bX.bind ?_;rintro c l _ _ ⟨rfl,rfl⟩;rw[jr];cases h:P.underlying t with|none=>exact al|some i=>exact ai ⟨rfl,rfl⟩
def bE(t):(SR S (ah P fs) P) EqQ π (sizeOf t) (sizeOf t):=by unfold sizeOf;refine(du t).bind ?_;rintro a l _ _ ⟨rfl,_⟩;exact ai rfl
def CG(t):(SR S (ah P fs) P) EqQ π (isAgg t) (isAgg t):=by unfold isAgg;refine(aA t).bind ?_;rintro b l a _ ⟨rfl,_⟩;split<;>exact ai rfl
def IZ(t):(SR S (ah P fs) P) EqQ π (elemOf t) (elemOf t):=by unfold elemOf;refine(aA t).bind ?_;rintro b l a _ ⟨rfl,_⟩;split;exact ai rfl;exact al
def dW(c:dC P)(t):(SR S (ah P fs) P) (λ_ a b=>a=b/\Plain a) π (zeroValue t) (zeroValue t):=by unfold zeroValue;refine(du t).bind ?_;rintro d l i _ ⟨rfl,h⟩;cases e:i.zero with|none=>exact aC|some z=>exact ai ⟨rfl,c t i z h e⟩
def qR{a A}(h:aQ π a A):(SR S (ah P fs) P) VQ π (load a) (load A):=.load h λ_ _ b=>.pure b
def Lj{a A v V}(h:aQ π a A)(b:av π v V):(SR S (ah P fs) P) EqQ π (store a v) (store A V):=.store h b (.pure rfl)
def gO{o O}(h:fw S π o O):(SR S (ah P fs) P) (λa r R=>a r R) π (newObj o) (newObj O):=.new h λ_ _ _ _ x=>.pure x
def bZ{r b}(h:π r b):(SR S (ah P fs) P) (λa o O=>fw S a o O) π (getObj r) (getObj b):=.getObj h λ_ _ c=>.pure c
def ep{r a o O}(h:π r a)(b:∀c e f,o≠ .cells c e f)(d:fw S π o O):(SR S (ah P fs) P) EqQ π (setObj r o) (setObj a O):=.setObj h b d (.pure rfl)
def aQ.add{G}{ρ:Ren G}{a A}(h:aQ ρ a A)(n):aQ ρ (a.add n) (A.add n):=by cases h with|mk h=>unfold Addr.add;split;exact .mk h;exact .mk h
def sQ(n):∀{π:Ren P.globals.size} {a A} {acc b} (i),aQ π a A->VsR π acc b->(SR S (ah P fs) P) VsQ π (loadCellsFrom a i n acc) (loadCellsFrom A i n b):=by induction n with|zero=>exactλi h c=>ai c|succ n e=>intro π a A acc b i h c;unfold loadCellsFrom;refine(qR (h.add i)).bind ?_;intro f l v V d;exact e (i+1) (h.mono l) ((VsR.mono l c).push d)
def jO{a A}(h:aQ π a A)(n):(SR S (ah P fs) P) VsQ π (loadCells a n) (loadCells A n):=sQ n 0 h aW.empty
def lD{c}:∀{π:Ren P.globals.size} {d} {a A} (i),aQ π a A->bl (av π) c d->(SR S (ah P fs) P) EqQ π (storeCells a c i) (storeCells A d i):=by induction c with|nil=>intro π d a A i h b;cases b;exact ai rfl|cons v c f=>intro π d a A i h b;cases b with|cons b e=>unfold storeCells;refine(Lj (h.add i) b).bind ?_;intro g l _ _ _;exact f (i+1) (h.mono l) (e.mono λ_ _ x=>x.mono l)
def av.cells{G}{ρ:Ren G}{v V}(h:av ρ v V):VsR ρ v.cells V.cells:=by
 cases h with
 |agg s h=>exact⟨s,h⟩
 |lS V a=>(have e:V.cells=#[V]:=by cases V<;>first|rfl|cases a);rw[e];exact aW.push aW.empty (.lS V a)
 |_=>exact⟨rfl,λi x y b c=>by
  simp only[Value.cells]at b c;obtain _|i:=i
  ·simp at b c;subst b c;first|exact .IK _ _ _|exact .pQ _|(constructor<;>assumption)
  ·simp at b⟩
def vI{a A}(t)(h:aQ π a A):(SR S (ah P fs) P) VQ π (loadVar t a) (loadVar t A):=by unfold loadVar;refine(CG t).bind ?_;rintro d l b _ rfl;split;refine(bE t).bind ?_;rintro c e n _ rfl;refine(jO ((h.mono l).mono e) n).bind ?_;intro f i j k g;exact ai (av.E9 g);exact qR (h.mono l)
def CH{a A v V}(t)(h:aQ π a A)(b:av π v V):(SR S (ah P fs) P) EqQ π (storeVar t a v) (storeVar t A V):=by unfold storeVar;refine(bE t).bind ?_;rintro c l n _ rfl;rw[b.cells.1];split;exact al;exact lD 0 (h.mono l) (b.mono l).cells.toList
def iB{c C}(e)(h:VsR π c C):(SR S (ah P fs) P) AQ π (newRow e c) (newRow e C):=by unfold newRow;refine(gO (.cells e h (.inl rfl))).bind ?_;intro a l r d b;exact ai (.mk b)
def y7{v V}(t)(h:av π v V):(SR S (ah P fs) P) AQ π (newVar t v) (newVar t V):=iB t h.cells
def kv{v V}(h:av π v V):(SR S (ah P fs) P) EqQ π (asIntOf v) (asIntOf V):=by cases h<;>first|exact ai rfl|exact al|exact aC
def jf{v V}(h:av π v V):(SR S (ah P fs) P) EqQ π (asInt v) (asInt V):=by unfold asInt;refine(kv h).bind ?_;rintro a l _ _ rfl;exact ai rfl
def y8{v V}(h:av π v V):(SR S (ah P fs) P) EqQ π (asBool v) (asBool V):=by cases h<;>first|exact ai rfl|exact al
def Lk{v V}(h:av π v V):(SR S (ah P fs) P) VsQ π (asAgg v) (asAgg V):=by cases h with|agg s h=>exact ai ⟨s,h⟩|_=>exact al
def y9{v V}(h:av π v V):(SR S (ah P fs) P) AQ π (asAddr v) (asAddr V):=by cases h with|ptr h=>exact ai h|IJ=>exact .never (by unfold asAddr;exact aG _)|_=>exact al
def jg{v V}(h:av π v V):(SR S (ah P fs) P) AQ π (Instr.sureAddr v) (Instr.sureAddr V):=by cases h with|ptr h=>exact ai h|_=>exact al
def fV{c C}(t a)(h:VsR π c C):(SR S (ah P fs) P) VQ π (part t c a) (part t C a):=by unfold part;refine(CG t).bind ?_;rintro g l b _ rfl;have e:=VsR.mono l h;split;refine(bE t).bind ?_;rintro f i n _ rfl;exact ai (av.E9 ((VsR.mono i e).extract _ _));have d:=e.get a;revert d;generalize c[a]? =u;generalize C[a]? =v;intro d;cases d with|none=>exact al|some r=>exact ai r
def eL{r a}(h:π r a):(SR S (ah P fs) P) EqQ π (shape r) (shape a):=.shape h λs=>.pure rfl
abbrev VwR{G}(π:Ren G):Addr×TypeId->Addr×TypeId->Prop:=λx y=>aQ π x.1 y.1/\x.2=y.2
def oP{r d}(h:π r d):(SR S (ah P fs) P) (λc a b=>dJ (VwR c) a b) π (viewAt r) (viewAt d):=by unfold viewAt;refine(eL h).bind ?_;rintro c l a _ rfl;split;exact ai .none;refine(bZ (l _ _ h)).bind ?_;intro e g o O f;cases f<;>first|exact ai .none|exact ai (.some ⟨by assumption,rfl⟩)
def kS{c d Q}{a:Option c}{b:Option d}(h:dJ Q a b):a.isSome=b.isSome:=by cases h<;>rfl
def sR{a A}(h:aQ π a A):(SR S (ah P fs) P) EqQ π (noView a) (noView A):=by cases h with|mk h=>unfold noView;refine(oP h).bind ?_;intro c l x y b;rw[kS b];split;exact aC;exact ai rfl
def iC{a A}(h:aQ π a A):(SR S (ah P fs) P) EqQ π (byteOf a) (byteOf A):=by (unfold byteOf;have e1:a.spot=A.spot/\a.off=A.off:=by cases h;exact⟨rfl,rfl⟩);rw[e1.1,e1.2];cases A.spot with|some s=>exact ai rfl|none=>simp only[];refine bX.bind ?_;rintro b l _ _ ⟨rfl,rfl⟩;refine(sR (h.mono l)).bind ?_;intro c d _ _ _;cases h with|mk h=>refine(eL (d _ _ (l _ _ h))).bind ?_;rintro f g sh _ rfl;cases sh with|none=>exact al|some es=>obtain⟨e,n⟩:=es;simp only[show(ah P fs).cellsOf e=P.cellsOf e from rfl,show(ah P fs).bytesOf e=P.bytesOf e from rfl,show(ah P fs).depth=P.depth from rfl,fT];split;exact ai rfl;split;exact ai rfl;exact al
def I0{a A}(h:aQ π a A)(c b):(SR S (ah P fs) P) AQ π (partAt a c b) (partAt A c b):=by unfold partAt;refine(iC h).bind ?_;rintro e l n _ rfl;cases h with|mk h=>refine(iC (.mk (l _ _ h))).bind ?_;rintro f d m _ rfl;simp only[];split;exact ai (.mk (d _ _ (l _ _ h)));exact ai (.mk (d _ _ (l _ _ h)))
def yk{a A}(h:aQ π a A)(f):(SR S (ah P fs) P) AQ π (fieldPlace a f) (fieldPlace A f):=by unfold fieldPlace;refine(bE f.type).bind ?_;rintro b l n _ rfl;split;exact I0 (h.mono l) _ _;exact ai ((h.mono l).add _)
def lE{x X}(h:av π x X)(y c):(SR S (ah P fs) P) EqQ π (Instr.sliceBound x y c) (Instr.sliceBound X y c):=by unfold Instr.sliceBound;refine(kv h).bind ?_;rintro a l ⟨k,i⟩ _ rfl;simp only[];split;exact ai rfl;exact dP
def eZ(b len cap){p q r s mx e}(t:dJ (av π) p q)(u:dJ (av π) r s)(i:dJ (av π) mx e):(SR S (ah P fs) P) EqQ π (Instr.sliceBounds b len cap p r mx) (Instr.sliceBounds b len cap q s e):=by
 unfold Instr.sliceBounds;have e3:e.isSome=mx.isSome:=by cases i<;>rfl
 simp only[e3];have w:∀{c:Type} (o O:Option Value),dJ (av π) o O->∀(f g:Value->Sem c) (x y:Sem c) (a:Ren P.globals.size) (Q:Ren P.globals.size->c->c->Prop),Ren.le π a->(∀v V,av a v V->(SR S (ah P fs) P) Q a (f v) (g V))->(SR S (ah P fs) P) Q a x y->
  (SR S (ah P fs) P) Q a (match o with|some v=>f v|none=>x) (match O with|some v=>g v|none=>y):=by
  intro c o O h f g x y a Q l z A;cases h with
  |none=>exact A
  |some h=>exact z _ _ (h.mono l)
 refine w mx e i _ _ _ _ π EqQ (Ren.le_refl _) (λv V B=>?_) ?_;all_goals
  refine SR.bind (Q₁:=EqQ) (by first|exact lE B _ _|exact ai rfl) ?_;rintro a l m _ rfl;have j:=t.mono λ_ _ x=>x.mono l;have k:=u.mono λ_ _ x=>x.mono l;have n:=i.mono λ_ _ x=>x.mono l;cases k<;>cases n<;>simp only[];all_goals
   refine SR.bind (Q₁:=EqQ) (by first|exact lE (by assumption) _ _|exact ai rfl|exact al) ?_;rintro C D h _ rfl;have d:=j.mono λ_ _ x=>x.mono D;cases d<;>simp only[];all_goals
    refine SR.bind (Q₁:=EqQ) (by first|exact lE (by assumption) _ _|exact ai rfl) ?_;rintro E F G _ rfl;exact ai rfl
def kx{x X}(h:av π x X)(c):(SR S (ah P fs) P) (λ_ a b=>a=b/\a=0) π (Instr.sliceBound x 0 c) (Instr.sliceBound X 0 c):=by unfold Instr.sliceBound;refine(kv h).bind ?_;rintro d l ⟨k,i⟩ _ rfl;simp only[];split;exact ai ⟨rfl,by omega⟩;exact dP
def uH(b){g i j k mx d}(o:dJ (av π) g i)(p:dJ (av π) j k)(n:dJ (av π) mx d):(SR S (ah P fs) P) (λ_ a b=>a=b/\a=(0,0,0)) π (Instr.sliceBounds b 0 0 g j mx) (Instr.sliceBounds b 0 0 i k d):=by
 unfold Instr.sliceBounds;have e3:d.isSome=mx.isSome:=by cases n<;>rfl
 simp only[e3];cases n<;>simp only[];all_goals
  refine SR.bind (Q₁:=λ_ a b=>a=b/\a=0) (by first|exact kx (by assumption) _|exact ai ⟨rfl,rfl⟩) ?_;rintro q l m _ ⟨rfl,rfl⟩;have e:=o.mono λ_ _ x=>x.mono l;have f:=p.mono λ_ _ x=>x.mono l;cases f<;>simp only[];all_goals
   refine SR.bind (Q₁:=λ_ a b=>a=b/\a=0) (by first|exact kx (by assumption) _|exact ai ⟨rfl,rfl⟩|exact al) ?_;rintro r s h _ ⟨rfl,rfl⟩;have c:=e.mono λ_ _ x=>x.mono s;cases c<;>simp only[];all_goals
    refine SR.bind (Q₁:=λ_ a b=>a=b/\a=0) (by first|exact kx (by assumption) _|exact ai ⟨rfl,rfl⟩) ?_;rintro t u v _ ⟨rfl,rfl⟩;exact ai ⟨rfl,rfl⟩
def Ll{x X}(t)(m:av π x X){s u v w mx p}(f:dJ (av π) s u)(g:dJ (av π) v w)(h:dJ (av π) mx p):(SR S (ah P fs) P) VQ π (Instr.slice t x s v mx) (Instr.slice t X u w p):=by
 unfold Instr.slice;refine(aA t).bind ?_;rintro B l d _ ⟨rfl,_⟩;have m:=m.mono l;have f:=f.mono λ_ _ x=>x.mono l;have g:=g.mono λ_ _ x=>x.mono l;have h:=h.mono λ_ _ x=>x.mono l;have e3:p.isSome=mx.isSome:=by cases h<;>rfl
 cases d with
 |string=>(cases m<;>simp only[]<;>try exact al);rw[e3];split;exact .never (ew _ _ (.inl (.halt _)));refine(eZ false _ _ f g dJ.none).bind ?_;rintro i e ⟨a,b,c⟩ _ rfl;exact ai (.string _)
 |slice elem=>(cases m<;>simp only[]<;>try exact al);rename_i len cap;refine(eZ true _ _ f g h).bind ?_;rintro i e ⟨a,b,c⟩ _ rfl;refine(bE elem).bind ?_;rintro j o n _ rfl;refine ai ?_;simp only[Option.map_none,ite_self];exact .iq _ _;rename_i a A len cap k;refine(eZ true _ _ f g h).bind ?_;rintro i e ⟨y,b,c⟩ _ rfl;refine(bE elem).bind ?_;rintro j o n _ rfl;refine ai ?_;simp only[TH];split;exact .slice _ _ ((k.mono e).mono o);exact .slice _ _ (((k.mono e).mono o).add _);refine(uH true f g h).bind ?_;rintro i e ⟨y,b,c⟩ _ ⟨rfl,e0⟩;cases e0;refine(bE elem).bind ?_;rintro j o n _ rfl;exact ai (.pQ _)
 |pointer q=>(simp only[];refine(y9 m).bind ?_;intro z r a A k;refine(aA q).bind ?_;rintro i e d _ ⟨rfl,C⟩;clear C;have f:=f.mono λ_ _ x=>(x.mono r).mono e;have g:=g.mono λ_ _ x=>(x.mono r).mono e;have h:=h.mono λ_ _ x=>(x.mono r).mono e;cases d<;>simp only[]<;>try exact al);rename_i n elem;refine(eZ false _ _ f g h).bind ?_;rintro j o ⟨y,b,c⟩ _ rfl;refine(bE elem).bind ?_;rintro D E n _ rfl;refine ai ?_;have k:=((k.mono e).mono o).mono E;simp only[];split;exact .slice _ _ k;exact .slice _ _ (k.add _)
 |_=>cases m<;>exact al
def Fu{x X}(t)(h:av π x X){k m o p q r}(e:dJ (av π) k m)(f:dJ (av π) o p)(g:dJ (av π) q r):(SR S (ah P fs) P) VQ π (Instr.sliceAt t x k o q) (Instr.sliceAt t X m p r):=by (unfold Instr.sliceAt;refine(aA t).bind ?_;rintro u l d _ ⟨rfl,v⟩;clear v;have h:=h.mono l;have e:=e.mono λ_ _ x=>x.mono l;have f:=f.mono λ_ _ x=>x.mono l;have g:=g.mono λ_ _ x=>x.mono l;cases d<;>simp only[]<;>try exact Ll t h e f g);(rename_i n elem;refine(jg h).bind ?_;intro s j a A i;have e:=e.mono λ_ _ x=>(x.mono j));(have f:=f.mono λ_ _ x=>(x.mono j));(have g:=g.mono λ_ _ x=>(x.mono j));refine(eZ false _ _ e f g).bind ?_;rintro w y ⟨C,b,c⟩ _ rfl;refine(bE elem).bind ?_;rintro z B n _ rfl;refine ai ?_;have i:=(i.mono y).mono B;simp only[];split;exact .slice _ _ i;exact .slice _ _ (i.add _)
def j7(t:TypeId)(k:IntKind)(i:Int)(base:Option Addr)(len:Nat)(elem:TypeId):Sem Value:=do
 let b:=len<=1&&(match <-underlying t with| .array .. =>true|_=>false)
 match base with
 |some a=>
  if 0<=i/\i<len then pure (.pointer (some (a.add (i.toNat*(<-sizeOf elem)))))
  else if b then unsupported (.noEntry "op/indexAddr.an index out of range at an array of length 0 or 1 (ledger 616)")
  else boundsPanic k i len .index
 |none=>boundsPanic k i 0 .index
def mK(t k i){a A}(len elem)(b:dJ (aQ π) a A):(SR S (ah P fs) P) VQ π (j7 t k i a len elem) (j7 t k i A len elem):=by unfold j7;refine(aA t).bind ?_;rintro c d d' _ ⟨rfl,_⟩;cases b with|none=>exact dP|some b=>simp only[];split;refine(bE elem).bind ?_;rintro e f n _ rfl;exact ai (.ptr (((b.mono d).mono f).add _));split<;>split<;>first|exact aC|exact dP
def yl(t k i){a A:Addr}(elem):(SR S (ah P fs) P) VQ π (j7 t k i (some a) 0 elem) (j7 t k i (some A) 0 elem):=by unfold j7;refine(aA t).bind ?_;rintro b c d' _ ⟨rfl,_⟩;simp only[];rw[SQ (by omega)];split<;>first|exact aC|exact dP
def Fv{x X i I}(t)(b:av π x X)(j:av π i I):(SR S (ah P fs) P) VQ π (Instr.indexAt t x i) (Instr.indexAt t X I):=by
 unfold Instr.indexAt;refine(kv j).bind ?_;rintro m l ⟨k,i⟩ _ rfl;refine(aA t).bind ?_;rintro n o d _ ⟨rfl,p⟩;clear p;have b:=(b.mono l).mono o;have g:∀{q r:Type} (f:q->Sem r) (h:String),dL (stuck h>>= f):=λf h=>ew _ _ (.inl (.halt _));cases d with
 |array len elem=>refine(jg b).bind ?_;intro s u a A e;exact mK t k i len elem (.some e)
 |slice elem=>cases b with|iq len c=>exact mK t k i len elem .none|slice len c e=>exact mK t k i len elem (.some e)|pQ A=>exact yl t k i elem|_=>exact .never (g _ _)
 |_=>exact .never (g _ _)
def Lm{x X i I}(t)(a:av π x X)(b:av π i I):(SR S (ah P fs) P) VQ π (Instr.index t x i) (Instr.index t X I):=by
 unfold Instr.index;refine(kv b).bind ?_;rintro c l ⟨k,i⟩ _ rfl;refine(aA t).bind ?_;rintro e f d _ ⟨rfl,m⟩;have a:=(a.mono l).mono f;cases d with
 |array len elem=>(cases a<;>simp only[]<;>try exact al);rename_i s h;split;refine(bE elem).bind ?_;rintro g j n _ rfl;exact fV elem _ (VsR.mono j ⟨s,h⟩);exact dP
 |string=>(cases a<;>simp only[]<;>try exact al);split;exact ai (.int _ _);exact dP
 |_=>cases a<;>exact al
def Ln{x X}(t f)(b:av π x X):(SR S (ah P fs) P) VQ π (Instr.field t x f) (Instr.field t X f):=by (unfold Instr.field;refine(aA t).bind ?_;rintro e g d _ ⟨rfl,j⟩;cases d<;>simp only[]<;>try exact al);rename_i a;split;refine(Lk (b.mono g)).bind ?_;intro h k c C i;exact fV _ _ i;exact al
def Fw{x X}(i)(b:av π x X):(SR S (ah P fs) P) VQ π (Instr.extract x i) (Instr.extract X i):=by
 unfold Instr.extract;cases b with
 | @tuple c C s h=>(simp only[];have a:=(aW.get ⟨s,h⟩ i:dJ (av π) c[i]? C[i]?));revert a;generalize c[i]? =u;generalize C[i]? =v;intro a;cases a with|none=>exact al|some r=>exact ai r
 |_=>exact al
end
section
variable {S:Kn} {P:Program} {fs:Array Func} {G:Nat} {π:Ren P.globals.size} {ρ:Ren G}
def aB{a b s}{f:a->Sem b}(h:dL s):dL (s>>= f):=ew _ _ (.inl h)
def bD{b c s}{f:b->Sem c}(d:cu s)(h:∀a,dL (f a)):dL (s>>= f):=ew _ _ (.inr ⟨d,h⟩)
def dv{a}(h):dL (stuck h:Sem a):=.halt _
def bF{a:Type}(h:Unsupported)(b:gi (.unsupported h):=by exact True.intro):dL (unsupported h:Sem a):=.halt _ b
def Fy{x X}(s f)(e:av π x X):(SR S (ah P fs) P) VQ π (Instr.fieldAt s x f) (Instr.fieldAt s X f):=by (unfold Instr.fieldAt;refine(aA s).bind ?_;rintro g h d _ ⟨rfl,n⟩;cases d<;>simp only[]<;>try exact al);rename_i c;cases o:c[f]? with|none=>exact al|some i=>simp only[];refine(jg (e.mono h)).bind ?_;intro j p a A k;exact(yk k i).bind λl q b B m=>ai (.ptr m)
def pY(b):Plain (.bool b):=λ_ _=>.bool b
def ym:Plain (default:Value):=λ_ π=>by show av π (Value.bool default) (Value.bool default);exact .bool _
def bj(c:Array Value):Prop:=∀(i:Nat) v,c[i]? =some v->Plain v
def bj.refl{c}(h:bj c)(ρ:Ren G):VsR ρ c c:=⟨rfl,λi x y a b=>by rw[a]at b;cases b;exact h i x a _ ρ⟩
def Plain.cells{v}(h:Plain v):bj v.cells:=λi x a G π=>((h G π).cells).2 i x x a a
def bj.getD{c}(h:bj c)(i:Nat):Plain c[i]! :=by rw[getElem!_def];cases e:c[i]? with|none=>exact ym|some v=>exact h i v e
def bj.spread{c}(h:bj c)(n m):bj ((Array.range n).map λi=>c[i%m]!):=by intro i v a;rw[Tw]at a;cases e:(Array.range n)[i]? with|none=>rw[e]at a;simp at a|some k=>rw[e]at a;simp at a;subst a;exact h.getD _
def bj.empty:bj #[]:=λi v h=>by simp at h
def Lo(c:dC P)(t):(SR S (ah P fs) P) VQ π (Instr.alloc t true (.tuple #[])) (Instr.alloc t true (.tuple #[])):=by unfold Instr.alloc;refine(dW c t).bind ?_;rintro b l z _ ⟨rfl,d⟩;simp only[];refine(y7 t (d _ b)).bind ?_;rintro e g a A f;exact ai (.ptr f)
def PG{v V}(t)(h:av π v V):(SR S (ah P fs) P) VQ π (Instr.box t v) (Instr.box t V):=by unfold Instr.box;refine(y7 t h).bind ?_;rintro b d a A c;exact ai (.ptr c)
abbrev kT{G}(π:Ren G):Nat×Value->Nat×Value->Prop:=λa b=>a.1=b.1/\av π a.2 b.2
def I1{l L:List (Value×Nat)}(h:bl (λa b=>av ρ a.1 b.1/\a.2=b.2) l L):∀{c C:Array Value} (d:Nat),VsR ρ c C->VsR ρ (l.foldl (λcs (c,j)=>cs.setIfInBounds (d+j) c) c) (L.foldl (λcs (c,j)=>cs.setIfInBounds (d+j) c) C):=by induction h with|nil=>exactλ_ h=>h| @cons x y l m e _ f=>intro c C d g;obtain⟨v,j⟩:=x;obtain⟨V,J⟩:=y;obtain⟨i,rfl⟩:=e;exact f d (g.set _ i)
def Fz{l L}(h:bl (av ρ) l L):∀n,bl (λa b=>av ρ a.1 b.1/\a.2=b.2) (l.zipIdx n) (L.zipIdx n):=by induction h with|nil=>exactλ_=>.nil|cons c _ d=>exactλn=>by simp only[List.zipIdx_cons];exact .cons ⟨c,rfl⟩ (d _)
def vJ(a){l L}(h:bl (kT ρ) l L):∀{c C},VsR ρ c C->dJ (VsR ρ) (Instr.fill a c l) (Instr.fill a C L):=by induction h with|nil=>exactλh=>.some h| @cons x y l m b _ k=>intro c C f;obtain⟨i,v⟩:=x;obtain⟨j,V⟩:=y;obtain⟨g,d⟩:=b;simp only[]at g d;subst g;unfold Instr.fill;cases a i with|none=>exact .none|some os=>obtain⟨e,size⟩:=os;simp only[];rw[<-d.cells.1,<-f.1];split;exact .none;refine k ?_;rw[<-Vj,<-Vj,Array.toList_zipIdx,Array.toList_zipIdx];exact I1 (Fz d.cells.toList 0) e f
def vL(a:List Field):(SR S (ah P fs) P) EqQ π (a.mapM λf=>do pure (f.offset,<-sizeOf f.type)) (a.mapM λf=>do pure (f.offset,<-sizeOf f.type)):=by induction a generalizing π with|nil=>exact ai rfl|cons f l c=>simp only[List.mapM_cons];refine SR.bind (Q₁:=EqQ) ((bE f.type).bind ?_) ?_;rintro b l n _ rfl;exact ai rfl;rintro b e x _ rfl;refine c.bind ?_;rintro d g y _ rfl;exact ai rfl
def Lp{i j d e Q}{Q':Ren P.globals.size->d->e->Prop}{s t}{f:i->d}{g:j->e}(h:(SR S (ah P fs) P) Q π s t)(k:∀c a b,Q c a b->Q' c (f a) (g b)):(SR S (ah P fs) P) Q' π (Functor.map f s) (Functor.map g t):=by rw[map_eq_pure_bind,map_eq_pure_bind];exact h.bind λc l a b q=>ai (k _ _ _ q)
def Lr(p:dC P)(t){g PS}(h:aW (kT π) g PS):(SR S (ah P fs) P) VQ π (Instr.build t g) (Instr.build t PS):=by (unfold Instr.build;refine(dW p t).bind ?_;rintro q l z _ ⟨rfl,m⟩;refine(aA t).bind ?_;rintro f s d _ ⟨rfl,_⟩;have h:aW (kT f) g PS:=(h.mono λ_ _ x=>⟨x.1,(x.2.mono l).mono s⟩));(have o:=h.toList;cases d<;>simp only[]<;>try exact al);rename_i n elem _;refine(bE _).bind ?_;rintro a j size _ rfl;have:=vJ (λi=>some (i*size,size)) (o.mono λ_ _ (x:kT f _ _)=>(⟨x.1,x.2.mono j⟩:kT a _ _)) (m _ a).cells;revert this;(generalize Instr.fill _ _ _=u;generalize Instr.fill _ _ _=v;intro k;cases k with|none=>exact al|some r=>exact ai (av.E9 r));rename_i b _;refine SR.bind (Q₁:=EqQ) ?_ ?_;obtain⟨w⟩:=b;(rw[List.mapM_toArray];exact Lp (vL w) λ_ _ _ e=>by rw[show _=_ from e]);rintro a j c _ rfl;have:=vJ (c[·]?) (o.mono λ_ _ (x:kT f _ _)=>(⟨x.1,x.2.mono j⟩:kT a _ _)) (m _ a).cells;revert this;generalize Instr.fill _ _ _=u;generalize Instr.fill _ _ _=v;intro k;cases k with|none=>exact al|some r=>exact ai (av.E9 r)
def yn(k:dC P)(t n){f PS}(h:aW (kT π) f PS):(SR S (ah P fs) P) VQ π (Instr.buildSlice t n f) (Instr.buildSlice t n PS):=by
 unfold Instr.buildSlice;refine(aA t).bind ?_;rintro c l d _ ⟨rfl,_⟩;have h:aW (kT c) f PS:=(h.mono λ_ _ x=>⟨x.1,(x.2.mono l)⟩)
 have m:=h.toList;cases d<;>simp only[]<;>try exact al
 rename_i elem _;refine(bE _).bind ?_;rintro e o size _ rfl;split;exact .never (aB (bF _))
 have key:∀(b:Ren P.globals.size),Ren.le e b->∀zero:Array Value,bj zero->(SR S (ah P fs) P) VQ b
  (do let some cells:=Instr.fill (λi=>some (i*size,size)) ((Array.range (n*size)).map (zero[· %zero.size]!)) f.toList|stuck "buildSlice: a part of the wrong size"
      pure (.slice (some (<-newRow elem cells)) n n))
  (do let some cells:=Instr.fill (λi=>some (i*size,size)) ((Array.range (n*size)).map (zero[· %zero.size]!)) PS.toList|stuck "buildSlice: a part of the wrong size"
      pure (.slice (some (<-newRow elem cells)) n n)):=by
  intro b g zero j;have:=vJ (λi=>some (i*size,size)) (m.mono λ_ _ (x:kT c _ _)=>(⟨x.1,(x.2.mono o).mono g⟩:kT b _ _)) ((j.spread (n*size) zero.size).refl b)
  revert this
  generalize Instr.fill _ _ _=u;generalize Instr.fill _ _ _=v;intro p;cases p with
  |none=>exact al
  |some r=>refine(iB elem r).bind ?_;rintro q w a A s;exact ai (.slice _ _ s)
 split;exact key e (Ren.le_refl _) #[] .empty;refine(dW k elem).bind ?_;rintro b g z _ ⟨rfl,j⟩;exact key b g _ j.cells
def CI{fn a f F c C}(h:FnR π fn a)(b:VsR π f F)(d:VsR π c C):(SR S (ah P fs) P) VQ π (Instr.makeFunc fn f c) (Instr.makeFunc a F C):=ai (.func h b.1 b.2 d.1 d.2)
def FC(t){r R}(h:dJ (av π) r R):(SR S (ah P fs) P) VQ π (Instr.makeMap t r) (Instr.makeMap t R):=by (unfold Instr.makeMap;have fin:∀b:Ren P.globals.size,(SR S (ah P fs) P) VQ b (do pure (.map (some (<-newObj (.map #[] 0)))):Sem Value) (do pure (.map (some (<-newObj (.map #[] 0))))):=λb=>by refine(gO (.map 0 .empty)).bind ?_;rintro c j a A e;exact ai (.map e));cases h with|none=>exact fin _|some h=>(simp only[];refine(aA t).bind ?_;rintro f g d _ ⟨rfl,_⟩;cases d<;>simp only[]<;>try exact al);refine(jf (h.mono g)).bind ?_;rintro i k _ _ _;exact fin _
def sS{v V}(t)(h:av π v V):(SR S (ah P fs) P) VQ π (Instr.makeInterface t v) (Instr.makeInterface t V):=by unfold Instr.makeInterface;refine(aA t).bind ?_;rintro a b d _ ⟨rfl,_⟩;cases d<;>first|exact al|exact ai (.iface t (h.mono b))
def Ay(k:dC P)(t){a A b B}(f:av π a A)(m:av π b B):(SR S (ah P fs) P) VQ π (Instr.makeSlice t a b) (Instr.makeSlice t A B):=by
 unfold Instr.makeSlice;refine(aA t).bind ?_;rintro o j d _ ⟨rfl,_⟩;cases d<;>simp only[]<;>try exact al
 rename_i elem _;refine(jf (f.mono j)).bind ?_;rintro p q len _ rfl;refine(jf ((m.mono j).mono q)).bind ?_;rintro r x cap _ rfl;refine(du elem).bind ?_;rintro g s i _ ⟨rfl,_⟩;have fin:∀(c:Ren P.globals.size) (n l:Nat) (zero:Array Value),bj zero->(SR S (ah P fs) P) VQ c (do let a <-newRow elem ((Array.range n).map (zero[· %zero.size]!));pure (.slice (some a) l (IntKind.i64.wrap cap).toNat):Sem Value)
  (do let a <-newRow elem ((Array.range n).map (zero[· %zero.size]!));pure (.slice (some a) l (IntKind.i64.wrap cap).toNat)):=by
  intro c n l zero h;refine(iB elem ((h.spread n zero.size).refl c)).bind ?_;rintro g s a A f;exact ai (.slice _ _ f)
 have e:∀(c:Ren P.globals.size),(SR S (ah P fs) P) VQ c (do
  askRoom ((IntKind.i64.wrap cap).toNat*i.bytes)
  let n:=(IntKind.i64.wrap cap).toNat*(<-sizeOf elem);let zero <-if n=0 then pure #[]else do pure (<-zeroValue elem).cells
  let a <-newRow elem ((Array.range n).map (zero[· %zero.size]!))
  pure (.slice (some a) (IntKind.i64.wrap len).toNat (IntKind.i64.wrap cap).toNat):Sem Value) (do
  askRoom ((IntKind.i64.wrap cap).toNat*i.bytes)
  let n:=(IntKind.i64.wrap cap).toNat*(<-sizeOf elem);let zero <-if n=0 then pure #[]else do pure (<-zeroValue elem).cells
  let a <-newRow elem ((Array.range n).map (zero[· %zero.size]!))
  pure (.slice (some a) (IntKind.i64.wrap len).toNat (IntKind.i64.wrap cap).toNat)):=by
  intro c;refine(pX _).bind ?_;rintro u y _ _ _;refine(bE elem).bind ?_;rintro v C D _ rfl;simp only[];split
  ·exact fin _ _ _ #[] .empty
  ·refine(dW k elem).bind ?_
   rintro w E z _ ⟨rfl,h⟩;exact fin _ _ _ _ h.cells
 split;split;exact .never (aB (aG _));split;exact .never (aB (aG _));exact .never (bD (.choose _) λa=>aB (aG _));exact e _
def Calm(s:Sem Value):Prop:=dL s\/∃v,Plain v/\s=pure v
def Calm.sr{s}(h:Calm s):(SR S (ah P fs) P) VQ π s s:=by obtain h|⟨v,a,rfl⟩:=h;exact .never h;exact ai (a _ π)
def Calm.int(k n):Calm (pure (.int k n)):=.inr ⟨_,λ_ _=>.int k n,rfl⟩
def Calm.bool(b):Calm (pure (.bool b)):=.inr ⟨_,λ_ _=>.bool b,rfl⟩
def Calm.string(s):Calm (pure (.string s)):=.inr ⟨_,λ_ _=>.string s,rfl⟩
def Calm.stuck(s):Calm (stuck s):=.inl (.halt _)
def Calm.unsupported(s:Unsupported)(a:gi (.unsupported s):=by exact True.intro):Calm (unsupported s):=.inl (.halt _ a)
def pr(a k x y):Calm (Op.intArith a k x y):=by cases a<;>first|exact .int _ _|exact .stuck _
def CJ(a x y):Calm (Op.intCmp a x y):=by cases a<;>first|exact .bool _|exact .stuck _
def CK(a k x y):Calm (Op.intDiv a k x y):=by unfold Op.intDiv;split;exact .inl (aG _);cases a<;>first|exact .int _ _|exact .stuck _
def qU(a k x y):Calm (Op.intBits a k x y):=by unfold Op.intBits;cases a<;>first|exact .int _ _|exact .stuck _
def vM(a k x b y):Calm (Op.shift a k x b y):=by unfold Op.shift;split;exact .inl (aG _);cases a<;>first|exact .int _ _|exact .stuck _
def pv(a x y):Calm (Op.stringOp a x y):=by unfold Op.stringOp;cases a<;>simp only[]<;>first|exact .bool _|exact .stuck _|(split<;>first|exact .string _|exact .unsupported _)
def Ls{x X}(a)(h:av π x X):(SR S (ah P fs) P) VQ π (Op.unary a x) (Op.unary a X):=by
 cases h<;>cases a<;>first
  |exact al
  |exact aC
  |exact(pr _ _ _ _).sr
  |exact(qU _ _ _ _).sr
  |exact ai (av.int _ _)
  |exact ai (.bool _)
  |exact ai (.float _ _)
  |exact ai (.complex _ _ _)
def Lt{d σ τ:Type}{T:Ren P.globals.size->σ->τ->Prop}(mono:∀π c a b,Ren.le π c->T π a b->T c a b)(l:List d)(f:d->σ->Sem (ForInStep σ))(g:d->τ->Sem (ForInStep τ)) (h:∀(π:Ren P.globals.size) a s t,T π s t->(SR S (ah P fs) P) (λc x y=>(∃u v,x=.yield u/\y=.yield v/\T c u v)\/(∃u v,x=.done u/\y=.done v/\T c u v)) π (f a s) (g a t)):∀(π:Ren P.globals.size) (s:σ) (t:τ),T π s t->(SR S (ah P fs) P) T π (forIn l s f) (forIn l t g):=by induction l with|nil=>intro π s t e;simp only[List.forIn_nil];exact ai e|cons a l j=>intro π s t e;simp only[Wc];refine(h π a s t e).bind ?_;rintro c k x y (⟨u,v,rfl,rfl,i⟩|⟨u,v,rfl,rfl,i⟩);exact j c u v i;exact ai i
def oQ{a A}(h:aQ π a A):(SR S (ah P fs) P) (λ_ b B=>B=true->b=true) π (frozen a) (frozen A):=.frozen h λ_ _ x=>.pure x
def qV{a A}(h:aQ π a A):(SR S (ah P fs) P) (λ_ b B=>B=true->b=true) π (stringish a) (stringish A):=by unfold stringish;cases h with| @mk r s o p h=>(have key:∀c,Ren.le π c->(SR S (ah P fs) P) (λ_ b B=>B=true->b=true) c (do match <-shape r with|some (_,n)=>frozen {block:=r,off:=n}|none=>pure false:Sem Bool) (do match <-shape s with|some (_,n)=>frozen {block:=s,off:=n}|none=>pure false):=by intro c l;refine(eL (l _ _ h)).bind ?_;rintro e f x _ rfl;split;exact oQ (.mk (f _ _ (l _ _ h)));exact ai (by simp));refine(oQ (.mk h)).bind ?_;intro c l b B g;have d:=key c l;cases b<;>cases B<;>simp only[Tn,Tk,Tf];exact d;simp at g;refine .su λx=>?_;(cases x with|none=>exact ai (by simp)|some y=>exact .oN λz=>ai (by simp));exact ai (by simp)
def vN{r s:Nat}(h:π r s):(SR S (ah P fs) P) EqQ π (do pure ((<-shape r) matches some (_,0)):Sem Bool) (do pure ((<-shape s) matches some (_,0))):=by refine(eL h).bind ?_;rintro a b x _ rfl;exact ai rfl
def CL{a A b B}(d:aQ π a A)(e:aQ π b B):(SR S (ah P fs) P) (λ_ m M=>M=true->m=true) π (mayBeOne a b) (mayBeOne A B):=by unfold mayBeOne;refine(qV d).bind ?_;intro g c i j k;refine(qV (e.mono c)).bind ?_;intro l f sb n hsb;refine SR.bind (Q₁:=EqQ) ?_ ?_;(cases d with|mk h=>exact vN (f _ _ (c _ _ h)));rintro o p r _ rfl;refine SR.bind (Q₁:=EqQ) ?_ ?_;(cases e with|mk h=>exact vN (p _ _ (f _ _ (c _ _ h))));rintro q s t _ rfl;refine ai ?_;cases i<;>cases j<;>cases sb<;>cases n<;>simp_all
def aQ.eq{a A b B}(d:aQ ρ a A)(f:aQ ρ b B):(a.block==b.block)=(A.block==B.block)/\(a==b)=(A==B):=by cases d with| @mk r s o p h=>cases f with| @mk g s' o' i c=>(have e:r=g↔s=s':=⟨λe=>by subst e;exact ρ.fn _ _ _ h c,λe=>by subst e;exact ρ.inj _ _ _ h c⟩);constructor;rw[T5];simp[e];rw[T5];simp[e]
def tN{a A b B}(c:aQ π a A)(d:aQ π b B):(SR S (ah P fs) P) EqQ π (sameAddr a b) (sameAddr A B):=by
 unfold sameAddr;rw[(c.eq d).1,(c.eq d).2];split;exact ai rfl;refine(oQ c).bind ?_;intro o g p v i;refine(oQ (d.mono g)).bind ?_;intro q k fb w hfb;by_cases e:(p&&fb)=true;rw[SS e];exact .never (aB (bF _))
 rw[SQ e,SQ (by simp only[Td]at e⊢;exactλh=>e ⟨i h.1,hfb h.2⟩)];have c:=(c.mono g).mono k;have d:=(d.mono g).mono k;refine(sR c).bind ?_;intro r j _ _ _;refine(sR (d.mono j)).bind ?_;intro s l _ _ _;refine(CL ((c.mono j).mono l) ((d.mono j).mono l)).bind ?_;intro t x m M y;cases m with
 |false=>(have:M=false:=by cases M<;>simp_all);subst this;exact ai rfl
 |true=>cases M with|true=>refine(eo _).bind ?_;rintro u z n _ rfl;exact ai rfl|false=>refine .mF 0 (n:=0) (λf C h=>by cases h) ?_ ?_;rfl;exact ai rfl
def vO{a A b B}(c:dJ (aQ π) a A)(d:dJ (aQ π) b B):(SR S (ah P fs) P) EqQ π (samePointer a b) (samePointer A B):=by cases c<;>cases d<;>first|exact ai rfl|exact tN (by assumption) (by assumption)
abbrev NmR{G}(π:Ren G):Addr×Bool->Addr×Bool->Prop:=λx y=>aQ π x.1 y.1/\x.2=y.2
def tO{r d}(h:π r d):(SR S (ah P fs) P) (λc a b=>dJ (NmR c) a b) π (numberAt r) (numberAt d):=by unfold numberAt;refine(eL h).bind ?_;rintro c l a _ rfl;split;exact ai .none;refine(bZ (l _ _ h)).bind ?_;intro e g o O f;cases f<;>first|exact ai .none|exact ai (.some ⟨by assumption,rfl⟩)
def fW{a A}(h:aQ π a A):(SR S (ah P fs) P) (λb x y=>NmR b x y) π (behindNumber a) (behindNumber A):=by unfold behindNumber;cases h with|mk h=>refine(tO h).bind ?_;intro b l x y c;cases c with|none=>exact ai ⟨.mk (l _ _ h),rfl⟩|some h=>exact ai h
def qX(P fs):∀(n) (t u),(ah P fs).alikeButTags n t u=P.alikeButTags n t u:=by intro n;induction n with|zero=>exactλ_ _=>rfl|succ n a=>intro t u;have e:=funext λt=>funext λu=>a t u;unfold Program.alikeButTags;rw[e];rfl
def vP(P fs t):(ah P fs).stoodInAs t=P.stoodInAs t:=by unfold Program.stoodInAs;simp only[qX];rfl
def er(P fs t):(ah P fs).stoodInHeld t=P.stoodInHeld t:=by unfold Program.stoodInHeld;rw[vP];rfl
def iD{e σ:Type}(l:List e){f F:e->σ->Sem (ForInStep σ)}(s)(h:∀(c),Ren.le π c->∀a s,(SR S (ah P fs) P) EqQ c (f a s) (F a s)):(SR S (ah P fs) P) EqQ π (forIn l s f) (forIn l s F):=by refine(Lt (T:=λc a b=>a=b/\Ren.le π c) (λ_ _ _ _ l h=>⟨h.1,Ren.le_trans h.2 l⟩) l _ _ ?_ π _ _ ⟨rfl,Ren.le_refl _⟩).mono λ_ _ _ _ h=>h.1;rintro c a s _ ⟨rfl,d⟩;refine(h c d a s).mono ?_;rintro i g x _ rfl;cases x with|done u=>exact .inr ⟨u,u,rfl,rfl,rfl,Ren.le_trans d g⟩|yield u=>exact .inl ⟨u,u,rfl,rfl,rfl,Ren.le_trans d g⟩
def FD(d):∀{π:Ren P.globals.size} (t) {x X y Y},av π x X->av π y Y->(SR S (ah P fs) P) EqQ π (Op.equalIn d t x y) (Op.equalIn d t X Y):=by
 induction d with
 |zero=>intros;exact aC
 |succ d L=>
  intro π t x X y Y M N;unfold Op.equalIn;refine(aA t).bind ?_;rintro g l2 d' _ ⟨rfl,hd⟩;clear hd;have M:=M.mono l2;have N:=N.mono l2;generalize hX:X=X' at*;split;all_goals first|exact .never (dv _)|exact .never (bF _)|skip
  all_goals cases M
  all_goals cases N
  all_goals try exact ai rfl
  all_goals try (exfalso;rename_i h;exact absurd rfl h)
  all_goals simp only[]
  all_goals try (split<;>first|exact ai rfl|exact al)
  ·
   rename_i a b A I B J;refine(fW I).bind ?_;rintro p j ⟨a',x1⟩ ⟨A',X1⟩ ⟨c,_⟩;refine(fW (J.mono j)).bind ?_;rintro l o ⟨b',x2⟩ ⟨B',X2⟩ ⟨k,_⟩;refine bX.bind ?_;rintro q D _ _ ⟨rfl,rfl⟩;have c:=(c.mono o).mono D;have k:=k.mono D;simp only[]at c k⊢;have e1:=(c.eq k).1;have e2:=(c.eq k).2;have e3:decide (a'.block<(ah P fs).globals.size)=decide (A'.block<P.globals.size):=by
    cases c with
    |mk h=>exact decide_eq_decide.2 (q.dz _ _ h)
   rw[e1,e3];split
   ·refine(iC c).bind ?_
    rintro w E n _ rfl;refine(iC (k.mono E)).bind ?_;rintro F l7 m _ rfl;exact ai rfl
   ·refine(du t).bind ?_
    rintro w E i _ ⟨rfl,_⟩;rw[e2];split
    ·split
     ·exact ai rfl
     ·exact aC
    ·exact aC
  rename_i a b A I B J;refine(bE _).bind ?_;rintro p j n _ rfl;rw[(I.eq J).2];split;exact tN (I.mono j) (J.mono j);split;exact ai rfl;refine(eo _).bind ?_;rintro l o m _ rfl;exact ai rfl;exact vO (.some (by assumption)) (.some (by assumption));rename_i r R hr r' R' H;refine ai ?_;have e:r=r'↔R=R':=⟨λe=>by subst e;exact g.fn _ _ _ hr H,λe=>by subst e;exact g.inj _ _ _ hr H⟩
  show(some r==some r')=(some R==some R');rw[T5];simp[e]
  ·split;exact ai rfl;refine(du _).bind ?_;rintro p j i _ ⟨rfl,_⟩;split
   ·refine .never ?_
    repeat' (first|exact aG _|exact aB (aG _)|exact aB (bF _)|split|refine bD (by first|exact qP _|exact .choose _|exact .program|exact .pure _) λ_=>?_)
   exact L _ (by assumption|>λh=>av.mono j h) (by assumption|>λh=>av.mono j h)
  rename_i K xs O XS Q T YS W Z;have z:VsR g xs XS:=⟨Q,T⟩
  have C:VsR g O YS:=⟨W,Z⟩
  refine bX.bind ?_;rintro p j _ _ ⟨rfl,rfl⟩;rw[er];split;exact .never (aB (bF _));rw[<-Ur,<-Ur];refine(iD _ _ λl o f s=>?_).bind ?_;split;refine(fV _ _ (VsR.mono o (VsR.mono j z))).bind ?_;intro q D u U hu;refine(fV _ _ (VsR.mono D (VsR.mono o (VsR.mono j C)))).bind ?_;intro w E v V hv;refine(L _ (hu.mono E) hv).bind ?_;rintro F l7 b _ rfl;split<;>exact ai rfl;exact ai rfl;rintro l o s _ rfl;split<;>exact ai rfl;rename_i elem xs O XS Q T YS W Z;have z:VsR g xs XS:=⟨Q,T⟩
  have C:VsR g O YS:=⟨W,Z⟩
  refine(bE _).bind ?_;rintro p j n _ rfl;simp only[Wd];refine(iD _ _ λl o f s=>?_).bind ?_;refine(fV _ _ (VsR.mono o (VsR.mono j z))).bind ?_;intro q D u U hu;refine(fV _ _ (VsR.mono D (VsR.mono o (VsR.mono j C)))).bind ?_;intro w E v V hv;refine(L _ (hu.mono E) hv).bind ?_;rintro F l7 b _ rfl;split<;>exact ai rfl;rintro l o s _ rfl;split<;>exact ai rfl
def vQ(t){x X y Y}(a:av π x X)(b:av π y Y):(SR S (ah P fs) P) EqQ π (Op.equal t x y) (Op.equal t X Y):=FD _ t a b
def Az(d):∀{π:Ren P.globals.size} (t) {x X y Y},av π x X->av π y Y->(SR S (ah P fs) P) EqQ π (Op.eqGuardIn d t x y) (Op.eqGuardIn d t X Y):=by
 induction d with
 |zero=>intros;exact aC
 |succ d F=>
  intro π t x X y Y j k;unfold Op.eqGuardIn;refine(aA t).bind ?_;rintro c H d' _ ⟨rfl,J⟩;clear J;have j:=j.mono H;have k:=k.mono H;cases d' with
  |interface M=>
   cases j<;>cases k<;>first
    |exact ai rfl
    |(rename_i a;cases Y<;>first|exact ai rfl|(simp[dU]at a;done))
    |(rename_i a;cases X<;>first|exact ai rfl|(simp[dU]at a;done))
    |(rename_i a b;cases X<;>first|exact ai rfl|(simp[dU]at a;done))
  |struct l=>(cases j<;>first|exact ai rfl|(rename_i a;cases X<;>first|exact ai rfl|(simp[dU]at a;done))|(cases k<;>first|exact ai rfl|(rename_i a;cases Y<;>first|exact ai rfl|(simp[dU]at a;done))|skip));(rename_i xs XS m o p YS q r;have e:VsR c xs XS:=⟨m,o⟩);(have g:VsR c p YS:=⟨q,r⟩);simp only[];rw[<-Ur,<-Ur];refine(iD _ _ λh i f s=>?_).bind ?_;split;refine(fV _ _ (VsR.mono i e)).bind ?_;intro w z u U A;refine(fV _ _ (VsR.mono z (VsR.mono i g))).bind ?_;intro B C v V D;refine(F _ (A.mono C) D).bind ?_;rintro E K b _ rfl;split<;>exact ai rfl;exact ai rfl;rintro h i s _ rfl;split<;>exact ai rfl
  |array len elem=>(cases j<;>first|exact ai rfl|(rename_i a;cases X<;>first|exact ai rfl|(simp[dU]at a;done))|(cases k<;>first|exact ai rfl|(rename_i a;cases Y<;>first|exact ai rfl|(simp[dU]at a;done))|skip));(rename_i xs XS m o p YS q r;have e:VsR c xs XS:=⟨m,o⟩);(have g:VsR c p YS:=⟨q,r⟩);simp only[Wd];refine(bE _).bind ?_;rintro L I n _ rfl;refine(iD _ _ λh i f s=>?_).bind ?_;refine(fV _ _ (VsR.mono i (VsR.mono I e))).bind ?_;intro w z u U A;refine(fV _ _ (VsR.mono z (VsR.mono i (VsR.mono I g)))).bind ?_;intro B C v V D;refine(F _ (A.mono C) D).bind ?_;rintro E K b _ rfl;split<;>exact ai rfl;rintro h i s _ rfl;split<;>exact ai rfl
  |_=>cases j<;>exact ai rfl
def lZ(P fs):∀(n) (t),(ah P fs).eqGuardType n t=P.eqGuardType n t:=by intro n;induction n with|zero=>exactλ_=>rfl|succ n a=>intro t;have e:=funext λt=>a t;unfold Program.eqGuardType;rw[e];rfl
end
end Go.Tm

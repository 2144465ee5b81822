import Derived.Laws.Sem
import Derived.Test.YtaglpcmhopjebaaGreatDoorW0
set_option linter.all false
set_option maxRecDepth 100000
set_option maxHeartbeats 20000000
namespace Go.Tm
def Plain(v:x6):Prop:=∀(G:Nat) (π:Ren G),aD π v v
def dW(P:Program):Prop:=∀t i z,P.info? t=some i->i.zero=some z->Plain z
abbrev VQ{G}:Ren G->x6->x6->Prop:=λπ v V=>aD π v V
abbrev EqQ{G}{c:Type}:Ren G->c->c->Prop:=λ_ a b=>a=b
abbrev AQ{G}:Ren G->Addr->Addr->Prop:=λπ a A=>aW π a A
abbrev VsQ{G}:Ren G->WZ->WZ->Prop:=λπ a A=>VsR π a A
section
variable {S:Kn} {P:Program} {fs:Array Func} {π:Ren P.globals.size}
def aq{a b Q h}{s:Sem b}:(SR S (ai P fs) P) Q π (stuck h:Sem a) s:=.never (.halt _)
def aG{a b:Type}{Q:Ren P.globals.size->a->b->Prop}{h:Unsupported}{s:Sem b}(c:iA (.unsupported h):=by exact True.intro):(SR S (ai P fs) P) Q π (unsupported h:Sem a) s:=.never (.halt _ c)
def aj{c d Q}{a:c}{b:d}(h:Q π a b):(SR S (ai P fs) P) Q π (pure a) (pure b):=.pure h
def yK{a}{s:Sem a}(h:dg s:=by repeat' (first|with_reducible exact dg.unsupported _ (by with_unfolding_all exact True.intro)|with_reducible first
 |exact dg.stuck _|exact dg.pure _|exact dg.program|exact dg.choose _|exact dg.shape _|exact dg.frozen _|exact dg.mark _|exact dg.newObj _|exact dg.sys _|assumption
 |refine dg.ite ?_ ?_|refine dg.bind ?_ λ_=>?_|dsimp only|split)):dg s:=h
def AU(t):dg (typeInfo t):=by unfold typeInfo;exact yK
def dG(t):dg (underlying t):=by unfold underlying;exact yK
def FP(t):dg (elemOf t):=by unfold elemOf;refine dg.bind (dG t) λ_=>?_;exact yK
def FQ(t v):dg (newVar t v):=by unfold newVar newRow;exact yK
def tB(t):dg (typeStr t):=by unfold typeStr;refine dg.bind (AU t) λ_=>?_;exact yK
def rJ{a}(v):ey (goPanic v:Sem a):=.halt _
def aH{a}(e):ey (runtimePanic e:Sem a):=by
 unfold runtimePanic;refine fw _ _ (.inr ⟨.program,λp=>?_⟩);cases e<;>simp only[]<;>first
  |exact rJ _
  |exact fw _ _ (.inr ⟨FP _,λ_=>fw _ _ (.inr ⟨FQ _ _,λ_=>rJ _⟩)⟩)
def tC{a}(k x y c):ey (boundsPanic k x y c:Sem a):=by unfold boundsPanic;simp only[];split<;>refine fw _ _ (.inr ⟨?_,λ_=>aH _⟩);exact dg.bind (.choose _) λ_=>.pure _;exact .pure _
def dH{a b Q e}{s:Sem b}:(SR S (ai P fs) P) Q π (runtimePanic e:Sem a) s:=.never (aH e)
def eH{a b Q k x y c}{s:Sem b}:(SR S (ai P fs) P) Q π (boundsPanic k x y c:Sem a) s:=.never (tC k x y c)
def cT:(SR S (ai P fs) P) (λ_ a b=>ai P fs=a/\P=b) π program program:=.program (.pure ⟨rfl,rfl⟩)
def fj(q:Question)(a:K4 q=false:=by with_unfolding_all rfl):(SR S (ai P fs) P) EqQ π (choose q) (choose q):=.choose (λf b h=>absurd h (Om a f b)) λ_=>.pure rfl
def sL(n):(SR S (ai P fs) P) (λ_ _ _=>True) π (askRoom n) (askRoom n):=by unfold askRoom;split;exact .noRoom (.pure trivial);exact .pure trivial
def dP(t):(SR S (ai P fs) P) (λ_ a b=>a=b/\P.info? t=some b) π (typeInfo t) (typeInfo t):=by unfold typeInfo;refine cT.bind ?_;rintro c l _ _ ⟨rfl,rfl⟩;rw[LJ];cases h:P.info? t with|none=>exact aq|some i=>exact aj ⟨rfl,rfl⟩
def aE(t):(SR S (ai P fs) P) (λ_ a b=>a=b/\P.underlying t=some b) π (underlying t) (underlying t):=by unfold underlying;refine cT.bind ?_;rintro c l _ _ ⟨rfl,rfl⟩;rw[kD];cases h:P.underlying t with|none=>exact aq|some i=>exact aj ⟨rfl,rfl⟩
def bP(t):(SR S (ai P fs) P) EqQ π (sizeOf t) (sizeOf t):=by unfold sizeOf;refine(dP t).bind ?_;rintro a l _ _ ⟨rfl,_⟩;exact aj rfl
def FT(t):(SR S (ai P fs) P) EqQ π (isAgg t) (isAgg t):=by unfold isAgg;refine(aE t).bind ?_;rintro b l a _ ⟨rfl,_⟩;split<;>exact aj rfl
def LY(t):(SR S (ai P fs) P) EqQ π (elemOf t) (elemOf t):=by unfold elemOf;refine(aE t).bind ?_;rintro b l a _ ⟨rfl,_⟩;split;exact aj rfl;exact aq
def eQ(c:dW P)(t):(SR S (ai P fs) P) (λ_ a b=>a=b/\Plain a) π (zeroValue t) (zeroValue t):=by unfold zeroValue;refine(dP t).bind ?_;rintro d l i _ ⟨rfl,h⟩;cases e:i.zero with|none=>exact aG|some z=>exact aj ⟨rfl,c t i z h e⟩
def tD{a A}(h:aW π a A):(SR S (ai P fs) P) VQ π (load a) (load A):=.load h λ_ _ b=>.pure b
def OD{a A v V}(h:aW π a A)(b:aD π v V):(SR S (ai P fs) P) EqQ π (store a v) (store A V):=.store h b (.pure rfl)
def iT{o O}(h:gL S π o O):(SR S (ai P fs) P) (λa r R=>a r R) π (newObj o) (newObj O):=.new h λ_ _ _ _ x=>.pure x
def cZ{r b}(h:π r b):(SR S (ai P fs) P) (λa o O=>gL S a o O) π (getObj r) (getObj b):=.getObj h λ_ _ c=>.pure c
def fo{r a o O}(h:π r a)(b:∀c e f,o≠ .cells c e f)(d:gL S π o O):(SR S (ai P fs) P) EqQ π (setObj r o) (setObj a O):=.setObj h b d (.pure rfl)
def aW.add{G}{ρ:Ren G}{a A}(h:aW ρ a A)(n):aW ρ (a.add n) (A.add n):=by cases h with|mk h=>unfold Addr.add;split;exact .mk h;exact .mk h
def vp(n):∀{π:Ren P.globals.size} {a A} {acc b} (i),aW π a A->VsR π acc b->(SR S (ai P fs) P) VsQ π (loadCellsFrom a i n acc) (loadCellsFrom A i n b):=by induction n with|zero=>exactλi h c=>aj c|succ n e=>intro π a A acc b i h c;unfold loadCellsFrom;refine(tD (h.add i)).bind ?_;intro f l v V d;exact e (i+1) (h.mono l) ((VsR.mono l c).push d)
def lj{a A}(h:aW π a A)(n):(SR S (ai P fs) P) VsQ π (loadCells a n) (loadCells A n):=vp n 0 h bf.empty
def nc{c}:∀{π:Ren P.globals.size} {d} {a A} (i),aW π a A->bw (aD π) c d->(SR S (ai P fs) P) EqQ π (storeCells a c i) (storeCells A d i):=by induction c with|nil=>intro π d a A i h b;cases b;exact aj rfl|cons v c f=>intro π d a A i h b;cases b with|cons b e=>unfold storeCells;refine(OD (h.add i) b).bind ?_;intro g l _ _ _;exact f (i+1) (h.mono l) (e.mono λ_ _ x=>x.mono l)
def aD.cells{G}{ρ:Ren G}{v V}(h:aD ρ v V):VsR ρ v.cells V.cells:=by
 cases h with
 |agg s h=>exact⟨s,h⟩
 |nE V a=>(have e:V.cells=#[V]:=by cases V<;>first|rfl|cases a);rw[e];exact bf.push bf.empty (.nE V a)
 |_=>exact⟨rfl,λi x y b c=>by
  simp only[Value.cells]at b c;obtain _|i:=i
  .simp at b c;subst b c;first|exact .LH _ _ _|exact .sC _|(constructor<;>assumption)
  .simp at b⟩
def yL{a A}(t)(h:aW π a A):(SR S (ai P fs) P) VQ π (loadVar t a) (loadVar t A):=by unfold loadVar;refine(FT t).bind ?_;rintro d l b _ rfl;split;refine(bP t).bind ?_;rintro c e n _ rfl;refine(lj ((h.mono l).mono e) n).bind ?_;intro f i j k g;exact aj (aD.IZ g);exact tD (h.mono l)
def FU{a A v V}(t)(h:aW π a A)(b:aD π v V):(SR S (ai P fs) P) EqQ π (storeVar t a v) (storeVar t A V):=by unfold storeVar;refine(bP t).bind ?_;rintro c l n _ rfl;rw[b.cells.1];split;exact aq;exact nc 0 (h.mono l) (b.mono l).cells.toList
def jD{c C}(e)(h:VsR π c C):(SR S (ai P fs) P) AQ π (newRow e c) (newRow e C):=by unfold newRow;refine(iT (.cells e h (.inl rfl))).bind ?_;intro a l r d b;exact aj (.mk b)
def BV{v V}(t)(h:aD π v V):(SR S (ai P fs) P) AQ π (newVar t v) (newVar t V):=jD t h.cells
def lU{v V}(h:aD π v V):(SR S (ai P fs) P) EqQ π (asIntOf v) (asIntOf V):=by cases h<;>first|exact aj rfl|exact aq|exact aG
def kj{v V}(h:aD π v V):(SR S (ai P fs) P) EqQ π (asInt v) (asInt V):=by unfold asInt;refine(lU h).bind ?_;rintro a l _ _ rfl;exact aj rfl
def B8{v V}(h:aD π v V):(SR S (ai P fs) P) EqQ π (asBool v) (asBool V):=by cases h<;>first|exact aj rfl|exact aq
def OE{v V}(h:aD π v V):(SR S (ai P fs) P) VsQ π (asAgg v) (asAgg V):=by cases h with|agg s h=>exact aj ⟨s,h⟩|_=>exact aq
def B9{v V}(h:aD π v V):(SR S (ai P fs) P) AQ π (asAddr v) (asAddr V):=by cases h with|ptr h=>exact aj h|LG=>exact .never (by unfold asAddr;exact aH _)|_=>exact aq
def km{v V}(h:aD π v V):(SR S (ai P fs) P) AQ π (Instr.sureAddr v) (Instr.sureAddr V):=by cases h with|ptr h=>exact aj h|_=>exact aq
def iv{c C}(t off)(h:VsR π c C):(SR S (ai P fs) P) VQ π (part t c off) (part t C off):=by unfold part;refine(FT t).bind ?_;rintro f l b _ rfl;have d:=VsR.mono l h;split;refine(bP t).bind ?_;rintro e g n _ rfl;exact aj (aD.IZ ((VsR.mono g d).extract _ _));have a:=d.get off;revert a;generalize c[off]? =u;generalize C[off]? =v;intro a;cases a with|none=>exact aq|some r=>exact aj r
def fM{r a}(h:π r a):(SR S (ai P fs) P) EqQ π (shape r) (shape a):=.shape h λs=>.pure rfl
abbrev VwR{G}(π:Ren G):Addr×TypeId->Addr×TypeId->Prop:=λx y=>aW π x.1 y.1/\x.2=y.2
def qU{r d}(h:π r d):(SR S (ai P fs) P) (λc a b=>et (VwR c) a b) π (viewAt r) (viewAt d):=by unfold viewAt;refine(fM h).bind ?_;rintro c l a _ rfl;split;exact aj .none;refine(cZ (l _ _ h)).bind ?_;intro e g o O f;cases f<;>first|exact aj .none|exact aj (.some ⟨by assumption,rfl⟩)
def mI{c d Q}{a:Option c}{b:Option d}(h:et Q a b):a.isSome=b.isSome:=by cases h<;>rfl
def vq{a A}(h:aW π a A):(SR S (ai P fs) P) EqQ π (noView a) (noView A):=by cases h with|mk h=>unfold noView;refine(qU h).bind ?_;intro c l x y b;rw[mI b];split;exact aG;exact aj rfl
def jE{a A}(h:aW π a A):(SR S (ai P fs) P) EqQ π (byteOf a) (byteOf A):=by (unfold byteOf;have e1:a.spot=A.spot/\a.off=A.off:=by cases h;exact⟨rfl,rfl⟩);rw[e1.1,e1.2];cases A.spot with|some s=>exact aj rfl|none=>simp only[];refine cT.bind ?_;rintro b l _ _ ⟨rfl,rfl⟩;refine(vq (h.mono l)).bind ?_;intro c d _ _ _;cases h with|mk h=>refine(fM (d _ _ (l _ _ h))).bind ?_;rintro f g sh _ rfl;cases sh with|none=>exact aq|some es=>obtain⟨e,n⟩:=es;simp only[show(ai P fs).cellsOf e=P.cellsOf e from rfl,show(ai P fs).bytesOf e=P.bytesOf e from rfl,show(ai P fs).depth=P.depth from rfl,ir];split;exact aj rfl;split;exact aj rfl;exact aq
def LZ{a A}(h:aW π a A)(c b):(SR S (ai P fs) P) AQ π (partAt a c b) (partAt A c b):=by unfold partAt;refine(jE h).bind ?_;rintro e l n _ rfl;cases h with|mk h=>refine(jE (.mk (l _ _ h))).bind ?_;rintro f d m _ rfl;simp only[];split;exact aj (.mk (d _ _ (l _ _ h)));exact aj (.mk (d _ _ (l _ _ h)))
def AV{a A}(h:aW π a A)(f):(SR S (ai P fs) P) AQ π (fieldPlace a f) (fieldPlace A f):=by unfold fieldPlace;refine(bP f.type).bind ?_;rintro b l n _ rfl;split;exact LZ (h.mono l) _ _;exact aj ((h.mono l).add _)
def nf{x X}(h:aD π x X)(y c):(SR S (ai P fs) P) EqQ π (Instr.sliceBound x y c) (Instr.sliceBound X y c):=by unfold Instr.sliceBound;refine(lU h).bind ?_;rintro a l ⟨k,i⟩ _ rfl;simp only[];split;exact aj rfl;exact eH
def gl(b len cap){p q r s mx e}(t:et (aD π) p q)(u:et (aD π) r s)(i:et (aD π) mx e):(SR S (ai P fs) P) EqQ π (Instr.sliceBounds b len cap p r mx) (Instr.sliceBounds b len cap q s e):=by
 unfold Instr.sliceBounds;have e3:e.isSome=mx.isSome:=by cases i<;>rfl
 simp only[e3];have w:∀{c:Type} (o O:Option x6),et (aD π) o O->∀(f g:x6->Sem c) (x y:Sem c) (a:Ren P.globals.size) (Q:Ren P.globals.size->c->c->Prop),Ren.le π a->(∀v V,aD a v V->(SR S (ai P fs) P) Q a (f v) (g V))->(SR S (ai P fs) P) Q a x y->
  (SR S (ai P fs) P) Q a (match o with|some v=>f v|none=>x) (match O with|some v=>g v|none=>y):=by
  intro c o O h f g x y a Q l z A;cases h with
  |none=>exact A
  |some h=>exact z _ _ (h.mono l)
 refine w mx e i _ _ _ _ π EqQ (Ren.le_refl _) (λv V B=>?_) ?_;all_goals
  refine SR.bind (R1:=EqQ) (by first|exact nf B _ _|exact aj rfl) ?_;rintro a l m _ rfl;have j:=t.mono λ_ _ x=>x.mono l;have k:=u.mono λ_ _ x=>x.mono l;have n:=i.mono λ_ _ x=>x.mono l;cases k<;>cases n<;>simp only[];all_goals
   refine SR.bind (R1:=EqQ) (by first|exact nf (by assumption) _ _|exact aj rfl|exact aq) ?_;rintro C D h _ rfl;have d:=j.mono λ_ _ x=>x.mono D;cases d<;>simp only[];all_goals
    refine SR.bind (R1:=EqQ) (by first|exact nf (by assumption) _ _|exact aj rfl) ?_;rintro E F G _ rfl;exact aj rfl
def lV{x X}(h:aD π x X)(c):(SR S (ai P fs) P) (λ_ a b=>a=b/\a=0) π (Instr.sliceBound x 0 c) (Instr.sliceBound X 0 c):=by unfold Instr.sliceBound;refine(lU h).bind ?_;rintro d l ⟨k,i⟩ _ rfl;simp only[];split;exact aj ⟨rfl,by omega⟩;exact eH
def xQ(b){g i j k mx d}(o:et (aD π) g i)(p:et (aD π) j k)(n:et (aD π) mx d):(SR S (ai P fs) P) (λ_ a b=>a=b/\a=(0,0,0)) π (Instr.sliceBounds b 0 0 g j mx) (Instr.sliceBounds b 0 0 i k d):=by
 unfold Instr.sliceBounds;have e3:d.isSome=mx.isSome:=by cases n<;>rfl
 simp only[e3];cases n<;>simp only[];all_goals
  refine SR.bind (R1:=λ_ a b=>a=b/\a=0) (by first|exact lV (by assumption) _|exact aj ⟨rfl,rfl⟩) ?_;rintro q l m _ ⟨rfl,rfl⟩;have e:=o.mono λ_ _ x=>x.mono l;have f:=p.mono λ_ _ x=>x.mono l;cases f<;>simp only[];all_goals
   refine SR.bind (R1:=λ_ a b=>a=b/\a=0) (by first|exact lV (by assumption) _|exact aj ⟨rfl,rfl⟩|exact aq) ?_;rintro r s h _ ⟨rfl,rfl⟩;have c:=e.mono λ_ _ x=>x.mono s;cases c<;>simp only[];all_goals
    refine SR.bind (R1:=λ_ a b=>a=b/\a=0) (by first|exact lV (by assumption) _|exact aj ⟨rfl,rfl⟩) ?_;rintro t u v _ ⟨rfl,rfl⟩;exact aj ⟨rfl,rfl⟩
def OF{x X}(t)(m:aD π x X){s u v w mx p}(f:et (aD π) s u)(g:et (aD π) v w)(h:et (aD π) mx p):(SR S (ai P fs) P) VQ π (Instr.slice t x s v mx) (Instr.slice t X u w p):=by
 unfold Instr.slice;refine(aE t).bind ?_;rintro B l d _ ⟨rfl,_⟩;have m:=m.mono l;have f:=f.mono λ_ _ x=>x.mono l;have g:=g.mono λ_ _ x=>x.mono l;have h:=h.mono λ_ _ x=>x.mono l;have e3:p.isSome=mx.isSome:=by cases h<;>rfl
 cases d with
 |string=>(cases m<;>simp only[]<;>try exact aq);rw[e3];split;exact .never (fw _ _ (.inl (.halt _)));refine(gl false _ _ f g et.none).bind ?_;rintro i e ⟨a,b,c⟩ _ rfl;exact aj (.string _)
 |slice elem=>(cases m<;>simp only[]<;>try exact aq);rename_i len cap;refine(gl true _ _ f g h).bind ?_;rintro i e ⟨a,b,c⟩ _ rfl;refine(bP elem).bind ?_;rintro j o n _ rfl;refine aj ?_;simp only[Option.map_none,ite_self];exact .jv _ _;rename_i a A len cap k;refine(gl true _ _ f g h).bind ?_;rintro i e ⟨y,b,c⟩ _ rfl;refine(bP elem).bind ?_;rintro j o n _ rfl;refine aj ?_;simp only[Xm];split;exact .slice _ _ ((k.mono e).mono o);exact .slice _ _ (((k.mono e).mono o).add _);refine(xQ true f g h).bind ?_;rintro i e ⟨y,b,c⟩ _ ⟨rfl,e0⟩;cases e0;refine(bP elem).bind ?_;rintro j o n _ rfl;exact aj (.sC _)
 |pointer q=>(simp only[];refine(B9 m).bind ?_;intro z r a A k;refine(aE q).bind ?_;rintro i e d _ ⟨rfl,C⟩;clear C;have f:=f.mono λ_ _ x=>(x.mono r).mono e;have g:=g.mono λ_ _ x=>(x.mono r).mono e;have h:=h.mono λ_ _ x=>(x.mono r).mono e;cases d<;>simp only[]<;>try exact aq);rename_i n elem;refine(gl false _ _ f g h).bind ?_;rintro j o ⟨y,b,c⟩ _ rfl;refine(bP elem).bind ?_;rintro D E n _ rfl;refine aj ?_;have k:=((k.mono e).mono o).mono E;simp only[];split;exact .slice _ _ k;exact .slice _ _ (k.add _)
 |_=>cases m<;>exact aq
def Jf{x X}(t)(h:aD π x X){k m o p q r}(e:et (aD π) k m)(f:et (aD π) o p)(g:et (aD π) q r):(SR S (ai P fs) P) VQ π (Instr.sliceAt t x k o q) (Instr.sliceAt t X m p r):=by (unfold Instr.sliceAt;refine(aE t).bind ?_;rintro u l d _ ⟨rfl,v⟩;clear v;have h:=h.mono l;have e:=e.mono λ_ _ x=>x.mono l;have f:=f.mono λ_ _ x=>x.mono l;have g:=g.mono λ_ _ x=>x.mono l;cases d<;>simp only[]<;>try exact OF t h e f g);(rename_i n elem;refine(km h).bind ?_;intro s j a A i;have e:=e.mono λ_ _ x=>(x.mono j));(have f:=f.mono λ_ _ x=>(x.mono j));(have g:=g.mono λ_ _ x=>(x.mono j));refine(gl false _ _ e f g).bind ?_;rintro w y ⟨C,b,c⟩ _ rfl;refine(bP elem).bind ?_;rintro z B n _ rfl;refine aj ?_;have i:=(i.mono y).mono B;simp only[];split;exact .slice _ _ i;exact .slice _ _ (i.add _)
def lE(t:TypeId)(k:IntKind)(i:Int)(base:Option Addr)(len:Nat)(elem:TypeId):Sem x6:=do
 let b:=len<=1&&(match <-underlying t with| .array .. =>true|_=>false)
 match base with
 |some a=>
  if 0<=i/\i<len then pure (.pointer (some (a.add (i.toNat*(<-sizeOf elem)))))
  else if b then unsupported (.noEntry "op/indexAddr.an index out of range at an array of length 0 or 1 (ledger 616)")
  else boundsPanic k i len .index
 |none=>boundsPanic k i 0 .index
def oG(t k i){a A}(len elem)(b:et (aW π) a A):(SR S (ai P fs) P) VQ π (lE t k i a len elem) (lE t k i A len elem):=by unfold lE;refine(aE t).bind ?_;rintro c d d' _ ⟨rfl,_⟩;cases b with|none=>exact eH|some b=>simp only[];split;refine(bP elem).bind ?_;rintro e f n _ rfl;exact aj (.ptr (((b.mono d).mono f).add _));split<;>split<;>first|exact aG|exact eH
def AW(t k i){a A:Addr}(elem):(SR S (ai P fs) P) VQ π (lE t k i (some a) 0 elem) (lE t k i (some A) 0 elem):=by unfold lE;refine(aE t).bind ?_;rintro b c d' _ ⟨rfl,_⟩;simp only[];rw[Wt (by omega)];split<;>first|exact aG|exact eH
def Jg{x X i I}(t)(b:aD π x X)(j:aD π i I):(SR S (ai P fs) P) VQ π (Instr.indexAt t x i) (Instr.indexAt t X I):=by
 unfold Instr.indexAt;refine(lU j).bind ?_;rintro m l ⟨k,i⟩ _ rfl;refine(aE t).bind ?_;rintro n o d _ ⟨rfl,p⟩;clear p;have b:=(b.mono l).mono o;have g:∀{q r:Type} (f:q->Sem r) (h:String),ey (stuck h>>= f):=λf h=>fw _ _ (.inl (.halt _));cases d with
 |array len elem=>refine(km b).bind ?_;intro s u a A e;exact oG t k i len elem (.some e)
 |slice elem=>cases b with|jv len c=>exact oG t k i len elem .none|slice len c e=>exact oG t k i len elem (.some e)|sC A=>exact AW t k i elem|_=>exact .never (g _ _)
 |_=>exact .never (g _ _)
def OG{x X i I}(t)(a:aD π x X)(b:aD π i I):(SR S (ai P fs) P) VQ π (Instr.index t x i) (Instr.index t X I):=by
 unfold Instr.index;refine(lU b).bind ?_;rintro c l ⟨k,i⟩ _ rfl;refine(aE t).bind ?_;rintro e f d _ ⟨rfl,m⟩;have a:=(a.mono l).mono f;cases d with
 |array len elem=>(cases a<;>simp only[]<;>try exact aq);rename_i s h;split;refine(bP elem).bind ?_;rintro g j n _ rfl;exact iv elem _ (VsR.mono j ⟨s,h⟩);exact eH
 |string=>(cases a<;>simp only[]<;>try exact aq);split;exact aj (.int _ _);exact eH
 |_=>cases a<;>exact aq
def OH{x X}(t f)(b:aD π x X):(SR S (ai P fs) P) VQ π (Instr.field t x f) (Instr.field t X f):=by (unfold Instr.field;refine(aE t).bind ?_;rintro e g d _ ⟨rfl,j⟩;cases d<;>simp only[]<;>try exact aq);rename_i a;split;refine(OE (b.mono g)).bind ?_;intro h k c C i;exact iv _ _ i;exact aq
def Jh{x X}(i)(b:aD π x X):(SR S (ai P fs) P) VQ π (Instr.extract x i) (Instr.extract X i):=by
 unfold Instr.extract;cases b with
 | @tuple c C s h=>(simp only[];have a:=(bf.get ⟨s,h⟩ i:et (aD π) c[i]? C[i]?));revert a;generalize c[i]? =u;generalize C[i]? =v;intro a;cases a with|none=>exact aq|some r=>exact aj r
 |_=>exact aq
end
section
variable {S:Kn} {P:Program} {fs:Array Func} {G:Nat} {π:Ren P.globals.size} {ρ:Ren G}
def aF{a b s}{f:a->Sem b}(h:ey s):ey (s>>= f):=fw _ _ (.inl h)
def bN{b c s}{f:b->Sem c}(d:dg s)(h:∀a,ey (f a)):ey (s>>= f):=fw _ _ (.inr ⟨d,h⟩)
def dQ{a}(h):ey (stuck h:Sem a):=.halt _
def bR{a:Type}(h:Unsupported)(b:iA (.unsupported h):=by exact True.intro):ey (unsupported h:Sem a):=.halt _ b
def Ji{x X}(s f)(e:aD π x X):(SR S (ai P fs) P) VQ π (Instr.fieldAt s x f) (Instr.fieldAt s X f):=by (unfold Instr.fieldAt;refine(aE s).bind ?_;rintro g h d _ ⟨rfl,n⟩;cases d<;>simp only[]<;>try exact aq);rename_i c;cases o:c[f]? with|none=>exact aq|some i=>simp only[];refine(km (e.mono h)).bind ?_;intro j p a A k;exact(AV k i).bind λl q b B m=>aj (.ptr m)
def sM(b):Plain (.bool b):=λ_ _=>.bool b
def AX:Plain (default:x6):=λ_ π=>by show aD π (Value.bool default) (Value.bool default);exact .bool _
def bu(c:WZ):Prop:=∀(i:Nat) v,c[i]? =some v->Plain v
def bu.refl{c}(h:bu c)(ρ:Ren G):VsR ρ c c:=⟨rfl,λi x y a b=>by rw[a]at b;cases b;exact h i x a _ ρ⟩
def Plain.cells{v}(h:Plain v):bu v.cells:=λi x a G π=>((h G π).cells).2 i x x a a
def bu.getD{c}(h:bu c)(i:Nat):Plain c[i]! :=by rw[getElem!_def];cases e:c[i]? with|none=>exact AX|some v=>exact h i v e
def bu.spread{c}(h:bu c)(n m):bu ((Array.range n).map λi=>c[i%m]!):=by intro i v a;rw[Xd]at a;cases e:(Array.range n)[i]? with|none=>rw[e]at a;simp at a|some k=>rw[e]at a;simp at a;subst a;exact h.getD _
def bu.empty:bu #[]:=λi v h=>by simp at h
def OI(c:dW P)(t):(SR S (ai P fs) P) VQ π (Instr.alloc t true (.tuple #[])) (Instr.alloc t true (.tuple #[])):=by unfold Instr.alloc;refine(eQ c t).bind ?_;rintro b l z _ ⟨rfl,d⟩;simp only[];refine(BV t (d _ b)).bind ?_;rintro e g a A f;exact aj (.ptr f)
def Tk{v V}(t)(h:aD π v V):(SR S (ai P fs) P) VQ π (Instr.box t v) (Instr.box t V):=by unfold Instr.box;refine(BV t h).bind ?_;rintro b d a A c;exact aj (.ptr c)
abbrev mJ{G}(π:Ren G):Nat×x6->Nat×x6->Prop:=λa b=>a.1=b.1/\aD π a.2 b.2
def L0{l L:List (x6×Nat)}(h:bw (λa b=>aD ρ a.1 b.1/\a.2=b.2) l L):∀{c C:WZ} (off:Nat),VsR ρ c C->VsR ρ (l.foldl (λcs (c,j)=>cs.setIfInBounds (off+j) c) c) (L.foldl (λcs (c,j)=>cs.setIfInBounds (off+j) c) C):=by induction h with|nil=>exactλ_ h=>h| @cons x y l m d _ e=>intro c C off f;obtain⟨v,j⟩:=x;obtain⟨V,J⟩:=y;obtain⟨g,rfl⟩:=d;exact e off (f.set _ g)
def Jj{l L}(h:bw (aD ρ) l L):∀n,bw (λa b=>aD ρ a.1 b.1/\a.2=b.2) (l.zipIdx n) (L.zipIdx n):=by induction h with|nil=>exactλ_=>.nil|cons c _ d=>exactλn=>by simp only[List.zipIdx_cons];exact .cons ⟨c,rfl⟩ (d _)
def yM(a){l L}(h:bw (mJ ρ) l L):∀{c C},VsR ρ c C->et (VsR ρ) (Instr.fill a c l) (Instr.fill a C L):=by induction h with|nil=>exactλh=>.some h| @cons x y l m b _ g=>intro c C e;obtain⟨i,v⟩:=x;obtain⟨j,V⟩:=y;obtain⟨f,d⟩:=b;simp only[]at f d;subst f;unfold Instr.fill;cases a i with|none=>exact .none|some os=>obtain⟨off,size⟩:=os;simp only[];rw[<-d.cells.1,<-e.1];split;exact .none;refine g ?_;rw[<-Zh,<-Zh,Array.toList_zipIdx,Array.toList_zipIdx];exact L0 (Jj d.cells.toList 0) off e
def yN(a:List Field):(SR S (ai P fs) P) EqQ π (a.mapM λf=>do pure (f.offset,<-sizeOf f.type)) (a.mapM λf=>do pure (f.offset,<-sizeOf f.type)):=by induction a generalizing π with|nil=>exact aj rfl|cons f l c=>simp only[List.mapM_cons];refine SR.bind (R1:=EqQ) ((bP f.type).bind ?_) ?_;rintro b l n _ rfl;exact aj rfl;rintro b e x _ rfl;refine c.bind ?_;rintro d g y _ rfl;exact aj rfl
def OJ{i j d e Q}{Q':Ren P.globals.size->d->e->Prop}{s t}{f:i->d}{g:j->e}(h:(SR S (ai P fs) P) Q π s t)(k:∀c a b,Q c a b->Q' c (f a) (g b)):(SR S (ai P fs) P) Q' π (Functor.map f s) (Functor.map g t):=by rw[map_eq_pure_bind,map_eq_pure_bind];exact h.bind λc l a b q=>aj (k _ _ _ q)
def OK(p:dW P)(t){g PS}(h:bf (mJ π) g PS):(SR S (ai P fs) P) VQ π (Instr.build t g) (Instr.build t PS):=by (unfold Instr.build;refine(eQ p t).bind ?_;rintro q l z _ ⟨rfl,m⟩;refine(aE t).bind ?_;rintro f s d _ ⟨rfl,_⟩;have h:bf (mJ f) g PS:=(h.mono λ_ _ x=>⟨x.1,(x.2.mono l).mono s⟩));(have o:=h.toList;cases d<;>simp only[]<;>try exact aq);rename_i n elem _;refine(bP _).bind ?_;rintro a j size _ rfl;have:=yM (λi=>some (i*size,size)) (o.mono λ_ _ (x:mJ f _ _)=>(⟨x.1,x.2.mono j⟩:mJ a _ _)) (m _ a).cells;revert this;(generalize Instr.fill _ _ _=u;generalize Instr.fill _ _ _=v;intro k;cases k with|none=>exact aq|some r=>exact aj (aD.IZ r));rename_i b _;refine SR.bind (R1:=EqQ) ?_ ?_;obtain⟨w⟩:=b;(rw[List.mapM_toArray];exact OJ (yN w) λ_ _ _ e=>by rw[show _=_ from e]);rintro a j c _ rfl;have:=yM (c[·]?) (o.mono λ_ _ (x:mJ f _ _)=>(⟨x.1,x.2.mono j⟩:mJ a _ _)) (m _ a).cells;revert this;generalize Instr.fill _ _ _=u;generalize Instr.fill _ _ _=v;intro k;cases k with|none=>exact aq|some r=>exact aj (aD.IZ r)
def AY(k:dW P)(t n){f PS}(h:bf (mJ π) f PS):(SR S (ai P fs) P) VQ π (Instr.buildSlice t n f) (Instr.buildSlice t n PS):=by
 unfold Instr.buildSlice;refine(aE t).bind ?_;rintro c l d _ ⟨rfl,_⟩;have h:bf (mJ c) f PS:=(h.mono λ_ _ x=>⟨x.1,(x.2.mono l)⟩)
 have m:=h.toList;cases d<;>simp only[]<;>try exact aq
 rename_i elem _;refine(bP _).bind ?_;rintro e o size _ rfl;split;exact .never (aF (bR _))
 have key:∀(b:Ren P.globals.size),Ren.le e b->∀zero:WZ,bu zero->(SR S (ai P fs) P) VQ b
  (do let some cells:=Instr.fill (λi=>some (i*size,size)) ((Array.range (n*size)).map (zero[· %zero.size]!)) f.toList|stuck "buildSlice: a part of the wrong size"
      pure (.slice (some (<-newRow elem cells)) n n))
  (do let some cells:=Instr.fill (λi=>some (i*size,size)) ((Array.range (n*size)).map (zero[· %zero.size]!)) PS.toList|stuck "buildSlice: a part of the wrong size"
      pure (.slice (some (<-newRow elem cells)) n n)):=by
  intro b g zero j;have:=yM (λi=>some (i*size,size)) (m.mono λ_ _ (x:mJ c _ _)=>(⟨x.1,(x.2.mono o).mono g⟩:mJ b _ _)) ((j.spread (n*size) zero.size).refl b)
  revert this
  generalize Instr.fill _ _ _=u;generalize Instr.fill _ _ _=v;intro p;cases p with
  |none=>exact aq
  |some r=>refine(jD elem r).bind ?_;rintro q w a A s;exact aj (.slice _ _ s)
 split;exact key e (Ren.le_refl _) #[] .empty;refine(eQ k elem).bind ?_;rintro b g z _ ⟨rfl,j⟩;exact key b g _ j.cells
def FV{fn a f F c C}(h:FnR π fn a)(b:VsR π f F)(d:VsR π c C):(SR S (ai P fs) P) VQ π (Instr.makeFunc fn f c) (Instr.makeFunc a F C):=aj (.func h b.1 b.2 d.1 d.2)
def Jk(t){r R}(h:et (aD π) r R):(SR S (ai P fs) P) VQ π (Instr.makeMap t r) (Instr.makeMap t R):=by (unfold Instr.makeMap;have fin:∀b:Ren P.globals.size,(SR S (ai P fs) P) VQ b (do pure (.map (some (<-newObj (.map #[] 0)))):Sem x6) (do pure (.map (some (<-newObj (.map #[] 0))))):=λb=>by refine(iT (.map 0 .empty)).bind ?_;rintro c j a A e;exact aj (.map e));cases h with|none=>exact fin _|some h=>(simp only[];refine(aE t).bind ?_;rintro f g d _ ⟨rfl,_⟩;cases d<;>simp only[]<;>try exact aq);refine(kj (h.mono g)).bind ?_;rintro i k _ _ _;exact fin _
def vt{v V}(t)(h:aD π v V):(SR S (ai P fs) P) VQ π (Instr.makeInterface t v) (Instr.makeInterface t V):=by unfold Instr.makeInterface;refine(aE t).bind ?_;rintro a b d _ ⟨rfl,_⟩;cases d<;>first|exact aq|exact aj (.iface t (h.mono b))
def DN(k:dW P)(t){a A b B}(f:aD π a A)(m:aD π b B):(SR S (ai P fs) P) VQ π (Instr.makeSlice t a b) (Instr.makeSlice t A B):=by
 unfold Instr.makeSlice;refine(aE t).bind ?_;rintro o j d _ ⟨rfl,_⟩;cases d<;>simp only[]<;>try exact aq
 rename_i elem _;refine(kj (f.mono j)).bind ?_;rintro p q len _ rfl;refine(kj ((m.mono j).mono q)).bind ?_;rintro r x cap _ rfl;refine(dP elem).bind ?_;rintro g s i _ ⟨rfl,_⟩;have fin:∀(c:Ren P.globals.size) (n l:Nat) (zero:WZ),bu zero->(SR S (ai P fs) P) VQ c (do let a <-newRow elem ((Array.range n).map (zero[· %zero.size]!));pure (.slice (some a) l (IntKind.i64.wrap cap).toNat):Sem x6)
  (do let a <-newRow elem ((Array.range n).map (zero[· %zero.size]!));pure (.slice (some a) l (IntKind.i64.wrap cap).toNat)):=by
  intro c n l zero h;refine(jD elem ((h.spread n zero.size).refl c)).bind ?_;rintro g s a A f;exact aj (.slice _ _ f)
 have e:∀(c:Ren P.globals.size),(SR S (ai P fs) P) VQ c (do
  askRoom ((IntKind.i64.wrap cap).toNat*i.bytes)
  let n:=(IntKind.i64.wrap cap).toNat*(<-sizeOf elem);let zero <-if n=0 then pure #[]else do pure (<-zeroValue elem).cells
  let a <-newRow elem ((Array.range n).map (zero[· %zero.size]!))
  pure (.slice (some a) (IntKind.i64.wrap len).toNat (IntKind.i64.wrap cap).toNat):Sem x6) (do
  askRoom ((IntKind.i64.wrap cap).toNat*i.bytes)
  let n:=(IntKind.i64.wrap cap).toNat*(<-sizeOf elem);let zero <-if n=0 then pure #[]else do pure (<-zeroValue elem).cells
  let a <-newRow elem ((Array.range n).map (zero[· %zero.size]!))
  pure (.slice (some a) (IntKind.i64.wrap len).toNat (IntKind.i64.wrap cap).toNat)):=by
  intro c;refine(sL _).bind ?_;rintro u y _ _ _;refine(bP elem).bind ?_;rintro v C D _ rfl;simp only[];split
  .exact fin _ _ _ #[] .empty
  .refine(eQ k elem).bind ?_
   rintro w E z _ ⟨rfl,h⟩;exact fin _ _ _ _ h.cells
 split;split;exact .never (aF (aH _));split;exact .never (aF (aH _));exact .never (bN (.choose _) λa=>aF (aH _));exact e _
def Calm(s:Sem x6):Prop:=ey s\/∃v,Plain v/\s=pure v
def Calm.sr{s}(h:Calm s):(SR S (ai P fs) P) VQ π s s:=by obtain h|⟨v,a,rfl⟩:=h;exact .never h;exact aj (a _ π)
def Calm.int(k n):Calm (pure (.int k n)):=.inr ⟨_,λ_ _=>.int k n,rfl⟩
def Calm.bool(b):Calm (pure (.bool b)):=.inr ⟨_,λ_ _=>.bool b,rfl⟩
def Calm.string(s):Calm (pure (.string s)):=.inr ⟨_,λ_ _=>.string s,rfl⟩
def Calm.stuck(s):Calm (stuck s):=.inl (.halt _)
def Calm.unsupported(s:Unsupported)(a:iA (.unsupported s):=by exact True.intro):Calm (unsupported s):=.inl (.halt _ a)
def rK(a k x y):Calm (Op.intArith a k x y):=by cases a<;>first|exact .int _ _|exact .stuck _
def FW(a x y):Calm (Op.intCmp a x y):=by cases a<;>first|exact .bool _|exact .stuck _
def FX(a k x y):Calm (Op.intDiv a k x y):=by unfold Op.intDiv;split;exact .inl (aH _);cases a<;>first|exact .int _ _|exact .stuck _
def tG(a k x y):Calm (Op.intBits a k x y):=by unfold Op.intBits;cases a<;>first|exact .int _ _|exact .stuck _
def yO(a k x b y):Calm (Op.shift a k x b y):=by unfold Op.shift;split;exact .inl (aH _);cases a<;>first|exact .int _ _|exact .stuck _
def rL(a x y):Calm (Op.stringOp a x y):=by unfold Op.stringOp;cases a<;>simp only[]<;>first|exact .bool _|exact .stuck _|(split<;>first|exact .string _|exact .unsupported _)
def OL{x X}(a)(h:aD π x X):(SR S (ai P fs) P) VQ π (Op.unary a x) (Op.unary a X):=by
 cases h<;>cases a<;>first
  |exact aq
  |exact aG
  |exact(rK _ _ _ _).sr
  |exact(tG _ _ _ _).sr
  |exact aj (aD.int _ _)
  |exact aj (.bool _)
  |exact aj (.float _ _)
  |exact aj (.complex _ _ _)
def OM{d σ τ:Type}{T:Ren P.globals.size->σ->τ->Prop}(mono:∀π c a b,Ren.le π c->T π a b->T c a b)(l:List d)(f:d->σ->Sem (ForInStep σ))(g:d->τ->Sem (ForInStep τ)) (h:∀(π:Ren P.globals.size) a s t,T π s t->(SR S (ai P fs) P) (λc x y=>(∃u v,x=.yield u/\y=.yield v/\T c u v)\/(∃u v,x=.done u/\y=.done v/\T c u v)) π (f a s) (g a t)):∀(π:Ren P.globals.size) (s:σ) (t:τ),T π s t->(SR S (ai P fs) P) T π (forIn l s f) (forIn l t g):=by induction l with|nil=>intro π s t e;simp only[List.forIn_nil];exact aj e|cons a l j=>intro π s t e;simp only[Z8];refine(h π a s t e).bind ?_;rintro c k x y (⟨u,v,rfl,rfl,i⟩|⟨u,v,rfl,rfl,i⟩);exact j c u v i;exact aj i
def qV{a A}(h:aW π a A):(SR S (ai P fs) P) (λ_ b B=>B=true->b=true) π (frozen a) (frozen A):=.frozen h λ_ _ x=>.pure x
def tH{a A}(h:aW π a A):(SR S (ai P fs) P) (λ_ b B=>B=true->b=true) π (stringish a) (stringish A):=by unfold stringish;cases h with| @mk r s o p h=>(have key:∀c,Ren.le π c->(SR S (ai P fs) P) (λ_ b B=>B=true->b=true) c (do match <-shape r with|some (_,n)=>frozen {block:=r,off:=n}|none=>pure false:Sem Bool) (do match <-shape s with|some (_,n)=>frozen {block:=s,off:=n}|none=>pure false):=by intro c l;refine(fM (l _ _ h)).bind ?_;rintro e f x _ rfl;split;exact qV (.mk (f _ _ (l _ _ h)));exact aj (by simp));refine(qV (.mk h)).bind ?_;intro c l b B g;have d:=key c l;cases b<;>cases B<;>simp only[WW,WU,WL];exact d;simp at g;refine .uT λx=>?_;(cases x with|none=>exact aj (by simp)|some y=>exact .qT λz=>aj (by simp));exact aj (by simp)
def yP{r s:Nat}(h:π r s):(SR S (ai P fs) P) EqQ π (do pure ((<-shape r) matches some (_,0)):Sem Bool) (do pure ((<-shape s) matches some (_,0))):=by refine(fM h).bind ?_;rintro a b x _ rfl;exact aj rfl
def FY{a A b B}(d:aW π a A)(e:aW π b B):(SR S (ai P fs) P) (λ_ m M=>M=true->m=true) π (mayBeOne a b) (mayBeOne A B):=by unfold mayBeOne;refine(tH d).bind ?_;intro g c i j k;refine(tH (e.mono c)).bind ?_;intro l f sb n hsb;refine SR.bind (R1:=EqQ) ?_ ?_;(cases d with|mk h=>exact yP (f _ _ (c _ _ h)));rintro o p r _ rfl;refine SR.bind (R1:=EqQ) ?_ ?_;(cases e with|mk h=>exact yP (p _ _ (f _ _ (c _ _ h))));rintro q s t _ rfl;refine aj ?_;cases i<;>cases j<;>cases sb<;>cases n<;>simp_all
def aW.eq{a A b B}(d:aW ρ a A)(f:aW ρ b B):(a.block==b.block)=(A.block==B.block)/\(a==b)=(A==B):=by cases d with| @mk r s o p h=>cases f with| @mk g s' o' i c=>(have e:r=g↔s=s':=⟨λe=>by subst e;exact ρ.fn _ _ _ h c,λe=>by subst e;exact ρ.inj _ _ _ h c⟩);constructor;rw[XP];simp[e];rw[XP];simp[e]
def xa{a A b B}(c:aW π a A)(d:aW π b B):(SR S (ai P fs) P) EqQ π (sameAddr a b) (sameAddr A B):=by
 unfold sameAddr;rw[(c.eq d).1,(c.eq d).2];split;exact aj rfl;refine(qV c).bind ?_;intro o g p v i;refine(qV (d.mono g)).bind ?_;intro q k fb w hfb;by_cases e:(p&&fb)=true;rw[Wu e];exact .never (aF (bR _))
 rw[Wt e,Wt (by simp only[WI]at e⊢;exactλh=>e ⟨i h.1,hfb h.2⟩)];have c:=(c.mono g).mono k;have d:=(d.mono g).mono k;refine(vq c).bind ?_;intro r j _ _ _;refine(vq (d.mono j)).bind ?_;intro s l _ _ _;refine(FY ((c.mono j).mono l) ((d.mono j).mono l)).bind ?_;intro t x m M y;cases m with
 |false=>(have:M=false:=by cases M<;>simp_all);subst this;exact aj rfl
 |true=>cases M with|true=>refine(fj _).bind ?_;rintro u z n _ rfl;exact aj rfl|false=>refine .ov 0 (n:=0) (λf C h=>by cases h) ?_ ?_;rfl;exact aj rfl
def yQ{a A b B}(c:et (aW π) a A)(d:et (aW π) b B):(SR S (ai P fs) P) EqQ π (samePointer a b) (samePointer A B):=by cases c<;>cases d<;>first|exact aj rfl|exact xa (by assumption) (by assumption)
abbrev NmR{G}(π:Ren G):Addr×Bool->Addr×Bool->Prop:=λx y=>aW π x.1 y.1/\x.2=y.2
def xb{r d}(h:π r d):(SR S (ai P fs) P) (λc a b=>et (NmR c) a b) π (numberAt r) (numberAt d):=by unfold numberAt;refine(fM h).bind ?_;rintro c l a _ rfl;split;exact aj .none;refine(cZ (l _ _ h)).bind ?_;intro e g o O f;cases f<;>first|exact aj .none|exact aj (.some ⟨by assumption,rfl⟩)
def iw{a A}(h:aW π a A):(SR S (ai P fs) P) (λb x y=>NmR b x y) π (behindNumber a) (behindNumber A):=by unfold behindNumber;cases h with|mk h=>refine(xb h).bind ?_;intro b l x y c;cases c with|none=>exact aj ⟨.mk (l _ _ h),rfl⟩|some h=>exact aj h
def tJ(P fs):∀(n) (t u),(ai P fs).alikeButTags n t u=P.alikeButTags n t u:=by intro n;induction n with|zero=>exactλ_ _=>rfl|succ n a=>intro t u;have e:=funext λt=>funext λu=>a t u;unfold Program.alikeButTags;rw[e];rfl
def yR(P fs t):(ai P fs).stoodInAs t=P.stoodInAs t:=by unfold Program.stoodInAs;simp only[tJ];rfl
def fp(P fs t):(ai P fs).stoodInHeld t=P.stoodInHeld t:=by unfold Program.stoodInHeld;rw[yR];rfl
def jF{e σ:Type}(l:List e){f F:e->σ->Sem (ForInStep σ)}(s)(h:∀(c),Ren.le π c->∀a s,(SR S (ai P fs) P) EqQ c (f a s) (F a s)):(SR S (ai P fs) P) EqQ π (forIn l s f) (forIn l s F):=by refine(OM (T:=λc a b=>a=b/\Ren.le π c) (λ_ _ _ _ l h=>⟨h.1,Ren.le_trans h.2 l⟩) l _ _ ?_ π _ _ ⟨rfl,Ren.le_refl _⟩).mono λ_ _ _ _ h=>h.1;rintro c a s _ ⟨rfl,d⟩;refine(h c d a s).mono ?_;rintro i g x _ rfl;cases x with|done u=>exact .inr ⟨u,u,rfl,rfl,rfl,Ren.le_trans d g⟩|yield u=>exact .inl ⟨u,u,rfl,rfl,rfl,Ren.le_trans d g⟩
def Jl(d):∀{π:Ren P.globals.size} (t) {x X y Y},aD π x X->aD π y Y->(SR S (ai P fs) P) EqQ π (Op.equalIn d t x y) (Op.equalIn d t X Y):=by
 induction d with
 |zero=>intros;exact aG
 |succ d L=>
  intro π t x X y Y M N;unfold Op.equalIn;refine(aE t).bind ?_;rintro g l2 d' _ ⟨rfl,hd⟩;clear hd;have M:=M.mono l2;have N:=N.mono l2;generalize hX:X=X' at*;split;all_goals first|exact .never (dQ _)|exact .never (bR _)|skip
  all_goals cases M
  all_goals cases N
  all_goals try exact aj rfl
  all_goals try (exfalso;rename_i h;exact absurd rfl h)
  all_goals simp only[]
  all_goals try (split<;>first|exact aj rfl|exact aq)
  ·
   rename_i a b A I B J;refine(iw I).bind ?_;rintro p j ⟨a',x1⟩ ⟨A',X1⟩ ⟨c,_⟩;refine(iw (J.mono j)).bind ?_;rintro l o ⟨b',x2⟩ ⟨B',X2⟩ ⟨k,_⟩;refine cT.bind ?_;rintro q D _ _ ⟨rfl,rfl⟩;have c:=(c.mono o).mono D;have k:=k.mono D;simp only[]at c k⊢;have e1:=(c.eq k).1;have e2:=(c.eq k).2;have e3:decide (a'.block<(ai P fs).globals.size)=decide (A'.block<P.globals.size):=by
    cases c with
    |mk h=>exact Zi.2 (q.dU _ _ h)
   rw[e1,e3];split
   .refine(jE c).bind ?_
    rintro w E n _ rfl;refine(jE (k.mono E)).bind ?_;rintro F l7 m _ rfl;exact aj rfl
   .refine(dP t).bind ?_
    rintro w E i _ ⟨rfl,_⟩;rw[e2];split
    .split
     .exact aj rfl
     .exact aG
    .exact aG
  rename_i a b A I B J;refine(bP _).bind ?_;rintro p j n _ rfl;rw[(I.eq J).2];split;exact xa (I.mono j) (J.mono j);split;exact aj rfl;refine(fj _).bind ?_;rintro l o m _ rfl;exact aj rfl;exact yQ (.some (by assumption)) (.some (by assumption));rename_i r R hr r' R' H;refine aj ?_;have e:r=r'↔R=R':=⟨λe=>by subst e;exact g.fn _ _ _ hr H,λe=>by subst e;exact g.inj _ _ _ hr H⟩
  show(some r==some r')=(some R==some R');rw[XP];simp[e]
  .split;exact aj rfl;refine(dP _).bind ?_;rintro p j i _ ⟨rfl,_⟩;split
   .refine .never ?_
    repeat' (first|exact aH _|exact aF (aH _)|exact aF (bR _)|split|refine bN (by first|exact tB _|exact .choose _|exact .program|exact .pure _) λ_=>?_)
   exact L _ (by assumption|>λh=>aD.mono j h) (by assumption|>λh=>aD.mono j h)
  rename_i K xs O XS Q T YS W Z;have z:VsR g xs XS:=⟨Q,T⟩
  have C:VsR g O YS:=⟨W,Z⟩
  refine cT.bind ?_;rintro p j _ _ ⟨rfl,rfl⟩;rw[fp];split;exact .never (aF (bR _));rw[<-Yi,<-Yi];refine(jF _ _ λl o f s=>?_).bind ?_;split;refine(iv _ _ (VsR.mono o (VsR.mono j z))).bind ?_;intro q D u U hu;refine(iv _ _ (VsR.mono D (VsR.mono o (VsR.mono j C)))).bind ?_;intro w E v V hv;refine(L _ (hu.mono E) hv).bind ?_;rintro F l7 b _ rfl;split<;>exact aj rfl;exact aj rfl;rintro l o s _ rfl;split<;>exact aj rfl;rename_i elem xs O XS Q T YS W Z;have z:VsR g xs XS:=⟨Q,T⟩
  have C:VsR g O YS:=⟨W,Z⟩
  refine(bP _).bind ?_;rintro p j n _ rfl;simp only[Z9];refine(jF _ _ λl o f s=>?_).bind ?_;refine(iv _ _ (VsR.mono o (VsR.mono j z))).bind ?_;intro q D u U hu;refine(iv _ _ (VsR.mono D (VsR.mono o (VsR.mono j C)))).bind ?_;intro w E v V hv;refine(L _ (hu.mono E) hv).bind ?_;rintro F l7 b _ rfl;split<;>exact aj rfl;rintro l o s _ rfl;split<;>exact aj rfl
def yS(t){x X y Y}(a:aD π x X)(b:aD π y Y):(SR S (ai P fs) P) EqQ π (Op.equal t x y) (Op.equal t X Y):=Jl _ t a b
def DO(d):∀{π:Ren P.globals.size} (t) {x X y Y},aD π x X->aD π y Y->(SR S (ai P fs) P) EqQ π (Op.eqGuardIn d t x y) (Op.eqGuardIn d t X Y):=by
 induction d with
 |zero=>intros;exact aG
 |succ d F=>
  intro π t x X y Y j k;unfold Op.eqGuardIn;refine(aE t).bind ?_;rintro c H d' _ ⟨rfl,J⟩;clear J;have j:=j.mono H;have k:=k.mono H;cases d' with
  |interface M=>
   cases j<;>cases k<;>first
    |exact aj rfl
    |(rename_i a;cases Y<;>first|exact aj rfl|(simp[eO]at a;done))
    |(rename_i a;cases X<;>first|exact aj rfl|(simp[eO]at a;done))
    |(rename_i a b;cases X<;>first|exact aj rfl|(simp[eO]at a;done))
  |struct l=>(cases j<;>first|exact aj rfl|(rename_i a;cases X<;>first|exact aj rfl|(simp[eO]at a;done))|(cases k<;>first|exact aj rfl|(rename_i a;cases Y<;>first|exact aj rfl|(simp[eO]at a;done))|skip));(rename_i xs XS m o p YS q r;have e:VsR c xs XS:=⟨m,o⟩);(have g:VsR c p YS:=⟨q,r⟩);simp only[];rw[<-Yi,<-Yi];refine(jF _ _ λh i f s=>?_).bind ?_;split;refine(iv _ _ (VsR.mono i e)).bind ?_;intro w z u U A;refine(iv _ _ (VsR.mono z (VsR.mono i g))).bind ?_;intro B C v V D;refine(F _ (A.mono C) D).bind ?_;rintro E K b _ rfl;split<;>exact aj rfl;exact aj rfl;rintro h i s _ rfl;split<;>exact aj rfl
  |array len elem=>(cases j<;>first|exact aj rfl|(rename_i a;cases X<;>first|exact aj rfl|(simp[eO]at a;done))|(cases k<;>first|exact aj rfl|(rename_i a;cases Y<;>first|exact aj rfl|(simp[eO]at a;done))|skip));(rename_i xs XS m o p YS q r;have e:VsR c xs XS:=⟨m,o⟩);(have g:VsR c p YS:=⟨q,r⟩);simp only[Z9];refine(bP _).bind ?_;rintro L I n _ rfl;refine(jF _ _ λh i f s=>?_).bind ?_;refine(iv _ _ (VsR.mono i (VsR.mono I e))).bind ?_;intro w z u U A;refine(iv _ _ (VsR.mono z (VsR.mono i (VsR.mono I g)))).bind ?_;intro B C v V D;refine(F _ (A.mono C) D).bind ?_;rintro E K b _ rfl;split<;>exact aj rfl;rintro h i s _ rfl;split<;>exact aj rfl
  |_=>cases j<;>exact aj rfl
def nK(P fs):∀(n) (t),(ai P fs).eqGuardType n t=P.eqGuardType n t:=by intro n;induction n with|zero=>exactλ_=>rfl|succ n a=>intro t;have e:=funext λt=>a t;unfold Program.eqGuardType;rw[e];rfl
end
inductive Quiet{α:Type}(Q:α->Prop):Sem α->Prop
 |pure {a}:Q a->Quiet Q (.pure a)
 |choose (q) {k}:K4 q=false->(∀n,Quiet Q (k n))->Quiet Q (.choose q k)
 |halt (h):iA h->Quiet Q (.halt h)
def Quiet.pure'{b Q a}(h:Q a):Quiet Q (Pure.pure a:Sem b):=.pure h
def Quiet.bind{c d Q Q' s}{f:c->Sem d}(h:Quiet Q s)(b:∀a,Q a->Quiet Q' (f a)):Quiet Q' (s>>= f):=by show Quiet Q' (s.bind f);induction h with|pure h=>exact b _ h|choose q e _ g=>exact .choose q e g|halt h b=>exact .halt h b
def Quiet.bind'{b c Q' s}{f:b->Sem c}(h:Quiet (λ_=>True) s)(d:∀a,Quiet Q' (f a)):Quiet Q' (s>>= f):=h.bind λa _=>d a
def Quiet.ask{Q:Nat->Prop}(h:∀n,Q n)(q:Question)(a:K4 q=false:=by with_unfolding_all rfl):Quiet Q (Go.choose q):=.choose q a λn=>.pure (h n)
def Quiet.stuck{a}{Q:a->Prop}(s):Quiet Q (Go.stuck s):=.halt _ True.intro
def Quiet.unsupported{a}{Q:a->Prop}(s)(b:iA (.unsupported s)):Quiet Q (Go.unsupported s):=.halt _ b
def Quiet.ite{a Q c}[Decidable c]{s t:Sem a}(h:Quiet Q s)(b:Quiet Q t):Quiet Q (if c then s else t):=by split<;>assumption
def Gr(k b):Plain (.float k b):=λ_ _=>.float k b
def nk(k a b):Plain (.complex k a b):=λ_ _=>.complex k a b
def lI(k b):Plain (.int k b):=λ_ _=>.int k b
def oO{p:Prop}(h:p:=by repeat' (with_reducible first
 |exact Quiet.stuck _|exact Quiet.unsupported _ (by with_unfolding_all exact True.intro)|exact Quiet.pure' trivial|exact Quiet.pure' (Gr _ _)|exact Quiet.pure' (sM _)|exact Quiet.pure' (nk _ _ _)|exact Quiet.pure' (lI _ _)
 |exact Quiet.ask (λ_=>trivial) _|assumption|refine Quiet.ite ?_ ?_|refine Quiet.bind' ?_ λ_=>?_|dsimp only|split)):p:=h
def Quiet.true{a Q}{s:Sem a}(h:Quiet Q s):Quiet (λ_=>True) s:=by induction h with|pure h=>exact .pure trivial|choose q b _ c=>exact .choose q b c|halt h d=>exact .halt h d
def nO(a k x y):Quiet Plain (Op.floatArith a k x y):=by unfold Op.floatArith;exact oO
def pS(a k x y):Quiet Plain (Op.floatCmp a k x y):=by unfold Op.floatCmp;exact oO
def fE(a b c):Quiet Plain (Conv.floatToFloat a b c):=by unfold Conv.floatToFloat;exact oO
def vB(a b c):Quiet Plain (Conv.floatToInt a b c):=by unfold Conv.floatToInt;exact oO
def Eh(v):Quiet (λ_=>True) (asBool v):=by unfold asBool;exact oO
def pT(a k x y):Quiet (λ_=>True) (Op.Complex.arith a k x y):=by unfold Op.Complex.arith;refine Quiet.bind' (nO a k x y).true λ_=>?_;exact oO
def vC(a k x y):Quiet (λ_=>True) (Op.Complex.cmp a k x y):=by unfold Op.Complex.cmp;refine Quiet.bind' (pS a k x y).true λ_=>Eh _
def zg(k x d):Quiet (λ_=>True) (Op.Complex.conv k x d):=by unfold Op.Complex.conv;refine Quiet.ite (Quiet.pure' trivial) ?_;refine Quiet.bind' (fE _ _ _).true λ_=>?_;exact oO
def Lh{p:Prop}(h:p:=by repeat' (with_reducible first
 |exact Quiet.stuck _|exact Quiet.pure' trivial|exact Quiet.pure' (sM _)|exact Quiet.pure' (nk _ _ _)
 |exact pT _ _ _ _|exact vC _ _ _ _|exact zg _ _ _|refine Quiet.ite ?_ ?_|refine Quiet.bind' ?_ λ_=>?_|dsimp only|split)):p:=h
def A6(a b c d):Quiet (λ_=>True) (Op.Complex.product a b c d):=by unfold Op.Complex.product Op.Complex.sub Op.Complex.mul Op.Complex.add;exact Lh
def xU(s a b c d):Quiet (λ_=>True) (Op.Complex.corrected s a b c d):=by unfold Op.Complex.corrected Op.Complex.sub Op.Complex.mul Op.Complex.add;exact Lh
def zh(a b c d):Quiet (λ_=>True) (Op.Complex.quotient a b c d):=by unfold Op.Complex.quotient Op.Complex.sub Op.Complex.mul Op.Complex.add Op.Complex.quo;repeat' (with_reducible first|exact xU _ _ _ _ _|exact pT _ _ _ _|exact vC _ _ _ _|exact Quiet.pure' trivial|refine Quiet.ite ?_ ?_|refine Quiet.bind' ?_ λ_=>?_|dsimp only|split)
def xV(e k a b c d):Quiet Plain (Op.complexOp e k a b c d):=by unfold Op.complexOp;split<;>repeat' (with_reducible first|exact A6 _ _ _ _|exact zh _ _ _ _|exact Quiet.stuck _|exact pT _ _ _ _|exact vC _ _ _ _|exact zg _ _ _|exact Quiet.pure' trivial|exact Quiet.pure' (sM _)|exact Quiet.pure' (nk _ _ _)|refine Quiet.ite ?_ ?_|refine Quiet.bind' ?_ λ_=>?_|dsimp only|split)
def oP(s a b d):Quiet Plain (Conv.complexToComplex s a b d):=by unfold Conv.complexToComplex;refine Quiet.bind' (fE _ _ _).true λ_=>?_;split;refine Quiet.bind' (fE _ _ _).true λ_=>?_;exact oO;exact oO
section
variable {S:Kn} {P:Program} {fs:Array Func} {π:Ren P.globals.size}
def Quiet.sr{s}(h:Quiet Plain s):(SR S (ai P fs) P) VQ π s s:=by induction h with|pure h=>exact .pure (h _ _)|choose q a _ b=>exact .choose (λf c h=>absurd h (Om a f c)) b|halt h d=>exact .never (.halt h d)
def xW(P fs):∀(d) (t) (off),cellOfByte (ai P fs) d t off=cellOfByte P d t off:=by intro d;induction d with|zero=>exactλ_ _=>rfl|succ d a=>intro t off;unfold cellOfByte;simp only[a];rfl
def nP(P fs d e n off b):cellAtBytes (ai P fs) d e n off b=cellAtBytes P d e n off b:=by unfold cellAtBytes;simp only[xW,ir];rfl
def lu(a1 t){x X y Y}(j:aD π x X)(d:aD π y Y):(SR S (ai P fs) P) (λπ v V=>aD π v V/\∃a A,v=.pointer (some a)/\V=.pointer (some A)) π (Builtin.unsafeAdd_ a1 t #[x,y]) (Builtin.unsafeAdd_ a1 t #[X,Y]):=by (have go:∀(π:Ren P.globals.size) {p Q:Option Addr} (i:et (aW π) p Q) {y Y:x6},aD π y Y->(SR S (ai P fs) P) (λπ v V=>aD π v V/\∃a A,v=.pointer (some a)/\V=.pointer (some A)) π (Builtin.unsafeAdd_ a1 t #[.pointer p,y]) (Builtin.unsafeAdd_ a1 t #[.pointer Q,Y]):=by intro π p Q i y Y d;unfold Builtin.unsafeAdd_;refine(kj d).bind ?_;rintro k l n _ rfl;have c:=i.mono λ_ _ x=>aW.mono l x;simp only[];split;(cases c with|none=>exact aG| @some a A b=>simp only[];cases b with|mk b=>refine(qU b).bind ?_;intro e f u v g;simp only[mI g];split;exact aG;exact aj ⟨.ptr (.mk (f _ _ b)),_,_,rfl,rfl⟩);split;exact aG;cases c with|none=>exact aG| @some a A b=>simp only[];cases b with|mk b=>refine(fM b).bind ?_;rintro e f sh _ rfl;split;refine cT.bind ?_;rintro m o _ _ ⟨rfl,rfl⟩;simp only[nP];rw[show(ai P fs).depth=P.depth from rfl,show ∀t,(ai P fs).cellsOf t=P.cellsOf t fromλ_=>rfl];split;exact aj ⟨.ptr (.mk (o _ _ (f _ _ b))),_,_,rfl,rfl⟩;exact aG;exact aG);cases j with|LG=>exact go π .none d|ptr h=>exact go π (.some h) d|_=>exact aq
def xg{a A}(h:aW π a A)(b):(SR S (ai P fs) P) VQ π (asNumber a b) (asNumber A b):=by unfold asNumber;refine(iT (.number b h)).bind ?_;intro c l r R d;exact aj (.ptr (.mk d))
def pU(a1 t y):ey (Builtin.unsafeAdd_ a1 t #[.tuple #[],y]):=by unfold Builtin.unsafeAdd_;exact dQ _
def nn(t y):ey (Op.equal t (.tuple #[]) y):=by unfold Op.equal Op.maxDepth Op.equalIn;refine bN (dG t) λd=>?_;cases d<;>cases y<;>first|exact dQ _|(refine bR _ ?_;exact True.intro)|(rename_i a;cases a<;>first|exact dQ _|(refine bR _ ?_;exact True.intro))|(rename_i a _ _;cases a<;>exact dQ _)
def np(t x):ey (Op.equal t x (.tuple #[])):=by unfold Op.equal Op.maxDepth Op.equalIn;refine bN (dG t) λd=>?_;cases d<;>cases x<;>first|exact dQ _|(refine bR _ ?_;exact True.intro)|(rename_i a;cases a<;>first|exact dQ _|(refine bR _ ?_;exact True.intro))|(rename_i a _ _;cases a<;>exact dQ _)
def lZ(t){x X y Y}(c:aD π x X)(e:aD π y Y):(SR S (ai P fs) P) VQ π (movedNumber t x y) (movedNumber t X Y):=by
 unfold movedNumber;refine(aE t).bind ?_;rintro k g d _ ⟨rfl,_⟩;have c:=c.mono g;have e:=e.mono g;simp only[];split;exact .never (aF (.halt _));have f:=c
 cases c with
 |ptr h=>simp only[];refine(iw h).bind ?_;rintro l m ⟨a,b⟩ ⟨A,B⟩ ⟨i,j⟩;simp only[]at i j⊢;subst j;refine(lu _ _ (.ptr i) (e.mono m)).bind ?_;rintro n q v V ⟨o,r,s,e1,p⟩;subst e1 p;cases o with|ptr h=>exact xg h _
 |nE V a=>exact .never (show ey (Builtin.unsafeAdd_ #[] t #[.tuple #[],y])from pU _ _ _)
 |_=>exact(lu #[] t f e).mono λ_ _ _ _ h=>h.1
def xX(t){x X y Y}(d:aD π x X)(e:aD π y Y):(SR S (ai P fs) P) VQ π (movedPointer t x y) (movedPointer t X Y):=by
 unfold movedPointer;have b:=d;cases d with
 |ptr h=>cases h with|mk h=>simp only[];refine(xb h).bind ?_;intro g f u v c;rw[mI c];split;exact aG;exact(lu _ _ (.ptr (.mk (f _ _ h))) (e.mono f)).mono λ_ _ _ _ h=>h.1
 |nE V a=>exact .never (pU _ _ _)
 |_=>exact(lu _ _ b e).mono λ_ _ _ _ h=>h.1
def tU{a A b B}(c:aW π a A)(d:aW π b B):(SR S (ai P fs) P) EqQ π (Op.twoPlaces a b) (Op.twoPlaces A B):=by (unfold Op.twoPlaces;have e1:=(c.eq d).1;have f:(a.block>=P.globals.size)=(A.block>=P.globals.size):=by cases c with|mk h=>have:=π.dU _ _ h;simp only[ge_iff_le,eq_iff_iff];omega);refine cT.bind ?_;rintro g e _ _ ⟨rfl,rfl⟩;simp only[show(ai P fs).globals=P.globals from rfl,bne,e1,f];split;exact aG;refine(jE (c.mono e)).bind ?_;rintro i j n _ rfl;refine(jE ((d.mono e).mono j)).bind ?_;rintro k l m _ rfl;exact aj rfl
def JB(k){a A b B}(c:aW π a A)(d:aW π b B):(SR S (ai P fs) P) VQ π (Op.addrSub k a b) (Op.addrSub k A B):=by unfold Op.addrSub;refine(tU c d).bind ?_;rintro e f ⟨x,y⟩ _ rfl;exact aj (.int _ _)
def oQ(c){a A b B}(d:aW π a A)(e:aW π b B):(SR S (ai P fs) P) VQ π (Op.addrCmp c a b) (Op.addrCmp c A B):=by unfold Op.addrCmp;refine(tU d e).bind ?_;rintro f g ⟨x,y⟩ _ rfl;cases c<;>first|exact aj (.bool _)|exact aG
def sT(k){a A}(b:aW π a A)(n):(SR S (ai P fs) P) VQ π (Op.addrMod k a n) (Op.addrMod k A n):=by unfold Op.addrMod;cases b with|mk h=>refine(fM h).bind ?_;rintro c d sh _ rfl;split;refine(dP _).bind ?_;rintro e f i _ ⟨rfl,_⟩;simp only[];split;exact .never (aF (.halt _));refine(jE (.mk (f _ _ (d _ _ h)))).bind ?_;rintro g j m _ rfl;exact aj (.int _ _);exact aG
def Gs(t){x X y Y}(a:aD π x X)(c:aD π y Y):(SR S (ai P fs) P) VQ π (do pure (.bool (!(<-Op.equal t x y)))) (do pure (.bool (!(<-Op.equal t X Y)))):=by refine(yS t a c).bind ?_;rintro d e b _ rfl;exact aj (.bool _)
def JC(t){x X y Y}(a:aD π x X)(c:aD π y Y):(SR S (ai P fs) P) VQ π (do pure (.bool (<-Op.equal t x y))) (do pure (.bool (<-Op.equal t X Y))):=by refine(yS t a c).bind ?_;rintro d e b _ rfl;exact aj (.bool _)
def dK{d e Q a A}(h:aW π a A){f:Addr->Sem d}{F:Addr->Sem e}(g:∀c,Ren.le π c->∀b B,aW c b B->(SR S (ai P fs) P) Q c (f b) (F B)):(SR S (ai P fs) P) Q π (do f (<-behindNumber a).1) (do F (<-behindNumber A).1):=by refine(iw h).bind ?_;rintro i j ⟨a,b⟩ ⟨A,B⟩ ⟨k,l⟩;exact g _ j _ _ k
def zi(t:TypeId){x X y Y:x6}(b:aD π x X)(c:aD π y Y):(SR S (ai P fs) P) VQ π (do if(<-underlying t) matches .unsafePointer then movedPointer t x y else movedNumber t x y) (do if(<-underlying t) matches .unsafePointer then movedPointer t X Y else movedNumber t X Y):=by refine(aE t).bind ?_;rintro d l a _ ⟨rfl,_⟩;split;exact xX t (b.mono l) (c.mono l);exact lZ t (b.mono l) (c.mono l)
def Calm.ite{c}[Decidable c]{s t}(h:Calm s)(a:Calm t):Calm (if c then s else t):=by split<;>assumption
def dB{b d Q c}[Decidable c]{s t:Sem b}{s' a:Sem d}(h:(SR S (ai P fs) P) Q π s s')(e:(SR S (ai P fs) P) Q π t a):(SR S (ai P fs) P) Q π (if c then s else t) (if c then s' else a):=by split<;>assumption
def Pa(o t){x X y Y}(a:aD π x X)(d:aD π y Y):(SR S (ai P fs) P) VQ π (binOp o t x y) (binOp o t X Y):=by
 have i:=a;have j:=d;unfold binOp;split;cases a;cases d;exact(yO _ _ _ _ _).sr;cases a;cases d;exact(yO _ _ _ _ _).sr;cases a;cases d;rename_i u v;cases o<;>first
  |exact(u rfl).elim
  |exact(v rfl).elim
  |exact dB aq (rK _ _ _ _).sr
  |exact dB aq (FX _ _ _ _).sr
  |exact dB aq (tG _ _ _ _).sr
  |exact dB aq (FW _ _ _).sr
 cases a;cases d;cases o<;>first
  |exact dB aq (nO _ _ _ _).sr
  |exact dB aq (pS _ _ _ _).sr
 cases a;cases d;cases o<;>exact dB aq (xV _ _ _ _ _ _).sr;cases a;cases d;cases o<;>exact(rL _ _ _).sr;rename_i p q r s;cases a<;>cases d<;>first|exact JC t i j|exact .never (aF (nn _ _))|exact .never (aF (np _ _))|exact(p _ _ _ _ rfl rfl).elim|exact(q _ _ _ _ rfl rfl).elim|exact(r _ _ _ _ _ _ rfl rfl).elim|exact(s _ _ rfl rfl).elim
 rename_i p q r s;cases a<;>cases d<;>first|exact Gs t i j|exact .never (aF (nn _ _))|exact .never (aF (np _ _))|exact(p _ _ _ _ rfl rfl).elim|exact(q _ _ _ _ rfl rfl).elim|exact(r _ _ _ _ _ _ rfl rfl).elim|exact(s _ _ rfl rfl).elim
 cases d;cases a<;>exact zi t i j;cases a;cases d<;>exact lZ t j i;cases d;cases a<;>exact lZ t i (.int _ _);cases a with|ptr e=>cases d with|ptr k=>exact dK e λf h b B g=>dK (k.mono h) λl m c C n=>JB _ (g.mono m) n
 cases a with|ptr e=>cases d with|ptr k=>exact dK e λf h b B g=>dK (k.mono h) λl m c C n=>oQ _ (g.mono m) n
 cases a with|ptr e=>cases d with|ptr k=>exact dK e λf h b B g=>dK (k.mono h) λl m c C n=>oQ _ (g.mono m) n
 cases a with|ptr e=>cases d with|ptr k=>exact dK e λf h b B g=>dK (k.mono h) λl m c C n=>oQ _ (g.mono m) n
 cases a with|ptr e=>cases d with|ptr k=>exact dK e λf h b B g=>dK (k.mono h) λl m c C n=>oQ _ (g.mono m) n
 cases a with|ptr e=>cases d with|int=>exact dK e λf h b B g=>sT _ g _
 cases a with|ptr e=>cases d with|int=>exact dK e λf h b B g=>sT _ g _
 cases d with|ptr e=>cases a with|int=>exact dK e λf h b B g=>sT _ g _
 exact aG;exact aG;exact aq
def zk(h:BinOp)(t c)(d:iA (.unsupported c)){a A b B}(e:aD π a A)(f:aD π b B):(SR S (ai P fs) P) EqQ π (do if <-Op.eqGuardIn Op.maxDepth t a b then unsupported c) (do if <-Op.eqGuardIn Op.maxDepth t A B then unsupported c):=by refine(DO _ t e f).bind ?_;rintro g i x _ rfl;split;exact aG d;exact aj rfl
def JD(e t x y){a A b B}(f:aD π a A)(g:aD π b B):(SR S (ai P fs) P) EqQ π (eqGuard e t x y a b) (eqGuard e t x y A B):=by
 have c:=f;have d:=g;unfold eqGuard;refine dB (aj rfl) ?_;split;cases f;cases g;exact dB (aj rfl) (zk e t _ (by exact True.intro) c d);cases f;cases g;simp only[];refine cT.bind ?_;rintro j h _ _ ⟨rfl,rfl⟩;refine cT.bind ?_;rintro k i _ _ ⟨rfl,rfl⟩;rw[nK,show(ai P fs).depth=P.depth from rfl];split;exact aj rfl;exact zk e t _ (by exact True.intro) ((c.mono h).mono i) ((d.mono h).mono i);rename_i l m
 cases f with
 |nE _ a=>cases A<;>first|(simp[eO]at a;done)|exact aj rfl
 |_=>
  cases g with
  |nE _ a=>cases B<;>first|(simp[eO]at a;done)|exact aj rfl
  |_=>first|exact aj rfl|exact(l rfl rfl).elim|exact(m _ _ rfl rfl).elim
end
section
variable {S:Kn} {P:Program} {fs:Array Func} {π:Ren P.globals.size}
def gn{G}{ρ:Ren G}{c}(h:bu c):VsR ρ c c:=h.refl ρ
def rS(b:Array UInt8):bu (b.map λb=>Value.int .u8 b.toNat):=λi v h=>by rw[Xd]at h;cases a:b[i]? with|none=>rw[a]at h;cases h|some x=>rw[a]at h;cases h;exact lI _ _
def jk(n){v}(h:Plain v):bu (Array.replicate n v):=λi x a=>by rw[Z6]at a;split at a<;>cases a;exact h
def bu.append{a b}(h:bu a)(d:bu b):bu (a++b):=λi x c=>by rw[YP]at c;split at c;exact h _ _ c;exact d _ _ c
def bu.push{a}(h:bu a){v}(c:Plain v):bu (a.push v):=λi x b=>by rw[Xx]at b;split at b;cases b;exact c;exact h _ _ b
def Ck{a A}(h:aW π a A)(n):(SR S (ai P fs) P) EqQ π (freeze a n) (freeze A n):=.freeze h (.pure rfl)
def nQ{a A}(h:aW π a A):(SR S (ai P fs) P) EqQ π (markStringish a) (markStringish A):=by unfold markStringish;cases h with|mk h=>refine(fM h).bind ?_;rintro b c sh _ rfl;split;exact Ck (.mk (c _ _ h)) 1;exact aj rfl
def vG(e s):(SR S (ai P fs) P) VQ π (Conv.stringToBytes e s) (Conv.stringToBytes e s):=by unfold Conv.stringToBytes;refine(fj _).bind ?_;rintro c h n _ rfl;refine(jD e (gn ((rS _).append (jk _ (lI _ _))))).bind ?_;intro d i a A b;refine(nQ b).bind ?_;intro f g _ _ _;exact aj (.slice _ _ (b.mono g))
def A7(s):∀(b i) (acc),bu acc->bu (Conv.runesFrom s b i acc):=by intro b;induction b with|zero=>intro i acc h;exact h|succ b a=>intro i acc h;unfold Conv.runesFrom;split;exact a _ _ (h.push (lI _ _));exact h
def vH(e s):(SR S (ai P fs) P) VQ π (Conv.stringToRunes e s) (Conv.stringToRunes e s):=by unfold Conv.stringToRunes;refine(fj _).bind ?_;rintro b f n _ rfl;refine(jD e (gn ((A7 _ _ _ _ .empty).append (jk _ (lI _ _))))).bind ?_;intro c g a A d;exact aj (.slice _ _ d)
def Cl{σ l L f F}(h:∀(a),Ren.le π a->∀v V s,aD a v V->(SR S (ai P fs) P) EqQ a (f v s) (F V s))(e:bw (aD π) l L):∀{a} (_:Ren.le π a) (s:σ),(SR S (ai P fs) P) EqQ a (forIn l s f) (forIn L s F):=by induction e with|nil=>intro a b s;simp only[List.forIn_nil];exact aj rfl|cons g _ i=>intro a b s;simp only[Z8];refine(h a b _ _ s (g.mono b)).bind ?_;rintro d c x _ rfl;cases x with|done=>exact aj rfl|yield s=>exact i (Ren.le_trans b c) s
def vI{x X}(h:aD π x X):(SR S (ai P fs) P) VQ π (Conv.bytesToString x) (Conv.bytesToString X):=by
 unfold Conv.bytesToString;cases h with
 |jv=>exact aj (.string _)
 |slice n c h=>
  simp only[];refine(lj h n).bind ?_;intro a g i j e;simp only[<-Yi];refine(Cl (π:=a) ?_ e.toList (Ren.le_refl _) _).bind ?_;intro b f v V s d
  cases d with
  |int k n=>cases k<;>first|exact aj rfl|exact .never (aF (.halt _))|exact aq
  |_=>exact aq
  rintro b f s _ rfl;exact aj (.string _)
 |sC A=>exact aj (.string _)
 |_=>exact aq
def vJ{x X}(h:aD π x X):(SR S (ai P fs) P) VQ π (Conv.runesToString x) (Conv.runesToString X):=by
 unfold Conv.runesToString;cases h with
 |jv=>exact aj (.string _)
 |slice n c h=>
  simp only[];refine(lj h n).bind ?_;intro a g i j e;simp only[<-Yi];refine(Cl (π:=a) ?_ e.toList (Ren.le_refl _) _).bind ?_;intro b f v V s d
  cases d with
  |int k n=>cases k<;>first|exact aj rfl|exact .never (aF (.halt _))|exact aq
  |_=>exact aq
  rintro b f s _ rfl;exact aj (.string _)
 |sC A=>exact aj (.string _)
 |_=>exact aq
def Cm{a A}(h:aW π a A):(SR S (ai P fs) P) AQ π (Conv.seenAt a) (Conv.seenAt A):=by (unfold Conv.seenAt;have i:=h;have e1:a.spot=A.spot/\a.off=A.off:=by cases h;exact⟨rfl,rfl⟩);simp only[e1.1,e1.2];cases h with|mk h=>refine(qU h).bind ?_;intro j k x y c;cases c with|none=>exact aj (i.mono k)| @some u v d=>obtain⟨s,t⟩:=u;obtain⟨s',o⟩:=v;obtain⟨b,e⟩:=d;simp only[]at b e⊢;subst e;split;exact aj b;(have f:s.spot=s'.spot/\s.off=s'.off:=by cases b;exact⟨rfl,rfl⟩);simp only[f.1,f.2];split;exact .never (aF (.halt _));refine cT.bind ?_;rintro l g _ _ ⟨rfl,rfl⟩;simp only[ir,nP,show(ai P fs).depth=P.depth from rfl,show ∀t,(ai P fs).cellsOf t=P.cellsOf t fromλ_=>rfl];split;(cases b with|mk b=>refine(fM (g _ _ b)).bind ?_;rintro m n sh _ rfl;split;split;exact .never (aF (.halt _));split;exact aj (.mk (n _ _ (g _ _ b)));exact aG;exact aG);exact aG
def JE{r R}(h:π r R):(SR S (ai P fs) P) EqQ π (cellsIn r) (cellsIn R):=by unfold cellsIn;refine(fM h).bind ?_;rintro a b sh _ rfl;split;exact aj rfl;refine(cZ (b _ _ h)).bind ?_;intro c e o O d;cases d<;>exact aj rfl
def xY(P fs):∀(n) (t u),sameLayout (ai P fs) n t u=sameLayout P n t u:=by intro n;induction n with|zero=>exactλ_ _=>rfl|succ n a=>intro t u;unfold sameLayout;simp only[a,fp];rfl
def JF(P fs g):∀(d) (e) (c o n),rowAt (ai P fs) g d e c o n=rowAt P g d e c o n:=by intro d;induction d with|zero=>exactλ_ _ _ _=>rfl|succ d a=>intro e c o n;unfold rowAt;simp only[a,fp];rfl
def Gt(P fs):∀(d) (e) (c o) (u) (n),liesAt (ai P fs) d e c o u n=liesAt P d e c o u n:=by intro d;induction d with|zero=>exactλ_ _ _ _ _=>rfl|succ d a=>intro e c o u n;unfold liesAt;simp only[a,JF,xY];rfl
def pV{a A}(h:aW π a A)(u n):(SR S (ai P fs) P) EqQ π (variablesAt a u n) (variablesAt A u n):=by unfold variablesAt;cases h with|mk h=>refine cT.bind ?_;rintro b c _ _ ⟨rfl,rfl⟩;refine(fM (c _ _ h)).bind ?_;rintro d e sh _ rfl;simp only[Gt,show(ai P fs).depth=P.depth from rfl,show ∀t,(ai P fs).cellsOf t=P.cellsOf t fromλ_=>rfl];split<;>exact aj rfl
def tW(P fs):∀(d) (t),(ai P fs).holdsStoodIn d t=P.holdsStoodIn d t:=by intro d;induction d with|zero=>exactλ_=>rfl|succ d a=>intro t;unfold Program.holdsStoodIn;simp only[a,fp];rfl
def zl{a A}(h:aW π a A)(u):(SR S (ai P fs) P) VQ π (do pure (.pointer (some ⟨<-newObj (.view a u),0,none⟩))) (do pure (.pointer (some ⟨<-newObj (.view A u),0,none⟩))):=by refine(iT (.view u h)).bind ?_;intro b d r R c;exact aj (.ptr (.mk c))
def gV(f g){x X}(e:aD π x X):(SR S (ai P fs) P) VQ π (Conv.unsafePointer f g x) (Conv.unsafePointer f g X):=by unfold Conv.unsafePointer;refine(aE f).bind ?_;rintro v w s _ ⟨rfl,_⟩;refine(aE g).bind ?_;rintro y z d _ ⟨rfl,_⟩;have e:=(e.mono w).mono z;have h:=e;split;cases e;exact aj h;(cases e with|ptr l=>refine(Cm l).bind ?_;intro o A b B a;have m:=a;cases a with|mk a=>refine(JE a).bind ?_;rintro p i c _ rfl;refine(bP _).bind ?_;rintro r k n _ rfl;have j:=λu=>zl (S:=S) (fs:=fs) ((m.mono i).mono k) u;split<;>exact dB (j _) (aj (.ptr ((m.mono i).mono k))));cases e;exact aj h;(cases e with|ptr l=>refine(Cm l).bind ?_;intro o A b B a;refine(bP _).bind ?_;rintro p i n _ rfl;simp only[];refine(pV (a.mono i) _ 1).bind ?_;rintro r k q _ rfl;refine dB (aj (.ptr ((a.mono i).mono k))) ?_;have t:=(a.mono i).mono k;cases a with|mk a=>refine(fM (k _ _ (i _ _ a))).bind ?_;rintro C D sh _ rfl;split;refine cT.bind ?_;rintro E F _ _ ⟨rfl,rfl⟩;refine cT.bind ?_;rintro G H _ _ ⟨rfl,rfl⟩;rw[tW,show(ai P fs).depth=P.depth from rfl];split;exact .never (aF (.halt _));exact zl (((t.mono D).mono F).mono H) _;exact .never (aF (.halt _)));cases e<;>exact aj h;cases e;exact aj (.int _ _);(cases e with|ptr l=>exact xg l _);exact aG;exact aG;exact aG;exact aq
def A8(c f e:TypeId){x X:x6}(a:aD π x X):(SR S (ai P fs) P) VQ π (do match <-underlying e with
 | .int .u8=>Conv.bytesToString x
 | .int .i32=>Conv.runesToString x
 |_=>stuck "Convert: a slice of what to string?") (do match <-underlying e with
 | .int .u8=>Conv.bytesToString X
 | .int .i32=>Conv.runesToString X
 |_=>stuck "Convert: a slice of what to string?"):=by
 refine(aE e).bind ?_;rintro g b d _ ⟨rfl,_⟩;split
 .exact vI (a.mono b)
 .exact vJ (a.mono b)
 .exact aq
def A9(e:TypeId){s:UV}:(SR S (ai P fs) P) VQ π (do match <-underlying e with
 | .int .u8=>Conv.stringToBytes e s
 | .int .i32=>Conv.stringToRunes e s
 |_=>stuck "Convert: string to a slice of what?") (do match <-underlying e with
 | .int .u8=>Conv.stringToBytes e s
 | .int .i32=>Conv.stringToRunes e s
 |_=>stuck "Convert: string to a slice of what?"):=by
 refine(aE e).bind ?_;rintro a b d _ ⟨rfl,_⟩;split
 .exact vG _ _
 .exact vH _ _
 .exact aq
def rT(b c e:TypeId){a A:Addr}{x X:x6}(f:aW π a A)(g:aD π x X):(SR S (ai P fs) P) VQ π (do match b==c,<-underlying e with
 |true,.int .u8=>do markStringish a;pure x
 |_,_=>unsupported (.noEntry "convert/other")) (do match b==c,<-underlying e with
 |true,.int .u8=>do markStringish A;pure X
 |_,_=>unsupported (.noEntry "convert/other")):=by
 refine(aE _).bind ?_;rintro h d e _ ⟨rfl,_⟩;split
 .refine(nQ (f.mono d)).bind ?_
  intro i j _ _ _;exact aj ((g.mono d).mono j)
 .exact aG
def tY(s d):ey (Conv.unsafePointer s d (.tuple #[])):=by unfold Conv.unsafePointer;refine bN (dG s) λa=>?_;refine bN (dG d) λb=>?_;cases a<;>cases b<;>exact dQ _
def sU(c f):ey (convert c f (.tuple #[])):=by
 unfold convert;refine bN (dG c) λa=>?_;refine bN (dG f) λb=>?_;have key:∀e,ey (do match <-underlying e with
  | .int .u8=>Conv.bytesToString (.tuple #[])
  | .int .i32=>Conv.runesToString (.tuple #[])
  |_=>stuck "Convert: a slice of what to string?"):=λe=>by
  refine bN (dG e) λd=>?_;split<;>exact dQ _
 cases a<;>cases b<;>first|exact key _|exact tY _ _|(refine bR _ ?_;exact True.intro)
def JG(a b)(h:(a==b)=false){x X}(g:aD π x X):(SR S (ai P fs) P) VQ π (convert a b x) (convert a b X):=by
 by_cases l:x=.tuple #[];rw[l];exact .never (sU _ _)
 unfold convert;refine(aE a).bind ?_;rintro v w _ s ⟨rfl,y⟩;clear y;refine(aE b).bind ?_;rintro z A _ d ⟨rfl,B⟩;clear B;have g:=(g.mono w).mono A;have c:=g;cases g<;>(try exact absurd rfl l)<;>split<;>first
  |contradiction
  |exact aG
  |exact aj (.int _ _)
  |exact aj (.float _ _)
  |exact(vB _ _ _).sr
  |exact(fE _ _ _).sr
  |exact(oP _ _ _ _).sr
  |exact aj (.string _)
  |exact A9 _
  |exact gV _ _ c
  |exact A8 a b _ c
  |exact rT a b _ (by assumption) c
  |(rename_i d1 d2 d3 m n o p q r t u i;cases d1<;>exact gV _ _ c)
  |(rename_i d1 d2 d3 m n o p q r t u i j f k;cases d1<;>first|contradiction|exact gV _ _ c|exact(k rfl).elim|exact(f rfl).elim|exact(j rfl).elim)
  |(rename_i d1 d2 d3 m n o p q r t u i j f;cases d1<;>first|contradiction|exact gV _ _ c|exact(f rfl).elim|exact(j rfl).elim|exact(i rfl).elim)
  |(injections;subst_vars;exact rT a b _ (by assumption) c)
  |(injections;done)
  |(rw[h];refine(aE _).bind ?_;rintro C D e _ ⟨rfl,_⟩;exact aG)
end
end Go.Tm

import Derived.Laws.Sem
import Derived.Test.YtaglpcmhopjebaaGreatDoorY2
set_option linter.all false
set_option maxRecDepth 100000
set_option maxHeartbeats 20000000
namespace Go.Tm
def Plain(v:Value):Prop:=∀(G:Nat) (π:Ren G),az π v v
def du(P:Program):Prop:=∀t i z,P.info? t=some i->i.zero=some z->Plain z
abbrev VQ{G}:Ren G->Value->Value->Prop:=λπ v V=>az π v V
abbrev EqQ{G}{c:Type}:Ren G->c->c->Prop:=λ_ a b=>a=b
abbrev AQ{G}:Ren G->Addr->Addr->Prop:=λπ a A=>aP π a A
abbrev VsQ{G}:Ren G->Array Value->Array Value->Prop:=λπ a A=>VsR π a A
section
variable {S:Kn} {P:Program} {fs:Array Func} {π:Ren P.globals.size}
def aq{a b Q h}{s:Sem b}:(SR S (ah P fs) P) Q π (stuck h:Sem a) s:=.never (.halt _)
def aE{a b:Type}{Q:Ren P.globals.size->a->b->Prop}{h:Unsupported}{s:Sem b}(c:gl (.unsupported h):=by exact True.intro):(SR S (ah P fs) P) Q π (unsupported h:Sem a) s:=.never (.halt _ c)
def ai{c d Q}{a:c}{b:d}(h:Q π a b):(SR S (ah P fs) P) Q π (pure a) (pure b):=.pure h
def xF(t):cP (typeInfo t):=by unfold typeInfo;(repeat' (first|with_reducible exact cP.unsupported _ (by with_unfolding_all exact True.intro)|with_reducible first|exact cP.stuck _|exact cP.pure _|exact cP.program|exact cP.choose _|exact cP.shape _|exact cP.frozen _|exact cP.mark _|exact cP.newObj _|exact cP.sys _|assumption|refine cP.ite ?_ ?_|refine cP.bind ?_ λ_=>?_|dsimp only|split))
def da(t):cP (underlying t):=by unfold underlying;(repeat' (first|with_reducible exact cP.unsupported _ (by with_unfolding_all exact True.intro)|with_reducible first|exact cP.stuck _|exact cP.pure _|exact cP.program|exact cP.choose _|exact cP.shape _|exact cP.frozen _|exact cP.mark _|exact cP.newObj _|exact cP.sys _|assumption|refine cP.ite ?_ ?_|refine cP.bind ?_ λ_=>?_|dsimp only|split))
def BM(t):cP (elemOf t):=by
 unfold elemOf;refine cP.bind (da t) λ_=>?_
 (repeat' (first|with_reducible exact cP.unsupported _ (by with_unfolding_all exact True.intro)|with_reducible first|exact cP.stuck _|exact cP.pure _|exact cP.program|exact cP.choose _|exact cP.shape _|exact cP.frozen _|exact cP.mark _|exact cP.newObj _|exact cP.sys _|assumption|refine cP.ite ?_ ?_|refine cP.bind ?_ λ_=>?_|dsimp only|split))
def BN(t v):cP (newVar t v):=by unfold newVar newRow;(repeat' (first|with_reducible exact cP.unsupported _ (by with_unfolding_all exact True.intro)|with_reducible first|exact cP.stuck _|exact cP.pure _|exact cP.program|exact cP.choose _|exact cP.shape _|exact cP.frozen _|exact cP.mark _|exact cP.newObj _|exact cP.sys _|assumption|refine cP.ite ?_ ?_|refine cP.bind ?_ λ_=>?_|dsimp only|split))
def qC(t):cP (typeStr t):=by
 unfold typeStr;refine cP.bind (xF t) λ_=>?_
 (repeat' (first|with_reducible exact cP.unsupported _ (by with_unfolding_all exact True.intro)|with_reducible first|exact cP.stuck _|exact cP.pure _|exact cP.program|exact cP.choose _|exact cP.shape _|exact cP.frozen _|exact cP.mark _|exact cP.newObj _|exact cP.sys _|assumption|refine cP.ite ?_ ?_|refine cP.bind ?_ λ_=>?_|dsimp only|split))
def o9{a}(v):dJ (goPanic v:Sem a):=.halt _
def aG{a}(e):dJ (runtimePanic e:Sem a):=by
 unfold runtimePanic;refine ew _ _ (.inr ⟨.program,λp=>?_⟩);cases e<;>simp only[]<;>first
  |exact o9 _
  |exact ew _ _ (.inr ⟨BM _,λ_=>ew _ _ (.inr ⟨BN _ _,λ_=>o9 _⟩)⟩)
def qE{a}(k x y c):dJ (boundsPanic k x y c:Sem a):=by
 unfold boundsPanic;simp only[];split<;>refine ew _ _ (.inr ⟨?_,λ_=>aG _⟩)
 ·exact cP.bind (.choose _) λ_=>.pure _
 ·exact .pure _
def db{a b Q e}{s:Sem b}:(SR S (ah P fs) P) Q π (runtimePanic e:Sem a) s:=.never (aG e)
def eZ{a b Q k x y c}{s:Sem b}:(SR S (ah P fs) P) Q π (boundsPanic k x y c:Sem a) s:=.never (qE k x y c)
def b9:(SR S (ah P fs) P) (λ_ a b=>ah P fs=a/\P=b) π program program:=.program (.pure ⟨rfl,rfl⟩)
def en(q:Question)(a:Gn q=false:=by with_unfolding_all rfl):(SR S (ah P fs) P) EqQ π (choose q) (choose q):=.choose (λf b h=>absurd h (JB a f b)) λ_=>.pure rfl
def pP(n):(SR S (ah P fs) P) (λ_ _ _=>True) π (askRoom n) (askRoom n):=by
 unfold askRoom;split
 ·exact .noRoom (.pure trivial)
 ·exact .pure trivial
def dj(t):(SR S (ah P fs) P) (λ_ a b=>a=b/\P.info? t=some b) π (typeInfo t) (typeInfo t):=by
 unfold typeInfo;refine b9.bind ?_;rintro c l _ _ ⟨rfl,rfl⟩;rw[G6];cases h:P.info? t with
 |none=>exact aq
 |some i=>exact ai ⟨rfl,rfl⟩
def aD(t):(SR S (ah P fs) P) (λ_ a b=>a=b/\P.underlying t=some b) π (underlying t) (underlying t):=by
 unfold underlying;refine b9.bind ?_;rintro c l _ _ ⟨rfl,rfl⟩;rw[m6];cases h:P.underlying t with
 |none=>exact aq
 |some i=>exact ai ⟨rfl,rfl⟩
def bG(t):(SR S (ah P fs) P) EqQ π (sizeOf t) (sizeOf t):=by unfold sizeOf;refine(dj t).bind ?_;rintro a l _ _ ⟨rfl,_⟩;exact ai rfl
def BO(t):(SR S (ah P fs) P) EqQ π (isAgg t) (isAgg t):=by unfold isAgg;refine(aD t).bind ?_;rintro b l a _ ⟨rfl,_⟩;split<;>exact ai rfl
def yB(t):(SR S (ah P fs) P) EqQ π (elemOf t) (elemOf t):=by
 unfold elemOf;refine(aD t).bind ?_;rintro b l a _ ⟨rfl,_⟩;split
 ·exact ai rfl
 ·exact aq
def dW(c:du P)(t):(SR S (ah P fs) P) (λ_ a b=>a=b/\Plain a) π (zeroValue t) (zeroValue t):=by
 unfold zeroValue;refine(dj t).bind ?_;rintro d l i _ ⟨rfl,h⟩;cases e:i.zero with
 |none=>exact aE
 |some z=>exact ai ⟨rfl,c t i z h e⟩
def qG{a A}(h:aP π a A):(SR S (ah P fs) P) VQ π (load a) (load A):=.load h λ_ _ b=>.pure b
def JP{a A v V}(h:aP π a A)(b:az π v V):(SR S (ah P fs) P) EqQ π (store a v) (store A V):=.store h b (.pure rfl)
def gL{o O}(h:fA S π o O):(SR S (ah P fs) P) (λa r R=>a r R) π (newObj o) (newObj O):=.new h λ_ _ _ _ x=>.pure x
def cE{r b}(h:π r b):(SR S (ah P fs) P) (λa o O=>fA S a o O) π (getObj r) (getObj b):=.getObj h λ_ _ c=>.pure c
def eo{r a o O}(h:π r a)(b:∀c e f,o≠ .cells c e f)(d:fA S π o O):(SR S (ah P fs) P) EqQ π (setObj r o) (setObj a O):=.setObj h b d (.pure rfl)
def aP.add{G}{ρ:Ren G}{a A}(h:aP ρ a A)(n):aP ρ (a.add n) (A.add n):=by
 cases h with
 |mk h=>
  unfold Addr.add;split
  ·exact .mk h
  ·exact .mk h
def sC(n):∀{π:Ren P.globals.size} {a A} {acc b} (i),aP π a A->VsR π acc b->(SR S (ah P fs) P) VsQ π (loadCellsFrom a i n acc) (loadCellsFrom A i n b):=by
 induction n with
 |zero=>exactλi h c=>ai c
 |succ n e=>intro π a A acc b i h c;unfold loadCellsFrom;refine(qG (h.add i)).bind ?_;intro f l v V d;exact e (i+1) (h.mono l) ((VsR.mono l c).push d)
def jK{a A}(h:aP π a A)(n):(SR S (ah P fs) P) VsQ π (loadCells a n) (loadCells A n):=sC n 0 h aU.empty
def lp{c}:∀{π:Ren P.globals.size} {d} {a A} (i),aP π a A->bg (az π) c d->(SR S (ah P fs) P) EqQ π (storeCells a c i) (storeCells A d i):=by
 induction c with
 |nil=>intro π d a A i h b;cases b;exact ai rfl
 |cons v c f=>
  intro π d a A i h b;cases b with
  |cons b e=>unfold storeCells;refine(JP (h.add i) b).bind ?_;intro g l _ _ _;exact f (i+1) (h.mono l) (e.mono λ_ _ x=>x.mono l)
def az.cells{G}{ρ:Ren G}{v V}(h:az ρ v V):VsR ρ v.cells V.cells:=by
 cases h with
 |agg s h=>exact⟨s,h⟩
 |lL V a=>
  have e:V.cells=#[V]:=by cases V<;>first|rfl|cases a
  rw[e];exact aU.push aU.empty (.lL V a)
 |_=>exact⟨rfl,λi x y b c=>by
  simp only[Value.cells]at b c;obtain _|i:=i
  ·simp at b c;subst b c;first|exact .G4 _ _ _|(constructor<;>assumption)
  ·simp at b⟩
def ve{a A}(t)(h:aP π a A):(SR S (ah P fs) P) VQ π (loadVar t a) (loadVar t A):=by
 unfold loadVar;refine(BO t).bind ?_;rintro d l b _ rfl;split
 ·refine(bG t).bind ?_
  rintro c e n _ rfl;refine(jK ((h.mono l).mono e) n).bind ?_;intro f i j k g;exact ai (az.Ej g)
 ·exact qG (h.mono l)
def BP{a A v V}(t)(h:aP π a A)(b:az π v V):(SR S (ah P fs) P) EqQ π (storeVar t a v) (storeVar t A V):=by
 unfold storeVar;refine(bG t).bind ?_;rintro c l n _ rfl;rw[b.cells.1];split
 ·exact aq
 ·exact lp 0 (h.mono l) (b.mono l).cells.toList
def iD{c C}(e)(h:VsR π c C):(SR S (ah P fs) P) AQ π (newRow e c) (newRow e C):=by unfold newRow;refine(gL (.cells e h (.inl rfl))).bind ?_;intro a l r d b;exact ai (.mk b)
def yC{v V}(t)(h:az π v V):(SR S (ah P fs) P) AQ π (newVar t v) (newVar t V):=iD t h.cells
def mA{v V}(h:az π v V):(SR S (ah P fs) P) EqQ π (asIntOf v) (asIntOf V):=by cases h<;>first|exact ai rfl|exact aq|exact aE
def jd{v V}(h:az π v V):(SR S (ah P fs) P) EqQ π (asInt v) (asInt V):=by unfold asInt;refine(mA h).bind ?_;rintro a l _ _ rfl;exact ai rfl
def yD{v V}(h:az π v V):(SR S (ah P fs) P) EqQ π (asBool v) (asBool V):=by cases h<;>first|exact ai rfl|exact aq
def JQ{v V}(h:az π v V):(SR S (ah P fs) P) VsQ π (asAgg v) (asAgg V):=by
 cases h with
 |agg s h=>exact ai ⟨s,h⟩
 |_=>exact aq
def yE{v V}(h:az π v V):(SR S (ah P fs) P) AQ π (asAddr v) (asAddr V):=by
 cases h with
 |ptr h=>exact ai h
 |G3=>exact .never (by unfold asAddr;exact aG _)
 |_=>exact aq
def je{v V}(h:az π v V):(SR S (ah P fs) P) AQ π (Instr.sureAddr v) (Instr.sureAddr V):=by
 cases h with
 |ptr h=>exact ai h
 |_=>exact aq
def fX{c C}(t a)(h:VsR π c C):(SR S (ah P fs) P) VQ π (part t c a) (part t C a):=by
 unfold part;refine(BO t).bind ?_;rintro g l b _ rfl;have e:=VsR.mono l h;split
 ·refine(bG t).bind ?_
  rintro f i n _ rfl;exact ai (az.Ej ((VsR.mono i e).extract _ _))
 ·have d:=e.get a
  revert d
  generalize c[a]? =u;generalize C[a]? =v;intro d;cases d with
  |none=>exact aq
  |some r=>exact ai r
def eL{r a}(h:π r a):(SR S (ah P fs) P) EqQ π (shape r) (shape a):=.shape h λs=>.pure rfl
abbrev VwR{G}(π:Ren G):Addr×TypeId->Addr×TypeId->Prop:=λx y=>aP π x.1 y.1/\x.2=y.2
def oG{r d}(h:π r d):(SR S (ah P fs) P) (λc a b=>dO (VwR c) a b) π (viewAt r) (viewAt d):=by
 unfold viewAt;refine(eL h).bind ?_;rintro c l a _ rfl;split
 ·exact ai .none
 ·refine(cE (l _ _ h)).bind ?_
  intro e g o O f;cases f<;>first|exact ai .none|exact ai (.some ⟨by assumption,rfl⟩)
def kJ{c d Q}{a:Option c}{b:Option d}(h:dO Q a b):a.isSome=b.isSome:=by cases h<;>rfl
def sG{a A}(h:aP π a A):(SR S (ah P fs) P) EqQ π (noView a) (noView A):=by
 cases h with
 |mk h=>
  unfold noView;refine(oG h).bind ?_;intro c l x y b;rw[kJ b];split
  ·exact aE
  ·exact ai rfl
def iE{a A}(h:aP π a A):(SR S (ah P fs) P) EqQ π (byteOf a) (byteOf A):=by
 unfold byteOf;have e1:a.spot=A.spot/\a.off=A.off:=by cases h;exact⟨rfl,rfl⟩
 rw[e1.1,e1.2];cases A.spot with
 |some s=>exact ai rfl
 |none=>
  simp only[];refine b9.bind ?_;rintro b l _ _ ⟨rfl,rfl⟩;refine(sG (h.mono l)).bind ?_;intro c d _ _ _;cases h with
  |mk h=>
   refine(eL (d _ _ (l _ _ h))).bind ?_;rintro f g sh _ rfl;cases sh with
   |none=>exact aq
   |some es=>
    obtain⟨e,n⟩:=es;simp only[show(ah P fs).cellsOf e=P.cellsOf e from rfl,show(ah P fs).bytesOf e=P.bytesOf e from rfl,show(ah P fs).depth=P.depth from rfl,fU];split
    ·exact ai rfl
    ·split
     ·exact ai rfl
     ·exact aq
def Hj{a A}(h:aP π a A)(c b):(SR S (ah P fs) P) AQ π (partAt a c b) (partAt A c b):=by
 unfold partAt;refine(iE h).bind ?_;rintro e l n _ rfl;cases h with
 |mk h=>
  refine(iE (.mk (l _ _ h))).bind ?_;rintro f d m _ rfl;simp only[];split
  ·exact ai (.mk (d _ _ (l _ _ h)))
  ·exact ai (.mk (d _ _ (l _ _ h)))
def xG{a A}(h:aP π a A)(f):(SR S (ah P fs) P) AQ π (fieldPlace a f) (fieldPlace A f):=by
 unfold fieldPlace;refine(bG f.type).bind ?_;rintro b l n _ rfl;split
 ·exact Hj (h.mono l) _ _
 ·exact ai ((h.mono l).add _)
def lq{x X}(h:az π x X)(y c):(SR S (ah P fs) P) EqQ π (Instr.sliceBound x y c) (Instr.sliceBound X y c):=by
 unfold Instr.sliceBound;refine(mA h).bind ?_;rintro a l ⟨k,i⟩ _ rfl;simp only[];split
 ·exact ai rfl
 ·exact eZ
def e9(b len cap){p q r s mx e}(t:dO (az π) p q)(u:dO (az π) r s)(i:dO (az π) mx e):
 (SR S (ah P fs) P) EqQ π (Instr.sliceBounds b len cap p r mx) (Instr.sliceBounds b len cap q s e):=by
 unfold Instr.sliceBounds;have e3:e.isSome=mx.isSome:=by cases i<;>rfl
 simp only[e3];have w:∀{c:Type} (o O:Option Value),dO (az π) o O->∀(f g:Value->Sem c) (x y:Sem c) (a:Ren P.globals.size) (Q:Ren P.globals.size->c->c->Prop),Ren.le π a->(∀v V,az a v V->(SR S (ah P fs) P) Q a (f v) (g V))->(SR S (ah P fs) P) Q a x y->
  (SR S (ah P fs) P) Q a (match o with|some v=>f v|none=>x) (match O with|some v=>g v|none=>y):=by
  intro c o O h f g x y a Q l z A;cases h with
  |none=>exact A
  |some h=>exact z _ _ (h.mono l)
 refine w mx e i _ _ _ _ π EqQ (Ren.le_refl _) (λv V B=>?_) ?_;all_goals
  refine SR.bind (Q₁:=EqQ) (by first|exact lq B _ _|exact ai rfl) ?_;rintro a l m _ rfl;have j:=t.mono λ_ _ x=>x.mono l;have k:=u.mono λ_ _ x=>x.mono l;have n:=i.mono λ_ _ x=>x.mono l;cases k<;>cases n<;>simp only[];all_goals
   refine SR.bind (Q₁:=EqQ) (by first|exact lq (by assumption) _ _|exact ai rfl|exact aq) ?_;rintro C D h _ rfl;have d:=j.mono λ_ _ x=>x.mono D;cases d<;>simp only[];all_goals
    refine SR.bind (Q₁:=EqQ) (by first|exact lq (by assumption) _ _|exact ai rfl) ?_;rintro E F G _ rfl;exact ai rfl
def JR{x X}(t)(m:az π x X){u v w y mx q}(g:dO (az π) u v)(h:dO (az π) w y)(i:dO (az π) mx q):
 (SR S (ah P fs) P) VQ π (Instr.slice t x u w mx) (Instr.slice t X v y q):=by
 unfold Instr.slice;refine(aD t).bind ?_;rintro B l d _ ⟨rfl,_⟩;have m:=m.mono l;have g:=g.mono λ_ _ x=>x.mono l;have h:=h.mono λ_ _ x=>x.mono l;have i:=i.mono λ_ _ x=>x.mono l;have e3:q.isSome=mx.isSome:=by cases i<;>rfl
 cases d with
 |string=>
  cases m<;>simp only[]<;>try exact aq
  rw[e3];split
  ·exact .never (ew _ _ (.inl (.halt _)))
  ·refine(e9 false _ _ g h dO.none).bind ?_
   rintro j f ⟨a,b,c⟩ _ rfl;exact ai (.string _)
 |slice e=>
  cases m<;>simp only[]<;>try exact aq
  ·rename_i len cap
   refine(e9 true _ _ g h i).bind ?_;rintro j f ⟨a,b,c⟩ _ rfl;refine(bG e).bind ?_;rintro o p n _ rfl;refine ai ?_;simp only[Option.map_none,ite_self];exact .js _ _
  ·rename_i a A len cap k
   refine(e9 true _ _ g h i).bind ?_;rintro j f ⟨C,b,c⟩ _ rfl;refine(bG e).bind ?_;rintro o p n _ rfl;refine ai ?_;simp only[Sl];split
   ·exact .slice _ _ ((k.mono f).mono p)
   ·exact .slice _ _ (((k.mono f).mono p).add _)
 |pointer r=>
  simp only[];refine(yE m).bind ?_;intro z s a A k;refine(aD r).bind ?_;rintro j f d _ ⟨rfl,D⟩;clear D;have g:=g.mono λ_ _ x=>(x.mono s).mono f;have h:=h.mono λ_ _ x=>(x.mono s).mono f;have i:=i.mono λ_ _ x=>(x.mono s).mono f;cases d<;>simp only[]<;>try exact aq
  rename_i n e;refine(e9 false _ _ g h i).bind ?_;rintro o p ⟨C,b,c⟩ _ rfl;refine(bG e).bind ?_;rintro E F n _ rfl;refine ai ?_;have k:=((k.mono f).mono p).mono F;simp only[];split
  ·exact .slice _ _ k
  ·exact .slice _ _ (k.add _)
 |_=>cases m<;>exact aq
def Ez{x X}(t)(i:az π x X){m o p q r s}(e:dO (az π) m o)(f:dO (az π) p q)(g:dO (az π) r s):
 (SR S (ah P fs) P) VQ π (Instr.sliceAt t x m p r) (Instr.sliceAt t X o q s):=by
 unfold Instr.sliceAt;refine(aD t).bind ?_;rintro v l d _ ⟨rfl,w⟩;clear w;have i:=i.mono l;have e:=e.mono λ_ _ x=>x.mono l;have f:=f.mono λ_ _ x=>x.mono l;have g:=g.mono λ_ _ x=>x.mono l;cases d<;>simp only[]<;>try exact JR t i e f g
 rename_i n h;refine(je i).bind ?_;intro u k a A j;have e:=e.mono λ_ _ x=>(x.mono k)
 have f:=f.mono λ_ _ x=>(x.mono k)
 have g:=g.mono λ_ _ x=>(x.mono k)
 refine(e9 false _ _ e f g).bind ?_;rintro y z ⟨D,b,c⟩ _ rfl;refine(bG h).bind ?_;rintro B C n _ rfl;refine ai ?_;have j:=(j.mono z).mono C;simp only[];split
 ·exact .slice _ _ j
 ·exact .slice _ _ (j.add _)
def sH(t:TypeId)(k:IntKind)(i:Int)(base:Option Addr)(len:Nat)(b:TypeId):Sem Value:=do
 let c:=len<=1&&(match <-underlying t with| .array .. =>true|_=>false)
 match base with
 |some a=>
  if 0<=i/\i<len then pure (.pointer (some (a.add (i.toNat*(<-sizeOf b)))))
  else if c then unsupported (.noEntry "op/indexAddr.an index out of range at an array of length 0 or 1 (ledger 616)")
  else boundsPanic k i len .index
 |none=>boundsPanic k i 0 .index
def mB(t k i){a A}(len b)(c:dO (aP π) a A):(SR S (ah P fs) P) VQ π (sH t k i a len b) (sH t k i A len b):=by
 unfold sH;refine(aD t).bind ?_;rintro d e d' _ ⟨rfl,_⟩;cases c with
 |none=>exact eZ
 |some c=>
  simp only[];split
  ·refine(bG b).bind ?_
   rintro f g n _ rfl;exact ai (.ptr (((c.mono e).mono g).add _))
  ·split<;>split<;>first|exact aE|exact eZ
def EA{x X i I}(t)(e:az π x X)(m:az π i I):(SR S (ah P fs) P) VQ π (Instr.indexAt t x i) (Instr.indexAt t X I):=by
 unfold Instr.indexAt;refine(mA m).bind ?_;rintro n l ⟨k,i⟩ _ rfl;refine(aD t).bind ?_;rintro o p d _ ⟨rfl,q⟩;clear q;have e:=(e.mono l).mono p;have j:∀{r s:Type} (f:r->Sem s) (h:String),dJ (stuck h>>= f):=λf h=>ew _ _ (.inl (.halt _));cases d with
 |array len b=>refine(je e).bind ?_;intro u v a A g;exact mB t k i len b (.some g)
 |slice b=>
  cases e with
  |js len c=>exact mB t k i len b .none
  |slice len c g=>exact mB t k i len b (.some g)
  |_=>exact .never (j _ _)
 |_=>exact .never (j _ _)
def JS{x X i I}(t)(b:az π x X)(c:az π i I):(SR S (ah P fs) P) VQ π (Instr.index t x i) (Instr.index t X I):=by
 unfold Instr.index;refine(mA c).bind ?_;rintro e l ⟨k,i⟩ _ rfl;refine(aD t).bind ?_;rintro f g d _ ⟨rfl,o⟩;have b:=(b.mono l).mono g;cases d with
 |array len a=>
  cases b<;>simp only[]<;>try exact aq
  rename_i s h;split
  ·refine(bG a).bind ?_
   rintro j m n _ rfl;exact fX a _ (VsR.mono m ⟨s,h⟩)
  ·exact eZ
 |string=>
  cases b<;>simp only[]<;>try exact aq
  split
  ·exact ai (.int _ _)
  ·exact eZ
 |_=>cases b<;>exact aq
def JU{x X}(t f)(b:az π x X):(SR S (ah P fs) P) VQ π (Instr.field t x f) (Instr.field t X f):=by
 unfold Instr.field;refine(aD t).bind ?_;rintro e g d _ ⟨rfl,j⟩;cases d<;>simp only[]<;>try exact aq
 rename_i a;split
 ·refine(JQ (b.mono g)).bind ?_
  intro h k c C i;exact fX _ _ i
 ·exact aq
def EB{x X}(i)(b:az π x X):(SR S (ah P fs) P) VQ π (Instr.extract x i) (Instr.extract X i):=by
 unfold Instr.extract;cases b with
 | @tuple c C s h=>
  simp only[];have a:=(aU.get ⟨s,h⟩ i:dO (az π) c[i]? C[i]?)
  revert a
  generalize c[i]? =u;generalize C[i]? =v;intro a;cases a with
  |none=>exact aq
  |some r=>exact ai r
 |_=>exact aq
end
section
variable {S:Kn} {P:Program} {fs:Array Func} {G:Nat} {π:Ren P.globals.size} {ρ:Ren G}
def aA{a b s}{f:a->Sem b}(h:dJ s):dJ (s>>= f):=ew _ _ (.inl h)
def bz{b c s}{f:b->Sem c}(d:cP s)(h:∀a,dJ (f a)):dJ (s>>= f):=ew _ _ (.inr ⟨d,h⟩)
def dk{a}(h):dJ (stuck h:Sem a):=.halt _
def bF{a:Type}(h:Unsupported)(b:gl (.unsupported h):=by exact True.intro):dJ (unsupported h:Sem a):=.halt _ b
def EC{x X}(s f)(e:az π x X):(SR S (ah P fs) P) VQ π (Instr.fieldAt s x f) (Instr.fieldAt s X f):=by
 unfold Instr.fieldAt;refine(aD s).bind ?_;rintro g h d _ ⟨rfl,n⟩;cases d<;>simp only[]<;>try exact aq
 rename_i c;cases o:c[f]? with
 |none=>exact aq
 |some i=>simp only[];refine(je (e.mono h)).bind ?_;intro j p a A k;exact(xG k i).bind λl q b B m=>ai (.ptr m)
def pQ(b):Plain (.bool b):=λ_ _=>.bool b
def xH:Plain (default:Value):=λ_ π=>by show az π (Value.bool default) (Value.bool default);exact .bool _
def bf(c:Array Value):Prop:=∀(i:Nat) v,c[i]? =some v->Plain v
def bf.refl{c}(h:bf c)(ρ:Ren G):VsR ρ c c:=⟨rfl,λi x y a b=>by rw[a]at b;cases b;exact h i x a _ ρ⟩
def Plain.cells{v}(h:Plain v):bf v.cells:=λi x a G π=>((h G π).cells).2 i x x a a
def bf.getD{c}(h:bf c)(i:Nat):Plain c[i]! :=by
 rw[getElem!_def];cases e:c[i]? with
 |none=>exact xH
 |some v=>exact h i v e
def bf.spread{c}(h:bf c)(n m):bf ((Array.range n).map λi=>c[i%m]!):=by
 intro i v a;rw[Sp]at a;cases e:(Array.range n)[i]? with
 |none=>rw[e]at a;simp at a
 |some k=>rw[e]at a;simp at a;subst a;exact h.getD _
def bf.empty:bf #[]:=λi v h=>by simp at h
def JV(c:du P)(t):(SR S (ah P fs) P) VQ π (Instr.alloc t true (.tuple #[])) (Instr.alloc t true (.tuple #[])):=by unfold Instr.alloc;refine(dW c t).bind ?_;rintro b l z _ ⟨rfl,d⟩;simp only[];refine(yC t (d _ b)).bind ?_;rintro e g a A f;exact ai (.ptr f)
def Og{v V}(t)(h:az π v V):(SR S (ah P fs) P) VQ π (Instr.box t v) (Instr.box t V):=by unfold Instr.box;refine(yC t h).bind ?_;rintro b d a A c;exact ai (.ptr c)
abbrev kL{G}(π:Ren G):Nat×Value->Nat×Value->Prop:=λa b=>a.1=b.1/\az π a.2 b.2
def Hk{l L:List (Value×Nat)}(h:bg (λa b=>az ρ a.1 b.1/\a.2=b.2) l L):∀{c C:Array Value} (d:Nat),VsR ρ c C->
 VsR ρ (l.foldl (λcs (c,j)=>cs.setIfInBounds (d+j) c) c) (L.foldl (λcs (c,j)=>cs.setIfInBounds (d+j) c) C):=by
 induction h with
 |nil=>exactλ_ h=>h
 | @cons x y l m e _ f=>intro c C d g;obtain⟨v,j⟩:=x;obtain⟨V,J⟩:=y;obtain⟨i,rfl⟩:=e;exact f d (g.set _ i)
def ED{l L}(h:bg (az ρ) l L):∀n,bg (λa b=>az ρ a.1 b.1/\a.2=b.2) (l.zipIdx n) (L.zipIdx n):=by
 induction h with
 |nil=>exactλ_=>.nil
 |cons c _ d=>exactλn=>by simp only[List.zipIdx_cons];exact .cons ⟨c,rfl⟩ (d _)
def vh(a){l L}(h:bg (kL ρ) l L):∀{c C},VsR ρ c C->dO (VsR ρ) (Instr.fill a c l) (Instr.fill a C L):=by
 induction h with
 |nil=>exactλh=>.some h
 | @cons x y l m b _ k=>
  intro c C f;obtain⟨i,v⟩:=x;obtain⟨j,V⟩:=y;obtain⟨g,d⟩:=b;simp only[]at g d;subst g;unfold Instr.fill;cases a i with
  |none=>exact .none
  |some os=>
   obtain⟨e,size⟩:=os;simp only[];rw[<-d.cells.1,<-f.1];split
   ·exact .none
   ·refine k ?_
    rw[<-T8,<-T8,Vo,Vo];exact Hk (ED d.cells.toList 0) e f
def vi(a:List Field):(SR S (ah P fs) P) EqQ π (a.mapM λf=>do pure (f.offset,<-sizeOf f.type)) (a.mapM λf=>do pure (f.offset,<-sizeOf f.type)):=by
 induction a generalizing π with
 |nil=>exact ai rfl
 |cons f l c=>
  simp only[List.mapM_cons];refine SR.bind (Q₁:=EqQ) ((bG f.type).bind ?_) ?_
  ·rintro b l n _ rfl;exact ai rfl
  rintro b e x _ rfl;refine c.bind ?_;rintro d g y _ rfl;exact ai rfl
def JW{i j d e Q}{Q':Ren P.globals.size->d->e->Prop}{s t}{f:i->d}{g:j->e}(h:(SR S (ah P fs) P) Q π s t)(k:∀c a b,Q c a b->Q' c (f a) (g b)):(SR S (ah P fs) P) Q' π (Functor.map f s) (Functor.map g t):=by rw[map_eq_pure_bind,map_eq_pure_bind];exact h.bind λc l a b q=>ai (k _ _ _ q)
def JX(q:du P)(t){g PS}(h:aU (kL π) g PS):(SR S (ah P fs) P) VQ π (Instr.build t g) (Instr.build t PS):=by
 unfold Instr.build;refine(dW q t).bind ?_;rintro s l z _ ⟨rfl,m⟩;refine(aD t).bind ?_;rintro f w d _ ⟨rfl,_⟩;have h:aU (kL f) g PS:=(h.mono λ_ _ x=>⟨x.1,(x.2.mono l).mono w⟩)
 have o:=h.toList;cases d<;>simp only[]<;>try exact aq
 ·rename_i n p _
  refine(bG _).bind ?_;rintro a j size _ rfl;have:=vh (λi=>some (i*size,size)) (o.mono λ_ _ (x:kL f _ _)=>(⟨x.1,x.2.mono j⟩:kL a _ _)) (m _ a).cells
  revert this
  generalize Instr.fill _ _ _=u;generalize Instr.fill _ _ _=v;intro k;cases k with
  |none=>exact aq
  |some r=>exact ai (az.Ej r)
 ·rename_i b _
  refine SR.bind (Q₁:=EqQ) ?_ ?_
  ·obtain⟨y⟩:=b
   rw[List.mapM_toArray];exact JW (vi y) λ_ _ _ e=>by rw[show _=_ from e]
  rintro a j c _ rfl;have:=vh (c[·]?) (o.mono λ_ _ (x:kL f _ _)=>(⟨x.1,x.2.mono j⟩:kL a _ _)) (m _ a).cells
  revert this
  generalize Instr.fill _ _ _=u;generalize Instr.fill _ _ _=v;intro k;cases k with
  |none=>exact aq
  |some r=>exact ai (az.Ej r)
def xI(l:du P)(t n){g PS}(h:aU (kL π) g PS):(SR S (ah P fs) P) VQ π (Instr.buildSlice t n g) (Instr.buildSlice t n PS):=by
 unfold Instr.buildSlice;refine(aD t).bind ?_;rintro e m d _ ⟨rfl,_⟩;have h:aU (kL e) g PS:=(h.mono λ_ _ x=>⟨x.1,(x.2.mono m)⟩)
 have o:=h.toList;cases d<;>simp only[]<;>try exact aq
 rename_i c _;refine(bG _).bind ?_;rintro f p size _ rfl;split
 ·exact .never (aA (bF _))
 have key:∀(b:Ren P.globals.size),Ren.le f b->∀zero:Array Value,bf zero->(SR S (ah P fs) P) VQ b
  (do let some cells:=Instr.fill (λi=>some (i*size,size)) ((Array.range (n*size)).map (zero[· %zero.size]!)) g.toList|stuck "buildSlice: a part of the wrong size"
      pure (.slice (some (<-newRow c cells)) n n))
  (do let some cells:=Instr.fill (λi=>some (i*size,size)) ((Array.range (n*size)).map (zero[· %zero.size]!)) PS.toList|stuck "buildSlice: a part of the wrong size"
      pure (.slice (some (<-newRow c cells)) n n)):=by
  intro b j zero k;have:=vh (λi=>some (i*size,size)) (o.mono λ_ _ (x:kL e _ _)=>(⟨x.1,(x.2.mono p).mono j⟩:kL b _ _)) ((k.spread (n*size) zero.size).refl b)
  revert this
  generalize Instr.fill _ _ _=u;generalize Instr.fill _ _ _=v;intro q;cases q with
  |none=>exact aq
  |some r=>refine(iD c r).bind ?_;rintro s y a A w;exact ai (.slice _ _ w)
 split
 ·exact key f (Ren.le_refl _) #[] .empty
 ·refine(dW l c).bind ?_
  rintro b j z _ ⟨rfl,k⟩;exact key b j _ k.cells
def BQ{fn a f F c C}(h:FnR π fn a)(b:VsR π f F)(d:VsR π c C):(SR S (ah P fs) P) VQ π (Instr.makeFunc fn f c) (Instr.makeFunc a F C):=ai (.func h b.1 b.2 d.1 d.2)
def EE(t){r R}(h:dO (az π) r R):(SR S (ah P fs) P) VQ π (Instr.makeMap t r) (Instr.makeMap t R):=by
 unfold Instr.makeMap;have fin:∀b:Ren P.globals.size,(SR S (ah P fs) P) VQ b (do pure (.map (some (<-newObj (.map #[] 0)))):Sem Value) (do pure (.map (some (<-newObj (.map #[] 0))))):=λb=>by refine(gL (.map 0 .empty)).bind ?_;rintro c j a A e;exact ai (.map e)
 cases h with
 |none=>exact fin _
 |some h=>
  simp only[];refine(aD t).bind ?_;rintro f g d _ ⟨rfl,_⟩;cases d<;>simp only[]<;>try exact aq
  refine(jd (h.mono g)).bind ?_;rintro i k _ _ _;exact fin _
def sI{v V}(t)(h:az π v V):(SR S (ah P fs) P) VQ π (Instr.makeInterface t v) (Instr.makeInterface t V):=by unfold Instr.makeInterface;refine(aD t).bind ?_;rintro a b d _ ⟨rfl,_⟩;cases d<;>first|exact aq|exact ai (.iface t (h.mono b))
def zT(m:du P)(t){a A b B}(g:az π a A)(o:az π b B):(SR S (ah P fs) P) VQ π (Instr.makeSlice t a b) (Instr.makeSlice t A B):=by
 unfold Instr.makeSlice;refine(aD t).bind ?_;rintro p k d _ ⟨rfl,_⟩;cases d<;>simp only[]<;>try exact aq
 rename_i c _;refine(jd (g.mono k)).bind ?_;rintro q r len _ rfl;refine(jd ((o.mono k).mono r)).bind ?_;rintro s y cap _ rfl;refine(dj c).bind ?_;rintro h u i _ ⟨rfl,_⟩;have fin:∀(e:Ren P.globals.size) (n l:Nat) (zero:Array Value),bf zero->(SR S (ah P fs) P) VQ e (do let a <-newRow c ((Array.range n).map (zero[· %zero.size]!));pure (.slice (some a) l (IntKind.i64.wrap cap).toNat):Sem Value)
  (do let a <-newRow c ((Array.range n).map (zero[· %zero.size]!));pure (.slice (some a) l (IntKind.i64.wrap cap).toNat)):=by
  intro e n l zero j;refine(iD c ((j.spread n zero.size).refl e)).bind ?_;rintro h u a A g;exact ai (.slice _ _ g)
 have f:∀(e:Ren P.globals.size),(SR S (ah P fs) P) VQ e (do
  askRoom ((IntKind.i64.wrap cap).toNat*i.bytes)
  let n:=(IntKind.i64.wrap cap).toNat*(<-sizeOf c);let zero <-if n=0 then pure #[]else do pure (<-zeroValue c).cells
  let a <-newRow c ((Array.range n).map (zero[· %zero.size]!))
  pure (.slice (some a) (IntKind.i64.wrap len).toNat (IntKind.i64.wrap cap).toNat):Sem Value) (do
  askRoom ((IntKind.i64.wrap cap).toNat*i.bytes)
  let n:=(IntKind.i64.wrap cap).toNat*(<-sizeOf c);let zero <-if n=0 then pure #[]else do pure (<-zeroValue c).cells
  let a <-newRow c ((Array.range n).map (zero[· %zero.size]!))
  pure (.slice (some a) (IntKind.i64.wrap len).toNat (IntKind.i64.wrap cap).toNat)):=by
  intro e;refine(pP _).bind ?_;rintro v C _ _ _;refine(bG c).bind ?_;rintro w D E _ rfl;simp only[];split
  ·exact fin _ _ _ #[] .empty
  ·refine(dW m c).bind ?_
   rintro x F z _ ⟨rfl,j⟩;exact fin _ _ _ _ j.cells
 split
 ·split
  ·exact .never (aA (aG _))
  ·split
   ·exact .never (aA (aG _))
   ·exact .never (bz (.choose _) λa=>aA (aG _))
 ·exact f _
def Calm(s:Sem Value):Prop:=dJ s\/∃v,Plain v/\s=pure v
def Calm.sr{s}(h:Calm s):(SR S (ah P fs) P) VQ π s s:=by
 obtain h|⟨v,a,rfl⟩:=h
 ·exact .never h
 ·exact ai (a _ π)
def Calm.int(k n):Calm (pure (.int k n)):=.inr ⟨_,λ_ _=>.int k n,rfl⟩
def Calm.bool(b):Calm (pure (.bool b)):=.inr ⟨_,λ_ _=>.bool b,rfl⟩
def Calm.string(s):Calm (pure (.string s)):=.inr ⟨_,λ_ _=>.string s,rfl⟩
def Calm.stuck(s):Calm (stuck s):=.inl (.halt _)
def Calm.unsupported(s:Unsupported)(a:gl (.unsupported s):=by exact True.intro):Calm (unsupported s):=.inl (.halt _ a)
def pa(a k x y):Calm (Op.intArith a k x y):=by cases a<;>first|exact .int _ _|exact .stuck _
def BR(a x y):Calm (Op.intCmp a x y):=by cases a<;>first|exact .bool _|exact .stuck _
def BS(a k x y):Calm (Op.intDiv a k x y):=by
 unfold Op.intDiv;split
 ·exact .inl (aG _)
 ·cases a<;>first|exact .int _ _|exact .stuck _
def qM(a k x y):Calm (Op.intBits a k x y):=by unfold Op.intBits;cases a<;>first|exact .int _ _|exact .stuck _
def vl(a k x b y):Calm (Op.shift a k x b y):=by
 unfold Op.shift;split
 ·exact .inl (aG _)
 ·cases a<;>first|exact .int _ _|exact .stuck _
def pb(a x y):Calm (Op.stringOp a x y):=by unfold Op.stringOp;cases a<;>simp only[]<;>first|exact .bool _|exact .stuck _|(split<;>first|exact .string _|exact .unsupported _)
def JY{x X}(a)(h:az π x X):(SR S (ah P fs) P) VQ π (Op.unary a x) (Op.unary a X):=by
 cases h<;>cases a<;>first
  |exact aq
  |exact aE
  |exact(pa _ _ _ _).sr
  |exact(qM _ _ _ _).sr
  |exact ai (az.int _ _)
  |exact ai (.bool _)
  |exact ai (.float _ _)
  |exact ai (.complex _ _ _)
def JZ{d σ τ:Type}{T:Ren P.globals.size->σ->τ->Prop}(mono:∀π c a b,Ren.le π c->T π a b->T c a b)(l:List d)(f:d->σ->Sem (ForInStep σ))(g:d->τ->Sem (ForInStep τ))
 (h:∀(π:Ren P.globals.size) a s t,T π s t->(SR S (ah P fs) P) (λc x y=>(∃u v,x=.yield u/\y=.yield v/\T c u v)\/(∃u v,x=.done u/\y=.done v/\T c u v)) π (f a s) (g a t)):
 ∀(π:Ren P.globals.size) (s:σ) (t:τ),T π s t->(SR S (ah P fs) P) T π (forIn l s f) (forIn l t g):=by
 induction l with
 |nil=>intro π s t e;simp only[List.forIn_nil];exact ai e
 |cons a l j=>
  intro π s t e;simp only[UN];refine(h π a s t e).bind ?_;rintro c k x y (⟨u,v,rfl,rfl,i⟩|⟨u,v,rfl,rfl,i⟩)
  ·exact j c u v i
  ·exact ai i
def oH{a A}(h:aP π a A):(SR S (ah P fs) P) (λ_ b B=>B=true->b=true) π (frozen a) (frozen A):=.frozen h λ_ _ x=>.pure x
def qN{a A}(h:aP π a A):(SR S (ah P fs) P) (λ_ b B=>B=true->b=true) π (stringish a) (stringish A):=by
 unfold stringish;cases h with
 | @mk r s o p h=>
  have key:∀c,Ren.le π c->(SR S (ah P fs) P) (λ_ b B=>B=true->b=true) c (do match <-shape r with|some (_,n)=>frozen {block:=r,off:=n}|none=>pure false:Sem Bool) (do match <-shape s with|some (_,n)=>frozen {block:=s,off:=n}|none=>pure false):=by
   intro c l;refine(eL (l _ _ h)).bind ?_;rintro e f x _ rfl;split
   ·exact oH (.mk (f _ _ (l _ _ h)))
   ·exact ai (by simp)
  refine(oH (.mk h)).bind ?_;intro c l b B g;have d:=key c l;cases b<;>cases B<;>simp only[RQ,RP,RG]
  ·exact d
  ·simp at g
  ·refine .se λx=>?_
   cases x with
   |none=>exact ai (by simp)
   |some y=>exact .oE λz=>ai (by simp)
  ·exact ai (by simp)
def vn{r s:Nat}(h:π r s):(SR S (ah P fs) P) EqQ π (do pure ((<-shape r) matches some (_,0)):Sem Bool) (do pure ((<-shape s) matches some (_,0))):=by refine(eL h).bind ?_;rintro a b x _ rfl;exact ai rfl
def BT{a A b B}(d:aP π a A)(e:aP π b B):(SR S (ah P fs) P) (λ_ m M=>M=true->m=true) π (mayBeOne a b) (mayBeOne A B):=by
 unfold mayBeOne;refine(qN d).bind ?_;intro g c i j k;refine(qN (e.mono c)).bind ?_;intro l f sb n hsb;refine SR.bind (Q₁:=EqQ) ?_ ?_
 ·cases d with|mk h=>exact vn (f _ _ (c _ _ h))
 rintro o p r _ rfl;refine SR.bind (Q₁:=EqQ) ?_ ?_
 ·cases e with|mk h=>exact vn (p _ _ (f _ _ (c _ _ h)))
 rintro q s t _ rfl;refine ai ?_;cases i<;>cases j<;>cases sb<;>cases n<;>simp_all
def aP.eq{a A b B}(d:aP ρ a A)(f:aP ρ b B):(a.block==b.block)=(A.block==B.block)/\(a==b)=(A==B):=by
 cases d with
 | @mk r s o p h=>
  cases f with
  | @mk g s' o' i c=>
   have e:r=g↔s=s':=⟨λe=>by subst e;exact ρ.fn _ _ _ h c,λe=>by subst e;exact ρ.inj _ _ _ h c⟩
   constructor
   ·rw[SV];simp[e]
   ·rw[SV];simp[e]
def tE{a A b B}(c:aP π a A)(d:aP π b B):(SR S (ah P fs) P) EqQ π (sameAddr a b) (sameAddr A B):=by
 unfold sameAddr;rw[(c.eq d).1,(c.eq d).2];split
 ·exact ai rfl
 refine(oH c).bind ?_;intro o g p v i;refine(oH (d.mono g)).bind ?_;intro q k fb w hfb;by_cases e:(p&&fb)=true
 ·rw[Rp e];exact .never (aA (bF _))
 rw[Ro e,Ro (by simp only[RD]at e⊢;exactλh=>e ⟨i h.1,hfb h.2⟩)];have c:=(c.mono g).mono k;have d:=(d.mono g).mono k;refine(sG c).bind ?_;intro r j _ _ _;refine(sG (d.mono j)).bind ?_;intro s l _ _ _;refine(BT ((c.mono j).mono l) ((d.mono j).mono l)).bind ?_;intro t x m M y;cases m with
 |false=>
  have:M=false:=by cases M<;>simp_all
  subst this;exact ai rfl
 |true=>
  cases M with
  |true=>refine(en _).bind ?_;rintro u z n _ rfl;exact ai rfl
  |false=>
   refine .mo 0 (n:=0) (λf C h=>by cases h) ?_ ?_
   ·rfl
   ·exact ai rfl
def vo{a A b B}(c:dO (aP π) a A)(d:dO (aP π) b B):(SR S (ah P fs) P) EqQ π (samePointer a b) (samePointer A B):=by cases c<;>cases d<;>first|exact ai rfl|exact tE (by assumption) (by assumption)
end
end Go.Tm

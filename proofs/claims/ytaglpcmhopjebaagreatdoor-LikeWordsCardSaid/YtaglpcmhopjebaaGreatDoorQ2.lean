import Derived.Laws.Sem
import Derived.Test.YtaglpcmhopjebaaGreatDoorQ1
set_option linter.all false
set_option maxRecDepth 100000
set_option maxHeartbeats 20000000
namespace Go.Tm
def Plain(v:Value):Prop:=∀(G:Nat) (π:Ren G),av π v v
def dx(P:Program):Prop:=∀t i z,P.info? t=some i->i.zero=some z->Plain z
abbrev VQ{G}:Ren G->Value->Value->Prop:=λπ v V=>av π v V
abbrev EqQ{G}{c:Type}:Ren G->c->c->Prop:=λ_ a b=>a=b
abbrev AQ{G}:Ren G->Addr->Addr->Prop:=λπ a A=>aN π a A
abbrev VsQ{G}:Ren G->Array Value->Array Value->Prop:=λπ a A=>VsR π a A
section
variable {S:Kn} {P:Program} {fs:Array Func} {π:Ren P.globals.size}
def al{a b Q h}{s:Sem b}:(SR S (ah P fs) P) Q π (stuck h:Sem a) s:=.never (.halt _)
def aC{a b:Type}{Q:Ren P.globals.size->a->b->Prop}{h:Unsupported}{s:Sem b}(c:fX (.unsupported h):=by exact True.intro):(SR S (ah P fs) P) Q π (unsupported h:Sem a) s:=.never (.halt _ c)
def ai{c d Q}{a:c}{b:d}(h:Q π a b):(SR S (ah P fs) P) Q π (pure a) (pure b):=.pure h
def xQ(t):cE (typeInfo t):=by unfold typeInfo;(repeat' (first|with_reducible exact cE.unsupported _ (by with_unfolding_all exact True.intro)|with_reducible first|exact cE.stuck _|exact cE.pure _|exact cE.program|exact cE.choose _|exact cE.shape _|exact cE.frozen _|exact cE.mark _|exact cE.newObj _|exact cE.sys _|assumption|refine cE.ite ?_ ?_|refine cE.bind ?_ λ_=>?_|dsimp only|split))
def cW(t):cE (underlying t):=by unfold underlying;(repeat' (first|with_reducible exact cE.unsupported _ (by with_unfolding_all exact True.intro)|with_reducible first|exact cE.stuck _|exact cE.pure _|exact cE.program|exact cE.choose _|exact cE.shape _|exact cE.frozen _|exact cE.mark _|exact cE.newObj _|exact cE.sys _|assumption|refine cE.ite ?_ ?_|refine cE.bind ?_ λ_=>?_|dsimp only|split))
def Cg(t):cE (elemOf t):=by
 unfold elemOf;refine cE.bind (cW t) λ_=>?_
 (repeat' (first|with_reducible exact cE.unsupported _ (by with_unfolding_all exact True.intro)|with_reducible first|exact cE.stuck _|exact cE.pure _|exact cE.program|exact cE.choose _|exact cE.shape _|exact cE.frozen _|exact cE.mark _|exact cE.newObj _|exact cE.sys _|assumption|refine cE.ite ?_ ?_|refine cE.bind ?_ λ_=>?_|dsimp only|split))
def Ch(t v):cE (newVar t v):=by unfold newVar newRow;(repeat' (first|with_reducible exact cE.unsupported _ (by with_unfolding_all exact True.intro)|with_reducible first|exact cE.stuck _|exact cE.pure _|exact cE.program|exact cE.choose _|exact cE.shape _|exact cE.frozen _|exact cE.mark _|exact cE.newObj _|exact cE.sys _|assumption|refine cE.ite ?_ ?_|refine cE.bind ?_ λ_=>?_|dsimp only|split))
def qC(t):cE (typeStr t):=by
 unfold typeStr;refine cE.bind (xQ t) λ_=>?_
 (repeat' (first|with_reducible exact cE.unsupported _ (by with_unfolding_all exact True.intro)|with_reducible first|exact cE.stuck _|exact cE.pure _|exact cE.program|exact cE.choose _|exact cE.shape _|exact cE.frozen _|exact cE.mark _|exact cE.newObj _|exact cE.sys _|assumption|refine cE.ite ?_ ?_|refine cE.bind ?_ λ_=>?_|dsimp only|split))
def pg{a}(v):dK (goPanic v:Sem a):=.halt _
def aF{a}(e):dK (runtimePanic e:Sem a):=by
 unfold runtimePanic;refine ey _ _ (.inr ⟨.program,λp=>?_⟩);cases e<;>simp only[]<;>first
  |exact pg _
  |exact ey _ _ (.inr ⟨Cg _,λ_=>ey _ _ (.inr ⟨Ch _ _,λ_=>pg _⟩)⟩)
def qE{a}(k x y c):dK (boundsPanic k x y c:Sem a):=by
 unfold boundsPanic;simp only[];split<;>refine ey _ _ (.inr ⟨?_,λ_=>aF _⟩)
 ·exact cE.bind (.choose _) λ_=>.pure _
 ·exact .pure _
def cZ{a b Q e}{s:Sem b}:(SR S (ah P fs) P) Q π (runtimePanic e:Sem a) s:=.never (aF e)
def dR{a b Q k x y c}{s:Sem b}:(SR S (ah P fs) P) Q π (boundsPanic k x y c:Sem a) s:=.never (qE k x y c)
def bV:(SR S (ah P fs) P) (λ_ a b=>ah P fs=a/\P=b) π program program:=.program (.pure ⟨rfl,rfl⟩)
def ep(q:Question)(a:G4 q=false:=by with_unfolding_all rfl):(SR S (ah P fs) P) EqQ π (choose q) (choose q):=.choose (λf b h=>absurd h (Kr a f b)) λ_=>.pure rfl
def pT(n):(SR S (ah P fs) P) (λ_ _ _=>True) π (askRoom n) (askRoom n):=by
 unfold askRoom;split
 ·exact .noRoom (.pure trivial)
 ·exact .pure trivial
def di(t):(SR S (ah P fs) P) (λ_ a b=>a=b/\P.info? t=some b) π (typeInfo t) (typeInfo t):=by
 unfold typeInfo;refine bV.bind ?_;rintro c l _ _ ⟨rfl,rfl⟩;rw[Ik];cases h:P.info? t with
 |none=>exact al
 |some i=>exact ai ⟨rfl,rfl⟩
def aA(t):(SR S (ah P fs) P) (λ_ a b=>a=b/\P.underlying t=some b) π (underlying t) (underlying t):=by
 unfold underlying;refine bV.bind ?_;rintro c l _ _ ⟨rfl,rfl⟩;rw[jv];cases h:P.underlying t with
 |none=>exact al
 |some i=>exact ai ⟨rfl,rfl⟩
def bE(t):(SR S (ah P fs) P) EqQ π (sizeOf t) (sizeOf t):=by unfold sizeOf;refine(di t).bind ?_;rintro a l _ _ ⟨rfl,_⟩;exact ai rfl
def Ci(t):(SR S (ah P fs) P) EqQ π (isAgg t) (isAgg t):=by unfold isAgg;refine(aA t).bind ?_;rintro b l a _ ⟨rfl,_⟩;split<;>exact ai rfl
def Ix(t):(SR S (ah P fs) P) EqQ π (elemOf t) (elemOf t):=by
 unfold elemOf;refine(aA t).bind ?_;rintro b l a _ ⟨rfl,_⟩;split
 ·exact ai rfl
 ·exact al
def dY(c:dx P)(t):(SR S (ah P fs) P) (λ_ a b=>a=b/\Plain a) π (zeroValue t) (zeroValue t):=by
 unfold zeroValue;refine(di t).bind ?_;rintro d l i _ ⟨rfl,h⟩;cases e:i.zero with
 |none=>exact aC
 |some z=>exact ai ⟨rfl,c t i z h e⟩
def qG{a A}(h:aN π a A):(SR S (ah P fs) P) VQ π (load a) (load A):=.load h λ_ _ b=>.pure b
def KE{a A v V}(h:aN π a A)(b:av π v V):(SR S (ah P fs) P) EqQ π (store a v) (store A V):=.store h b (.pure rfl)
def gI{o O}(h:fA S π o O):(SR S (ah P fs) P) (λa r R=>a r R) π (newObj o) (newObj O):=.new h λ_ _ _ _ x=>.pure x
def bX{r b}(h:π r b):(SR S (ah P fs) P) (λa o O=>fA S a o O) π (getObj r) (getObj b):=.getObj h λ_ _ c=>.pure c
def er{r a o O}(h:π r a)(b:∀c e f,o≠ .cells c e f)(d:fA S π o O):(SR S (ah P fs) P) EqQ π (setObj r o) (setObj a O):=.setObj h b d (.pure rfl)
def aN.add{G}{ρ:Ren G}{a A}(h:aN ρ a A)(n):aN ρ (a.add n) (A.add n):=by
 cases h with
 |mk h=>
  unfold Addr.add;split
  ·exact .mk h
  ·exact .mk h
def su(n):∀{π:Ren P.globals.size} {a A} {acc b} (i),aN π a A->VsR π acc b->(SR S (ah P fs) P) VsQ π (loadCellsFrom a i n acc) (loadCellsFrom A i n b):=by
 induction n with
 |zero=>exactλi h c=>ai c
 |succ n e=>intro π a A acc b i h c;unfold loadCellsFrom;refine(qG (h.add i)).bind ?_;intro f l v V d;exact e (i+1) (h.mono l) ((VsR.mono l c).push d)
def jQ{a A}(h:aN π a A)(n):(SR S (ah P fs) P) VsQ π (loadCells a n) (loadCells A n):=su n 0 h aV.empty
def lC{c}:∀{π:Ren P.globals.size} {d} {a A} (i),aN π a A->bh (av π) c d->(SR S (ah P fs) P) EqQ π (storeCells a c i) (storeCells A d i):=by
 induction c with
 |nil=>intro π d a A i h b;cases b;exact ai rfl
 |cons v c f=>
  intro π d a A i h b;cases b with
  |cons b e=>unfold storeCells;refine(KE (h.add i) b).bind ?_;intro g l _ _ _;exact f (i+1) (h.mono l) (e.mono λ_ _ x=>x.mono l)
def av.cells{G}{ρ:Ren G}{v V}(h:av ρ v V):VsR ρ v.cells V.cells:=by
 cases h with
 |agg s h=>exact⟨s,h⟩
 |lT V a=>
  have e:V.cells=#[V]:=by cases V<;>first|rfl|cases a
  rw[e];exact aV.push aV.empty (.lT V a)
 |_=>exact⟨rfl,λi x y b c=>by
  simp only[Value.cells]at b c;obtain _|i:=i
  ·simp at b c;subst b c;first|exact .Ii _ _ _|exact .pM _|(constructor<;>assumption)
  ·simp at b⟩
def vh{a A}(t)(h:aN π a A):(SR S (ah P fs) P) VQ π (loadVar t a) (loadVar t A):=by
 unfold loadVar;refine(Ci t).bind ?_;rintro d l b _ rfl;split
 ·refine(bE t).bind ?_
  rintro c e n _ rfl;refine(jQ ((h.mono l).mono e) n).bind ?_;intro f i j k g;exact ai (av.EH g)
 ·exact qG (h.mono l)
def Cj{a A v V}(t)(h:aN π a A)(b:av π v V):(SR S (ah P fs) P) EqQ π (storeVar t a v) (storeVar t A V):=by
 unfold storeVar;refine(bE t).bind ?_;rintro c l n _ rfl;rw[b.cells.1];split
 ·exact al
 ·exact lC 0 (h.mono l) (b.mono l).cells.toList
def iB{c C}(e)(h:VsR π c C):(SR S (ah P fs) P) AQ π (newRow e c) (newRow e C):=by unfold newRow;refine(gI (.cells e h (.inl rfl))).bind ?_;intro a l r d b;exact ai (.mk b)
def yL{v V}(t)(h:av π v V):(SR S (ah P fs) P) AQ π (newVar t v) (newVar t V):=iB t h.cells
def ks{v V}(h:av π v V):(SR S (ah P fs) P) EqQ π (asIntOf v) (asIntOf V):=by cases h<;>first|exact ai rfl|exact al|exact aC
def ji{v V}(h:av π v V):(SR S (ah P fs) P) EqQ π (asInt v) (asInt V):=by unfold asInt;refine(ks h).bind ?_;rintro a l _ _ rfl;exact ai rfl
def yM{v V}(h:av π v V):(SR S (ah P fs) P) EqQ π (asBool v) (asBool V):=by cases h<;>first|exact ai rfl|exact al
def KF{v V}(h:av π v V):(SR S (ah P fs) P) VsQ π (asAgg v) (asAgg V):=by
 cases h with
 |agg s h=>exact ai ⟨s,h⟩
 |_=>exact al
def yN{v V}(h:av π v V):(SR S (ah P fs) P) AQ π (asAddr v) (asAddr V):=by
 cases h with
 |ptr h=>exact ai h
 |Ih=>exact .never (by unfold asAddr;exact aF _)
 |_=>exact al
def jk{v V}(h:av π v V):(SR S (ah P fs) P) AQ π (Instr.sureAddr v) (Instr.sureAddr V):=by
 cases h with
 |ptr h=>exact ai h
 |_=>exact al
def fS{c C}(t a)(h:VsR π c C):(SR S (ah P fs) P) VQ π (part t c a) (part t C a):=by
 unfold part;refine(Ci t).bind ?_;rintro g l b _ rfl;have e:=VsR.mono l h;split
 ·refine(bE t).bind ?_
  rintro f i n _ rfl;exact ai (av.EH ((VsR.mono i e).extract _ _))
 ·have d:=e.get a
  revert d
  generalize c[a]? =u;generalize C[a]? =v;intro d;cases d with
  |none=>exact al
  |some r=>exact ai r
def eM{r a}(h:π r a):(SR S (ah P fs) P) EqQ π (shape r) (shape a):=.shape h λs=>.pure rfl
abbrev VwR{G}(π:Ren G):Addr×TypeId->Addr×TypeId->Prop:=λx y=>aN π x.1 y.1/\x.2=y.2
def oM{r d}(h:π r d):(SR S (ah P fs) P) (λc a b=>dF (VwR c) a b) π (viewAt r) (viewAt d):=by
 unfold viewAt;refine(eM h).bind ?_;rintro c l a _ rfl;split
 ·exact ai .none
 ·refine(bX (l _ _ h)).bind ?_
  intro e g o O f;cases f<;>first|exact ai .none|exact ai (.some ⟨by assumption,rfl⟩)
def kT{c d Q}{a:Option c}{b:Option d}(h:dF Q a b):a.isSome=b.isSome:=by cases h<;>rfl
def sx{a A}(h:aN π a A):(SR S (ah P fs) P) EqQ π (noView a) (noView A):=by
 cases h with
 |mk h=>
  unfold noView;refine(oM h).bind ?_;intro c l x y b;rw[kT b];split
  ·exact aC
  ·exact ai rfl
def iC{a A}(h:aN π a A):(SR S (ah P fs) P) EqQ π (byteOf a) (byteOf A):=by
 unfold byteOf;have e1:a.spot=A.spot/\a.off=A.off:=by cases h;exact⟨rfl,rfl⟩
 rw[e1.1,e1.2];cases A.spot with
 |some s=>exact ai rfl
 |none=>
  simp only[];refine bV.bind ?_;rintro b l _ _ ⟨rfl,rfl⟩;refine(sx (h.mono l)).bind ?_;intro c d _ _ _;cases h with
  |mk h=>
   refine(eM (d _ _ (l _ _ h))).bind ?_;rintro f g sh _ rfl;cases sh with
   |none=>exact al
   |some es=>
    obtain⟨e,n⟩:=es;simp only[show(ah P fs).cellsOf e=P.cellsOf e from rfl,show(ah P fs).bytesOf e=P.bytesOf e from rfl,show(ah P fs).depth=P.depth from rfl,fQ];split
    ·exact ai rfl
    ·split
     ·exact ai rfl
     ·exact al
def Iy{a A}(h:aN π a A)(c b):(SR S (ah P fs) P) AQ π (partAt a c b) (partAt A c b):=by
 unfold partAt;refine(iC h).bind ?_;rintro e l n _ rfl;cases h with
 |mk h=>
  refine(iC (.mk (l _ _ h))).bind ?_;rintro f d m _ rfl;simp only[];split
  ·exact ai (.mk (d _ _ (l _ _ h)))
  ·exact ai (.mk (d _ _ (l _ _ h)))
def xR{a A}(h:aN π a A)(f):(SR S (ah P fs) P) AQ π (fieldPlace a f) (fieldPlace A f):=by
 unfold fieldPlace;refine(bE f.type).bind ?_;rintro b l n _ rfl;split
 ·exact Iy (h.mono l) _ _
 ·exact ai ((h.mono l).add _)
def lD{x X}(h:av π x X)(y c):(SR S (ah P fs) P) EqQ π (Instr.sliceBound x y c) (Instr.sliceBound X y c):=by
 unfold Instr.sliceBound;refine(ks h).bind ?_;rintro a l ⟨k,i⟩ _ rfl;simp only[];split
 ·exact ai rfl
 ·exact dR
def eZ(b len cap){p q r s mx e}(t:dF (av π) p q)(u:dF (av π) r s)(i:dF (av π) mx e):
 (SR S (ah P fs) P) EqQ π (Instr.sliceBounds b len cap p r mx) (Instr.sliceBounds b len cap q s e):=by
 unfold Instr.sliceBounds;have e3:e.isSome=mx.isSome:=by cases i<;>rfl
 simp only[e3];have w:∀{c:Type} (o O:Option Value),dF (av π) o O->∀(f g:Value->Sem c) (x y:Sem c) (a:Ren P.globals.size) (Q:Ren P.globals.size->c->c->Prop),Ren.le π a->(∀v V,av a v V->(SR S (ah P fs) P) Q a (f v) (g V))->(SR S (ah P fs) P) Q a x y->
  (SR S (ah P fs) P) Q a (match o with|some v=>f v|none=>x) (match O with|some v=>g v|none=>y):=by
  intro c o O h f g x y a Q l z A;cases h with
  |none=>exact A
  |some h=>exact z _ _ (h.mono l)
 refine w mx e i _ _ _ _ π EqQ (Ren.le_refl _) (λv V B=>?_) ?_;all_goals
  refine SR.bind (Q₁:=EqQ) (by first|exact lD B _ _|exact ai rfl) ?_;rintro a l m _ rfl;have j:=t.mono λ_ _ x=>x.mono l;have k:=u.mono λ_ _ x=>x.mono l;have n:=i.mono λ_ _ x=>x.mono l;cases k<;>cases n<;>simp only[];all_goals
   refine SR.bind (Q₁:=EqQ) (by first|exact lD (by assumption) _ _|exact ai rfl|exact al) ?_;rintro C D h _ rfl;have d:=j.mono λ_ _ x=>x.mono D;cases d<;>simp only[];all_goals
    refine SR.bind (Q₁:=EqQ) (by first|exact lD (by assumption) _ _|exact ai rfl) ?_;rintro E F G _ rfl;exact ai rfl
def ku{x X}(h:av π x X)(c):(SR S (ah P fs) P) (λ_ a b=>a=b/\a=0) π (Instr.sliceBound x 0 c) (Instr.sliceBound X 0 c):=by
 unfold Instr.sliceBound;refine(ks h).bind ?_;rintro d l ⟨k,i⟩ _ rfl;simp only[];split
 ·exact ai ⟨rfl,by omega⟩
 ·exact dR
def uq(b){g i j k mx d}(o:dF (av π) g i)(p:dF (av π) j k)(n:dF (av π) mx d):
 (SR S (ah P fs) P) (λ_ a b=>a=b/\a=(0,0,0)) π (Instr.sliceBounds b 0 0 g j mx) (Instr.sliceBounds b 0 0 i k d):=by
 unfold Instr.sliceBounds;have e3:d.isSome=mx.isSome:=by cases n<;>rfl
 simp only[e3];cases n<;>simp only[];all_goals
  refine SR.bind (Q₁:=λ_ a b=>a=b/\a=0) (by first|exact ku (by assumption) _|exact ai ⟨rfl,rfl⟩) ?_;rintro q l m _ ⟨rfl,rfl⟩;have e:=o.mono λ_ _ x=>x.mono l;have f:=p.mono λ_ _ x=>x.mono l;cases f<;>simp only[];all_goals
   refine SR.bind (Q₁:=λ_ a b=>a=b/\a=0) (by first|exact ku (by assumption) _|exact ai ⟨rfl,rfl⟩|exact al) ?_;rintro r s h _ ⟨rfl,rfl⟩;have c:=e.mono λ_ _ x=>x.mono s;cases c<;>simp only[];all_goals
    refine SR.bind (Q₁:=λ_ a b=>a=b/\a=0) (by first|exact ku (by assumption) _|exact ai ⟨rfl,rfl⟩) ?_;rintro t u v _ ⟨rfl,rfl⟩;exact ai ⟨rfl,rfl⟩
def KG{x X}(t)(m:av π x X){s u v w mx p}(f:dF (av π) s u)(g:dF (av π) v w)(h:dF (av π) mx p):
 (SR S (ah P fs) P) VQ π (Instr.slice t x s v mx) (Instr.slice t X u w p):=by
 unfold Instr.slice;refine(aA t).bind ?_;rintro B l d _ ⟨rfl,_⟩;have m:=m.mono l;have f:=f.mono λ_ _ x=>x.mono l;have g:=g.mono λ_ _ x=>x.mono l;have h:=h.mono λ_ _ x=>x.mono l;have e3:p.isSome=mx.isSome:=by cases h<;>rfl
 cases d with
 |string=>
  cases m<;>simp only[]<;>try exact al
  rw[e3];split
  ·exact .never (ey _ _ (.inl (.halt _)))
  ·refine(eZ false _ _ f g dF.none).bind ?_
   rintro i e ⟨a,b,c⟩ _ rfl;exact ai (.string _)
 |slice elem=>
  cases m<;>simp only[]<;>try exact al
  ·rename_i len cap
   refine(eZ true _ _ f g h).bind ?_;rintro i e ⟨a,b,c⟩ _ rfl;refine(bE elem).bind ?_;rintro j o n _ rfl;refine ai ?_;simp only[Option.map_none,ite_self];exact .im _ _
  ·rename_i a A len cap k
   refine(eZ true _ _ f g h).bind ?_;rintro i e ⟨y,b,c⟩ _ rfl;refine(bE elem).bind ?_;rintro j o n _ rfl;refine ai ?_;simp only[SQ];split
   ·exact .slice _ _ ((k.mono e).mono o)
   ·exact .slice _ _ (((k.mono e).mono o).add _)
  ·refine(uq true f g h).bind ?_
   rintro i e ⟨y,b,c⟩ _ ⟨rfl,e0⟩;cases e0;refine(bE elem).bind ?_;rintro j o n _ rfl;exact ai (.pM _)
 |pointer q=>
  simp only[];refine(yN m).bind ?_;intro z r a A k;refine(aA q).bind ?_;rintro i e d _ ⟨rfl,C⟩;clear C;have f:=f.mono λ_ _ x=>(x.mono r).mono e;have g:=g.mono λ_ _ x=>(x.mono r).mono e;have h:=h.mono λ_ _ x=>(x.mono r).mono e;cases d<;>simp only[]<;>try exact al
  rename_i n elem;refine(eZ false _ _ f g h).bind ?_;rintro j o ⟨y,b,c⟩ _ rfl;refine(bE elem).bind ?_;rintro D E n _ rfl;refine ai ?_;have k:=((k.mono e).mono o).mono E;simp only[];split
  ·exact .slice _ _ k
  ·exact .slice _ _ (k.add _)
 |_=>cases m<;>exact al
def E2{x X}(t)(h:av π x X){k m o p q r}(e:dF (av π) k m)(f:dF (av π) o p)(g:dF (av π) q r):
 (SR S (ah P fs) P) VQ π (Instr.sliceAt t x k o q) (Instr.sliceAt t X m p r):=by
 unfold Instr.sliceAt;refine(aA t).bind ?_;rintro u l d _ ⟨rfl,v⟩;clear v;have h:=h.mono l;have e:=e.mono λ_ _ x=>x.mono l;have f:=f.mono λ_ _ x=>x.mono l;have g:=g.mono λ_ _ x=>x.mono l;cases d<;>simp only[]<;>try exact KG t h e f g
 rename_i n elem;refine(jk h).bind ?_;intro s j a A i;have e:=e.mono λ_ _ x=>(x.mono j)
 have f:=f.mono λ_ _ x=>(x.mono j)
 have g:=g.mono λ_ _ x=>(x.mono j)
 refine(eZ false _ _ e f g).bind ?_;rintro w y ⟨C,b,c⟩ _ rfl;refine(bE elem).bind ?_;rintro z B n _ rfl;refine ai ?_;have i:=(i.mono y).mono B;simp only[];split
 ·exact .slice _ _ i
 ·exact .slice _ _ (i.add _)
def j5(t:TypeId)(k:IntKind)(i:Int)(base:Option Addr)(len:Nat)(elem:TypeId):Sem Value:=do
 let b:=len<=1&&(match <-underlying t with| .array .. =>true|_=>false)
 match base with
 |some a=>
  if 0<=i/\i<len then pure (.pointer (some (a.add (i.toNat*(<-sizeOf elem)))))
  else if b then unsupported (.noEntry "op/indexAddr.an index out of range at an array of length 0 or 1 (ledger 616)")
  else boundsPanic k i len .index
 |none=>boundsPanic k i 0 .index
def mL(t k i){a A}(len elem)(b:dF (aN π) a A):(SR S (ah P fs) P) VQ π (j5 t k i a len elem) (j5 t k i A len elem):=by
 unfold j5;refine(aA t).bind ?_;rintro c d d' _ ⟨rfl,_⟩;cases b with
 |none=>exact dR
 |some b=>
  simp only[];split
  ·refine(bE elem).bind ?_
   rintro e f n _ rfl;exact ai (.ptr (((b.mono d).mono f).add _))
  ·split<;>split<;>first|exact aC|exact dR
def xS(t k i){a A:Addr}(elem):(SR S (ah P fs) P) VQ π (j5 t k i (some a) 0 elem) (j5 t k i (some A) 0 elem):=by unfold j5;refine(aA t).bind ?_;rintro b c d' _ ⟨rfl,_⟩;simp only[];rw[RY (by omega)];split<;>first|exact aC|exact dR
def E3{x X i I}(t)(b:av π x X)(j:av π i I):(SR S (ah P fs) P) VQ π (Instr.indexAt t x i) (Instr.indexAt t X I):=by
 unfold Instr.indexAt;refine(ks j).bind ?_;rintro m l ⟨k,i⟩ _ rfl;refine(aA t).bind ?_;rintro n o d _ ⟨rfl,p⟩;clear p;have b:=(b.mono l).mono o;have g:∀{q r:Type} (f:q->Sem r) (h:String),dK (stuck h>>= f):=λf h=>ey _ _ (.inl (.halt _));cases d with
 |array len elem=>refine(jk b).bind ?_;intro s u a A e;exact mL t k i len elem (.some e)
 |slice elem=>
  cases b with
  |im len c=>exact mL t k i len elem .none
  |slice len c e=>exact mL t k i len elem (.some e)
  |pM A=>exact xS t k i elem
  |_=>exact .never (g _ _)
 |_=>exact .never (g _ _)
def KH{x X i I}(t)(a:av π x X)(b:av π i I):(SR S (ah P fs) P) VQ π (Instr.index t x i) (Instr.index t X I):=by
 unfold Instr.index;refine(ks b).bind ?_;rintro c l ⟨k,i⟩ _ rfl;refine(aA t).bind ?_;rintro e f d _ ⟨rfl,m⟩;have a:=(a.mono l).mono f;cases d with
 |array len elem=>
  cases a<;>simp only[]<;>try exact al
  rename_i s h;split
  ·refine(bE elem).bind ?_
   rintro g j n _ rfl;exact fS elem _ (VsR.mono j ⟨s,h⟩)
  ·exact dR
 |string=>
  cases a<;>simp only[]<;>try exact al
  split
  ·exact ai (.int _ _)
  ·exact dR
 |_=>cases a<;>exact al
def KI{x X}(t f)(b:av π x X):(SR S (ah P fs) P) VQ π (Instr.field t x f) (Instr.field t X f):=by
 unfold Instr.field;refine(aA t).bind ?_;rintro e g d _ ⟨rfl,j⟩;cases d<;>simp only[]<;>try exact al
 rename_i a;split
 ·refine(KF (b.mono g)).bind ?_
  intro h k c C i;exact fS _ _ i
 ·exact al
def E4{x X}(i)(b:av π x X):(SR S (ah P fs) P) VQ π (Instr.extract x i) (Instr.extract X i):=by
 unfold Instr.extract;cases b with
 | @tuple c C s h=>
  simp only[];have a:=(aV.get ⟨s,h⟩ i:dF (av π) c[i]? C[i]?)
  revert a
  generalize c[i]? =u;generalize C[i]? =v;intro a;cases a with
  |none=>exact al
  |some r=>exact ai r
 |_=>exact al
end
section
variable {S:Kn} {P:Program} {fs:Array Func} {G:Nat} {π:Ren P.globals.size} {ρ:Ren G}
def aB{a b s}{f:a->Sem b}(h:dK s):dK (s>>= f):=ey _ _ (.inl h)
def bz{b c s}{f:b->Sem c}(d:cE s)(h:∀a,dK (f a)):dK (s>>= f):=ey _ _ (.inr ⟨d,h⟩)
def dj{a}(h):dK (stuck h:Sem a):=.halt _
def bG{a:Type}(h:Unsupported)(b:fX (.unsupported h):=by exact True.intro):dK (unsupported h:Sem a):=.halt _ b
def E5{x X}(s f)(e:av π x X):(SR S (ah P fs) P) VQ π (Instr.fieldAt s x f) (Instr.fieldAt s X f):=by
 unfold Instr.fieldAt;refine(aA s).bind ?_;rintro g h d _ ⟨rfl,n⟩;cases d<;>simp only[]<;>try exact al
 rename_i c;cases o:c[f]? with
 |none=>exact al
 |some i=>simp only[];refine(jk (e.mono h)).bind ?_;intro j p a A k;exact(xR k i).bind λl q b B m=>ai (.ptr m)
def pU(b):Plain (.bool b):=λ_ _=>.bool b
def xT:Plain (default:Value):=λ_ π=>by show av π (Value.bool default) (Value.bool default);exact .bool _
def bg(c:Array Value):Prop:=∀(i:Nat) v,c[i]? =some v->Plain v
def bg.refl{c}(h:bg c)(ρ:Ren G):VsR ρ c c:=⟨rfl,λi x y a b=>by rw[a]at b;cases b;exact h i x a _ ρ⟩
def Plain.cells{v}(h:Plain v):bg v.cells:=λi x a G π=>((h G π).cells).2 i x x a a
def bg.getD{c}(h:bg c)(i:Nat):Plain c[i]! :=by
 rw[getElem!_def];cases e:c[i]? with
 |none=>exact xT
 |some v=>exact h i v e
def bg.spread{c}(h:bg c)(n m):bg ((Array.range n).map λi=>c[i%m]!):=by
 intro i v a;rw[SG]at a;cases e:(Array.range n)[i]? with
 |none=>rw[e]at a;simp at a
 |some k=>rw[e]at a;simp at a;subst a;exact h.getD _
def bg.empty:bg #[]:=λi v h=>by simp at h
def KJ(c:dx P)(t):(SR S (ah P fs) P) VQ π (Instr.alloc t true (.tuple #[])) (Instr.alloc t true (.tuple #[])):=by unfold Instr.alloc;refine(dY c t).bind ?_;rintro b l z _ ⟨rfl,d⟩;simp only[];refine(yL t (d _ b)).bind ?_;rintro e g a A f;exact ai (.ptr f)
def OX{v V}(t)(h:av π v V):(SR S (ah P fs) P) VQ π (Instr.box t v) (Instr.box t V):=by unfold Instr.box;refine(yL t h).bind ?_;rintro b d a A c;exact ai (.ptr c)
abbrev kU{G}(π:Ren G):Nat×Value->Nat×Value->Prop:=λa b=>a.1=b.1/\av π a.2 b.2
def Iz{l L:List (Value×Nat)}(h:bh (λa b=>av ρ a.1 b.1/\a.2=b.2) l L):∀{c C:Array Value} (d:Nat),VsR ρ c C->
 VsR ρ (l.foldl (λcs (c,j)=>cs.setIfInBounds (d+j) c) c) (L.foldl (λcs (c,j)=>cs.setIfInBounds (d+j) c) C):=by
 induction h with
 |nil=>exactλ_ h=>h
 | @cons x y l m e _ f=>intro c C d g;obtain⟨v,j⟩:=x;obtain⟨V,J⟩:=y;obtain⟨i,rfl⟩:=e;exact f d (g.set _ i)
def E6{l L}(h:bh (av ρ) l L):∀n,bh (λa b=>av ρ a.1 b.1/\a.2=b.2) (l.zipIdx n) (L.zipIdx n):=by
 induction h with
 |nil=>exactλ_=>.nil
 |cons c _ d=>exactλn=>by simp only[List.zipIdx_cons];exact .cons ⟨c,rfl⟩ (d _)
def vi(a){l L}(h:bh (kU ρ) l L):∀{c C},VsR ρ c C->dF (VsR ρ) (Instr.fill a c l) (Instr.fill a C L):=by
 induction h with
 |nil=>exactλh=>.some h
 | @cons x y l m b _ k=>
  intro c C f;obtain⟨i,v⟩:=x;obtain⟨j,V⟩:=y;obtain⟨g,d⟩:=b;simp only[]at g d;subst g;unfold Instr.fill;cases a i with
  |none=>exact .none
  |some os=>
   obtain⟨e,size⟩:=os;simp only[];rw[<-d.cells.1,<-f.1];split
   ·exact .none
   ·refine k ?_
    rw[<-Ux,<-Ux,Array.toList_zipIdx,Array.toList_zipIdx];exact Iz (E6 d.cells.toList 0) e f
def vl(a:List Field):(SR S (ah P fs) P) EqQ π (a.mapM λf=>do pure (f.offset,<-sizeOf f.type)) (a.mapM λf=>do pure (f.offset,<-sizeOf f.type)):=by
 induction a generalizing π with
 |nil=>exact ai rfl
 |cons f l c=>
  simp only[List.mapM_cons];refine SR.bind (Q₁:=EqQ) ((bE f.type).bind ?_) ?_
  ·rintro b l n _ rfl;exact ai rfl
  rintro b e x _ rfl;refine c.bind ?_;rintro d g y _ rfl;exact ai rfl
def KL{i j d e Q}{Q':Ren P.globals.size->d->e->Prop}{s t}{f:i->d}{g:j->e}(h:(SR S (ah P fs) P) Q π s t)(k:∀c a b,Q c a b->Q' c (f a) (g b)):(SR S (ah P fs) P) Q' π (Functor.map f s) (Functor.map g t):=by rw[map_eq_pure_bind,map_eq_pure_bind];exact h.bind λc l a b q=>ai (k _ _ _ q)
def KM(p:dx P)(t){g PS}(h:aV (kU π) g PS):(SR S (ah P fs) P) VQ π (Instr.build t g) (Instr.build t PS):=by
 unfold Instr.build;refine(dY p t).bind ?_;rintro q l z _ ⟨rfl,m⟩;refine(aA t).bind ?_;rintro f s d _ ⟨rfl,_⟩;have h:aV (kU f) g PS:=(h.mono λ_ _ x=>⟨x.1,(x.2.mono l).mono s⟩)
 have o:=h.toList;cases d<;>simp only[]<;>try exact al
 ·rename_i n elem _
  refine(bE _).bind ?_;rintro a j size _ rfl;have:=vi (λi=>some (i*size,size)) (o.mono λ_ _ (x:kU f _ _)=>(⟨x.1,x.2.mono j⟩:kU a _ _)) (m _ a).cells
  revert this
  generalize Instr.fill _ _ _=u;generalize Instr.fill _ _ _=v;intro k;cases k with
  |none=>exact al
  |some r=>exact ai (av.EH r)
 ·rename_i b _
  refine SR.bind (Q₁:=EqQ) ?_ ?_
  ·obtain⟨w⟩:=b
   rw[List.mapM_toArray];exact KL (vl w) λ_ _ _ e=>by rw[show _=_ from e]
  rintro a j c _ rfl;have:=vi (c[·]?) (o.mono λ_ _ (x:kU f _ _)=>(⟨x.1,x.2.mono j⟩:kU a _ _)) (m _ a).cells
  revert this
  generalize Instr.fill _ _ _=u;generalize Instr.fill _ _ _=v;intro k;cases k with
  |none=>exact al
  |some r=>exact ai (av.EH r)
def xU(k:dx P)(t n){f PS}(h:aV (kU π) f PS):(SR S (ah P fs) P) VQ π (Instr.buildSlice t n f) (Instr.buildSlice t n PS):=by
 unfold Instr.buildSlice;refine(aA t).bind ?_;rintro c l d _ ⟨rfl,_⟩;have h:aV (kU c) f PS:=(h.mono λ_ _ x=>⟨x.1,(x.2.mono l)⟩)
 have m:=h.toList;cases d<;>simp only[]<;>try exact al
 rename_i elem _;refine(bE _).bind ?_;rintro e o size _ rfl;split
 ·exact .never (aB (bG _))
 have key:∀(b:Ren P.globals.size),Ren.le e b->∀zero:Array Value,bg zero->(SR S (ah P fs) P) VQ b
  (do let some cells:=Instr.fill (λi=>some (i*size,size)) ((Array.range (n*size)).map (zero[· %zero.size]!)) f.toList|stuck "buildSlice: a part of the wrong size"
      pure (.slice (some (<-newRow elem cells)) n n))
  (do let some cells:=Instr.fill (λi=>some (i*size,size)) ((Array.range (n*size)).map (zero[· %zero.size]!)) PS.toList|stuck "buildSlice: a part of the wrong size"
      pure (.slice (some (<-newRow elem cells)) n n)):=by
  intro b g zero j;have:=vi (λi=>some (i*size,size)) (m.mono λ_ _ (x:kU c _ _)=>(⟨x.1,(x.2.mono o).mono g⟩:kU b _ _)) ((j.spread (n*size) zero.size).refl b)
  revert this
  generalize Instr.fill _ _ _=u;generalize Instr.fill _ _ _=v;intro p;cases p with
  |none=>exact al
  |some r=>refine(iB elem r).bind ?_;rintro q w a A s;exact ai (.slice _ _ s)
 split
 ·exact key e (Ren.le_refl _) #[] .empty
 ·refine(dY k elem).bind ?_
  rintro b g z _ ⟨rfl,j⟩;exact key b g _ j.cells
def Ck{fn a f F c C}(h:FnR π fn a)(b:VsR π f F)(d:VsR π c C):(SR S (ah P fs) P) VQ π (Instr.makeFunc fn f c) (Instr.makeFunc a F C):=ai (.func h b.1 b.2 d.1 d.2)
def E7(t){r R}(h:dF (av π) r R):(SR S (ah P fs) P) VQ π (Instr.makeMap t r) (Instr.makeMap t R):=by
 unfold Instr.makeMap;have fin:∀b:Ren P.globals.size,(SR S (ah P fs) P) VQ b (do pure (.map (some (<-newObj (.map #[] 0)))):Sem Value) (do pure (.map (some (<-newObj (.map #[] 0))))):=λb=>by refine(gI (.map 0 .empty)).bind ?_;rintro c j a A e;exact ai (.map e)
 cases h with
 |none=>exact fin _
 |some h=>
  simp only[];refine(aA t).bind ?_;rintro f g d _ ⟨rfl,_⟩;cases d<;>simp only[]<;>try exact al
  refine(ji (h.mono g)).bind ?_;rintro i k _ _ _;exact fin _
def sC{v V}(t)(h:av π v V):(SR S (ah P fs) P) VQ π (Instr.makeInterface t v) (Instr.makeInterface t V):=by unfold Instr.makeInterface;refine(aA t).bind ?_;rintro a b d _ ⟨rfl,_⟩;cases d<;>first|exact al|exact ai (.iface t (h.mono b))
def Ae(k:dx P)(t){a A b B}(f:av π a A)(m:av π b B):(SR S (ah P fs) P) VQ π (Instr.makeSlice t a b) (Instr.makeSlice t A B):=by
 unfold Instr.makeSlice;refine(aA t).bind ?_;rintro o j d _ ⟨rfl,_⟩;cases d<;>simp only[]<;>try exact al
 rename_i elem _;refine(ji (f.mono j)).bind ?_;rintro p q len _ rfl;refine(ji ((m.mono j).mono q)).bind ?_;rintro r x cap _ rfl;refine(di elem).bind ?_;rintro g s i _ ⟨rfl,_⟩;have fin:∀(c:Ren P.globals.size) (n l:Nat) (zero:Array Value),bg zero->(SR S (ah P fs) P) VQ c (do let a <-newRow elem ((Array.range n).map (zero[· %zero.size]!));pure (.slice (some a) l (IntKind.i64.wrap cap).toNat):Sem Value)
  (do let a <-newRow elem ((Array.range n).map (zero[· %zero.size]!));pure (.slice (some a) l (IntKind.i64.wrap cap).toNat)):=by
  intro c n l zero h;refine(iB elem ((h.spread n zero.size).refl c)).bind ?_;rintro g s a A f;exact ai (.slice _ _ f)
 have e:∀(c:Ren P.globals.size),(SR S (ah P fs) P) VQ c (do
  askRoom ((IntKind.i64.wrap cap).toNat*i.bytes)
  let n:=(IntKind.i64.wrap cap).toNat*(<-sizeOf elem);let zero <-if n=0 then pure #[]else do pure (<-zeroValue elem).cells
  let a <-newRow elem ((Array.range n).map (zero[· %zero.size]!))
  pure (.slice (some a) (IntKind.i64.wrap len).toNat (IntKind.i64.wrap cap).toNat):Sem Value) (do
  askRoom ((IntKind.i64.wrap cap).toNat*i.bytes)
  let n:=(IntKind.i64.wrap cap).toNat*(<-sizeOf elem);let zero <-if n=0 then pure #[]else do pure (<-zeroValue elem).cells
  let a <-newRow elem ((Array.range n).map (zero[· %zero.size]!))
  pure (.slice (some a) (IntKind.i64.wrap len).toNat (IntKind.i64.wrap cap).toNat)):=by
  intro c;refine(pT _).bind ?_;rintro u y _ _ _;refine(bE elem).bind ?_;rintro v C D _ rfl;simp only[];split
  ·exact fin _ _ _ #[] .empty
  ·refine(dY k elem).bind ?_
   rintro w E z _ ⟨rfl,h⟩;exact fin _ _ _ _ h.cells
 split
 ·split
  ·exact .never (aB (aF _))
  ·split
   ·exact .never (aB (aF _))
   ·exact .never (bz (.choose _) λa=>aB (aF _))
 ·exact e _
def Calm(s:Sem Value):Prop:=dK s\/∃v,Plain v/\s=pure v
def Calm.sr{s}(h:Calm s):(SR S (ah P fs) P) VQ π s s:=by
 obtain h|⟨v,a,rfl⟩:=h
 ·exact .never h
 ·exact ai (a _ π)
def Calm.int(k n):Calm (pure (.int k n)):=.inr ⟨_,λ_ _=>.int k n,rfl⟩
def Calm.bool(b):Calm (pure (.bool b)):=.inr ⟨_,λ_ _=>.bool b,rfl⟩
def Calm.string(s):Calm (pure (.string s)):=.inr ⟨_,λ_ _=>.string s,rfl⟩
def Calm.stuck(s):Calm (stuck s):=.inl (.halt _)
def Calm.unsupported(s:Unsupported)(a:fX (.unsupported s):=by exact True.intro):Calm (unsupported s):=.inl (.halt _ a)
def pj(a k x y):Calm (Op.intArith a k x y):=by cases a<;>first|exact .int _ _|exact .stuck _
def Cl(a x y):Calm (Op.intCmp a x y):=by cases a<;>first|exact .bool _|exact .stuck _
def Cm(a k x y):Calm (Op.intDiv a k x y):=by
 unfold Op.intDiv;split
 ·exact .inl (aF _)
 ·cases a<;>first|exact .int _ _|exact .stuck _
def qM(a k x y):Calm (Op.intBits a k x y):=by unfold Op.intBits;cases a<;>first|exact .int _ _|exact .stuck _
def vn(a k x b y):Calm (Op.shift a k x b y):=by
 unfold Op.shift;split
 ·exact .inl (aF _)
 ·cases a<;>first|exact .int _ _|exact .stuck _
def pk(a x y):Calm (Op.stringOp a x y):=by unfold Op.stringOp;cases a<;>simp only[]<;>first|exact .bool _|exact .stuck _|(split<;>first|exact .string _|exact .unsupported _)
def KN{x X}(a)(h:av π x X):(SR S (ah P fs) P) VQ π (Op.unary a x) (Op.unary a X):=by
 cases h<;>cases a<;>first
  |exact al
  |exact aC
  |exact(pj _ _ _ _).sr
  |exact(qM _ _ _ _).sr
  |exact ai (av.int _ _)
  |exact ai (.bool _)
  |exact ai (.float _ _)
  |exact ai (.complex _ _ _)
def KO{d σ τ:Type}{T:Ren P.globals.size->σ->τ->Prop}(mono:∀π c a b,Ren.le π c->T π a b->T c a b)(l:List d)(f:d->σ->Sem (ForInStep σ))(g:d->τ->Sem (ForInStep τ))
 (h:∀(π:Ren P.globals.size) a s t,T π s t->(SR S (ah P fs) P) (λc x y=>(∃u v,x=.yield u/\y=.yield v/\T c u v)\/(∃u v,x=.done u/\y=.done v/\T c u v)) π (f a s) (g a t)):
 ∀(π:Ren P.globals.size) (s:σ) (t:τ),T π s t->(SR S (ah P fs) P) T π (forIn l s f) (forIn l t g):=by
 induction l with
 |nil=>intro π s t e;simp only[List.forIn_nil];exact ai e
 |cons a l j=>
  intro π s t e;simp only[Vl];refine(h π a s t e).bind ?_;rintro c k x y (⟨u,v,rfl,rfl,i⟩|⟨u,v,rfl,rfl,i⟩)
  ·exact j c u v i
  ·exact ai i
def oN{a A}(h:aN π a A):(SR S (ah P fs) P) (λ_ b B=>B=true->b=true) π (frozen a) (frozen A):=.frozen h λ_ _ x=>.pure x
def qN{a A}(h:aN π a A):(SR S (ah P fs) P) (λ_ b B=>B=true->b=true) π (stringish a) (stringish A):=by
 unfold stringish;cases h with
 | @mk r s o p h=>
  have key:∀c,Ren.le π c->(SR S (ah P fs) P) (λ_ b B=>B=true->b=true) c (do match <-shape r with|some (_,n)=>frozen {block:=r,off:=n}|none=>pure false:Sem Bool) (do match <-shape s with|some (_,n)=>frozen {block:=s,off:=n}|none=>pure false):=by
   intro c l;refine(eM (l _ _ h)).bind ?_;rintro e f x _ rfl;split
   ·exact oN (.mk (f _ _ (l _ _ h)))
   ·exact ai (by simp)
  refine(oN (.mk h)).bind ?_;intro c l b B g;have d:=key c l;cases b<;>cases B<;>simp only[Ss,Sp,Sj]
  ·exact d
  ·simp at g
  ·refine .rU λx=>?_
   cases x with
   |none=>exact ai (by simp)
   |some y=>exact .oL λz=>ai (by simp)
  ·exact ai (by simp)
def vo{r s:Nat}(h:π r s):(SR S (ah P fs) P) EqQ π (do pure ((<-shape r) matches some (_,0)):Sem Bool) (do pure ((<-shape s) matches some (_,0))):=by refine(eM h).bind ?_;rintro a b x _ rfl;exact ai rfl
def Cn{a A b B}(d:aN π a A)(e:aN π b B):(SR S (ah P fs) P) (λ_ m M=>M=true->m=true) π (mayBeOne a b) (mayBeOne A B):=by
 unfold mayBeOne;refine(qN d).bind ?_;intro g c i j k;refine(qN (e.mono c)).bind ?_;intro l f sb n hsb;refine SR.bind (Q₁:=EqQ) ?_ ?_
 ·cases d with|mk h=>exact vo (f _ _ (c _ _ h))
 rintro o p r _ rfl;refine SR.bind (Q₁:=EqQ) ?_ ?_
 ·cases e with|mk h=>exact vo (p _ _ (f _ _ (c _ _ h)))
 rintro q s t _ rfl;refine ai ?_;cases i<;>cases j<;>cases sb<;>cases n<;>simp_all
def aN.eq{a A b B}(d:aN ρ a A)(f:aN ρ b B):(a.block==b.block)=(A.block==B.block)/\(a==b)=(A==B):=by
 cases d with
 | @mk r s o p h=>
  cases f with
  | @mk g s' o' i c=>
   have e:r=g↔s=s':=⟨λe=>by subst e;exact ρ.fn _ _ _ h c,λe=>by subst e;exact ρ.inj _ _ _ h c⟩
   constructor
   ·rw[Tu];simp[e]
   ·rw[Tu];simp[e]
def tC{a A b B}(c:aN π a A)(d:aN π b B):(SR S (ah P fs) P) EqQ π (sameAddr a b) (sameAddr A B):=by
 unfold sameAddr;rw[(c.eq d).1,(c.eq d).2];split
 ·exact ai rfl
 refine(oN c).bind ?_;intro o g p v i;refine(oN (d.mono g)).bind ?_;intro q k fb w hfb;by_cases e:(p&&fb)=true
 ·rw[RZ e];exact .never (aB (bG _))
 rw[RY e,RY (by simp only[Sf]at e⊢;exactλh=>e ⟨i h.1,hfb h.2⟩)];have c:=(c.mono g).mono k;have d:=(d.mono g).mono k;refine(sx c).bind ?_;intro r j _ _ _;refine(sx (d.mono j)).bind ?_;intro s l _ _ _;refine(Cn ((c.mono j).mono l) ((d.mono j).mono l)).bind ?_;intro t x m M y;cases m with
 |false=>
  have:M=false:=by cases M<;>simp_all
  subst this;exact ai rfl
 |true=>
  cases M with
  |true=>refine(ep _).bind ?_;rintro u z n _ rfl;exact ai rfl
  |false=>
   refine .mF 0 (n:=0) (λf C h=>by cases h) ?_ ?_
   ·rfl
   ·exact ai rfl
def vp{a A b B}(c:dF (aN π) a A)(d:dF (aN π) b B):(SR S (ah P fs) P) EqQ π (samePointer a b) (samePointer A B):=by cases c<;>cases d<;>first|exact ai rfl|exact tC (by assumption) (by assumption)
end
end Go.Tm

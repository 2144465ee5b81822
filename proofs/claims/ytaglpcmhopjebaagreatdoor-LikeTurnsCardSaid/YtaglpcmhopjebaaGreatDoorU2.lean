import Derived.Laws.Sem
import Derived.Test.YtaglpcmhopjebaaGreatDoorU1
set_option linter.all false
set_option maxRecDepth 100000
set_option maxHeartbeats 20000000
namespace Go.Tm
def Plain(v:Value):Prop:=∀(G:Nat) (π:Ren G),aA π v v
def dJ(P:Program):Prop:=∀t i z,P.info? t=some i->i.zero=some z->Plain z
abbrev VQ{G}:Ren G->Value->Value->Prop:=λπ v V=>aA π v V
abbrev EqQ{G}{c:Type}:Ren G->c->c->Prop:=λ_ a b=>a=b
abbrev AQ{G}:Ren G->Addr->Addr->Prop:=λπ a A=>aS π a A
abbrev VsQ{G}:Ren G->Array Value->Array Value->Prop:=λπ a A=>VsR π a A
section
variable {S:Kn} {P:Program} {fs:Array Func} {π:Ren P.globals.size}
def al{a b Q h}{s:Sem b}:(SR S (ah P fs) P) Q π (stuck h:Sem a) s:=.never (.halt _)
def aD{a b:Type}{Q:Ren P.globals.size->a->b->Prop}{h:Unsupported}{s:Sem b}(c:gH (.unsupported h):=by exact True.intro):(SR S (ah P fs) P) Q π (unsupported h:Sem a) s:=.never (.halt _ c)
def ai{c d Q}{a:c}{b:d}(h:Q π a b):(SR S (ah P fs) P) Q π (pure a) (pure b):=.pure h
def wT{a}{s:Sem a}(h:cW s:=by repeat' (first|with_reducible exact cW.unsupported _ (by with_unfolding_all exact True.intro)|with_reducible first
 |exact cW.stuck _|exact cW.pure _|exact cW.program|exact cW.choose _|exact cW.shape _|exact cW.frozen _|exact cW.mark _|exact cW.newObj _|exact cW.sys _|assumption
 |refine cW.ite ?_ ?_|refine cW.bind ?_ λ_=>?_|dsimp only|split)):cW s:=h
def yX(t):cW (typeInfo t):=by unfold typeInfo;exact wT
def du(t):cW (underlying t):=by unfold underlying;exact wT
def Dy(t):cW (elemOf t):=by unfold elemOf;refine cW.bind (du t) λ_=>?_;exact wT
def Dz(t v):cW (newVar t v):=by unfold newVar newRow;exact wT
def rI(t):cW (typeStr t):=by unfold typeStr;refine cW.bind (yX t) λ_=>?_;exact wT
def pS{a}(v):dR (goPanic v:Sem a):=.halt _
def aG{a}(e):dR (runtimePanic e:Sem a):=by
 unfold runtimePanic;refine eC _ _ (.inr ⟨.program,λp=>?_⟩);cases e<;>simp only[]<;>first
  |exact pS _
  |exact eC _ _ (.inr ⟨Dy _,λ_=>eC _ _ (.inr ⟨Dz _ _,λ_=>pS _⟩)⟩)
def rJ{a}(k x y c):dR (boundsPanic k x y c:Sem a):=by unfold boundsPanic;simp only[];split<;>refine eC _ _ (.inr ⟨?_,λ_=>aG _⟩);exact cW.bind (.choose _) λ_=>.pure _;exact .pure _
def dv{a b Q e}{s:Sem b}:(SR S (ah P fs) P) Q π (runtimePanic e:Sem a) s:=.never (aG e)
def dV{a b Q k x y c}{s:Sem b}:(SR S (ah P fs) P) Q π (boundsPanic k x y c:Sem a) s:=.never (rJ k x y c)
def cE:(SR S (ah P fs) P) (λ_ a b=>ah P fs=a/\P=b) π program program:=.program (.pure ⟨rfl,rfl⟩)
def eu(q:Question)(a:I6 q=false:=by with_unfolding_all rfl):(SR S (ah P fs) P) EqQ π (choose q) (choose q):=.choose (λf b h=>absurd h (L1 a f b)) λ_=>.pure rfl
def qO(n):(SR S (ah P fs) P) (λ_ _ _=>True) π (askRoom n) (askRoom n):=by unfold askRoom;split;exact .noRoom (.pure trivial);exact .pure trivial
def dC(t):(SR S (ah P fs) P) (λ_ a b=>a=b/\P.info? t=some b) π (typeInfo t) (typeInfo t):=by unfold typeInfo;refine cE.bind ?_;rintro c l _ _ ⟨rfl,rfl⟩;rw[JJ];cases h:P.info? t with|none=>exact al|some i=>exact ai ⟨rfl,rfl⟩
def aB(t):(SR S (ah P fs) P) (λ_ a b=>a=b/\P.underlying t=some b) π (underlying t) (underlying t):=by unfold underlying;refine cE.bind ?_;rintro c l _ _ ⟨rfl,rfl⟩;rw[jI];cases h:P.underlying t with|none=>exact al|some i=>exact ai ⟨rfl,rfl⟩
def bL(t):(SR S (ah P fs) P) EqQ π (sizeOf t) (sizeOf t):=by unfold sizeOf;refine(dC t).bind ?_;rintro a l _ _ ⟨rfl,_⟩;exact ai rfl
def DC(t):(SR S (ah P fs) P) EqQ π (isAgg t) (isAgg t):=by unfold isAgg;refine(aB t).bind ?_;rintro b l a _ ⟨rfl,_⟩;split<;>exact ai rfl
def JV(t):(SR S (ah P fs) P) EqQ π (elemOf t) (elemOf t):=by unfold elemOf;refine(aB t).bind ?_;rintro b l a _ ⟨rfl,_⟩;split;exact ai rfl;exact al
def ej(c:dJ P)(t):(SR S (ah P fs) P) (λ_ a b=>a=b/\Plain a) π (zeroValue t) (zeroValue t):=by unfold zeroValue;refine(dC t).bind ?_;rintro d l i _ ⟨rfl,h⟩;cases e:i.zero with|none=>exact aD|some z=>exact ai ⟨rfl,c t i z h e⟩
def rK{a A}(h:aS π a A):(SR S (ah P fs) P) VQ π (load a) (load A):=.load h λ_ _ b=>.pure b
def Mi{a A v V}(h:aS π a A)(b:aA π v V):(SR S (ah P fs) P) EqQ π (store a v) (store A V):=.store h b (.pure rfl)
def ie{o O}(h:fG S π o O):(SR S (ah P fs) P) (λa r R=>a r R) π (newObj o) (newObj O):=.new h λ_ _ _ _ x=>.pure x
def cO{r b}(h:π r b):(SR S (ah P fs) P) (λa o O=>fG S a o O) π (getObj r) (getObj b):=.getObj h λ_ _ c=>.pure c
def ew{r a o O}(h:π r a)(b:∀c e f,o≠ .cells c e f)(d:fG S π o O):(SR S (ah P fs) P) EqQ π (setObj r o) (setObj a O):=.setObj h b d (.pure rfl)
def aS.add{G}{ρ:Ren G}{a A}(h:aS ρ a A)(n):aS ρ (a.add n) (A.add n):=by cases h with|mk h=>unfold Addr.add;split;exact .mk h;exact .mk h
def tH(n):∀{π:Ren P.globals.size} {a A} {acc b} (i),aS π a A->VsR π acc b->(SR S (ah P fs) P) VsQ π (loadCellsFrom a i n acc) (loadCellsFrom A i n b):=by induction n with|zero=>exactλi h c=>ai c|succ n e=>intro π a A acc b i h c;unfold loadCellsFrom;refine(rK (h.add i)).bind ?_;intro f l v V d;exact e (i+1) (h.mono l) ((VsR.mono l c).push d)
def j7{a A}(h:aS π a A)(n):(SR S (ah P fs) P) VsQ π (loadCells a n) (loadCells A n):=tH n 0 h aZ.empty
def lU{c}:∀{π:Ren P.globals.size} {d} {a A} (i),aS π a A->bt (aA π) c d->(SR S (ah P fs) P) EqQ π (storeCells a c i) (storeCells A d i):=by induction c with|nil=>intro π d a A i h b;cases b;exact ai rfl|cons v c f=>intro π d a A i h b;cases b with|cons b e=>unfold storeCells;refine(Mi (h.add i) b).bind ?_;intro g l _ _ _;exact f (i+1) (h.mono l) (e.mono λ_ _ x=>x.mono l)
def aA.cells{G}{ρ:Ren G}{v V}(h:aA ρ v V):VsR ρ v.cells V.cells:=by
 cases h with
 |agg s h=>exact⟨s,h⟩
 |my V a=>(have e:V.cells=#[V]:=by cases V<;>first|rfl|cases a);rw[e];exact aZ.push aZ.empty (.my V a)
 |_=>exact⟨rfl,λi x y b c=>by
  simp only[Value.cells]at b c;obtain _|i:=i
  ·simp at b c;subst b c;first|exact .JH _ _ _|exact .qE _|(constructor<;>assumption)
  ·simp at b⟩
def wU{a A}(t)(h:aS π a A):(SR S (ah P fs) P) VQ π (loadVar t a) (loadVar t A):=by unfold loadVar;refine(DC t).bind ?_;rintro d l b _ rfl;split;refine(bL t).bind ?_;rintro c e n _ rfl;refine(j7 ((h.mono l).mono e) n).bind ?_;intro f i j k g;exact ai (aA.F9 g);exact rK (h.mono l)
def DI{a A v V}(t)(h:aS π a A)(b:aA π v V):(SR S (ah P fs) P) EqQ π (storeVar t a v) (storeVar t A V):=by unfold storeVar;refine(bL t).bind ?_;rintro c l n _ rfl;rw[b.cells.1];split;exact al;exact lU 0 (h.mono l) (b.mono l).cells.toList
def iS{c C}(e)(h:VsR π c C):(SR S (ah P fs) P) AQ π (newRow e c) (newRow e C):=by unfold newRow;refine(ie (.cells e h (.inl rfl))).bind ?_;intro a l r d b;exact ai (.mk b)
def zR{v V}(t)(h:aA π v V):(SR S (ah P fs) P) AQ π (newVar t v) (newVar t V):=iS t h.cells
def kI{v V}(h:aA π v V):(SR S (ah P fs) P) EqQ π (asIntOf v) (asIntOf V):=by cases h<;>first|exact ai rfl|exact al|exact aD
def jy{v V}(h:aA π v V):(SR S (ah P fs) P) EqQ π (asInt v) (asInt V):=by unfold asInt;refine(kI h).bind ?_;rintro a l _ _ rfl;exact ai rfl
def zS{v V}(h:aA π v V):(SR S (ah P fs) P) EqQ π (asBool v) (asBool V):=by cases h<;>first|exact ai rfl|exact al
def Mj{v V}(h:aA π v V):(SR S (ah P fs) P) VsQ π (asAgg v) (asAgg V):=by cases h with|agg s h=>exact ai ⟨s,h⟩|_=>exact al
def zT{v V}(h:aA π v V):(SR S (ah P fs) P) AQ π (asAddr v) (asAddr V):=by cases h with|ptr h=>exact ai h|JG=>exact .never (by unfold asAddr;exact aG _)|_=>exact al
def jA{v V}(h:aA π v V):(SR S (ah P fs) P) AQ π (Instr.sureAddr v) (Instr.sureAddr V):=by cases h with|ptr h=>exact ai h|_=>exact al
def gu{c C}(t a)(h:VsR π c C):(SR S (ah P fs) P) VQ π (part t c a) (part t C a):=by unfold part;refine(DC t).bind ?_;rintro g l b _ rfl;have e:=VsR.mono l h;split;refine(bL t).bind ?_;rintro f i n _ rfl;exact ai (aA.F9 ((VsR.mono i e).extract _ _));have d:=e.get a;revert d;generalize c[a]? =u;generalize C[a]? =v;intro d;cases d with|none=>exact al|some r=>exact ai r
def eQ{r a}(h:π r a):(SR S (ah P fs) P) EqQ π (shape r) (shape a):=.shape h λs=>.pure rfl
abbrev VwR{G}(π:Ren G):Addr×TypeId->Addr×TypeId->Prop:=λx y=>aS π x.1 y.1/\x.2=y.2
def pn{r d}(h:π r d):(SR S (ah P fs) P) (λc a b=>dP (VwR c) a b) π (viewAt r) (viewAt d):=by unfold viewAt;refine(eQ h).bind ?_;rintro c l a _ rfl;split;exact ai .none;refine(cO (l _ _ h)).bind ?_;intro e g o O f;cases f<;>first|exact ai .none|exact ai (.some ⟨by assumption,rfl⟩)
def lB{c d Q}{a:Option c}{b:Option d}(h:dP Q a b):a.isSome=b.isSome:=by cases h<;>rfl
def tI{a A}(h:aS π a A):(SR S (ah P fs) P) EqQ π (noView a) (noView A):=by cases h with|mk h=>unfold noView;refine(pn h).bind ?_;intro c l x y b;rw[lB b];split;exact aD;exact ai rfl
def iT{a A}(h:aS π a A):(SR S (ah P fs) P) EqQ π (byteOf a) (byteOf A):=by (unfold byteOf;have e1:a.spot=A.spot/\a.off=A.off:=by cases h;exact⟨rfl,rfl⟩);rw[e1.1,e1.2];cases A.spot with|some s=>exact ai rfl|none=>simp only[];refine cE.bind ?_;rintro b l _ _ ⟨rfl,rfl⟩;refine(tI (h.mono l)).bind ?_;intro c d _ _ _;cases h with|mk h=>refine(eQ (d _ _ (l _ _ h))).bind ?_;rintro f g sh _ rfl;cases sh with|none=>exact al|some es=>obtain⟨e,n⟩:=es;simp only[show(ah P fs).cellsOf e=P.cellsOf e from rfl,show(ah P fs).bytesOf e=P.bytesOf e from rfl,show(ah P fs).depth=P.depth from rfl,gp];split;exact ai rfl;split;exact ai rfl;exact al
def JW{a A}(h:aS π a A)(c b):(SR S (ah P fs) P) AQ π (partAt a c b) (partAt A c b):=by unfold partAt;refine(iT h).bind ?_;rintro e l n _ rfl;cases h with|mk h=>refine(iT (.mk (l _ _ h))).bind ?_;rintro f d m _ rfl;simp only[];split;exact ai (.mk (d _ _ (l _ _ h)));exact ai (.mk (d _ _ (l _ _ h)))
def yY{a A}(h:aS π a A)(f):(SR S (ah P fs) P) AQ π (fieldPlace a f) (fieldPlace A f):=by unfold fieldPlace;refine(bL f.type).bind ?_;rintro b l n _ rfl;split;exact JW (h.mono l) _ _;exact ai ((h.mono l).add _)
def lV{x X}(h:aA π x X)(y c):(SR S (ah P fs) P) EqQ π (Instr.sliceBound x y c) (Instr.sliceBound X y c):=by unfold Instr.sliceBound;refine(kI h).bind ?_;rintro a l ⟨k,i⟩ _ rfl;simp only[];split;exact ai rfl;exact dV
def ft(b len cap){lo p hi q mx e}(r:dP (aA π) lo p)(s:dP (aA π) hi q)(i:dP (aA π) mx e):(SR S (ah P fs) P) EqQ π (Instr.sliceBounds b len cap lo hi mx) (Instr.sliceBounds b len cap p q e):=by
 unfold Instr.sliceBounds;have e3:e.isSome=mx.isSome:=by cases i<;>rfl
 simp only[e3];have t:∀{c:Type} (o O:Option Value),dP (aA π) o O->∀(f g:Value->Sem c) (x y:Sem c) (a:Ren P.globals.size) (Q:Ren P.globals.size->c->c->Prop),Ren.le π a->(∀v V,aA a v V->(SR S (ah P fs) P) Q a (f v) (g V))->(SR S (ah P fs) P) Q a x y->
  (SR S (ah P fs) P) Q a (match o with|some v=>f v|none=>x) (match O with|some v=>g v|none=>y):=by
  intro c o O h f g x y a Q l u w;cases h with
  |none=>exact w
  |some h=>exact u _ _ (h.mono l)
 refine t mx e i _ _ _ _ π EqQ (Ren.le_refl _) (λv V z=>?_) ?_;all_goals
  refine SR.bind (Q₁:=EqQ) (by first|exact lV z _ _|exact ai rfl) ?_;rintro a l m _ rfl;have j:=r.mono λ_ _ x=>x.mono l;have k:=s.mono λ_ _ x=>x.mono l;have n:=i.mono λ_ _ x=>x.mono l;cases k<;>cases n<;>simp only[];all_goals
   refine SR.bind (Q₁:=EqQ) (by first|exact lV (by assumption) _ _|exact ai rfl|exact al) ?_;rintro A B h _ rfl;have d:=j.mono λ_ _ x=>x.mono B;cases d<;>simp only[];all_goals
    refine SR.bind (Q₁:=EqQ) (by first|exact lV (by assumption) _ _|exact ai rfl) ?_;rintro C D E _ rfl;exact ai rfl
def kJ{x X}(h:aA π x X)(c):(SR S (ah P fs) P) (λ_ a b=>a=b/\a=0) π (Instr.sliceBound x 0 c) (Instr.sliceBound X 0 c):=by unfold Instr.sliceBound;refine(kI h).bind ?_;rintro d l ⟨k,i⟩ _ rfl;simp only[];split;exact ai ⟨rfl,by omega⟩;exact dV
def vz(b){lo g hi i mx d}(k:dP (aA π) lo g)(n:dP (aA π) hi i)(j:dP (aA π) mx d):(SR S (ah P fs) P) (λ_ a b=>a=b/\a=(0,0,0)) π (Instr.sliceBounds b 0 0 lo hi mx) (Instr.sliceBounds b 0 0 g i d):=by
 unfold Instr.sliceBounds;have e3:d.isSome=mx.isSome:=by cases j<;>rfl
 simp only[e3];cases j<;>simp only[];all_goals
  refine SR.bind (Q₁:=λ_ a b=>a=b/\a=0) (by first|exact kJ (by assumption) _|exact ai ⟨rfl,rfl⟩) ?_;rintro o l m _ ⟨rfl,rfl⟩;have e:=k.mono λ_ _ x=>x.mono l;have f:=n.mono λ_ _ x=>x.mono l;cases f<;>simp only[];all_goals
   refine SR.bind (Q₁:=λ_ a b=>a=b/\a=0) (by first|exact kJ (by assumption) _|exact ai ⟨rfl,rfl⟩|exact al) ?_;rintro p q h _ ⟨rfl,rfl⟩;have c:=e.mono λ_ _ x=>x.mono q;cases c<;>simp only[];all_goals
    refine SR.bind (Q₁:=λ_ a b=>a=b/\a=0) (by first|exact kJ (by assumption) _|exact ai ⟨rfl,rfl⟩) ?_;rintro r s t _ ⟨rfl,rfl⟩;exact ai ⟨rfl,rfl⟩
def Mk{x X}(t)(m:aA π x X){lo s hi u mx p}(f:dP (aA π) lo s)(g:dP (aA π) hi u)(h:dP (aA π) mx p):(SR S (ah P fs) P) VQ π (Instr.slice t x lo hi mx) (Instr.slice t X s u p):=by
 unfold Instr.slice;refine(aB t).bind ?_;rintro y l d _ ⟨rfl,_⟩;have m:=m.mono l;have f:=f.mono λ_ _ x=>x.mono l;have g:=g.mono λ_ _ x=>x.mono l;have h:=h.mono λ_ _ x=>x.mono l;have e3:p.isSome=mx.isSome:=by cases h<;>rfl
 cases d with
 |string=>(cases m<;>simp only[]<;>try exact al);rw[e3];split;exact .never (eC _ _ (.inl (.halt _)));refine(ft false _ _ f g dP.none).bind ?_;rintro i e ⟨a,b,c⟩ _ rfl;exact ai (.string _)
 |slice elem=>(cases m<;>simp only[]<;>try exact al);rename_i len cap;refine(ft true _ _ f g h).bind ?_;rintro i e ⟨a,b,c⟩ _ rfl;refine(bL elem).bind ?_;rintro j o n _ rfl;refine ai ?_;simp only[Option.map_none,ite_self];exact .iL _ _;rename_i a A len cap k;refine(ft true _ _ f g h).bind ?_;rintro i e ⟨v,b,c⟩ _ rfl;refine(bL elem).bind ?_;rintro j o n _ rfl;refine ai ?_;simp only[UW];split;exact .slice _ _ ((k.mono e).mono o);exact .slice _ _ (((k.mono e).mono o).add _);refine(vz true f g h).bind ?_;rintro i e ⟨v,b,c⟩ _ ⟨rfl,e0⟩;cases e0;refine(bL elem).bind ?_;rintro j o n _ rfl;exact ai (.qE _)
 |pointer q=>(simp only[];refine(zT m).bind ?_;intro w r a A k;refine(aB q).bind ?_;rintro i e d _ ⟨rfl,z⟩;clear z;have f:=f.mono λ_ _ x=>(x.mono r).mono e;have g:=g.mono λ_ _ x=>(x.mono r).mono e;have h:=h.mono λ_ _ x=>(x.mono r).mono e;cases d<;>simp only[]<;>try exact al);rename_i n elem;refine(ft false _ _ f g h).bind ?_;rintro j o ⟨v,b,c⟩ _ rfl;refine(bL elem).bind ?_;rintro B C n _ rfl;refine ai ?_;have k:=((k.mono e).mono o).mono C;simp only[];split;exact .slice _ _ k;exact .slice _ _ (k.add _)
 |_=>cases m<;>exact al
def Gu{x X}(t)(h:aA π x X){lo k hi m o p}(e:dP (aA π) lo k)(f:dP (aA π) hi m)(g:dP (aA π) o p):(SR S (ah P fs) P) VQ π (Instr.sliceAt t x lo hi o) (Instr.sliceAt t X k m p):=by (unfold Instr.sliceAt;refine(aB t).bind ?_;rintro r l d _ ⟨rfl,s⟩;clear s;have h:=h.mono l;have e:=e.mono λ_ _ x=>x.mono l;have f:=f.mono λ_ _ x=>x.mono l;have g:=g.mono λ_ _ x=>x.mono l;cases d<;>simp only[]<;>try exact Mk t h e f g);(rename_i n elem;refine(jA h).bind ?_;intro q j a A i;have e:=e.mono λ_ _ x=>(x.mono j));(have f:=f.mono λ_ _ x=>(x.mono j));(have g:=g.mono λ_ _ x=>(x.mono j));refine(ft false _ _ e f g).bind ?_;rintro u v ⟨z,b,c⟩ _ rfl;refine(bL elem).bind ?_;rintro w y n _ rfl;refine ai ?_;have i:=(i.mono v).mono y;simp only[];split;exact .slice _ _ i;exact .slice _ _ (i.add _)
def ks(t:TypeId)(k:IntKind)(i:Int)(base:Option Addr)(len:Nat)(elem:TypeId):Sem Value:=do
 let b:=len<=1&&(match <-underlying t with| .array .. =>true|_=>false)
 match base with
 |some a=>
  if 0<=i/\i<len then pure (.pointer (some (a.add (i.toNat*(<-sizeOf elem)))))
  else if b then unsupported (.noEntry "op/indexAddr.an index out of range at an array of length 0 or 1 (ledger 616)")
  else boundsPanic k i len .index
 |none=>boundsPanic k i 0 .index
def nh(t k i){a A}(len elem)(b:dP (aS π) a A):(SR S (ah P fs) P) VQ π (ks t k i a len elem) (ks t k i A len elem):=by unfold ks;refine(aB t).bind ?_;rintro c d d' _ ⟨rfl,_⟩;cases b with|none=>exact dV|some b=>simp only[];split;refine(bL elem).bind ?_;rintro e f n _ rfl;exact ai (.ptr (((b.mono d).mono f).add _));split<;>split<;>first|exact aD|exact dV
def yZ(t k i){a A:Addr}(elem):(SR S (ah P fs) P) VQ π (ks t k i (some a) 0 elem) (ks t k i (some A) 0 elem):=by unfold ks;refine(aB t).bind ?_;rintro b c d' _ ⟨rfl,_⟩;simp only[];rw[Uc (by omega)];split<;>first|exact aD|exact dV
def Gv{x X i I}(t)(b:aA π x X)(hi:aA π i I):(SR S (ah P fs) P) VQ π (Instr.indexAt t x i) (Instr.indexAt t X I):=by
 unfold Instr.indexAt;refine(kI hi).bind ?_;rintro j l ⟨k,i⟩ _ rfl;refine(aB t).bind ?_;rintro m n d _ ⟨rfl,o⟩;clear o;have b:=(b.mono l).mono n;have g:∀{p q:Type} (f:p->Sem q) (h:String),dR (stuck h>>= f):=λf h=>eC _ _ (.inl (.halt _));cases d with
 |array len elem=>refine(jA b).bind ?_;intro r s a A e;exact nh t k i len elem (.some e)
 |slice elem=>cases b with|iL len c=>exact nh t k i len elem .none|slice len c e=>exact nh t k i len elem (.some e)|qE A=>exact yZ t k i elem|_=>exact .never (g _ _)
 |_=>exact .never (g _ _)
def Ml{x X i I}(t)(a:aA π x X)(hi:aA π i I):(SR S (ah P fs) P) VQ π (Instr.index t x i) (Instr.index t X I):=by
 unfold Instr.index;refine(kI hi).bind ?_;rintro b l ⟨k,i⟩ _ rfl;refine(aB t).bind ?_;rintro c e d _ ⟨rfl,j⟩;have a:=(a.mono l).mono e;cases d with
 |array len elem=>(cases a<;>simp only[]<;>try exact al);rename_i s h;split;refine(bL elem).bind ?_;rintro f g n _ rfl;exact gu elem _ (VsR.mono g ⟨s,h⟩);exact dV
 |string=>(cases a<;>simp only[]<;>try exact al);split;exact ai (.int _ _);exact dV
 |_=>cases a<;>exact al
def Mm{x X}(t f)(b:aA π x X):(SR S (ah P fs) P) VQ π (Instr.field t x f) (Instr.field t X f):=by (unfold Instr.field;refine(aB t).bind ?_;rintro e g d _ ⟨rfl,j⟩;cases d<;>simp only[]<;>try exact al);rename_i a;split;refine(Mj (b.mono g)).bind ?_;intro h k c C i;exact gu _ _ i;exact al
def Gw{x X}(i)(b:aA π x X):(SR S (ah P fs) P) VQ π (Instr.extract x i) (Instr.extract X i):=by
 unfold Instr.extract;cases b with
 | @tuple c C s h=>(simp only[];have a:=(aZ.get ⟨s,h⟩ i:dP (aA π) c[i]? C[i]?));revert a;generalize c[i]? =u;generalize C[i]? =v;intro a;cases a with|none=>exact al|some r=>exact ai r
 |_=>exact al
end
section
variable {S:Kn} {P:Program} {fs:Array Func} {G:Nat} {π:Ren P.globals.size} {ρ:Ren G}
def aC{a b s}{f:a->Sem b}(h:dR s):dR (s>>= f):=eC _ _ (.inl h)
def bK{b c s}{f:b->Sem c}(d:cW s)(h:∀a,dR (f a)):dR (s>>= f):=eC _ _ (.inr ⟨d,h⟩)
def dD{a}(h):dR (stuck h:Sem a):=.halt _
def bM{a:Type}(h:Unsupported)(b:gH (.unsupported h):=by exact True.intro):dR (unsupported h:Sem a):=.halt _ b
def Gx{x X}(s f)(e:aA π x X):(SR S (ah P fs) P) VQ π (Instr.fieldAt s x f) (Instr.fieldAt s X f):=by (unfold Instr.fieldAt;refine(aB s).bind ?_;rintro g h d _ ⟨rfl,n⟩;cases d<;>simp only[]<;>try exact al);rename_i c;cases o:c[f]? with|none=>exact al|some i=>simp only[];refine(jA (e.mono h)).bind ?_;intro j p a A k;exact(yY k i).bind λl q b B m=>ai (.ptr m)
def qP(b):Plain (.bool b):=λ_ _=>.bool b
def y5:Plain (default:Value):=λ_ π=>by show aA π (Value.bool default) (Value.bool default);exact .bool _
def bn(c:Array Value):Prop:=∀(i:Nat) v,c[i]? =some v->Plain v
def bn.refl{c}(h:bn c)(ρ:Ren G):VsR ρ c c:=⟨rfl,λi x y a b=>by rw[a]at b;cases b;exact h i x a _ ρ⟩
def Plain.cells{v}(h:Plain v):bn v.cells:=λi x a G π=>((h G π).cells).2 i x x a a
def bn.getD{c}(h:bn c)(i:Nat):Plain c[i]! :=by rw[getElem!_def];cases e:c[i]? with|none=>exact y5|some v=>exact h i v e
def bn.spread{c}(h:bn c)(n m):bn ((Array.range n).map λi=>c[i%m]!):=by intro i v a;rw[UK]at a;cases e:(Array.range n)[i]? with|none=>rw[e]at a;simp at a|some k=>rw[e]at a;simp at a;subst a;exact h.getD _
def bn.empty:bn #[]:=λi v h=>by simp at h
def Mn(c:dJ P)(t):(SR S (ah P fs) P) VQ π (Instr.alloc t true (.tuple #[])) (Instr.alloc t true (.tuple #[])):=by unfold Instr.alloc;refine(ej c t).bind ?_;rintro b l z _ ⟨rfl,d⟩;simp only[];refine(zR t (d _ b)).bind ?_;rintro e g a A f;exact ai (.ptr f)
def QP{v V}(t)(h:aA π v V):(SR S (ah P fs) P) VQ π (Instr.box t v) (Instr.box t V):=by unfold Instr.box;refine(zR t h).bind ?_;rintro b d a A c;exact ai (.ptr c)
abbrev lC{G}(π:Ren G):Nat×Value->Nat×Value->Prop:=λa b=>a.1=b.1/\aA π a.2 b.2
def JX{l L:List (Value×Nat)}(h:bt (λa b=>aA ρ a.1 b.1/\a.2=b.2) l L):∀{c C:Array Value} (d:Nat),VsR ρ c C->VsR ρ (l.foldl (λcs (c,j)=>cs.setIfInBounds (d+j) c) c) (L.foldl (λcs (c,j)=>cs.setIfInBounds (d+j) c) C):=by induction h with|nil=>exactλ_ h=>h| @cons x y l m e _ f=>intro c C d g;obtain⟨v,j⟩:=x;obtain⟨V,J⟩:=y;obtain⟨i,rfl⟩:=e;exact f d (g.set _ i)
def Gy{l L}(h:bt (aA ρ) l L):∀n,bt (λa b=>aA ρ a.1 b.1/\a.2=b.2) (l.zipIdx n) (L.zipIdx n):=by induction h with|nil=>exactλ_=>.nil|cons c _ d=>exactλn=>by simp only[List.zipIdx_cons];exact .cons ⟨c,rfl⟩ (d _)
def wV(a){l L}(h:bt (lC ρ) l L):∀{c C},VsR ρ c C->dP (VsR ρ) (Instr.fill a c l) (Instr.fill a C L):=by induction h with|nil=>exactλh=>.some h| @cons x y l m b _ k=>intro c C f;obtain⟨i,v⟩:=x;obtain⟨j,V⟩:=y;obtain⟨g,d⟩:=b;simp only[]at g d;subst g;unfold Instr.fill;cases a i with|none=>exact .none|some os=>obtain⟨e,size⟩:=os;simp only[];rw[<-d.cells.1,<-f.1];split;exact .none;refine k ?_;rw[<-WH,<-WH,Array.toList_zipIdx,Array.toList_zipIdx];exact JX (Gy d.cells.toList 0) e f
def wW(a:List Field):(SR S (ah P fs) P) EqQ π (a.mapM λf=>do pure (f.offset,<-sizeOf f.type)) (a.mapM λf=>do pure (f.offset,<-sizeOf f.type)):=by induction a generalizing π with|nil=>exact ai rfl|cons f l c=>simp only[List.mapM_cons];refine SR.bind (Q₁:=EqQ) ((bL f.type).bind ?_) ?_;rintro b l n _ rfl;exact ai rfl;rintro b e x _ rfl;refine c.bind ?_;rintro d g y _ rfl;exact ai rfl
def Mo{i j d e Q}{Q':Ren P.globals.size->d->e->Prop}{s t}{f:i->d}{g:j->e}(h:(SR S (ah P fs) P) Q π s t)(k:∀c a b,Q c a b->Q' c (f a) (g b)):(SR S (ah P fs) P) Q' π (Functor.map f s) (Functor.map g t):=by rw[map_eq_pure_bind,map_eq_pure_bind];exact h.bind λc l a b q=>ai (k _ _ _ q)
def Mp(p:dJ P)(t){g PS}(h:aZ (lC π) g PS):(SR S (ah P fs) P) VQ π (Instr.build t g) (Instr.build t PS):=by (unfold Instr.build;refine(ej p t).bind ?_;rintro q l z _ ⟨rfl,m⟩;refine(aB t).bind ?_;rintro f s d _ ⟨rfl,_⟩;have h:aZ (lC f) g PS:=(h.mono λ_ _ x=>⟨x.1,(x.2.mono l).mono s⟩));(have o:=h.toList;cases d<;>simp only[]<;>try exact al);rename_i n elem _;refine(bL _).bind ?_;rintro a j size _ rfl;have:=wV (λi=>some (i*size,size)) (o.mono λ_ _ (x:lC f _ _)=>(⟨x.1,x.2.mono j⟩:lC a _ _)) (m _ a).cells;revert this;(generalize Instr.fill _ _ _=u;generalize Instr.fill _ _ _=v;intro k;cases k with|none=>exact al|some r=>exact ai (aA.F9 r));rename_i b _;refine SR.bind (Q₁:=EqQ) ?_ ?_;obtain⟨w⟩:=b;(rw[List.mapM_toArray];exact Mo (wW w) λ_ _ _ e=>by rw[show _=_ from e]);rintro a j c _ rfl;have:=wV (c[·]?) (o.mono λ_ _ (x:lC f _ _)=>(⟨x.1,x.2.mono j⟩:lC a _ _)) (m _ a).cells;revert this;generalize Instr.fill _ _ _=u;generalize Instr.fill _ _ _=v;intro k;cases k with|none=>exact al|some r=>exact ai (aA.F9 r)
def y6(k:dJ P)(t n){f PS}(h:aZ (lC π) f PS):(SR S (ah P fs) P) VQ π (Instr.buildSlice t n f) (Instr.buildSlice t n PS):=by
 unfold Instr.buildSlice;refine(aB t).bind ?_;rintro c l d _ ⟨rfl,_⟩;have h:aZ (lC c) f PS:=(h.mono λ_ _ x=>⟨x.1,(x.2.mono l)⟩)
 have m:=h.toList;cases d<;>simp only[]<;>try exact al
 rename_i elem _;refine(bL _).bind ?_;rintro e o size _ rfl;split;exact .never (aC (bM _))
 have key:∀(b:Ren P.globals.size),Ren.le e b->∀zero:Array Value,bn zero->(SR S (ah P fs) P) VQ b
  (do let some cells:=Instr.fill (λi=>some (i*size,size)) ((Array.range (n*size)).map (zero[· %zero.size]!)) f.toList|stuck "buildSlice: a part of the wrong size"
      pure (.slice (some (<-newRow elem cells)) n n))
  (do let some cells:=Instr.fill (λi=>some (i*size,size)) ((Array.range (n*size)).map (zero[· %zero.size]!)) PS.toList|stuck "buildSlice: a part of the wrong size"
      pure (.slice (some (<-newRow elem cells)) n n)):=by
  intro b g zero j;have:=wV (λi=>some (i*size,size)) (m.mono λ_ _ (x:lC c _ _)=>(⟨x.1,(x.2.mono o).mono g⟩:lC b _ _)) ((j.spread (n*size) zero.size).refl b)
  revert this
  generalize Instr.fill _ _ _=u;generalize Instr.fill _ _ _=v;intro p;cases p with
  |none=>exact al
  |some r=>refine(iS elem r).bind ?_;rintro q w a A s;exact ai (.slice _ _ s)
 split;exact key e (Ren.le_refl _) #[] .empty;refine(ej k elem).bind ?_;rintro b g z _ ⟨rfl,j⟩;exact key b g _ j.cells
def DJ{fn a f F c C}(h:FnR π fn a)(b:VsR π f F)(d:VsR π c C):(SR S (ah P fs) P) VQ π (Instr.makeFunc fn f c) (Instr.makeFunc a F C):=ai (.func h b.1 b.2 d.1 d.2)
def Gz(t){r R}(h:dP (aA π) r R):(SR S (ah P fs) P) VQ π (Instr.makeMap t r) (Instr.makeMap t R):=by (unfold Instr.makeMap;have fin:∀b:Ren P.globals.size,(SR S (ah P fs) P) VQ b (do pure (.map (some (<-newObj (.map #[] 0)))):Sem Value) (do pure (.map (some (<-newObj (.map #[] 0))))):=λb=>by refine(ie (.map 0 .empty)).bind ?_;rintro c j a A e;exact ai (.map e));cases h with|none=>exact fin _|some h=>(simp only[];refine(aB t).bind ?_;rintro f g d _ ⟨rfl,_⟩;cases d<;>simp only[]<;>try exact al);refine(jy (h.mono g)).bind ?_;rintro i k _ _ _;exact fin _
def tJ{v V}(t)(h:aA π v V):(SR S (ah P fs) P) VQ π (Instr.makeInterface t v) (Instr.makeInterface t V):=by unfold Instr.makeInterface;refine(aB t).bind ?_;rintro a b d _ ⟨rfl,_⟩;cases d<;>first|exact al|exact ai (.iface t (h.mono b))
def Bp(k:dJ P)(t){a A b B}(f:aA π a A)(m:aA π b B):(SR S (ah P fs) P) VQ π (Instr.makeSlice t a b) (Instr.makeSlice t A B):=by
 unfold Instr.makeSlice;refine(aB t).bind ?_;rintro o j d _ ⟨rfl,_⟩;cases d<;>simp only[]<;>try exact al
 rename_i elem _;refine(jy (f.mono j)).bind ?_;rintro p q len _ rfl;refine(jy ((m.mono j).mono q)).bind ?_;rintro r x cap _ rfl;refine(dC elem).bind ?_;rintro g s i _ ⟨rfl,_⟩;have fin:∀(c:Ren P.globals.size) (n l:Nat) (zero:Array Value),bn zero->(SR S (ah P fs) P) VQ c (do let a <-newRow elem ((Array.range n).map (zero[· %zero.size]!));pure (.slice (some a) l (IntKind.i64.wrap cap).toNat):Sem Value)
  (do let a <-newRow elem ((Array.range n).map (zero[· %zero.size]!));pure (.slice (some a) l (IntKind.i64.wrap cap).toNat)):=by
  intro c n l zero h;refine(iS elem ((h.spread n zero.size).refl c)).bind ?_;rintro g s a A f;exact ai (.slice _ _ f)
 have e:∀(c:Ren P.globals.size),(SR S (ah P fs) P) VQ c (do
  askRoom ((IntKind.i64.wrap cap).toNat*i.bytes)
  let n:=(IntKind.i64.wrap cap).toNat*(<-sizeOf elem);let zero <-if n=0 then pure #[]else do pure (<-zeroValue elem).cells
  let a <-newRow elem ((Array.range n).map (zero[· %zero.size]!))
  pure (.slice (some a) (IntKind.i64.wrap len).toNat (IntKind.i64.wrap cap).toNat):Sem Value) (do
  askRoom ((IntKind.i64.wrap cap).toNat*i.bytes)
  let n:=(IntKind.i64.wrap cap).toNat*(<-sizeOf elem);let zero <-if n=0 then pure #[]else do pure (<-zeroValue elem).cells
  let a <-newRow elem ((Array.range n).map (zero[· %zero.size]!))
  pure (.slice (some a) (IntKind.i64.wrap len).toNat (IntKind.i64.wrap cap).toNat)):=by
  intro c;refine(qO _).bind ?_;rintro u y _ _ _;refine(bL elem).bind ?_;rintro v C D _ rfl;simp only[];split
  ·exact fin _ _ _ #[] .empty
  ·refine(ej k elem).bind ?_
   rintro w E z _ ⟨rfl,h⟩;exact fin _ _ _ _ h.cells
 split;split;exact .never (aC (aG _));split;exact .never (aC (aG _));exact .never (bK (.choose _) λa=>aC (aG _));exact e _
def Calm(s:Sem Value):Prop:=dR s\/∃v,Plain v/\s=pure v
def Calm.sr{s}(h:Calm s):(SR S (ah P fs) P) VQ π s s:=by obtain h|⟨v,a,rfl⟩:=h;exact .never h;exact ai (a _ π)
def Calm.int(k n):Calm (pure (.int k n)):=.inr ⟨_,λ_ _=>.int k n,rfl⟩
def Calm.bool(b):Calm (pure (.bool b)):=.inr ⟨_,λ_ _=>.bool b,rfl⟩
def Calm.string(s):Calm (pure (.string s)):=.inr ⟨_,λ_ _=>.string s,rfl⟩
def Calm.stuck(s):Calm (stuck s):=.inl (.halt _)
def Calm.unsupported(s:Unsupported)(a:gH (.unsupported s):=by exact True.intro):Calm (unsupported s):=.inl (.halt _ a)
def pT(a k x y):Calm (Op.intArith a k x y):=by cases a<;>first|exact .int _ _|exact .stuck _
def DK(a x y):Calm (Op.intCmp a x y):=by cases a<;>first|exact .bool _|exact .stuck _
def DL(a k x y):Calm (Op.intDiv a k x y):=by unfold Op.intDiv;split;exact .inl (aG _);cases a<;>first|exact .int _ _|exact .stuck _
def rN(a k x y):Calm (Op.intBits a k x y):=by unfold Op.intBits;cases a<;>first|exact .int _ _|exact .stuck _
def wX(a k x b y):Calm (Op.shift a k x b y):=by unfold Op.shift;split;exact .inl (aG _);cases a<;>first|exact .int _ _|exact .stuck _
def pU(a x y):Calm (Op.stringOp a x y):=by unfold Op.stringOp;cases a<;>simp only[]<;>first|exact .bool _|exact .stuck _|(split<;>first|exact .string _|exact .unsupported _)
def Mq{x X}(a)(h:aA π x X):(SR S (ah P fs) P) VQ π (Op.unary a x) (Op.unary a X):=by
 cases h<;>cases a<;>first
  |exact al
  |exact aD
  |exact(pT _ _ _ _).sr
  |exact(rN _ _ _ _).sr
  |exact ai (aA.int _ _)
  |exact ai (.bool _)
  |exact ai (.float _ _)
  |exact ai (.complex _ _ _)
def Mr{d σ τ:Type}{T:Ren P.globals.size->σ->τ->Prop}(mono:∀π c a b,Ren.le π c->T π a b->T c a b)(l:List d)(f:d->σ->Sem (ForInStep σ))(g:d->τ->Sem (ForInStep τ)) (h:∀(π:Ren P.globals.size) a s t,T π s t->(SR S (ah P fs) P) (λc x y=>(∃u v,x=.yield u/\y=.yield v/\T c u v)\/(∃u v,x=.done u/\y=.done v/\T c u v)) π (f a s) (g a t)):∀(π:Ren P.globals.size) (s:σ) (t:τ),T π s t->(SR S (ah P fs) P) T π (forIn l s f) (forIn l t g):=by induction l with|nil=>intro π s t e;simp only[List.forIn_nil];exact ai e|cons a l j=>intro π s t e;simp only[Xx];refine(h π a s t e).bind ?_;rintro c k x y (⟨u,v,rfl,rfl,i⟩|⟨u,v,rfl,rfl,i⟩);exact j c u v i;exact ai i
def pq{a A}(h:aS π a A):(SR S (ah P fs) P) (λ_ b B=>B=true->b=true) π (frozen a) (frozen A):=.frozen h λ_ _ x=>.pure x
def rO{a A}(h:aS π a A):(SR S (ah P fs) P) (λ_ b B=>B=true->b=true) π (stringish a) (stringish A):=by unfold stringish;cases h with| @mk r s o p h=>(have key:∀c,Ren.le π c->(SR S (ah P fs) P) (λ_ b B=>B=true->b=true) c (do match <-shape r with|some (_,n)=>frozen {block:=r,off:=n}|none=>pure false:Sem Bool) (do match <-shape s with|some (_,n)=>frozen {block:=s,off:=n}|none=>pure false):=by intro c l;refine(eQ (l _ _ h)).bind ?_;rintro e f x _ rfl;split;exact pq (.mk (f _ _ (l _ _ h)));exact ai (by simp));refine(pq (.mk h)).bind ?_;intro c l b B g;have d:=key c l;cases b<;>cases B<;>simp only[Uz,Uy,Us];exact d;simp at g;refine .tu λx=>?_;(cases x with|none=>exact ai (by simp)|some y=>exact .pk λz=>ai (by simp));exact ai (by simp)
def wY{r s:Nat}(h:π r s):(SR S (ah P fs) P) EqQ π (do pure ((<-shape r) matches some (_,0)):Sem Bool) (do pure ((<-shape s) matches some (_,0))):=by refine(eQ h).bind ?_;rintro a b x _ rfl;exact ai rfl
def DM{a A b B}(d:aS π a A)(e:aS π b B):(SR S (ah P fs) P) (λ_ m M=>M=true->m=true) π (mayBeOne a b) (mayBeOne A B):=by unfold mayBeOne;refine(rO d).bind ?_;intro g c i j k;refine(rO (e.mono c)).bind ?_;intro l f sb n hsb;refine SR.bind (Q₁:=EqQ) ?_ ?_;(cases d with|mk h=>exact wY (f _ _ (c _ _ h)));rintro o p r _ rfl;refine SR.bind (Q₁:=EqQ) ?_ ?_;(cases e with|mk h=>exact wY (p _ _ (f _ _ (c _ _ h))));rintro q s t _ rfl;refine ai ?_;cases i<;>cases j<;>cases sb<;>cases n<;>simp_all
def aS.eq{a A b B}(d:aS ρ a A)(f:aS ρ b B):(a.block==b.block)=(A.block==B.block)/\(a==b)=(A==B):=by cases d with| @mk r s o p h=>cases f with| @mk g s' o' i c=>(have e:r=g↔s=s':=⟨λe=>by subst e;exact ρ.fn _ _ _ h c,λe=>by subst e;exact ρ.inj _ _ _ h c⟩);constructor;rw[Vr];simp[e];rw[Vr];simp[e]
def uG{a A b B}(c:aS π a A)(d:aS π b B):(SR S (ah P fs) P) EqQ π (sameAddr a b) (sameAddr A B):=by
 unfold sameAddr;rw[(c.eq d).1,(c.eq d).2];split;exact ai rfl;refine(pq c).bind ?_;intro o g p v i;refine(pq (d.mono g)).bind ?_;intro q k fb w hfb;by_cases e:(p&&fb)=true;rw[Ud e];exact .never (aC (bM _))
 rw[Uc e,Uc (by simp only[Un]at e⊢;exactλh=>e ⟨i h.1,hfb h.2⟩)];have c:=(c.mono g).mono k;have d:=(d.mono g).mono k;refine(tI c).bind ?_;intro r j _ _ _;refine(tI (d.mono j)).bind ?_;intro s l _ _ _;refine(DM ((c.mono j).mono l) ((d.mono j).mono l)).bind ?_;intro t x m M y;cases m with
 |false=>(have:M=false:=by cases M<;>simp_all);subst this;exact ai rfl
 |true=>cases M with|true=>refine(eu _).bind ?_;rintro u z n _ rfl;exact ai rfl|false=>refine .m6 0 (n:=0) (λf C h=>by cases h) ?_ ?_;rfl;exact ai rfl
def wZ{a A b B}(c:dP (aS π) a A)(d:dP (aS π) b B):(SR S (ah P fs) P) EqQ π (samePointer a b) (samePointer A B):=by cases c<;>cases d<;>first|exact ai rfl|exact uG (by assumption) (by assumption)
abbrev NmR{G}(π:Ren G):Addr×Bool->Addr×Bool->Prop:=λx y=>aS π x.1 y.1/\x.2=y.2
def uH{r d}(h:π r d):(SR S (ah P fs) P) (λc a b=>dP (NmR c) a b) π (numberAt r) (numberAt d):=by unfold numberAt;refine(eQ h).bind ?_;rintro c l a _ rfl;split;exact ai .none;refine(cO (l _ _ h)).bind ?_;intro e g o O f;cases f<;>first|exact ai .none|exact ai (.some ⟨by assumption,rfl⟩)
def gy{a A}(h:aS π a A):(SR S (ah P fs) P) (λb x y=>NmR b x y) π (behindNumber a) (behindNumber A):=by unfold behindNumber;cases h with|mk h=>refine(uH h).bind ?_;intro b l x y c;cases c with|none=>exact ai ⟨.mk (l _ _ h),rfl⟩|some h=>exact ai h
def rQ(P fs):∀(n) (t u),(ah P fs).alikeButTags n t u=P.alikeButTags n t u:=by intro n;induction n with|zero=>exactλ_ _=>rfl|succ n a=>intro t u;have e:=funext λt=>funext λu=>a t u;unfold Program.alikeButTags;rw[e];rfl
def xa(P fs t):(ah P fs).stoodInAs t=P.stoodInAs t:=by unfold Program.stoodInAs;simp only[rQ];rfl
def ey(P fs t):(ah P fs).stoodInHeld t=P.stoodInHeld t:=by unfold Program.stoodInHeld;rw[xa];rfl
def iU{e σ:Type}(l:List e){f F:e->σ->Sem (ForInStep σ)}(s)(h:∀(c),Ren.le π c->∀a s,(SR S (ah P fs) P) EqQ c (f a s) (F a s)):(SR S (ah P fs) P) EqQ π (forIn l s f) (forIn l s F):=by refine(Mr (T:=λc a b=>a=b/\Ren.le π c) (λ_ _ _ _ l h=>⟨h.1,Ren.le_trans h.2 l⟩) l _ _ ?_ π _ _ ⟨rfl,Ren.le_refl _⟩).mono λ_ _ _ _ h=>h.1;rintro c a s _ ⟨rfl,d⟩;refine(h c d a s).mono ?_;rintro i g x _ rfl;cases x with|done u=>exact .inr ⟨u,u,rfl,rfl,rfl,Ren.le_trans d g⟩|yield u=>exact .inl ⟨u,u,rfl,rfl,rfl,Ren.le_trans d g⟩
def GA(d):∀{π:Ren P.globals.size} (t) {x X y Y},aA π x X->aA π y Y->(SR S (ah P fs) P) EqQ π (Op.equalIn d t x y) (Op.equalIn d t X Y):=by
 induction d with
 |zero=>intros;exact aD
 |succ d L=>
  intro π t x X y Y M N;unfold Op.equalIn;refine(aB t).bind ?_;rintro g l2 d' _ ⟨rfl,hd⟩;clear hd;have M:=M.mono l2;have N:=N.mono l2;generalize hX:X=X' at*;split;all_goals first|exact .never (dD _)|exact .never (bM _)|skip
  all_goals cases M
  all_goals cases N
  all_goals try exact ai rfl
  all_goals try (exfalso;rename_i h;exact absurd rfl h)
  all_goals simp only[]
  all_goals try (split<;>first|exact ai rfl|exact al)
  ·
   rename_i a b A I B J;refine(gy I).bind ?_;rintro p j ⟨a',x1⟩ ⟨A',X1⟩ ⟨c,_⟩;refine(gy (J.mono j)).bind ?_;rintro l o ⟨b',x2⟩ ⟨B',X2⟩ ⟨k,_⟩;refine cE.bind ?_;rintro q D _ _ ⟨rfl,rfl⟩;have c:=(c.mono o).mono D;have k:=k.mono D;simp only[]at c k⊢;have e1:=(c.eq k).1;have e2:=(c.eq k).2;have e3:decide (a'.block<(ah P fs).globals.size)=decide (A'.block<P.globals.size):=by
    cases c with
    |mk h=>exact decide_eq_decide.2 (q.dF _ _ h)
   rw[e1,e3];split
   ·refine(iT c).bind ?_
    rintro w E n _ rfl;refine(iT (k.mono E)).bind ?_;rintro F l7 m _ rfl;exact ai rfl
   ·refine(dC t).bind ?_
    rintro w E i _ ⟨rfl,_⟩;rw[e2];split
    ·split
     ·exact ai rfl
     ·exact aD
    ·exact aD
  rename_i a b A I B J;refine(bL _).bind ?_;rintro p j n _ rfl;rw[(I.eq J).2];split;exact uG (I.mono j) (J.mono j);split;exact ai rfl;refine(eu _).bind ?_;rintro l o m _ rfl;exact ai rfl;exact wZ (.some (by assumption)) (.some (by assumption));rename_i r R hr r' R' H;refine ai ?_;have e:r=r'↔R=R':=⟨λe=>by subst e;exact g.fn _ _ _ hr H,λe=>by subst e;exact g.inj _ _ _ hr H⟩
  show(some r==some r')=(some R==some R');rw[Vr];simp[e]
  ·split;exact ai rfl;refine(dC _).bind ?_;rintro p j i _ ⟨rfl,_⟩;split
   ·refine .never ?_
    repeat' (first|exact aG _|exact aC (aG _)|exact aC (bM _)|split|refine bK (by first|exact rI _|exact .choose _|exact .program|exact .pure _) λ_=>?_)
   exact L _ (by assumption|>λh=>aA.mono j h) (by assumption|>λh=>aA.mono j h)
  rename_i K xs O XS Q T YS W Z;have z:VsR g xs XS:=⟨Q,T⟩
  have C:VsR g O YS:=⟨W,Z⟩
  refine cE.bind ?_;rintro p j _ _ ⟨rfl,rfl⟩;rw[ey];split;exact .never (aC (bM _));rw[<-VE,<-VE];refine(iU _ _ λl o f s=>?_).bind ?_;split;refine(gu _ _ (VsR.mono o (VsR.mono j z))).bind ?_;intro q D u U hu;refine(gu _ _ (VsR.mono D (VsR.mono o (VsR.mono j C)))).bind ?_;intro w E v V hv;refine(L _ (hu.mono E) hv).bind ?_;rintro F l7 b _ rfl;split<;>exact ai rfl;exact ai rfl;rintro l o s _ rfl;split<;>exact ai rfl;rename_i elem xs O XS Q T YS W Z;have z:VsR g xs XS:=⟨Q,T⟩
  have C:VsR g O YS:=⟨W,Z⟩
  refine(bL _).bind ?_;rintro p j n _ rfl;simp only[Xy];refine(iU _ _ λl o f s=>?_).bind ?_;refine(gu _ _ (VsR.mono o (VsR.mono j z))).bind ?_;intro q D u U hu;refine(gu _ _ (VsR.mono D (VsR.mono o (VsR.mono j C)))).bind ?_;intro w E v V hv;refine(L _ (hu.mono E) hv).bind ?_;rintro F l7 b _ rfl;split<;>exact ai rfl;rintro l o s _ rfl;split<;>exact ai rfl
def xb(t){x X y Y}(a:aA π x X)(b:aA π y Y):(SR S (ah P fs) P) EqQ π (Op.equal t x y) (Op.equal t X Y):=GA _ t a b
def Br(d):∀{π:Ren P.globals.size} (t) {x X y Y},aA π x X->aA π y Y->(SR S (ah P fs) P) EqQ π (Op.eqGuardIn d t x y) (Op.eqGuardIn d t X Y):=by
 induction d with
 |zero=>intros;exact aD
 |succ d F=>
  intro π t x X y Y j k;unfold Op.eqGuardIn;refine(aB t).bind ?_;rintro c H d' _ ⟨rfl,J⟩;clear J;have j:=j.mono H;have k:=k.mono H;cases d' with
  |interface M=>
   cases j<;>cases k<;>first
    |exact ai rfl
    |(rename_i a;cases Y<;>first|exact ai rfl|(simp[dZ]at a;done))
    |(rename_i a;cases X<;>first|exact ai rfl|(simp[dZ]at a;done))
    |(rename_i a b;cases X<;>first|exact ai rfl|(simp[dZ]at a;done))
  |struct l=>(cases j<;>first|exact ai rfl|(rename_i a;cases X<;>first|exact ai rfl|(simp[dZ]at a;done))|(cases k<;>first|exact ai rfl|(rename_i a;cases Y<;>first|exact ai rfl|(simp[dZ]at a;done))|skip));(rename_i xs XS m o p YS q r;have e:VsR c xs XS:=⟨m,o⟩);(have g:VsR c p YS:=⟨q,r⟩);simp only[];rw[<-VE,<-VE];refine(iU _ _ λh i f s=>?_).bind ?_;split;refine(gu _ _ (VsR.mono i e)).bind ?_;intro w z u U A;refine(gu _ _ (VsR.mono z (VsR.mono i g))).bind ?_;intro B C v V D;refine(F _ (A.mono C) D).bind ?_;rintro E K b _ rfl;split<;>exact ai rfl;exact ai rfl;rintro h i s _ rfl;split<;>exact ai rfl
  |array len elem=>(cases j<;>first|exact ai rfl|(rename_i a;cases X<;>first|exact ai rfl|(simp[dZ]at a;done))|(cases k<;>first|exact ai rfl|(rename_i a;cases Y<;>first|exact ai rfl|(simp[dZ]at a;done))|skip));(rename_i xs XS m o p YS q r;have e:VsR c xs XS:=⟨m,o⟩);(have g:VsR c p YS:=⟨q,r⟩);simp only[Xy];refine(bL _).bind ?_;rintro L I n _ rfl;refine(iU _ _ λh i f s=>?_).bind ?_;refine(gu _ _ (VsR.mono i (VsR.mono I e))).bind ?_;intro w z u U A;refine(gu _ _ (VsR.mono z (VsR.mono i (VsR.mono I g)))).bind ?_;intro B C v V D;refine(F _ (A.mono C) D).bind ?_;rintro E K b _ rfl;split<;>exact ai rfl;rintro h i s _ rfl;split<;>exact ai rfl
  |_=>cases j<;>exact ai rfl
def mF(P fs):∀(n) (t),(ah P fs).eqGuardType n t=P.eqGuardType n t:=by intro n;induction n with|zero=>exactλ_=>rfl|succ n a=>intro t;have e:=funext λt=>a t;unfold Program.eqGuardType;rw[e];rfl
end
end Go.Tm

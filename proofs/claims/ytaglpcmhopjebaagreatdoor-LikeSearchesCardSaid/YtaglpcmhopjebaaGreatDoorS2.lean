import Derived.Test.YtaglpcmhopjebaaGreatDoorS1
set_option linter.all false
set_option maxRecDepth 100000
set_option maxHeartbeats 20000000
namespace Go.Tm
section
variable {S:Kn} {P:Program} {fs:Array Func} {G:Nat} {π:Ren P.globals.size} {ρ:Ren G}
abbrev NmR{G}(π:Ren G):Addr×Bool->Addr×Bool->Prop:=λx y=>aR π x.1 y.1/\x.2=y.2
def uz{r d}(h:π r d):(SR S (ai P fs) P) (λc a b=>dM (NmR c) a b) π (numberAt r) (numberAt d):=by unfold numberAt;refine(fe h).bind ?_;rintro c l a _ rfl;split;exact aj .none;refine(cj (l _ _ h)).bind ?_;intro e g o O f;cases f<;>first|exact aj .none|exact aj (.some ⟨by assumption,rfl⟩)
def gD{a A}(h:aR π a A):(SR S (ai P fs) P) (λb x y=>NmR b x y) π (behindNumber a) (behindNumber A):=by unfold behindNumber;cases h with|mk h=>refine(uz h).bind ?_;intro b l x y c;cases c with|none=>exact aj ⟨.mk (l _ _ h),rfl⟩|some h=>exact aj h
def rP(P fs):∀(n) (t u),(ai P fs).alikeButTags n t u=P.alikeButTags n t u:=by intro n;induction n with|zero=>exactλ_ _=>rfl|succ n a=>intro t u;have e:=funext λt=>funext λu=>a t u;unfold Program.alikeButTags;rw[e];rfl
def wQ(P fs t):(ai P fs).stoodInAs t=P.stoodInAs t:=by unfold Program.stoodInAs;simp only[rP];rfl
def eG(P fs t):(ai P fs).stoodInHeld t=P.stoodInHeld t:=by unfold Program.stoodInHeld;rw[wQ];rfl
def iV{e σ:Type}(l:List e){f F:e->σ->Sem (ForInStep σ)}(s)(h:∀(c),Ren.le π c->∀a s,(SR S (ai P fs) P) EqQ c (f a s) (F a s)):(SR S (ai P fs) P) EqQ π (forIn l s f) (forIn l s F):=by refine(L4 (T:=λc a b=>a=b/\Ren.le π c) (λ_ _ _ _ l h=>⟨h.1,Ren.le_trans h.2 l⟩) l _ _ ?_ π _ _ ⟨rfl,Ren.le_refl _⟩).mono λ_ _ _ _ h=>h.1;rintro c a s _ ⟨rfl,d⟩;refine(h c d a s).mono ?_;rintro i g x _ rfl;cases x with|done u=>exact .inr ⟨u,u,rfl,rfl,rfl,Ren.le_trans d g⟩|yield u=>exact .inl ⟨u,u,rfl,rfl,rfl,Ren.le_trans d g⟩
def Ga(d):∀{π:Ren P.globals.size} (t) {x X y Y},az π x X->az π y Y->(SR S (ai P fs) P) EqQ π (Op.equalIn d t x y) (Op.equalIn d t X Y):=by
 induction d with
 |zero=>intros;exact aC
 |succ d L=>
  intro π t x X y Y M N;unfold Op.equalIn;refine(aA t).bind ?_;rintro g l2 d' _ ⟨rfl,hd⟩;clear hd;have M:=M.mono l2;have N:=N.mono l2;generalize hX:X=X' at*;split;all_goals first|exact .never (dz _)|exact .never (bJ _)|skip
  all_goals cases M
  all_goals cases N
  all_goals try exact aj rfl
  all_goals try (exfalso;rename_i h;exact absurd rfl h)
  all_goals simp only[]
  all_goals try (split<;>first|exact aj rfl|exact aq)
  ·
   rename_i a b A I B J;refine(gD I).bind ?_;rintro p j ⟨a',x1⟩ ⟨A',X1⟩ ⟨c,_⟩;refine(gD (J.mono j)).bind ?_;rintro l o ⟨b',x2⟩ ⟨B',X2⟩ ⟨k,_⟩;refine bY.bind ?_;rintro q D _ _ ⟨rfl,rfl⟩;have c:=(c.mono o).mono D;have k:=k.mono D;simp only[]at c k⊢;have e1:=(c.eq k).1;have e2:=(c.eq k).2;have e3:decide (a'.block<(ai P fs).globals.size)=decide (A'.block<P.globals.size):=by
    cases c with
    |mk h=>exact decide_eq_decide.2 (q.dB _ _ h)
   rw[e1,e3];split
   .refine(iU c).bind ?_
    rintro w E n _ rfl;refine(iU (k.mono E)).bind ?_;rintro F l7 m _ rfl;exact aj rfl
   .refine(dx t).bind ?_
    rintro w E i _ ⟨rfl,_⟩;rw[e2];split
    .split
     .exact aj rfl
     .exact aC
    .exact aC
  rename_i a b A I B J;refine(bH _).bind ?_;rintro p j n _ rfl;rw[(I.eq J).2];split;exact uy (I.mono j) (J.mono j);split;exact aj rfl;refine(eE _).bind ?_;rintro l o m _ rfl;exact aj rfl;exact wP (.some (by assumption)) (.some (by assumption));rename_i r R hr r' R' H;refine aj ?_;have e:r=r'↔R=R':=⟨λe=>by subst e;exact g.fn _ _ _ hr H,λe=>by subst e;exact g.inj _ _ _ hr H⟩
  show(some r==some r')=(some R==some R');rw[UE];simp[e]
  .split;exact aj rfl;refine(dx _).bind ?_;rintro p j i _ ⟨rfl,_⟩;split
   .refine .never ?_
    repeat' (first|exact aF _|exact aB (aF _)|exact aB (bJ _)|split|refine bF (by first|exact rH _|exact .choose _|exact .program|exact .pure _) λ_=>?_)
   exact L _ (by assumption|>λh=>az.mono j h) (by assumption|>λh=>az.mono j h)
  rename_i K xs O XS Q T YS W Z;have z:VsR g xs XS:=⟨Q,T⟩
  have C:VsR g O YS:=⟨W,Z⟩
  refine bY.bind ?_;rintro p j _ _ ⟨rfl,rfl⟩;rw[eG];split;exact .never (aB (bJ _));rw[<-UW,<-UW];refine(iV _ _ λl o f s=>?_).bind ?_;split;refine(gz _ _ (VsR.mono o (VsR.mono j z))).bind ?_;intro q D u U hu;refine(gz _ _ (VsR.mono D (VsR.mono o (VsR.mono j C)))).bind ?_;intro w E v V hv;refine(L _ (hu.mono E) hv).bind ?_;rintro F l7 b _ rfl;split<;>exact aj rfl;exact aj rfl;rintro l o s _ rfl;split<;>exact aj rfl;rename_i elem xs O XS Q T YS W Z;have z:VsR g xs XS:=⟨Q,T⟩
  have C:VsR g O YS:=⟨W,Z⟩
  refine(bH _).bind ?_;rintro p j n _ rfl;simp only[WI];refine(iV _ _ λl o f s=>?_).bind ?_;refine(gz _ _ (VsR.mono o (VsR.mono j z))).bind ?_;intro q D u U hu;refine(gz _ _ (VsR.mono D (VsR.mono o (VsR.mono j C)))).bind ?_;intro w E v V hv;refine(L _ (hu.mono E) hv).bind ?_;rintro F l7 b _ rfl;split<;>exact aj rfl;rintro l o s _ rfl;split<;>exact aj rfl
def wR(t){x X y Y}(a:az π x X)(b:az π y Y):(SR S (ai P fs) P) EqQ π (Op.equal t x y) (Op.equal t X Y):=Ga _ t a b
def Bg(d):∀{π:Ren P.globals.size} (t) {x X y Y},az π x X->az π y Y->(SR S (ai P fs) P) EqQ π (Op.eqGuardIn d t x y) (Op.eqGuardIn d t X Y):=by
 induction d with
 |zero=>intros;exact aC
 |succ d F=>
  intro π t x X y Y j k;unfold Op.eqGuardIn;refine(aA t).bind ?_;rintro c H d' _ ⟨rfl,J⟩;clear J;have j:=j.mono H;have k:=k.mono H;cases d' with
  |interface M=>
   cases j<;>cases k<;>first
    |exact aj rfl
    |(rename_i a;cases Y<;>first|exact aj rfl|(simp[eo]at a;done))
    |(rename_i a;cases X<;>first|exact aj rfl|(simp[eo]at a;done))
    |(rename_i a b;cases X<;>first|exact aj rfl|(simp[eo]at a;done))
  |struct l=>(cases j<;>first|exact aj rfl|(rename_i a;cases X<;>first|exact aj rfl|(simp[eo]at a;done))|(cases k<;>first|exact aj rfl|(rename_i a;cases Y<;>first|exact aj rfl|(simp[eo]at a;done))|skip));(rename_i xs XS m o p YS q r;have e:VsR c xs XS:=⟨m,o⟩);(have g:VsR c p YS:=⟨q,r⟩);simp only[];rw[<-UW,<-UW];refine(iV _ _ λh i f s=>?_).bind ?_;split;refine(gz _ _ (VsR.mono i e)).bind ?_;intro w z u U A;refine(gz _ _ (VsR.mono z (VsR.mono i g))).bind ?_;intro B C v V D;refine(F _ (A.mono C) D).bind ?_;rintro E K b _ rfl;split<;>exact aj rfl;exact aj rfl;rintro h i s _ rfl;split<;>exact aj rfl
  |array len elem=>(cases j<;>first|exact aj rfl|(rename_i a;cases X<;>first|exact aj rfl|(simp[eo]at a;done))|(cases k<;>first|exact aj rfl|(rename_i a;cases Y<;>first|exact aj rfl|(simp[eo]at a;done))|skip));(rename_i xs XS m o p YS q r;have e:VsR c xs XS:=⟨m,o⟩);(have g:VsR c p YS:=⟨q,r⟩);simp only[WI];refine(bH _).bind ?_;rintro L I n _ rfl;refine(iV _ _ λh i f s=>?_).bind ?_;refine(gz _ _ (VsR.mono i (VsR.mono I e))).bind ?_;intro w z u U A;refine(gz _ _ (VsR.mono z (VsR.mono i (VsR.mono I g)))).bind ?_;intro B C v V D;refine(F _ (A.mono C) D).bind ?_;rintro E K b _ rfl;split<;>exact aj rfl;rintro h i s _ rfl;split<;>exact aj rfl
  |_=>cases j<;>exact aj rfl
def mE(P fs):∀(n) (t),(ai P fs).eqGuardType n t=P.eqGuardType n t:=by intro n;induction n with|zero=>exactλ_=>rfl|succ n a=>intro t;have e:=funext λt=>a t;unfold Program.eqGuardType;rw[e];rfl
end
inductive Quiet{α:Type}(Q:α->Prop):Sem α->Prop
 |pure {a}:Q a->Quiet Q (.pure a)
 |choose (q) {k}:IA q=false->(∀n,Quiet Q (k n))->Quiet Q (.choose q k)
 |halt (h):gI h->Quiet Q (.halt h)
def Quiet.pure'{b Q a}(h:Q a):Quiet Q (Pure.pure a:Sem b):=.pure h
def Quiet.bind{c d Q Q' s}{f:c->Sem d}(h:Quiet Q s)(b:∀a,Q a->Quiet Q' (f a)):Quiet Q' (s>>= f):=by show Quiet Q' (s.bind f);induction h with|pure h=>exact b _ h|choose q e _ g=>exact .choose q e g|halt h b=>exact .halt h b
def Quiet.bind'{b c Q' s}{f:b->Sem c}(h:Quiet (λ_=>True) s)(d:∀a,Quiet Q' (f a)):Quiet Q' (s>>= f):=h.bind λa _=>d a
def Quiet.ask{Q:Nat->Prop}(h:∀n,Q n)(q:Question)(a:IA q=false:=by with_unfolding_all rfl):Quiet Q (Go.choose q):=.choose q a λn=>.pure (h n)
def Quiet.stuck{a}{Q:a->Prop}(s):Quiet Q (Go.stuck s):=.halt _ True.intro
def Quiet.unsupported{a}{Q:a->Prop}(s)(b:gI (.unsupported s)):Quiet Q (Go.unsupported s):=.halt _ b
def Quiet.ite{a Q c}[Decidable c]{s t:Sem a}(h:Quiet Q s)(b:Quiet Q t):Quiet Q (if c then s else t):=by split<;>assumption
def D2(k b):Plain (.float k b):=λ_ _=>.float k b
def lY(k a b):Plain (.complex k a b):=λ_ _=>.complex k a b
def kz(k b):Plain (.int k b):=λ_ _=>.int k b
def nt{p:Prop}(h:p:=by repeat' (with_reducible first
 |exact Quiet.stuck _|exact Quiet.unsupported _ (by with_unfolding_all exact True.intro)|exact Quiet.pure' trivial|exact Quiet.pure' (D2 _ _)|exact Quiet.pure' (qS _)|exact Quiet.pure' (lY _ _ _)|exact Quiet.pure' (kz _ _)
 |exact Quiet.ask (λ_=>trivial) _|assumption|refine Quiet.ite ?_ ?_|refine Quiet.bind' ?_ λ_=>?_|dsimp only|split)):p:=h
def Quiet.true{a Q}{s:Sem a}(h:Quiet Q s):Quiet (λ_=>True) s:=by induction h with|pure h=>exact .pure trivial|choose q b _ c=>exact .choose q b c|halt h d=>exact .halt h d
def mG(a k x y):Quiet Plain (Op.floatArith a k x y):=by unfold Op.floatArith;exact nt
def oF(a k x y):Quiet Plain (Op.floatCmp a k x y):=by unfold Op.floatCmp;exact nt
def eR(a b c):Quiet Plain (Conv.floatToFloat a b c):=by unfold Conv.floatToFloat;exact nt
def tO(a b c):Quiet Plain (Conv.floatToInt a b c):=by unfold Conv.floatToInt;exact nt
def BO(v):Quiet (λ_=>True) (asBool v):=by unfold asBool;exact nt
def oG(a k x y):Quiet (λ_=>True) (Op.Complex.arith a k x y):=by unfold Op.Complex.arith;refine Quiet.bind' (mG a k x y).true λ_=>?_;exact nt
def tP(a k x y):Quiet (λ_=>True) (Op.Complex.cmp a k x y):=by unfold Op.Complex.cmp;refine Quiet.bind' (oF a k x y).true λ_=>BO _
def xi(k x d):Quiet (λ_=>True) (Op.Complex.conv k x d):=by unfold Op.Complex.conv;refine Quiet.ite (Quiet.pure' trivial) ?_;refine Quiet.bind' (eR _ _ _).true λ_=>?_;exact nt
def IP{p:Prop}(h:p:=by repeat' (with_reducible first
 |exact Quiet.stuck _|exact Quiet.pure' trivial|exact Quiet.pure' (qS _)|exact Quiet.pure' (lY _ _ _)
 |exact oG _ _ _ _|exact tP _ _ _ _|exact xi _ _ _|refine Quiet.ite ?_ ?_|refine Quiet.bind' ?_ λ_=>?_|dsimp only|split)):p:=h
def yW(a b c d):Quiet (λ_=>True) (Op.Complex.product a b c d):=by unfold Op.Complex.product Op.Complex.sub Op.Complex.mul Op.Complex.add;exact IP
def vw(s a b c d):Quiet (λ_=>True) (Op.Complex.corrected s a b c d):=by unfold Op.Complex.corrected Op.Complex.sub Op.Complex.mul Op.Complex.add;exact IP
def xj(a b c d):Quiet (λ_=>True) (Op.Complex.quotient a b c d):=by unfold Op.Complex.quotient Op.Complex.sub Op.Complex.mul Op.Complex.add Op.Complex.quo;repeat' (with_reducible first|exact vw _ _ _ _ _|exact oG _ _ _ _|exact tP _ _ _ _|exact Quiet.pure' trivial|refine Quiet.ite ?_ ?_|refine Quiet.bind' ?_ λ_=>?_|dsimp only|split)
def vy(e k a b c d):Quiet Plain (Op.complexOp e k a b c d):=by unfold Op.complexOp;split<;>repeat' (with_reducible first|exact yW _ _ _ _|exact xj _ _ _ _|exact Quiet.stuck _|exact oG _ _ _ _|exact tP _ _ _ _|exact xi _ _ _|exact Quiet.pure' trivial|exact Quiet.pure' (qS _)|exact Quiet.pure' (lY _ _ _)|refine Quiet.ite ?_ ?_|refine Quiet.bind' ?_ λ_=>?_|dsimp only|split)
def nu(s a b d):Quiet Plain (Conv.complexToComplex s a b d):=by unfold Conv.complexToComplex;refine Quiet.bind' (eR _ _ _).true λ_=>?_;split;refine Quiet.bind' (eR _ _ _).true λ_=>?_;exact nt;exact nt
section
variable {S:Kn} {P:Program} {fs:Array Func} {π:Ren P.globals.size}
def Quiet.sr{s}(h:Quiet Plain s):(SR S (ai P fs) P) VQ π s s:=by induction h with|pure h=>exact .pure (h _ _)|choose q a _ b=>exact .choose (λf c h=>absurd h (LC a f c)) b|halt h d=>exact .never (.halt h d)
def vz(P fs):∀(d) (t) (off),cellOfByte (ai P fs) d t off=cellOfByte P d t off:=by intro d;induction d with|zero=>exactλ_ _=>rfl|succ d a=>intro t off;unfold cellOfByte;simp only[a];rfl
def mH(P fs d e n a b):cellAtBytes (ai P fs) d e n a b=cellAtBytes P d e n a b:=by unfold cellAtBytes;simp only[vz,gu];rfl
def km(a1 t){x X y Y}(j:az π x X)(d:az π y Y):(SR S (ai P fs) P) (λπ v V=>az π v V/\∃a A,v=.pointer (some a)/\V=.pointer (some A)) π (Builtin.unsafeAdd_ a1 t #[x,y]) (Builtin.unsafeAdd_ a1 t #[X,Y]):=by (have go:∀(π:Ren P.globals.size) {p Q:Option Addr} (i:dM (aR π) p Q) {y Y:Value},az π y Y->(SR S (ai P fs) P) (λπ v V=>az π v V/\∃a A,v=.pointer (some a)/\V=.pointer (some A)) π (Builtin.unsafeAdd_ a1 t #[.pointer p,y]) (Builtin.unsafeAdd_ a1 t #[.pointer Q,Y]):=by intro π p Q i y Y d;unfold Builtin.unsafeAdd_;refine(jA d).bind ?_;rintro k l n _ rfl;have c:=i.mono λ_ _ x=>aR.mono l x;simp only[];split;(cases c with|none=>exact aC| @some a A b=>simp only[];cases b with|mk b=>refine(py b).bind ?_;intro e f u v g;simp only[lB g];split;exact aC;exact aj ⟨.ptr (.mk (f _ _ b)),_,_,rfl,rfl⟩);split;exact aC;cases c with|none=>exact aC| @some a A b=>simp only[];cases b with|mk b=>refine(fe b).bind ?_;rintro e f sh _ rfl;split;refine bY.bind ?_;rintro m o _ _ ⟨rfl,rfl⟩;simp only[mH];rw[show(ai P fs).depth=P.depth from rfl,show ∀t,(ai P fs).cellsOf t=P.cellsOf t fromλ_=>rfl];split;exact aj ⟨.ptr (.mk (o _ _ (f _ _ b))),_,_,rfl,rfl⟩;exact aC;exact aC);cases j with|Je=>exact go π .none d|ptr h=>exact go π (.some h) d|_=>exact aq
def uE{a A}(h:aR π a A)(b):(SR S (ai P fs) P) VQ π (asNumber a b) (asNumber A b):=by unfold asNumber;refine(ia (.number b h)).bind ?_;intro c l r R d;exact aj (.ptr (.mk d))
def oH(a1 t y):dP (Builtin.unsafeAdd_ a1 t #[.tuple #[],y]):=by unfold Builtin.unsafeAdd_;exact dz _
def lZ(t y):dP (Op.equal t (.tuple #[]) y):=by unfold Op.equal Op.maxDepth Op.equalIn;refine bF (dg t) λd=>?_;cases d<;>cases y<;>first|exact dz _|(refine bJ _ ?_;exact True.intro)|(rename_i a;cases a<;>first|exact dz _|(refine bJ _ ?_;exact True.intro))|(rename_i a _ _;cases a<;>exact dz _)
def ma(t x):dP (Op.equal t x (.tuple #[])):=by unfold Op.equal Op.maxDepth Op.equalIn;refine bF (dg t) λd=>?_;cases d<;>cases x<;>first|exact dz _|(refine bJ _ ?_;exact True.intro)|(rename_i a;cases a<;>first|exact dz _|(refine bJ _ ?_;exact True.intro))|(rename_i a _ _;cases a<;>exact dz _)
def kR(t){x X y Y}(c:az π x X)(e:az π y Y):(SR S (ai P fs) P) VQ π (movedNumber t x y) (movedNumber t X Y):=by
 unfold movedNumber;refine(aA t).bind ?_;rintro k g d _ ⟨rfl,_⟩;have c:=c.mono g;have e:=e.mono g;simp only[];split;exact .never (aB (.halt _));have f:=c
 cases c with
 |ptr h=>simp only[];refine(gD h).bind ?_;rintro l m ⟨a,b⟩ ⟨A,B⟩ ⟨i,j⟩;simp only[]at i j⊢;subst j;refine(km _ _ (.ptr i) (e.mono m)).bind ?_;rintro n q v V ⟨o,r,s,e1,p⟩;subst e1 p;cases o with|ptr h=>exact uE h _
 |mv V a=>exact .never (show dP (Builtin.unsafeAdd_ #[] t #[.tuple #[],y])from oH _ _ _)
 |_=>exact(km #[] t f e).mono λ_ _ _ _ h=>h.1
def vA(t){x X y Y}(d:az π x X)(e:az π y Y):(SR S (ai P fs) P) VQ π (movedPointer t x y) (movedPointer t X Y):=by
 unfold movedPointer;have b:=d;cases d with
 |ptr h=>cases h with|mk h=>simp only[];refine(uz h).bind ?_;intro g f u v c;rw[lB c];split;exact aC;exact(km _ _ (.ptr (.mk (f _ _ h))) (e.mono f)).mono λ_ _ _ _ h=>h.1
 |mv V a=>exact .never (oH _ _ _)
 |_=>exact(km _ _ b e).mono λ_ _ _ _ h=>h.1
def rY{a A b B}(c:aR π a A)(d:aR π b B):(SR S (ai P fs) P) EqQ π (Op.twoPlaces a b) (Op.twoPlaces A B):=by (unfold Op.twoPlaces;have e1:=(c.eq d).1;have f:(a.block>=P.globals.size)=(A.block>=P.globals.size):=by cases c with|mk h=>have:=π.dB _ _ h;simp only[ge_iff_le,eq_iff_iff];omega);refine bY.bind ?_;rintro g e _ _ ⟨rfl,rfl⟩;simp only[show(ai P fs).globals=P.globals from rfl,bne,e1,f];split;exact aC;refine(iU (c.mono e)).bind ?_;rintro i j n _ rfl;refine(iU ((d.mono e).mono j)).bind ?_;rintro k l m _ rfl;exact aj rfl
def Gt(k){a A b B}(c:aR π a A)(d:aR π b B):(SR S (ai P fs) P) VQ π (Op.addrSub k a b) (Op.addrSub k A B):=by unfold Op.addrSub;refine(rY c d).bind ?_;rintro e f ⟨x,y⟩ _ rfl;exact aj (.int _ _)
def nv(c){a A b B}(d:aR π a A)(e:aR π b B):(SR S (ai P fs) P) VQ π (Op.addrCmp c a b) (Op.addrCmp c A B):=by unfold Op.addrCmp;refine(rY d e).bind ?_;rintro f g ⟨x,y⟩ _ rfl;cases c<;>first|exact aj (.bool _)|exact aC
def qZ(k){a A}(b:aR π a A)(n):(SR S (ai P fs) P) VQ π (Op.addrMod k a n) (Op.addrMod k A n):=by unfold Op.addrMod;cases b with|mk h=>refine(fe h).bind ?_;rintro c d sh _ rfl;split;refine(dx _).bind ?_;rintro e f i _ ⟨rfl,_⟩;simp only[];split;exact .never (aB (.halt _));refine(iU (.mk (f _ _ (d _ _ h)))).bind ?_;rintro g j m _ rfl;exact aj (.int _ _);exact aC
def D3(t){x X y Y}(a:az π x X)(c:az π y Y):(SR S (ai P fs) P) VQ π (do pure (.bool (!(<-Op.equal t x y)))) (do pure (.bool (!(<-Op.equal t X Y)))):=by refine(wR t a c).bind ?_;rintro d e b _ rfl;exact aj (.bool _)
def Gu(t){x X y Y}(a:az π x X)(c:az π y Y):(SR S (ai P fs) P) VQ π (do pure (.bool (<-Op.equal t x y))) (do pure (.bool (<-Op.equal t X Y))):=by refine(wR t a c).bind ?_;rintro d e b _ rfl;exact aj (.bool _)
def dq{d e Q a A}(h:aR π a A){f:Addr->Sem d}{F:Addr->Sem e}(g:∀c,Ren.le π c->∀b B,aR c b B->(SR S (ai P fs) P) Q c (f b) (F B)):(SR S (ai P fs) P) Q π (do f (<-behindNumber a).1) (do F (<-behindNumber A).1):=by refine(gD h).bind ?_;rintro i j ⟨a,b⟩ ⟨A,B⟩ ⟨k,l⟩;exact g _ j _ _ k
def xk(t:TypeId){x X y Y:Value}(b:az π x X)(c:az π y Y):(SR S (ai P fs) P) VQ π (do if(<-underlying t) matches .unsafePointer then movedPointer t x y else movedNumber t x y) (do if(<-underlying t) matches .unsafePointer then movedPointer t X Y else movedNumber t X Y):=by refine(aA t).bind ?_;rintro d l a _ ⟨rfl,_⟩;split;exact vA t (b.mono l) (c.mono l);exact kR t (b.mono l) (c.mono l)
def Calm.ite{c}[Decidable c]{s t}(h:Calm s)(a:Calm t):Calm (if c then s else t):=by split<;>assumption
def cZ{b d Q c}[Decidable c]{s t:Sem b}{s' a:Sem d}(h:(SR S (ai P fs) P) Q π s s')(e:(SR S (ai P fs) P) Q π t a):(SR S (ai P fs) P) Q π (if c then s else t) (if c then s' else a):=by split<;>assumption
def Mt(o t){x X y Y}(a:az π x X)(d:az π y Y):(SR S (ai P fs) P) VQ π (binOp o t x y) (binOp o t X Y):=by
 have i:=a;have j:=d;unfold binOp;split;cases a;cases d;exact(wN _ _ _ _ _).sr;cases a;cases d;exact(wN _ _ _ _ _).sr;cases a;cases d;rename_i u v;cases o<;>first
  |exact(u rfl).elim
  |exact(v rfl).elim
  |exact cZ aq (pY _ _ _ _).sr
  |exact cZ aq (Dq _ _ _ _).sr
  |exact cZ aq (rM _ _ _ _).sr
  |exact cZ aq (Dn _ _ _).sr
 cases a;cases d;cases o<;>first
  |exact cZ aq (mG _ _ _ _).sr
  |exact cZ aq (oF _ _ _ _).sr
 cases a;cases d;cases o<;>exact cZ aq (vy _ _ _ _ _ _).sr;cases a;cases d;cases o<;>exact(pZ _ _ _).sr;rename_i p q r s;cases a<;>cases d<;>first|exact Gu t i j|exact .never (aB (lZ _ _))|exact .never (aB (ma _ _))|exact(p _ _ _ _ rfl rfl).elim|exact(q _ _ _ _ rfl rfl).elim|exact(r _ _ _ _ _ _ rfl rfl).elim|exact(s _ _ rfl rfl).elim
 rename_i p q r s;cases a<;>cases d<;>first|exact D3 t i j|exact .never (aB (lZ _ _))|exact .never (aB (ma _ _))|exact(p _ _ _ _ rfl rfl).elim|exact(q _ _ _ _ rfl rfl).elim|exact(r _ _ _ _ _ _ rfl rfl).elim|exact(s _ _ rfl rfl).elim
 cases d;cases a<;>exact xk t i j;cases a;cases d<;>exact kR t j i;cases d;cases a<;>exact kR t i (.int _ _);cases a with|ptr e=>cases d with|ptr k=>exact dq e λf h b B g=>dq (k.mono h) λl m c C n=>Gt _ (g.mono m) n
 cases a with|ptr e=>cases d with|ptr k=>exact dq e λf h b B g=>dq (k.mono h) λl m c C n=>nv _ (g.mono m) n
 cases a with|ptr e=>cases d with|ptr k=>exact dq e λf h b B g=>dq (k.mono h) λl m c C n=>nv _ (g.mono m) n
 cases a with|ptr e=>cases d with|ptr k=>exact dq e λf h b B g=>dq (k.mono h) λl m c C n=>nv _ (g.mono m) n
 cases a with|ptr e=>cases d with|ptr k=>exact dq e λf h b B g=>dq (k.mono h) λl m c C n=>nv _ (g.mono m) n
 cases a with|ptr e=>cases d with|int=>exact dq e λf h b B g=>qZ _ g _
 cases a with|ptr e=>cases d with|int=>exact dq e λf h b B g=>qZ _ g _
 cases d with|ptr e=>cases a with|int=>exact dq e λf h b B g=>qZ _ g _
 exact aC;exact aC;exact aq
def xm(h:BinOp)(t c)(d:gI (.unsupported c)){a A b B}(e:az π a A)(f:az π b B):(SR S (ai P fs) P) EqQ π (do if <-Op.eqGuardIn Op.maxDepth t a b then unsupported c) (do if <-Op.eqGuardIn Op.maxDepth t A B then unsupported c):=by refine(Bg _ t e f).bind ?_;rintro g i x _ rfl;split;exact aC d;exact aj rfl
def Gv(e t x y){a A b B}(f:az π a A)(g:az π b B):(SR S (ai P fs) P) EqQ π (eqGuard e t x y a b) (eqGuard e t x y A B):=by
 have c:=f;have d:=g;unfold eqGuard;refine cZ (aj rfl) ?_;split;cases f;cases g;exact cZ (aj rfl) (xm e t _ (by exact True.intro) c d);cases f;cases g;simp only[];refine bY.bind ?_;rintro j h _ _ ⟨rfl,rfl⟩;refine bY.bind ?_;rintro k i _ _ ⟨rfl,rfl⟩;rw[mE,show(ai P fs).depth=P.depth from rfl];split;exact aj rfl;exact xm e t _ (by exact True.intro) ((c.mono h).mono i) ((d.mono h).mono i);rename_i l m
 cases f with
 |mv _ a=>cases A<;>first|(simp[eo]at a;done)|exact aj rfl
 |_=>
  cases g with
  |mv _ a=>cases B<;>first|(simp[eo]at a;done)|exact aj rfl
  |_=>first|exact aj rfl|exact(l rfl rfl).elim|exact(m _ _ rfl rfl).elim
end
section
variable {S:Kn} {P:Program} {fs:Array Func} {π:Ren P.globals.size}
def fH{G}{ρ:Ren G}{c}(h:bh c):VsR ρ c c:=h.refl ρ
def qk(b:Array UInt8):bh (b.map λb=>Value.int .u8 b.toNat):=λi v h=>by rw[T3]at h;cases a:b[i]? with|none=>rw[a]at h;cases h|some x=>rw[a]at h;cases h;exact kz _ _
def iD(n){v}(h:Plain v):bh (Array.replicate n v):=λi x a=>by rw[WC]at a;split at a<;>cases a;exact h
def bh.append{a b}(h:bh a)(d:bh b):bh (a++b):=λi x c=>by rw[Vr]at c;split at c;exact h _ _ c;exact d _ _ c
def bh.push{a}(h:bh a){v}(c:Plain v):bh (a.push v):=λi x b=>by rw[Un]at b;split at b;cases b;exact c;exact h _ _ b
def zU{a A}(h:aR π a A)(n):(SR S (ai P fs) P) EqQ π (freeze a n) (freeze A n):=.freeze h (.pure rfl)
def mI{a A}(h:aR π a A):(SR S (ai P fs) P) EqQ π (markStringish a) (markStringish A):=by unfold markStringish;cases h with|mk h=>refine(fe h).bind ?_;rintro b c sh _ rfl;split;exact zU (.mk (c _ _ h)) 1;exact aj rfl
def tQ(e s):(SR S (ai P fs) P) VQ π (Conv.stringToBytes e s) (Conv.stringToBytes e s):=by unfold Conv.stringToBytes;refine(eE _).bind ?_;rintro c h n _ rfl;refine(iT e (fH ((qk _).append (iD _ (kz _ _))))).bind ?_;intro d i a A b;refine(mI b).bind ?_;intro f g _ _ _;exact aj (.slice _ _ (b.mono g))
def yX(s):∀(b i) (acc),bh acc->bh (Conv.runesFrom s b i acc):=by intro b;induction b with|zero=>intro i acc h;exact h|succ b a=>intro i acc h;unfold Conv.runesFrom;split;exact a _ _ (h.push (kz _ _));exact h
def tR(e s):(SR S (ai P fs) P) VQ π (Conv.stringToRunes e s) (Conv.stringToRunes e s):=by unfold Conv.stringToRunes;refine(eE _).bind ?_;rintro b f n _ rfl;refine(iT e (fH ((yX _ _ _ _ .empty).append (iD _ (kz _ _))))).bind ?_;intro c g a A d;exact aj (.slice _ _ d)
def zV{σ l L f F}(h:∀(a),Ren.le π a->∀v V s,az a v V->(SR S (ai P fs) P) EqQ a (f v s) (F V s))(e:bj (az π) l L):∀{a} (_:Ren.le π a) (s:σ),(SR S (ai P fs) P) EqQ a (forIn l s f) (forIn L s F):=by induction e with|nil=>intro a b s;simp only[List.forIn_nil];exact aj rfl|cons g _ i=>intro a b s;simp only[WH];refine(h a b _ _ s (g.mono b)).bind ?_;rintro d c x _ rfl;cases x with|done=>exact aj rfl|yield s=>exact i (Ren.le_trans b c) s
def tS{x X}(h:az π x X):(SR S (ai P fs) P) VQ π (Conv.bytesToString x) (Conv.bytesToString X):=by
 unfold Conv.bytesToString;cases h with
 |iM=>exact aj (.string _)
 |slice n c h=>
  simp only[];refine(j9 h n).bind ?_;intro a g i j e;simp only[<-UW];refine(zV (π:=a) ?_ e.toList (Ren.le_refl _) _).bind ?_;intro b f v V s d
  cases d with
  |int k n=>cases k<;>first|exact aj rfl|exact .never (aB (.halt _))|exact aq
  |_=>exact aq
  rintro b f s _ rfl;exact aj (.string _)
 |qJ A=>exact aj (.string _)
 |_=>exact aq
def tT{x X}(h:az π x X):(SR S (ai P fs) P) VQ π (Conv.runesToString x) (Conv.runesToString X):=by
 unfold Conv.runesToString;cases h with
 |iM=>exact aj (.string _)
 |slice n c h=>
  simp only[];refine(j9 h n).bind ?_;intro a g i j e;simp only[<-UW];refine(zV (π:=a) ?_ e.toList (Ren.le_refl _) _).bind ?_;intro b f v V s d
  cases d with
  |int k n=>cases k<;>first|exact aj rfl|exact .never (aB (.halt _))|exact aq
  |_=>exact aq
  rintro b f s _ rfl;exact aj (.string _)
 |qJ A=>exact aj (.string _)
 |_=>exact aq
def zW{a A}(h:aR π a A):(SR S (ai P fs) P) AQ π (Conv.seenAt a) (Conv.seenAt A):=by (unfold Conv.seenAt;have i:=h;have e1:a.spot=A.spot/\a.off=A.off:=by cases h;exact⟨rfl,rfl⟩);simp only[e1.1,e1.2];cases h with|mk h=>refine(py h).bind ?_;intro j k x y c;cases c with|none=>exact aj (i.mono k)| @some u v d=>obtain⟨s,t⟩:=u;obtain⟨s',o⟩:=v;obtain⟨b,e⟩:=d;simp only[]at b e⊢;subst e;split;exact aj b;(have f:s.spot=s'.spot/\s.off=s'.off:=by cases b;exact⟨rfl,rfl⟩);simp only[f.1,f.2];split;exact .never (aB (.halt _));refine bY.bind ?_;rintro l g _ _ ⟨rfl,rfl⟩;simp only[gu,mH,show(ai P fs).depth=P.depth from rfl,show ∀t,(ai P fs).cellsOf t=P.cellsOf t fromλ_=>rfl];split;(cases b with|mk b=>refine(fe (g _ _ b)).bind ?_;rintro m n sh _ rfl;split;split;exact .never (aB (.halt _));split;exact aj (.mk (n _ _ (g _ _ b)));exact aC;exact aC);exact aC
def Gw{r R}(h:π r R):(SR S (ai P fs) P) EqQ π (cellsIn r) (cellsIn R):=by unfold cellsIn;refine(fe h).bind ?_;rintro a b sh _ rfl;split;exact aj rfl;refine(cj (b _ _ h)).bind ?_;intro c e o O d;cases d<;>exact aj rfl
def vB(P fs):∀(n) (t u),sameLayout (ai P fs) n t u=sameLayout P n t u:=by intro n;induction n with|zero=>exactλ_ _=>rfl|succ n a=>intro t u;unfold sameLayout;simp only[a,eG];rfl
def Gx(P fs g):∀(d) (e) (c o n),rowAt (ai P fs) g d e c o n=rowAt P g d e c o n:=by intro d;induction d with|zero=>exactλ_ _ _ _=>rfl|succ d a=>intro e c o n;unfold rowAt;simp only[a,eG];rfl
def D4(P fs):∀(d) (e) (c o) (u) (n),liesAt (ai P fs) d e c o u n=liesAt P d e c o u n:=by intro d;induction d with|zero=>exactλ_ _ _ _ _=>rfl|succ d a=>intro e c o u n;unfold liesAt;simp only[a,Gx,vB];rfl
def oI{a A}(h:aR π a A)(u n):(SR S (ai P fs) P) EqQ π (variablesAt a u n) (variablesAt A u n):=by unfold variablesAt;cases h with|mk h=>refine bY.bind ?_;rintro b c _ _ ⟨rfl,rfl⟩;refine(fe (c _ _ h)).bind ?_;rintro d e sh _ rfl;simp only[D4,show(ai P fs).depth=P.depth from rfl,show ∀t,(ai P fs).cellsOf t=P.cellsOf t fromλ_=>rfl];split<;>exact aj rfl
def se(P fs):∀(d) (t),(ai P fs).holdsStoodIn d t=P.holdsStoodIn d t:=by intro d;induction d with|zero=>exactλ_=>rfl|succ d a=>intro t;unfold Program.holdsStoodIn;simp only[a,eG];rfl
def xn{a A}(h:aR π a A)(u):(SR S (ai P fs) P) VQ π (do pure (.pointer (some ⟨<-newObj (.view a u),0,none⟩))) (do pure (.pointer (some ⟨<-newObj (.view A u),0,none⟩))):=by refine(ia (.view u h)).bind ?_;intro b d r R c;exact aj (.ptr (.mk c))
def fW(f g){x X}(e:az π x X):(SR S (ai P fs) P) VQ π (Conv.unsafePointer f g x) (Conv.unsafePointer f g X):=by unfold Conv.unsafePointer;refine(aA f).bind ?_;rintro v w s _ ⟨rfl,_⟩;refine(aA g).bind ?_;rintro y z d _ ⟨rfl,_⟩;have e:=(e.mono w).mono z;have h:=e;split;cases e;exact aj h;(cases e with|ptr l=>refine(zW l).bind ?_;intro o A b B a;have m:=a;cases a with|mk a=>refine(Gw a).bind ?_;rintro p i c _ rfl;refine(bH _).bind ?_;rintro r k n _ rfl;have j:=λu=>xn (S:=S) (fs:=fs) ((m.mono i).mono k) u;split<;>exact cZ (j _) (aj (.ptr ((m.mono i).mono k))));cases e;exact aj h;(cases e with|ptr l=>refine(zW l).bind ?_;intro o A b B a;refine(bH _).bind ?_;rintro p i n _ rfl;simp only[];refine(oI (a.mono i) _ 1).bind ?_;rintro r k q _ rfl;refine cZ (aj (.ptr ((a.mono i).mono k))) ?_;have t:=(a.mono i).mono k;cases a with|mk a=>refine(fe (k _ _ (i _ _ a))).bind ?_;rintro C D sh _ rfl;split;refine bY.bind ?_;rintro E F _ _ ⟨rfl,rfl⟩;refine bY.bind ?_;rintro G H _ _ ⟨rfl,rfl⟩;rw[se,show(ai P fs).depth=P.depth from rfl];split;exact .never (aB (.halt _));exact xn (((t.mono D).mono F).mono H) _;exact .never (aB (.halt _)));cases e<;>exact aj h;cases e;exact aj (.int _ _);(cases e with|ptr l=>exact uE l _);exact aC;exact aC;exact aC;exact aq
def yY(c f e:TypeId){x X:Value}(a:az π x X):(SR S (ai P fs) P) VQ π (do match <-underlying e with
 | .int .u8=>Conv.bytesToString x
 | .int .i32=>Conv.runesToString x
 |_=>stuck "Convert: a slice of what to string?") (do match <-underlying e with
 | .int .u8=>Conv.bytesToString X
 | .int .i32=>Conv.runesToString X
 |_=>stuck "Convert: a slice of what to string?"):=by
 refine(aA e).bind ?_;rintro g b d _ ⟨rfl,_⟩;split
 .exact tS (a.mono b)
 .exact tT (a.mono b)
 .exact aq
def yZ(e:TypeId){s:ByteArray}:(SR S (ai P fs) P) VQ π (do match <-underlying e with
 | .int .u8=>Conv.stringToBytes e s
 | .int .i32=>Conv.stringToRunes e s
 |_=>stuck "Convert: string to a slice of what?") (do match <-underlying e with
 | .int .u8=>Conv.stringToBytes e s
 | .int .i32=>Conv.stringToRunes e s
 |_=>stuck "Convert: string to a slice of what?"):=by
 refine(aA e).bind ?_;rintro a b d _ ⟨rfl,_⟩;split
 .exact tQ _ _
 .exact tR _ _
 .exact aq
def ql(b c e:TypeId){a A:Addr}{x X:Value}(f:aR π a A)(g:az π x X):(SR S (ai P fs) P) VQ π (do match b==c,<-underlying e with
 |true,.int .u8=>do markStringish a;pure x
 |_,_=>unsupported (.noEntry "convert/other")) (do match b==c,<-underlying e with
 |true,.int .u8=>do markStringish A;pure X
 |_,_=>unsupported (.noEntry "convert/other")):=by
 refine(aA _).bind ?_;rintro h d e _ ⟨rfl,_⟩;split
 .refine(mI (f.mono d)).bind ?_
  intro i j _ _ _;exact aj ((g.mono d).mono j)
 .exact aC
def sg(s d):dP (Conv.unsafePointer s d (.tuple #[])):=by unfold Conv.unsafePointer;refine bF (dg s) λa=>?_;refine bF (dg d) λb=>?_;cases a<;>cases b<;>exact dz _
def ra(c f):dP (convert c f (.tuple #[])):=by
 unfold convert;refine bF (dg c) λa=>?_;refine bF (dg f) λb=>?_;have key:∀e,dP (do match <-underlying e with
  | .int .u8=>Conv.bytesToString (.tuple #[])
  | .int .i32=>Conv.runesToString (.tuple #[])
  |_=>stuck "Convert: a slice of what to string?"):=λe=>by
  refine bF (dg e) λd=>?_;split<;>exact dz _
 cases a<;>cases b<;>first|exact key _|exact sg _ _|(refine bJ _ ?_;exact True.intro)
def Gy(a b)(h:(a==b)=false){x X}(g:az π x X):(SR S (ai P fs) P) VQ π (convert a b x) (convert a b X):=by
 by_cases l:x=.tuple #[];rw[l];exact .never (ra _ _)
 unfold convert;refine(aA a).bind ?_;rintro v w _ s ⟨rfl,y⟩;clear y;refine(aA b).bind ?_;rintro z A _ d ⟨rfl,B⟩;clear B;have g:=(g.mono w).mono A;have c:=g;cases g<;>(try exact absurd rfl l)<;>split<;>first
  |contradiction
  |exact aC
  |exact aj (.int _ _)
  |exact aj (.float _ _)
  |exact(tO _ _ _).sr
  |exact(eR _ _ _).sr
  |exact(nu _ _ _ _).sr
  |exact aj (.string _)
  |exact yZ _
  |exact fW _ _ c
  |exact yY a b _ c
  |exact ql a b _ (by assumption) c
  |(rename_i d1 d2 d3 m n o p q r t u i;cases d1<;>exact fW _ _ c)
  |(rename_i d1 d2 d3 m n o p q r t u i j f k;cases d1<;>first|contradiction|exact fW _ _ c|exact(k rfl).elim|exact(f rfl).elim|exact(j rfl).elim)
  |(rename_i d1 d2 d3 m n o p q r t u i j f;cases d1<;>first|contradiction|exact fW _ _ c|exact(f rfl).elim|exact(j rfl).elim|exact(i rfl).elim)
  |(injections;subst_vars;exact ql a b _ (by assumption) c)
  |(injections;done)
  |(rw[h];refine(aA _).bind ?_;rintro C D e _ ⟨rfl,_⟩;exact aC)
def BP{d e Q c}[Decidable c]{s t:Sem d}{s' b:Sem e}(h:c->(SR S (ai P fs) P) Q π s s')(f:¬c->(SR S (ai P fs) P) Q π t b):(SR S (ai P fs) P) Q π (if c then s else t) (if c then s' else b):=by by_cases a:c;rw[Tv a,Tv a];exact h a;rw[Tu a,Tu a];exact f a
def xo{x X}(h:az π x X):(SR S (ai P fs) P) (λ_ a b=>a=b/\∀o k c,x=.slice o k c->a=k) π (Builtin.lenOf x) (Builtin.lenOf X):=by cases h<;>first|exact aj ⟨rfl,by simp⟩|exact aj ⟨rfl,λo k c e=>by cases e;rfl⟩|exact aq
def me(size n){x X}(h:az π x X)(a:∀o c,x=.slice o 0 c->n=0):(SR S (ai P fs) P) VsQ π (Builtin.firstCells size n x) (Builtin.firstCells size n X):=by cases h with|slice l c h=>exact j9 h _|iM=>exact aj .empty|string=>exact aj (fH (qk _))|qJ A=>rw[a _ _ rfl];unfold Builtin.firstCells;rw[Vp];exact aj .empty|_=>exact aq
def oJ(size){x X}(h:az π x X):(SR S (ai P fs) P) (λ_ a b=>a=#[]/\b=#[]) π (Builtin.firstCells size 0 x) (Builtin.firstCells size 0 X):=by
 cases h with
 |slice l c h=>unfold Builtin.firstCells;rw[Vp];exact aj ⟨rfl,rfl⟩
 |iM=>exact aj ⟨rfl,rfl⟩
 |string=>(have e:∀s:ByteArray,((s.extract 0 0).data.map λb=>(Value.int .u8 b.toNat))=#[]:=λs=>by simp);unfold Builtin.firstCells;exact aj ⟨e _,e _⟩
 |qJ A=>unfold Builtin.firstCells;rw[Vp];exact aj ⟨rfl,rfl⟩
 |_=>exact aq
def lG{z}(h:bh z)(n):bh (Builtin.zeroCells z n):=h.spread _ _
def uF(b:dD P)(a e size n){x X}(h:az π x X)(d:a=false->∀o c,x=.slice o 0 c->n=0):(SR S (ai P fs) P) VsQ π (if !a then Builtin.firstCells size n x else if n*size=0 then pure #[]else do pure (Builtin.zeroCells (<-zeroValue e).cells n)) (if !a then Builtin.firstCells size n X else if n*size=0 then pure #[]else do pure (Builtin.zeroCells (<-zeroValue e).cells n)):=by refine BP (λf=>me _ _ h (d (by simpa using f))) (λ_=>cZ (aj .empty) ?_);refine(er b e).bind ?_;rintro g j z _ ⟨rfl,i⟩;exact aj (fH (lG i.cells _))
def BQ(c e size){x X}(h:az π x X):(SR S (ai P fs) P) (λ_ a b=>a=#[]/\b=#[]) π (if !c then Builtin.firstCells size 0 x else if 0*size=0 then pure #[]else do pure (Builtin.zeroCells (<-zeroValue e).cells 0)) (if !c then Builtin.firstCells size 0 X else if 0*size=0 then pure #[]else do pure (Builtin.zeroCells (<-zeroValue e).cells 0)):=by refine cZ (oJ _ h) ?_;rw[Tv (Vp _)];exact aj ⟨rfl,rfl⟩
def Qr(a1 t){x X}(h:VsR π x X):(SR S (ai P fs) P) VQ π (Builtin.len_ a1 t x) (Builtin.len_ a1 t X):=by
 unfold Builtin.len_;have j:=h.get 0;generalize x[0]? =u at*;generalize X[0]? =v at*;cases a1[0]? with
 |none=>exact aq
 |some k=>
 cases j with
 |none=>exact aq
 | @some x X a=>
 simp only[];refine(aA k).bind ?_;rintro l m d _ ⟨rfl,g⟩;clear g;have a:=a.mono m;cases d with
 |string=>cases a<;>first|exact aj (.int _ _)|exact aq
 |array=>cases a<;>exact aj (.int _ _)
 |pointer=>
  cases a<;>
  .refine(aA _).bind ?_;rintro b i d _ ⟨rfl,g⟩;cases d<;>first|exact aq|exact aj (.int _ _)
 |slice=>cases a<;>first|exact aj (.int _ _)|exact aq
 |map=>(cases a<;>first|exact aj (.int _ _)|exact aq|skip);rename_i r R c;refine(cj c).bind ?_;intro b i o O e;cases e with|map n f=>simp only[];rw[f.1];exact aj (.int _ _)|_=>exact aq
 |chan=>(cases a<;>first|exact aj (.int _ _)|exact aq|skip);rename_i r R c;refine(cj c).bind ?_;intro b i o O e;cases e<;>exact aq
 |_=>cases a<;>exact aq
def Qt(a1 t){x X}(h:VsR π x X):(SR S (ai P fs) P) VQ π (Builtin.cap_ a1 t x) (Builtin.cap_ a1 t X):=by
 unfold Builtin.cap_;have e:=h.get 0;generalize x[0]? =u at*;generalize X[0]? =v at*;cases a1[0]? with
 |none=>exact aq
 |some f=>
 cases e with
 |none=>exact aq
 | @some x X a=>
 simp only[];refine(aA f).bind ?_;rintro g i d _ ⟨rfl,c⟩;clear c;have a:=a.mono i;cases d with
 |array=>cases a<;>exact aj (.int _ _)
 |pointer=>
  cases a<;>
  .refine(aA _).bind ?_;rintro b j d _ ⟨rfl,c⟩;cases d<;>first|exact aq|exact aj (.int _ _)
 |slice=>cases a<;>first|exact aj (.int _ _)|exact aq
 |chan=>(cases a<;>first|exact aj (.int _ _)|exact aq|skip);rename_i r R k;refine(cj k).bind ?_;intro b j o O l;cases l<;>exact aq
 |_=>cases a<;>exact aq
def O4(a1 t){x X}(h:VsR π x X):(SR S (ai P fs) P) VQ π (Builtin.copy_ a1 t x) (Builtin.copy_ a1 t X):=by
 unfold Builtin.copy_;have G:=h.get 0;have j:=h.get 1;generalize x[0]? =u at*;generalize X[0]? =v at*;generalize x[1]? =Q at*;generalize X[1]? =v1 at*;cases a1[0]? with
 |none=>exact aq
 |some H=>
 cases G with
 |none=>exact aq
 | @some d D k=>
 cases j with
 |none=>exact aq
 | @some s C m=>
 simp only[];refine(aA H).bind ?_;rintro f i I _ ⟨rfl,p⟩;clear p;cases I<;>first|exact aq|skip
 rename_i e;simp only[];have k:=k.mono i;have key:∀{b B:Option Addr} (l:Nat),(dM (aR f) b B\/l=0/\∃A E,b=some A/\B=some E)->(SR S (ai P fs) P) VQ f (do
  let n:=Nat.min (<-Builtin.lenOf s) l;let cells <-Builtin.firstCells (<-sizeOf e) n s
  if let some a:=b then storeCells a cells.toList
  pure (goInt n)) (do
  let n:=Nat.min (<-Builtin.lenOf C) l;let cells <-Builtin.firstCells (<-sizeOf e) n C
  if let some a:=B then storeCells a cells.toList
  pure (goInt n)):=by
  intro b B l g;refine(xo (m.mono i)).bind ?_;rintro J q n _ ⟨rfl,K⟩;refine(bH e).bind ?_;rintro L r z _ rfl;obtain g|⟨rfl,A,E,rfl,rfl⟩:=g
  .refine(me _ _ (((m.mono i).mono q).mono r) (λo c e=>?_)).bind ?_
   .rw[K _ _ _ e]
    exact Nat.zero_min _
   intro w F R T M;have g:=g.mono λ_ _ x=>aR.mono (Ren.le_trans q (Ren.le_trans r F)) x;cases g with
   |none=>exact aj (.int _ _)
   |some y=>refine(lT 0 y M.toList).bind ?_;intro N U _ _ _;exact aj (.int _ _)
  .rw[show Nat.min n 0=0 from Nat.min_zero _]
   refine(oJ _ (((m.mono i).mono q).mono r)).bind ?_;rintro w F _ _ ⟨rfl,rfl⟩;exact aj (.int _ _)
 cases k with|iM=>exact key _ (.inl .none)|slice l c O=>exact key _ (.inl (.some O))|qJ A=>exact key _ (.inr ⟨rfl,_,_,rfl,rfl⟩)|_=>exact aq
def sj(d a b x y):(SR S (ai P fs) P) VQ π (do pure (.string (if <-asBool (<-Op.stringOp d a b)then x else y))) (do pure (.string (if <-asBool (<-Op.stringOp d a b)then x else y))):=by refine(pZ d a b).sr.bind ?_;intro e h v V f;refine(zK f).bind ?_;rintro g i c _ rfl;exact aj (.string _)
def O5{x X y Y}(a:az π x X)(b:az π y Y):(SR S (ai P fs) P) VQ π (Builtin.min2 x y) (Builtin.min2 X Y):=by
 cases a<;>cases b<;>first
  |exact aq
  |exact aC
  |exact aj (.int _ _)
  |exact sj _ _ _ _ _
  |skip
 unfold Builtin.min2;simp only[];split<;>first|exact aj (.float _ _)|skip
 refine(eE _).bind ?_;rintro c d n _ rfl;exact aj (.float _ _)
def O6{x X y Y}(a:az π x X)(b:az π y Y):(SR S (ai P fs) P) VQ π (Builtin.max2 x y) (Builtin.max2 X Y):=by
 cases a<;>cases b<;>first
  |exact aq
  |exact aC
  |exact aj (.int _ _)
  |exact sj _ _ _ _ _
  |skip
 unfold Builtin.max2;simp only[];split<;>first|exact aj (.float _ _)|skip
 refine(eE _).bind ?_;rintro c d n _ rfl;exact aj (.float _ _)
def zX{f:Value->Value->Sem Value}(d:∀{π:Ren P.globals.size} {x X y Y},az π x X->az π y Y->(SR S (ai P fs) P) VQ π (f x y) (f X Y)){l L}:∀{π:Ren P.globals.size} {x X},bj (az π) l L->az π x X->(SR S (ai P fs) P) VQ π (l.foldlM f x) (L.foldlM f X):=by induction l generalizing L with|nil=>intro π x X b c;cases b;exact aj c|cons a l e=>intro π x X b c;cases b with|cons h b=>simp only[List.foldlM_cons];refine(d c h).bind ?_;intro g i v V j;exact e (b.mono λ_ _ x=>x.mono i) j
def Qu(a1 t){x X}(h:VsR π x X):(SR S (ai P fs) P) VQ π (Builtin.min_ a1 t x) (Builtin.min_ a1 t X):=by unfold Builtin.min_;have a:=h.toList;generalize x.toList=l at*;generalize X.toList=L at*;cases a with|nil=>exact aq|cons h a=>exact zX O5 a h
def Qv(a1 t){x X}(h:VsR π x X):(SR S (ai P fs) P) VQ π (Builtin.max_ a1 t x) (Builtin.max_ a1 t X):=by unfold Builtin.max_;have a:=h.toList;generalize x.toList=l at*;generalize X.toList=L at*;cases a with|nil=>exact aq|cons h a=>exact zX O6 a h
def BR(n):∀{π:Ren P.globals.size} {a A} (acc),aR π a A->(SR S (ai P fs) P) EqQ π (loadBytes a acc n) (loadBytes A acc n):=by
 induction n with
 |zero=>intro π a A acc h;exact aj rfl
 |succ n b=>
  intro π a A acc h;unfold loadBytes;refine(rJ h).bind ?_;intro c d v V e;cases e with
  |int k n=>cases k<;>first|exact b _ ((h.mono d).add 1)|exact aq
  |_=>exact aq
def vC(a1 t){x X}(h:VsR π x X):(SR S (ai P fs) P) VQ π (Builtin.unsafeString_ a1 t x) (Builtin.unsafeString_ a1 t X):=by have a:=h.toList;obtain⟨x⟩:=x;obtain⟨X⟩:=X;simp only[]at a;cases a with|nil=>exact aq|cons j a=>cases a with|nil=>exact aq|cons g a=>cases a with|cons _ _=>exact .never (by unfold Builtin.unsafeString_;exact dz _)|nil=>(have key:∀{p Q:Option Addr},dM (aR π) p Q->∀{y Y:Value},az π y Y->(SR S (ai P fs) P) VQ π (Builtin.unsafeString_ a1 t #[.pointer p,y]) (Builtin.unsafeString_ a1 t #[.pointer Q,Y]):=by intro p Q c y Y k;unfold Builtin.unsafeString_;refine(jA k).bind ?_;rintro l m n _ rfl;have c:=c.mono λ_ _ x=>aR.mono m x;cases a1[0]? with|none=>exact aq|some o=>simp only[];split;exact .never (aB (aF _));split;exact .never (aB (.halt _));cases c with|none=>exact cZ (aj (.string _)) dh|some d=>refine cZ (aj (.string _)) ?_;refine(Js o).bind ?_;rintro q f e _ rfl;refine(oI (d.mono f) _ _).bind ?_;rintro r i b _ rfl;refine cZ ?_ aC;refine(BR _ _ ((d.mono f).mono i)).bind ?_;rintro u v s _ rfl;refine(zU (((d.mono f).mono i).mono v) _).bind ?_;intro w A _ _ _;exact aj (.string _));cases j with|Je=>exact key .none g|ptr z=>exact key (.some z) g|_=>exact aq
def xp(a:P.underlying qM=none){b c Q}{f:TypeId->Sem b}{s:Sem c}:(SR S (ai P fs) P) Q π (elemOf qM>>= f) s:=by refine SR.kH ?_;have e:(ai P fs).underlying qM=none:=a;simp only[Sem.bind,e];exact aq
def BS(t c)(g:P.underlying qM=none){a A}(b:aR π a A):(SR S (ai P fs) P) VQ π (if c≠0 then pure (.pointer (some a)) else do if(<-viewAt a.block).isSome then pure (.pointer (some a))else do let e <-elemOf qM;pure (.pointer (some ⟨<-newObj (.view a e),0,none⟩))) (if c≠0 then pure (.pointer (some A)) else do if(<-viewAt A.block).isSome then pure (.pointer (some A))else do let e <-elemOf t;pure (.pointer (some ⟨<-newObj (.view A e),0,none⟩))):=by refine cZ (aj (.ptr b)) ?_;have d:=b;cases b with|mk b=>refine(py b).bind ?_;intro h i u v f;rw[lB f];exact cZ (aj (.ptr (d.mono i))) (xp g)
def rh(a1 t)(b:P.underlying qM=none){x X}(h:VsR π x X):(SR S (ai P fs) P) VQ π (Builtin.unsafeSliceData_ a1 qM x) (Builtin.unsafeSliceData_ a1 t X):=by have a:=h.toList;obtain⟨x⟩:=x;obtain⟨X⟩:=X;simp only[]at a;cases a with|nil=>exact aq|cons d a=>cases a with|cons _ _=>exact aq|nil=>cases d with|iM=>exact aj .Je|slice l c f=>exact BS t c b f|qJ A=>show(SR S (ai P fs) P) VQ π (do if(<-viewAt 0).isSome then pure (.pointer (some ⟨0,0,some 0⟩))else do let e <-elemOf qM;pure (.pointer (some ⟨<-newObj (.view ⟨0,0,some 0⟩ e),0,none⟩))) _;unfold viewAt;refine SR.tl λx=>?_;exact xp b|_=>exact aq
def vG(a n):cN (Builtin.holdsCells a n):=by unfold Builtin.holdsCells;exact wJ
def y5(a b c x y):cN (Builtin.mayShare a b c x y):=by unfold Builtin.mayShare;repeat' (first|exact vG _ _|with_reducible first|exact cN.pure _|exact cN.frozen _|refine cN.ite ?_ ?_|refine cN.bind ?_ λ_=>?_|dsimp only|split)
def pF{a c}[Decidable c]{s t:Sem a}(h:dP s)(b:dP t):dP (if c then s else t):=by split<;>assumption
def JN(L:dD P)(a1 t){x X}(h:VsR π x X):(SR S (ai P fs) P) VQ π (Builtin.append_ a1 t x) (Builtin.append_ a1 t X):=by
 unfold Builtin.append_;have hg:=h.get 0;have ar:=h.get 1;generalize x[0]? =u at*;generalize X[0]? =v at*;generalize x[1]? =u1 at*;generalize X[1]? =v1 at*;cases a1[0]? with
 |none=>exact aq
 |some t0=>
 cases hg with
 |none=>exact aq
 | @some d D k=>
 cases ar with
 |none=>exact aq
 | @some s S f=>
 refine(aA t0).bind ?_;rintro ax l1 dd _ ⟨rfl,ay⟩;clear ay;cases dd<;>first|exact aq|skip
 rename_i e;have k:=k.mono l1;have f:=f.mono l1;generalize a1[1]? =x1;have W:(∃b B l c,d=.slice b l c/\D=.slice B l c/\(dM (aR ax) b B\/l=0/\c=0/\∃A,b=some ⟨0,0,some 0⟩/\B=some A))\/∀b l c,d≠ .slice b l c:=by cases k<;>first|exact .inl ⟨_,_,_,_,rfl,rfl,.inr ⟨rfl,rfl,_,rfl,rfl⟩⟩|exact .inl ⟨_,_,_,_,rfl,rfl,.inl .none⟩|exact .inl ⟨_,_,_,_,rfl,rfl,.inl (.some (by assumption))⟩|exact .inr (by simp)
 obtain⟨b,B,l,c,rfl,rfl,j⟩|hno:=W;refine(bH e).bind ?_
 rintro ba l2 size _ rfl;have f:=f.mono l2;have k:=k.mono l2;have j:=j.imp_left λh=>h.mono λ_ _ x=>aR.mono l2 x;cases x1 with
 |none=>refine(xo f).bind ?_;rintro aM Y n _ ⟨rfl,hk⟩;have M:false=false->∀o c,s=.slice o 0 c->n=0:=λ_ o c e=>hk _ _ _ e;have f:=f.mono Y;have k:=k.mono Y;have j:=j.imp_left λh=>h.mono λ_ _ x=>aR.mono Y x;refine BP (λad=>?_) (λ_=>?_);obtain j|⟨rfl,rfl,A,rfl,rfl⟩:=j;refine(uF L _ e size _ f M).bind ?_;(intro p w vs VS C;have E:=j.mono λ_ _ x=>aR.mono w x;cases E with|none=>exact aj (.iM _ _)|some N=>refine(lT 0 (N.add _) C.toList).bind ?_;intro O F _ _ _;exact aj (.slice _ _ (N.mono F)));(have G:n=0:=by omega);subst G;refine(BQ _ e size f).bind ?_;rintro p w _ _ ⟨rfl,rfl⟩;exact aj (.qJ _);refine(dx e).bind ?_;rintro p w i _ ⟨rfl,_⟩;refine cZ (.never (aB (aF _))) ?_;refine(dx e).bind ?_;rintro af l7 i2 _ ⟨rfl,_⟩;refine cZ (.never (aB (pF (aF _) (bF (y5 _ _ _ _ _) λ_=>pF (bF (.mark _) λ_=>.halt _) (.halt _))))) ?_;refine(eE _).bind ?_;rintro ag l8 y _ rfl;refine(dx e).bind ?_;rintro ah l9 i3 _ ⟨rfl,_⟩;refine(qR _).bind ?_;intro Q H _ _ _;have g:=Ren.le_trans w (Ren.le_trans l7 (Ren.le_trans l8 (Ren.le_trans l9 H)));refine(me _ _ (k.mono g) (λo c e=>by cases e;rfl)).bind ?_;intro R I old ak q;refine(uF L _ e size _ ((f.mono g).mono I) M).bind ?_;intro T J vs VS C;refine(er L e).bind ?_;rintro U r z _ ⟨rfl,hp⟩;refine(iT e (((VsR.mono r (VsR.mono J q)).append (VsR.mono r C)).append (fH (lG hp.cells _)))).bind ?_;intro V an a A ha;exact aj (.slice _ _ ha)
 |some t1=>refine(aA t1).bind ?_;rintro aM Y d1 _ ⟨rfl,_⟩;have f:=f.mono Y;have k:=k.mono Y;have j:=j.imp_left λh=>h.mono λ_ _ x=>aR.mono Y x;refine SR.bind (R1:=EqQ) (aj rfl) ?_;rintro bb l4 K _ rfl;have f:=f.mono l4;have k:=k.mono l4;have j:=j.imp_left λh=>h.mono λ_ _ x=>aR.mono l4 x;refine BP (λao=>?_) (λbk=>?_);refine(jA f).bind ?_;(rintro a6 Z m _ rfl;refine cZ (.never (aB (aF _))) ?_;refine(dx e).bind ?_;rintro a7 aa i _ ⟨rfl,_⟩;refine cZ (.never (bF (.choose _) λ_=>aB (aF _))) ?_;refine SR.bind (R1:=EqQ) (aj rfl) ?_;rintro a8 ab n _ rfl;have M:K=false->∀o c,s=.slice o 0 c->n=0:=λh=>by rw[h]at ao;cases ao);have f:=((f.mono Z).mono aa).mono ab;have k:=((k.mono Z).mono aa).mono ab;have j:=j.imp_left λh=>h.mono λ_ _ x=>((aR.mono Z x).mono aa).mono ab;refine BP (λad=>?_) (λ_=>?_);obtain j|⟨rfl,rfl,A,rfl,rfl⟩:=j;refine(uF L _ e size _ f M).bind ?_;(intro p w vs VS C;have E:=j.mono λ_ _ x=>aR.mono w x;cases E with|none=>exact aj (.iM _ _)|some N=>refine(lT 0 (N.add _) C.toList).bind ?_;intro O F _ _ _;exact aj (.slice _ _ (N.mono F)));(have G:n=0:=by omega);subst G;refine(BQ _ e size f).bind ?_;rintro p w _ _ ⟨rfl,rfl⟩;exact aj (.qJ _);refine(dx e).bind ?_;rintro p w i _ ⟨rfl,_⟩;refine cZ (.never (aB (aF _))) ?_;refine(dx e).bind ?_;rintro af l7 i2 _ ⟨rfl,_⟩;refine cZ (.never (aB (pF (aF _) (bF (y5 _ _ _ _ _) λ_=>pF (bF (.mark _) λ_=>.halt _) (.halt _))))) ?_;refine(eE _).bind ?_;rintro ag l8 y _ rfl;refine(dx e).bind ?_;rintro ah l9 i3 _ ⟨rfl,_⟩;refine(qR _).bind ?_;intro Q H _ _ _;have g:=Ren.le_trans w (Ren.le_trans l7 (Ren.le_trans l8 (Ren.le_trans l9 H)));refine(me _ _ (k.mono g) (λo c e=>by cases e;rfl)).bind ?_;intro R I old ak q;refine(uF L _ e size _ ((f.mono g).mono I) M).bind ?_;intro T J vs VS C;refine(er L e).bind ?_;rintro U r z _ ⟨rfl,hp⟩;refine(iT e (((VsR.mono r (VsR.mono J q)).append (VsR.mono r C)).append (fH (lG hp.cells _)))).bind ?_;intro V an a A ha;exact aj (.slice _ _ ha);refine(xo f).bind ?_;rintro a6 Z n _ ⟨rfl,hk⟩;have M:K=false->∀o c,s=.slice o 0 c->n=0:=λ_ o c e=>hk _ _ _ e;have f:=f.mono Z;have k:=k.mono Z;have j:=j.imp_left λh=>h.mono λ_ _ x=>aR.mono Z x;refine BP (λad=>?_) (λ_=>?_);obtain j|⟨rfl,rfl,A,rfl,rfl⟩:=j;refine(uF L _ e size _ f M).bind ?_;(intro p w vs VS C;have E:=j.mono λ_ _ x=>aR.mono w x;cases E with|none=>exact aj (.iM _ _)|some N=>refine(lT 0 (N.add _) C.toList).bind ?_;intro O F _ _ _;exact aj (.slice _ _ (N.mono F)));(have G:n=0:=by omega);subst G;refine(BQ _ e size f).bind ?_;rintro p w _ _ ⟨rfl,rfl⟩;exact aj (.qJ _);refine(dx e).bind ?_;rintro p w i _ ⟨rfl,_⟩;refine cZ (.never (aB (aF _))) ?_;refine(dx e).bind ?_;rintro af l7 i2 _ ⟨rfl,_⟩;refine cZ (.never (aB (pF (aF _) (bF (y5 _ _ _ _ _) λ_=>pF (bF (.mark _) λ_=>.halt _) (.halt _))))) ?_;refine(eE _).bind ?_;rintro ag l8 y _ rfl;refine(dx e).bind ?_;rintro ah l9 i3 _ ⟨rfl,_⟩;refine(qR _).bind ?_;intro Q H _ _ _;have g:=Ren.le_trans w (Ren.le_trans l7 (Ren.le_trans l8 (Ren.le_trans l9 H)));refine(me _ _ (k.mono g) (λo c e=>by cases e;rfl)).bind ?_;intro R I old ak q;refine(uF L _ e size _ ((f.mono g).mono I) M).bind ?_;intro T J vs VS C;refine(er L e).bind ?_;rintro U r z _ ⟨rfl,hp⟩;refine(iT e (((VsR.mono r (VsR.mono J q)).append (VsR.mono r C)).append (fH (lG hp.cells _)))).bind ?_;intro V an a A ha;exact aj (.slice _ _ ha)
 cases d<;>first|exact aq|exact absurd rfl (hno _ _ _)
end
end Go.Tm

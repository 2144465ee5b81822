import Derived.Test.YtaglpcmhopjebaaGreatDoorQ2
set_option linter.all false
set_option maxRecDepth 100000
set_option maxHeartbeats 20000000
namespace Go.Tm
section
variable {S:Kn} {P:Program} {fs:Array Func} {G:Nat} {π:Ren P.globals.size} {ρ:Ren G}
abbrev NmR{G}(π:Ren G):Addr×Bool->Addr×Bool->Prop:=λx y=>aN π x.1 y.1/\x.2=y.2
def tD{r d}(h:π r d):(SR S (ah P fs) P) (λc a b=>dF (NmR c) a b) π (numberAt r) (numberAt d):=by
 unfold numberAt;refine(eM h).bind ?_;rintro c l a _ rfl;split
 ·exact ai .none
 ·refine(bX (l _ _ h)).bind ?_
  intro e g o O f;cases f<;>first|exact ai .none|exact ai (.some ⟨by assumption,rfl⟩)
def fT{a A}(h:aN π a A):(SR S (ah P fs) P) (λb x y=>NmR b x y) π (behindNumber a) (behindNumber A):=by
 unfold behindNumber;cases h with
 |mk h=>
  refine(tD h).bind ?_;intro b l x y c;cases c with
  |none=>exact ai ⟨.mk (l _ _ h),rfl⟩
  |some h=>exact ai h
def qP(P fs):∀(n) (t u),(ah P fs).alikeButTags n t u=P.alikeButTags n t u:=by
 intro n;induction n with
 |zero=>exactλ_ _=>rfl
 |succ n a=>intro t u;have e:=funext λt=>funext λu=>a t u;unfold Program.alikeButTags;rw[e];rfl
def vq(P fs t):(ah P fs).stoodInAs t=P.stoodInAs t:=by unfold Program.stoodInAs;simp only[qP];rfl
def et(P fs t):(ah P fs).stoodInHeld t=P.stoodInHeld t:=by unfold Program.stoodInHeld;rw[vq];rfl
def iD{e σ:Type}(l:List e){f F:e->σ->Sem (ForInStep σ)}(s)(h:∀(c),Ren.le π c->∀a s,(SR S (ah P fs) P) EqQ c (f a s) (F a s)):(SR S (ah P fs) P) EqQ π (forIn l s f) (forIn l s F):=by
 refine(KO (T:=λc a b=>a=b/\Ren.le π c) (λ_ _ _ _ l h=>⟨h.1,Ren.le_trans h.2 l⟩) l _ _ ?_ π _ _ ⟨rfl,Ren.le_refl _⟩).mono λ_ _ _ _ h=>h.1;rintro c a s _ ⟨rfl,d⟩;refine(h c d a s).mono ?_;rintro i g x _ rfl;cases x with
 |done u=>exact .inr ⟨u,u,rfl,rfl,rfl,Ren.le_trans d g⟩
 |yield u=>exact .inl ⟨u,u,rfl,rfl,rfl,Ren.le_trans d g⟩
def E8(d):∀{π:Ren P.globals.size} (t) {x X y Y},av π x X->av π y Y->(SR S (ah P fs) P) EqQ π (Op.equalIn d t x y) (Op.equalIn d t X Y):=by
 induction d with
 |zero=>intros;exact aC
 |succ d L=>
  intro π t x X y Y M N;unfold Op.equalIn;refine(aA t).bind ?_;rintro g l2 d' _ ⟨rfl,hd⟩;clear hd;have M:=M.mono l2;have N:=N.mono l2;generalize hX:X=X' at*;split;all_goals first|exact .never (dj _)|exact .never (bG _)|skip
  all_goals cases M
  all_goals cases N
  all_goals try exact ai rfl
  all_goals try (exfalso;rename_i h;exact absurd rfl h)
  all_goals simp only[]
  all_goals try (split<;>first|exact ai rfl|exact al)
  ·
   rename_i a b A I B J;refine(fT I).bind ?_;rintro p j ⟨a',x1⟩ ⟨A',X1⟩ ⟨c,_⟩;refine(fT (J.mono j)).bind ?_;rintro l o ⟨b',x2⟩ ⟨B',X2⟩ ⟨k,_⟩;refine bV.bind ?_;rintro q D _ _ ⟨rfl,rfl⟩;have c:=(c.mono o).mono D;have k:=k.mono D;simp only[]at c k⊢;have e1:=(c.eq k).1;have e2:=(c.eq k).2;have e3:decide (a'.block<(ah P fs).globals.size)=decide (A'.block<P.globals.size):=by
    cases c with
    |mk h=>exact decide_eq_decide.2 (q.dq _ _ h)
   rw[e1,e3];split
   ·refine(iC c).bind ?_
    rintro w E n _ rfl;refine(iC (k.mono E)).bind ?_;rintro F l7 m _ rfl;exact ai rfl
   ·refine(di t).bind ?_
    rintro w E i _ ⟨rfl,_⟩;rw[e2];split
    ·split
     ·exact ai rfl
     ·exact aC
    ·exact aC
  ·rename_i a b A I B J
   refine(bE _).bind ?_;rintro p j n _ rfl;rw[(I.eq J).2];split
   ·exact tC (I.mono j) (J.mono j)
   ·split
    ·exact ai rfl
    ·refine(ep _).bind ?_
     rintro l o m _ rfl;exact ai rfl
  ·exact vp (.some (by assumption)) (.some (by assumption))
  ·rename_i r R hr r' R' H
   refine ai ?_;have e:r=r'↔R=R':=⟨λe=>by subst e;exact g.fn _ _ _ hr H,λe=>by subst e;exact g.inj _ _ _ hr H⟩
   show(some r==some r')=(some R==some R');rw[Tu];simp[e]
  ·split
   ·exact ai rfl
   ·refine(di _).bind ?_
    rintro p j i _ ⟨rfl,_⟩;split
    ·refine .never ?_
     repeat' (first|exact aF _|exact aB (aF _)|exact aB (bG _)|split|refine bz (by first|exact qC _|exact .choose _|exact .program|exact .pure _) λ_=>?_)
    ·exact L _ (by assumption|>λh=>av.mono j h) (by assumption|>λh=>av.mono j h)
  ·rename_i K xs O XS Q T YS W Z
   have z:VsR g xs XS:=⟨Q,T⟩
   have C:VsR g O YS:=⟨W,Z⟩
   refine bV.bind ?_;rintro p j _ _ ⟨rfl,rfl⟩;rw[et];split
   ·exact .never (aB (bG _))
   ·rw[<-TJ,<-TJ]
    refine(iD _ _ λl o f s=>?_).bind ?_
    ·split
     ·refine(fS _ _ (VsR.mono o (VsR.mono j z))).bind ?_
      intro q D u U hu;refine(fS _ _ (VsR.mono D (VsR.mono o (VsR.mono j C)))).bind ?_;intro w E v V hv;refine(L _ (hu.mono E) hv).bind ?_;rintro F l7 b _ rfl;split<;>exact ai rfl
     ·exact ai rfl
    ·rintro l o s _ rfl
     split<;>exact ai rfl
  ·rename_i elem xs O XS Q T YS W Z
   have z:VsR g xs XS:=⟨Q,T⟩
   have C:VsR g O YS:=⟨W,Z⟩
   refine(bE _).bind ?_;rintro p j n _ rfl;simp only[Vm];refine(iD _ _ λl o f s=>?_).bind ?_
   ·refine(fS _ _ (VsR.mono o (VsR.mono j z))).bind ?_
    intro q D u U hu;refine(fS _ _ (VsR.mono D (VsR.mono o (VsR.mono j C)))).bind ?_;intro w E v V hv;refine(L _ (hu.mono E) hv).bind ?_;rintro F l7 b _ rfl;split<;>exact ai rfl
   ·rintro l o s _ rfl
    split<;>exact ai rfl
def vt(t){x X y Y}(a:av π x X)(b:av π y Y):(SR S (ah P fs) P) EqQ π (Op.equal t x y) (Op.equal t X Y):=E8 _ t a b
def Af(d):∀{π:Ren P.globals.size} (t) {x X y Y},av π x X->av π y Y->(SR S (ah P fs) P) EqQ π (Op.eqGuardIn d t x y) (Op.eqGuardIn d t X Y):=by
 induction d with
 |zero=>intros;exact aC
 |succ d F=>
  intro π t x X y Y j k;unfold Op.eqGuardIn;refine(aA t).bind ?_;rintro c H d' _ ⟨rfl,J⟩;clear J;have j:=j.mono H;have k:=k.mono H;cases d' with
  |interface M=>
   cases j<;>cases k<;>first
    |exact ai rfl
    |(rename_i a;cases Y<;>first|exact ai rfl|(simp[dW]at a;done))
    |(rename_i a;cases X<;>first|exact ai rfl|(simp[dW]at a;done))
    |(rename_i a b;cases X<;>first|exact ai rfl|(simp[dW]at a;done))
  |struct l=>
   cases j<;>first|exact ai rfl|(rename_i a;cases X<;>first|exact ai rfl|(simp[dW]at a;done))|(cases k<;>first|exact ai rfl|(rename_i a;cases Y<;>first|exact ai rfl|(simp[dW]at a;done))|skip)
   rename_i xs XS m o p YS q r;have e:VsR c xs XS:=⟨m,o⟩
   have g:VsR c p YS:=⟨q,r⟩
   simp only[];rw[<-TJ,<-TJ];refine(iD _ _ λh i f s=>?_).bind ?_
   ·split
    ·refine(fS _ _ (VsR.mono i e)).bind ?_
     intro w z u U A;refine(fS _ _ (VsR.mono z (VsR.mono i g))).bind ?_;intro B C v V D;refine(F _ (A.mono C) D).bind ?_;rintro E K b _ rfl;split<;>exact ai rfl
    ·exact ai rfl
   ·rintro h i s _ rfl
    split<;>exact ai rfl
  |array len elem=>
   cases j<;>first|exact ai rfl|(rename_i a;cases X<;>first|exact ai rfl|(simp[dW]at a;done))|(cases k<;>first|exact ai rfl|(rename_i a;cases Y<;>first|exact ai rfl|(simp[dW]at a;done))|skip)
   rename_i xs XS m o p YS q r;have e:VsR c xs XS:=⟨m,o⟩
   have g:VsR c p YS:=⟨q,r⟩
   simp only[Vm];refine(bE _).bind ?_;rintro L I n _ rfl;refine(iD _ _ λh i f s=>?_).bind ?_
   ·refine(fS _ _ (VsR.mono i (VsR.mono I e))).bind ?_
    intro w z u U A;refine(fS _ _ (VsR.mono z (VsR.mono i (VsR.mono I g)))).bind ?_;intro B C v V D;refine(F _ (A.mono C) D).bind ?_;rintro E K b _ rfl;split<;>exact ai rfl
   ·rintro h i s _ rfl
    split<;>exact ai rfl
  |_=>cases j<;>exact ai rfl
def ma(P fs):∀(n) (t),(ah P fs).eqGuardType n t=P.eqGuardType n t:=by
 intro n;induction n with
 |zero=>exactλ_=>rfl
 |succ n a=>intro t;have e:=funext λt=>a t;unfold Program.eqGuardType;rw[e];rfl
end
inductive Quiet{α:Type}(Q:α->Prop):Sem α->Prop
 |pure {a}:Q a->Quiet Q (.pure a)
 |choose (q) {k}:G4 q=false->(∀n,Quiet Q (k n))->Quiet Q (.choose q k)
 |halt (h):fX h->Quiet Q (.halt h)
def Quiet.pure'{b Q a}(h:Q a):Quiet Q (Pure.pure a:Sem b):=.pure h
def Quiet.bind{c d Q Q' s}{f:c->Sem d}(h:Quiet Q s)(b:∀a,Q a->Quiet Q' (f a)):Quiet Q' (s>>= f):=by
 show Quiet Q' (s.bind f);induction h with
 |pure h=>exact b _ h
 |choose q e _ g=>exact .choose q e g
 |halt h b=>exact .halt h b
def Quiet.bind'{b c Q' s}{f:b->Sem c}(h:Quiet (λ_=>True) s)(d:∀a,Quiet Q' (f a)):Quiet Q' (s>>= f):=h.bind λa _=>d a
def Quiet.ask{Q:Nat->Prop}(h:∀n,Q n)(q:Question)(a:G4 q=false:=by with_unfolding_all rfl):Quiet Q (Go.choose q):=.choose q a λn=>.pure (h n)
def Quiet.stuck{a}{Q:a->Prop}(s):Quiet Q (Go.stuck s):=.halt _ True.intro
def Quiet.unsupported{a}{Q:a->Prop}(s)(b:fX (.unsupported s)):Quiet Q (Go.unsupported s):=.halt _ b
def Quiet.ite{a Q c}[Decidable c]{s t:Sem a}(h:Quiet Q s)(b:Quiet Q t):Quiet Q (if c then s else t):=by split<;>assumption
def CR(k b):Plain (.float k b):=λ_ _=>.float k b
def lH(k a b):Plain (.complex k a b):=λ_ _=>.complex k a b
def j8(k b):Plain (.int k b):=λ_ _=>.int k b
def Quiet.true{a Q}{s:Sem a}(h:Quiet Q s):Quiet (λ_=>True) s:=by
 induction h with
 |pure h=>exact .pure trivial
 |choose q b _ c=>exact .choose q b c
 |halt h d=>exact .halt h d
def mf(a k x y):Quiet Plain (Op.floatArith a k x y):=by
 unfold Op.floatArith
 (repeat' (with_reducible first|exact Quiet.stuck _|exact Quiet.unsupported _ (by with_unfolding_all exact True.intro)|exact Quiet.pure' trivial|exact Quiet.pure' (CR _ _)|exact Quiet.pure' (pU _)|exact Quiet.pure' (lH _ _ _)|exact Quiet.pure' (j8 _ _)|exact Quiet.ask (λ_=>trivial) _|assumption|refine Quiet.ite ?_ ?_|refine Quiet.bind' ?_ λ_=>?_|dsimp only|split))
def nO(a k x y):Quiet Plain (Op.floatCmp a k x y):=by
 unfold Op.floatCmp
 (repeat' (with_reducible first|exact Quiet.stuck _|exact Quiet.unsupported _ (by with_unfolding_all exact True.intro)|exact Quiet.pure' trivial|exact Quiet.pure' (CR _ _)|exact Quiet.pure' (pU _)|exact Quiet.pure' (lH _ _ _)|exact Quiet.pure' (j8 _ _)|exact Quiet.ask (λ_=>trivial) _|assumption|refine Quiet.ite ?_ ?_|refine Quiet.bind' ?_ λ_=>?_|dsimp only|split))
def eG(a b c):Quiet Plain (Conv.floatToFloat a b c):=by
 unfold Conv.floatToFloat
 (repeat' (with_reducible first|exact Quiet.stuck _|exact Quiet.unsupported _ (by with_unfolding_all exact True.intro)|exact Quiet.pure' trivial|exact Quiet.pure' (CR _ _)|exact Quiet.pure' (pU _)|exact Quiet.pure' (lH _ _ _)|exact Quiet.pure' (j8 _ _)|exact Quiet.ask (λ_=>trivial) _|assumption|refine Quiet.ite ?_ ?_|refine Quiet.bind' ?_ λ_=>?_|dsimp only|split))
def sN(a b c):Quiet Plain (Conv.floatToInt a b c):=by
 unfold Conv.floatToInt
 (repeat' (with_reducible first|exact Quiet.stuck _|exact Quiet.unsupported _ (by with_unfolding_all exact True.intro)|exact Quiet.pure' trivial|exact Quiet.pure' (CR _ _)|exact Quiet.pure' (pU _)|exact Quiet.pure' (lH _ _ _)|exact Quiet.pure' (j8 _ _)|exact Quiet.ask (λ_=>trivial) _|assumption|refine Quiet.ite ?_ ?_|refine Quiet.bind' ?_ λ_=>?_|dsimp only|split))
def AA(v):Quiet (λ_=>True) (asBool v):=by
 unfold asBool
 (repeat' (with_reducible first|exact Quiet.stuck _|exact Quiet.unsupported _ (by with_unfolding_all exact True.intro)|exact Quiet.pure' trivial|exact Quiet.pure' (CR _ _)|exact Quiet.pure' (pU _)|exact Quiet.pure' (lH _ _ _)|exact Quiet.pure' (j8 _ _)|exact Quiet.ask (λ_=>trivial) _|assumption|refine Quiet.ite ?_ ?_|refine Quiet.bind' ?_ λ_=>?_|dsimp only|split))
def nP(a k x y):Quiet (λ_=>True) (Op.Complex.arith a k x y):=by
 unfold Op.Complex.arith;refine Quiet.bind' (mf a k x y).true λ_=>?_
 (repeat' (with_reducible first|exact Quiet.stuck _|exact Quiet.unsupported _ (by with_unfolding_all exact True.intro)|exact Quiet.pure' trivial|exact Quiet.pure' (CR _ _)|exact Quiet.pure' (pU _)|exact Quiet.pure' (lH _ _ _)|exact Quiet.pure' (j8 _ _)|exact Quiet.ask (λ_=>trivial) _|assumption|refine Quiet.ite ?_ ?_|refine Quiet.bind' ?_ λ_=>?_|dsimp only|split))
def sO(a k x y):Quiet (λ_=>True) (Op.Complex.cmp a k x y):=by unfold Op.Complex.cmp;refine Quiet.bind' (nO a k x y).true λ_=>AA _
def vO(k x d):Quiet (λ_=>True) (Op.Complex.conv k x d):=by
 unfold Op.Complex.conv;refine Quiet.ite (Quiet.pure' trivial) ?_;refine Quiet.bind' (eG _ _ _).true λ_=>?_
 (repeat' (with_reducible first|exact Quiet.stuck _|exact Quiet.unsupported _ (by with_unfolding_all exact True.intro)|exact Quiet.pure' trivial|exact Quiet.pure' (CR _ _)|exact Quiet.pure' (pU _)|exact Quiet.pure' (lH _ _ _)|exact Quiet.pure' (j8 _ _)|exact Quiet.ask (λ_=>trivial) _|assumption|refine Quiet.ite ?_ ?_|refine Quiet.bind' ?_ λ_=>?_|dsimp only|split))
def ya(a b c d):Quiet (λ_=>True) (Op.Complex.product a b c d):=by
 unfold Op.Complex.product Op.Complex.sub Op.Complex.mul Op.Complex.add
 (repeat' (with_reducible first|exact Quiet.stuck _|exact Quiet.pure' trivial|exact Quiet.pure' (pU _)|exact Quiet.pure' (lH _ _ _)|exact nP _ _ _ _|exact sO _ _ _ _|exact vO _ _ _|refine Quiet.ite ?_ ?_|refine Quiet.bind' ?_ λ_=>?_|dsimp only|split))
def uw(s a b c d):Quiet (λ_=>True) (Op.Complex.corrected s a b c d):=by
 unfold Op.Complex.corrected Op.Complex.sub Op.Complex.mul Op.Complex.add
 (repeat' (with_reducible first|exact Quiet.stuck _|exact Quiet.pure' trivial|exact Quiet.pure' (pU _)|exact Quiet.pure' (lH _ _ _)|exact nP _ _ _ _|exact sO _ _ _ _|exact vO _ _ _|refine Quiet.ite ?_ ?_|refine Quiet.bind' ?_ λ_=>?_|dsimp only|split))
def vP(a b c d):Quiet (λ_=>True) (Op.Complex.quotient a b c d):=by unfold Op.Complex.quotient Op.Complex.sub Op.Complex.mul Op.Complex.add Op.Complex.quo;repeat' (with_reducible first|exact uw _ _ _ _ _|exact nP _ _ _ _|exact sO _ _ _ _|exact Quiet.pure' trivial|refine Quiet.ite ?_ ?_|refine Quiet.bind' ?_ λ_=>?_|dsimp only|split)
def ux(e k a b c d):Quiet Plain (Op.complexOp e k a b c d):=by unfold Op.complexOp;split<;>repeat' (with_reducible first|exact ya _ _ _ _|exact vP _ _ _ _|exact Quiet.stuck _|exact nP _ _ _ _|exact sO _ _ _ _|exact vO _ _ _|exact Quiet.pure' trivial|exact Quiet.pure' (pU _)|exact Quiet.pure' (lH _ _ _)|refine Quiet.ite ?_ ?_|refine Quiet.bind' ?_ λ_=>?_|dsimp only|split)
def mS(s a b d):Quiet Plain (Conv.complexToComplex s a b d):=by
 unfold Conv.complexToComplex;refine Quiet.bind' (eG _ _ _).true λ_=>?_;split
 ·refine Quiet.bind' (eG _ _ _).true λ_=>?_
  (repeat' (with_reducible first|exact Quiet.stuck _|exact Quiet.unsupported _ (by with_unfolding_all exact True.intro)|exact Quiet.pure' trivial|exact Quiet.pure' (CR _ _)|exact Quiet.pure' (pU _)|exact Quiet.pure' (lH _ _ _)|exact Quiet.pure' (j8 _ _)|exact Quiet.ask (λ_=>trivial) _|assumption|refine Quiet.ite ?_ ?_|refine Quiet.bind' ?_ λ_=>?_|dsimp only|split))
 ·(repeat' (with_reducible first|exact Quiet.stuck _|exact Quiet.unsupported _ (by with_unfolding_all exact True.intro)|exact Quiet.pure' trivial|exact Quiet.pure' (CR _ _)|exact Quiet.pure' (pU _)|exact Quiet.pure' (lH _ _ _)|exact Quiet.pure' (j8 _ _)|exact Quiet.ask (λ_=>trivial) _|assumption|refine Quiet.ite ?_ ?_|refine Quiet.bind' ?_ λ_=>?_|dsimp only|split))
section
variable {S:Kn} {P:Program} {fs:Array Func} {π:Ren P.globals.size}
def Quiet.sr{s}(h:Quiet Plain s):(SR S (ah P fs) P) VQ π s s:=by
 induction h with
 |pure h=>exact .pure (h _ _)
 |choose q a _ b=>exact .choose (λf c h=>absurd h (Kr a f c)) b
 |halt h d=>exact .never (.halt h d)
def uy(P fs):∀(d) (t) (off),cellOfByte (ah P fs) d t off=cellOfByte P d t off:=by
 intro d;induction d with
 |zero=>exactλ_ _=>rfl
 |succ d a=>intro t off;unfold cellOfByte;simp only[a];rfl
def mg(P fs d e n a b):cellAtBytes (ah P fs) d e n a b=cellAtBytes P d e n a b:=by unfold cellAtBytes;simp only[uy,fQ];rfl
def jU(a1 t){x X y Y}(j:av π x X)(d:av π y Y):(SR S (ah P fs) P) (λπ v V=>av π v V/\∃a A,v=.pointer (some a)/\V=.pointer (some A)) π (Builtin.unsafeAdd_ a1 t #[x,y]) (Builtin.unsafeAdd_ a1 t #[X,Y]):=by
 have go:∀(π:Ren P.globals.size) {p Q:Option Addr} (i:dF (aN π) p Q) {y Y:Value},av π y Y->(SR S (ah P fs) P) (λπ v V=>av π v V/\∃a A,v=.pointer (some a)/\V=.pointer (some A)) π (Builtin.unsafeAdd_ a1 t #[.pointer p,y]) (Builtin.unsafeAdd_ a1 t #[.pointer Q,Y]):=by
  intro π p Q i y Y d;unfold Builtin.unsafeAdd_;refine(ji d).bind ?_;rintro k l n _ rfl;have c:=i.mono λ_ _ x=>aN.mono l x;simp only[];split
  ·cases c with
   |none=>exact aC
   | @some a A b=>
    simp only[];cases b with
    |mk b=>
     refine(oM b).bind ?_;intro e f u v g;simp only[kT g];split
     ·exact aC
     ·exact ai ⟨.ptr (.mk (f _ _ b)),_,_,rfl,rfl⟩
  ·split
   ·exact aC
   ·cases c with
    |none=>exact aC
    | @some a A b=>
     simp only[];cases b with
     |mk b=>
      refine(eM b).bind ?_;rintro e f sh _ rfl;split
      ·refine bV.bind ?_
       rintro m o _ _ ⟨rfl,rfl⟩;simp only[mg];rw[show(ah P fs).depth=P.depth from rfl,show ∀t,(ah P fs).cellsOf t=P.cellsOf t fromλ_=>rfl];split
       ·exact ai ⟨.ptr (.mk (o _ _ (f _ _ b))),_,_,rfl,rfl⟩
       ·exact aC
      ·exact aC
 cases j with
 |Ih=>exact go π .none d
 |ptr h=>exact go π (.some h) d
 |_=>exact al
def tH{a A}(h:aN π a A)(b):(SR S (ah P fs) P) VQ π (asNumber a b) (asNumber A b):=by unfold asNumber;refine(gI (.number b h)).bind ?_;intro c l r R d;exact ai (.ptr (.mk d))
def nQ(a1 t y):dK (Builtin.unsafeAdd_ a1 t #[.tuple #[],y]):=by unfold Builtin.unsafeAdd_;exact dj _
def lI(t y):dK (Op.equal t (.tuple #[]) y):=by unfold Op.equal Op.maxDepth Op.equalIn;refine bz (cW t) λd=>?_;cases d<;>cases y<;>first|exact dj _|(refine bG _ ?_;exact True.intro)|(rename_i a;cases a<;>first|exact dj _|(refine bG _ ?_;exact True.intro))|(rename_i a _ _;cases a<;>exact dj _)
def lJ(t x):dK (Op.equal t x (.tuple #[])):=by unfold Op.equal Op.maxDepth Op.equalIn;refine bz (cW t) λd=>?_;cases d<;>cases x<;>first|exact dj _|(refine bG _ ?_;exact True.intro)|(rename_i a;cases a<;>first|exact dj _|(refine bG _ ?_;exact True.intro))|(rename_i a _ _;cases a<;>exact dj _)
def ky(t){x X y Y}(c:av π x X)(e:av π y Y):(SR S (ah P fs) P) VQ π (movedNumber t x y) (movedNumber t X Y):=by
 unfold movedNumber;refine(aA t).bind ?_;rintro k g d _ ⟨rfl,_⟩;have c:=c.mono g;have e:=e.mono g;simp only[];split
 ·exact .never (aB (.halt _))
 ·have f:=c
  cases c with
  |ptr h=>
   simp only[];refine(fT h).bind ?_;rintro l m ⟨a,b⟩ ⟨A,B⟩ ⟨i,j⟩;simp only[]at i j⊢;subst j;refine(jU _ _ (.ptr i) (e.mono m)).bind ?_;rintro n q v V ⟨o,r,s,e1,p⟩;subst e1 p;cases o with
   |ptr h=>exact tH h _
  |lT V a=>exact .never (show dK (Builtin.unsafeAdd_ #[] t #[.tuple #[],y])from nQ _ _ _)
  |_=>exact(jU #[] t f e).mono λ_ _ _ _ h=>h.1
def uz(t){x X y Y}(d:av π x X)(e:av π y Y):(SR S (ah P fs) P) VQ π (movedPointer t x y) (movedPointer t X Y):=by
 unfold movedPointer;have b:=d;cases d with
 |ptr h=>
  cases h with
  |mk h=>
   simp only[];refine(tD h).bind ?_;intro g f u v c;rw[kT c];split
   ·exact aC
   ·exact(jU _ _ (.ptr (.mk (f _ _ h))) (e.mono f)).mono λ_ _ _ _ h=>h.1
 |lT V a=>exact .never (nQ _ _ _)
 |_=>exact(jU _ _ b e).mono λ_ _ _ _ h=>h.1
def qZ{a A b B}(c:aN π a A)(d:aN π b B):(SR S (ah P fs) P) EqQ π (Op.twoPlaces a b) (Op.twoPlaces A B):=by
 unfold Op.twoPlaces;have e1:=(c.eq d).1;have f:(a.block>=P.globals.size)=(A.block>=P.globals.size):=by
  cases c with
  |mk h=>have:=π.dq _ _ h;simp only[ge_iff_le,eq_iff_iff];omega
 refine bV.bind ?_;rintro g e _ _ ⟨rfl,rfl⟩;simp only[show(ah P fs).globals=P.globals from rfl,bne,e1,f];split
 ·exact aC
 ·refine(iC (c.mono e)).bind ?_
  rintro i j n _ rfl;refine(iC ((d.mono e).mono j)).bind ?_;rintro k l m _ rfl;exact ai rfl
def Fz(k){a A b B}(c:aN π a A)(d:aN π b B):(SR S (ah P fs) P) VQ π (Op.addrSub k a b) (Op.addrSub k A B):=by unfold Op.addrSub;refine(qZ c d).bind ?_;rintro e f ⟨x,y⟩ _ rfl;exact ai (.int _ _)
def mU(c){a A b B}(d:aN π a A)(e:aN π b B):(SR S (ah P fs) P) VQ π (Op.addrCmp c a b) (Op.addrCmp c A B):=by unfold Op.addrCmp;refine(qZ d e).bind ?_;rintro f g ⟨x,y⟩ _ rfl;cases c<;>first|exact ai (.bool _)|exact aC
def pZ(k){a A}(b:aN π a A)(n):(SR S (ah P fs) P) VQ π (Op.addrMod k a n) (Op.addrMod k A n):=by
 unfold Op.addrMod;cases b with
 |mk h=>
 refine(eM h).bind ?_;rintro c d sh _ rfl;split
 ·refine(di _).bind ?_
  rintro e f i _ ⟨rfl,_⟩;simp only[];split
  ·exact .never (aB (.halt _))
  ·refine(iC (.mk (f _ _ (d _ _ h)))).bind ?_
   rintro g j m _ rfl;exact ai (.int _ _)
 ·exact aC
def CU(t){x X y Y}(a:av π x X)(c:av π y Y):(SR S (ah P fs) P) VQ π (do pure (.bool (!(<-Op.equal t x y)))) (do pure (.bool (!(<-Op.equal t X Y)))):=by refine(vt t a c).bind ?_;rintro d e b _ rfl;exact ai (.bool _)
def FC(t){x X y Y}(a:av π x X)(c:av π y Y):(SR S (ah P fs) P) VQ π (do pure (.bool (<-Op.equal t x y))) (do pure (.bool (<-Op.equal t X Y))):=by refine(vt t a c).bind ?_;rintro d e b _ rfl;exact ai (.bool _)
def dg{d e Q a A}(h:aN π a A){f:Addr->Sem d}{F:Addr->Sem e}(g:∀c,Ren.le π c->∀b B,aN c b B->(SR S (ah P fs) P) Q c (f b) (F B)):
 (SR S (ah P fs) P) Q π (do f (<-behindNumber a).1) (do F (<-behindNumber A).1):=by
 refine(fT h).bind ?_;rintro i j ⟨a,b⟩ ⟨A,B⟩ ⟨k,l⟩;exact g _ j _ _ k
def vQ(t:TypeId){x X y Y:Value}(b:av π x X)(c:av π y Y):(SR S (ah P fs) P) VQ π (do if(<-underlying t) matches .unsafePointer then movedPointer t x y else movedNumber t x y) (do if(<-underlying t) matches .unsafePointer then movedPointer t X Y else movedNumber t X Y):=by
 refine(aA t).bind ?_;rintro d l a _ ⟨rfl,_⟩;split
 ·exact uz t (b.mono l) (c.mono l)
 ·exact ky t (b.mono l) (c.mono l)
def Calm.ite{c}[Decidable c]{s t}(h:Calm s)(a:Calm t):Calm (if c then s else t):=by split<;>assumption
def cN{b d Q c}[Decidable c]{s t:Sem b}{s' a:Sem d}(h:(SR S (ah P fs) P) Q π s s')(e:(SR S (ah P fs) P) Q π t a):(SR S (ah P fs) P) Q π (if c then s else t) (if c then s' else a):=by split<;>assumption
def Lg(o t){x X y Y}(a:av π x X)(d:av π y Y):(SR S (ah P fs) P) VQ π (binOp o t x y) (binOp o t X Y):=by
 have i:=a;have j:=d;unfold binOp;split
 ·cases a;cases d;exact(vn _ _ _ _ _).sr
 ·cases a;cases d;exact(vn _ _ _ _ _).sr
 ·cases a;cases d
  rename_i u v;cases o<;>first
   |exact(u rfl).elim
   |exact(v rfl).elim
   |exact cN al (pj _ _ _ _).sr
   |exact cN al (Cm _ _ _ _).sr
   |exact cN al (qM _ _ _ _).sr
   |exact cN al (Cl _ _ _).sr
 ·cases a;cases d
  cases o<;>first
   |exact cN al (mf _ _ _ _).sr
   |exact cN al (nO _ _ _ _).sr
 ·cases a;cases d
  cases o<;>exact cN al (ux _ _ _ _ _ _).sr
 ·cases a;cases d
  cases o<;>exact(pk _ _ _).sr
 ·rename_i p q r s
  cases a<;>cases d<;>first|exact FC t i j|exact .never (aB (lI _ _))|exact .never (aB (lJ _ _))|exact(p _ _ _ _ rfl rfl).elim|exact(q _ _ _ _ rfl rfl).elim|exact(r _ _ _ _ _ _ rfl rfl).elim|exact(s _ _ rfl rfl).elim
 ·rename_i p q r s
  cases a<;>cases d<;>first|exact CU t i j|exact .never (aB (lI _ _))|exact .never (aB (lJ _ _))|exact(p _ _ _ _ rfl rfl).elim|exact(q _ _ _ _ rfl rfl).elim|exact(r _ _ _ _ _ _ rfl rfl).elim|exact(s _ _ rfl rfl).elim
 ·cases d;cases a<;>exact vQ t i j
 ·cases a;cases d<;>exact ky t j i
 ·cases d;cases a<;>exact ky t i (.int _ _)
 ·cases a with|ptr e=>cases d with|ptr k=>exact dg e λf h b B g=>dg (k.mono h) λl m c C n=>Fz _ (g.mono m) n
 ·cases a with|ptr e=>cases d with|ptr k=>exact dg e λf h b B g=>dg (k.mono h) λl m c C n=>mU _ (g.mono m) n
 ·cases a with|ptr e=>cases d with|ptr k=>exact dg e λf h b B g=>dg (k.mono h) λl m c C n=>mU _ (g.mono m) n
 ·cases a with|ptr e=>cases d with|ptr k=>exact dg e λf h b B g=>dg (k.mono h) λl m c C n=>mU _ (g.mono m) n
 ·cases a with|ptr e=>cases d with|ptr k=>exact dg e λf h b B g=>dg (k.mono h) λl m c C n=>mU _ (g.mono m) n
 ·cases a with|ptr e=>cases d with|int=>exact dg e λf h b B g=>pZ _ g _
 ·cases a with|ptr e=>cases d with|int=>exact dg e λf h b B g=>pZ _ g _
 ·cases d with|ptr e=>cases a with|int=>exact dg e λf h b B g=>pZ _ g _
 ·exact aC
 ·exact aC
 ·exact al
def vR(h:BinOp)(t c)(d:fX (.unsupported c)){a A b B}(e:av π a A)(f:av π b B):(SR S (ah P fs) P) EqQ π (do if <-Op.eqGuardIn Op.maxDepth t a b then unsupported c) (do if <-Op.eqGuardIn Op.maxDepth t A B then unsupported c):=by
 refine(Af _ t e f).bind ?_;rintro g i x _ rfl;split
 ·exact aC d
 ·exact ai rfl
def FD(e t x y){a A b B}(f:av π a A)(g:av π b B):(SR S (ah P fs) P) EqQ π (eqGuard e t x y a b) (eqGuard e t x y A B):=by
 have c:=f;have d:=g;unfold eqGuard;refine cN (ai rfl) ?_;split
 ·cases f;cases g
  exact cN (ai rfl) (vR e t _ (by exact True.intro) c d)
 ·cases f;cases g
  simp only[];refine bV.bind ?_;rintro j h _ _ ⟨rfl,rfl⟩;refine bV.bind ?_;rintro k i _ _ ⟨rfl,rfl⟩;rw[ma,show(ah P fs).depth=P.depth from rfl];split
  ·exact ai rfl
  ·exact vR e t _ (by exact True.intro) ((c.mono h).mono i) ((d.mono h).mono i)
 ·rename_i l m
  cases f with
  |lT _ a=>cases A<;>first|(simp[dW]at a;done)|exact ai rfl
  |_=>
   cases g with
   |lT _ a=>cases B<;>first|(simp[dW]at a;done)|exact ai rfl
   |_=>first|exact ai rfl|exact(l rfl rfl).elim|exact(m _ _ rfl rfl).elim
end
section
variable {S:Kn} {P:Program} {fs:Array Func} {π:Ren P.globals.size}
def fg{G}{ρ:Ren G}{c}(h:bg c):VsR ρ c c:=h.refl ρ
def py(b:Array UInt8):bg (b.map λb=>Value.int .u8 b.toNat):=λi v h=>by
 rw[SG]at h;cases a:b[i]? with
 |none=>rw[a]at h;cases h
 |some x=>rw[a]at h;cases h;exact j8 _ _
def ia(n){v}(h:Plain v):bg (Array.replicate n v):=λi x a=>by rw[Vi]at a;split at a<;>cases a;exact h
def bg.append{a b}(h:bg a)(d:bg b):bg (a++b):=λi x c=>by
 rw[Ud]at c;split at c
 ·exact h _ _ c
 ·exact d _ _ c
def bg.push{a}(h:bg a){v}(c:Plain v):bg (a.push v):=λi x b=>by
 rw[Ta]at b;split at b
 ·cases b;exact c
 ·exact h _ _ b
def yV{a A}(h:aN π a A)(n):(SR S (ah P fs) P) EqQ π (freeze a n) (freeze A n):=.freeze h (.pure rfl)
def mh{a A}(h:aN π a A):(SR S (ah P fs) P) EqQ π (markStringish a) (markStringish A):=by
 unfold markStringish;cases h with
 |mk h=>
 refine(eM h).bind ?_;rintro b c sh _ rfl;split
 ·exact yV (.mk (c _ _ h)) 1
 ·exact ai rfl
def sP(e s):(SR S (ah P fs) P) VQ π (Conv.stringToBytes e s) (Conv.stringToBytes e s):=by unfold Conv.stringToBytes;refine(ep _).bind ?_;rintro c h n _ rfl;refine(iB e (fg ((py _).append (ia _ (j8 _ _))))).bind ?_;intro d i a A b;refine(mh b).bind ?_;intro f g _ _ _;exact ai (.slice _ _ (b.mono g))
def yb(s):∀(b i) (acc),bg acc->bg (Conv.runesFrom s b i acc):=by
 intro b;induction b with
 |zero=>intro i acc h;exact h
 |succ b a=>
  intro i acc h;unfold Conv.runesFrom;split
  ·exact a _ _ (h.push (j8 _ _))
  ·exact h
def sQ(e s):(SR S (ah P fs) P) VQ π (Conv.stringToRunes e s) (Conv.stringToRunes e s):=by unfold Conv.stringToRunes;refine(ep _).bind ?_;rintro b f n _ rfl;refine(iB e (fg ((yb _ _ _ _ .empty).append (ia _ (j8 _ _))))).bind ?_;intro c g a A d;exact ai (.slice _ _ d)
def yW{σ l L f F}(h:∀(a),Ren.le π a->∀v V s,av a v V->(SR S (ah P fs) P) EqQ a (f v s) (F V s))(e:bh (av π) l L):∀{a} (_:Ren.le π a) (s:σ),(SR S (ah P fs) P) EqQ a (forIn l s f) (forIn L s F):=by
 induction e with
 |nil=>intro a b s;simp only[List.forIn_nil];exact ai rfl
 |cons g _ i=>
  intro a b s;simp only[Vl];refine(h a b _ _ s (g.mono b)).bind ?_;rintro d c x _ rfl;cases x with
  |done=>exact ai rfl
  |yield s=>exact i (Ren.le_trans b c) s
def sR{x X}(h:av π x X):(SR S (ah P fs) P) VQ π (Conv.bytesToString x) (Conv.bytesToString X):=by
 unfold Conv.bytesToString;cases h with
 |im=>exact ai (.string _)
 |slice n c h=>
  simp only[];refine(jQ h n).bind ?_;intro a g i j e;simp only[<-TJ];refine(yW (π:=a) ?_ e.toList (Ren.le_refl _) _).bind ?_
  ·intro b f v V s d
   cases d with
   |int k n=>cases k<;>first|exact ai rfl|exact .never (aB (.halt _))|exact al
   |_=>exact al
  ·rintro b f s _ rfl
   exact ai (.string _)
 |pM A=>exact ai (.string _)
 |_=>exact al
def sS{x X}(h:av π x X):(SR S (ah P fs) P) VQ π (Conv.runesToString x) (Conv.runesToString X):=by
 unfold Conv.runesToString;cases h with
 |im=>exact ai (.string _)
 |slice n c h=>
  simp only[];refine(jQ h n).bind ?_;intro a g i j e;simp only[<-TJ];refine(yW (π:=a) ?_ e.toList (Ren.le_refl _) _).bind ?_
  ·intro b f v V s d
   cases d with
   |int k n=>cases k<;>first|exact ai rfl|exact .never (aB (.halt _))|exact al
   |_=>exact al
  ·rintro b f s _ rfl
   exact ai (.string _)
 |pM A=>exact ai (.string _)
 |_=>exact al
def yX{a A}(h:aN π a A):(SR S (ah P fs) P) AQ π (Conv.seenAt a) (Conv.seenAt A):=by
 unfold Conv.seenAt;have i:=h;have e1:a.spot=A.spot/\a.off=A.off:=by cases h;exact⟨rfl,rfl⟩
 simp only[e1.1,e1.2];cases h with
 |mk h=>
 refine(oM h).bind ?_;intro j k x y c;cases c with
 |none=>exact ai (i.mono k)
 | @some u v d=>
  obtain⟨s,t⟩:=u;obtain⟨s',o⟩:=v;obtain⟨b,e⟩:=d;simp only[]at b e⊢;subst e;split
  ·exact ai b
  ·have f:s.spot=s'.spot/\s.off=s'.off:=by cases b;exact⟨rfl,rfl⟩
   simp only[f.1,f.2];split
   ·exact .never (aB (.halt _))
   ·refine bV.bind ?_
    rintro l g _ _ ⟨rfl,rfl⟩;simp only[fQ,mg,show(ah P fs).depth=P.depth from rfl,show ∀t,(ah P fs).cellsOf t=P.cellsOf t fromλ_=>rfl];split
    ·cases b with
     |mk b=>
     refine(eM (g _ _ b)).bind ?_;rintro m n sh _ rfl;split
     ·split
      ·exact .never (aB (.halt _))
      ·split
       ·exact ai (.mk (n _ _ (g _ _ b)))
       ·exact aC
     ·exact aC
    ·exact aC
def FE{r R}(h:π r R):(SR S (ah P fs) P) EqQ π (cellsIn r) (cellsIn R):=by
 unfold cellsIn;refine(eM h).bind ?_;rintro a b sh _ rfl;split
 ·exact ai rfl
 ·refine(bX (b _ _ h)).bind ?_
  intro c e o O d;cases d<;>exact ai rfl
def uA(P fs):∀(n) (t u),sameLayout (ah P fs) n t u=sameLayout P n t u:=by
 intro n;induction n with
 |zero=>exactλ_ _=>rfl
 |succ n a=>intro t u;unfold sameLayout;simp only[a,et];rfl
def FF(P fs g):∀(d) (e) (c o n),rowAt (ah P fs) g d e c o n=rowAt P g d e c o n:=by
 intro d;induction d with
 |zero=>exactλ_ _ _ _=>rfl
 |succ d a=>intro e c o n;unfold rowAt;simp only[a,et];rfl
def CW(P fs):∀(d) (e) (c o) (u) (n),liesAt (ah P fs) d e c o u n=liesAt P d e c o u n:=by
 intro d;induction d with
 |zero=>exactλ_ _ _ _ _=>rfl
 |succ d a=>intro e c o u n;unfold liesAt;simp only[a,FF,uA];rfl
def nR{a A}(h:aN π a A)(u n):(SR S (ah P fs) P) EqQ π (variablesAt a u n) (variablesAt A u n):=by
 unfold variablesAt;cases h with
 |mk h=>
 refine bV.bind ?_;rintro b c _ _ ⟨rfl,rfl⟩;refine(eM (c _ _ h)).bind ?_;rintro d e sh _ rfl;simp only[CW,show(ah P fs).depth=P.depth from rfl,show ∀t,(ah P fs).cellsOf t=P.cellsOf t fromλ_=>rfl];split<;>exact ai rfl
def rf(P fs):∀(d) (t),(ah P fs).holdsStoodIn d t=P.holdsStoodIn d t:=by
 intro d;induction d with
 |zero=>exactλ_=>rfl
 |succ d a=>intro t;unfold Program.holdsStoodIn;simp only[a,et];rfl
def vT{a A}(h:aN π a A)(u):(SR S (ah P fs) P) VQ π (do pure (.pointer (some ⟨<-newObj (.view a u),0,none⟩))) (do pure (.pointer (some ⟨<-newObj (.view A u),0,none⟩))):=by refine(gI (.view u h)).bind ?_;intro b d r R c;exact ai (.ptr (.mk c))
def fF(f g){x X}(e:av π x X):(SR S (ah P fs) P) VQ π (Conv.unsafePointer f g x) (Conv.unsafePointer f g X):=by
 unfold Conv.unsafePointer;refine(aA f).bind ?_;rintro v w s _ ⟨rfl,_⟩;refine(aA g).bind ?_;rintro y z d _ ⟨rfl,_⟩;have e:=(e.mono w).mono z;have h:=e;split
 ·cases e;exact ai h
 ·cases e with
  |ptr l=>
   refine(yX l).bind ?_;intro o A b B a;have m:=a;cases a with
   |mk a=>
   refine(FE a).bind ?_;rintro p i c _ rfl;refine(bE _).bind ?_;rintro r k n _ rfl;have j:=λu=>vT (S:=S) (fs:=fs) ((m.mono i).mono k) u;split<;>exact cN (j _) (ai (.ptr ((m.mono i).mono k)))
 ·cases e;exact ai h
 ·cases e with
  |ptr l=>
   refine(yX l).bind ?_;intro o A b B a;refine(bE _).bind ?_;rintro p i n _ rfl;simp only[];refine(nR (a.mono i) _ 1).bind ?_;rintro r k q _ rfl;refine cN (ai (.ptr ((a.mono i).mono k))) ?_;have t:=(a.mono i).mono k;cases a with
   |mk a=>
   refine(eM (k _ _ (i _ _ a))).bind ?_;rintro C D sh _ rfl;split
   ·refine bV.bind ?_
    rintro E F _ _ ⟨rfl,rfl⟩;refine bV.bind ?_;rintro G H _ _ ⟨rfl,rfl⟩;rw[rf,show(ah P fs).depth=P.depth from rfl];split
    ·exact .never (aB (.halt _))
    ·exact vT (((t.mono D).mono F).mono H) _
   ·exact .never (aB (.halt _))
 ·cases e<;>exact ai h
 ·cases e;exact ai (.int _ _)
 ·cases e with|ptr l=>exact tH l _
 ·exact aC
 ·exact aC
 ·exact aC
 ·exact al
def yc(c f e:TypeId){x X:Value}(a:av π x X):(SR S (ah P fs) P) VQ π (do match <-underlying e with
 | .int .u8=>Conv.bytesToString x
 | .int .i32=>Conv.runesToString x
 |_=>stuck "Convert: a slice of what to string?") (do match <-underlying e with
 | .int .u8=>Conv.bytesToString X
 | .int .i32=>Conv.runesToString X
 |_=>stuck "Convert: a slice of what to string?"):=by
 refine(aA e).bind ?_;rintro g b d _ ⟨rfl,_⟩;split
 ·exact sR (a.mono b)
 ·exact sS (a.mono b)
 ·exact al
def yd(e:TypeId){s:ByteArray}:(SR S (ah P fs) P) VQ π (do match <-underlying e with
 | .int .u8=>Conv.stringToBytes e s
 | .int .i32=>Conv.stringToRunes e s
 |_=>stuck "Convert: string to a slice of what?") (do match <-underlying e with
 | .int .u8=>Conv.stringToBytes e s
 | .int .i32=>Conv.stringToRunes e s
 |_=>stuck "Convert: string to a slice of what?"):=by
 refine(aA e).bind ?_;rintro a b d _ ⟨rfl,_⟩;split
 ·exact sP _ _
 ·exact sQ _ _
 ·exact al
def pA(b c e:TypeId){a A:Addr}{x X:Value}(f:aN π a A)(g:av π x X):(SR S (ah P fs) P) VQ π (do match b==c,<-underlying e with
 |true,.int .u8=>do markStringish a;pure x
 |_,_=>unsupported (.noEntry "convert/other")) (do match b==c,<-underlying e with
 |true,.int .u8=>do markStringish A;pure X
 |_,_=>unsupported (.noEntry "convert/other")):=by
 refine(aA _).bind ?_;rintro h d e _ ⟨rfl,_⟩;split
 ·refine(mh (f.mono d)).bind ?_
  intro i j _ _ _;exact ai ((g.mono d).mono j)
 ·exact aC
def ri(s d):dK (Conv.unsafePointer s d (.tuple #[])):=by unfold Conv.unsafePointer;refine bz (cW s) λa=>?_;refine bz (cW d) λb=>?_;cases a<;>cases b<;>exact dj _
def qe(c f):dK (convert c f (.tuple #[])):=by
 unfold convert;refine bz (cW c) λa=>?_;refine bz (cW f) λb=>?_;have key:∀e,dK (do match <-underlying e with
  | .int .u8=>Conv.bytesToString (.tuple #[])
  | .int .i32=>Conv.runesToString (.tuple #[])
  |_=>stuck "Convert: a slice of what to string?"):=λe=>by
  refine bz (cW e) λd=>?_;split<;>exact dj _
 cases a<;>cases b<;>first|exact key _|exact ri _ _|(refine bG _ ?_;exact True.intro)
def FG(a b)(h:(a==b)=false){x X}(g:av π x X):(SR S (ah P fs) P) VQ π (convert a b x) (convert a b X):=by
 by_cases l:x=.tuple #[]
 ·rw[l];exact .never (qe _ _)
 unfold convert;refine(aA a).bind ?_;rintro v w _ s ⟨rfl,y⟩;clear y;refine(aA b).bind ?_;rintro z A _ d ⟨rfl,B⟩;clear B;have g:=(g.mono w).mono A;have c:=g;cases g<;>(try exact absurd rfl l)<;>split<;>first
  |contradiction
  |exact aC
  |exact ai (.int _ _)
  |exact ai (.float _ _)
  |exact(sN _ _ _).sr
  |exact(eG _ _ _).sr
  |exact(mS _ _ _ _).sr
  |exact ai (.string _)
  |exact yd _
  |exact fF _ _ c
  |exact yc a b _ c
  |exact pA a b _ (by assumption) c
  |(rename_i d1 d2 d3 m n o p q r t u i;cases d1<;>exact fF _ _ c)
  |(rename_i d1 d2 d3 m n o p q r t u i j f k;cases d1<;>first|contradiction|exact fF _ _ c|exact(k rfl).elim|exact(f rfl).elim|exact(j rfl).elim)
  |(rename_i d1 d2 d3 m n o p q r t u i j f;cases d1<;>first|contradiction|exact fF _ _ c|exact(f rfl).elim|exact(j rfl).elim|exact(i rfl).elim)
  |(injections;subst_vars;exact pA a b _ (by assumption) c)
  |(injections;done)
  |(rw[h];refine(aA _).bind ?_;rintro C D e _ ⟨rfl,_⟩;exact aC)
end
end Go.Tm

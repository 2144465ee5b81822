import Derived.Test.YtaglpcmhopjebaaGreatDoorY3
set_option linter.all false
set_option maxRecDepth 100000
set_option maxHeartbeats 20000000
namespace Go.Tm
section
variable {S:Kn} {P:Program} {fs:Array Func} {G:Nat} {π:Ren P.globals.size} {ρ:Ren G}
abbrev NmR{G}(π:Ren G):Addr×Bool->Addr×Bool->Prop:=λx y=>aP π x.1 y.1/\x.2=y.2
def tF{r d}(h:π r d):(SR S (ah P fs) P) (λc a b=>dO (NmR c) a b) π (numberAt r) (numberAt d):=by
 unfold numberAt;refine(eL h).bind ?_;rintro c l a _ rfl;split
 ·exact ai .none
 ·refine(cE (l _ _ h)).bind ?_
  intro e g o O f;cases f<;>first|exact ai .none|exact ai (.some ⟨by assumption,rfl⟩)
def fY{a A}(h:aP π a A):(SR S (ah P fs) P) (λb x y=>NmR b x y) π (behindNumber a) (behindNumber A):=by
 unfold behindNumber;cases h with
 |mk h=>
  refine(tF h).bind ?_;intro b l x y c;cases c with
  |none=>exact ai ⟨.mk (l _ _ h),rfl⟩
  |some h=>exact ai h
def qP(P fs):∀(n) (t u),(ah P fs).alikeButTags n t u=P.alikeButTags n t u:=by
 intro n;induction n with
 |zero=>exactλ_ _=>rfl
 |succ n a=>intro t u;have e:=funext λt=>funext λu=>a t u;unfold Program.alikeButTags;rw[e];rfl
def vp(P fs t):(ah P fs).stoodInAs t=P.stoodInAs t:=by unfold Program.stoodInAs;simp only[qP];rfl
def ep(P fs t):(ah P fs).stoodInHeld t=P.stoodInHeld t:=by unfold Program.stoodInHeld;rw[vp];rfl
def iF{e σ:Type}(l:List e){f F:e->σ->Sem (ForInStep σ)}(s)(h:∀(c),Ren.le π c->∀a s,(SR S (ah P fs) P) EqQ c (f a s) (F a s)):(SR S (ah P fs) P) EqQ π (forIn l s f) (forIn l s F):=by
 refine(JZ (T:=λc a b=>a=b/\Ren.le π c) (λ_ _ _ _ l h=>⟨h.1,Ren.le_trans h.2 l⟩) l _ _ ?_ π _ _ ⟨rfl,Ren.le_refl _⟩).mono λ_ _ _ _ h=>h.1;rintro c a s _ ⟨rfl,d⟩;refine(h c d a s).mono ?_;rintro i g x _ rfl;cases x with
 |done u=>exact .inr ⟨u,u,rfl,rfl,rfl,Ren.le_trans d g⟩
 |yield u=>exact .inl ⟨u,u,rfl,rfl,rfl,Ren.le_trans d g⟩
def EF(d):∀{π:Ren P.globals.size} (t) {x X y Y},az π x X->az π y Y->(SR S (ah P fs) P) EqQ π (Op.equalIn d t x y) (Op.equalIn d t X Y):=by
 induction d with
 |zero=>intros;exact aE
 |succ d L=>
  intro π t x X y Y M N;unfold Op.equalIn;refine(aD t).bind ?_;rintro g l2 d' _ ⟨rfl,hd⟩;clear hd;have M:=M.mono l2;have N:=N.mono l2;generalize hX:X=X' at*;split;all_goals first|exact .never (dk _)|exact .never (bF _)|skip
  all_goals cases M
  all_goals cases N
  all_goals try exact ai rfl
  all_goals try (exfalso;rename_i h;exact absurd rfl h)
  all_goals simp only[]
  all_goals try (split<;>first|exact ai rfl|exact aq)
  ·
   rename_i a b A I B J;refine(fY I).bind ?_;rintro p j ⟨a',x1⟩ ⟨A',X1⟩ ⟨c,_⟩;refine(fY (J.mono j)).bind ?_;rintro l o ⟨b',x2⟩ ⟨B',X2⟩ ⟨k,_⟩;refine b9.bind ?_;rintro q D _ _ ⟨rfl,rfl⟩;have c:=(c.mono o).mono D;have k:=k.mono D;simp only[]at c k⊢;have e1:=(c.eq k).1;have e2:=(c.eq k).2;have e3:decide (a'.block<(ah P fs).globals.size)=decide (A'.block<P.globals.size):=by
    cases c with
    |mk h=>exact decide_eq_decide.2 (q.dB _ _ h)
   rw[e1,e3];split
   ·refine(iE c).bind ?_
    rintro w E n _ rfl;refine(iE (k.mono E)).bind ?_;rintro F l7 m _ rfl;exact ai rfl
   ·refine(dj t).bind ?_
    rintro w E i _ ⟨rfl,_⟩;rw[e2];split
    ·split
     ·exact ai rfl
     ·exact aE
    ·exact aE
  ·rename_i a b A I B J
   refine(bG _).bind ?_;rintro p j n _ rfl;rw[(I.eq J).2];split
   ·exact tE (I.mono j) (J.mono j)
   ·split
    ·exact ai rfl
    ·refine(en _).bind ?_
     rintro l o m _ rfl;exact ai rfl
  ·exact vo (.some (by assumption)) (.some (by assumption))
  ·rename_i r R hr r' R' H
   refine ai ?_;have e:r=r'↔R=R':=⟨λe=>by subst e;exact g.fn _ _ _ hr H,λe=>by subst e;exact g.inj _ _ _ hr H⟩
   show(some r==some r')=(some R==some R');rw[SV];simp[e]
  ·split
   ·exact ai rfl
   ·refine(dj _).bind ?_
    rintro p j i _ ⟨rfl,_⟩;split
    ·refine .never ?_
     repeat' (first|exact aG _|exact aA (aG _)|exact aA (bF _)|split|refine bz (by first|exact qC _|exact .choose _|exact .program|exact .pure _) λ_=>?_)
    ·exact L _ (by assumption|>λh=>az.mono j h) (by assumption|>λh=>az.mono j h)
  ·rename_i K xs O XS Q T YS W Z
   have z:VsR g xs XS:=⟨Q,T⟩
   have C:VsR g O YS:=⟨W,Z⟩
   refine b9.bind ?_;rintro p j _ _ ⟨rfl,rfl⟩;rw[ep];split
   ·exact .never (aA (bF _))
   ·rw[<-Ti,<-Ti]
    refine(iF _ _ λl o f s=>?_).bind ?_
    ·split
     ·refine(fX _ _ (VsR.mono o (VsR.mono j z))).bind ?_
      intro q D u U hu;refine(fX _ _ (VsR.mono D (VsR.mono o (VsR.mono j C)))).bind ?_;intro w E v V hv;refine(L _ (hu.mono E) hv).bind ?_;rintro F l7 b _ rfl;split<;>exact ai rfl
     ·exact ai rfl
    ·rintro l o s _ rfl
     split<;>exact ai rfl
  ·rename_i aa xs O XS Q T YS W Z
   have z:VsR g xs XS:=⟨Q,T⟩
   have C:VsR g O YS:=⟨W,Z⟩
   refine(bG _).bind ?_;rintro p j n _ rfl;simp only[UO];refine(iF _ _ λl o f s=>?_).bind ?_
   ·refine(fX _ _ (VsR.mono o (VsR.mono j z))).bind ?_
    intro q D u U hu;refine(fX _ _ (VsR.mono D (VsR.mono o (VsR.mono j C)))).bind ?_;intro w E v V hv;refine(L _ (hu.mono E) hv).bind ?_;rintro F l7 b _ rfl;split<;>exact ai rfl
   ·rintro l o s _ rfl
    split<;>exact ai rfl
def vq(t){x X y Y}(a:az π x X)(b:az π y Y):(SR S (ah P fs) P) EqQ π (Op.equal t x y) (Op.equal t X Y):=EF _ t a b
def zU(d):∀{π:Ren P.globals.size} (t) {x X y Y},az π x X->az π y Y->(SR S (ah P fs) P) EqQ π (Op.eqGuardIn d t x y) (Op.eqGuardIn d t X Y):=by
 induction d with
 |zero=>intros;exact aE
 |succ d F=>
  intro π t x X y Y j k;unfold Op.eqGuardIn;refine(aD t).bind ?_;rintro c H d' _ ⟨rfl,K⟩;clear K;have j:=j.mono H;have k:=k.mono H;cases d' with
  |interface N=>
   cases j<;>cases k<;>first
    |exact ai rfl
    |(rename_i a;cases Y<;>first|exact ai rfl|(simp[dU]at a;done))
    |(rename_i a;cases X<;>first|exact ai rfl|(simp[dU]at a;done))
    |(rename_i a b;cases X<;>first|exact ai rfl|(simp[dU]at a;done))
  |struct l=>
   cases j<;>first|exact ai rfl|(rename_i a;cases X<;>first|exact ai rfl|(simp[dU]at a;done))|(cases k<;>first|exact ai rfl|(rename_i a;cases Y<;>first|exact ai rfl|(simp[dU]at a;done))|skip)
   rename_i xs XS m o p YS q r;have e:VsR c xs XS:=⟨m,o⟩
   have g:VsR c p YS:=⟨q,r⟩
   simp only[];rw[<-Ti,<-Ti];refine(iF _ _ λh i f s=>?_).bind ?_
   ·split
    ·refine(fX _ _ (VsR.mono i e)).bind ?_
     intro w z u U A;refine(fX _ _ (VsR.mono z (VsR.mono i g))).bind ?_;intro B C v V D;refine(F _ (A.mono C) D).bind ?_;rintro E L b _ rfl;split<;>exact ai rfl
    ·exact ai rfl
   ·rintro h i s _ rfl
    split<;>exact ai rfl
  |array len I=>
   cases j<;>first|exact ai rfl|(rename_i a;cases X<;>first|exact ai rfl|(simp[dU]at a;done))|(cases k<;>first|exact ai rfl|(rename_i a;cases Y<;>first|exact ai rfl|(simp[dU]at a;done))|skip)
   rename_i xs XS m o p YS q r;have e:VsR c xs XS:=⟨m,o⟩
   have g:VsR c p YS:=⟨q,r⟩
   simp only[UO];refine(bG _).bind ?_;rintro M J n _ rfl;refine(iF _ _ λh i f s=>?_).bind ?_
   ·refine(fX _ _ (VsR.mono i (VsR.mono J e))).bind ?_
    intro w z u U A;refine(fX _ _ (VsR.mono z (VsR.mono i (VsR.mono J g)))).bind ?_;intro B C v V D;refine(F _ (A.mono C) D).bind ?_;rintro E L b _ rfl;split<;>exact ai rfl
   ·rintro h i s _ rfl
    split<;>exact ai rfl
  |_=>cases j<;>exact ai rfl
def lT(P fs):∀(n) (t),(ah P fs).eqGuardType n t=P.eqGuardType n t:=by
 intro n;induction n with
 |zero=>exactλ_=>rfl
 |succ n a=>intro t;have e:=funext λt=>a t;unfold Program.eqGuardType;rw[e];rfl
end
inductive Quiet{α:Type}(Q:α->Prop):Sem α->Prop
 |pure {a}:Q a->Quiet Q (.pure a)
 |choose (q) {k}:Gn q=false->(∀n,Quiet Q (k n))->Quiet Q (.choose q k)
 |halt (h):gl h->Quiet Q (.halt h)
def Quiet.pure'{b Q a}(h:Q a):Quiet Q (Pure.pure a:Sem b):=.pure h
def Quiet.bind{c d Q Q' s}{f:c->Sem d}(h:Quiet Q s)(b:∀a,Q a->Quiet Q' (f a)):Quiet Q' (s>>= f):=by
 show Quiet Q' (s.bind f);induction h with
 |pure h=>exact b _ h
 |choose q e _ g=>exact .choose q e g
 |halt h b=>exact .halt h b
def Quiet.bind'{b c Q' s}{f:b->Sem c}(h:Quiet (λ_=>True) s)(d:∀a,Quiet Q' (f a)):Quiet Q' (s>>= f):=h.bind λa _=>d a
def Quiet.ask{Q:Nat->Prop}(h:∀n,Q n)(q:Question)(a:Gn q=false:=by with_unfolding_all rfl):Quiet Q (Go.choose q):=.choose q a λn=>.pure (h n)
def Quiet.stuck{a}{Q:a->Prop}(s):Quiet Q (Go.stuck s):=.halt _ True.intro
def Quiet.unsupported{a}{Q:a->Prop}(s)(b:gl (.unsupported s)):Quiet Q (Go.unsupported s):=.halt _ b
def Quiet.ite{a Q c}[Decidable c]{s t:Sem a}(h:Quiet Q s)(b:Quiet Q t):Quiet Q (if c then s else t):=by split<;>assumption
def Cy(k b):Plain (.float k b):=λ_ _=>.float k b
def lB(k a b):Plain (.complex k a b):=λ_ _=>.complex k a b
def jW(k b):Plain (.int k b):=λ_ _=>.int k b
def Quiet.true{a Q}{s:Sem a}(h:Quiet Q s):Quiet (λ_=>True) s:=by
 induction h with
 |pure h=>exact .pure trivial
 |choose q b _ c=>exact .choose q b c
 |halt h d=>exact .halt h d
def lV(a k x y):Quiet Plain (Op.floatArith a k x y):=by
 unfold Op.floatArith
 (repeat' (with_reducible first|exact Quiet.stuck _|exact Quiet.unsupported _ (by with_unfolding_all exact True.intro)|exact Quiet.pure' trivial|exact Quiet.pure' (Cy _ _)|exact Quiet.pure' (pQ _)|exact Quiet.pure' (lB _ _ _)|exact Quiet.pure' (jW _ _)|exact Quiet.ask (λ_=>trivial) _|assumption|refine Quiet.ite ?_ ?_|refine Quiet.bind' ?_ λ_=>?_|dsimp only|split))
def nK(a k x y):Quiet Plain (Op.floatCmp a k x y):=by
 unfold Op.floatCmp
 (repeat' (with_reducible first|exact Quiet.stuck _|exact Quiet.unsupported _ (by with_unfolding_all exact True.intro)|exact Quiet.pure' trivial|exact Quiet.pure' (Cy _ _)|exact Quiet.pure' (pQ _)|exact Quiet.pure' (lB _ _ _)|exact Quiet.pure' (jW _ _)|exact Quiet.ask (λ_=>trivial) _|assumption|refine Quiet.ite ?_ ?_|refine Quiet.bind' ?_ λ_=>?_|dsimp only|split))
def eE(a b c):Quiet Plain (Conv.floatToFloat a b c):=by
 unfold Conv.floatToFloat
 (repeat' (with_reducible first|exact Quiet.stuck _|exact Quiet.unsupported _ (by with_unfolding_all exact True.intro)|exact Quiet.pure' trivial|exact Quiet.pure' (Cy _ _)|exact Quiet.pure' (pQ _)|exact Quiet.pure' (lB _ _ _)|exact Quiet.pure' (jW _ _)|exact Quiet.ask (λ_=>trivial) _|assumption|refine Quiet.ite ?_ ?_|refine Quiet.bind' ?_ λ_=>?_|dsimp only|split))
def sP(a b c):Quiet Plain (Conv.floatToInt a b c):=by
 unfold Conv.floatToInt
 (repeat' (with_reducible first|exact Quiet.stuck _|exact Quiet.unsupported _ (by with_unfolding_all exact True.intro)|exact Quiet.pure' trivial|exact Quiet.pure' (Cy _ _)|exact Quiet.pure' (pQ _)|exact Quiet.pure' (lB _ _ _)|exact Quiet.pure' (jW _ _)|exact Quiet.ask (λ_=>trivial) _|assumption|refine Quiet.ite ?_ ?_|refine Quiet.bind' ?_ λ_=>?_|dsimp only|split))
def Am(v):Quiet (λ_=>True) (asBool v):=by
 unfold asBool
 (repeat' (with_reducible first|exact Quiet.stuck _|exact Quiet.unsupported _ (by with_unfolding_all exact True.intro)|exact Quiet.pure' trivial|exact Quiet.pure' (Cy _ _)|exact Quiet.pure' (pQ _)|exact Quiet.pure' (lB _ _ _)|exact Quiet.pure' (jW _ _)|exact Quiet.ask (λ_=>trivial) _|assumption|refine Quiet.ite ?_ ?_|refine Quiet.bind' ?_ λ_=>?_|dsimp only|split))
def nL(a k x y):Quiet (λ_=>True) (Op.Complex.arith a k x y):=by
 unfold Op.Complex.arith;refine Quiet.bind' (lV a k x y).true λ_=>?_
 (repeat' (with_reducible first|exact Quiet.stuck _|exact Quiet.unsupported _ (by with_unfolding_all exact True.intro)|exact Quiet.pure' trivial|exact Quiet.pure' (Cy _ _)|exact Quiet.pure' (pQ _)|exact Quiet.pure' (lB _ _ _)|exact Quiet.pure' (jW _ _)|exact Quiet.ask (λ_=>trivial) _|assumption|refine Quiet.ite ?_ ?_|refine Quiet.bind' ?_ λ_=>?_|dsimp only|split))
def sQ(a k x y):Quiet (λ_=>True) (Op.Complex.cmp a k x y):=by unfold Op.Complex.cmp;refine Quiet.bind' (nK a k x y).true λ_=>Am _
def vJ(k x d):Quiet (λ_=>True) (Op.Complex.conv k x d):=by
 unfold Op.Complex.conv;refine Quiet.ite (Quiet.pure' trivial) ?_;refine Quiet.bind' (eE _ _ _).true λ_=>?_
 (repeat' (with_reducible first|exact Quiet.stuck _|exact Quiet.unsupported _ (by with_unfolding_all exact True.intro)|exact Quiet.pure' trivial|exact Quiet.pure' (Cy _ _)|exact Quiet.pure' (pQ _)|exact Quiet.pure' (lB _ _ _)|exact Quiet.pure' (jW _ _)|exact Quiet.ask (λ_=>trivial) _|assumption|refine Quiet.ite ?_ ?_|refine Quiet.bind' ?_ λ_=>?_|dsimp only|split))
def xQ(a b c d):Quiet (λ_=>True) (Op.Complex.product a b c d):=by
 unfold Op.Complex.product Op.Complex.sub Op.Complex.mul Op.Complex.add
 (repeat' (with_reducible first|exact Quiet.stuck _|exact Quiet.pure' trivial|exact Quiet.pure' (pQ _)|exact Quiet.pure' (lB _ _ _)|exact nL _ _ _ _|exact sQ _ _ _ _|exact vJ _ _ _|refine Quiet.ite ?_ ?_|refine Quiet.bind' ?_ λ_=>?_|dsimp only|split))
def uu(s a b c d):Quiet (λ_=>True) (Op.Complex.corrected s a b c d):=by
 unfold Op.Complex.corrected Op.Complex.sub Op.Complex.mul Op.Complex.add
 (repeat' (with_reducible first|exact Quiet.stuck _|exact Quiet.pure' trivial|exact Quiet.pure' (pQ _)|exact Quiet.pure' (lB _ _ _)|exact nL _ _ _ _|exact sQ _ _ _ _|exact vJ _ _ _|refine Quiet.ite ?_ ?_|refine Quiet.bind' ?_ λ_=>?_|dsimp only|split))
def vL(a b c d):Quiet (λ_=>True) (Op.Complex.quotient a b c d):=by unfold Op.Complex.quotient Op.Complex.sub Op.Complex.mul Op.Complex.add Op.Complex.quo;repeat' (with_reducible first|exact uu _ _ _ _ _|exact nL _ _ _ _|exact sQ _ _ _ _|exact Quiet.pure' trivial|refine Quiet.ite ?_ ?_|refine Quiet.bind' ?_ λ_=>?_|dsimp only|split)
def uv(e k a b c d):Quiet Plain (Op.complexOp e k a b c d):=by unfold Op.complexOp;split<;>repeat' (with_reducible first|exact xQ _ _ _ _|exact vL _ _ _ _|exact Quiet.stuck _|exact nL _ _ _ _|exact sQ _ _ _ _|exact vJ _ _ _|exact Quiet.pure' trivial|exact Quiet.pure' (pQ _)|exact Quiet.pure' (lB _ _ _)|refine Quiet.ite ?_ ?_|refine Quiet.bind' ?_ λ_=>?_|dsimp only|split)
def mJ(s a b d):Quiet Plain (Conv.complexToComplex s a b d):=by
 unfold Conv.complexToComplex;refine Quiet.bind' (eE _ _ _).true λ_=>?_;split
 ·refine Quiet.bind' (eE _ _ _).true λ_=>?_
  (repeat' (with_reducible first|exact Quiet.stuck _|exact Quiet.unsupported _ (by with_unfolding_all exact True.intro)|exact Quiet.pure' trivial|exact Quiet.pure' (Cy _ _)|exact Quiet.pure' (pQ _)|exact Quiet.pure' (lB _ _ _)|exact Quiet.pure' (jW _ _)|exact Quiet.ask (λ_=>trivial) _|assumption|refine Quiet.ite ?_ ?_|refine Quiet.bind' ?_ λ_=>?_|dsimp only|split))
 ·(repeat' (with_reducible first|exact Quiet.stuck _|exact Quiet.unsupported _ (by with_unfolding_all exact True.intro)|exact Quiet.pure' trivial|exact Quiet.pure' (Cy _ _)|exact Quiet.pure' (pQ _)|exact Quiet.pure' (lB _ _ _)|exact Quiet.pure' (jW _ _)|exact Quiet.ask (λ_=>trivial) _|assumption|refine Quiet.ite ?_ ?_|refine Quiet.bind' ?_ λ_=>?_|dsimp only|split))
section
variable {S:Kn} {P:Program} {fs:Array Func} {π:Ren P.globals.size}
def Quiet.sr{s}(h:Quiet Plain s):(SR S (ah P fs) P) VQ π s s:=by
 induction h with
 |pure h=>exact .pure (h _ _)
 |choose q a _ b=>exact .choose (λf c h=>absurd h (JB a f c)) b
 |halt h d=>exact .never (.halt h d)
def uw(P fs):∀(d) (t) (off),cellOfByte (ah P fs) d t off=cellOfByte P d t off:=by
 intro d;induction d with
 |zero=>exactλ_ _=>rfl
 |succ d a=>intro t off;unfold cellOfByte;simp only[a];rfl
def lW(P fs d e n a b):cellAtBytes (ah P fs) d e n a b=cellAtBytes P d e n a b:=by unfold cellAtBytes;simp only[uw,fU];rfl
def jP(a1 t){x X y Y}(j:az π x X)(d:az π y Y):(SR S (ah P fs) P) (λπ v V=>az π v V/\∃a A,v=.pointer (some a)/\V=.pointer (some A)) π (Builtin.unsafeAdd_ a1 t #[x,y]) (Builtin.unsafeAdd_ a1 t #[X,Y]):=by
 have go:∀(π:Ren P.globals.size) {p Q:Option Addr} (i:dO (aP π) p Q) {y Y:Value},az π y Y->(SR S (ah P fs) P) (λπ v V=>az π v V/\∃a A,v=.pointer (some a)/\V=.pointer (some A)) π (Builtin.unsafeAdd_ a1 t #[.pointer p,y]) (Builtin.unsafeAdd_ a1 t #[.pointer Q,Y]):=by
  intro π p Q i y Y d;unfold Builtin.unsafeAdd_;refine(jd d).bind ?_;rintro k l n _ rfl;have c:=i.mono λ_ _ x=>aP.mono l x;simp only[];split
  ·cases c with
   |none=>exact aE
   | @some a A b=>
    simp only[];cases b with
    |mk b=>
     refine(oG b).bind ?_;intro e f u v g;simp only[kJ g];split
     ·exact aE
     ·exact ai ⟨.ptr (.mk (f _ _ b)),_,_,rfl,rfl⟩
  ·split
   ·exact aE
   ·cases c with
    |none=>exact aE
    | @some a A b=>
     simp only[];cases b with
     |mk b=>
      refine(eL b).bind ?_;rintro e f sh _ rfl;split
      ·refine b9.bind ?_
       rintro m o _ _ ⟨rfl,rfl⟩;simp only[lW];rw[show(ah P fs).depth=P.depth from rfl,show ∀t,(ah P fs).cellsOf t=P.cellsOf t fromλ_=>rfl];split
       ·exact ai ⟨.ptr (.mk (o _ _ (f _ _ b))),_,_,rfl,rfl⟩
       ·exact aE
      ·exact aE
 cases j with
 |G3=>exact go π .none d
 |ptr h=>exact go π (.some h) d
 |_=>exact aq
def tJ{a A}(h:aP π a A)(b):(SR S (ah P fs) P) VQ π (asNumber a b) (asNumber A b):=by unfold asNumber;refine(gL (.number b h)).bind ?_;intro c l r R d;exact ai (.ptr (.mk d))
def nM(a1 t y):dJ (Builtin.unsafeAdd_ a1 t #[.tuple #[],y]):=by unfold Builtin.unsafeAdd_;exact dk _
def lC(t y):dJ (Op.equal t (.tuple #[]) y):=by unfold Op.equal Op.maxDepth Op.equalIn;refine bz (da t) λd=>?_;cases d<;>cases y<;>first|exact dk _|(refine bF _ ?_;exact True.intro)|(rename_i a;cases a<;>first|exact dk _|(refine bF _ ?_;exact True.intro))|(rename_i a _ _;cases a<;>exact dk _)
def lD(t x):dJ (Op.equal t x (.tuple #[])):=by unfold Op.equal Op.maxDepth Op.equalIn;refine bz (da t) λd=>?_;cases d<;>cases x<;>first|exact dk _|(refine bF _ ?_;exact True.intro)|(rename_i a;cases a<;>first|exact dk _|(refine bF _ ?_;exact True.intro))|(rename_i a _ _;cases a<;>exact dk _)
def km(t){x X y Y}(c:az π x X)(e:az π y Y):(SR S (ah P fs) P) VQ π (movedNumber t x y) (movedNumber t X Y):=by
 unfold movedNumber;refine(aD t).bind ?_;rintro k g d _ ⟨rfl,_⟩;have c:=c.mono g;have e:=e.mono g;simp only[];split
 ·exact .never (aA (.halt _))
 ·have f:=c
  cases c with
  |ptr h=>
   simp only[];refine(fY h).bind ?_;rintro l m ⟨a,b⟩ ⟨A,B⟩ ⟨i,j⟩;simp only[]at i j⊢;subst j;refine(jP _ _ (.ptr i) (e.mono m)).bind ?_;rintro n q v V ⟨o,r,s,e1,p⟩;subst e1 p;cases o with
   |ptr h=>exact tJ h _
  |lL V a=>exact .never (show dJ (Builtin.unsafeAdd_ #[] t #[.tuple #[],y])from nM _ _ _)
  |_=>exact(jP #[] t f e).mono λ_ _ _ _ h=>h.1
def ux(t){x X y Y}(d:az π x X)(e:az π y Y):(SR S (ah P fs) P) VQ π (movedPointer t x y) (movedPointer t X Y):=by
 unfold movedPointer;have b:=d;cases d with
 |ptr h=>
  cases h with
  |mk h=>
   simp only[];refine(tF h).bind ?_;intro g f u v c;rw[kJ c];split
   ·exact aE
   ·exact(jP _ _ (.ptr (.mk (f _ _ h))) (e.mono f)).mono λ_ _ _ _ h=>h.1
 |lL V a=>exact .never (nM _ _ _)
 |_=>exact(jP _ _ b e).mono λ_ _ _ _ h=>h.1
def qZ{a A b B}(c:aP π a A)(d:aP π b B):(SR S (ah P fs) P) EqQ π (Op.twoPlaces a b) (Op.twoPlaces A B):=by
 unfold Op.twoPlaces;have e1:=(c.eq d).1;have f:(a.block>=P.globals.size)=(A.block>=P.globals.size):=by
  cases c with
  |mk h=>have:=π.dB _ _ h;simp only[ge_iff_le,eq_iff_iff];omega
 refine b9.bind ?_;rintro g e _ _ ⟨rfl,rfl⟩;simp only[show(ah P fs).globals=P.globals from rfl,bne,e1,f];split
 ·exact aE
 ·refine(iE (c.mono e)).bind ?_
  rintro i j n _ rfl;refine(iE ((d.mono e).mono j)).bind ?_;rintro k l m _ rfl;exact ai rfl
def E1(k){a A b B}(c:aP π a A)(d:aP π b B):(SR S (ah P fs) P) VQ π (Op.addrSub k a b) (Op.addrSub k A B):=by unfold Op.addrSub;refine(qZ c d).bind ?_;rintro e f ⟨x,y⟩ _ rfl;exact ai (.int _ _)
def mK(c){a A b B}(d:aP π a A)(e:aP π b B):(SR S (ah P fs) P) VQ π (Op.addrCmp c a b) (Op.addrCmp c A B):=by unfold Op.addrCmp;refine(qZ d e).bind ?_;rintro f g ⟨x,y⟩ _ rfl;cases c<;>first|exact ai (.bool _)|exact aE
def pW(k){a A}(b:aP π a A)(n):(SR S (ah P fs) P) VQ π (Op.addrMod k a n) (Op.addrMod k A n):=by
 unfold Op.addrMod;cases b with
 |mk h=>
 refine(eL h).bind ?_;rintro c d sh _ rfl;split
 ·refine(dj _).bind ?_
  rintro e f i _ ⟨rfl,_⟩;simp only[];split
  ·exact .never (aA (.halt _))
  ·refine(iE (.mk (f _ _ (d _ _ h)))).bind ?_
   rintro g j m _ rfl;exact ai (.int _ _)
 ·exact aE
def Cz(t){x X y Y}(a:az π x X)(c:az π y Y):(SR S (ah P fs) P) VQ π (do pure (.bool (!(<-Op.equal t x y)))) (do pure (.bool (!(<-Op.equal t X Y)))):=by refine(vq t a c).bind ?_;rintro d e b _ rfl;exact ai (.bool _)
def E2(t){x X y Y}(a:az π x X)(c:az π y Y):(SR S (ah P fs) P) VQ π (do pure (.bool (<-Op.equal t x y))) (do pure (.bool (<-Op.equal t X Y))):=by refine(vq t a c).bind ?_;rintro d e b _ rfl;exact ai (.bool _)
def di{d e Q a A}(h:aP π a A){f:Addr->Sem d}{F:Addr->Sem e}(g:∀c,Ren.le π c->∀b B,aP c b B->(SR S (ah P fs) P) Q c (f b) (F B)):
 (SR S (ah P fs) P) Q π (do f (<-behindNumber a).1) (do F (<-behindNumber A).1):=by
 refine(fY h).bind ?_;rintro i j ⟨a,b⟩ ⟨A,B⟩ ⟨k,l⟩;exact g _ j _ _ k
def vM(t:TypeId){x X y Y:Value}(b:az π x X)(c:az π y Y):(SR S (ah P fs) P) VQ π (do if(<-underlying t) matches .unsafePointer then movedPointer t x y else movedNumber t x y) (do if(<-underlying t) matches .unsafePointer then movedPointer t X Y else movedNumber t X Y):=by
 refine(aD t).bind ?_;rintro d l a _ ⟨rfl,_⟩;split
 ·exact ux t (b.mono l) (c.mono l)
 ·exact km t (b.mono l) (c.mono l)
def Calm.ite{c}[Decidable c]{s t}(h:Calm s)(a:Calm t):Calm (if c then s else t):=by split<;>assumption
def cg{b d Q c}[Decidable c]{s t:Sem b}{s' a:Sem d}(h:(SR S (ah P fs) P) Q π s s')(e:(SR S (ah P fs) P) Q π t a):(SR S (ah P fs) P) Q π (if c then s else t) (if c then s' else a):=by split<;>assumption
def Km(o t){x X y Y}(a:az π x X)(d:az π y Y):(SR S (ah P fs) P) VQ π (binOp o t x y) (binOp o t X Y):=by
 have i:=a;have j:=d;unfold binOp;split
 ·cases a;cases d;exact(vl _ _ _ _ _).sr
 ·cases a;cases d;exact(vl _ _ _ _ _).sr
 ·cases a;cases d
  rename_i u v;cases o<;>first
   |exact(u rfl).elim
   |exact(v rfl).elim
   |exact cg aq (pa _ _ _ _).sr
   |exact cg aq (BS _ _ _ _).sr
   |exact cg aq (qM _ _ _ _).sr
   |exact cg aq (BR _ _ _).sr
 ·cases a;cases d
  cases o<;>first
   |exact cg aq (lV _ _ _ _).sr
   |exact cg aq (nK _ _ _ _).sr
 ·cases a;cases d
  cases o<;>exact cg aq (uv _ _ _ _ _ _).sr
 ·cases a;cases d
  cases o<;>exact(pb _ _ _).sr
 ·rename_i p q r s
  cases a<;>cases d<;>first|exact E2 t i j|exact .never (aA (lC _ _))|exact .never (aA (lD _ _))|exact(p _ _ _ _ rfl rfl).elim|exact(q _ _ _ _ rfl rfl).elim|exact(r _ _ _ _ _ _ rfl rfl).elim|exact(s _ _ rfl rfl).elim
 ·rename_i p q r s
  cases a<;>cases d<;>first|exact Cz t i j|exact .never (aA (lC _ _))|exact .never (aA (lD _ _))|exact(p _ _ _ _ rfl rfl).elim|exact(q _ _ _ _ rfl rfl).elim|exact(r _ _ _ _ _ _ rfl rfl).elim|exact(s _ _ rfl rfl).elim
 ·cases d;cases a<;>exact vM t i j
 ·cases a;cases d<;>exact km t j i
 ·cases d;cases a<;>exact km t i (.int _ _)
 ·cases a with|ptr e=>cases d with|ptr k=>exact di e λf h b B g=>di (k.mono h) λl m c C n=>E1 _ (g.mono m) n
 ·cases a with|ptr e=>cases d with|ptr k=>exact di e λf h b B g=>di (k.mono h) λl m c C n=>mK _ (g.mono m) n
 ·cases a with|ptr e=>cases d with|ptr k=>exact di e λf h b B g=>di (k.mono h) λl m c C n=>mK _ (g.mono m) n
 ·cases a with|ptr e=>cases d with|ptr k=>exact di e λf h b B g=>di (k.mono h) λl m c C n=>mK _ (g.mono m) n
 ·cases a with|ptr e=>cases d with|ptr k=>exact di e λf h b B g=>di (k.mono h) λl m c C n=>mK _ (g.mono m) n
 ·cases a with|ptr e=>cases d with|int=>exact di e λf h b B g=>pW _ g _
 ·cases a with|ptr e=>cases d with|int=>exact di e λf h b B g=>pW _ g _
 ·cases d with|ptr e=>cases a with|int=>exact di e λf h b B g=>pW _ g _
 ·exact aE
 ·exact aE
 ·exact aq
def vN(h:BinOp)(t c)(d:gl (.unsupported c)){a A b B}(e:az π a A)(f:az π b B):(SR S (ah P fs) P) EqQ π (do if <-Op.eqGuardIn Op.maxDepth t a b then unsupported c) (do if <-Op.eqGuardIn Op.maxDepth t A B then unsupported c):=by
 refine(zU _ t e f).bind ?_;rintro g i x _ rfl;split
 ·exact aE d
 ·exact ai rfl
def E3(e t x y){a A b B}(f:az π a A)(g:az π b B):(SR S (ah P fs) P) EqQ π (eqGuard e t x y a b) (eqGuard e t x y A B):=by
 have c:=f;have d:=g;unfold eqGuard;refine cg (ai rfl) ?_;split
 ·cases f;cases g
  exact cg (ai rfl) (vN e t _ (by exact True.intro) c d)
 ·cases f;cases g
  simp only[];refine b9.bind ?_;rintro j h _ _ ⟨rfl,rfl⟩;refine b9.bind ?_;rintro k i _ _ ⟨rfl,rfl⟩;rw[lT,show(ah P fs).depth=P.depth from rfl];split
  ·exact ai rfl
  ·exact vN e t _ (by exact True.intro) ((c.mono h).mono i) ((d.mono h).mono i)
 ·rename_i l m
  cases f with
  |lL _ a=>cases A<;>first|(simp[dU]at a;done)|exact ai rfl
  |_=>
   cases g with
   |lL _ a=>cases B<;>first|(simp[dU]at a;done)|exact ai rfl
   |_=>first|exact ai rfl|exact(l rfl rfl).elim|exact(m _ _ rfl rfl).elim
end
section
variable {S:Kn} {P:Program} {fs:Array Func} {π:Ren P.globals.size}
def fe{G}{ρ:Ren G}{c}(h:bf c):VsR ρ c c:=h.refl ρ
def pn(b:Array UInt8):bf (b.map λb=>Value.int .u8 b.toNat):=λi v h=>by
 rw[Sp]at h;cases a:b[i]? with
 |none=>rw[a]at h;cases h
 |some x=>rw[a]at h;cases h;exact jW _ _
def ie(n){v}(h:Plain v):bf (Array.replicate n v):=λi x a=>by rw[UL]at a;split at a<;>cases a;exact h
def bf.append{a b}(h:bf a)(d:bf b):bf (a++b):=λi x c=>by
 rw[TJ]at c;split at c
 ·exact h _ _ c
 ·exact d _ _ c
def bf.push{a}(h:bf a){v}(c:Plain v):bf (a.push v):=λi x b=>by
 rw[SD]at b;split at b
 ·cases b;exact c
 ·exact h _ _ b
def yM{a A}(h:aP π a A)(n):(SR S (ah P fs) P) EqQ π (freeze a n) (freeze A n):=.freeze h (.pure rfl)
def lX{a A}(h:aP π a A):(SR S (ah P fs) P) EqQ π (markStringish a) (markStringish A):=by
 unfold markStringish;cases h with
 |mk h=>
 refine(eL h).bind ?_;rintro b c sh _ rfl;split
 ·exact yM (.mk (c _ _ h)) 1
 ·exact ai rfl
def sR(e s):(SR S (ah P fs) P) VQ π (Conv.stringToBytes e s) (Conv.stringToBytes e s):=by unfold Conv.stringToBytes;refine(en _).bind ?_;rintro c h n _ rfl;refine(iD e (fe ((pn _).append (ie _ (jW _ _))))).bind ?_;intro d i a A b;refine(lX b).bind ?_;intro f g _ _ _;exact ai (.slice _ _ (b.mono g))
def xR(s):∀(b i) (acc),bf acc->bf (Conv.runesFrom s b i acc):=by
 intro b;induction b with
 |zero=>intro i acc h;exact h
 |succ b a=>
  intro i acc h;unfold Conv.runesFrom;split
  ·exact a _ _ (h.push (jW _ _))
  ·exact h
def sS(e s):(SR S (ah P fs) P) VQ π (Conv.stringToRunes e s) (Conv.stringToRunes e s):=by unfold Conv.stringToRunes;refine(en _).bind ?_;rintro b f n _ rfl;refine(iD e (fe ((xR _ _ _ _ .empty).append (ie _ (jW _ _))))).bind ?_;intro c g a A d;exact ai (.slice _ _ d)
def yN{σ l L f F}(h:∀(a),Ren.le π a->∀v V s,az a v V->(SR S (ah P fs) P) EqQ a (f v s) (F V s))(e:bg (az π) l L):∀{a} (_:Ren.le π a) (s:σ),(SR S (ah P fs) P) EqQ a (forIn l s f) (forIn L s F):=by
 induction e with
 |nil=>intro a b s;simp only[List.forIn_nil];exact ai rfl
 |cons g _ i=>
  intro a b s;simp only[UN];refine(h a b _ _ s (g.mono b)).bind ?_;rintro d c x _ rfl;cases x with
  |done=>exact ai rfl
  |yield s=>exact i (Ren.le_trans b c) s
def sT{x X}(h:az π x X):(SR S (ah P fs) P) VQ π (Conv.bytesToString x) (Conv.bytesToString X):=by
 unfold Conv.bytesToString;cases h with
 |js=>exact ai (.string _)
 |slice n c h=>
  simp only[];refine(jK h n).bind ?_;intro a g i j e;simp only[<-Ti];refine(yN (π:=a) ?_ e.toList (Ren.le_refl _) _).bind ?_
  ·intro b f v V s d
   cases d with
   |int k n=>cases k<;>first|exact ai rfl|exact .never (aA (.halt _))|exact aq
   |_=>exact aq
  ·rintro b f s _ rfl
   exact ai (.string _)
 |_=>exact aq
def sU{x X}(h:az π x X):(SR S (ah P fs) P) VQ π (Conv.runesToString x) (Conv.runesToString X):=by
 unfold Conv.runesToString;cases h with
 |js=>exact ai (.string _)
 |slice n c h=>
  simp only[];refine(jK h n).bind ?_;intro a g i j e;simp only[<-Ti];refine(yN (π:=a) ?_ e.toList (Ren.le_refl _) _).bind ?_
  ·intro b f v V s d
   cases d with
   |int k n=>cases k<;>first|exact ai rfl|exact .never (aA (.halt _))|exact aq
   |_=>exact aq
  ·rintro b f s _ rfl
   exact ai (.string _)
 |_=>exact aq
def yO{a A}(h:aP π a A):(SR S (ah P fs) P) AQ π (Conv.seenAt a) (Conv.seenAt A):=by
 unfold Conv.seenAt;have i:=h;have e1:a.spot=A.spot/\a.off=A.off:=by cases h;exact⟨rfl,rfl⟩
 simp only[e1.1,e1.2];cases h with
 |mk h=>
 refine(oG h).bind ?_;intro j k x y c;cases c with
 |none=>exact ai (i.mono k)
 | @some u v d=>
  obtain⟨s,t⟩:=u;obtain⟨s',o⟩:=v;obtain⟨b,e⟩:=d;simp only[]at b e⊢;subst e;split
  ·exact ai b
  ·have f:s.spot=s'.spot/\s.off=s'.off:=by cases b;exact⟨rfl,rfl⟩
   simp only[f.1,f.2];split
   ·exact .never (aA (.halt _))
   ·refine b9.bind ?_
    rintro l g _ _ ⟨rfl,rfl⟩;simp only[fU,lW,show(ah P fs).depth=P.depth from rfl,show ∀t,(ah P fs).cellsOf t=P.cellsOf t fromλ_=>rfl];split
    ·cases b with
     |mk b=>
     refine(eL (g _ _ b)).bind ?_;rintro m n sh _ rfl;split
     ·split
      ·exact .never (aA (.halt _))
      ·split
       ·exact ai (.mk (n _ _ (g _ _ b)))
       ·exact aE
     ·exact aE
    ·exact aE
def E4{r R}(h:π r R):(SR S (ah P fs) P) EqQ π (cellsIn r) (cellsIn R):=by
 unfold cellsIn;refine(eL h).bind ?_;rintro a b sh _ rfl;split
 ·exact ai rfl
 ·refine(cE (b _ _ h)).bind ?_
  intro c e o O d;cases d<;>exact ai rfl
def uy(P fs):∀(n) (t u),sameLayout (ah P fs) n t u=sameLayout P n t u:=by
 intro n;induction n with
 |zero=>exactλ_ _=>rfl
 |succ n a=>intro t u;unfold sameLayout;simp only[a,ep];rfl
def E5(P fs g):∀(d) (e) (c o n),rowAt (ah P fs) g d e c o n=rowAt P g d e c o n:=by
 intro d;induction d with
 |zero=>exactλ_ _ _ _=>rfl
 |succ d a=>intro e c o n;unfold rowAt;simp only[a,ep];rfl
def CB(P fs):∀(d) (e) (c o) (u) (n),liesAt (ah P fs) d e c o u n=liesAt P d e c o u n:=by
 intro d;induction d with
 |zero=>exactλ_ _ _ _ _=>rfl
 |succ d a=>intro e c o u n;unfold liesAt;simp only[a,E5,uy];rfl
def nN{a A}(h:aP π a A)(u n):(SR S (ah P fs) P) EqQ π (variablesAt a u n) (variablesAt A u n):=by
 unfold variablesAt;cases h with
 |mk h=>
 refine b9.bind ?_;rintro b c _ _ ⟨rfl,rfl⟩;refine(eL (c _ _ h)).bind ?_;rintro d e sh _ rfl;simp only[CB,show(ah P fs).depth=P.depth from rfl,show ∀t,(ah P fs).cellsOf t=P.cellsOf t fromλ_=>rfl];split<;>exact ai rfl
def rf(P fs):∀(d) (t),(ah P fs).holdsStoodIn d t=P.holdsStoodIn d t:=by
 intro d;induction d with
 |zero=>exactλ_=>rfl
 |succ d a=>intro t;unfold Program.holdsStoodIn;simp only[a,ep];rfl
def pX{a A}(h:aP π a A)(u):(SR S (ah P fs) P) VQ π (do pure (.pointer (some ⟨<-newObj (.view a u),0,none⟩))) (do pure (.pointer (some ⟨<-newObj (.view A u),0,none⟩))):=by refine(gL (.view u h)).bind ?_;intro b d r R c;exact ai (.ptr (.mk c))
def fF(f g){x X}(e:az π x X):(SR S (ah P fs) P) VQ π (Conv.unsafePointer f g x) (Conv.unsafePointer f g X):=by
 unfold Conv.unsafePointer;refine(aD f).bind ?_;rintro v w s _ ⟨rfl,_⟩;refine(aD g).bind ?_;rintro y z d _ ⟨rfl,_⟩;have e:=(e.mono w).mono z;have h:=e;split
 ·cases e;exact ai h
 ·cases e with
  |ptr l=>
   refine(yO l).bind ?_;intro o A b B a;have m:=a;cases a with
   |mk a=>
   refine(E4 a).bind ?_;rintro p i c _ rfl;refine(bG _).bind ?_;rintro r k n _ rfl;have j:=λu=>pX (S:=S) (fs:=fs) ((m.mono i).mono k) u;split<;>exact cg (j _) (ai (.ptr ((m.mono i).mono k)))
 ·cases e;exact ai h
 ·cases e with
  |ptr l=>
   refine(yO l).bind ?_;intro o A b B a;refine(bG _).bind ?_;rintro p i n _ rfl;simp only[];refine(nN (a.mono i) _ 1).bind ?_;rintro r k q _ rfl;refine cg (ai (.ptr ((a.mono i).mono k))) ?_;have t:=(a.mono i).mono k;cases a with
   |mk a=>
   refine(eL (k _ _ (i _ _ a))).bind ?_;rintro C D sh _ rfl;split
   ·refine b9.bind ?_
    rintro E F _ _ ⟨rfl,rfl⟩;refine b9.bind ?_;rintro G H _ _ ⟨rfl,rfl⟩;rw[rf,show(ah P fs).depth=P.depth from rfl];split
    ·exact .never (aA (.halt _))
    ·exact pX (((t.mono D).mono F).mono H) _
   ·exact .never (aA (.halt _))
 ·cases e<;>exact ai h
 ·cases e;exact ai (.int _ _)
 ·cases e with|ptr l=>exact tJ l _
 ·exact aE
 ·exact aE
 ·exact aE
 ·exact aq
end
end Go.Tm

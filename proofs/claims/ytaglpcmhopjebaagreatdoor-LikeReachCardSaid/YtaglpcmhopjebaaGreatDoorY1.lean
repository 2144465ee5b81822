import Derived.ProofKit
import Derived.Test.YtaglpcmhopjebaaGreatDoorY0
set_option linter.all false
set_option maxRecDepth 100000
set_option maxHeartbeats 20000000
namespace Go.Tm
section
variable {S:Kn} {P:Program} {fs:Array Func} {G:Nat} {π:Ren P.globals.size} {ρ:Ren G}
def Calm(s:Sem Zj):Prop:=dT s\/∃v,Plain v/\s=pure v
def Calm.sr{s}(h:Calm s):(SR S (ah P fs) P) VQ π s s:=by obtain h|⟨v,a,rfl⟩:=h;exact .never h;exact ai (a _ π)
def Calm.int(k n):Calm (pure (.int k n)):=.inr ⟨_,λ_ _=>.int k n,rfl⟩
def Calm.bool(b):Calm (pure (.bool b)):=.inr ⟨_,λ_ _=>.bool b,rfl⟩
def Calm.string(s):Calm (pure (.string s)):=.inr ⟨_,λ_ _=>.string s,rfl⟩
def Calm.stuck(s):Calm (stuck s):=.inl (.halt _)
def Calm.unsupported(s:Unsupported)(a:gO (.unsupported s):=by exact True.intro):Calm (unsupported s):=.inl (.halt _ a)
def qw(a k x y):Calm (Op.intArith a k x y):=by cases a<;>first|exact .int _ _|exact .stuck _
def Ee(a x y):Calm (Op.intCmp a x y):=by cases a<;>first|exact .bool _|exact .stuck _
def Ef(a k x y):Calm (Op.intDiv a k x y):=by unfold Op.intDiv;split;exact .inl (aE _);cases a<;>first|exact .int _ _|exact .stuck _
def rZ(a k x y):Calm (Op.intBits a k x y):=by unfold Op.intBits;cases a<;>first|exact .int _ _|exact .stuck _
def xq(a k x b y):Calm (Op.shift a k x b y):=by unfold Op.shift;split;exact .inl (aE _);cases a<;>first|exact .int _ _|exact .stuck _
def qx(a x y):Calm (Op.stringOp a x y):=by unfold Op.stringOp;cases a<;>simp only[]<;>first|exact .bool _|exact .stuck _|(split<;>first|exact .string _|exact .unsupported _)
def MS{x X}(a)(h:aw π x X):(SR S (ah P fs) P) VQ π (Op.unary a x) (Op.unary a X):=by
 cases h<;>cases a<;>first
  |exact aj
  |exact aD
  |exact(qw _ _ _ _).sr
  |exact(rZ _ _ _ _).sr
  |exact ai (aw.int _ _)
  |exact ai (.bool _)
  |exact ai (.float _ _)
  |exact ai (.complex _ _ _)
def MT{d σ τ:Type}{T:Ren P.globals.size->σ->τ->Prop}(mono:∀π c a b,Ren.le π c->T π a b->T c a b)(l:List d)(f:d->σ->Sem (ForInStep σ))(g:d->τ->Sem (ForInStep τ)) (h:∀(π:Ren P.globals.size) a s t,T π s t->(SR S (ah P fs) P) (λc x y=>(∃u v,x=.yield u/\y=.yield v/\T c u v)\/(∃u v,x=.done u/\y=.done v/\T c u v)) π (f a s) (g a t)):∀(π:Ren P.globals.size) (s:σ) (t:τ),T π s t->(SR S (ah P fs) P) T π (forIn l s f) (forIn l t g):=by induction l with|nil=>intro π s t e;simp only[List.forIn_nil];exact ai e|cons a l j=>intro π s t e;simp only[Yh];refine(h π a s t e).bind ?_;rintro c k x y (⟨u,v,rfl,rfl,i⟩|⟨u,v,rfl,rfl,i⟩);exact j c u v i;exact ai i
def pR{a A}(h:aS π a A):(SR S (ah P fs) P) (λ_ b B=>B=true->b=true) π (frozen a) (frozen A):=.frozen h λ_ _ x=>.pure x
def se{a A}(h:aS π a A):(SR S (ah P fs) P) (λ_ b B=>B=true->b=true) π (stringish a) (stringish A):=by unfold stringish;cases h with| @mk r s o p h=>(have key:∀c,Ren.le π c->(SR S (ah P fs) P) (λ_ b B=>B=true->b=true) c (do match <-shape r with|some (_,n)=>frozen {block:=r,off:=n}|none=>pure false:Sem Bool) (do match <-shape s with|some (_,n)=>frozen {block:=s,off:=n}|none=>pure false):=by intro c l;refine(fu (l _ _ h)).bind ?_;rintro e f x _ rfl;split;exact pR (.mk (f _ _ (l _ _ h)));exact ai (by simp));refine(pR (.mk h)).bind ?_;intro c l b B g;have d:=key c l;cases b<;>cases B<;>simp only[U7,U5,UW];exact d;simp at g;refine .tH λx=>?_;(cases x with|none=>exact ai (by simp)|some y=>exact .pP λz=>ai (by simp));exact ai (by simp)
def xt{r s:Nat}(h:π r s):(SR S (ah P fs) P) EqQ π (do pure ((<-shape r) matches some (_,0)):Sem Bool) (do pure ((<-shape s) matches some (_,0))):=by refine(fu h).bind ?_;rintro a b x _ rfl;exact ai rfl
def Eg{a A b B}(d:aS π a A)(e:aS π b B):(SR S (ah P fs) P) (λ_ m M=>M=true->m=true) π (mayBeOne a b) (mayBeOne A B):=by unfold mayBeOne;refine(se d).bind ?_;intro g c i j k;refine(se (e.mono c)).bind ?_;intro l f sb n hsb;refine SR.bind (R1:=EqQ) ?_ ?_;(cases d with|mk h=>exact xt (f _ _ (c _ _ h)));rintro o p r _ rfl;refine SR.bind (R1:=EqQ) ?_ ?_;(cases e with|mk h=>exact xt (p _ _ (f _ _ (c _ _ h))));rintro q s t _ rfl;refine ai ?_;cases i<;>cases j<;>cases sb<;>cases n<;>simp_all
def aS.eq{a A b B}(d:aS ρ a A)(f:aS ρ b B):(a.block==b.block)=(A.block==B.block)/\(a==b)=(A==B):=by cases d with| @mk r s o p h=>cases f with| @mk g s' o' i c=>(have e:r=g↔s=s':=⟨λe=>by subst e;exact ρ.fn _ _ _ h c,λe=>by subst e;exact ρ.inj _ _ _ h c⟩);constructor;rw[VY];simp[e];rw[VY];simp[e]
def uR{a A b B}(c:aS π a A)(d:aS π b B):(SR S (ah P fs) P) EqQ π (sameAddr a b) (sameAddr A B):=by
 unfold sameAddr;rw[(c.eq d).1,(c.eq d).2];split;exact ai rfl;refine(pR c).bind ?_;intro o g p v i;refine(pR (d.mono g)).bind ?_;intro q k fb w hfb;by_cases e:(p&&fb)=true;rw[UH e];exact .never (aB (bK _))
 rw[UG e,UG (by simp only[UT]at e⊢;exactλh=>e ⟨i h.1,hfb h.2⟩)];have c:=(c.mono g).mono k;have d:=(d.mono g).mono k;refine(tU c).bind ?_;intro r j _ _ _;refine(tU (d.mono j)).bind ?_;intro s l _ _ _;refine(Eg ((c.mono j).mono l) ((d.mono j).mono l)).bind ?_;intro t x m M y;cases m with
 |false=>(have:M=false:=by cases M<;>simp_all);subst this;exact ai rfl
 |true=>cases M with|true=>refine(eK _).bind ?_;rintro u z n _ rfl;exact ai rfl|false=>refine .nA 0 (n:=0) (λf C h=>by cases h) ?_ ?_;rfl;exact ai rfl
def xu{a A b B}(c:dP (aS π) a A)(d:dP (aS π) b B):(SR S (ah P fs) P) EqQ π (samePointer a b) (samePointer A B):=by cases c<;>cases d<;>first|exact ai rfl|exact uR (by assumption) (by assumption)
abbrev NmR{G}(π:Ren G):Addr×Bool->Addr×Bool->Prop:=λx y=>aS π x.1 y.1/\x.2=y.2
def uS{r d}(h:π r d):(SR S (ah P fs) P) (λc a b=>dP (NmR c) a b) π (numberAt r) (numberAt d):=by unfold numberAt;refine(fu h).bind ?_;rintro c l a _ rfl;split;exact ai .none;refine(cJ (l _ _ h)).bind ?_;intro e g o O f;cases f<;>first|exact ai .none|exact ai (.some ⟨by assumption,rfl⟩)
def gI{a A}(h:aS π a A):(SR S (ah P fs) P) (λb x y=>NmR b x y) π (behindNumber a) (behindNumber A):=by unfold behindNumber;cases h with|mk h=>refine(uS h).bind ?_;intro b l x y c;cases c with|none=>exact ai ⟨.mk (l _ _ h),rfl⟩|some h=>exact ai h
def sg(P fs):∀(n) (t u),(ah P fs).alikeButTags n t u=P.alikeButTags n t u:=by intro n;induction n with|zero=>exactλ_ _=>rfl|succ n a=>intro t u;have e:=funext λt=>funext λu=>a t u;unfold Program.alikeButTags;rw[e];rfl
def xw(P fs t):(ah P fs).stoodInAs t=P.stoodInAs t:=by unfold Program.stoodInAs;simp only[sg];rfl
def eM(P fs t):(ah P fs).stoodInHeld t=P.stoodInHeld t:=by unfold Program.stoodInHeld;rw[xw];rfl
def je{e σ:Type}(l:List e){f F:e->σ->Sem (ForInStep σ)}(s)(h:∀(c),Ren.le π c->∀a s,(SR S (ah P fs) P) EqQ c (f a s) (F a s)):(SR S (ah P fs) P) EqQ π (forIn l s f) (forIn l s F):=by refine(MT (T:=λc a b=>a=b/\Ren.le π c) (λ_ _ _ _ l h=>⟨h.1,Ren.le_trans h.2 l⟩) l _ _ ?_ π _ _ ⟨rfl,Ren.le_refl _⟩).mono λ_ _ _ _ h=>h.1;rintro c a s _ ⟨rfl,d⟩;refine(h c d a s).mono ?_;rintro i g x _ rfl;cases x with|done u=>exact .inr ⟨u,u,rfl,rfl,rfl,Ren.le_trans d g⟩|yield u=>exact .inl ⟨u,u,rfl,rfl,rfl,Ren.le_trans d g⟩
def G4(d):∀{π:Ren P.globals.size} (t) {x X y Y},aw π x X->aw π y Y->(SR S (ah P fs) P) EqQ π (Op.equalIn d t x y) (Op.equalIn d t X Y):=by
 induction d with
 |zero=>intros;exact aD
 |succ d L=>
  intro π t x X y Y M N;unfold Op.equalIn;refine(aA t).bind ?_;rintro g l2 d' _ ⟨rfl,hd⟩;clear hd;have M:=M.mono l2;have N:=N.mono l2;generalize hX:X=X' at*;split;all_goals first|exact .never (dD _)|exact .never (bK _)|skip
  all_goals cases M
  all_goals cases N
  all_goals try exact ai rfl
  all_goals try (exfalso;rename_i h;exact absurd rfl h)
  all_goals simp only[]
  all_goals try (split<;>first|exact ai rfl|exact aj)
  ·
   rename_i a b A I B J;refine(gI I).bind ?_;rintro p j ⟨a',x1⟩ ⟨A',X1⟩ ⟨c,_⟩;refine(gI (J.mono j)).bind ?_;rintro l o ⟨b',x2⟩ ⟨B',X2⟩ ⟨k,_⟩;refine cu.bind ?_;rintro q D _ _ ⟨rfl,rfl⟩;have c:=(c.mono o).mono D;have k:=k.mono D;simp only[]at c k⊢;have e1:=(c.eq k).1;have e2:=(c.eq k).2;have e3:decide (a'.block<(ah P fs).globals.size)=decide (A'.block<P.globals.size):=by
    cases c with
    |mk h=>exact decide_eq_decide.2 (q.dF _ _ h)
   rw[e1,e3];split
   .refine(jd c).bind ?_
    rintro w E n _ rfl;refine(jd (k.mono E)).bind ?_;rintro F l7 m _ rfl;exact ai rfl
   .refine(dC t).bind ?_
    rintro w E i _ ⟨rfl,_⟩;rw[e2];split
    .split
     .exact ai rfl
     .exact aD
    .exact aD
  rename_i a b A I B J;refine(bJ _).bind ?_;rintro p j n _ rfl;rw[(I.eq J).2];split;exact uR (I.mono j) (J.mono j);split;exact ai rfl;refine(eK _).bind ?_;rintro l o m _ rfl;exact ai rfl;exact xu (.some (by assumption)) (.some (by assumption));rename_i r R hr r' R' H;refine ai ?_;have e:r=r'↔R=R':=⟨λe=>by subst e;exact g.fn _ _ _ hr H,λe=>by subst e;exact g.inj _ _ _ hr H⟩
  show(some r==some r')=(some R==some R');rw[VY];simp[e]
  .split;exact ai rfl;refine(dC _).bind ?_;rintro p j i _ ⟨rfl,_⟩;split
   .refine .never ?_
    repeat' (first|exact aE _|exact aB (aE _)|exact aB (bK _)|split|refine bI (by first|exact rU _|exact .choose _|exact .program|exact .pure _) λ_=>?_)
   exact L _ (by assumption|>λh=>aw.mono j h) (by assumption|>λh=>aw.mono j h)
  rename_i K xs O XS Q T YS W Z;have z:VsR g xs XS:=⟨Q,T⟩
  have C:VsR g O YS:=⟨W,Z⟩
  refine cu.bind ?_;rintro p j _ _ ⟨rfl,rfl⟩;rw[eM];split;exact .never (aB (bK _));rw[<-Wo,<-Wo];refine(je _ _ λl o f s=>?_).bind ?_;split;refine(gH _ _ (VsR.mono o (VsR.mono j z))).bind ?_;intro q D u U hu;refine(gH _ _ (VsR.mono D (VsR.mono o (VsR.mono j C)))).bind ?_;intro w E v V hv;refine(L _ (hu.mono E) hv).bind ?_;rintro F l7 b _ rfl;split<;>exact ai rfl;exact ai rfl;rintro l o s _ rfl;split<;>exact ai rfl;rename_i elem xs O XS Q T YS W Z;have z:VsR g xs XS:=⟨Q,T⟩
  have C:VsR g O YS:=⟨W,Z⟩
  refine(bJ _).bind ?_;rintro p j n _ rfl;simp only[Yi];refine(je _ _ λl o f s=>?_).bind ?_;refine(gH _ _ (VsR.mono o (VsR.mono j z))).bind ?_;intro q D u U hu;refine(gH _ _ (VsR.mono D (VsR.mono o (VsR.mono j C)))).bind ?_;intro w E v V hv;refine(L _ (hu.mono E) hv).bind ?_;rintro F l7 b _ rfl;split<;>exact ai rfl;rintro l o s _ rfl;split<;>exact ai rfl
def xx(t){x X y Y}(a:aw π x X)(b:aw π y Y):(SR S (ah P fs) P) EqQ π (Op.equal t x y) (Op.equal t X Y):=G4 _ t a b
def Cd(d):∀{π:Ren P.globals.size} (t) {x X y Y},aw π x X->aw π y Y->(SR S (ah P fs) P) EqQ π (Op.eqGuardIn d t x y) (Op.eqGuardIn d t X Y):=by
 induction d with
 |zero=>intros;exact aD
 |succ d F=>
  intro π t x X y Y j k;unfold Op.eqGuardIn;refine(aA t).bind ?_;rintro c H d' _ ⟨rfl,J⟩;clear J;have j:=j.mono H;have k:=k.mono H;cases d' with
  |interface M=>
   cases j<;>cases k<;>first
    |exact ai rfl
    |(rename_i a;cases Y<;>first|exact ai rfl|(simp[eA]at a;done))
    |(rename_i a;cases X<;>first|exact ai rfl|(simp[eA]at a;done))
    |(rename_i a b;cases X<;>first|exact ai rfl|(simp[eA]at a;done))
  |struct l=>(cases j<;>first|exact ai rfl|(rename_i a;cases X<;>first|exact ai rfl|(simp[eA]at a;done))|(cases k<;>first|exact ai rfl|(rename_i a;cases Y<;>first|exact ai rfl|(simp[eA]at a;done))|skip));(rename_i xs XS m o p YS q r;have e:VsR c xs XS:=⟨m,o⟩);(have g:VsR c p YS:=⟨q,r⟩);simp only[];rw[<-Wo,<-Wo];refine(je _ _ λh i f s=>?_).bind ?_;split;refine(gH _ _ (VsR.mono i e)).bind ?_;intro w z u U A;refine(gH _ _ (VsR.mono z (VsR.mono i g))).bind ?_;intro B C v V D;refine(F _ (A.mono C) D).bind ?_;rintro E K b _ rfl;split<;>exact ai rfl;exact ai rfl;rintro h i s _ rfl;split<;>exact ai rfl
  |array len elem=>(cases j<;>first|exact ai rfl|(rename_i a;cases X<;>first|exact ai rfl|(simp[eA]at a;done))|(cases k<;>first|exact ai rfl|(rename_i a;cases Y<;>first|exact ai rfl|(simp[eA]at a;done))|skip));(rename_i xs XS m o p YS q r;have e:VsR c xs XS:=⟨m,o⟩);(have g:VsR c p YS:=⟨q,r⟩);simp only[Yi];refine(bJ _).bind ?_;rintro L I n _ rfl;refine(je _ _ λh i f s=>?_).bind ?_;refine(gH _ _ (VsR.mono i (VsR.mono I e))).bind ?_;intro w z u U A;refine(gH _ _ (VsR.mono z (VsR.mono i (VsR.mono I g)))).bind ?_;intro B C v V D;refine(F _ (A.mono C) D).bind ?_;rintro E K b _ rfl;split<;>exact ai rfl;rintro h i s _ rfl;split<;>exact ai rfl
  |_=>cases j<;>exact ai rfl
def mY(P fs):∀(n) (t),(ah P fs).eqGuardType n t=P.eqGuardType n t:=by intro n;induction n with|zero=>exactλ_=>rfl|succ n a=>intro t;have e:=funext λt=>a t;unfold Program.eqGuardType;rw[e];rfl
end
inductive Quiet{α:Type}(Q:α->Prop):Sem α->Prop
 |pure {a}:Q a->Quiet Q (.pure a)
 |choose (q) {k}:Jo q=false->(∀n,Quiet Q (k n))->Quiet Q (.choose q k)
 |halt (h):gO h->Quiet Q (.halt h)
def Quiet.pure'{b Q a}(h:Q a):Quiet Q (Pure.pure a:Sem b):=.pure h
def Quiet.bind{c d Q Q' s}{f:c->Sem d}(h:Quiet Q s)(b:∀a,Q a->Quiet Q' (f a)):Quiet Q' (s>>= f):=by show Quiet Q' (s.bind f);induction h with|pure h=>exact b _ h|choose q e _ g=>exact .choose q e g|halt h b=>exact .halt h b
def Quiet.bind'{b c Q' s}{f:b->Sem c}(h:Quiet (λ_=>True) s)(d:∀a,Quiet Q' (f a)):Quiet Q' (s>>= f):=h.bind λa _=>d a
def Quiet.ask{Q:Nat->Prop}(h:∀n,Q n)(q:Question)(a:Jo q=false:=by with_unfolding_all rfl):Quiet Q (Go.choose q):=.choose q a λn=>.pure (h n)
def Quiet.stuck{a}{Q:a->Prop}(s):Quiet Q (Go.stuck s):=.halt _ True.intro
def Quiet.unsupported{a}{Q:a->Prop}(s)(b:gO (.unsupported s)):Quiet Q (Go.unsupported s):=.halt _ b
def Quiet.ite{a Q c}[Decidable c]{s t:Sem a}(h:Quiet Q s)(b:Quiet Q t):Quiet Q (if c then s else t):=by split<;>assumption
def EG(k b):Plain (.float k b):=λ_ _=>.float k b
def mF(k a b):Plain (.complex k a b):=λ_ _=>.complex k a b
def kP(k b):Plain (.int k b):=λ_ _=>.int k b
def nN{p:Prop}(h:p:=by repeat' (with_reducible first
 |exact Quiet.stuck _|exact Quiet.unsupported _ (by with_unfolding_all exact True.intro)|exact Quiet.pure' trivial|exact Quiet.pure' (EG _ _)|exact Quiet.pure' (rp _)|exact Quiet.pure' (mF _ _ _)|exact Quiet.pure' (kP _ _)
 |exact Quiet.ask (λ_=>trivial) _|assumption|refine Quiet.ite ?_ ?_|refine Quiet.bind' ?_ λ_=>?_|dsimp only|split)):p:=h
def Quiet.true{a Q}{s:Sem a}(h:Quiet Q s):Quiet (λ_=>True) s:=by induction h with|pure h=>exact .pure trivial|choose q b _ c=>exact .choose q b c|halt h d=>exact .halt h d
def m7(a k x y):Quiet Plain (Op.floatArith a k x y):=by unfold Op.floatArith;exact nN
def oX(a k x y):Quiet Plain (Op.floatCmp a k x y):=by unfold Op.floatCmp;exact nN
def eZ(a b c):Quiet Plain (Conv.floatToFloat a b c):=by unfold Conv.floatToFloat;exact nN
def ud(a b c):Quiet Plain (Conv.floatToInt a b c):=by unfold Conv.floatToInt;exact nN
def CB(v):Quiet (λ_=>True) (asBool v):=by unfold asBool;exact nN
def oY(a k x y):Quiet (λ_=>True) (Op.Complex.arith a k x y):=by unfold Op.Complex.arith;refine Quiet.bind' (m7 a k x y).true λ_=>?_;exact nN
def ue(a k x y):Quiet (λ_=>True) (Op.Complex.cmp a k x y):=by unfold Op.Complex.cmp;refine Quiet.bind' (oX a k x y).true λ_=>CB _
def xM(k x d):Quiet (λ_=>True) (Op.Complex.conv k x d):=by unfold Op.Complex.conv;refine Quiet.ite (Quiet.pure' trivial) ?_;refine Quiet.bind' (eZ _ _ _).true λ_=>?_;exact nN
def Jz{p:Prop}(h:p:=by repeat' (with_reducible first
 |exact Quiet.stuck _|exact Quiet.pure' trivial|exact Quiet.pure' (rp _)|exact Quiet.pure' (mF _ _ _)
 |exact oY _ _ _ _|exact ue _ _ _ _|exact xM _ _ _|refine Quiet.ite ?_ ?_|refine Quiet.bind' ?_ λ_=>?_|dsimp only|split)):p:=h
def zA(a b c d):Quiet (λ_=>True) (Op.Complex.product a b c d):=by unfold Op.Complex.product Op.Complex.sub Op.Complex.mul Op.Complex.add;exact Jz
def vV(s a b c d):Quiet (λ_=>True) (Op.Complex.corrected s a b c d):=by unfold Op.Complex.corrected Op.Complex.sub Op.Complex.mul Op.Complex.add;exact Jz
def xN(a b c d):Quiet (λ_=>True) (Op.Complex.quotient a b c d):=by unfold Op.Complex.quotient Op.Complex.sub Op.Complex.mul Op.Complex.add Op.Complex.quo;repeat' (with_reducible first|exact vV _ _ _ _ _|exact oY _ _ _ _|exact ue _ _ _ _|exact Quiet.pure' trivial|refine Quiet.ite ?_ ?_|refine Quiet.bind' ?_ λ_=>?_|dsimp only|split)
def vW(e k a b c d):Quiet Plain (Op.complexOp e k a b c d):=by unfold Op.complexOp;split<;>repeat' (with_reducible first|exact zA _ _ _ _|exact xN _ _ _ _|exact Quiet.stuck _|exact oY _ _ _ _|exact ue _ _ _ _|exact xM _ _ _|exact Quiet.pure' trivial|exact Quiet.pure' (rp _)|exact Quiet.pure' (mF _ _ _)|refine Quiet.ite ?_ ?_|refine Quiet.bind' ?_ λ_=>?_|dsimp only|split)
def nO(s a b d):Quiet Plain (Conv.complexToComplex s a b d):=by unfold Conv.complexToComplex;refine Quiet.bind' (eZ _ _ _).true λ_=>?_;split;refine Quiet.bind' (eZ _ _ _).true λ_=>?_;exact nN;exact nN
section
variable {S:Kn} {P:Program} {fs:Array Func} {π:Ren P.globals.size}
def Quiet.sr{s}(h:Quiet Plain s):(SR S (ah P fs) P) VQ π s s:=by induction h with|pure h=>exact .pure (h _ _)|choose q a _ b=>exact .choose (λf c h=>absurd h (Mw a f c)) b|halt h d=>exact .never (.halt h d)
def vX(P fs):∀(d) (t) (off),cellOfByte (ah P fs) d t off=cellOfByte P d t off:=by intro d;induction d with|zero=>exactλ_ _=>rfl|succ d a=>intro t off;unfold cellOfByte;simp only[a];rfl
def m9(P fs d e n a b):cellAtBytes (ah P fs) d e n a b=cellAtBytes P d e n a b:=by unfold cellAtBytes;simp only[vX,gF];rfl
def kF(a1 t){x X y Y}(j:aw π x X)(d:aw π y Y):(SR S (ah P fs) P) (λπ v V=>aw π v V/\∃a A,v=.pointer (some a)/\V=.pointer (some A)) π (Builtin.unsafeAdd_ a1 t #[x,y]) (Builtin.unsafeAdd_ a1 t #[X,Y]):=by (have go:∀(π:Ren P.globals.size) {p Q:Option Addr} (i:dP (aS π) p Q) {y Y:Zj},aw π y Y->(SR S (ah P fs) P) (λπ v V=>aw π v V/\∃a A,v=.pointer (some a)/\V=.pointer (some A)) π (Builtin.unsafeAdd_ a1 t #[.pointer p,y]) (Builtin.unsafeAdd_ a1 t #[.pointer Q,Y]):=by intro π p Q i y Y d;unfold Builtin.unsafeAdd_;refine(jM d).bind ?_;rintro k l n _ rfl;have c:=i.mono λ_ _ x=>aS.mono l x;simp only[];split;(cases c with|none=>exact aD| @some a A b=>simp only[];cases b with|mk b=>refine(pQ b).bind ?_;intro e f u v g;simp only[lS g];split;exact aD;exact ai ⟨.ptr (.mk (f _ _ b)),_,_,rfl,rfl⟩);split;exact aD;cases c with|none=>exact aD| @some a A b=>simp only[];cases b with|mk b=>refine(fu b).bind ?_;rintro e f sh _ rfl;split;refine cu.bind ?_;rintro m o _ _ ⟨rfl,rfl⟩;simp only[m9];rw[show(ah P fs).depth=P.depth from rfl,show ∀t,(ah P fs).cellsOf t=P.cellsOf t fromλ_=>rfl];split;exact ai ⟨.ptr (.mk (o _ _ (f _ _ b))),_,_,rfl,rfl⟩;exact aD;exact aD);cases j with|JZ=>exact go π .none d|ptr h=>exact go π (.some h) d|_=>exact aj
def uW{a A}(h:aS π a A)(b):(SR S (ah P fs) P) VQ π (asNumber a b) (asNumber A b):=by unfold asNumber;refine(iv (.number b h)).bind ?_;intro c l r R d;exact ai (.ptr (.mk d))
def oZ(a1 t y):dT (Builtin.unsafeAdd_ a1 t #[.tuple #[],y]):=by unfold Builtin.unsafeAdd_;exact dD _
def mG(t y):dT (Op.equal t (.tuple #[]) y):=by unfold Op.equal Op.maxDepth Op.equalIn;refine bI (dj t) λd=>?_;cases d<;>cases y<;>first|exact dD _|(refine bK _ ?_;exact True.intro)|(rename_i a;cases a<;>first|exact dD _|(refine bK _ ?_;exact True.intro))|(rename_i a _ _;cases a<;>exact dD _)
def mH(t x):dT (Op.equal t x (.tuple #[])):=by unfold Op.equal Op.maxDepth Op.equalIn;refine bI (dj t) λd=>?_;cases d<;>cases x<;>first|exact dD _|(refine bK _ ?_;exact True.intro)|(rename_i a;cases a<;>first|exact dD _|(refine bK _ ?_;exact True.intro))|(rename_i a _ _;cases a<;>exact dD _)
def lq(t){x X y Y}(c:aw π x X)(e:aw π y Y):(SR S (ah P fs) P) VQ π (movedNumber t x y) (movedNumber t X Y):=by
 unfold movedNumber;refine(aA t).bind ?_;rintro k g d _ ⟨rfl,_⟩;have c:=c.mono g;have e:=e.mono g;simp only[];split;exact .never (aB (.halt _));have f:=c
 cases c with
 |ptr h=>simp only[];refine(gI h).bind ?_;rintro l m ⟨a,b⟩ ⟨A,B⟩ ⟨i,j⟩;simp only[]at i j⊢;subst j;refine(kF _ _ (.ptr i) (e.mono m)).bind ?_;rintro n q v V ⟨o,r,s,e1,p⟩;subst e1 p;cases o with|ptr h=>exact uW h _
 |mR V a=>exact .never (show dT (Builtin.unsafeAdd_ #[] t #[.tuple #[],y])from oZ _ _ _)
 |_=>exact(kF #[] t f e).mono λ_ _ _ _ h=>h.1
def vY(t){x X y Y}(d:aw π x X)(e:aw π y Y):(SR S (ah P fs) P) VQ π (movedPointer t x y) (movedPointer t X Y):=by
 unfold movedPointer;have b:=d;cases d with
 |ptr h=>cases h with|mk h=>simp only[];refine(uS h).bind ?_;intro g f u v c;rw[lS c];split;exact aD;exact(kF _ _ (.ptr (.mk (f _ _ h))) (e.mono f)).mono λ_ _ _ _ h=>h.1
 |mR V a=>exact .never (oZ _ _ _)
 |_=>exact(kF _ _ b e).mono λ_ _ _ _ h=>h.1
def sJ{a A b B}(c:aS π a A)(d:aS π b B):(SR S (ah P fs) P) EqQ π (Op.twoPlaces a b) (Op.twoPlaces A B):=by (unfold Op.twoPlaces;have e1:=(c.eq d).1;have f:(a.block>=P.globals.size)=(A.block>=P.globals.size):=by cases c with|mk h=>have:=π.dF _ _ h;simp only[ge_iff_le,eq_iff_iff];omega);refine cu.bind ?_;rintro g e _ _ ⟨rfl,rfl⟩;simp only[show(ah P fs).globals=P.globals from rfl,bne,e1,f];split;exact aD;refine(jd (c.mono e)).bind ?_;rintro i j n _ rfl;refine(jd ((d.mono e).mono j)).bind ?_;rintro k l m _ rfl;exact ai rfl
def Hp(k){a A b B}(c:aS π a A)(d:aS π b B):(SR S (ah P fs) P) VQ π (Op.addrSub k a b) (Op.addrSub k A B):=by unfold Op.addrSub;refine(sJ c d).bind ?_;rintro e f ⟨x,y⟩ _ rfl;exact ai (.int _ _)
def nP(c){a A b B}(d:aS π a A)(e:aS π b B):(SR S (ah P fs) P) VQ π (Op.addrCmp c a b) (Op.addrCmp c A B):=by unfold Op.addrCmp;refine(sJ d e).bind ?_;rintro f g ⟨x,y⟩ _ rfl;cases c<;>first|exact ai (.bool _)|exact aD
def rB(k){a A}(b:aS π a A)(n):(SR S (ah P fs) P) VQ π (Op.addrMod k a n) (Op.addrMod k A n):=by unfold Op.addrMod;cases b with|mk h=>refine(fu h).bind ?_;rintro c d sh _ rfl;split;refine(dC _).bind ?_;rintro e f i _ ⟨rfl,_⟩;simp only[];split;exact .never (aB (.halt _));refine(jd (.mk (f _ _ (d _ _ h)))).bind ?_;rintro g j m _ rfl;exact ai (.int _ _);exact aD
def EH(t){x X y Y}(a:aw π x X)(c:aw π y Y):(SR S (ah P fs) P) VQ π (do pure (.bool (!(<-Op.equal t x y)))) (do pure (.bool (!(<-Op.equal t X Y)))):=by refine(xx t a c).bind ?_;rintro d e b _ rfl;exact ai (.bool _)
def Hq(t){x X y Y}(a:aw π x X)(c:aw π y Y):(SR S (ah P fs) P) VQ π (do pure (.bool (<-Op.equal t x y))) (do pure (.bool (<-Op.equal t X Y))):=by refine(xx t a c).bind ?_;rintro d e b _ rfl;exact ai (.bool _)
def dx{d e Q a A}(h:aS π a A){f:Addr->Sem d}{F:Addr->Sem e}(g:∀c,Ren.le π c->∀b B,aS c b B->(SR S (ah P fs) P) Q c (f b) (F B)):(SR S (ah P fs) P) Q π (do f (<-behindNumber a).1) (do F (<-behindNumber A).1):=by refine(gI h).bind ?_;rintro i j ⟨a,b⟩ ⟨A,B⟩ ⟨k,l⟩;exact g _ j _ _ k
def xO(t:TypeId){x X y Y:Zj}(b:aw π x X)(c:aw π y Y):(SR S (ah P fs) P) VQ π (do if(<-underlying t) matches .unsafePointer then movedPointer t x y else movedNumber t x y) (do if(<-underlying t) matches .unsafePointer then movedPointer t X Y else movedNumber t X Y):=by refine(aA t).bind ?_;rintro d l a _ ⟨rfl,_⟩;split;exact vY t (b.mono l) (c.mono l);exact lq t (b.mono l) (c.mono l)
def Calm.ite{c}[Decidable c]{s t}(h:Calm s)(a:Calm t):Calm (if c then s else t):=by split<;>assumption
def de{b d Q c}[Decidable c]{s t:Sem b}{s' a:Sem d}(h:(SR S (ah P fs) P) Q π s s')(e:(SR S (ah P fs) P) Q π t a):(SR S (ah P fs) P) Q π (if c then s else t) (if c then s' else a):=by split<;>assumption
def Np(o t){x X y Y}(a:aw π x X)(d:aw π y Y):(SR S (ah P fs) P) VQ π (binOp o t x y) (binOp o t X Y):=by
 have i:=a;have j:=d;unfold binOp;split;cases a;cases d;exact(xq _ _ _ _ _).sr;cases a;cases d;exact(xq _ _ _ _ _).sr;cases a;cases d;rename_i u v;cases o<;>first
  |exact(u rfl).elim
  |exact(v rfl).elim
  |exact de aj (qw _ _ _ _).sr
  |exact de aj (Ef _ _ _ _).sr
  |exact de aj (rZ _ _ _ _).sr
  |exact de aj (Ee _ _ _).sr
 cases a;cases d;cases o<;>first
  |exact de aj (m7 _ _ _ _).sr
  |exact de aj (oX _ _ _ _).sr
 cases a;cases d;cases o<;>exact de aj (vW _ _ _ _ _ _).sr;cases a;cases d;cases o<;>exact(qx _ _ _).sr;rename_i p q r s;cases a<;>cases d<;>first|exact Hq t i j|exact .never (aB (mG _ _))|exact .never (aB (mH _ _))|exact(p _ _ _ _ rfl rfl).elim|exact(q _ _ _ _ rfl rfl).elim|exact(r _ _ _ _ _ _ rfl rfl).elim|exact(s _ _ rfl rfl).elim
 rename_i p q r s;cases a<;>cases d<;>first|exact EH t i j|exact .never (aB (mG _ _))|exact .never (aB (mH _ _))|exact(p _ _ _ _ rfl rfl).elim|exact(q _ _ _ _ rfl rfl).elim|exact(r _ _ _ _ _ _ rfl rfl).elim|exact(s _ _ rfl rfl).elim
 cases d;cases a<;>exact xO t i j;cases a;cases d<;>exact lq t j i;cases d;cases a<;>exact lq t i (.int _ _);cases a with|ptr e=>cases d with|ptr k=>exact dx e λf h b B g=>dx (k.mono h) λl m c C n=>Hp _ (g.mono m) n
 cases a with|ptr e=>cases d with|ptr k=>exact dx e λf h b B g=>dx (k.mono h) λl m c C n=>nP _ (g.mono m) n
 cases a with|ptr e=>cases d with|ptr k=>exact dx e λf h b B g=>dx (k.mono h) λl m c C n=>nP _ (g.mono m) n
 cases a with|ptr e=>cases d with|ptr k=>exact dx e λf h b B g=>dx (k.mono h) λl m c C n=>nP _ (g.mono m) n
 cases a with|ptr e=>cases d with|ptr k=>exact dx e λf h b B g=>dx (k.mono h) λl m c C n=>nP _ (g.mono m) n
 cases a with|ptr e=>cases d with|int=>exact dx e λf h b B g=>rB _ g _
 cases a with|ptr e=>cases d with|int=>exact dx e λf h b B g=>rB _ g _
 cases d with|ptr e=>cases a with|int=>exact dx e λf h b B g=>rB _ g _
 exact aD;exact aD;exact aj
def xP(h:BinOp)(t c)(d:gO (.unsupported c)){a A b B}(e:aw π a A)(f:aw π b B):(SR S (ah P fs) P) EqQ π (do if <-Op.eqGuardIn Op.maxDepth t a b then unsupported c) (do if <-Op.eqGuardIn Op.maxDepth t A B then unsupported c):=by refine(Cd _ t e f).bind ?_;rintro g i x _ rfl;split;exact aD d;exact ai rfl
def Hr(e t x y){a A b B}(f:aw π a A)(g:aw π b B):(SR S (ah P fs) P) EqQ π (eqGuard e t x y a b) (eqGuard e t x y A B):=by
 have c:=f;have d:=g;unfold eqGuard;refine de (ai rfl) ?_;split;cases f;cases g;exact de (ai rfl) (xP e t _ (by exact True.intro) c d);cases f;cases g;simp only[];refine cu.bind ?_;rintro j h _ _ ⟨rfl,rfl⟩;refine cu.bind ?_;rintro k i _ _ ⟨rfl,rfl⟩;rw[mY,show(ah P fs).depth=P.depth from rfl];split;exact ai rfl;exact xP e t _ (by exact True.intro) ((c.mono h).mono i) ((d.mono h).mono i);rename_i l m
 cases f with
 |mR _ a=>cases A<;>first|(simp[eA]at a;done)|exact ai rfl
 |_=>
  cases g with
  |mR _ a=>cases B<;>first|(simp[eA]at a;done)|exact ai rfl
  |_=>first|exact ai rfl|exact(l rfl rfl).elim|exact(m _ _ rfl rfl).elim
end
section
variable {S:Kn} {P:Program} {fs:Array Func} {π:Ren P.globals.size}
def fM{G}{ρ:Ren G}{c}(h:bn c):VsR ρ c c:=h.refl ρ
def qJ(b:Array UInt8):bn (b.map λb=>Value.int .u8 b.toNat):=λi v h=>by rw[Vk]at h;cases a:b[i]? with|none=>rw[a]at h;cases h|some x=>rw[a]at h;cases h;exact kP _ _
def iL(n){v}(h:Plain v):bn (Array.replicate n v):=λi x a=>by rw[Yf]at a;split at a<;>cases a;exact h
def bn.append{a b}(h:bn a)(d:bn b):bn (a++b):=λi x c=>by rw[WT]at c;split at c;exact h _ _ c;exact d _ _ c
def bn.push{a}(h:bn a){v}(c:Plain v):bn (a.push v):=λi x b=>by rw[VD]at b;split at b;cases b;exact c;exact h _ _ b
def Av{a A}(h:aS π a A)(n):(SR S (ah P fs) P) EqQ π (freeze a n) (freeze A n):=.freeze h (.pure rfl)
def nc{a A}(h:aS π a A):(SR S (ah P fs) P) EqQ π (markStringish a) (markStringish A):=by unfold markStringish;cases h with|mk h=>refine(fu h).bind ?_;rintro b c sh _ rfl;split;exact Av (.mk (c _ _ h)) 1;exact ai rfl
def uf(e s):(SR S (ah P fs) P) VQ π (Conv.stringToBytes e s) (Conv.stringToBytes e s):=by unfold Conv.stringToBytes;refine(eK _).bind ?_;rintro c h n _ rfl;refine(jc e (fM ((qJ _).append (iL _ (kP _ _))))).bind ?_;intro d i a A b;refine(nc b).bind ?_;intro f g _ _ _;exact ai (.slice _ _ (b.mono g))
def zB(s):∀(b i) (acc),bn acc->bn (Conv.runesFrom s b i acc):=by intro b;induction b with|zero=>intro i acc h;exact h|succ b a=>intro i acc h;unfold Conv.runesFrom;split;exact a _ _ (h.push (kP _ _));exact h
def ug(e s):(SR S (ah P fs) P) VQ π (Conv.stringToRunes e s) (Conv.stringToRunes e s):=by unfold Conv.stringToRunes;refine(eK _).bind ?_;rintro b f n _ rfl;refine(jc e (fM ((zB _ _ _ _ .empty).append (iL _ (kP _ _))))).bind ?_;intro c g a A d;exact ai (.slice _ _ d)
def Aw{σ l L f F}(h:∀(a),Ren.le π a->∀v V s,aw a v V->(SR S (ah P fs) P) EqQ a (f v s) (F V s))(e:bp (aw π) l L):∀{a} (_:Ren.le π a) (s:σ),(SR S (ah P fs) P) EqQ a (forIn l s f) (forIn L s F):=by induction e with|nil=>intro a b s;simp only[List.forIn_nil];exact ai rfl|cons g _ i=>intro a b s;simp only[Yh];refine(h a b _ _ s (g.mono b)).bind ?_;rintro d c x _ rfl;cases x with|done=>exact ai rfl|yield s=>exact i (Ren.le_trans b c) s
def uh{x X}(h:aw π x X):(SR S (ah P fs) P) VQ π (Conv.bytesToString x) (Conv.bytesToString X):=by
 unfold Conv.bytesToString;cases h with
 |iT=>exact ai (.string _)
 |slice n c h=>
  simp only[];refine(kB h n).bind ?_;intro a g i j e;simp only[<-Wo];refine(Aw (π:=a) ?_ e.toList (Ren.le_refl _) _).bind ?_;intro b f v V s d
  cases d with
  |int k n=>cases k<;>first|exact ai rfl|exact .never (aB (.halt _))|exact aj
  |_=>exact aj
  rintro b f s _ rfl;exact ai (.string _)
 |qZ A=>exact ai (.string _)
 |_=>exact aj
def ui{x X}(h:aw π x X):(SR S (ah P fs) P) VQ π (Conv.runesToString x) (Conv.runesToString X):=by
 unfold Conv.runesToString;cases h with
 |iT=>exact ai (.string _)
 |slice n c h=>
  simp only[];refine(kB h n).bind ?_;intro a g i j e;simp only[<-Wo];refine(Aw (π:=a) ?_ e.toList (Ren.le_refl _) _).bind ?_;intro b f v V s d
  cases d with
  |int k n=>cases k<;>first|exact ai rfl|exact .never (aB (.halt _))|exact aj
  |_=>exact aj
  rintro b f s _ rfl;exact ai (.string _)
 |qZ A=>exact ai (.string _)
 |_=>exact aj
def Ax{a A}(h:aS π a A):(SR S (ah P fs) P) AQ π (Conv.seenAt a) (Conv.seenAt A):=by (unfold Conv.seenAt;have i:=h;have e1:a.spot=A.spot/\a.off=A.off:=by cases h;exact⟨rfl,rfl⟩);simp only[e1.1,e1.2];cases h with|mk h=>refine(pQ h).bind ?_;intro j k x y c;cases c with|none=>exact ai (i.mono k)| @some u v d=>obtain⟨s,t⟩:=u;obtain⟨s',o⟩:=v;obtain⟨b,e⟩:=d;simp only[]at b e⊢;subst e;split;exact ai b;(have f:s.spot=s'.spot/\s.off=s'.off:=by cases b;exact⟨rfl,rfl⟩);simp only[f.1,f.2];split;exact .never (aB (.halt _));refine cu.bind ?_;rintro l g _ _ ⟨rfl,rfl⟩;simp only[gF,m9,show(ah P fs).depth=P.depth from rfl,show ∀t,(ah P fs).cellsOf t=P.cellsOf t fromλ_=>rfl];split;(cases b with|mk b=>refine(fu (g _ _ b)).bind ?_;rintro m n sh _ rfl;split;split;exact .never (aB (.halt _));split;exact ai (.mk (n _ _ (g _ _ b)));exact aD;exact aD);exact aD
def Hs{r R}(h:π r R):(SR S (ah P fs) P) EqQ π (cellsIn r) (cellsIn R):=by unfold cellsIn;refine(fu h).bind ?_;rintro a b sh _ rfl;split;exact ai rfl;refine(cJ (b _ _ h)).bind ?_;intro c e o O d;cases d<;>exact ai rfl
def vZ(P fs):∀(n) (t u),sameLayout (ah P fs) n t u=sameLayout P n t u:=by intro n;induction n with|zero=>exactλ_ _=>rfl|succ n a=>intro t u;unfold sameLayout;simp only[a,eM];rfl
def Ht(P fs g):∀(d) (e) (c o n),rowAt (ah P fs) g d e c o n=rowAt P g d e c o n:=by intro d;induction d with|zero=>exactλ_ _ _ _=>rfl|succ d a=>intro e c o n;unfold rowAt;simp only[a,eM];rfl
def EI(P fs):∀(d) (e) (c o) (u) (n),liesAt (ah P fs) d e c o u n=liesAt P d e c o u n:=by intro d;induction d with|zero=>exactλ_ _ _ _ _=>rfl|succ d a=>intro e c o u n;unfold liesAt;simp only[a,Ht,vZ];rfl
def o7{a A}(h:aS π a A)(u n):(SR S (ah P fs) P) EqQ π (variablesAt a u n) (variablesAt A u n):=by unfold variablesAt;cases h with|mk h=>refine cu.bind ?_;rintro b c _ _ ⟨rfl,rfl⟩;refine(fu (c _ _ h)).bind ?_;rintro d e sh _ rfl;simp only[EI,show(ah P fs).depth=P.depth from rfl,show ∀t,(ah P fs).cellsOf t=P.cellsOf t fromλ_=>rfl];split<;>exact ai rfl
def sL(P fs):∀(d) (t),(ah P fs).holdsStoodIn d t=P.holdsStoodIn d t:=by intro d;induction d with|zero=>exactλ_=>rfl|succ d a=>intro t;unfold Program.holdsStoodIn;simp only[a,eM];rfl
def xQ{a A}(h:aS π a A)(u):(SR S (ah P fs) P) VQ π (do pure (.pointer (some ⟨<-newObj (.view a u),0,none⟩))) (do pure (.pointer (some ⟨<-newObj (.view A u),0,none⟩))):=by refine(iv (.view u h)).bind ?_;intro b d r R c;exact ai (.ptr (.mk c))
def ga(f g){x X}(e:aw π x X):(SR S (ah P fs) P) VQ π (Conv.unsafePointer f g x) (Conv.unsafePointer f g X):=by unfold Conv.unsafePointer;refine(aA f).bind ?_;rintro v w s _ ⟨rfl,_⟩;refine(aA g).bind ?_;rintro y z d _ ⟨rfl,_⟩;have e:=(e.mono w).mono z;have h:=e;split;cases e;exact ai h;(cases e with|ptr l=>refine(Ax l).bind ?_;intro o A b B a;have m:=a;cases a with|mk a=>refine(Hs a).bind ?_;rintro p i c _ rfl;refine(bJ _).bind ?_;rintro r k n _ rfl;have j:=λu=>xQ (S:=S) (fs:=fs) ((m.mono i).mono k) u;split<;>exact de (j _) (ai (.ptr ((m.mono i).mono k))));cases e;exact ai h;(cases e with|ptr l=>refine(Ax l).bind ?_;intro o A b B a;refine(bJ _).bind ?_;rintro p i n _ rfl;simp only[];refine(o7 (a.mono i) _ 1).bind ?_;rintro r k q _ rfl;refine de (ai (.ptr ((a.mono i).mono k))) ?_;have t:=(a.mono i).mono k;cases a with|mk a=>refine(fu (k _ _ (i _ _ a))).bind ?_;rintro C D sh _ rfl;split;refine cu.bind ?_;rintro E F _ _ ⟨rfl,rfl⟩;refine cu.bind ?_;rintro G H _ _ ⟨rfl,rfl⟩;rw[sL,show(ah P fs).depth=P.depth from rfl];split;exact .never (aB (.halt _));exact xQ (((t.mono D).mono F).mono H) _;exact .never (aB (.halt _)));cases e<;>exact ai h;cases e;exact ai (.int _ _);(cases e with|ptr l=>exact uW l _);exact aD;exact aD;exact aD;exact aj
def zC(c f e:TypeId){x X:Zj}(a:aw π x X):(SR S (ah P fs) P) VQ π (do match <-underlying e with
 | .int .u8=>Conv.bytesToString x
 | .int .i32=>Conv.runesToString x
 |_=>stuck "Convert: a slice of what to string?") (do match <-underlying e with
 | .int .u8=>Conv.bytesToString X
 | .int .i32=>Conv.runesToString X
 |_=>stuck "Convert: a slice of what to string?"):=by
 refine(aA e).bind ?_;rintro g b d _ ⟨rfl,_⟩;split
 .exact uh (a.mono b)
 .exact ui (a.mono b)
 .exact aj
def zD(e:TypeId){s:Zk}:(SR S (ah P fs) P) VQ π (do match <-underlying e with
 | .int .u8=>Conv.stringToBytes e s
 | .int .i32=>Conv.stringToRunes e s
 |_=>stuck "Convert: string to a slice of what?") (do match <-underlying e with
 | .int .u8=>Conv.stringToBytes e s
 | .int .i32=>Conv.stringToRunes e s
 |_=>stuck "Convert: string to a slice of what?"):=by
 refine(aA e).bind ?_;rintro a b d _ ⟨rfl,_⟩;split
 .exact uf _ _
 .exact ug _ _
 .exact aj
def qM(b c e:TypeId){a A:Addr}{x X:Zj}(f:aS π a A)(g:aw π x X):(SR S (ah P fs) P) VQ π (do match b==c,<-underlying e with
 |true,.int .u8=>do markStringish a;pure x
 |_,_=>unsupported (.noEntry "convert/other")) (do match b==c,<-underlying e with
 |true,.int .u8=>do markStringish A;pure X
 |_,_=>unsupported (.noEntry "convert/other")):=by
 refine(aA _).bind ?_;rintro h d e _ ⟨rfl,_⟩;split
 .refine(nc (f.mono d)).bind ?_
  intro i j _ _ _;exact ai ((g.mono d).mono j)
 .exact aD
def sN(s d):dT (Conv.unsafePointer s d (.tuple #[])):=by unfold Conv.unsafePointer;refine bI (dj s) λa=>?_;refine bI (dj d) λb=>?_;cases a<;>cases b<;>exact dD _
def rC(c f):dT (convert c f (.tuple #[])):=by
 unfold convert;refine bI (dj c) λa=>?_;refine bI (dj f) λb=>?_;have key:∀e,dT (do match <-underlying e with
  | .int .u8=>Conv.bytesToString (.tuple #[])
  | .int .i32=>Conv.runesToString (.tuple #[])
  |_=>stuck "Convert: a slice of what to string?"):=λe=>by
  refine bI (dj e) λd=>?_;split<;>exact dD _
 cases a<;>cases b<;>first|exact key _|exact sN _ _|(refine bK _ ?_;exact True.intro)
def Hu(a b)(h:(a==b)=false){x X}(g:aw π x X):(SR S (ah P fs) P) VQ π (convert a b x) (convert a b X):=by
 by_cases l:x=.tuple #[];rw[l];exact .never (rC _ _)
 unfold convert;refine(aA a).bind ?_;rintro v w _ s ⟨rfl,y⟩;clear y;refine(aA b).bind ?_;rintro z A _ d ⟨rfl,B⟩;clear B;have g:=(g.mono w).mono A;have c:=g;cases g<;>(try exact absurd rfl l)<;>split<;>first
  |contradiction
  |exact aD
  |exact ai (.int _ _)
  |exact ai (.float _ _)
  |exact(ud _ _ _).sr
  |exact(eZ _ _ _).sr
  |exact(nO _ _ _ _).sr
  |exact ai (.string _)
  |exact zD _
  |exact ga _ _ c
  |exact zC a b _ c
  |exact qM a b _ (by assumption) c
  |(rename_i d1 d2 d3 m n o p q r t u i;cases d1<;>exact ga _ _ c)
  |(rename_i d1 d2 d3 m n o p q r t u i j f k;cases d1<;>first|contradiction|exact ga _ _ c|exact(k rfl).elim|exact(f rfl).elim|exact(j rfl).elim)
  |(rename_i d1 d2 d3 m n o p q r t u i j f;cases d1<;>first|contradiction|exact ga _ _ c|exact(f rfl).elim|exact(j rfl).elim|exact(i rfl).elim)
  |(injections;subst_vars;exact qM a b _ (by assumption) c)
  |(injections;done)
  |(rw[h];refine(aA _).bind ?_;rintro C D e _ ⟨rfl,_⟩;exact aD)
def CE{d e Q c}[Decidable c]{s t:Sem d}{s' b:Sem e}(h:c->(SR S (ah P fs) P) Q π s s')(f:¬c->(SR S (ah P fs) P) Q π t b):(SR S (ah P fs) P) Q π (if c then s else t) (if c then s' else b):=by by_cases a:c;rw[UH a,UH a];exact h a;rw[UG a,UG a];exact f a
def xR{x X}(h:aw π x X):(SR S (ah P fs) P) (λ_ a b=>a=b/\∀o k c,x=.slice o k c->a=k) π (Builtin.lenOf x) (Builtin.lenOf X):=by cases h<;>first|exact ai ⟨rfl,by simp⟩|exact ai ⟨rfl,λo k c e=>by cases e;rfl⟩|exact aj
def mI(size n){x X}(h:aw π x X)(a:∀o c,x=.slice o 0 c->n=0):(SR S (ah P fs) P) VsQ π (Builtin.firstCells size n x) (Builtin.firstCells size n X):=by cases h with|slice l c h=>exact kB h _|iT=>exact ai .empty|string=>exact ai (fM (qJ _))|qZ A=>rw[a _ _ rfl];unfold Builtin.firstCells;rw[Wr];exact ai .empty|_=>exact aj
def o8(size){x X}(h:aw π x X):(SR S (ah P fs) P) (λ_ a b=>a=#[]/\b=#[]) π (Builtin.firstCells size 0 x) (Builtin.firstCells size 0 X):=by
 cases h with
 |slice l c h=>unfold Builtin.firstCells;rw[Wr];exact ai ⟨rfl,rfl⟩
 |iT=>exact ai ⟨rfl,rfl⟩
 |string=>(have e:∀s:Zk,((s.extract 0 0).data.map λb=>(Value.int .u8 b.toNat))=#[]:=λs=>by simp);unfold Builtin.firstCells;exact ai ⟨e _,e _⟩
 |qZ A=>unfold Builtin.firstCells;rw[Wr];exact ai ⟨rfl,rfl⟩
 |_=>exact aj
def lX{z}(h:bn z)(n):bn (Builtin.zeroCells z n):=h.spread _ _
def uX(b:dH P)(a e size n){x X}(h:aw π x X)(d:a=false->∀o c,x=.slice o 0 c->n=0):(SR S (ah P fs) P) VsQ π (if !a then Builtin.firstCells size n x else if n*size=0 then pure #[]else do pure (Builtin.zeroCells (<-zeroValue e).cells n)) (if !a then Builtin.firstCells size n X else if n*size=0 then pure #[]else do pure (Builtin.zeroCells (<-zeroValue e).cells n)):=by refine CE (λf=>mI _ _ h (d (by simpa using f))) (λ_=>de (ai .empty) ?_);refine(eD b e).bind ?_;rintro g j z _ ⟨rfl,i⟩;exact ai (fM (lX i.cells _))
def CF(c e size){x X}(h:aw π x X):(SR S (ah P fs) P) (λ_ a b=>a=#[]/\b=#[]) π (if !c then Builtin.firstCells size 0 x else if 0*size=0 then pure #[]else do pure (Builtin.zeroCells (<-zeroValue e).cells 0)) (if !c then Builtin.firstCells size 0 X else if 0*size=0 then pure #[]else do pure (Builtin.zeroCells (<-zeroValue e).cells 0)):=by refine de (o8 _ h) ?_;rw[UH (Wr _)];exact ai ⟨rfl,rfl⟩
def Rs(a1 t){x X}(h:VsR π x X):(SR S (ah P fs) P) VQ π (Builtin.len_ a1 t x) (Builtin.len_ a1 t X):=by
 unfold Builtin.len_;have j:=h.get 0;generalize x[0]? =u at*;generalize X[0]? =v at*;cases a1[0]? with
 |none=>exact aj
 |some k=>
 cases j with
 |none=>exact aj
 | @some x X a=>
 simp only[];refine(aA k).bind ?_;rintro l m d _ ⟨rfl,g⟩;clear g;have a:=a.mono m;cases d with
 |string=>cases a<;>first|exact ai (.int _ _)|exact aj
 |array=>cases a<;>exact ai (.int _ _)
 |pointer=>
  cases a<;>
  .refine(aA _).bind ?_;rintro b i d _ ⟨rfl,g⟩;cases d<;>first|exact aj|exact ai (.int _ _)
 |slice=>cases a<;>first|exact ai (.int _ _)|exact aj
 |map=>(cases a<;>first|exact ai (.int _ _)|exact aj|skip);rename_i r R c;refine(cJ c).bind ?_;intro b i o O e;cases e with|map n f=>simp only[];rw[f.1];exact ai (.int _ _)|_=>exact aj
 |chan=>(cases a<;>first|exact ai (.int _ _)|exact aj|skip);rename_i r R c;refine(cJ c).bind ?_;intro b i o O e;cases e<;>exact aj
 |_=>cases a<;>exact aj
def Ru(a1 t){x X}(h:VsR π x X):(SR S (ah P fs) P) VQ π (Builtin.cap_ a1 t x) (Builtin.cap_ a1 t X):=by
 unfold Builtin.cap_;have e:=h.get 0;generalize x[0]? =u at*;generalize X[0]? =v at*;cases a1[0]? with
 |none=>exact aj
 |some f=>
 cases e with
 |none=>exact aj
 | @some x X a=>
 simp only[];refine(aA f).bind ?_;rintro g i d _ ⟨rfl,c⟩;clear c;have a:=a.mono i;cases d with
 |array=>cases a<;>exact ai (.int _ _)
 |pointer=>
  cases a<;>
  .refine(aA _).bind ?_;rintro b j d _ ⟨rfl,c⟩;cases d<;>first|exact aj|exact ai (.int _ _)
 |slice=>cases a<;>first|exact ai (.int _ _)|exact aj
 |chan=>(cases a<;>first|exact ai (.int _ _)|exact aj|skip);rename_i r R k;refine(cJ k).bind ?_;intro b j o O l;cases l<;>exact aj
 |_=>cases a<;>exact aj
def P9(a1 t){x X}(h:VsR π x X):(SR S (ah P fs) P) VQ π (Builtin.copy_ a1 t x) (Builtin.copy_ a1 t X):=by
 unfold Builtin.copy_;have G:=h.get 0;have j:=h.get 1;generalize x[0]? =u at*;generalize X[0]? =v at*;generalize x[1]? =Q at*;generalize X[1]? =v1 at*;cases a1[0]? with
 |none=>exact aj
 |some H=>
 cases G with
 |none=>exact aj
 | @some d D k=>
 cases j with
 |none=>exact aj
 | @some s C m=>
 simp only[];refine(aA H).bind ?_;rintro f i I _ ⟨rfl,p⟩;clear p;cases I<;>first|exact aj|skip
 rename_i e;simp only[];have k:=k.mono i;have key:∀{b B:Option Addr} (l:Nat),(dP (aS f) b B\/l=0/\∃A E,b=some A/\B=some E)->(SR S (ah P fs) P) VQ f (do
  let n:=Nat.min (<-Builtin.lenOf s) l;let cells <-Builtin.firstCells (<-sizeOf e) n s
  if let some a:=b then storeCells a cells.toList
  pure (goInt n)) (do
  let n:=Nat.min (<-Builtin.lenOf C) l;let cells <-Builtin.firstCells (<-sizeOf e) n C
  if let some a:=B then storeCells a cells.toList
  pure (goInt n)):=by
  intro b B l g;refine(xR (m.mono i)).bind ?_;rintro J q n _ ⟨rfl,K⟩;refine(bJ e).bind ?_;rintro L r z _ rfl;obtain g|⟨rfl,A,E,rfl,rfl⟩:=g
  .refine(mI _ _ (((m.mono i).mono q).mono r) (λo c e=>?_)).bind ?_
   .rw[K _ _ _ e]
    exact Nat.zero_min _
   intro w F R T M;have g:=g.mono λ_ _ x=>aS.mono (Ren.le_trans q (Ren.le_trans r F)) x;cases g with
   |none=>exact ai (.int _ _)
   |some y=>refine(mA 0 y M.toList).bind ?_;intro N U _ _ _;exact ai (.int _ _)
  .rw[show Nat.min n 0=0 from Nat.min_zero _]
   refine(o8 _ (((m.mono i).mono q).mono r)).bind ?_;rintro w F _ _ ⟨rfl,rfl⟩;exact ai (.int _ _)
 cases k with|iT=>exact key _ (.inl .none)|slice l c O=>exact key _ (.inl (.some O))|qZ A=>exact key _ (.inr ⟨rfl,_,_,rfl,rfl⟩)|_=>exact aj
def sP(d a b x y):(SR S (ah P fs) P) VQ π (do pure (.string (if <-asBool (<-Op.stringOp d a b)then x else y))) (do pure (.string (if <-asBool (<-Op.stringOp d a b)then x else y))):=by refine(qx d a b).sr.bind ?_;intro e h v V f;refine(Al f).bind ?_;rintro g i c _ rfl;exact ai (.string _)
def Qa{x X y Y}(a:aw π x X)(b:aw π y Y):(SR S (ah P fs) P) VQ π (Builtin.min2 x y) (Builtin.min2 X Y):=by
 cases a<;>cases b<;>first
  |exact aj
  |exact aD
  |exact ai (.int _ _)
  |exact sP _ _ _ _ _
  |skip
 unfold Builtin.min2;simp only[];split<;>first|exact ai (.float _ _)|skip
 refine(eK _).bind ?_;rintro c d n _ rfl;exact ai (.float _ _)
def Qb{x X y Y}(a:aw π x X)(b:aw π y Y):(SR S (ah P fs) P) VQ π (Builtin.max2 x y) (Builtin.max2 X Y):=by
 cases a<;>cases b<;>first
  |exact aj
  |exact aD
  |exact ai (.int _ _)
  |exact sP _ _ _ _ _
  |skip
 unfold Builtin.max2;simp only[];split<;>first|exact ai (.float _ _)|skip
 refine(eK _).bind ?_;rintro c d n _ rfl;exact ai (.float _ _)
def Ay{f:Zj->Zj->Sem Zj}(d:∀{π:Ren P.globals.size} {x X y Y},aw π x X->aw π y Y->(SR S (ah P fs) P) VQ π (f x y) (f X Y)){l L}:∀{π:Ren P.globals.size} {x X},bp (aw π) l L->aw π x X->(SR S (ah P fs) P) VQ π (l.foldlM f x) (L.foldlM f X):=by induction l generalizing L with|nil=>intro π x X b c;cases b;exact ai c|cons a l e=>intro π x X b c;cases b with|cons h b=>simp only[List.foldlM_cons];refine(d c h).bind ?_;intro g i v V j;exact e (b.mono λ_ _ x=>x.mono i) j
def Rv(a1 t){x X}(h:VsR π x X):(SR S (ah P fs) P) VQ π (Builtin.min_ a1 t x) (Builtin.min_ a1 t X):=by unfold Builtin.min_;have a:=h.toList;generalize x.toList=l at*;generalize X.toList=L at*;cases a with|nil=>exact aj|cons h a=>exact Ay Qa a h
def Rx(a1 t){x X}(h:VsR π x X):(SR S (ah P fs) P) VQ π (Builtin.max_ a1 t x) (Builtin.max_ a1 t X):=by unfold Builtin.max_;have a:=h.toList;generalize x.toList=l at*;generalize X.toList=L at*;cases a with|nil=>exact aj|cons h a=>exact Ay Qb a h
def CG(n):∀{π:Ren P.globals.size} {a A} (acc),aS π a A->(SR S (ah P fs) P) EqQ π (loadBytes a acc n) (loadBytes A acc n):=by
 induction n with
 |zero=>intro π a A acc h;exact ai rfl
 |succ n b=>
  intro π a A acc h;unfold loadBytes;refine(rW h).bind ?_;intro c d v V e;cases e with
  |int k n=>cases k<;>first|exact b _ ((h.mono d).add 1)|exact aj
  |_=>exact aj
def wh(a1 t){x X}(h:VsR π x X):(SR S (ah P fs) P) VQ π (Builtin.unsafeString_ a1 t x) (Builtin.unsafeString_ a1 t X):=by have a:=h.toList;obtain⟨x⟩:=x;obtain⟨X⟩:=X;simp only[]at a;cases a with|nil=>exact aj|cons j a=>cases a with|nil=>exact aj|cons g a=>cases a with|cons _ _=>exact .never (by unfold Builtin.unsafeString_;exact dD _)|nil=>(have key:∀{p Q:Option Addr},dP (aS π) p Q->∀{y Y:Zj},aw π y Y->(SR S (ah P fs) P) VQ π (Builtin.unsafeString_ a1 t #[.pointer p,y]) (Builtin.unsafeString_ a1 t #[.pointer Q,Y]):=by intro p Q c y Y k;unfold Builtin.unsafeString_;refine(jM k).bind ?_;rintro l m n _ rfl;have c:=c.mono λ_ _ x=>aS.mono m x;cases a1[0]? with|none=>exact aj|some o=>simp only[];split;exact .never (aB (aE _));split;exact .never (aB (.halt _));cases c with|none=>exact de (ai (.string _)) dk|some d=>refine de (ai (.string _)) ?_;refine(Ke o).bind ?_;rintro q f e _ rfl;refine(o7 (d.mono f) _ _).bind ?_;rintro r i b _ rfl;refine de ?_ aD;refine(CG _ _ ((d.mono f).mono i)).bind ?_;rintro u v s _ rfl;refine(Av (((d.mono f).mono i).mono v) _).bind ?_;intro w A _ _ _;exact ai (.string _));cases j with|JZ=>exact key .none g|ptr z=>exact key (.some z) g|_=>exact aj
def xS(a:P.underlying ra=none){b c Q}{f:TypeId->Sem b}{s:Sem c}:(SR S (ah P fs) P) Q π (elemOf ra>>= f) s:=by refine SR.kX ?_;have e:(ah P fs).underlying ra=none:=a;simp only[Sem.bind,e];exact aj
def CH(t c)(g:P.underlying ra=none){a A}(b:aS π a A):(SR S (ah P fs) P) VQ π (if c≠0 then pure (.pointer (some a)) else do if(<-viewAt a.block).isSome then pure (.pointer (some a))else do let e <-elemOf ra;pure (.pointer (some ⟨<-newObj (.view a e),0,none⟩))) (if c≠0 then pure (.pointer (some A)) else do if(<-viewAt A.block).isSome then pure (.pointer (some A))else do let e <-elemOf t;pure (.pointer (some ⟨<-newObj (.view A e),0,none⟩))):=by refine de (ai (.ptr b)) ?_;have d:=b;cases b with|mk b=>refine(pQ b).bind ?_;intro h i u v f;rw[lS f];exact de (ai (.ptr (d.mono i))) (xS g)
def rD(a1 t)(b:P.underlying ra=none){x X}(h:VsR π x X):(SR S (ah P fs) P) VQ π (Builtin.unsafeSliceData_ a1 ra x) (Builtin.unsafeSliceData_ a1 t X):=by have a:=h.toList;obtain⟨x⟩:=x;obtain⟨X⟩:=X;simp only[]at a;cases a with|nil=>exact aj|cons d a=>cases a with|cons _ _=>exact aj|nil=>cases d with|iT=>exact ai .JZ|slice l c f=>exact CH t c b f|qZ A=>show(SR S (ah P fs) P) VQ π (do if(<-viewAt 0).isSome then pure (.pointer (some ⟨0,0,some 0⟩))else do let e <-elemOf ra;pure (.pointer (some ⟨<-newObj (.view ⟨0,0,some 0⟩ e),0,none⟩))) _;unfold viewAt;refine SR.tI λx=>?_;exact xS b|_=>exact aj
def wj(a n):cQ (Builtin.holdsCells a n):=by unfold Builtin.holdsCells;exact xm
def zE(a b c x y):cQ (Builtin.mayShare a b c x y):=by unfold Builtin.mayShare;repeat' (first|exact wj _ _|with_reducible first|exact cQ.pure _|exact cQ.frozen _|refine cQ.ite ?_ ?_|refine cQ.bind ?_ λ_=>?_|dsimp only|split)
def pV{a c}[Decidable c]{s t:Sem a}(h:dT s)(b:dT t):dT (if c then s else t):=by split<;>assumption
def KA(L:dH P)(a1 t){x X}(h:VsR π x X):(SR S (ah P fs) P) VQ π (Builtin.append_ a1 t x) (Builtin.append_ a1 t X):=by
 unfold Builtin.append_;have hg:=h.get 0;have ax:=h.get 1;generalize x[0]? =u at*;generalize X[0]? =v at*;generalize x[1]? =u1 at*;generalize X[1]? =v1 at*;cases a1[0]? with
 |none=>exact aj
 |some t0=>
 cases hg with
 |none=>exact aj
 | @some d D k=>
 cases ax with
 |none=>exact aj
 | @some s S f=>
 refine(aA t0).bind ?_;rintro ay l1 dd _ ⟨rfl,aK⟩;clear aK;cases dd<;>first|exact aj|skip
 rename_i e;have k:=k.mono l1;have f:=f.mono l1;generalize a1[1]? =x1;have W:(∃b B l c,d=.slice b l c/\D=.slice B l c/\(dP (aS ay) b B\/l=0/\c=0/\∃A,b=some ⟨0,0,some 0⟩/\B=some A))\/∀b l c,d≠ .slice b l c:=by cases k<;>first|exact .inl ⟨_,_,_,_,rfl,rfl,.inr ⟨rfl,rfl,_,rfl,rfl⟩⟩|exact .inl ⟨_,_,_,_,rfl,rfl,.inl .none⟩|exact .inl ⟨_,_,_,_,rfl,rfl,.inl (.some (by assumption))⟩|exact .inr (by simp)
 obtain⟨b,B,l,c,rfl,rfl,j⟩|hno:=W;refine(bJ e).bind ?_
 rintro a8 l2 size _ rfl;have f:=f.mono l2;have k:=k.mono l2;have j:=j.imp_left λh=>h.mono λ_ _ x=>aS.mono l2 x;cases x1 with
 |none=>refine(xR f).bind ?_;rintro aM Y n _ ⟨rfl,hk⟩;have M:false=false->∀o c,s=.slice o 0 c->n=0:=λ_ o c e=>hk _ _ _ e;have f:=f.mono Y;have k:=k.mono Y;have j:=j.imp_left λh=>h.mono λ_ _ x=>aS.mono Y x;refine CE (λad=>?_) (λ_=>?_);obtain j|⟨rfl,rfl,A,rfl,rfl⟩:=j;refine(uX L _ e size _ f M).bind ?_;(intro p w vs VS C;have E:=j.mono λ_ _ x=>aS.mono w x;cases E with|none=>exact ai (.iT _ _)|some N=>refine(mA 0 (N.add _) C.toList).bind ?_;intro O F _ _ _;exact ai (.slice _ _ (N.mono F)));(have G:n=0:=by omega);subst G;refine(CF _ e size f).bind ?_;rintro p w _ _ ⟨rfl,rfl⟩;exact ai (.qZ _);refine(dC e).bind ?_;rintro p w i _ ⟨rfl,_⟩;refine de (.never (aB (aE _))) ?_;refine(dC e).bind ?_;rintro af l7 i2 _ ⟨rfl,_⟩;refine de (.never (aB (pV (aE _) (bI (zE _ _ _ _ _) λ_=>pV (bI (.mark _) λ_=>.halt _) (.halt _))))) ?_;refine(eK _).bind ?_;rintro ag l8 y _ rfl;refine(dC e).bind ?_;rintro ak l9 i3 _ ⟨rfl,_⟩;refine(rn _).bind ?_;intro Q H _ _ _;have g:=Ren.le_trans w (Ren.le_trans l7 (Ren.le_trans l8 (Ren.le_trans l9 H)));refine(mI _ _ (k.mono g) (λo c e=>by cases e;rfl)).bind ?_;intro R I old an q;refine(uX L _ e size _ ((f.mono g).mono I) M).bind ?_;intro T J vs VS C;refine(eD L e).bind ?_;rintro U r z _ ⟨rfl,hp⟩;refine(jc e (((VsR.mono r (VsR.mono J q)).append (VsR.mono r C)).append (fM (lX hp.cells _)))).bind ?_;intro V ao a A ha;exact ai (.slice _ _ ha)
 |some t1=>refine(aA t1).bind ?_;rintro aM Y d1 _ ⟨rfl,_⟩;have f:=f.mono Y;have k:=k.mono Y;have j:=j.imp_left λh=>h.mono λ_ _ x=>aS.mono Y x;refine SR.bind (R1:=EqQ) (ai rfl) ?_;rintro ba l4 K _ rfl;have f:=f.mono l4;have k:=k.mono l4;have j:=j.imp_left λh=>h.mono λ_ _ x=>aS.mono l4 x;refine CE (λar=>?_) (λbb=>?_);refine(jM f).bind ?_;(rintro aR Z m _ rfl;refine de (.never (aB (aE _))) ?_;refine(dC e).bind ?_;rintro a6 aa i _ ⟨rfl,_⟩;refine de (.never (bI (.choose _) λ_=>aB (aE _))) ?_;refine SR.bind (R1:=EqQ) (ai rfl) ?_;rintro a7 ab n _ rfl;have M:K=false->∀o c,s=.slice o 0 c->n=0:=λh=>by rw[h]at ar;cases ar);have f:=((f.mono Z).mono aa).mono ab;have k:=((k.mono Z).mono aa).mono ab;have j:=j.imp_left λh=>h.mono λ_ _ x=>((aS.mono Z x).mono aa).mono ab;refine CE (λad=>?_) (λ_=>?_);obtain j|⟨rfl,rfl,A,rfl,rfl⟩:=j;refine(uX L _ e size _ f M).bind ?_;(intro p w vs VS C;have E:=j.mono λ_ _ x=>aS.mono w x;cases E with|none=>exact ai (.iT _ _)|some N=>refine(mA 0 (N.add _) C.toList).bind ?_;intro O F _ _ _;exact ai (.slice _ _ (N.mono F)));(have G:n=0:=by omega);subst G;refine(CF _ e size f).bind ?_;rintro p w _ _ ⟨rfl,rfl⟩;exact ai (.qZ _);refine(dC e).bind ?_;rintro p w i _ ⟨rfl,_⟩;refine de (.never (aB (aE _))) ?_;refine(dC e).bind ?_;rintro af l7 i2 _ ⟨rfl,_⟩;refine de (.never (aB (pV (aE _) (bI (zE _ _ _ _ _) λ_=>pV (bI (.mark _) λ_=>.halt _) (.halt _))))) ?_;refine(eK _).bind ?_;rintro ag l8 y _ rfl;refine(dC e).bind ?_;rintro ak l9 i3 _ ⟨rfl,_⟩;refine(rn _).bind ?_;intro Q H _ _ _;have g:=Ren.le_trans w (Ren.le_trans l7 (Ren.le_trans l8 (Ren.le_trans l9 H)));refine(mI _ _ (k.mono g) (λo c e=>by cases e;rfl)).bind ?_;intro R I old an q;refine(uX L _ e size _ ((f.mono g).mono I) M).bind ?_;intro T J vs VS C;refine(eD L e).bind ?_;rintro U r z _ ⟨rfl,hp⟩;refine(jc e (((VsR.mono r (VsR.mono J q)).append (VsR.mono r C)).append (fM (lX hp.cells _)))).bind ?_;intro V ao a A ha;exact ai (.slice _ _ ha);refine(xR f).bind ?_;rintro aR Z n _ ⟨rfl,hk⟩;have M:K=false->∀o c,s=.slice o 0 c->n=0:=λ_ o c e=>hk _ _ _ e;have f:=f.mono Z;have k:=k.mono Z;have j:=j.imp_left λh=>h.mono λ_ _ x=>aS.mono Z x;refine CE (λad=>?_) (λ_=>?_);obtain j|⟨rfl,rfl,A,rfl,rfl⟩:=j;refine(uX L _ e size _ f M).bind ?_;(intro p w vs VS C;have E:=j.mono λ_ _ x=>aS.mono w x;cases E with|none=>exact ai (.iT _ _)|some N=>refine(mA 0 (N.add _) C.toList).bind ?_;intro O F _ _ _;exact ai (.slice _ _ (N.mono F)));(have G:n=0:=by omega);subst G;refine(CF _ e size f).bind ?_;rintro p w _ _ ⟨rfl,rfl⟩;exact ai (.qZ _);refine(dC e).bind ?_;rintro p w i _ ⟨rfl,_⟩;refine de (.never (aB (aE _))) ?_;refine(dC e).bind ?_;rintro af l7 i2 _ ⟨rfl,_⟩;refine de (.never (aB (pV (aE _) (bI (zE _ _ _ _ _) λ_=>pV (bI (.mark _) λ_=>.halt _) (.halt _))))) ?_;refine(eK _).bind ?_;rintro ag l8 y _ rfl;refine(dC e).bind ?_;rintro ak l9 i3 _ ⟨rfl,_⟩;refine(rn _).bind ?_;intro Q H _ _ _;have g:=Ren.le_trans w (Ren.le_trans l7 (Ren.le_trans l8 (Ren.le_trans l9 H)));refine(mI _ _ (k.mono g) (λo c e=>by cases e;rfl)).bind ?_;intro R I old an q;refine(uX L _ e size _ ((f.mono g).mono I) M).bind ?_;intro T J vs VS C;refine(eD L e).bind ?_;rintro U r z _ ⟨rfl,hp⟩;refine(jc e (((VsR.mono r (VsR.mono J q)).append (VsR.mono r C)).append (fM (lX hp.cells _)))).bind ?_;intro V ao a A ha;exact ai (.slice _ _ ha)
 cases d<;>first|exact aj|exact absurd rfl (hno _ _ _)
end
section
variable {S:Kn} {P:Program} {fs:Array Func} {π:Ren P.globals.size} {G:Nat} {ρ:Ren G}
def pa(b n):∀{π:Ren P.globals.size} (t) {x X},aw π x X->(SR S (ah P fs) P) EqQ π (Instr.checkKey b n t x) (Instr.checkKey b n t X):=by
 induction n with
 |zero=>intros;exact aD
 |succ n m=>
  intro π t x X h;unfold Instr.checkKey;refine(aA t).bind ?_;rintro j y d _ ⟨rfl,A⟩;clear A;have h:=h.mono y;cases d with
  |interface L=>(cases h<;>first|exact aj|exact ai rfl|skip);rename_i B v V D;simp only[];refine(dC B).bind ?_;rintro E F i _ ⟨rfl,_⟩;split;split;exact .never (aB (aE _));exact .never (bI (rU _) λ_=>aB (aE _));exact m _ (D.mono F)
  |array len e=>(cases h<;>first|exact aj|skip);(rename_i c C o p;have a:VsR j c C:=⟨o,p⟩);simp only[Yi];refine SR.bind (R1:=EqQ) (je _ _ λg k f s=>?_) ?_;refine(bJ _).bind ?_;rintro H I z _ rfl;refine(gH _ _ (VsR.mono I (VsR.mono k a))).bind ?_;intro q J u U r;refine(m _ r).bind ?_;rintro w K b _ _;exact ai rfl;rintro g k s _ rfl;exact ai rfl
  |struct l=>(cases h<;>first|exact aj|skip);(rename_i c C o p;have a:VsR j c C:=⟨o,p⟩);simp only[];rw[<-Wo,<-Wo];refine SR.bind (R1:=EqQ) (je _ _ λg k f s=>?_) ?_;refine de ?_ (ai rfl);refine(gH _ _ (VsR.mono k a)).bind ?_;intro q J u U r;refine(m _ r).bind ?_;rintro w K b _ _;exact ai rfl;rintro g k s _ rfl;exact ai rfl
  |_=>cases h<;>exact ai rfl
abbrev CI{G}(π:Ren G):Nat×Zj->Nat×Zj->Prop:=λa b=>a.1=b.1/\aw π a.2 b.2
def uY(k){x X y Y}(a:aw ρ x X)(b:aw ρ y Y)(c:x≠ .tuple #[])(d:y≠ .tuple #[]):Instr.sameNow k x y=Instr.sameNow k X Y:=by cases a<;>(try exact absurd rfl c)<;>cases b<;>(try exact absurd rfl d)<;>first|rfl|(cases k<;>rfl)
def KB(k y):Instr.sameNow k (.tuple #[]) y=none:=by cases k<;>rfl
def KC(k x):Instr.sameNow k x (.tuple #[])=none:=by cases k<;>cases x<;>rfl
def EJ(k){x X}(d:aw ρ x X){l L}(f:bp (iU ρ) l L):∀i,dP (dP (CI ρ)) (Instr.findNow k x l i) (Instr.findNow k X L i)\/Instr.findNow k x l i=none:=by induction f with|nil=>intro i;exact .inl (.some .none)| @cons e E l L a _ g=>intro i;unfold Instr.findNow;by_cases b:x=.tuple #[];rw[b,KB];exact .inr rfl;by_cases c:e.key=.tuple #[];rw[c,KC];exact .inr rfl;rw[uY k d a.key b c];split;exact .inl (.some (.some ⟨rfl,a.val⟩));exact g _;exact .inl .none
def EL(t){d}(c:P.underlying t=some d){x y b}(h:Instr.sameNow d x y=some b){a g Q}{f:Bool->Sem a}{s':Sem g}(i:(SR S (ah P fs) P) Q π (f b) s'):(SR S (ah P fs) P) Q π (Op.equal t x y>>= f) s':=by
 have e:∃k:Program->Sem a,(Op.equal t x y>>= f)=.program k/\k (ah P fs)=f b:=by
  unfold Op.equal Op.maxDepth Op.equalIn underlying;refine⟨_,rfl,?_⟩;simp only[Sem.bind,jX,c,Pure.pure];cases d<;>cases x<;>first
   |(simp[Instr.sameNow]at h;done)
   |(cases y<;>first
    |(simp[Instr.sameNow]at h;done)
    |(simp only[Instr.sameNow,Vw]at h;subst h;simp only[Sem.bind,Pure.pure])
    |(simp only[Instr.sameNow]at h;split at h
      .rename_i j;simp only[Vw]at h;subst h;subst j;simp only[Sem.bind,Pure.pure,UW]
      .cases h))
 obtain⟨k,e1,l⟩:=e;rw[e1];refine .kX ?_;rw[l];exact i
def KD(t){d}(n:P.underlying t=some d){x X}(o:aw π x X){l L}(p:bp (iU π) l L):∀(i) (r),Instr.findNow d X L i=some r->(SR S (ah P fs) P) (λc a b=>dP (CI c) a b) π (Instr.findAsking t x l i) (pure r):=by induction p with|nil=>intro i r h;simp only[Instr.findNow,Vw]at h;subst h;exact ai .none| @cons e E l L f _ q=>intro i r h;unfold Instr.findAsking;unfold Instr.findNow at h;by_cases g:x=.tuple #[];rw[g];exact .never (aB (mG _ _));by_cases j:e.key=.tuple #[];rw[j];exact .never (aB (mH _ _));have k:=uY d o f.key g j;cases m:Instr.sameNow d X E.key with|none=>rw[m]at h;cases h|some b=>rw[m]at h k;refine EL t n k ?_;cases b with|true=>simp only[Vw]at h;subst h;exact ai (.some ⟨rfl,f.val⟩)|false=>exact q _ _ h
def qN(t){l L}:∀{π:Ren P.globals.size} {x X} (i),aw π x X->bp (iU π) l L->(SR S (ah P fs) P) (λd a b=>dP (CI d) a b) π (Instr.findAsking t x l i) (Instr.findAsking t X L i):=by induction l generalizing L with|nil=>intro π x X i f c;cases c;exact ai .none|cons e l j=>intro π x X i f c;cases c with|cons h c=>unfold Instr.findAsking;refine(xx t f h.key).bind ?_;rintro k g b _ rfl;refine de (ai (.some ⟨rfl,h.val.mono g⟩)) ?_;exact j _ (f.mono g) (c.mono λ_ _ x=>iU.mono g x)
def rE(t){x X}(g:aw π x X){l L}(j:bp (iU π) l L):(SR S (ah P fs) P) (λi a b=>dP (CI i) a b) π (Instr.findKey t x l) (Instr.findKey t X L):=by unfold Instr.findKey;refine(aA t).bind ?_;rintro k e d _ ⟨rfl,m⟩;have c:=j.mono λ_ _ x=>iU.mono e x;have h:=EJ d (g.mono e) c 0;have f:=KD (S:=S) (fs:=fs) t m (g.mono e) c 0;generalize Instr.findNow d x l 0=u at*;generalize Instr.findNow d X L 0=v at*;obtain h|rfl:=h;(cases h with|some h=>exact ai h|none=>exact qN t 0 (g.mono e) c);cases v with|none=>exact qN t 0 (g.mono e) c|some r=>exact f r rfl
def Nq{x X:Zj}(g:aw π x X){b c:Type}{Q:Ren P.globals.size->b->c->Prop}{s:String}{f:Array MapEntry->Sem b}{F:Array MapEntry->Sem c} (d:∀a,Ren.le π a->∀es e,aY (iU a) es e->(SR S (ah P fs) P) Q a (f es) (F e)):(SR S (ah P fs) P) Q π (do
  let es <-match x with
   | .map none=>pure #[]
   | .map (some r)=>do
    let .map es _ <-getObj r|stuck s
    pure es
   |_=>stuck s
  f es) (do
  let es <-match X with
   | .map none=>pure #[]
   | .map (some r)=>do
    let .map es _ <-getObj r|stuck s
    pure es
   |_=>stuck s
  F es):=by
 cases g with
 |Mv=>exact d _ (Ren.le_refl _) _ _ .empty
 |map h=>
  refine(cJ h).bind ?_;intro i j o O k;cases k with
  |map n h=>exact d _ j _ _ h
  |_=>exact .never (aB (.halt _))
 |_=>exact .never (aB (.halt _))
def KE(n:dH P)(t i){x X y Y}(j:aw π x X)(e:aw π y Y):(SR S (ah P fs) P) VQ π (Instr.lookup t x y i) (Instr.lookup t X Y i):=by (unfold Instr.lookup;refine(aA t).bind ?_;rintro o l d _ ⟨rfl,A⟩;cases d<;>first|exact aj|skip);(rename_i key elem;have j:=j.mono l;have e:=e.mono l;refine Nq j ?_;intro p q es ES f;have g:es.isEmpty=ES.isEmpty:=by simp only[Array.isEmpty,f.1]);(rw[g];have e:=e.mono q;refine(pa _ _ _ e).bind ?_;intro r m _ _ _;refine(rE _ (e.mono m) (f.toList.mono λ_ _ x=>iU.mono m x)).bind ?_;intro s B u v k;have c:∀{a:Ren P.globals.size} (v V:Zj) (b:Bool),aw a v V->aw a (if i then .tuple #[v,.bool b]else v) (if i then .tuple #[V,.bool b]else V):=by intro a v V b h;split;exact aw.tuple' (aY.push (aY.push aY.empty h) (.bool b));exact h);cases k with|none=>refine(eD n elem).bind ?_;rintro a C z _ ⟨rfl,w⟩;exact ai (c _ _ _ (w _ _))|some h=>exact ai (c _ _ _ h.2)
def CJ(n):∀{x X y Y},aw ρ x X->aw ρ y Y->Instr.sameBits n x y=true->Instr.sameBits n X Y=true:=by
 have f:∀{r R s Z:Nat},ρ r R->ρ s Z->(some r==some s)=(some R==some Z):=by (intro r R s Z h i;have e:r=s↔R=Z:=⟨λe=>by subst e;exact ρ.fn _ _ _ h i,λe=>by subst e;exact ρ.inj _ _ _ h i⟩);rw[VY];simp[e]
 have g:∀{a A b B:Addr},aS ρ a A->aS ρ b B->(some a==some b)=(some A==some B):=by intro a A b B h i;have:=(h.eq i).2;rw[VY]at this⊢;simpa using this
 induction n with
 |zero=>intro x X y Y j k h;cases j<;>cases k<;>first|exact h|(simp[Instr.sameBits]at h;done)|exact(g (by assumption) (by assumption)).symm.trans h|exact(f (by assumption) (by assumption)).symm.trans h
 |succ n v=>(intro x X y Y j k h;cases j<;>cases k<;>first|exact h|(simp[Instr.sameBits]at h;done)|exact(g (by assumption) (by assumption)).symm.trans h|exact(f (by assumption) (by assumption)).symm.trans h|skip);rename_i o _ _ _ p;unfold Instr.sameBits at h⊢;simp only[UT]at h⊢;exact⟨h.1,v o p h.2⟩;rename_i c C w o d D z p;(have E:=aY.toList ⟨w,o⟩;have F:=aY.toList ⟨z,p⟩;have key:∀{l L m M:List Zj},bp (aw ρ) l L->bp (aw ρ) m M->((l.zip m).all λ(x,y)=>Instr.sameBits n x y)=true->((L.zip M).all λ(x,y)=>Instr.sameBits n x y)=true:=by intro l L m M H;induction H generalizing m M with|nil=>intro _ _;rfl|cons h _ q=>intro t u;cases t with|nil=>rfl|cons i t=>simp only[List.zip_cons_cons,W9,UT]at u⊢;exact⟨v h i u.1,q t u.2⟩);unfold Instr.sameBits at h⊢;simp only[UT]at h⊢;rw[w,z]at h;exact⟨h.1,key E F h.2⟩
def og{x X y Y}(b:aw π x X)(a:aw π y Y):(SR S (ah P fs) P) VQ π (Instr.keyThatStays x y) (Instr.keyThatStays X Y):=by unfold Instr.keyThatStays;have d:=CJ 10000 b a;generalize Instr.sameBits 10000 x y=u at*;generalize Instr.sameBits 10000 X Y=v at*;cases u with|true=>rw[d rfl];exact ai a|false=>cases v with|true=>exact .nA 0 (n:=0) (λf g h=>by cases h) rfl (ai a)|false=>simp only[U7,U5];refine(eK _).bind ?_;rintro e c n _ rfl;refine ai ?_;split;exact a.mono c;exact b.mono c
def pb{R es a}(h:aY R es a)(i){f F:MapEntry->MapEntry}(c:∀e E,R e E->R (f e) (F E)):aY R (es.modify i f) (a.modify i F):=aY.mj λj=>by rw[VF,VF];have b:=h.get j;split;generalize es[j]? =u at*;(generalize a[j]? =v at*;cases b with|none=>exact .none|some r=>exact .some (c _ _ r));exact b
def Az{es a}(h:aY (iU ρ) es a)(i:Nat){k K}(b:aw ρ k K):aw ρ (((es[i]?).map (·.key)).getD k) (((a[i]?).map (·.key)).getD K):=by have c:=h.get i;generalize es[i]? =u at*;generalize a[i]? =v at*;cases c with|none=>exact b|some r=>exact r.key
def Hv{es a}(h:aY (iU ρ) es a)(i:Nat){b:Type}(f:Nat->b)(d):(((a[i]?).map (λx=>f x.born)).getD d)=(((es[i]?).map (λx=>f x.born)).getD d):=by have c:=h.get i;generalize es[i]? =u at*;generalize a[i]? =v at*;cases c with|none=>rfl|some r=>exact Vj f r.born.symm
def sR(t){x X k K v V}(m:aw π x X)(b:aw π k K)(c:aw π v V):(SR S (ah P fs) P) EqQ π (Instr.mapUpdate t x k v) (Instr.mapUpdate t X K V):=by
 unfold Instr.mapUpdate;refine(aA t).bind ?_;rintro s g d _ ⟨rfl,M⟩;cases d<;>first|exact aj|skip
 rename_i key elem;have m:=m.mono g;cases m with
 |Mv=>exact dk
 |map h=>
  refine(cJ h).bind ?_;intro A j o O B;cases B with
  | @map es N n a=>refine(pa _ _ _ ((b.mono g).mono j)).bind ?_;intro C l _ _ _;have b:=((b.mono g).mono j).mono l;have c:=((c.mono g).mono j).mono l;have a:=a.mono λ_ _ x=>iU.mono l x;have h:=l _ _ (j _ _ h);refine(rE _ b a.toList).bind ?_;intro D f u w p;have b:=b.mono f;have c:=c.mono f;have a:=a.mono λ_ _ x=>iU.mono f x;cases p with|none=>exact eL (f _ _ h) (by simp) (.map _ (a.push ⟨b,c,rfl⟩))| @some u w F=>obtain⟨i,y⟩:=u;obtain⟨Q,Y⟩:=w;obtain⟨r,H⟩:=F;simp only[]at r H;subst r;refine(og (Az a i b) b).bind ?_;intro I q z Z J;exact eL (q _ _ (f _ _ h)) (by simp) (.map _ (pb (a.mono λ_ _ x=>iU.mono q x) i λe E L=>⟨J,c.mono q,L.born⟩))
  |_=>exact aj
 |_=>exact aj
def EM(l:dH P)(t){x X k K}(m:aw π x X)(c:aw π k K):(SR S (ah P fs) P) VQ π (Instr.mapEntry t x k) (Instr.mapEntry t X K):=by
 unfold Instr.mapEntry;refine(aA t).bind ?_;rintro H p d _ ⟨rfl,R⟩;cases d<;>first|exact aj|skip
 rename_i key elem;have m:=m.mono p;cases m with
 |Mv=>exact dk
 |map h=>
  refine(cJ h).bind ?_;intro I q o O J;cases J with
  | @map es T b a=>refine(pa _ _ _ ((c.mono p).mono q)).bind ?_;intro L r _ _ _;have c:=((c.mono p).mono q).mono r;have a:=a.mono λ_ _ x=>iU.mono r x;have h:=r _ _ (q _ _ h);refine(rE _ c a.toList).bind ?_;intro M j u w s;have c:=c.mono j;have a:=a.mono λ_ _ x=>iU.mono j x;cases s with|none=>refine(eD l elem).bind ?_;rintro f g z _ ⟨rfl,A⟩;refine(eL (g _ _ (j _ _ h)) (by simp) (.map _ (aY.push (a.mono λ_ _ x=>iU.mono g x) (⟨c.mono g,A _ _,rfl⟩:iU f ⟨k,z,b⟩ ⟨K,z,b⟩)))).bind ?_;intro v B _ _ _;exact ai (aw.tuple' (aY.push (aY.push aY.empty (A _ _)) (.int _ _)))| @some u w N=>obtain⟨i,y⟩:=u;obtain⟨U,Y⟩:=w;obtain⟨C,D⟩:=N;simp only[]at C D;subst C;refine(og (Az a i c) c).bind ?_;intro f g z Z l;refine(eL (g _ _ (j _ _ h)) (by simp) (.map _ (pb (a.mono λ_ _ x=>iU.mono g x) i λe E F=>(⟨l,F.val,F.born⟩:iU f {e with key:=z} {E with key:=Z})))).bind ?_;intro v B _ _ _;have Q:=Hv a i (λn:Nat=>(n:Int)) 0;rw[Q];exact ai (aw.tuple' (aY.push (aY.push aY.empty ((D.mono g).mono B)) (.int _ _)))
  |_=>exact aj
 |_=>exact aj
def EN{es a}(h:aY (iU ρ) es a)(b):a.findIdx? (λe=>(e.born:Int)==b)=es.findIdx? (λe=>(e.born:Int)==b):=by have:=h.toList;obtain⟨l⟩:=es;obtain⟨L⟩:=a;simp only[List.findIdx?_toArray];simp only[]at this;clear h;induction this with|nil=>rfl|cons c _ d=>rw[List.findIdx?_cons,List.findIdx?_cons,c.born,d]
def zF(t){x X k K v V}(g:aw π x X)(i:aw π k K)(j:aw π v V):(SR S (ah P fs) P) EqQ π (Instr.entryStore t x k v) (Instr.entryStore t X K V):=by
 unfold Instr.entryStore;cases g with
 |map h=>refine(cJ h).bind ?_;intro l b o O m;cases m with| @map es q c a=>refine(jM (i.mono b)).bind ?_;rintro p d n _ rfl;have a:=a.mono λ_ _ x=>iU.mono d x;rw[EN a];split;exact eL (d _ _ (b _ _ h)) (by simp) (.map _ (pb a _ λe E f=>⟨f.key,(j.mono b).mono d,f.born⟩));exact aD|_=>exact aj
 |_=>exact aj
def Nr(t){x X}(b:aw π x X):(SR S (ah P fs) P) VQ π (Instr.range t x) (Instr.range t X):=by
 unfold Instr.range;refine(aA t).bind ?_;rintro e f d _ ⟨rfl,g⟩;clear g;have b:=b.mono f;have fin:∀{a:Ren P.globals.size} {o O:Obj},fV S a o O->(SR S (ah P fs) P) VQ a (do pure (.pointer (some ⟨<-newObj o,0,none⟩))) (do pure (.pointer (some ⟨<-newObj O,0,none⟩))):=by intro a o O c;refine(iv c).bind ?_;intro i m r R j;exact ai (.ptr (.mk j))
 cases d with
 |string=>cases b<;>first|exact fin (.stringIter _ _)|exact .never (aB (.halt _))
 |map=>(cases b<;>first|exact fin (.fK _ _ _)|exact .never (aB (.halt _))|skip);rename_i r R h;refine(cJ h).bind ?_;intro a k o O c;cases c with|map n l=>exact fin (.mapIter _ _ _ (k _ _ h))|_=>exact .never (aB (.halt _))
 |_=>cases b<;>exact .never (aB (.halt _))
def bp.filter{b c R l m}(h:bp R l m){p:b->Bool}{q:c->Bool}(d:∀x y,R x y->p x=q y):bp R (l.filter p) (m.filter q):=by induction h with|nil=>exact .nil|cons h _ a=>rw[V9,V9,d _ _ h];split;exact .cons h a;exact a
def aY.filter{a b R l m}(h:aY R l m){p:a->Bool}{q:b->Bool}(c:∀x y,R x y->p x=q y):aY R (l.filter p) (m.filter q):=by have:=(h.toList.filter c).toArray;obtain⟨l⟩:=l;obtain⟨m⟩:=m;simpa using this
def aY.all{a b R l m}(h:aY R l m){p:a->Bool}{q:b->Bool}(c:∀x y,R x y->p x=q y):l.all p=m.all q:=by have d:=h.toList;obtain⟨l⟩:=l;obtain⟨m⟩:=m;simp only[U9,List.all_toArray']at*;clear h;induction d with|nil=>rfl|cons h _ e=>rw[W9,W9,c _ _ h,e]
def aY.find{a b R l m}(h:aY R l m){p:a->Bool}{q:b->Bool}(c:∀x y,R x y->p x=q y):dP R (l.find? p) (m.find? q):=by have d:=h.toList;obtain⟨l⟩:=l;obtain⟨m⟩:=m;simp only[List.find?_toArray]at*;clear h;induction d with|nil=>exact .none|cons h _ e=>rw[List.find?_cons,List.find?_cons,c _ _ h];split;exact .some h;exact e
def aY.isEmpty{a b R}{l:Array a}{m:Array b}(h:aY R l m):l.isEmpty=m.isEmpty:=by simp only[Array.isEmpty,h.1]
def Ns{x X}(j:aw π x X):(SR S (ah P fs) P) VQ π (Instr.entry x) (Instr.entry X):=by
 unfold Instr.entry;cases j with
 |ptr h=>
  cases h with
  | @mk r R o p h=>
   cases o with
   |succ=>exact aj
   |zero=>
   refine(cJ h).bind ?_;intro k t ob w f;cases f with
   |mapIter a seen c l=>
    simp only[];cases seen.back? with
    |none=>exact aj
    |some b=>
     simp only[];refine(cJ l).bind ?_;intro m y o O f;cases f with
     | @map es n g i=>simp only[];split;exact .never (aB (.halt _));(have s:=i.find (p:=λe=>e.born==b) (q:=λe=>e.born==b) λe E d=>by rw[d.born]);generalize es.find? _=u at*;generalize n.find? _=v at*;cases s with|none=>exact aD|some d=>exact ai (aw.tuple' (aY.push (aY.push aY.empty d.key) d.val))
     |_=>exact aj
   |_=>exact aj
 |_=>exact aj
def Qc(b t){x X}(H:aw π x X):(SR S (ah P fs) P) VQ π (Instr.next x b t) (Instr.next X b t):=by
 unfold Instr.next;cases H with
 |ptr h=>
  cases h with
  | @mk r R o p h=>
   cases o with
   |succ=>exact aj
   |zero=>
   refine(cJ h).bind ?_;intro I J ob N z;have h:=J _ _ h;cases z with
   |stringIter s pos=>cases b with|false=>exact aj|true=>refine de ?_ (ai (aw.tuple' (aY.push aY.empty (.bool _))));refine(eL h (by simp) (.stringIter _ _)).bind ?_;intro j A _ _ _;exact ai (aw.tuple' (aY.push (aY.push (aY.push aY.empty (.bool _)) (.int _ _)) (.int _ _)))
   |fK=>cases b with|true=>exact aj|false=>exact ai (aw.tuple' (aY.push aY.empty (.bool _)))
   |mapIter a seen last w=>
    cases b with
    |true=>exact aj
    |false=>
     refine(cJ w).bind ?_;intro j A o O z;have h:=A _ _ h;have w:=A _ _ w;cases z with
     | @map es K B i=>simp only[];rw[<-i.isEmpty,<-i.all (p:=λe=>decide (e.born>=last)) (q:=λe=>decide (e.born>=last)) λe E c=>by rw[c.born]];split;exact .never (aB (.halt _));(have d:=i.filter (p:=λe=> !seen.contains e.born) (q:=λe=> !seen.contains e.born) λe E c=>by rw[c.born]);(generalize es.filter (λe=> !seen.contains e.born)=left at*;generalize K.filter (λe=> !seen.contains e.born)=f at*;have g:=d.filter (p:=λe=>decide (e.born<a)) (q:=λe=>decide (e.born<a)) λe E c=>by rw[c.born]);(have k:=d.filter (p:=λe=>decide (e.born>=a)) (q:=λe=>decide (e.born>=a)) λe E c=>by rw[c.born]);(generalize left.filter (λe=>decide (e.born<a))=old at*;generalize f.filter (λe=>decide (e.born<a))=l at*;generalize left.filter (λe=>decide (e.born>=a))=new at*;generalize f.filter (λe=>decide (e.born>=a))=m at*;rw[<-g.isEmpty];have D:aY (dP (iU j)) ((if old.isEmpty then #[none]else #[])++(old++new).map some) ((if old.isEmpty then #[none]else #[])++(l++m).map some):=by refine aY.append ?_ ((g.append k).map λ_ _=>.some);split;exact aY.push aY.empty .none;exact .empty);generalize ((if old.isEmpty then #[none]else #[])++(old++new).map some)=cs at*;generalize ((if old.isEmpty then #[none]else #[])++(l++m).map some)=CS at*;rw[<-D.1];refine(eK _).bind ?_;rintro L y n _ rfl;have C:=D.get n;generalize cs[n]? =u at*;generalize CS[n]? =v at*;cases C with|none=>exact aj|some C=>cases C with|none=>exact ai (aw.tuple' (aY.push aY.empty (.bool _)))|some c=>simp only[c.born];refine(eL (y _ _ h) (by simp) (.mapIter _ _ _ (y _ _ w))).bind ?_;intro M F _ _ _;exact ai (aw.tuple' (aY.push (aY.push (aY.push aY.empty (.bool _)) ((c.key.mono y).mono F)) ((c.val.mono y).mono F)))
     |_=>exact aj
   |_=>cases b<;>exact aj
 |_=>exact aj
end
def Hw(g:Func):Prop:=g.name= "" /\g.origin= "" /\g.body=none
def Hw.find{g}(h:Hw g):Extern.find g=none:=by (unfold Extern.find;have a:List.lookup "" Extern.allGenericRows=none:=by kernel_rfl);(have b:List.lookup "" Extern.allTypedRows=none:=by kernel_rfl);(have c:List.lookup "" Extern.allRows=none:=by kernel_rfl);simp only[h.1,h.2.1,a,b,c];rfl
def Hw.findNext{g}(h:Hw g):Extern.findNext g=none:=by (unfold Extern.findNext;have a:List.lookup "" Extern.allNextRows=none:=by kernel_rfl);simp only[h.1,h.2.1,a];rfl
def pc(v)(h:gp v=true):Plain v:=by
 intro G π
 match v with
 | .bool _=>exact .bool _
 | .int .. =>exact .int _ _
 | .float .. =>exact .float _ _
 | .complex .. =>exact .complex _ _ _
 | .string _=>exact .string _
 | .pointer none=>exact .JZ
 | .slice none _ _=>exact .iT _ _
 | .map none=>exact .Mv
 | .chan none=>exact .Sm
 | .nilFunc=>exact .nilFunc
 | .nilIface=>exact .nilIface
 | .tuple c=>(have e:c=#[]:=by simpa[gp]using h);rw[e];exact aw.tuple' .empty
 | .iface .. =>simp[gp]at h
 | .agg _=>simp[gp]at h
 | .func .. =>simp[gp]at h
 | .pointer (some _)=>simp[gp]at h
 | .slice (some _) _ _=>simp[gp]at h
 | .map (some _)=>simp[gp]at h
 | .chan (some _)=>simp[gp]at h
inductive NxR(S:Kn){G:Nat}(π:Ren G):Next->Next->Prop
 |value {v V:Zj}:aw π v V->NxR S π (.value v) (.value V)
 |skip:NxR S π .skip .skip
 |enter (f:FuncId) {a A:Zq}:S.stop f=true\/S.ent f=true->(S.stop f=true->a.size=1)->VsR π a A->NxR S π (.enter f a) (.enter f A)
 |round {l L:Nat} (f:FuncId) {t T:Zq} (as body:Code):S.ent f=true->π l L->VsR π t T->S.code as->S.code body->NxR S π (.round l f t as body) (.round L f T as body)
structure Tab(S:Kn)(P:Program)(fs:Array Func):Prop where
 zero:dH P
 size:fs.size=P.funcs.size
 bad:P.underlying ra=none
 xT:S.dF 0=true
 ent:∀f,S.ent f=true->S.stop f=false/\∃g c,fs[f]? =some {g with body:=some (ia c)}/\P.funcs[f]? =some g/\g.name≠ "runtime.NumGoroutine" /\g.body=some c/\iW S c=true
 stop:∀f,S.stop f=true->f=kV/\∃g h,fs[f]? =some g/\P.funcs[f]? =some h/\g.name≠ "runtime.NumGoroutine" /\h.name≠ "runtime.NumGoroutine" /\g.body.isSome=true/\h.body.isSome=true
 rest:∀f g,fs[f]? =some g->S.ent f=true\/S.stop f=true\/Hw g\/
  (P.funcs[f]? =some g/\g.name≠ "runtime.NumGoroutine" /\g.body=none/\Extern.findNext g=none/\∃e,Extern.find g=some e/\∀(π:Ren P.globals.size),(∀g,S.dF g=true->π g g)->∀(a A:Zq),VsR π a A->SR S (ah P fs) P VQ π (e a) (e A))
section
variable {S:Kn} {P:Program} {fs:Array Func} {π:Ren P.globals.size}
abbrev NQ(S:Kn){G}:Ren G->Next->Next->Prop:=λπ a A=>NxR S π a A
def bZ{s T}(h:(SR S (ah P fs) P) VQ π s T):(SR S (ah P fs) P) (NQ S) π (do pure (.value (<-s))) (do pure (.value (<-T))):=h.bind λ_ _ _ _ a=>ai (.value a)
def sT{s T}(h:(SR S (ah P fs) P) EqQ π s T):(SR S (ah P fs) P) (NQ S) π (do s;pure .skip) (do T;pure .skip):=h.bind λ_ _ _ _ _=>ai .skip
def uZ(d:Tab S P fs)(v:∀g,S.dF g=true->π g g)(f:FuncId){a A}(i:f=kV->a.size=1)(h:VsR π a A):(SR S (ah P fs) P) (NQ S) π (callFunc f a) (callFunc f A):=by unfold callFunc;refine cu.bind ?_;rintro w s _ _ ⟨rfl,rfl⟩;have h:=VsR.mono s h;rw[show(ah P fs).funcs=fs from rfl];cases m:fs[f]? with|none=>exact aj|some g=>simp only[];obtain j|j|k|⟨n,l,t,y,e,z,o⟩:=d.rest f g m;obtain⟨_,g',c,e1,p,l,B,_⟩:=d.ent f j;(rw[m]at e1;cases e1;rw[p];have b:¬(g'.name== "runtime.NumGoroutine")=true:=by simpa using l);simp only[b,U5,B];exact ai (.enter f (.inr j) (λx=>i (d.stop f x).1) h);obtain⟨_,u,g',e1,p,l,q,t,C⟩:=d.stop f j;rw[m]at e1;cases e1;rw[p];simp only[];rw[UG (c:=(g.name== "runtime.NumGoroutine")=true) (by simpa using l),UG (c:=(g'.name== "runtime.NumGoroutine")=true) (by simpa using q),UG (c:=g.body.isNone=true) (by cases r:g.body<;>simp_all),UG (c:=g'.body.isNone=true) (by cases r:g'.body<;>simp_all)];exact ai (.enter f (.inl j) (λx=>i (d.stop f x).1) h);refine .never ?_;rw[UG (by rw[k.1];decide),UH (by rw[k.2.2];rfl)];refine bI (.mark _) λ_=>?_;rw[k.findNext,k.find,k.1];simp only[];rw[UG (by decide)];exact .halt _;rw[n];(simp only[];have b:¬(g.name== "runtime.NumGoroutine")=true:=by simpa using l);simp only[b,U5];rw[t,y,z];simp only[Option.isNone_none,UW];refine SR.extern ?_;exact bZ (o _ (λg r=>s _ _ (v g r)) _ _ h)
def qO:cQ Instr.panicnil:=by unfold Instr.panicnil;exact xm
def Hy(c:dH P)(b)(d:pO b=true)(ts t cs){a A}(h:VsR π a A):(SR S (ah P fs) P) (NQ S) π (builtin b ts t cs a) (builtin b ts t cs A):=by cases b<;>simp only[pO,U7]at d;exact bZ (KA c _ _ h);exact bZ (Ru _ _ h);exact bZ (P9 _ _ h);exact bZ (Rs _ _ h);exact bZ (Rx _ _ h);exact bZ (Rv _ _ h);refine .never (aB ?_);unfold Instr.panic;split;exact .halt _;exact bI qO λ_=>pV (.halt _) (aE _);exact .halt _;exact bZ (wh _ _ h)
def lu{l L}(h:π l L):(SR S (ah P fs) P) (λc a b=>DO S c a b) π (Instr.getLoop l) (Instr.getLoop L):=by unfold Instr.getLoop;refine(cJ h).bind ?_;intro d f o O e;cases e with|loop h=>exact ai h|_=>exact aj
def CK{t T:Zq}{l:List (Tmp×Zj)}:∀{t T} {L:List (Tmp×Zj)},VsR π t T->bp (lT π) l L->VsR π (l.foldl (λt (x)=>t.setIfInBounds x.1 x.2) t) (L.foldl (λt (x)=>t.setIfInBounds x.1 x.2) T):=by induction l with|nil=>intro t T L b a;cases a;exact b|cons x l c=>intro t T L b a;cases a with|cons h a=>simp only[XW];rw[<-h.1];exact c (b.set _ h.2) a
def Hz{b:Array Tmp}{a A}(h:VsR π a A):bp (lT π) (b.zip a).toList (b.zip A).toList:=by have c:=h.toList;obtain⟨b⟩:=b;obtain⟨a⟩:=a;obtain⟨A⟩:=A;simp only[List.zip_toArray]at*;clear h;induction c generalizing b with|nil=>cases b<;>exact .nil|cons h _ d=>cases b with|nil=>exact .nil|cons p b=>exact .cons ⟨rfl,h⟩ (d b)
def Nt{l L}(h:π l L){a A}(c:VsR π a A):(SR S (ah P fs) P) (NQ S) π (Instr.yield l a) (Instr.yield L A):=by unfold Instr.yield;refine(lu h).bind ?_;intro e d r R b;rw[<-c.1,<-b.params];simp only[];split;exact .never (aB (.halt _));rw[<-b.fn,<-b.assign,<-b.body];refine ai (.round _ _ _ b.ent (d _ _ h) ?_ b.Sp b.Sq);rw[<-Xr,<-Xr];exact CK (t:=#[]) (T:=#[]) b.tmps (Hz (VsR.mono d c))
def EvR(S:Kn){G}(π:Ren G)(ρ R:Operand->Zj):Prop:=∀x,cE S x=true->aw π (ρ x) (R x)
def EvR.row{ρ R}(h:EvR S π ρ R){xs:Array Operand}(a:xs.all (cE S)=true):VsR π (xs.map ρ) (xs.map R):=by rw[WJ]at a;refine aY.mj λi=>?_;rw[Vk,Vk];cases b:xs[i]? with|none=>exact .none|some x=>exact .some (h x (a x (VI b)))
def vc(k:Tab S P fs)(l:∀g,S.dF g=true->π g g){x X}(m:aw π x X){a A}(h:VsR π a A):(SR S (ah P fs) P) (NQ S) π (do let d <-Deferred.ofValue x a;invoke d.target d.args) (do let d <-Deferred.ofValue X A;invoke d.target d.args):=by
 cases m with
 |nilFunc=>(have e:(do let d <-Deferred.ofValue .nilFunc a;invoke d.target d.args:Sem Next)=runtimePanic .nilDeref:=by simp only[Deferred.ofValue,pure_bind,invoke]);rw[e];exact dk
 |func o i j p q=>cases o with|func f b=>exact uZ k l f (λe=>absurd e b) (aY.append (aY.append ⟨i,j⟩ h) ⟨p,q⟩)|yield r=>exact Nt r (aY.append ⟨i,j⟩ h)
 |J0 n f c=>(have e:(do let d <-Deferred.ofValue (.func (.method "") #[.nilIface] #[]) a;invoke d.target d.args:Sem Next)=runtimePanic .nilDeref:=by (have e0:(#[Value.nilIface]++a)[0]? =some .nilIface:=by simp[WT]);simp[Deferred.ofValue,invoke,callMethod,e0]);rw[e];exact .never (aE _)
 |_=>exact .never (aB (.halt _))
def Qd(k:Tab S P fs)(n:∀g,S.dF g=true->π g g){ρ R}(h:EvR S π ρ R)(l:∀f,ρ (.func f)=.func (.func f) #[] #[])(o:∀f,R (.func f)=.func (.func f) #[] #[])(c t)(hc:BM S (.call c)=true):(SR S (ah P fs) P) (NQ S) π (do let d <-resolve ρ c t;invoke d.target d.args) (do let d <-resolve R c t;invoke d.target d.args):=by
 obtain⟨a,args,ts⟩:=c;unfold BM at hc;obtain hc|hc:=Wl _ _▸hc
 cases a with
 |value x=>
  cases x with
  |func f=>(simp only[kW,UT,VA]at hc;obtain⟨⟨rfl,j⟩,i⟩:=hc;have e:∀(σ:Operand->Zj),σ (.func kV)=.func (.func kV) #[] #[]->(do let d <-resolve σ ⟨.value (.func kV),args,ts⟩ t;invoke d.target d.args:Sem Next)=callFunc kV (args.map σ):=λσ m=>by simp[resolve,Deferred.ofValue,m,invoke]);rw[e ρ (l _),e R (o _)];exact uZ k n kV (λ_=>by simpa using j) (h.row i)
  |_=>simp[kW]at hc
 |_=>simp[kW]at hc
 simp only[Op.operands,Call.operands,UT]at hc;obtain⟨j,i⟩:=hc;cases a with
 |value f=>(simp only[Yt,UT]at i;have p:cE S f=true:=by simpa using i.1);exact vc k n (h f p) (h.row i.2)
 |invoke=>simp at j
 |builtin b=>simp only[Yt,UT]at i;exact Hy k.zero b j _ _ _ (h.row i.2)
def sU{ρ R}(h:EvR S π ρ R){x:Option Operand}(a:x.all (cE S)=true):dP (aw π) (x.map ρ) (x.map R):=by cases x with|none=>exact .none|some x=>exact .some (h x a)
def AA{ρ R:Operand->Zj}(h:EvR S π ρ R){a:Array (Nat×Operand)}(b:∀x∈a,cE S x.2=true):aY (lT π) (a.map λ(i,x)=>(i,ρ x)) (a.map λ(i,x)=>(i,R x)):=by refine aY.mj λi=>?_;rw[Vk,Vk];cases c:a[i]? with|none=>exact .none|some x=>exact .some ⟨rfl,h _ (b x (VI c))⟩
def AB{a:Array (Nat×Operand)}(h:((a.toList.map (·.2)).toArray.all (cE S))=true):∀x∈a,cE S x.2=true:=by intro x b;rw[WJ]at h;exact h x.2 (by simp;exact⟨x.1,by simpa using b⟩)
def KF(u:Tab S P fs)(M:∀g,S.dF g=true->π g g){ρ R}(h:EvR S π ρ R)(E:∀f,ρ (.func f)=.func (.func f) #[] #[])(N:∀f,R (.func f)=.func (.func f) #[] #[])(o)(C:BM S o.op=true):(SR S (ah P fs) P) (NQ S) π (execOp ρ o) (execOp R o):=by
 obtain⟨O,p,ty,pos,Q,X⟩:=o;have F:=C;by_cases w:∃c,p=.call c;obtain⟨c,rfl⟩:=w;exact Qd u M h E N c ty F;unfold BM at C;have G:kW S p=false:=by cases p<;>first|rfl|exact absurd ⟨_,rfl⟩ w
 simp only[G,Xu,UT]at C;obtain⟨A,j⟩:=C;cases p with
 |move x=>exact ai (.value (h x (by simpa[Op.operands]using j)))
 |assign x=>exact ai (.value (h x (by simpa[Op.operands]using j)))
 |pick c a b=>simp[Op.operands]at j;refine(Al (h c j.1)).bind ?_;rintro z q v _ rfl;refine ai (.value ?_);split;exact(h a j.2.1).mono q;exact(h b j.2.2).mono q
 |alloc e=>exact bZ (MP u.zero e)
 |box e x=>exact bZ (Rf e (h x (by simpa[Op.operands]using j)))
 |build t T=>exact bZ (MR u.zero t (AA h (AB j)))
 |buildSlice t n T=>exact bZ (zq u.zero t n (AA h (AB j)))
 |insert t m k v=>simp[Op.operands]at j;exact sT (sR t (h m j.1) (h k j.2.1) (h v j.2.2))
 |load t a=>refine bZ ((jN (h a (by simpa[Op.operands]using j))).bind ?_);intro z q b B H;exact xn t H
 |store t a x=>simp[Op.operands]at j;refine sT ((jN (h a j.1)).bind ?_);intro z q b B H;exact Eb t H ((h x j.2).mono q)
 |nilCheck x=>
  have I:=h x (by simpa[Op.operands]using j);unfold execOp;simp only[];generalize ρ x=v at*;generalize R x=V at*;have l:=I;cases I with
  |func U Y A Z j=>cases U<;>exact ai (.value l)
  |mR _ a=>
   cases V with
   |pointer o=>cases o<;>first|(simp[eA]at a;done)|exact ai (.value l)
   |func fn _ _=>cases fn<;>first|(simp[eA]at a;done)|exact ai (.value l)
   |_=>first|(simp[eA]at a;done)|exact ai (.value l)
  |J0 n f c=>exact .never (aE _)
  |_=>first|exact dk|exact ai (.value l)
 |binOp p t x y t2=>simp[Op.operands]at j;refine bZ ((Hr p t x y (h x j.1) (h y j.2)).bind ?_);intro z q _ _ _;exact Np p t ((h x j.1).mono q) ((h y j.2).mono q)
 |unOp p t x=>exact bZ (MS p (h x (by simpa[Op.operands]using j)))
 |convert s d x=>exact bZ (Hu s d (by simpa using A) (h x (by simpa[Op.operands]using j)))
 |makeInterface t x=>exact bZ (tV t (h x (by simpa[Op.operands]using j)))
 |makeFunc fn f c=>simp only[Op.operands,Yt,UT]at j;cases fn with|func g=>exact bZ (Ec (.func g (by simpa using A)) (h.row j.1) (h.row j.2))|_=>simp at A
 |makeMap t r=>exact bZ (G3 t (sU h (by cases r<;>simp_all [Op.operands])))
 |makeSlice t a b=>simp[Op.operands]at j;exact bZ (Cc u.zero t (h a j.1) (h b j.2))
 |slice t x J K L=>(have D:cE S x=true/\J.all (cE S)=true/\K.all (cE S)=true/\L.all (cE S)=true:=by cases J<;>cases K<;>cases L<;>simp[Op.operands]at j<;>simp[j]);exact bZ (GR t (h x D.1) (sU h D.2.1) (sU h D.2.2.1) (sU h D.2.2.2))
 |fieldAddr t x f=>exact bZ (GY t f (h x (by simpa[Op.operands]using j)))
 |field t x f=>exact bZ (MO t f (h x (by simpa[Op.operands]using j)))
 |indexAddr t x i=>simp[Op.operands]at j;exact bZ (GU t (h x j.1) (h i j.2))
 |index t x i=>simp[Op.operands]at j;exact bZ (MN t (h x j.1) (h i j.2))
 |lookup t x i W=>simp[Op.operands]at j;exact bZ (KE u.zero t W (h x j.1) (h i j.2))
 |mapUpdate t m k v=>simp[Op.operands]at j;exact sT (sR t (h m j.1) (h k j.2.1) (h v j.2.2))
 |mapEntry t m k=>simp[Op.operands]at j;exact bZ (EM u.zero t (h m j.1) (h k j.2))
 |entryStore t m k v=>simp[Op.operands]at j;exact sT (zF t (h m j.1) (h k j.2.1) (h v j.2.2))
 |range t x=>exact bZ (Nr t (h x (by simpa[Op.operands]using j)))
 |next x b=>exact bZ (Qc b _ (h x (by simpa[Op.operands]using j)))
 |entry x=>exact bZ (Ns (h x (by simpa[Op.operands]using j)))
 |extract x i=>exact bZ (GV i (h x (by simpa[Op.operands]using j)))
 |call c=>exact absurd ⟨c,rfl⟩ w
 |panic x=>refine .never (aB ?_);unfold Instr.panic;split;exact .halt _;exact bI qO λ_=>pV (.halt _) (aE _);exact .halt _
 |_=>simp at A
def Ia(d:Tab S P fs)(i:∀g,S.dF g=true->π g g){ρ R}(h:EvR S π ρ R)(a:∀f,ρ (.func f)=.func (.func f) #[] #[])(j:∀f,R (.func f)=.func (.func f) #[] #[])(o)(e:opD S o.op=true):(SR S (ah P fs) P) (NQ S) π (execOp ρ (cP o)) (execOp R o):=by
 unfold opD at e;obtain h1|h1:=Wl _ _▸e;unfold cP;rw[UG (by rw[DN h1];simp)];exact KF d i h a j o h1;obtain⟨l,m,ty,pos,n,p⟩:=o
 cases m with
 |call c=>
  obtain⟨k,args,ts⟩:=c;cases k with
  |builtin b=>cases b with|unsafeSliceData=>exact bZ (rD _ _ d.bad (h.row h1))|_=>simp at h1
  |_=>simp at h1
 |_=>simp at h1
end
end Go.Tm

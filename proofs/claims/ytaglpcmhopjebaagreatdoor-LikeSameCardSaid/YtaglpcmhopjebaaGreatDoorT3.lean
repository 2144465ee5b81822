import Derived.Test.YtaglpcmhopjebaaGreatDoorT2
set_option linter.all false
set_option maxRecDepth 100000
set_option maxHeartbeats 20000000
namespace Go.Tm
inductive Quiet{α:Type}(Q:α->Prop):Sem α->Prop
 |pure {a}:Q a->Quiet Q (.pure a)
 |choose (q) {k}:Ht q=false->(∀n,Quiet Q (k n))->Quiet Q (.choose q k)
 |halt (h):gi h->Quiet Q (.halt h)
def Quiet.pure'{b Q a}(h:Q a):Quiet Q (Pure.pure a:Sem b):=.pure h
def Quiet.bind{c d Q Q' s}{f:c->Sem d}(h:Quiet Q s)(b:∀a,Q a->Quiet Q' (f a)):Quiet Q' (s>>= f):=by show Quiet Q' (s.bind f);induction h with|pure h=>exact b _ h|choose q e _ g=>exact .choose q e g|halt h b=>exact .halt h b
def Quiet.bind'{b c Q' s}{f:b->Sem c}(h:Quiet (λ_=>True) s)(d:∀a,Quiet Q' (f a)):Quiet Q' (s>>= f):=h.bind λa _=>d a
def Quiet.ask{Q:Nat->Prop}(h:∀n,Q n)(q:Question)(a:Ht q=false:=by with_unfolding_all rfl):Quiet Q (Go.choose q):=.choose q a λn=>.pure (h n)
def Quiet.stuck{a}{Q:a->Prop}(s):Quiet Q (Go.stuck s):=.halt _ True.intro
def Quiet.unsupported{a}{Q:a->Prop}(s)(b:gi (.unsupported s)):Quiet Q (Go.unsupported s):=.halt _ b
def Quiet.ite{a Q c}[Decidable c]{s t:Sem a}(h:Quiet Q s)(b:Quiet Q t):Quiet Q (if c then s else t):=by split<;>assumption
def Df(k b):Plain (.float k b):=λ_ _=>.float k b
def lI(k a b):Plain (.complex k a b):=λ_ _=>.complex k a b
def kg(k b):Plain (.int k b):=λ_ _=>.int k b
def mR{p:Prop}(h:p:=by repeat' (with_reducible first
 |exact Quiet.stuck _|exact Quiet.unsupported _ (by with_unfolding_all exact True.intro)|exact Quiet.pure' trivial|exact Quiet.pure' (Df _ _)|exact Quiet.pure' (pY _)|exact Quiet.pure' (lI _ _ _)|exact Quiet.pure' (kg _ _)
 |exact Quiet.ask (λ_=>trivial) _|assumption|refine Quiet.ite ?_ ?_|refine Quiet.bind' ?_ λ_=>?_|dsimp only|split)):p:=h
def Quiet.true{a Q}{s:Sem a}(h:Quiet Q s):Quiet (λ_=>True) s:=by induction h with|pure h=>exact .pure trivial|choose q b _ c=>exact .choose q b c|halt h d=>exact .halt h d
def me(a k x y):Quiet Plain (Op.floatArith a k x y):=by unfold Op.floatArith;exact mR
def nQ(a k x y):Quiet Plain (Op.floatCmp a k x y):=by unfold Op.floatCmp;exact mR
def eF(a b c):Quiet Plain (Conv.floatToFloat a b c):=by unfold Conv.floatToFloat;exact mR
def sZ(a b c):Quiet Plain (Conv.floatToInt a b c):=by unfold Conv.floatToInt;exact mR
def AW(v):Quiet (λ_=>True) (asBool v):=by unfold asBool;exact mR
def nR(a k x y):Quiet (λ_=>True) (Op.Complex.arith a k x y):=by unfold Op.Complex.arith;refine Quiet.bind' (me a k x y).true λ_=>?_;exact mR
def td(a k x y):Quiet (λ_=>True) (Op.Complex.cmp a k x y):=by unfold Op.Complex.cmp;refine Quiet.bind' (nQ a k x y).true λ_=>AW _
def wJ(k x d):Quiet (λ_=>True) (Op.Complex.conv k x d):=by unfold Op.Complex.conv;refine Quiet.ite (Quiet.pure' trivial) ?_;refine Quiet.bind' (eF _ _ _).true λ_=>?_;exact mR
def Ii{p:Prop}(h:p:=by repeat' (with_reducible first
 |exact Quiet.stuck _|exact Quiet.pure' trivial|exact Quiet.pure' (pY _)|exact Quiet.pure' (lI _ _ _)
 |exact nR _ _ _ _|exact td _ _ _ _|exact wJ _ _ _|refine Quiet.ite ?_ ?_|refine Quiet.bind' ?_ λ_=>?_|dsimp only|split)):p:=h
def yv(a b c d):Quiet (λ_=>True) (Op.Complex.product a b c d):=by unfold Op.Complex.product Op.Complex.sub Op.Complex.mul Op.Complex.add;exact Ii
def uL(s a b c d):Quiet (λ_=>True) (Op.Complex.corrected s a b c d):=by unfold Op.Complex.corrected Op.Complex.sub Op.Complex.mul Op.Complex.add;exact Ii
def wK(a b c d):Quiet (λ_=>True) (Op.Complex.quotient a b c d):=by unfold Op.Complex.quotient Op.Complex.sub Op.Complex.mul Op.Complex.add Op.Complex.quo;repeat' (with_reducible first|exact uL _ _ _ _ _|exact nR _ _ _ _|exact td _ _ _ _|exact Quiet.pure' trivial|refine Quiet.ite ?_ ?_|refine Quiet.bind' ?_ λ_=>?_|dsimp only|split)
def uM(e k a b c d):Quiet Plain (Op.complexOp e k a b c d):=by unfold Op.complexOp;split<;>repeat' (with_reducible first|exact yv _ _ _ _|exact wK _ _ _ _|exact Quiet.stuck _|exact nR _ _ _ _|exact td _ _ _ _|exact wJ _ _ _|exact Quiet.pure' trivial|exact Quiet.pure' (pY _)|exact Quiet.pure' (lI _ _ _)|refine Quiet.ite ?_ ?_|refine Quiet.bind' ?_ λ_=>?_|dsimp only|split)
def mS(s a b d):Quiet Plain (Conv.complexToComplex s a b d):=by unfold Conv.complexToComplex;refine Quiet.bind' (eF _ _ _).true λ_=>?_;split;refine Quiet.bind' (eF _ _ _).true λ_=>?_;exact mR;exact mR
section
variable {S:Kn} {P:Program} {fs:Array Func} {π:Ren P.globals.size}
def Quiet.sr{s}(h:Quiet Plain s):(SR S (ah P fs) P) VQ π s s:=by induction h with|pure h=>exact .pure (h _ _)|choose q a _ b=>exact .choose (λf c h=>absurd h (K4 a f c)) b|halt h d=>exact .never (.halt h d)
def uN(P fs):∀(d) (t) (off),cellOfByte (ah P fs) d t off=cellOfByte P d t off:=by intro d;induction d with|zero=>exactλ_ _=>rfl|succ d a=>intro t off;unfold cellOfByte;simp only[a];rfl
def mf(P fs d e n a b):cellAtBytes (ah P fs) d e n a b=cellAtBytes P d e n a b:=by unfold cellAtBytes;simp only[uN,fT];rfl
def jS(a1 t){x X y Y}(j:av π x X)(d:av π y Y):(SR S (ah P fs) P) (λπ v V=>av π v V/\∃a A,v=.pointer (some a)/\V=.pointer (some A)) π (Builtin.unsafeAdd_ a1 t #[x,y]) (Builtin.unsafeAdd_ a1 t #[X,Y]):=by (have go:∀(π:Ren P.globals.size) {p Q:Option Addr} (i:dJ (aQ π) p Q) {y Y:Value},av π y Y->(SR S (ah P fs) P) (λπ v V=>av π v V/\∃a A,v=.pointer (some a)/\V=.pointer (some A)) π (Builtin.unsafeAdd_ a1 t #[.pointer p,y]) (Builtin.unsafeAdd_ a1 t #[.pointer Q,Y]):=by intro π p Q i y Y d;unfold Builtin.unsafeAdd_;refine(jf d).bind ?_;rintro k l n _ rfl;have c:=i.mono λ_ _ x=>aQ.mono l x;simp only[];split;(cases c with|none=>exact aC| @some a A b=>simp only[];cases b with|mk b=>refine(oP b).bind ?_;intro e f u v g;simp only[kS g];split;exact aC;exact ai ⟨.ptr (.mk (f _ _ b)),_,_,rfl,rfl⟩);split;exact aC;cases c with|none=>exact aC| @some a A b=>simp only[];cases b with|mk b=>refine(eL b).bind ?_;rintro e f sh _ rfl;split;refine bX.bind ?_;rintro m o _ _ ⟨rfl,rfl⟩;simp only[mf];rw[show(ah P fs).depth=P.depth from rfl,show ∀t,(ah P fs).cellsOf t=P.cellsOf t fromλ_=>rfl];split;exact ai ⟨.ptr (.mk (o _ _ (f _ _ b))),_,_,rfl,rfl⟩;exact aC;exact aC);cases j with|IJ=>exact go π .none d|ptr h=>exact go π (.some h) d|_=>exact al
def tS{a A}(h:aQ π a A)(b):(SR S (ah P fs) P) VQ π (asNumber a b) (asNumber A b):=by unfold asNumber;refine(gO (.number b h)).bind ?_;intro c l r R d;exact ai (.ptr (.mk d))
def nS(a1 t y):dL (Builtin.unsafeAdd_ a1 t #[.tuple #[],y]):=by unfold Builtin.unsafeAdd_;exact dv _
def lJ(t y):dL (Op.equal t (.tuple #[]) y):=by unfold Op.equal Op.maxDepth Op.equalIn;refine bD (df t) λd=>?_;cases d<;>cases y<;>first|exact dv _|(refine bF _ ?_;exact True.intro)|(rename_i a;cases a<;>first|exact dv _|(refine bF _ ?_;exact True.intro))|(rename_i a _ _;cases a<;>exact dv _)
def lK(t x):dL (Op.equal t x (.tuple #[])):=by unfold Op.equal Op.maxDepth Op.equalIn;refine bD (df t) λd=>?_;cases d<;>cases x<;>first|exact dv _|(refine bF _ ?_;exact True.intro)|(rename_i a;cases a<;>first|exact dv _|(refine bF _ ?_;exact True.intro))|(rename_i a _ _;cases a<;>exact dv _)
def kA(t){x X y Y}(c:av π x X)(e:av π y Y):(SR S (ah P fs) P) VQ π (movedNumber t x y) (movedNumber t X Y):=by
 unfold movedNumber;refine(aA t).bind ?_;rintro k g d _ ⟨rfl,_⟩;have c:=c.mono g;have e:=e.mono g;simp only[];split;exact .never (aB (.halt _));have f:=c
 cases c with
 |ptr h=>simp only[];refine(fW h).bind ?_;rintro l m ⟨a,b⟩ ⟨A,B⟩ ⟨i,j⟩;simp only[]at i j⊢;subst j;refine(jS _ _ (.ptr i) (e.mono m)).bind ?_;rintro n q v V ⟨o,r,s,e1,p⟩;subst e1 p;cases o with|ptr h=>exact tS h _
 |lS V a=>exact .never (show dL (Builtin.unsafeAdd_ #[] t #[.tuple #[],y])from nS _ _ _)
 |_=>exact(jS #[] t f e).mono λ_ _ _ _ h=>h.1
def uO(t){x X y Y}(d:av π x X)(e:av π y Y):(SR S (ah P fs) P) VQ π (movedPointer t x y) (movedPointer t X Y):=by
 unfold movedPointer;have b:=d;cases d with
 |ptr h=>cases h with|mk h=>simp only[];refine(tO h).bind ?_;intro g f u v c;rw[kS c];split;exact aC;exact(jS _ _ (.ptr (.mk (f _ _ h))) (e.mono f)).mono λ_ _ _ _ h=>h.1
 |lS V a=>exact .never (nS _ _ _)
 |_=>exact(jS _ _ b e).mono λ_ _ _ _ h=>h.1
def rp{a A b B}(c:aQ π a A)(d:aQ π b B):(SR S (ah P fs) P) EqQ π (Op.twoPlaces a b) (Op.twoPlaces A B):=by (unfold Op.twoPlaces;have e1:=(c.eq d).1;have f:(a.block>=P.globals.size)=(A.block>=P.globals.size):=by cases c with|mk h=>have:=π.dz _ _ h;simp only[ge_iff_le,eq_iff_iff];omega);refine bX.bind ?_;rintro g e _ _ ⟨rfl,rfl⟩;simp only[show(ah P fs).globals=P.globals from rfl,bne,e1,f];split;exact aC;refine(iC (c.mono e)).bind ?_;rintro i j n _ rfl;refine(iC ((d.mono e).mono j)).bind ?_;rintro k l m _ rfl;exact ai rfl
def F5(k){a A b B}(c:aQ π a A)(d:aQ π b B):(SR S (ah P fs) P) VQ π (Op.addrSub k a b) (Op.addrSub k A B):=by unfold Op.addrSub;refine(rp c d).bind ?_;rintro e f ⟨x,y⟩ _ rfl;exact ai (.int _ _)
def mU(c){a A b B}(d:aQ π a A)(e:aQ π b B):(SR S (ah P fs) P) VQ π (Op.addrCmp c a b) (Op.addrCmp c A B):=by unfold Op.addrCmp;refine(rp d e).bind ?_;rintro f g ⟨x,y⟩ _ rfl;cases c<;>first|exact ai (.bool _)|exact aC
def qi(k){a A}(b:aQ π a A)(n):(SR S (ah P fs) P) VQ π (Op.addrMod k a n) (Op.addrMod k A n):=by unfold Op.addrMod;cases b with|mk h=>refine(eL h).bind ?_;rintro c d sh _ rfl;split;refine(du _).bind ?_;rintro e f i _ ⟨rfl,_⟩;simp only[];split;exact .never (aB (.halt _));refine(iC (.mk (f _ _ (d _ _ h)))).bind ?_;rintro g j m _ rfl;exact ai (.int _ _);exact aC
def Dg(t){x X y Y}(a:av π x X)(c:av π y Y):(SR S (ah P fs) P) VQ π (do pure (.bool (!(<-Op.equal t x y)))) (do pure (.bool (!(<-Op.equal t X Y)))):=by refine(vQ t a c).bind ?_;rintro d e b _ rfl;exact ai (.bool _)
def F6(t){x X y Y}(a:av π x X)(c:av π y Y):(SR S (ah P fs) P) VQ π (do pure (.bool (<-Op.equal t x y))) (do pure (.bool (<-Op.equal t X Y))):=by refine(vQ t a c).bind ?_;rintro d e b _ rfl;exact ai (.bool _)
def dq{d e Q a A}(h:aQ π a A){f:Addr->Sem d}{F:Addr->Sem e}(g:∀c,Ren.le π c->∀b B,aQ c b B->(SR S (ah P fs) P) Q c (f b) (F B)):(SR S (ah P fs) P) Q π (do f (<-behindNumber a).1) (do F (<-behindNumber A).1):=by refine(fW h).bind ?_;rintro i j ⟨a,b⟩ ⟨A,B⟩ ⟨k,l⟩;exact g _ j _ _ k
def wL(t:TypeId){x X y Y:Value}(b:av π x X)(c:av π y Y):(SR S (ah P fs) P) VQ π (do if(<-underlying t) matches .unsafePointer then movedPointer t x y else movedNumber t x y) (do if(<-underlying t) matches .unsafePointer then movedPointer t X Y else movedNumber t X Y):=by refine(aA t).bind ?_;rintro d l a _ ⟨rfl,_⟩;split;exact uO t (b.mono l) (c.mono l);exact kA t (b.mono l) (c.mono l)
def Calm.ite{c}[Decidable c]{s t}(h:Calm s)(a:Calm t):Calm (if c then s else t):=by split<;>assumption
def cT{b d Q c}[Decidable c]{s t:Sem b}{s' a:Sem d}(h:(SR S (ah P fs) P) Q π s s')(e:(SR S (ah P fs) P) Q π t a):(SR S (ah P fs) P) Q π (if c then s else t) (if c then s' else a):=by split<;>assumption
def LV(o t){x X y Y}(a:av π x X)(d:av π y Y):(SR S (ah P fs) P) VQ π (binOp o t x y) (binOp o t X Y):=by
 have i:=a;have j:=d;unfold binOp;split;cases a;cases d;exact(vM _ _ _ _ _).sr;cases a;cases d;exact(vM _ _ _ _ _).sr;cases a;cases d;rename_i u v;cases o<;>first
  |exact(u rfl).elim
  |exact(v rfl).elim
  |exact cT al (pr _ _ _ _).sr
  |exact cT al (CK _ _ _ _).sr
  |exact cT al (qU _ _ _ _).sr
  |exact cT al (CJ _ _ _).sr
 cases a;cases d;cases o<;>first
  |exact cT al (me _ _ _ _).sr
  |exact cT al (nQ _ _ _ _).sr
 cases a;cases d;cases o<;>exact cT al (uM _ _ _ _ _ _).sr;cases a;cases d;cases o<;>exact(pv _ _ _).sr;rename_i p q r s;cases a<;>cases d<;>first|exact F6 t i j|exact .never (aB (lJ _ _))|exact .never (aB (lK _ _))|exact(p _ _ _ _ rfl rfl).elim|exact(q _ _ _ _ rfl rfl).elim|exact(r _ _ _ _ _ _ rfl rfl).elim|exact(s _ _ rfl rfl).elim
 rename_i p q r s;cases a<;>cases d<;>first|exact Dg t i j|exact .never (aB (lJ _ _))|exact .never (aB (lK _ _))|exact(p _ _ _ _ rfl rfl).elim|exact(q _ _ _ _ rfl rfl).elim|exact(r _ _ _ _ _ _ rfl rfl).elim|exact(s _ _ rfl rfl).elim
 cases d;cases a<;>exact wL t i j;cases a;cases d<;>exact kA t j i;cases d;cases a<;>exact kA t i (.int _ _);cases a with|ptr e=>cases d with|ptr k=>exact dq e λf h b B g=>dq (k.mono h) λl m c C n=>F5 _ (g.mono m) n
 cases a with|ptr e=>cases d with|ptr k=>exact dq e λf h b B g=>dq (k.mono h) λl m c C n=>mU _ (g.mono m) n
 cases a with|ptr e=>cases d with|ptr k=>exact dq e λf h b B g=>dq (k.mono h) λl m c C n=>mU _ (g.mono m) n
 cases a with|ptr e=>cases d with|ptr k=>exact dq e λf h b B g=>dq (k.mono h) λl m c C n=>mU _ (g.mono m) n
 cases a with|ptr e=>cases d with|ptr k=>exact dq e λf h b B g=>dq (k.mono h) λl m c C n=>mU _ (g.mono m) n
 cases a with|ptr e=>cases d with|int=>exact dq e λf h b B g=>qi _ g _
 cases a with|ptr e=>cases d with|int=>exact dq e λf h b B g=>qi _ g _
 cases d with|ptr e=>cases a with|int=>exact dq e λf h b B g=>qi _ g _
 exact aC;exact aC;exact al
def wM(h:BinOp)(t c)(d:gi (.unsupported c)){a A b B}(e:av π a A)(f:av π b B):(SR S (ah P fs) P) EqQ π (do if <-Op.eqGuardIn Op.maxDepth t a b then unsupported c) (do if <-Op.eqGuardIn Op.maxDepth t A B then unsupported c):=by refine(Az _ t e f).bind ?_;rintro g i x _ rfl;split;exact aC d;exact ai rfl
def F7(e t x y){a A b B}(f:av π a A)(g:av π b B):(SR S (ah P fs) P) EqQ π (eqGuard e t x y a b) (eqGuard e t x y A B):=by
 have c:=f;have d:=g;unfold eqGuard;refine cT (ai rfl) ?_;split;cases f;cases g;exact cT (ai rfl) (wM e t _ (by exact True.intro) c d);cases f;cases g;simp only[];refine bX.bind ?_;rintro j h _ _ ⟨rfl,rfl⟩;refine bX.bind ?_;rintro k i _ _ ⟨rfl,rfl⟩;rw[lZ,show(ah P fs).depth=P.depth from rfl];split;exact ai rfl;exact wM e t _ (by exact True.intro) ((c.mono h).mono i) ((d.mono h).mono i);rename_i l m
 cases f with
 |lS _ a=>cases A<;>first|(simp[dU]at a;done)|exact ai rfl
 |_=>
  cases g with
  |lS _ a=>cases B<;>first|(simp[dU]at a;done)|exact ai rfl
  |_=>first|exact ai rfl|exact(l rfl rfl).elim|exact(m _ _ rfl rfl).elim
end
section
variable {S:Kn} {P:Program} {fs:Array Func} {π:Ren P.globals.size}
def fg{G}{ρ:Ren G}{c}(h:bj c):VsR ρ c c:=h.refl ρ
def pD(b:Array UInt8):bj (b.map λb=>Value.int .u8 b.toNat):=λi v h=>by rw[Tw]at h;cases a:b[i]? with|none=>rw[a]at h;cases h|some x=>rw[a]at h;cases h;exact kg _ _
def ic(n){v}(h:Plain v):bj (Array.replicate n v):=λi x a=>by rw[V9]at a;split at a<;>cases a;exact h
def bj.append{a b}(h:bj a)(d:bj b):bj (a++b):=λi x c=>by rw[US]at c;split at c;exact h _ _ c;exact d _ _ c
def bj.push{a}(h:bj a){v}(c:Plain v):bj (a.push v):=λi x b=>by rw[TQ]at b;split at b;cases b;exact c;exact h _ _ b
def zk{a A}(h:aQ π a A)(n):(SR S (ah P fs) P) EqQ π (freeze a n) (freeze A n):=.freeze h (.pure rfl)
def mg{a A}(h:aQ π a A):(SR S (ah P fs) P) EqQ π (markStringish a) (markStringish A):=by unfold markStringish;cases h with|mk h=>refine(eL h).bind ?_;rintro b c sh _ rfl;split;exact zk (.mk (c _ _ h)) 1;exact ai rfl
def te(e s):(SR S (ah P fs) P) VQ π (Conv.stringToBytes e s) (Conv.stringToBytes e s):=by unfold Conv.stringToBytes;refine(eo _).bind ?_;rintro c h n _ rfl;refine(iB e (fg ((pD _).append (ic _ (kg _ _))))).bind ?_;intro d i a A b;refine(mg b).bind ?_;intro f g _ _ _;exact ai (.slice _ _ (b.mono g))
def yw(s):∀(b i) (acc),bj acc->bj (Conv.runesFrom s b i acc):=by intro b;induction b with|zero=>intro i acc h;exact h|succ b a=>intro i acc h;unfold Conv.runesFrom;split;exact a _ _ (h.push (kg _ _));exact h
def tf(e s):(SR S (ah P fs) P) VQ π (Conv.stringToRunes e s) (Conv.stringToRunes e s):=by unfold Conv.stringToRunes;refine(eo _).bind ?_;rintro b f n _ rfl;refine(iB e (fg ((yw _ _ _ _ .empty).append (ic _ (kg _ _))))).bind ?_;intro c g a A d;exact ai (.slice _ _ d)
def zl{σ l L f F}(h:∀(a),Ren.le π a->∀v V s,av a v V->(SR S (ah P fs) P) EqQ a (f v s) (F V s))(e:bl (av π) l L):∀{a} (_:Ren.le π a) (s:σ),(SR S (ah P fs) P) EqQ a (forIn l s f) (forIn L s F):=by induction e with|nil=>intro a b s;simp only[List.forIn_nil];exact ai rfl|cons g _ i=>intro a b s;simp only[Wc];refine(h a b _ _ s (g.mono b)).bind ?_;rintro d c x _ rfl;cases x with|done=>exact ai rfl|yield s=>exact i (Ren.le_trans b c) s
def th{x X}(h:av π x X):(SR S (ah P fs) P) VQ π (Conv.bytesToString x) (Conv.bytesToString X):=by
 unfold Conv.bytesToString;cases h with
 |iq=>exact ai (.string _)
 |slice n c h=>
  simp only[];refine(jO h n).bind ?_;intro a g i j e;simp only[<-Ur];refine(zl (π:=a) ?_ e.toList (Ren.le_refl _) _).bind ?_;intro b f v V s d
  cases d with
  |int k n=>cases k<;>first|exact ai rfl|exact .never (aB (.halt _))|exact al
  |_=>exact al
  rintro b f s _ rfl;exact ai (.string _)
 |pQ A=>exact ai (.string _)
 |_=>exact al
def ti{x X}(h:av π x X):(SR S (ah P fs) P) VQ π (Conv.runesToString x) (Conv.runesToString X):=by
 unfold Conv.runesToString;cases h with
 |iq=>exact ai (.string _)
 |slice n c h=>
  simp only[];refine(jO h n).bind ?_;intro a g i j e;simp only[<-Ur];refine(zl (π:=a) ?_ e.toList (Ren.le_refl _) _).bind ?_;intro b f v V s d
  cases d with
  |int k n=>cases k<;>first|exact ai rfl|exact .never (aB (.halt _))|exact al
  |_=>exact al
  rintro b f s _ rfl;exact ai (.string _)
 |pQ A=>exact ai (.string _)
 |_=>exact al
def zm{a A}(h:aQ π a A):(SR S (ah P fs) P) AQ π (Conv.seenAt a) (Conv.seenAt A):=by (unfold Conv.seenAt;have i:=h;have e1:a.spot=A.spot/\a.off=A.off:=by cases h;exact⟨rfl,rfl⟩);simp only[e1.1,e1.2];cases h with|mk h=>refine(oP h).bind ?_;intro j k x y c;cases c with|none=>exact ai (i.mono k)| @some u v d=>obtain⟨s,t⟩:=u;obtain⟨s',o⟩:=v;obtain⟨b,e⟩:=d;simp only[]at b e⊢;subst e;split;exact ai b;(have f:s.spot=s'.spot/\s.off=s'.off:=by cases b;exact⟨rfl,rfl⟩);simp only[f.1,f.2];split;exact .never (aB (.halt _));refine bX.bind ?_;rintro l g _ _ ⟨rfl,rfl⟩;simp only[fT,mf,show(ah P fs).depth=P.depth from rfl,show ∀t,(ah P fs).cellsOf t=P.cellsOf t fromλ_=>rfl];split;(cases b with|mk b=>refine(eL (g _ _ b)).bind ?_;rintro m n sh _ rfl;split;split;exact .never (aB (.halt _));split;exact ai (.mk (n _ _ (g _ _ b)));exact aC;exact aC);exact aC
def F8{r R}(h:π r R):(SR S (ah P fs) P) EqQ π (cellsIn r) (cellsIn R):=by unfold cellsIn;refine(eL h).bind ?_;rintro a b sh _ rfl;split;exact ai rfl;refine(bZ (b _ _ h)).bind ?_;intro c e o O d;cases d<;>exact ai rfl
def uP(P fs):∀(n) (t u),sameLayout (ah P fs) n t u=sameLayout P n t u:=by intro n;induction n with|zero=>exactλ_ _=>rfl|succ n a=>intro t u;unfold sameLayout;simp only[a,er];rfl
def F9(P fs g):∀(d) (e) (c o n),rowAt (ah P fs) g d e c o n=rowAt P g d e c o n:=by intro d;induction d with|zero=>exactλ_ _ _ _=>rfl|succ d a=>intro e c o n;unfold rowAt;simp only[a,er];rfl
def Dh(P fs):∀(d) (e) (c o) (u) (n),liesAt (ah P fs) d e c o u n=liesAt P d e c o u n:=by intro d;induction d with|zero=>exactλ_ _ _ _ _=>rfl|succ d a=>intro e c o u n;unfold liesAt;simp only[a,F9,uP];rfl
def nT{a A}(h:aQ π a A)(u n):(SR S (ah P fs) P) EqQ π (variablesAt a u n) (variablesAt A u n):=by unfold variablesAt;cases h with|mk h=>refine bX.bind ?_;rintro b c _ _ ⟨rfl,rfl⟩;refine(eL (c _ _ h)).bind ?_;rintro d e sh _ rfl;simp only[Dh,show(ah P fs).depth=P.depth from rfl,show ∀t,(ah P fs).cellsOf t=P.cellsOf t fromλ_=>rfl];split<;>exact ai rfl
def ru(P fs):∀(d) (t),(ah P fs).holdsStoodIn d t=P.holdsStoodIn d t:=by intro d;induction d with|zero=>exactλ_=>rfl|succ d a=>intro t;unfold Program.holdsStoodIn;simp only[a,er];rfl
def wN{a A}(h:aQ π a A)(u):(SR S (ah P fs) P) VQ π (do pure (.pointer (some ⟨<-newObj (.view a u),0,none⟩))) (do pure (.pointer (some ⟨<-newObj (.view A u),0,none⟩))):=by refine(gO (.view u h)).bind ?_;intro b d r R c;exact ai (.ptr (.mk c))
def fG(f g){x X}(e:av π x X):(SR S (ah P fs) P) VQ π (Conv.unsafePointer f g x) (Conv.unsafePointer f g X):=by unfold Conv.unsafePointer;refine(aA f).bind ?_;rintro v w s _ ⟨rfl,_⟩;refine(aA g).bind ?_;rintro y z d _ ⟨rfl,_⟩;have e:=(e.mono w).mono z;have h:=e;split;cases e;exact ai h;(cases e with|ptr l=>refine(zm l).bind ?_;intro o A b B a;have m:=a;cases a with|mk a=>refine(F8 a).bind ?_;rintro p i c _ rfl;refine(bE _).bind ?_;rintro r k n _ rfl;have j:=λu=>wN (S:=S) (fs:=fs) ((m.mono i).mono k) u;split<;>exact cT (j _) (ai (.ptr ((m.mono i).mono k))));cases e;exact ai h;(cases e with|ptr l=>refine(zm l).bind ?_;intro o A b B a;refine(bE _).bind ?_;rintro p i n _ rfl;simp only[];refine(nT (a.mono i) _ 1).bind ?_;rintro r k q _ rfl;refine cT (ai (.ptr ((a.mono i).mono k))) ?_;have t:=(a.mono i).mono k;cases a with|mk a=>refine(eL (k _ _ (i _ _ a))).bind ?_;rintro C D sh _ rfl;split;refine bX.bind ?_;rintro E F _ _ ⟨rfl,rfl⟩;refine bX.bind ?_;rintro G H _ _ ⟨rfl,rfl⟩;rw[ru,show(ah P fs).depth=P.depth from rfl];split;exact .never (aB (.halt _));exact wN (((t.mono D).mono F).mono H) _;exact .never (aB (.halt _)));cases e<;>exact ai h;cases e;exact ai (.int _ _);(cases e with|ptr l=>exact tS l _);exact aC;exact aC;exact aC;exact al
def yx(c f e:TypeId){x X:Value}(a:av π x X):(SR S (ah P fs) P) VQ π (do match <-underlying e with
 | .int .u8=>Conv.bytesToString x
 | .int .i32=>Conv.runesToString x
 |_=>stuck "Convert: a slice of what to string?") (do match <-underlying e with
 | .int .u8=>Conv.bytesToString X
 | .int .i32=>Conv.runesToString X
 |_=>stuck "Convert: a slice of what to string?"):=by
 refine(aA e).bind ?_;rintro g b d _ ⟨rfl,_⟩;split
 ·exact th (a.mono b)
 ·exact ti (a.mono b)
 ·exact al
def yy(e:TypeId){s:ByteArray}:(SR S (ah P fs) P) VQ π (do match <-underlying e with
 | .int .u8=>Conv.stringToBytes e s
 | .int .i32=>Conv.stringToRunes e s
 |_=>stuck "Convert: string to a slice of what?") (do match <-underlying e with
 | .int .u8=>Conv.stringToBytes e s
 | .int .i32=>Conv.stringToRunes e s
 |_=>stuck "Convert: string to a slice of what?"):=by
 refine(aA e).bind ?_;rintro a b d _ ⟨rfl,_⟩;split
 ·exact te _ _
 ·exact tf _ _
 ·exact al
def pE(b c e:TypeId){a A:Addr}{x X:Value}(f:aQ π a A)(g:av π x X):(SR S (ah P fs) P) VQ π (do match b==c,<-underlying e with
 |true,.int .u8=>do markStringish a;pure x
 |_,_=>unsupported (.noEntry "convert/other")) (do match b==c,<-underlying e with
 |true,.int .u8=>do markStringish A;pure X
 |_,_=>unsupported (.noEntry "convert/other")):=by
 refine(aA _).bind ?_;rintro h d e _ ⟨rfl,_⟩;split
 ·refine(mg (f.mono d)).bind ?_
  intro i j _ _ _;exact ai ((g.mono d).mono j)
 ·exact aC
def ry(s d):dL (Conv.unsafePointer s d (.tuple #[])):=by unfold Conv.unsafePointer;refine bD (df s) λa=>?_;refine bD (df d) λb=>?_;cases a<;>cases b<;>exact dv _
def qj(c f):dL (convert c f (.tuple #[])):=by
 unfold convert;refine bD (df c) λa=>?_;refine bD (df f) λb=>?_;have key:∀e,dL (do match <-underlying e with
  | .int .u8=>Conv.bytesToString (.tuple #[])
  | .int .i32=>Conv.runesToString (.tuple #[])
  |_=>stuck "Convert: a slice of what to string?"):=λe=>by
  refine bD (df e) λd=>?_;split<;>exact dv _
 cases a<;>cases b<;>first|exact key _|exact ry _ _|(refine bF _ ?_;exact True.intro)
def Ga(a b)(h:(a==b)=false){x X}(g:av π x X):(SR S (ah P fs) P) VQ π (convert a b x) (convert a b X):=by
 by_cases l:x=.tuple #[];rw[l];exact .never (qj _ _)
 unfold convert;refine(aA a).bind ?_;rintro v w _ s ⟨rfl,y⟩;clear y;refine(aA b).bind ?_;rintro z A _ d ⟨rfl,B⟩;clear B;have g:=(g.mono w).mono A;have c:=g;cases g<;>(try exact absurd rfl l)<;>split<;>first
  |contradiction
  |exact aC
  |exact ai (.int _ _)
  |exact ai (.float _ _)
  |exact(sZ _ _ _).sr
  |exact(eF _ _ _).sr
  |exact(mS _ _ _ _).sr
  |exact ai (.string _)
  |exact yy _
  |exact fG _ _ c
  |exact yx a b _ c
  |exact pE a b _ (by assumption) c
  |(rename_i d1 d2 d3 m n o p q r t u i;cases d1<;>exact fG _ _ c)
  |(rename_i d1 d2 d3 m n o p q r t u i j f k;cases d1<;>first|contradiction|exact fG _ _ c|exact(k rfl).elim|exact(f rfl).elim|exact(j rfl).elim)
  |(rename_i d1 d2 d3 m n o p q r t u i j f;cases d1<;>first|contradiction|exact fG _ _ c|exact(f rfl).elim|exact(j rfl).elim|exact(i rfl).elim)
  |(injections;subst_vars;exact pE a b _ (by assumption) c)
  |(injections;done)
  |(rw[h];refine(aA _).bind ?_;rintro C D e _ ⟨rfl,_⟩;exact aC)
end
end Go.Tm

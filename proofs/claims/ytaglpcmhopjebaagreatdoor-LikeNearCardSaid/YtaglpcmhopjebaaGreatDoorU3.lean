import Derived.Test.YtaglpcmhopjebaaGreatDoorU2
set_option linter.all false
set_option maxRecDepth 100000
set_option maxHeartbeats 20000000
namespace Go.Tm
inductive Quiet{α:Type}(Q:α->Prop):Sem α->Prop
 |pure {a}:Q a->Quiet Q (.pure a)
 |choose (q) {k}:I6 q=false->(∀n,Quiet Q (k n))->Quiet Q (.choose q k)
 |halt (h):gH h->Quiet Q (.halt h)
def Quiet.pure'{b Q a}(h:Q a):Quiet Q (Pure.pure a:Sem b):=.pure h
def Quiet.bind{c d Q Q' s}{f:c->Sem d}(h:Quiet Q s)(b:∀a,Q a->Quiet Q' (f a)):Quiet Q' (s>>= f):=by show Quiet Q' (s.bind f);induction h with|pure h=>exact b _ h|choose q e _ g=>exact .choose q e g|halt h b=>exact .halt h b
def Quiet.bind'{b c Q' s}{f:b->Sem c}(h:Quiet (λ_=>True) s)(d:∀a,Quiet Q' (f a)):Quiet Q' (s>>= f):=h.bind λa _=>d a
def Quiet.ask{Q:Nat->Prop}(h:∀n,Q n)(q:Question)(a:I6 q=false:=by with_unfolding_all rfl):Quiet Q (Go.choose q):=.choose q a λn=>.pure (h n)
def Quiet.stuck{a}{Q:a->Prop}(s):Quiet Q (Go.stuck s):=.halt _ True.intro
def Quiet.unsupported{a}{Q:a->Prop}(s)(b:gH (.unsupported s)):Quiet Q (Go.unsupported s):=.halt _ b
def Quiet.ite{a Q c}[Decidable c]{s t:Sem a}(h:Quiet Q s)(b:Quiet Q t):Quiet Q (if c then s else t):=by split<;>assumption
def Eh(k b):Plain (.float k b):=λ_ _=>.float k b
def lZ(k a b):Plain (.complex k a b):=λ_ _=>.complex k a b
def kx(k b):Plain (.int k b):=λ_ _=>.int k b
def nt{p:Prop}(h:p:=by repeat' (with_reducible first
 |exact Quiet.stuck _|exact Quiet.unsupported _ (by with_unfolding_all exact True.intro)|exact Quiet.pure' trivial|exact Quiet.pure' (Eh _ _)|exact Quiet.pure' (qP _)|exact Quiet.pure' (lZ _ _ _)|exact Quiet.pure' (kx _ _)
 |exact Quiet.ask (λ_=>trivial) _|assumption|refine Quiet.ite ?_ ?_|refine Quiet.bind' ?_ λ_=>?_|dsimp only|split)):p:=h
def Quiet.true{a Q}{s:Sem a}(h:Quiet Q s):Quiet (λ_=>True) s:=by induction h with|pure h=>exact .pure trivial|choose q b _ c=>exact .choose q b c|halt h d=>exact .halt h d
def mH(a k x y):Quiet Plain (Op.floatArith a k x y):=by unfold Op.floatArith;exact nt
def ow(a k x y):Quiet Plain (Op.floatCmp a k x y):=by unfold Op.floatCmp;exact nt
def eJ(a b c):Quiet Plain (Conv.floatToFloat a b c):=by unfold Conv.floatToFloat;exact nt
def tQ(a b c):Quiet Plain (Conv.floatToInt a b c):=by unfold Conv.floatToInt;exact nt
def BU(v):Quiet (λ_=>True) (asBool v):=by unfold asBool;exact nt
def ox(a k x y):Quiet (λ_=>True) (Op.Complex.arith a k x y):=by unfold Op.Complex.arith;refine Quiet.bind' (mH a k x y).true λ_=>?_;exact nt
def tR(a k x y):Quiet (λ_=>True) (Op.Complex.cmp a k x y):=by unfold Op.Complex.cmp;refine Quiet.bind' (ow a k x y).true λ_=>BU _
def xx(k x d):Quiet (λ_=>True) (Op.Complex.conv k x d):=by unfold Op.Complex.conv;refine Quiet.ite (Quiet.pure' trivial) ?_;refine Quiet.bind' (eJ _ _ _).true λ_=>?_;exact nt
def Jg{p:Prop}(h:p:=by repeat' (with_reducible first
 |exact Quiet.stuck _|exact Quiet.pure' trivial|exact Quiet.pure' (qP _)|exact Quiet.pure' (lZ _ _ _)
 |exact ox _ _ _ _|exact tR _ _ _ _|exact xx _ _ _|refine Quiet.ite ?_ ?_|refine Quiet.bind' ?_ λ_=>?_|dsimp only|split)):p:=h
def zd(a b c d):Quiet (λ_=>True) (Op.Complex.product a b c d):=by unfold Op.Complex.product Op.Complex.sub Op.Complex.mul Op.Complex.add;exact Jg
def vG(s a b c d):Quiet (λ_=>True) (Op.Complex.corrected s a b c d):=by unfold Op.Complex.corrected Op.Complex.sub Op.Complex.mul Op.Complex.add;exact Jg
def xy(a b c d):Quiet (λ_=>True) (Op.Complex.quotient a b c d):=by unfold Op.Complex.quotient Op.Complex.sub Op.Complex.mul Op.Complex.add Op.Complex.quo;repeat' (with_reducible first|exact vG _ _ _ _ _|exact ox _ _ _ _|exact tR _ _ _ _|exact Quiet.pure' trivial|refine Quiet.ite ?_ ?_|refine Quiet.bind' ?_ λ_=>?_|dsimp only|split)
def vH(e k a b c d):Quiet Plain (Op.complexOp e k a b c d):=by unfold Op.complexOp;split<;>repeat' (with_reducible first|exact zd _ _ _ _|exact xy _ _ _ _|exact Quiet.stuck _|exact ox _ _ _ _|exact tR _ _ _ _|exact xx _ _ _|exact Quiet.pure' trivial|exact Quiet.pure' (qP _)|exact Quiet.pure' (lZ _ _ _)|refine Quiet.ite ?_ ?_|refine Quiet.bind' ?_ λ_=>?_|dsimp only|split)
def nu(s a b d):Quiet Plain (Conv.complexToComplex s a b d):=by unfold Conv.complexToComplex;refine Quiet.bind' (eJ _ _ _).true λ_=>?_;split;refine Quiet.bind' (eJ _ _ _).true λ_=>?_;exact nt;exact nt
section
variable {S:Kn} {P:Program} {fs:Array Func} {π:Ren P.globals.size}
def Quiet.sr{s}(h:Quiet Plain s):(SR S (ah P fs) P) VQ π s s:=by induction h with|pure h=>exact .pure (h _ _)|choose q a _ b=>exact .choose (λf c h=>absurd h (L1 a f c)) b|halt h d=>exact .never (.halt h d)
def vI(P fs):∀(d) (t) (off),cellOfByte (ah P fs) d t off=cellOfByte P d t off:=by intro d;induction d with|zero=>exactλ_ _=>rfl|succ d a=>intro t off;unfold cellOfByte;simp only[a];rfl
def mI(P fs d e n a b):cellAtBytes (ah P fs) d e n a b=cellAtBytes P d e n a b:=by unfold cellAtBytes;simp only[vI,gp];rfl
def kh(a1 t){x X y Y}(j:aA π x X)(d:aA π y Y):(SR S (ah P fs) P) (λπ v V=>aA π v V/\∃a A,v=.pointer (some a)/\V=.pointer (some A)) π (Builtin.unsafeAdd_ a1 t #[x,y]) (Builtin.unsafeAdd_ a1 t #[X,Y]):=by (have go:∀(π:Ren P.globals.size) {p Q:Option Addr} (i:dP (aS π) p Q) {y Y:Value},aA π y Y->(SR S (ah P fs) P) (λπ v V=>aA π v V/\∃a A,v=.pointer (some a)/\V=.pointer (some A)) π (Builtin.unsafeAdd_ a1 t #[.pointer p,y]) (Builtin.unsafeAdd_ a1 t #[.pointer Q,Y]):=by intro π p Q i y Y d;unfold Builtin.unsafeAdd_;refine(jy d).bind ?_;rintro k l n _ rfl;have c:=i.mono λ_ _ x=>aS.mono l x;simp only[];split;(cases c with|none=>exact aD| @some a A b=>simp only[];cases b with|mk b=>refine(pn b).bind ?_;intro e f u v g;simp only[lB g];split;exact aD;exact ai ⟨.ptr (.mk (f _ _ b)),_,_,rfl,rfl⟩);split;exact aD;cases c with|none=>exact aD| @some a A b=>simp only[];cases b with|mk b=>refine(eQ b).bind ?_;rintro e f sh _ rfl;split;refine cE.bind ?_;rintro m o _ _ ⟨rfl,rfl⟩;simp only[mI];rw[show(ah P fs).depth=P.depth from rfl,show ∀t,(ah P fs).cellsOf t=P.cellsOf t fromλ_=>rfl];split;exact ai ⟨.ptr (.mk (o _ _ (f _ _ b))),_,_,rfl,rfl⟩;exact aD;exact aD);cases j with|JG=>exact go π .none d|ptr h=>exact go π (.some h) d|_=>exact al
def uL{a A}(h:aS π a A)(b):(SR S (ah P fs) P) VQ π (asNumber a b) (asNumber A b):=by unfold asNumber;refine(ie (.number b h)).bind ?_;intro c l r R d;exact ai (.ptr (.mk d))
def oy(a1 t y):dR (Builtin.unsafeAdd_ a1 t #[.tuple #[],y]):=by unfold Builtin.unsafeAdd_;exact dD _
def ma(t y):dR (Op.equal t (.tuple #[]) y):=by unfold Op.equal Op.maxDepth Op.equalIn;refine bK (du t) λd=>?_;cases d<;>cases y<;>first|exact dD _|(refine bM _ ?_;exact True.intro)|(rename_i a;cases a<;>first|exact dD _|(refine bM _ ?_;exact True.intro))|(rename_i a _ _;cases a<;>exact dD _)
def me(t x):dR (Op.equal t x (.tuple #[])):=by unfold Op.equal Op.maxDepth Op.equalIn;refine bK (du t) λd=>?_;cases d<;>cases x<;>first|exact dD _|(refine bM _ ?_;exact True.intro)|(rename_i a;cases a<;>first|exact dD _|(refine bM _ ?_;exact True.intro))|(rename_i a _ _;cases a<;>exact dD _)
def kN(t){x X y Y}(c:aA π x X)(e:aA π y Y):(SR S (ah P fs) P) VQ π (movedNumber t x y) (movedNumber t X Y):=by
 unfold movedNumber;refine(aB t).bind ?_;rintro k g d _ ⟨rfl,_⟩;have c:=c.mono g;have e:=e.mono g;simp only[];split;exact .never (aC (.halt _));have f:=c
 cases c with
 |ptr h=>simp only[];refine(gy h).bind ?_;rintro l m ⟨a,b⟩ ⟨A,B⟩ ⟨i,j⟩;simp only[]at i j⊢;subst j;refine(kh _ _ (.ptr i) (e.mono m)).bind ?_;rintro n q v V ⟨o,r,s,e1,p⟩;subst e1 p;cases o with|ptr h=>exact uL h _
 |my V a=>exact .never (show dR (Builtin.unsafeAdd_ #[] t #[.tuple #[],y])from oy _ _ _)
 |_=>exact(kh #[] t f e).mono λ_ _ _ _ h=>h.1
def vJ(t){x X y Y}(d:aA π x X)(e:aA π y Y):(SR S (ah P fs) P) VQ π (movedPointer t x y) (movedPointer t X Y):=by
 unfold movedPointer;have b:=d;cases d with
 |ptr h=>cases h with|mk h=>simp only[];refine(uH h).bind ?_;intro g f u v c;rw[lB c];split;exact aD;exact(kh _ _ (.ptr (.mk (f _ _ h))) (e.mono f)).mono λ_ _ _ _ h=>h.1
 |my V a=>exact .never (oy _ _ _)
 |_=>exact(kh _ _ b e).mono λ_ _ _ _ h=>h.1
def se{a A b B}(c:aS π a A)(d:aS π b B):(SR S (ah P fs) P) EqQ π (Op.twoPlaces a b) (Op.twoPlaces A B):=by (unfold Op.twoPlaces;have e1:=(c.eq d).1;have f:(a.block>=P.globals.size)=(A.block>=P.globals.size):=by cases c with|mk h=>have:=π.dF _ _ h;simp only[ge_iff_le,eq_iff_iff];omega);refine cE.bind ?_;rintro g e _ _ ⟨rfl,rfl⟩;simp only[show(ah P fs).globals=P.globals from rfl,bne,e1,f];split;exact aD;refine(iT (c.mono e)).bind ?_;rintro i j n _ rfl;refine(iT ((d.mono e).mono j)).bind ?_;rintro k l m _ rfl;exact ai rfl
def G6(k){a A b B}(c:aS π a A)(d:aS π b B):(SR S (ah P fs) P) VQ π (Op.addrSub k a b) (Op.addrSub k A B):=by unfold Op.addrSub;refine(se c d).bind ?_;rintro e f ⟨x,y⟩ _ rfl;exact ai (.int _ _)
def nv(c){a A b B}(d:aS π a A)(e:aS π b B):(SR S (ah P fs) P) VQ π (Op.addrCmp c a b) (Op.addrCmp c A B):=by unfold Op.addrCmp;refine(se d e).bind ?_;rintro f g ⟨x,y⟩ _ rfl;cases c<;>first|exact ai (.bool _)|exact aD
def qV(k){a A}(b:aS π a A)(n):(SR S (ah P fs) P) VQ π (Op.addrMod k a n) (Op.addrMod k A n):=by unfold Op.addrMod;cases b with|mk h=>refine(eQ h).bind ?_;rintro c d sh _ rfl;split;refine(dC _).bind ?_;rintro e f i _ ⟨rfl,_⟩;simp only[];split;exact .never (aC (.halt _));refine(iT (.mk (f _ _ (d _ _ h)))).bind ?_;rintro g j m _ rfl;exact ai (.int _ _);exact aD
def Ei(t){x X y Y}(a:aA π x X)(c:aA π y Y):(SR S (ah P fs) P) VQ π (do pure (.bool (!(<-Op.equal t x y)))) (do pure (.bool (!(<-Op.equal t X Y)))):=by refine(xb t a c).bind ?_;rintro d e b _ rfl;exact ai (.bool _)
def G7(t){x X y Y}(a:aA π x X)(c:aA π y Y):(SR S (ah P fs) P) VQ π (do pure (.bool (<-Op.equal t x y))) (do pure (.bool (<-Op.equal t X Y))):=by refine(xb t a c).bind ?_;rintro d e b _ rfl;exact ai (.bool _)
def dz{d e Q a A}(h:aS π a A){f:Addr->Sem d}{F:Addr->Sem e}(g:∀c,Ren.le π c->∀b B,aS c b B->(SR S (ah P fs) P) Q c (f b) (F B)):(SR S (ah P fs) P) Q π (do f (<-behindNumber a).1) (do F (<-behindNumber A).1):=by refine(gy h).bind ?_;rintro i j ⟨a,b⟩ ⟨A,B⟩ ⟨k,l⟩;exact g _ j _ _ k
def xz(t:TypeId){x X y Y:Value}(b:aA π x X)(c:aA π y Y):(SR S (ah P fs) P) VQ π (do if(<-underlying t) matches .unsafePointer then movedPointer t x y else movedNumber t x y) (do if(<-underlying t) matches .unsafePointer then movedPointer t X Y else movedNumber t X Y):=by refine(aB t).bind ?_;rintro d l a _ ⟨rfl,_⟩;split;exact vJ t (b.mono l) (c.mono l);exact kN t (b.mono l) (c.mono l)
def Calm.ite{c}[Decidable c]{s t}(h:Calm s)(a:Calm t):Calm (if c then s else t):=by split<;>assumption
def dh{b d Q c}[Decidable c]{s t:Sem b}{s' a:Sem d}(h:(SR S (ah P fs) P) Q π s s')(e:(SR S (ah P fs) P) Q π t a):(SR S (ah P fs) P) Q π (if c then s else t) (if c then s' else a):=by split<;>assumption
def MP(o t){x X y Y}(a:aA π x X)(d:aA π y Y):(SR S (ah P fs) P) VQ π (binOp o t x y) (binOp o t X Y):=by
 have i:=a;have j:=d;unfold binOp;split;cases a;cases d;exact(wX _ _ _ _ _).sr;cases a;cases d;exact(wX _ _ _ _ _).sr;cases a;cases d;rename_i u v;cases o<;>first
  |exact(u rfl).elim
  |exact(v rfl).elim
  |exact dh al (pT _ _ _ _).sr
  |exact dh al (DL _ _ _ _).sr
  |exact dh al (rN _ _ _ _).sr
  |exact dh al (DK _ _ _).sr
 cases a;cases d;cases o<;>first
  |exact dh al (mH _ _ _ _).sr
  |exact dh al (ow _ _ _ _).sr
 cases a;cases d;cases o<;>exact dh al (vH _ _ _ _ _ _).sr;cases a;cases d;cases o<;>exact(pU _ _ _).sr;rename_i p q r s;cases a<;>cases d<;>first|exact G7 t i j|exact .never (aC (ma _ _))|exact .never (aC (me _ _))|exact(p _ _ _ _ rfl rfl).elim|exact(q _ _ _ _ rfl rfl).elim|exact(r _ _ _ _ _ _ rfl rfl).elim|exact(s _ _ rfl rfl).elim
 rename_i p q r s;cases a<;>cases d<;>first|exact Ei t i j|exact .never (aC (ma _ _))|exact .never (aC (me _ _))|exact(p _ _ _ _ rfl rfl).elim|exact(q _ _ _ _ rfl rfl).elim|exact(r _ _ _ _ _ _ rfl rfl).elim|exact(s _ _ rfl rfl).elim
 cases d;cases a<;>exact xz t i j;cases a;cases d<;>exact kN t j i;cases d;cases a<;>exact kN t i (.int _ _);cases a with|ptr e=>cases d with|ptr k=>exact dz e λf h b B g=>dz (k.mono h) λl m c C n=>G6 _ (g.mono m) n
 cases a with|ptr e=>cases d with|ptr k=>exact dz e λf h b B g=>dz (k.mono h) λl m c C n=>nv _ (g.mono m) n
 cases a with|ptr e=>cases d with|ptr k=>exact dz e λf h b B g=>dz (k.mono h) λl m c C n=>nv _ (g.mono m) n
 cases a with|ptr e=>cases d with|ptr k=>exact dz e λf h b B g=>dz (k.mono h) λl m c C n=>nv _ (g.mono m) n
 cases a with|ptr e=>cases d with|ptr k=>exact dz e λf h b B g=>dz (k.mono h) λl m c C n=>nv _ (g.mono m) n
 cases a with|ptr e=>cases d with|int=>exact dz e λf h b B g=>qV _ g _
 cases a with|ptr e=>cases d with|int=>exact dz e λf h b B g=>qV _ g _
 cases d with|ptr e=>cases a with|int=>exact dz e λf h b B g=>qV _ g _
 exact aD;exact aD;exact al
def xA(h:BinOp)(t c)(d:gH (.unsupported c)){a A b B}(e:aA π a A)(f:aA π b B):(SR S (ah P fs) P) EqQ π (do if <-Op.eqGuardIn Op.maxDepth t a b then unsupported c) (do if <-Op.eqGuardIn Op.maxDepth t A B then unsupported c):=by refine(Br _ t e f).bind ?_;rintro g i x _ rfl;split;exact aD d;exact ai rfl
def G8(e t x y){a A b B}(f:aA π a A)(g:aA π b B):(SR S (ah P fs) P) EqQ π (eqGuard e t x y a b) (eqGuard e t x y A B):=by
 have c:=f;have d:=g;unfold eqGuard;refine dh (ai rfl) ?_;split;cases f;cases g;exact dh (ai rfl) (xA e t _ (by exact True.intro) c d);cases f;cases g;simp only[];refine cE.bind ?_;rintro j h _ _ ⟨rfl,rfl⟩;refine cE.bind ?_;rintro k i _ _ ⟨rfl,rfl⟩;rw[mF,show(ah P fs).depth=P.depth from rfl];split;exact ai rfl;exact xA e t _ (by exact True.intro) ((c.mono h).mono i) ((d.mono h).mono i);rename_i l m
 cases f with
 |my _ a=>cases A<;>first|(simp[dZ]at a;done)|exact ai rfl
 |_=>
  cases g with
  |my _ a=>cases B<;>first|(simp[dZ]at a;done)|exact ai rfl
  |_=>first|exact ai rfl|exact(l rfl rfl).elim|exact(m _ _ rfl rfl).elim
end
section
variable {S:Kn} {P:Program} {fs:Array Func} {π:Ren P.globals.size}
def fu{G}{ρ:Ren G}{c}(h:bn c):VsR ρ c c:=h.refl ρ
def qf(b:Array UInt8):bn (b.map λb=>Value.int .u8 b.toNat):=λi v h=>by rw[UK]at h;cases a:b[i]? with|none=>rw[a]at h;cases h|some x=>rw[a]at h;cases h;exact kx _ _
def iB(n){v}(h:Plain v):bn (Array.replicate n v):=λi x a=>by rw[Xu]at a;split at a<;>cases a;exact h
def bn.append{a b}(h:bn a)(d:bn b):bn (a++b):=λi x c=>by rw[Wk]at c;split at c;exact h _ _ c;exact d _ _ c
def bn.push{a}(h:bn a){v}(c:Plain v):bn (a.push v):=λi x b=>by rw[U6]at b;split at b;cases b;exact c;exact h _ _ b
def Ac{a A}(h:aS π a A)(n):(SR S (ah P fs) P) EqQ π (freeze a n) (freeze A n):=.freeze h (.pure rfl)
def mJ{a A}(h:aS π a A):(SR S (ah P fs) P) EqQ π (markStringish a) (markStringish A):=by unfold markStringish;cases h with|mk h=>refine(eQ h).bind ?_;rintro b c sh _ rfl;split;exact Ac (.mk (c _ _ h)) 1;exact ai rfl
def tS(e s):(SR S (ah P fs) P) VQ π (Conv.stringToBytes e s) (Conv.stringToBytes e s):=by unfold Conv.stringToBytes;refine(eu _).bind ?_;rintro c h n _ rfl;refine(iS e (fu ((qf _).append (iB _ (kx _ _))))).bind ?_;intro d i a A b;refine(mJ b).bind ?_;intro f g _ _ _;exact ai (.slice _ _ (b.mono g))
def ze(s):∀(b i) (acc),bn acc->bn (Conv.runesFrom s b i acc):=by intro b;induction b with|zero=>intro i acc h;exact h|succ b a=>intro i acc h;unfold Conv.runesFrom;split;exact a _ _ (h.push (kx _ _));exact h
def tT(e s):(SR S (ah P fs) P) VQ π (Conv.stringToRunes e s) (Conv.stringToRunes e s):=by unfold Conv.stringToRunes;refine(eu _).bind ?_;rintro b f n _ rfl;refine(iS e (fu ((ze _ _ _ _ .empty).append (iB _ (kx _ _))))).bind ?_;intro c g a A d;exact ai (.slice _ _ d)
def Ad{σ l L f F}(h:∀(a),Ren.le π a->∀v V s,aA a v V->(SR S (ah P fs) P) EqQ a (f v s) (F V s))(e:bt (aA π) l L):∀{a} (_:Ren.le π a) (s:σ),(SR S (ah P fs) P) EqQ a (forIn l s f) (forIn L s F):=by induction e with|nil=>intro a b s;simp only[List.forIn_nil];exact ai rfl|cons g _ i=>intro a b s;simp only[Xx];refine(h a b _ _ s (g.mono b)).bind ?_;rintro d c x _ rfl;cases x with|done=>exact ai rfl|yield s=>exact i (Ren.le_trans b c) s
def tU{x X}(h:aA π x X):(SR S (ah P fs) P) VQ π (Conv.bytesToString x) (Conv.bytesToString X):=by
 unfold Conv.bytesToString;cases h with
 |iL=>exact ai (.string _)
 |slice n c h=>
  simp only[];refine(j7 h n).bind ?_;intro a g i j e;simp only[<-VE];refine(Ad (π:=a) ?_ e.toList (Ren.le_refl _) _).bind ?_;intro b f v V s d
  cases d with
  |int k n=>cases k<;>first|exact ai rfl|exact .never (aC (.halt _))|exact al
  |_=>exact al
  rintro b f s _ rfl;exact ai (.string _)
 |qE A=>exact ai (.string _)
 |_=>exact al
def tV{x X}(h:aA π x X):(SR S (ah P fs) P) VQ π (Conv.runesToString x) (Conv.runesToString X):=by
 unfold Conv.runesToString;cases h with
 |iL=>exact ai (.string _)
 |slice n c h=>
  simp only[];refine(j7 h n).bind ?_;intro a g i j e;simp only[<-VE];refine(Ad (π:=a) ?_ e.toList (Ren.le_refl _) _).bind ?_;intro b f v V s d
  cases d with
  |int k n=>cases k<;>first|exact ai rfl|exact .never (aC (.halt _))|exact al
  |_=>exact al
  rintro b f s _ rfl;exact ai (.string _)
 |qE A=>exact ai (.string _)
 |_=>exact al
def Ae{a A}(h:aS π a A):(SR S (ah P fs) P) AQ π (Conv.seenAt a) (Conv.seenAt A):=by (unfold Conv.seenAt;have i:=h;have e1:a.spot=A.spot/\a.off=A.off:=by cases h;exact⟨rfl,rfl⟩);simp only[e1.1,e1.2];cases h with|mk h=>refine(pn h).bind ?_;intro j k x y c;cases c with|none=>exact ai (i.mono k)| @some u v d=>obtain⟨s,t⟩:=u;obtain⟨s',o⟩:=v;obtain⟨b,e⟩:=d;simp only[]at b e⊢;subst e;split;exact ai b;(have f:s.spot=s'.spot/\s.off=s'.off:=by cases b;exact⟨rfl,rfl⟩);simp only[f.1,f.2];split;exact .never (aC (.halt _));refine cE.bind ?_;rintro l g _ _ ⟨rfl,rfl⟩;simp only[gp,mI,show(ah P fs).depth=P.depth from rfl,show ∀t,(ah P fs).cellsOf t=P.cellsOf t fromλ_=>rfl];split;(cases b with|mk b=>refine(eQ (g _ _ b)).bind ?_;rintro m n sh _ rfl;split;split;exact .never (aC (.halt _));split;exact ai (.mk (n _ _ (g _ _ b)));exact aD;exact aD);exact aD
def G9{r R}(h:π r R):(SR S (ah P fs) P) EqQ π (cellsIn r) (cellsIn R):=by unfold cellsIn;refine(eQ h).bind ?_;rintro a b sh _ rfl;split;exact ai rfl;refine(cO (b _ _ h)).bind ?_;intro c e o O d;cases d<;>exact ai rfl
def vL(P fs):∀(n) (t u),sameLayout (ah P fs) n t u=sameLayout P n t u:=by intro n;induction n with|zero=>exactλ_ _=>rfl|succ n a=>intro t u;unfold sameLayout;simp only[a,ey];rfl
def Ha(P fs g):∀(d) (e) (c o n),rowAt (ah P fs) g d e c o n=rowAt P g d e c o n:=by intro d;induction d with|zero=>exactλ_ _ _ _=>rfl|succ d a=>intro e c o n;unfold rowAt;simp only[a,ey];rfl
def Ej(P fs):∀(d) (e) (c o) (u) (n),liesAt (ah P fs) d e c o u n=liesAt P d e c o u n:=by intro d;induction d with|zero=>exactλ_ _ _ _ _=>rfl|succ d a=>intro e c o u n;unfold liesAt;simp only[a,Ha,vL];rfl
def oz{a A}(h:aS π a A)(u n):(SR S (ah P fs) P) EqQ π (variablesAt a u n) (variablesAt A u n):=by unfold variablesAt;cases h with|mk h=>refine cE.bind ?_;rintro b c _ _ ⟨rfl,rfl⟩;refine(eQ (c _ _ h)).bind ?_;rintro d e sh _ rfl;simp only[Ej,show(ah P fs).depth=P.depth from rfl,show ∀t,(ah P fs).cellsOf t=P.cellsOf t fromλ_=>rfl];split<;>exact ai rfl
def sg(P fs):∀(d) (t),(ah P fs).holdsStoodIn d t=P.holdsStoodIn d t:=by intro d;induction d with|zero=>exactλ_=>rfl|succ d a=>intro t;unfold Program.holdsStoodIn;simp only[a,ey];rfl
def xB{a A}(h:aS π a A)(u):(SR S (ah P fs) P) VQ π (do pure (.pointer (some ⟨<-newObj (.view a u),0,none⟩))) (do pure (.pointer (some ⟨<-newObj (.view A u),0,none⟩))):=by refine(ie (.view u h)).bind ?_;intro b d r R c;exact ai (.ptr (.mk c))
def fM(f g){x X}(e:aA π x X):(SR S (ah P fs) P) VQ π (Conv.unsafePointer f g x) (Conv.unsafePointer f g X):=by unfold Conv.unsafePointer;refine(aB f).bind ?_;rintro v w s _ ⟨rfl,_⟩;refine(aB g).bind ?_;rintro y z d _ ⟨rfl,_⟩;have e:=(e.mono w).mono z;have h:=e;split;cases e;exact ai h;(cases e with|ptr l=>refine(Ae l).bind ?_;intro o A b B a;have m:=a;cases a with|mk a=>refine(G9 a).bind ?_;rintro p i c _ rfl;refine(bL _).bind ?_;rintro r k n _ rfl;have j:=λu=>xB (S:=S) (fs:=fs) ((m.mono i).mono k) u;split<;>exact dh (j _) (ai (.ptr ((m.mono i).mono k))));cases e;exact ai h;(cases e with|ptr l=>refine(Ae l).bind ?_;intro o A b B a;refine(bL _).bind ?_;rintro p i n _ rfl;simp only[];refine(oz (a.mono i) _ 1).bind ?_;rintro r k q _ rfl;refine dh (ai (.ptr ((a.mono i).mono k))) ?_;have t:=(a.mono i).mono k;cases a with|mk a=>refine(eQ (k _ _ (i _ _ a))).bind ?_;rintro C D sh _ rfl;split;refine cE.bind ?_;rintro E F _ _ ⟨rfl,rfl⟩;refine cE.bind ?_;rintro G H _ _ ⟨rfl,rfl⟩;rw[sg,show(ah P fs).depth=P.depth from rfl];split;exact .never (aC (.halt _));exact xB (((t.mono D).mono F).mono H) _;exact .never (aC (.halt _)));cases e<;>exact ai h;cases e;exact ai (.int _ _);(cases e with|ptr l=>exact uL l _);exact aD;exact aD;exact aD;exact al
def zg(c f e:TypeId){x X:Value}(a:aA π x X):(SR S (ah P fs) P) VQ π (do match <-underlying e with
 | .int .u8=>Conv.bytesToString x
 | .int .i32=>Conv.runesToString x
 |_=>stuck "Convert: a slice of what to string?") (do match <-underlying e with
 | .int .u8=>Conv.bytesToString X
 | .int .i32=>Conv.runesToString X
 |_=>stuck "Convert: a slice of what to string?"):=by
 refine(aB e).bind ?_;rintro g b d _ ⟨rfl,_⟩;split
 ·exact tU (a.mono b)
 ·exact tV (a.mono b)
 ·exact al
def zh(e:TypeId){s:ByteArray}:(SR S (ah P fs) P) VQ π (do match <-underlying e with
 | .int .u8=>Conv.stringToBytes e s
 | .int .i32=>Conv.stringToRunes e s
 |_=>stuck "Convert: string to a slice of what?") (do match <-underlying e with
 | .int .u8=>Conv.stringToBytes e s
 | .int .i32=>Conv.stringToRunes e s
 |_=>stuck "Convert: string to a slice of what?"):=by
 refine(aB e).bind ?_;rintro a b d _ ⟨rfl,_⟩;split
 ·exact tS _ _
 ·exact tT _ _
 ·exact al
def qg(b c e:TypeId){a A:Addr}{x X:Value}(f:aS π a A)(g:aA π x X):(SR S (ah P fs) P) VQ π (do match b==c,<-underlying e with
 |true,.int .u8=>do markStringish a;pure x
 |_,_=>unsupported (.noEntry "convert/other")) (do match b==c,<-underlying e with
 |true,.int .u8=>do markStringish A;pure X
 |_,_=>unsupported (.noEntry "convert/other")):=by
 refine(aB _).bind ?_;rintro h d e _ ⟨rfl,_⟩;split
 ·refine(mJ (f.mono d)).bind ?_
  intro i j _ _ _;exact ai ((g.mono d).mono j)
 ·exact aD
def sj(s d):dR (Conv.unsafePointer s d (.tuple #[])):=by unfold Conv.unsafePointer;refine bK (du s) λa=>?_;refine bK (du d) λb=>?_;cases a<;>cases b<;>exact dD _
def qW(c f):dR (convert c f (.tuple #[])):=by
 unfold convert;refine bK (du c) λa=>?_;refine bK (du f) λb=>?_;have key:∀e,dR (do match <-underlying e with
  | .int .u8=>Conv.bytesToString (.tuple #[])
  | .int .i32=>Conv.runesToString (.tuple #[])
  |_=>stuck "Convert: a slice of what to string?"):=λe=>by
  refine bK (du e) λd=>?_;split<;>exact dD _
 cases a<;>cases b<;>first|exact key _|exact sj _ _|(refine bM _ ?_;exact True.intro)
def Hb(a b)(h:(a==b)=false){x X}(g:aA π x X):(SR S (ah P fs) P) VQ π (convert a b x) (convert a b X):=by
 by_cases l:x=.tuple #[];rw[l];exact .never (qW _ _)
 unfold convert;refine(aB a).bind ?_;rintro v w _ s ⟨rfl,y⟩;clear y;refine(aB b).bind ?_;rintro z A _ d ⟨rfl,B⟩;clear B;have g:=(g.mono w).mono A;have c:=g;cases g<;>(try exact absurd rfl l)<;>split<;>first
  |contradiction
  |exact aD
  |exact ai (.int _ _)
  |exact ai (.float _ _)
  |exact(tQ _ _ _).sr
  |exact(eJ _ _ _).sr
  |exact(nu _ _ _ _).sr
  |exact ai (.string _)
  |exact zh _
  |exact fM _ _ c
  |exact zg a b _ c
  |exact qg a b _ (by assumption) c
  |(rename_i d1 d2 d3 m n o p q r t u i;cases d1<;>exact fM _ _ c)
  |(rename_i d1 d2 d3 m n o p q r t u i j f k;cases d1<;>first|contradiction|exact fM _ _ c|exact(k rfl).elim|exact(f rfl).elim|exact(j rfl).elim)
  |(rename_i d1 d2 d3 m n o p q r t u i j f;cases d1<;>first|contradiction|exact fM _ _ c|exact(f rfl).elim|exact(j rfl).elim|exact(i rfl).elim)
  |(injections;subst_vars;exact qg a b _ (by assumption) c)
  |(injections;done)
  |(rw[h];refine(aB _).bind ?_;rintro C D e _ ⟨rfl,_⟩;exact aD)
end
end Go.Tm

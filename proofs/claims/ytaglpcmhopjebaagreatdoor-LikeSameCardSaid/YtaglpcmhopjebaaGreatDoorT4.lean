import Derived.Test.YtaglpcmhopjebaaGreatDoorT3
set_option linter.all false
set_option maxRecDepth 100000
set_option maxHeartbeats 20000000
namespace Go.Tm
section
variable {S:Kn} {P:Program} {fs:Array Func} {π:Ren P.globals.size}
def AX{d e Q c}[Decidable c]{s t:Sem d}{s' b:Sem e}(h:c->(SR S (ah P fs) P) Q π s s')(f:¬c->(SR S (ah P fs) P) Q π t b):(SR S (ah P fs) P) Q π (if c then s else t) (if c then s' else b):=by by_cases a:c;rw[SS a,SS a];exact h a;rw[SQ a,SQ a];exact f a
def wO{x X}(h:av π x X):(SR S (ah P fs) P) (λ_ a b=>a=b/\∀o k c,x=.slice o k c->a=k) π (Builtin.lenOf x) (Builtin.lenOf X):=by cases h<;>first|exact ai ⟨rfl,by simp⟩|exact ai ⟨rfl,λo k c e=>by cases e;rfl⟩|exact al
def lL(size n){x X}(h:av π x X)(a:∀o c,x=.slice o 0 c->n=0):(SR S (ah P fs) P) VsQ π (Builtin.firstCells size n x) (Builtin.firstCells size n X):=by cases h with|slice l c h=>exact jO h _|iq=>exact ai .empty|string=>exact ai (fg (pD _))|pQ A=>rw[a _ _ rfl];unfold Builtin.firstCells;rw[UP];exact ai .empty|_=>exact al
def nU(size){x X}(h:av π x X):(SR S (ah P fs) P) (λ_ a b=>a=#[]/\b=#[]) π (Builtin.firstCells size 0 x) (Builtin.firstCells size 0 X):=by
 cases h with
 |slice l c h=>unfold Builtin.firstCells;rw[UP];exact ai ⟨rfl,rfl⟩
 |iq=>exact ai ⟨rfl,rfl⟩
 |string=>(have e:∀s:ByteArray,((s.extract 0 0).data.map λb=>(Value.int .u8 b.toNat))=#[]:=λs=>by simp);unfold Builtin.firstCells;exact ai ⟨e _,e _⟩
 |pQ A=>unfold Builtin.firstCells;rw[UP];exact ai ⟨rfl,rfl⟩
 |_=>exact al
def kW{z}(h:bj z)(n):bj (Builtin.zeroCells z n):=h.spread _ _
def tT(b:dC P)(a e size n){x X}(h:av π x X)(d:a=false->∀o c,x=.slice o 0 c->n=0):(SR S (ah P fs) P) VsQ π (if !a then Builtin.firstCells size n x else if n*size=0 then pure #[]else do pure (Builtin.zeroCells (<-zeroValue e).cells n)) (if !a then Builtin.firstCells size n X else if n*size=0 then pure #[]else do pure (Builtin.zeroCells (<-zeroValue e).cells n)):=by refine AX (λf=>lL _ _ h (d (by simpa using f))) (λ_=>cT (ai .empty) ?_);refine(dW b e).bind ?_;rintro g j z _ ⟨rfl,i⟩;exact ai (fg (kW i.cells _))
def AY(c e size){x X}(h:av π x X):(SR S (ah P fs) P) (λ_ a b=>a=#[]/\b=#[]) π (if !c then Builtin.firstCells size 0 x else if 0*size=0 then pure #[]else do pure (Builtin.zeroCells (<-zeroValue e).cells 0)) (if !c then Builtin.firstCells size 0 X else if 0*size=0 then pure #[]else do pure (Builtin.zeroCells (<-zeroValue e).cells 0)):=by refine cT (nU _ h) ?_;rw[SS (UP _)];exact ai ⟨rfl,rfl⟩
def PR(a1 t){x X}(h:VsR π x X):(SR S (ah P fs) P) VQ π (Builtin.len_ a1 t x) (Builtin.len_ a1 t X):=by
 unfold Builtin.len_;have j:=h.get 0;generalize x[0]? =u at*;generalize X[0]? =v at*;cases a1[0]? with
 |none=>exact al
 |some k=>
 cases j with
 |none=>exact al
 | @some x X a=>
 simp only[];refine(aA k).bind ?_;rintro l m d _ ⟨rfl,g⟩;clear g;have a:=a.mono m;cases d with
 |string=>cases a<;>first|exact ai (.int _ _)|exact al
 |array=>cases a<;>exact ai (.int _ _)
 |pointer=>
  cases a<;>
  ·refine(aA _).bind ?_;rintro b i d _ ⟨rfl,g⟩;cases d<;>first|exact al|exact ai (.int _ _)
 |slice=>cases a<;>first|exact ai (.int _ _)|exact al
 |map=>(cases a<;>first|exact ai (.int _ _)|exact al|skip);rename_i r R c;refine(bZ c).bind ?_;intro b i o O e;cases e with|map n f=>simp only[];rw[f.1];exact ai (.int _ _)|_=>exact al
 |chan=>(cases a<;>first|exact ai (.int _ _)|exact al|skip);rename_i r R c;refine(bZ c).bind ?_;intro b i o O e;cases e<;>exact al
 |_=>cases a<;>exact al
def PT(a1 t){x X}(h:VsR π x X):(SR S (ah P fs) P) VQ π (Builtin.cap_ a1 t x) (Builtin.cap_ a1 t X):=by
 unfold Builtin.cap_;have e:=h.get 0;generalize x[0]? =u at*;generalize X[0]? =v at*;cases a1[0]? with
 |none=>exact al
 |some f=>
 cases e with
 |none=>exact al
 | @some x X a=>
 simp only[];refine(aA f).bind ?_;rintro g i d _ ⟨rfl,c⟩;clear c;have a:=a.mono i;cases d with
 |array=>cases a<;>exact ai (.int _ _)
 |pointer=>
  cases a<;>
  ·refine(aA _).bind ?_;rintro b j d _ ⟨rfl,c⟩;cases d<;>first|exact al|exact ai (.int _ _)
 |slice=>cases a<;>first|exact ai (.int _ _)|exact al
 |chan=>(cases a<;>first|exact ai (.int _ _)|exact al|skip);rename_i r R k;refine(bZ k).bind ?_;intro b j o O l;cases l<;>exact al
 |_=>cases a<;>exact al
def OA(a1 t){x X}(h:VsR π x X):(SR S (ah P fs) P) VQ π (Builtin.copy_ a1 t x) (Builtin.copy_ a1 t X):=by
 unfold Builtin.copy_;have G:=h.get 0;have j:=h.get 1;generalize x[0]? =u at*;generalize X[0]? =v at*;generalize x[1]? =Q at*;generalize X[1]? =v1 at*;cases a1[0]? with
 |none=>exact al
 |some H=>
 cases G with
 |none=>exact al
 | @some d D k=>
 cases j with
 |none=>exact al
 | @some s C m=>
 simp only[];refine(aA H).bind ?_;rintro f i I _ ⟨rfl,p⟩;clear p;cases I<;>first|exact al|skip
 rename_i e;simp only[];have k:=k.mono i;have key:∀{b B:Option Addr} (l:Nat),(dJ (aQ f) b B\/l=0/\∃A E,b=some A/\B=some E)->(SR S (ah P fs) P) VQ f (do
  let n:=Nat.min (<-Builtin.lenOf s) l;let cells <-Builtin.firstCells (<-sizeOf e) n s
  if let some a:=b then storeCells a cells.toList
  pure (goInt n)) (do
  let n:=Nat.min (<-Builtin.lenOf C) l;let cells <-Builtin.firstCells (<-sizeOf e) n C
  if let some a:=B then storeCells a cells.toList
  pure (goInt n)):=by
  intro b B l g;refine(wO (m.mono i)).bind ?_;rintro J q n _ ⟨rfl,K⟩;refine(bE e).bind ?_;rintro L r z _ rfl;obtain g|⟨rfl,A,E,rfl,rfl⟩:=g
  ·refine(lL _ _ (((m.mono i).mono q).mono r) (λo c e=>?_)).bind ?_
   ·rw[K _ _ _ e]
    exact Nat.zero_min _
   intro w F R T M;have g:=g.mono λ_ _ x=>aQ.mono (Ren.le_trans q (Ren.le_trans r F)) x;cases g with
   |none=>exact ai (.int _ _)
   |some y=>refine(lD 0 y M.toList).bind ?_;intro N U _ _ _;exact ai (.int _ _)
  ·rw[show Nat.min n 0=0 from Nat.min_zero _]
   refine(nU _ (((m.mono i).mono q).mono r)).bind ?_;rintro w F _ _ ⟨rfl,rfl⟩;exact ai (.int _ _)
 cases k with|iq=>exact key _ (.inl .none)|slice l c O=>exact key _ (.inl (.some O))|pQ A=>exact key _ (.inr ⟨rfl,_,_,rfl,rfl⟩)|_=>exact al
def rA(d a b x y):(SR S (ah P fs) P) VQ π (do pure (.string (if <-asBool (<-Op.stringOp d a b)then x else y))) (do pure (.string (if <-asBool (<-Op.stringOp d a b)then x else y))):=by refine(pv d a b).sr.bind ?_;intro e h v V f;refine(y8 f).bind ?_;rintro g i c _ rfl;exact ai (.string _)
def OC{x X y Y}(a:av π x X)(b:av π y Y):(SR S (ah P fs) P) VQ π (Builtin.min2 x y) (Builtin.min2 X Y):=by
 cases a<;>cases b<;>first
  |exact al
  |exact aC
  |exact ai (.int _ _)
  |exact rA _ _ _ _ _
  |skip
 unfold Builtin.min2;simp only[];split<;>first|exact ai (.float _ _)|skip
 refine(eo _).bind ?_;rintro c d n _ rfl;exact ai (.float _ _)
def OD{x X y Y}(a:av π x X)(b:av π y Y):(SR S (ah P fs) P) VQ π (Builtin.max2 x y) (Builtin.max2 X Y):=by
 cases a<;>cases b<;>first
  |exact al
  |exact aC
  |exact ai (.int _ _)
  |exact rA _ _ _ _ _
  |skip
 unfold Builtin.max2;simp only[];split<;>first|exact ai (.float _ _)|skip
 refine(eo _).bind ?_;rintro c d n _ rfl;exact ai (.float _ _)
def zn{f:Value->Value->Sem Value}(d:∀{π:Ren P.globals.size} {x X y Y},av π x X->av π y Y->(SR S (ah P fs) P) VQ π (f x y) (f X Y)){l L}:∀{π:Ren P.globals.size} {x X},bl (av π) l L->av π x X->(SR S (ah P fs) P) VQ π (l.foldlM f x) (L.foldlM f X):=by induction l generalizing L with|nil=>intro π x X b c;cases b;exact ai c|cons a l e=>intro π x X b c;cases b with|cons h b=>simp only[List.foldlM_cons];refine(d c h).bind ?_;intro g i v V j;exact e (b.mono λ_ _ x=>x.mono i) j
def PU(a1 t){x X}(h:VsR π x X):(SR S (ah P fs) P) VQ π (Builtin.min_ a1 t x) (Builtin.min_ a1 t X):=by unfold Builtin.min_;have a:=h.toList;generalize x.toList=l at*;generalize X.toList=L at*;cases a with|nil=>exact al|cons h a=>exact zn OC a h
def PV(a1 t){x X}(h:VsR π x X):(SR S (ah P fs) P) VQ π (Builtin.max_ a1 t x) (Builtin.max_ a1 t X):=by unfold Builtin.max_;have a:=h.toList;generalize x.toList=l at*;generalize X.toList=L at*;cases a with|nil=>exact al|cons h a=>exact zn OD a h
def AZ(n):∀{π:Ren P.globals.size} {a A} (acc),aQ π a A->(SR S (ah P fs) P) EqQ π (loadBytes a acc n) (loadBytes A acc n):=by
 induction n with
 |zero=>intro π a A acc h;exact ai rfl
 |succ n b=>
  intro π a A acc h;unfold loadBytes;refine(qR h).bind ?_;intro c d v V e;cases e with
  |int k n=>cases k<;>first|exact b _ ((h.mono d).add 1)|exact al
  |_=>exact al
def uQ(a1 t){x X}(h:VsR π x X):(SR S (ah P fs) P) VQ π (Builtin.unsafeString_ a1 t x) (Builtin.unsafeString_ a1 t X):=by have a:=h.toList;obtain⟨x⟩:=x;obtain⟨X⟩:=X;simp only[]at a;cases a with|nil=>exact al|cons j a=>cases a with|nil=>exact al|cons g a=>cases a with|cons _ _=>exact .never (by unfold Builtin.unsafeString_;exact dv _)|nil=>(have key:∀{p Q:Option Addr},dJ (aQ π) p Q->∀{y Y:Value},av π y Y->(SR S (ah P fs) P) VQ π (Builtin.unsafeString_ a1 t #[.pointer p,y]) (Builtin.unsafeString_ a1 t #[.pointer Q,Y]):=by intro p Q c y Y k;unfold Builtin.unsafeString_;refine(jf k).bind ?_;rintro l m n _ rfl;have c:=c.mono λ_ _ x=>aQ.mono m x;cases a1[0]? with|none=>exact al|some o=>simp only[];split;exact .never (aB (aG _));split;exact .never (aB (.halt _));cases c with|none=>exact cT (ai (.string _)) dg|some d=>refine cT (ai (.string _)) ?_;refine(IZ o).bind ?_;rintro q f e _ rfl;refine(nT (d.mono f) _ _).bind ?_;rintro r i b _ rfl;refine cT ?_ aC;refine(AZ _ _ ((d.mono f).mono i)).bind ?_;rintro u v s _ rfl;refine(zk (((d.mono f).mono i).mono v) _).bind ?_;intro w A _ _ _;exact ai (.string _));cases j with|IJ=>exact key .none g|ptr z=>exact key (.some z) g|_=>exact al
def wP(a:P.underlying pR=none){b c Q}{f:TypeId->Sem b}{s:Sem c}:(SR S (ah P fs) P) Q π (elemOf pR>>= f) s:=by refine SR.kr ?_;have e:(ah P fs).underlying pR=none:=a;simp only[Sem.bind,e];exact al
def A2(t c)(g:P.underlying pR=none){a A}(b:aQ π a A):(SR S (ah P fs) P) VQ π (if c≠0 then pure (.pointer (some a)) else do if(<-viewAt a.block).isSome then pure (.pointer (some a))else do let e <-elemOf pR;pure (.pointer (some ⟨<-newObj (.view a e),0,none⟩))) (if c≠0 then pure (.pointer (some A)) else do if(<-viewAt A.block).isSome then pure (.pointer (some A))else do let e <-elemOf t;pure (.pointer (some ⟨<-newObj (.view A e),0,none⟩))):=by refine cT (ai (.ptr b)) ?_;have d:=b;cases b with|mk b=>refine(oP b).bind ?_;intro h i u v f;rw[kS f];exact cT (ai (.ptr (d.mono i))) (wP g)
def qk(a1 t)(b:P.underlying pR=none){x X}(h:VsR π x X):(SR S (ah P fs) P) VQ π (Builtin.unsafeSliceData_ a1 pR x) (Builtin.unsafeSliceData_ a1 t X):=by have a:=h.toList;obtain⟨x⟩:=x;obtain⟨X⟩:=X;simp only[]at a;cases a with|nil=>exact al|cons d a=>cases a with|cons _ _=>exact al|nil=>cases d with|iq=>exact ai .IJ|slice l c f=>exact A2 t c b f|pQ A=>show(SR S (ah P fs) P) VQ π (do if(<-viewAt 0).isSome then pure (.pointer (some ⟨0,0,some 0⟩))else do let e <-elemOf pR;pure (.pointer (some ⟨<-newObj (.view ⟨0,0,some 0⟩ e),0,none⟩))) _;unfold viewAt;refine SR.sC λx=>?_;exact wP b|_=>exact al
def uR(a n):cu (Builtin.holdsCells a n):=by unfold Builtin.holdsCells;exact vH
def yz(a b c x y):cu (Builtin.mayShare a b c x y):=by unfold Builtin.mayShare;repeat' (first|exact uR _ _|with_reducible first|exact cu.pure _|exact cu.frozen _|refine cu.ite ?_ ?_|refine cu.bind ?_ λ_=>?_|dsimp only|split)
def oU{a c}[Decidable c]{s t:Sem a}(h:dL s)(b:dL t):dL (if c then s else t):=by split<;>assumption
def Jl(L:dC P)(a1 t){x X}(h:VsR π x X):(SR S (ah P fs) P) VQ π (Builtin.append_ a1 t x) (Builtin.append_ a1 t X):=by
 unfold Builtin.append_;have hg:=h.get 0;have ax:=h.get 1;generalize x[0]? =u at*;generalize X[0]? =v at*;generalize x[1]? =u1 at*;generalize X[1]? =v1 at*;cases a1[0]? with
 |none=>exact al
 |some t0=>
 cases hg with
 |none=>exact al
 | @some d D k=>
 cases ax with
 |none=>exact al
 | @some s S f=>
 refine(aA t0).bind ?_;rintro ay l1 dd _ ⟨rfl,aM⟩;clear aM;cases dd<;>first|exact al|skip
 rename_i e;have k:=k.mono l1;have f:=f.mono l1;generalize a1[1]? =x1;have W:(∃b B l c,d=.slice b l c/\D=.slice B l c/\(dJ (aQ ay) b B\/l=0/\c=0/\∃A,b=some ⟨0,0,some 0⟩/\B=some A))\/∀b l c,d≠ .slice b l c:=by cases k<;>first|exact .inl ⟨_,_,_,_,rfl,rfl,.inr ⟨rfl,rfl,_,rfl,rfl⟩⟩|exact .inl ⟨_,_,_,_,rfl,rfl,.inl .none⟩|exact .inl ⟨_,_,_,_,rfl,rfl,.inl (.some (by assumption))⟩|exact .inr (by simp)
 obtain⟨b,B,l,c,rfl,rfl,j⟩|hno:=W;refine(bE e).bind ?_
 rintro bb l2 size _ rfl;have f:=f.mono l2;have k:=k.mono l2;have j:=j.imp_left λh=>h.mono λ_ _ x=>aQ.mono l2 x;cases x1 with
 |none=>refine(wO f).bind ?_;rintro a6 Y n _ ⟨rfl,hk⟩;have M:false=false->∀o c,s=.slice o 0 c->n=0:=λ_ o c e=>hk _ _ _ e;have f:=f.mono Y;have k:=k.mono Y;have j:=j.imp_left λh=>h.mono λ_ _ x=>aQ.mono Y x;refine AX (λad=>?_) (λ_=>?_);obtain j|⟨rfl,rfl,A,rfl,rfl⟩:=j;refine(tT L _ e size _ f M).bind ?_;(intro p w vs VS C;have E:=j.mono λ_ _ x=>aQ.mono w x;cases E with|none=>exact ai (.iq _ _)|some N=>refine(lD 0 (N.add _) C.toList).bind ?_;intro O F _ _ _;exact ai (.slice _ _ (N.mono F)));(have G:n=0:=by omega);subst G;refine(AY _ e size f).bind ?_;rintro p w _ _ ⟨rfl,rfl⟩;exact ai (.pQ _);refine(du e).bind ?_;rintro p w i _ ⟨rfl,_⟩;refine cT (.never (aB (aG _))) ?_;refine(du e).bind ?_;rintro af l7 i2 _ ⟨rfl,_⟩;refine cT (.never (aB (oU (aG _) (bD (yz _ _ _ _ _) λ_=>oU (bD (.mark _) λ_=>.halt _) (.halt _))))) ?_;refine(eo _).bind ?_;rintro ag l8 y _ rfl;refine(du e).bind ?_;rintro ak l9 i3 _ ⟨rfl,_⟩;refine(pX _).bind ?_;intro Q H _ _ _;have g:=Ren.le_trans w (Ren.le_trans l7 (Ren.le_trans l8 (Ren.le_trans l9 H)));refine(lL _ _ (k.mono g) (λo c e=>by cases e;rfl)).bind ?_;intro R I old an q;refine(tT L _ e size _ ((f.mono g).mono I) M).bind ?_;intro T J vs VS C;refine(dW L e).bind ?_;rintro U r z _ ⟨rfl,hp⟩;refine(iB e (((VsR.mono r (VsR.mono J q)).append (VsR.mono r C)).append (fg (kW hp.cells _)))).bind ?_;intro V ao a A ha;exact ai (.slice _ _ ha)
 |some t1=>refine(aA t1).bind ?_;rintro a6 Y d1 _ ⟨rfl,_⟩;have f:=f.mono Y;have k:=k.mono Y;have j:=j.imp_left λh=>h.mono λ_ _ x=>aQ.mono Y x;refine SR.bind (Q₁:=EqQ) (ai rfl) ?_;rintro bk l4 K _ rfl;have f:=f.mono l4;have k:=k.mono l4;have j:=j.imp_left λh=>h.mono λ_ _ x=>aQ.mono l4 x;refine AX (λar=>?_) (λbm=>?_);refine(jf f).bind ?_;(rintro a7 Z m _ rfl;refine cT (.never (aB (aG _))) ?_;refine(du e).bind ?_;rintro a8 aa i _ ⟨rfl,_⟩;refine cT (.never (bD (.choose _) λ_=>aB (aG _))) ?_;refine SR.bind (Q₁:=EqQ) (ai rfl) ?_;rintro ba ab n _ rfl;have M:K=false->∀o c,s=.slice o 0 c->n=0:=λh=>by rw[h]at ar;cases ar);have f:=((f.mono Z).mono aa).mono ab;have k:=((k.mono Z).mono aa).mono ab;have j:=j.imp_left λh=>h.mono λ_ _ x=>((aQ.mono Z x).mono aa).mono ab;refine AX (λad=>?_) (λ_=>?_);obtain j|⟨rfl,rfl,A,rfl,rfl⟩:=j;refine(tT L _ e size _ f M).bind ?_;(intro p w vs VS C;have E:=j.mono λ_ _ x=>aQ.mono w x;cases E with|none=>exact ai (.iq _ _)|some N=>refine(lD 0 (N.add _) C.toList).bind ?_;intro O F _ _ _;exact ai (.slice _ _ (N.mono F)));(have G:n=0:=by omega);subst G;refine(AY _ e size f).bind ?_;rintro p w _ _ ⟨rfl,rfl⟩;exact ai (.pQ _);refine(du e).bind ?_;rintro p w i _ ⟨rfl,_⟩;refine cT (.never (aB (aG _))) ?_;refine(du e).bind ?_;rintro af l7 i2 _ ⟨rfl,_⟩;refine cT (.never (aB (oU (aG _) (bD (yz _ _ _ _ _) λ_=>oU (bD (.mark _) λ_=>.halt _) (.halt _))))) ?_;refine(eo _).bind ?_;rintro ag l8 y _ rfl;refine(du e).bind ?_;rintro ak l9 i3 _ ⟨rfl,_⟩;refine(pX _).bind ?_;intro Q H _ _ _;have g:=Ren.le_trans w (Ren.le_trans l7 (Ren.le_trans l8 (Ren.le_trans l9 H)));refine(lL _ _ (k.mono g) (λo c e=>by cases e;rfl)).bind ?_;intro R I old an q;refine(tT L _ e size _ ((f.mono g).mono I) M).bind ?_;intro T J vs VS C;refine(dW L e).bind ?_;rintro U r z _ ⟨rfl,hp⟩;refine(iB e (((VsR.mono r (VsR.mono J q)).append (VsR.mono r C)).append (fg (kW hp.cells _)))).bind ?_;intro V ao a A ha;exact ai (.slice _ _ ha);refine(wO f).bind ?_;rintro a7 Z n _ ⟨rfl,hk⟩;have M:K=false->∀o c,s=.slice o 0 c->n=0:=λ_ o c e=>hk _ _ _ e;have f:=f.mono Z;have k:=k.mono Z;have j:=j.imp_left λh=>h.mono λ_ _ x=>aQ.mono Z x;refine AX (λad=>?_) (λ_=>?_);obtain j|⟨rfl,rfl,A,rfl,rfl⟩:=j;refine(tT L _ e size _ f M).bind ?_;(intro p w vs VS C;have E:=j.mono λ_ _ x=>aQ.mono w x;cases E with|none=>exact ai (.iq _ _)|some N=>refine(lD 0 (N.add _) C.toList).bind ?_;intro O F _ _ _;exact ai (.slice _ _ (N.mono F)));(have G:n=0:=by omega);subst G;refine(AY _ e size f).bind ?_;rintro p w _ _ ⟨rfl,rfl⟩;exact ai (.pQ _);refine(du e).bind ?_;rintro p w i _ ⟨rfl,_⟩;refine cT (.never (aB (aG _))) ?_;refine(du e).bind ?_;rintro af l7 i2 _ ⟨rfl,_⟩;refine cT (.never (aB (oU (aG _) (bD (yz _ _ _ _ _) λ_=>oU (bD (.mark _) λ_=>.halt _) (.halt _))))) ?_;refine(eo _).bind ?_;rintro ag l8 y _ rfl;refine(du e).bind ?_;rintro ak l9 i3 _ ⟨rfl,_⟩;refine(pX _).bind ?_;intro Q H _ _ _;have g:=Ren.le_trans w (Ren.le_trans l7 (Ren.le_trans l8 (Ren.le_trans l9 H)));refine(lL _ _ (k.mono g) (λo c e=>by cases e;rfl)).bind ?_;intro R I old an q;refine(tT L _ e size _ ((f.mono g).mono I) M).bind ?_;intro T J vs VS C;refine(dW L e).bind ?_;rintro U r z _ ⟨rfl,hp⟩;refine(iB e (((VsR.mono r (VsR.mono J q)).append (VsR.mono r C)).append (fg (kW hp.cells _)))).bind ?_;intro V ao a A ha;exact ai (.slice _ _ ha)
 cases d<;>first|exact al|exact absurd rfl (hno _ _ _)
end
section
variable {S:Kn} {P:Program} {fs:Array Func} {π:Ren P.globals.size} {G:Nat} {ρ:Ren G}
def nV(b n):∀{π:Ren P.globals.size} (t) {x X},av π x X->(SR S (ah P fs) P) EqQ π (Instr.checkKey b n t x) (Instr.checkKey b n t X):=by
 induction n with
 |zero=>intros;exact aC
 |succ n m=>
  intro π t x X h;unfold Instr.checkKey;refine(aA t).bind ?_;rintro j y d _ ⟨rfl,A⟩;clear A;have h:=h.mono y;cases d with
  |interface L=>(cases h<;>first|exact al|exact ai rfl|skip);rename_i B v V D;simp only[];refine(du B).bind ?_;rintro E F i _ ⟨rfl,_⟩;split;split;exact .never (aB (aG _));exact .never (bD (qP _) λ_=>aB (aG _));exact m _ (D.mono F)
  |array len e=>(cases h<;>first|exact al|skip);(rename_i c C o p;have a:VsR j c C:=⟨o,p⟩);simp only[Wd];refine SR.bind (Q₁:=EqQ) (iD _ _ λg k f s=>?_) ?_;refine(bE _).bind ?_;rintro H I z _ rfl;refine(fV _ _ (VsR.mono I (VsR.mono k a))).bind ?_;intro q J u U r;refine(m _ r).bind ?_;rintro w K b _ _;exact ai rfl;rintro g k s _ rfl;exact ai rfl
  |struct l=>(cases h<;>first|exact al|skip);(rename_i c C o p;have a:VsR j c C:=⟨o,p⟩);simp only[];rw[<-Ur,<-Ur];refine SR.bind (Q₁:=EqQ) (iD _ _ λg k f s=>?_) ?_;refine cT ?_ (ai rfl);refine(fV _ _ (VsR.mono k a)).bind ?_;intro q J u U r;refine(m _ r).bind ?_;rintro w K b _ _;exact ai rfl;rintro g k s _ rfl;exact ai rfl
  |_=>cases h<;>exact ai rfl
abbrev A3{G}(π:Ren G):Nat×Value->Nat×Value->Prop:=λa b=>a.1=b.1/\av π a.2 b.2
def tU(k){x X y Y}(a:av ρ x X)(b:av ρ y Y)(c:x≠ .tuple #[])(d:y≠ .tuple #[]):Instr.sameNow k x y=Instr.sameNow k X Y:=by cases a<;>(try exact absurd rfl c)<;>cases b<;>(try exact absurd rfl d)<;>first|rfl|(cases k<;>rfl)
def Jm(k y):Instr.sameNow k (.tuple #[]) y=none:=by cases k<;>rfl
def Jn(k x):Instr.sameNow k x (.tuple #[])=none:=by cases k<;>cases x<;>rfl
def Di(k){x X}(d:av ρ x X){l L}(f:bl (ir ρ) l L):∀i,dJ (dJ (A3 ρ)) (Instr.findNow k x l i) (Instr.findNow k X L i)\/Instr.findNow k x l i=none:=by induction f with|nil=>intro i;exact .inl (.some .none)| @cons e E l L a _ g=>intro i;unfold Instr.findNow;by_cases b:x=.tuple #[];rw[b,Jm];exact .inr rfl;by_cases c:e.key=.tuple #[];rw[c,Jn];exact .inr rfl;rw[tU k d a.key b c];split;exact .inl (.some (.some ⟨rfl,a.val⟩));exact g _;exact .inl .none
def Dj(t){d}(c:P.underlying t=some d){x y b}(h:Instr.sameNow d x y=some b){a g Q}{f:Bool->Sem a}{s':Sem g}(i:(SR S (ah P fs) P) Q π (f b) s'):(SR S (ah P fs) P) Q π (Op.equal t x y>>= f) s':=by
 have e:∃k:Program->Sem a,(Op.equal t x y>>= f)=.program k/\k (ah P fs)=f b:=by
  unfold Op.equal Op.maxDepth Op.equalIn underlying;refine⟨_,rfl,?_⟩;simp only[Sem.bind,jr,c,Pure.pure];cases d<;>cases x<;>first
   |(simp[Instr.sameNow]at h;done)
   |(cases y<;>first
    |(simp[Instr.sameNow]at h;done)
    |(simp only[Instr.sameNow,TJ]at h;subst h;simp only[Sem.bind,Pure.pure])
    |(simp only[Instr.sameNow]at h;split at h
      ·rename_i j;simp only[TJ]at h;subst h;subst j;simp only[Sem.bind,Pure.pure,Tf]
      ·cases h))
 obtain⟨k,e1,l⟩:=e;rw[e1];refine .kr ?_;rw[l];exact i
def Jo(t){d}(n:P.underlying t=some d){x X}(o:av π x X){l L}(p:bl (ir π) l L):∀(i) (r),Instr.findNow d X L i=some r->(SR S (ah P fs) P) (λc a b=>dJ (A3 c) a b) π (Instr.findAsking t x l i) (pure r):=by induction p with|nil=>intro i r h;simp only[Instr.findNow,TJ]at h;subst h;exact ai .none| @cons e E l L f _ q=>intro i r h;unfold Instr.findAsking;unfold Instr.findNow at h;by_cases g:x=.tuple #[];rw[g];exact .never (aB (lJ _ _));by_cases j:e.key=.tuple #[];rw[j];exact .never (aB (lK _ _));have k:=tU d o f.key g j;cases m:Instr.sameNow d X E.key with|none=>rw[m]at h;cases h|some b=>rw[m]at h k;refine Dj t n k ?_;cases b with|true=>simp only[TJ]at h;subst h;exact ai (.some ⟨rfl,f.val⟩)|false=>exact q _ _ h
def pF(t){l L}:∀{π:Ren P.globals.size} {x X} (i),av π x X->bl (ir π) l L->(SR S (ah P fs) P) (λd a b=>dJ (A3 d) a b) π (Instr.findAsking t x l i) (Instr.findAsking t X L i):=by induction l generalizing L with|nil=>intro π x X i f c;cases c;exact ai .none|cons e l j=>intro π x X i f c;cases c with|cons h c=>unfold Instr.findAsking;refine(vQ t f h.key).bind ?_;rintro k g b _ rfl;refine cT (ai (.some ⟨rfl,h.val.mono g⟩)) ?_;exact j _ (f.mono g) (c.mono λ_ _ x=>ir.mono g x)
def ql(t){x X}(g:av π x X){l L}(j:bl (ir π) l L):(SR S (ah P fs) P) (λi a b=>dJ (A3 i) a b) π (Instr.findKey t x l) (Instr.findKey t X L):=by unfold Instr.findKey;refine(aA t).bind ?_;rintro k e d _ ⟨rfl,m⟩;have c:=j.mono λ_ _ x=>ir.mono e x;have h:=Di d (g.mono e) c 0;have f:=Jo (S:=S) (fs:=fs) t m (g.mono e) c 0;generalize Instr.findNow d x l 0=u at*;generalize Instr.findNow d X L 0=v at*;obtain h|rfl:=h;(cases h with|some h=>exact ai h|none=>exact pF t 0 (g.mono e) c);cases v with|none=>exact pF t 0 (g.mono e) c|some r=>exact f r rfl
def LW{x X:Value}(g:av π x X){b c:Type}{Q:Ren P.globals.size->b->c->Prop}{s:String}{f:Array MapEntry->Sem b}{F:Array MapEntry->Sem c} (d:∀a,Ren.le π a->∀es e,aW (ir a) es e->(SR S (ah P fs) P) Q a (f es) (F e)):(SR S (ah P fs) P) Q π (do
  let es <-match x with
   | .map none=>pure #[]
   | .map (some r)=>do
    let .map es _ <-getObj r|stuck s
    pure es
   |_=>stuck s
  f es) (do
  let es <-match X with
   | .map none=>pure #[]
   | .map (some r)=>do
    let .map es _ <-getObj r|stuck s
    pure es
   |_=>stuck s
  F es):=by
 cases g with
 |KZ=>exact d _ (Ren.le_refl _) _ _ .empty
 |map h=>
  refine(bZ h).bind ?_;intro i j o O k;cases k with
  |map n h=>exact d _ j _ _ h
  |_=>exact .never (aB (.halt _))
 |_=>exact .never (aB (.halt _))
def Jp(n:dC P)(t i){x X y Y}(j:av π x X)(e:av π y Y):(SR S (ah P fs) P) VQ π (Instr.lookup t x y i) (Instr.lookup t X Y i):=by (unfold Instr.lookup;refine(aA t).bind ?_;rintro o l d _ ⟨rfl,A⟩;cases d<;>first|exact al|skip);(rename_i key elem;have j:=j.mono l;have e:=e.mono l;refine LW j ?_;intro p q es ES f;have g:es.isEmpty=ES.isEmpty:=by simp only[Array.isEmpty,f.1]);(rw[g];have e:=e.mono q;refine(nV _ _ _ e).bind ?_;intro r m _ _ _;refine(ql _ (e.mono m) (f.toList.mono λ_ _ x=>ir.mono m x)).bind ?_;intro s B u v k;have c:∀{a:Ren P.globals.size} (v V:Value) (b:Bool),av a v V->av a (if i then .tuple #[v,.bool b]else v) (if i then .tuple #[V,.bool b]else V):=by intro a v V b h;split;exact av.tuple' (aW.push (aW.push aW.empty h) (.bool b));exact h);cases k with|none=>refine(dW n elem).bind ?_;rintro a C z _ ⟨rfl,w⟩;exact ai (c _ _ _ (w _ _))|some h=>exact ai (c _ _ _ h.2)
def A4(n):∀{x X y Y},av ρ x X->av ρ y Y->Instr.sameBits n x y=true->Instr.sameBits n X Y=true:=by
 have f:∀{r R s Z:Nat},ρ r R->ρ s Z->(some r==some s)=(some R==some Z):=by (intro r R s Z h i;have e:r=s↔R=Z:=⟨λe=>by subst e;exact ρ.fn _ _ _ h i,λe=>by subst e;exact ρ.inj _ _ _ h i⟩);rw[T5];simp[e]
 have g:∀{a A b B:Addr},aQ ρ a A->aQ ρ b B->(some a==some b)=(some A==some B):=by intro a A b B h i;have:=(h.eq i).2;rw[T5]at this⊢;simpa using this
 induction n with
 |zero=>intro x X y Y j k h;cases j<;>cases k<;>first|exact h|(simp[Instr.sameBits]at h;done)|exact(g (by assumption) (by assumption)).symm.trans h|exact(f (by assumption) (by assumption)).symm.trans h
 |succ n v=>(intro x X y Y j k h;cases j<;>cases k<;>first|exact h|(simp[Instr.sameBits]at h;done)|exact(g (by assumption) (by assumption)).symm.trans h|exact(f (by assumption) (by assumption)).symm.trans h|skip);rename_i o _ _ _ p;unfold Instr.sameBits at h⊢;simp only[Td]at h⊢;exact⟨h.1,v o p h.2⟩;rename_i c C w o d D z p;(have E:=aW.toList ⟨w,o⟩;have F:=aW.toList ⟨z,p⟩;have key:∀{l L m M:List Value},bl (av ρ) l L->bl (av ρ) m M->((l.zip m).all λ(x,y)=>Instr.sameBits n x y)=true->((L.zip M).all λ(x,y)=>Instr.sameBits n x y)=true:=by intro l L m M H;induction H generalizing m M with|nil=>intro _ _;rfl|cons h _ q=>intro t u;cases t with|nil=>rfl|cons i t=>simp only[List.zip_cons_cons,U7,Td]at u⊢;exact⟨v h i u.1,q t u.2⟩);unfold Instr.sameBits at h⊢;simp only[Td]at h⊢;rw[w,z]at h;exact⟨h.1,key E F h.2⟩
def nk{x X y Y}(b:av π x X)(a:av π y Y):(SR S (ah P fs) P) VQ π (Instr.keyThatStays x y) (Instr.keyThatStays X Y):=by unfold Instr.keyThatStays;have d:=A4 10000 b a;generalize Instr.sameBits 10000 x y=u at*;generalize Instr.sameBits 10000 X Y=v at*;cases u with|true=>rw[d rfl];exact ai a|false=>cases v with|true=>exact .mF 0 (n:=0) (λf g h=>by cases h) rfl (ai a)|false=>simp only[Tn,Tk];refine(eo _).bind ?_;rintro e c n _ rfl;refine ai ?_;split;exact a.mono c;exact b.mono c
def nW{R es a}(h:aW R es a)(i){f F:MapEntry->MapEntry}(c:∀e E,R e E->R (f e) (F E)):aW R (es.modify i f) (a.modify i F):=aW.lu λj=>by rw[TR,TR];have b:=h.get j;split;generalize es[j]? =u at*;(generalize a[j]? =v at*;cases b with|none=>exact .none|some r=>exact .some (c _ _ r));exact b
def zo{es a}(h:aW (ir ρ) es a)(i:Nat){k K}(b:av ρ k K):av ρ (((es[i]?).map (·.key)).getD k) (((a[i]?).map (·.key)).getD K):=by have c:=h.get i;generalize es[i]? =u at*;generalize a[i]? =v at*;cases c with|none=>exact b|some r=>exact r.key
def Gb{es a}(h:aW (ir ρ) es a)(i:Nat){b:Type}(f:Nat->b)(d):(((a[i]?).map (λx=>f x.born)).getD d)=(((es[i]?).map (λx=>f x.born)).getD d):=by have c:=h.get i;generalize es[i]? =u at*;generalize a[i]? =v at*;cases c with|none=>rfl|some r=>exact Tx f r.born.symm
def rC(t){x X k K v V}(m:av π x X)(b:av π k K)(c:av π v V):(SR S (ah P fs) P) EqQ π (Instr.mapUpdate t x k v) (Instr.mapUpdate t X K V):=by
 unfold Instr.mapUpdate;refine(aA t).bind ?_;rintro s g d _ ⟨rfl,M⟩;cases d<;>first|exact al|skip
 rename_i key elem;have m:=m.mono g;cases m with
 |KZ=>exact dg
 |map h=>
  refine(bZ h).bind ?_;intro A j o O B;cases B with
  | @map es N n a=>refine(nV _ _ _ ((b.mono g).mono j)).bind ?_;intro C l _ _ _;have b:=((b.mono g).mono j).mono l;have c:=((c.mono g).mono j).mono l;have a:=a.mono λ_ _ x=>ir.mono l x;have h:=l _ _ (j _ _ h);refine(ql _ b a.toList).bind ?_;intro D f u w p;have b:=b.mono f;have c:=c.mono f;have a:=a.mono λ_ _ x=>ir.mono f x;cases p with|none=>exact ep (f _ _ h) (by simp) (.map _ (a.push ⟨b,c,rfl⟩))| @some u w F=>obtain⟨i,y⟩:=u;obtain⟨Q,Y⟩:=w;obtain⟨r,H⟩:=F;simp only[]at r H;subst r;refine(nk (zo a i b) b).bind ?_;intro I q z Z J;exact ep (q _ _ (f _ _ h)) (by simp) (.map _ (nW (a.mono λ_ _ x=>ir.mono q x) i λe E L=>⟨J,c.mono q,L.born⟩))
  |_=>exact al
 |_=>exact al
def Dk(l:dC P)(t){x X k K}(m:av π x X)(c:av π k K):(SR S (ah P fs) P) VQ π (Instr.mapEntry t x k) (Instr.mapEntry t X K):=by
 unfold Instr.mapEntry;refine(aA t).bind ?_;rintro H p d _ ⟨rfl,R⟩;cases d<;>first|exact al|skip
 rename_i key elem;have m:=m.mono p;cases m with
 |KZ=>exact dg
 |map h=>
  refine(bZ h).bind ?_;intro I q o O J;cases J with
  | @map es T b a=>refine(nV _ _ _ ((c.mono p).mono q)).bind ?_;intro L r _ _ _;have c:=((c.mono p).mono q).mono r;have a:=a.mono λ_ _ x=>ir.mono r x;have h:=r _ _ (q _ _ h);refine(ql _ c a.toList).bind ?_;intro M j u w s;have c:=c.mono j;have a:=a.mono λ_ _ x=>ir.mono j x;cases s with|none=>refine(dW l elem).bind ?_;rintro f g z _ ⟨rfl,A⟩;refine(ep (g _ _ (j _ _ h)) (by simp) (.map _ (aW.push (a.mono λ_ _ x=>ir.mono g x) (⟨c.mono g,A _ _,rfl⟩:ir f ⟨k,z,b⟩ ⟨K,z,b⟩)))).bind ?_;intro v B _ _ _;exact ai (av.tuple' (aW.push (aW.push aW.empty (A _ _)) (.int _ _)))| @some u w N=>obtain⟨i,y⟩:=u;obtain⟨U,Y⟩:=w;obtain⟨C,D⟩:=N;simp only[]at C D;subst C;refine(nk (zo a i c) c).bind ?_;intro f g z Z l;refine(ep (g _ _ (j _ _ h)) (by simp) (.map _ (nW (a.mono λ_ _ x=>ir.mono g x) i λe E F=>(⟨l,F.val,F.born⟩:ir f {e with key:=z} {E with key:=Z})))).bind ?_;intro v B _ _ _;have Q:=Gb a i (λn:Nat=>(n:Int)) 0;rw[Q];exact ai (av.tuple' (aW.push (aW.push aW.empty ((D.mono g).mono B)) (.int _ _)))
  |_=>exact al
 |_=>exact al
def Dl{es a}(h:aW (ir ρ) es a)(b):a.findIdx? (λe=>(e.born:Int)==b)=es.findIdx? (λe=>(e.born:Int)==b):=by have:=h.toList;obtain⟨l⟩:=es;obtain⟨L⟩:=a;simp only[List.findIdx?_toArray];simp only[]at this;clear h;induction this with|nil=>rfl|cons c _ d=>rw[List.findIdx?_cons,List.findIdx?_cons,c.born,d]
def yA(t){x X k K v V}(g:av π x X)(i:av π k K)(j:av π v V):(SR S (ah P fs) P) EqQ π (Instr.entryStore t x k v) (Instr.entryStore t X K V):=by
 unfold Instr.entryStore;cases g with
 |map h=>refine(bZ h).bind ?_;intro l b o O m;cases m with| @map es q c a=>refine(jf (i.mono b)).bind ?_;rintro p d n _ rfl;have a:=a.mono λ_ _ x=>ir.mono d x;rw[Dl a];split;exact ep (d _ _ (b _ _ h)) (by simp) (.map _ (nW a _ λe E f=>⟨f.key,(j.mono b).mono d,f.born⟩));exact aC|_=>exact al
 |_=>exact al
def LX(t){x X}(b:av π x X):(SR S (ah P fs) P) VQ π (Instr.range t x) (Instr.range t X):=by
 unfold Instr.range;refine(aA t).bind ?_;rintro e f d _ ⟨rfl,g⟩;clear g;have b:=b.mono f;have fin:∀{a:Ren P.globals.size} {o O:Obj},fw S a o O->(SR S (ah P fs) P) VQ a (do pure (.pointer (some ⟨<-newObj o,0,none⟩))) (do pure (.pointer (some ⟨<-newObj O,0,none⟩))):=by intro a o O c;refine(gO c).bind ?_;intro i m r R j;exact ai (.ptr (.mk j))
 cases d with
 |string=>cases b<;>first|exact fin (.stringIter _ _)|exact .never (aB (.halt _))
 |map=>(cases b<;>first|exact fin (.eY _ _ _)|exact .never (aB (.halt _))|skip);rename_i r R h;refine(bZ h).bind ?_;intro a k o O c;cases c with|map n l=>exact fin (.mapIter _ _ _ (k _ _ h))|_=>exact .never (aB (.halt _))
 |_=>cases b<;>exact .never (aB (.halt _))
def bl.filter{b c R l m}(h:bl R l m){p:b->Bool}{q:c->Bool}(d:∀x y,R x y->p x=q y):bl R (l.filter p) (m.filter q):=by induction h with|nil=>exact .nil|cons h _ a=>rw[Uh,Uh,d _ _ h];split;exact .cons h a;exact a
def aW.filter{a b R l m}(h:aW R l m){p:a->Bool}{q:b->Bool}(c:∀x y,R x y->p x=q y):aW R (l.filter p) (m.filter q):=by have:=(h.toList.filter c).toArray;obtain⟨l⟩:=l;obtain⟨m⟩:=m;simpa using this
def aW.all{a b R l m}(h:aW R l m){p:a->Bool}{q:b->Bool}(c:∀x y,R x y->p x=q y):l.all p=m.all q:=by have d:=h.toList;obtain⟨l⟩:=l;obtain⟨m⟩:=m;simp only[Tp,List.all_toArray']at*;clear h;induction d with|nil=>rfl|cons h _ e=>rw[U7,U7,c _ _ h,e]
def aW.find{a b R l m}(h:aW R l m){p:a->Bool}{q:b->Bool}(c:∀x y,R x y->p x=q y):dJ R (l.find? p) (m.find? q):=by have d:=h.toList;obtain⟨l⟩:=l;obtain⟨m⟩:=m;simp only[List.find?_toArray]at*;clear h;induction d with|nil=>exact .none|cons h _ e=>rw[List.find?_cons,List.find?_cons,c _ _ h];split;exact .some h;exact e
def aW.isEmpty{a b R}{l:Array a}{m:Array b}(h:aW R l m):l.isEmpty=m.isEmpty:=by simp only[Array.isEmpty,h.1]
def LY{x X}(j:av π x X):(SR S (ah P fs) P) VQ π (Instr.entry x) (Instr.entry X):=by
 unfold Instr.entry;cases j with
 |ptr h=>
  cases h with
  | @mk r R o p h=>
   cases o with
   |succ=>exact al
   |zero=>
   refine(bZ h).bind ?_;intro k t ob w f;cases f with
   |mapIter a seen c l=>
    simp only[];cases seen.back? with
    |none=>exact al
    |some b=>
     simp only[];refine(bZ l).bind ?_;intro m y o O f;cases f with
     | @map es n g i=>simp only[];split;exact .never (aB (.halt _));(have s:=i.find (p:=λe=>e.born==b) (q:=λe=>e.born==b) λe E d=>by rw[d.born]);generalize es.find? _=u at*;generalize n.find? _=v at*;cases s with|none=>exact aC|some d=>exact ai (av.tuple' (aW.push (aW.push aW.empty d.key) d.val))
     |_=>exact al
   |_=>exact al
 |_=>exact al
def OE(b t){x X}(H:av π x X):(SR S (ah P fs) P) VQ π (Instr.next x b t) (Instr.next X b t):=by
 unfold Instr.next;cases H with
 |ptr h=>
  cases h with
  | @mk r R o p h=>
   cases o with
   |succ=>exact al
   |zero=>
   refine(bZ h).bind ?_;intro I J ob N z;have h:=J _ _ h;cases z with
   |stringIter s pos=>cases b with|false=>exact al|true=>refine cT ?_ (ai (av.tuple' (aW.push aW.empty (.bool _))));refine(ep h (by simp) (.stringIter _ _)).bind ?_;intro j A _ _ _;exact ai (av.tuple' (aW.push (aW.push (aW.push aW.empty (.bool _)) (.int _ _)) (.int _ _)))
   |eY=>cases b with|true=>exact al|false=>exact ai (av.tuple' (aW.push aW.empty (.bool _)))
   |mapIter a seen last w=>
    cases b with
    |true=>exact al
    |false=>
     refine(bZ w).bind ?_;intro j A o O z;have h:=A _ _ h;have w:=A _ _ w;cases z with
     | @map es K B i=>simp only[];rw[<-i.isEmpty,<-i.all (p:=λe=>decide (e.born>=last)) (q:=λe=>decide (e.born>=last)) λe E c=>by rw[c.born]];split;exact .never (aB (.halt _));(have d:=i.filter (p:=λe=> !seen.contains e.born) (q:=λe=> !seen.contains e.born) λe E c=>by rw[c.born]);(generalize es.filter (λe=> !seen.contains e.born)=left at*;generalize K.filter (λe=> !seen.contains e.born)=f at*;have g:=d.filter (p:=λe=>decide (e.born<a)) (q:=λe=>decide (e.born<a)) λe E c=>by rw[c.born]);(have k:=d.filter (p:=λe=>decide (e.born>=a)) (q:=λe=>decide (e.born>=a)) λe E c=>by rw[c.born]);(generalize left.filter (λe=>decide (e.born<a))=old at*;generalize f.filter (λe=>decide (e.born<a))=l at*;generalize left.filter (λe=>decide (e.born>=a))=new at*;generalize f.filter (λe=>decide (e.born>=a))=m at*;rw[<-g.isEmpty];have D:aW (dJ (ir j)) ((if old.isEmpty then #[none]else #[])++(old++new).map some) ((if old.isEmpty then #[none]else #[])++(l++m).map some):=by refine aW.append ?_ ((g.append k).map λ_ _=>.some);split;exact aW.push aW.empty .none;exact .empty);generalize ((if old.isEmpty then #[none]else #[])++(old++new).map some)=cs at*;generalize ((if old.isEmpty then #[none]else #[])++(l++m).map some)=CS at*;rw[<-D.1];refine(eo _).bind ?_;rintro L y n _ rfl;have C:=D.get n;generalize cs[n]? =u at*;generalize CS[n]? =v at*;cases C with|none=>exact al|some C=>cases C with|none=>exact ai (av.tuple' (aW.push aW.empty (.bool _)))|some c=>simp only[c.born];refine(ep (y _ _ h) (by simp) (.mapIter _ _ _ (y _ _ w))).bind ?_;intro M F _ _ _;exact ai (av.tuple' (aW.push (aW.push (aW.push aW.empty (.bool _)) ((c.key.mono y).mono F)) ((c.val.mono y).mono F)))
     |_=>exact al
   |_=>cases b<;>exact al
 |_=>exact al
end
end Go.Tm

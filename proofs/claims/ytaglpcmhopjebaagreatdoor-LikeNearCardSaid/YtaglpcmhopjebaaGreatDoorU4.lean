import Derived.Test.YtaglpcmhopjebaaGreatDoorU3
set_option linter.all false
set_option maxRecDepth 100000
set_option maxHeartbeats 20000000
namespace Go.Tm
section
variable {S:Kn} {P:Program} {fs:Array Func} {π:Ren P.globals.size}
def BV{d e Q c}[Decidable c]{s t:Sem d}{s' b:Sem e}(h:c->(SR S (ah P fs) P) Q π s s')(f:¬c->(SR S (ah P fs) P) Q π t b):(SR S (ah P fs) P) Q π (if c then s else t) (if c then s' else b):=by by_cases a:c;rw[Ud a,Ud a];exact h a;rw[Uc a,Uc a];exact f a
def xC{x X}(h:aA π x X):(SR S (ah P fs) P) (λ_ a b=>a=b/\∀o k c,x=.slice o k c->a=k) π (Builtin.lenOf x) (Builtin.lenOf X):=by cases h<;>first|exact ai ⟨rfl,by simp⟩|exact ai ⟨rfl,λo k c e=>by cases e;rfl⟩|exact al
def mf(size n){x X}(h:aA π x X)(a:∀o c,x=.slice o 0 c->n=0):(SR S (ah P fs) P) VsQ π (Builtin.firstCells size n x) (Builtin.firstCells size n X):=by cases h with|slice l c h=>exact j7 h _|iL=>exact ai .empty|string=>exact ai (fu (qf _))|qE A=>rw[a _ _ rfl];unfold Builtin.firstCells;rw[Wh];exact ai .empty|_=>exact al
def oD(size){x X}(h:aA π x X):(SR S (ah P fs) P) (λ_ a b=>a=#[]/\b=#[]) π (Builtin.firstCells size 0 x) (Builtin.firstCells size 0 X):=by
 cases h with
 |slice l c h=>unfold Builtin.firstCells;rw[Wh];exact ai ⟨rfl,rfl⟩
 |iL=>exact ai ⟨rfl,rfl⟩
 |string=>(have e:∀s:ByteArray,((s.extract 0 0).data.map λb=>(Value.int .u8 b.toNat))=#[]:=λs=>by simp);unfold Builtin.firstCells;exact ai ⟨e _,e _⟩
 |qE A=>unfold Builtin.firstCells;rw[Wh];exact ai ⟨rfl,rfl⟩
 |_=>exact al
def lF{z}(h:bn z)(n):bn (Builtin.zeroCells z n):=h.spread _ _
def uM(b:dJ P)(a e size n){x X}(h:aA π x X)(d:a=false->∀o c,x=.slice o 0 c->n=0):(SR S (ah P fs) P) VsQ π (if !a then Builtin.firstCells size n x else if n*size=0 then pure #[]else do pure (Builtin.zeroCells (<-zeroValue e).cells n)) (if !a then Builtin.firstCells size n X else if n*size=0 then pure #[]else do pure (Builtin.zeroCells (<-zeroValue e).cells n)):=by refine BV (λf=>mf _ _ h (d (by simpa using f))) (λ_=>dh (ai .empty) ?_);refine(ej b e).bind ?_;rintro g j z _ ⟨rfl,i⟩;exact ai (fu (lF i.cells _))
def B8(c e size){x X}(h:aA π x X):(SR S (ah P fs) P) (λ_ a b=>a=#[]/\b=#[]) π (if !c then Builtin.firstCells size 0 x else if 0*size=0 then pure #[]else do pure (Builtin.zeroCells (<-zeroValue e).cells 0)) (if !c then Builtin.firstCells size 0 X else if 0*size=0 then pure #[]else do pure (Builtin.zeroCells (<-zeroValue e).cells 0)):=by refine dh (oD _ h) ?_;rw[Ud (Wh _)];exact ai ⟨rfl,rfl⟩
def QX(a1 t){x X}(h:VsR π x X):(SR S (ah P fs) P) VQ π (Builtin.len_ a1 t x) (Builtin.len_ a1 t X):=by
 unfold Builtin.len_;have j:=h.get 0;generalize x[0]? =u at*;generalize X[0]? =v at*;cases a1[0]? with
 |none=>exact al
 |some k=>
 cases j with
 |none=>exact al
 | @some x X a=>
 simp only[];refine(aB k).bind ?_;rintro l m d _ ⟨rfl,g⟩;clear g;have a:=a.mono m;cases d with
 |string=>cases a<;>first|exact ai (.int _ _)|exact al
 |array=>cases a<;>exact ai (.int _ _)
 |pointer=>
  cases a<;>
  ·refine(aB _).bind ?_;rintro b i d _ ⟨rfl,g⟩;cases d<;>first|exact al|exact ai (.int _ _)
 |slice=>cases a<;>first|exact ai (.int _ _)|exact al
 |map=>(cases a<;>first|exact ai (.int _ _)|exact al|skip);rename_i r R c;refine(cO c).bind ?_;intro b i o O e;cases e with|map n f=>simp only[];rw[f.1];exact ai (.int _ _)|_=>exact al
 |chan=>(cases a<;>first|exact ai (.int _ _)|exact al|skip);rename_i r R c;refine(cO c).bind ?_;intro b i o O e;cases e<;>exact al
 |_=>cases a<;>exact al
def QY(a1 t){x X}(h:VsR π x X):(SR S (ah P fs) P) VQ π (Builtin.cap_ a1 t x) (Builtin.cap_ a1 t X):=by
 unfold Builtin.cap_;have e:=h.get 0;generalize x[0]? =u at*;generalize X[0]? =v at*;cases a1[0]? with
 |none=>exact al
 |some f=>
 cases e with
 |none=>exact al
 | @some x X a=>
 simp only[];refine(aB f).bind ?_;rintro g i d _ ⟨rfl,c⟩;clear c;have a:=a.mono i;cases d with
 |array=>cases a<;>exact ai (.int _ _)
 |pointer=>
  cases a<;>
  ·refine(aB _).bind ?_;rintro b j d _ ⟨rfl,c⟩;cases d<;>first|exact al|exact ai (.int _ _)
 |slice=>cases a<;>first|exact ai (.int _ _)|exact al
 |chan=>(cases a<;>first|exact ai (.int _ _)|exact al|skip);rename_i r R k;refine(cO k).bind ?_;intro b j o O l;cases l<;>exact al
 |_=>cases a<;>exact al
def Py(a1 t){x X}(h:VsR π x X):(SR S (ah P fs) P) VQ π (Builtin.copy_ a1 t x) (Builtin.copy_ a1 t X):=by
 unfold Builtin.copy_;have G:=h.get 0;have j:=h.get 1;generalize x[0]? =u at*;generalize X[0]? =v at*;generalize x[1]? =Q at*;generalize X[1]? =v1 at*;cases a1[0]? with
 |none=>exact al
 |some H=>
 cases G with
 |none=>exact al
 | @some d D k=>
 cases j with
 |none=>exact al
 | @some s C m=>
 simp only[];refine(aB H).bind ?_;rintro f i I _ ⟨rfl,p⟩;clear p;cases I<;>first|exact al|skip
 rename_i e;simp only[];have k:=k.mono i;have key:∀{b B:Option Addr} (l:Nat),(dP (aS f) b B\/l=0/\∃A E,b=some A/\B=some E)->(SR S (ah P fs) P) VQ f (do
  let n:=Nat.min (<-Builtin.lenOf s) l;let cells <-Builtin.firstCells (<-sizeOf e) n s
  if let some a:=b then storeCells a cells.toList
  pure (goInt n)) (do
  let n:=Nat.min (<-Builtin.lenOf C) l;let cells <-Builtin.firstCells (<-sizeOf e) n C
  if let some a:=B then storeCells a cells.toList
  pure (goInt n)):=by
  intro b B l g;refine(xC (m.mono i)).bind ?_;rintro J q n _ ⟨rfl,K⟩;refine(bL e).bind ?_;rintro L r z _ rfl;obtain g|⟨rfl,A,E,rfl,rfl⟩:=g
  ·refine(mf _ _ (((m.mono i).mono q).mono r) (λo c e=>?_)).bind ?_
   ·rw[K _ _ _ e]
    exact Nat.zero_min _
   intro w F R T M;have g:=g.mono λ_ _ x=>aS.mono (Ren.le_trans q (Ren.le_trans r F)) x;cases g with
   |none=>exact ai (.int _ _)
   |some y=>refine(lU 0 y M.toList).bind ?_;intro N U _ _ _;exact ai (.int _ _)
  ·rw[show Nat.min n 0=0 from Nat.min_zero _]
   refine(oD _ (((m.mono i).mono q).mono r)).bind ?_;rintro w F _ _ ⟨rfl,rfl⟩;exact ai (.int _ _)
 cases k with|iL=>exact key _ (.inl .none)|slice l c O=>exact key _ (.inl (.some O))|qE A=>exact key _ (.inr ⟨rfl,_,_,rfl,rfl⟩)|_=>exact al
def sq(d a b x y):(SR S (ah P fs) P) VQ π (do pure (.string (if <-asBool (<-Op.stringOp d a b)then x else y))) (do pure (.string (if <-asBool (<-Op.stringOp d a b)then x else y))):=by refine(pU d a b).sr.bind ?_;intro e h v V f;refine(zS f).bind ?_;rintro g i c _ rfl;exact ai (.string _)
def Pz{x X y Y}(a:aA π x X)(b:aA π y Y):(SR S (ah P fs) P) VQ π (Builtin.min2 x y) (Builtin.min2 X Y):=by
 cases a<;>cases b<;>first
  |exact al
  |exact aD
  |exact ai (.int _ _)
  |exact sq _ _ _ _ _
  |skip
 unfold Builtin.min2;simp only[];split<;>first|exact ai (.float _ _)|skip
 refine(eu _).bind ?_;rintro c d n _ rfl;exact ai (.float _ _)
def PC{x X y Y}(a:aA π x X)(b:aA π y Y):(SR S (ah P fs) P) VQ π (Builtin.max2 x y) (Builtin.max2 X Y):=by
 cases a<;>cases b<;>first
  |exact al
  |exact aD
  |exact ai (.int _ _)
  |exact sq _ _ _ _ _
  |skip
 unfold Builtin.max2;simp only[];split<;>first|exact ai (.float _ _)|skip
 refine(eu _).bind ?_;rintro c d n _ rfl;exact ai (.float _ _)
def Af{f:Value->Value->Sem Value}(d:∀{π:Ren P.globals.size} {x X y Y},aA π x X->aA π y Y->(SR S (ah P fs) P) VQ π (f x y) (f X Y)){l L}:∀{π:Ren P.globals.size} {x X},bt (aA π) l L->aA π x X->(SR S (ah P fs) P) VQ π (l.foldlM f x) (L.foldlM f X):=by induction l generalizing L with|nil=>intro π x X b c;cases b;exact ai c|cons a l e=>intro π x X b c;cases b with|cons h b=>simp only[List.foldlM_cons];refine(d c h).bind ?_;intro g i v V j;exact e (b.mono λ_ _ x=>x.mono i) j
def QZ(a1 t){x X}(h:VsR π x X):(SR S (ah P fs) P) VQ π (Builtin.min_ a1 t x) (Builtin.min_ a1 t X):=by unfold Builtin.min_;have a:=h.toList;generalize x.toList=l at*;generalize X.toList=L at*;cases a with|nil=>exact al|cons h a=>exact Af Pz a h
def Q0(a1 t){x X}(h:VsR π x X):(SR S (ah P fs) P) VQ π (Builtin.max_ a1 t x) (Builtin.max_ a1 t X):=by unfold Builtin.max_;have a:=h.toList;generalize x.toList=l at*;generalize X.toList=L at*;cases a with|nil=>exact al|cons h a=>exact Af PC a h
def B9(n):∀{π:Ren P.globals.size} {a A} (acc),aS π a A->(SR S (ah P fs) P) EqQ π (loadBytes a acc n) (loadBytes A acc n):=by
 induction n with
 |zero=>intro π a A acc h;exact ai rfl
 |succ n b=>
  intro π a A acc h;unfold loadBytes;refine(rK h).bind ?_;intro c d v V e;cases e with
  |int k n=>cases k<;>first|exact b _ ((h.mono d).add 1)|exact al
  |_=>exact al
def vM(a1 t){x X}(h:VsR π x X):(SR S (ah P fs) P) VQ π (Builtin.unsafeString_ a1 t x) (Builtin.unsafeString_ a1 t X):=by have a:=h.toList;obtain⟨x⟩:=x;obtain⟨X⟩:=X;simp only[]at a;cases a with|nil=>exact al|cons j a=>cases a with|nil=>exact al|cons g a=>cases a with|cons _ _=>exact .never (by unfold Builtin.unsafeString_;exact dD _)|nil=>(have key:∀{p Q:Option Addr},dP (aS π) p Q->∀{y Y:Value},aA π y Y->(SR S (ah P fs) P) VQ π (Builtin.unsafeString_ a1 t #[.pointer p,y]) (Builtin.unsafeString_ a1 t #[.pointer Q,Y]):=by intro p Q c y Y k;unfold Builtin.unsafeString_;refine(jy k).bind ?_;rintro l m n _ rfl;have c:=c.mono λ_ _ x=>aS.mono m x;cases a1[0]? with|none=>exact al|some o=>simp only[];split;exact .never (aC (aG _));split;exact .never (aC (.halt _));cases c with|none=>exact dh (ai (.string _)) dv|some d=>refine dh (ai (.string _)) ?_;refine(JV o).bind ?_;rintro q f e _ rfl;refine(oz (d.mono f) _ _).bind ?_;rintro r i b _ rfl;refine dh ?_ aD;refine(B9 _ _ ((d.mono f).mono i)).bind ?_;rintro u v s _ rfl;refine(Ac (((d.mono f).mono i).mono v) _).bind ?_;intro w A _ _ _;exact ai (.string _));cases j with|JG=>exact key .none g|ptr z=>exact key (.some z) g|_=>exact al
def xD(a:P.underlying qG=none){b c Q}{f:TypeId->Sem b}{s:Sem c}:(SR S (ah P fs) P) Q π (elemOf qG>>= f) s:=by refine SR.kF ?_;have e:(ah P fs).underlying qG=none:=a;simp only[Sem.bind,e];exact al
def Ca(t c)(g:P.underlying qG=none){a A}(b:aS π a A):(SR S (ah P fs) P) VQ π (if c≠0 then pure (.pointer (some a)) else do if(<-viewAt a.block).isSome then pure (.pointer (some a))else do let e <-elemOf qG;pure (.pointer (some ⟨<-newObj (.view a e),0,none⟩))) (if c≠0 then pure (.pointer (some A)) else do if(<-viewAt A.block).isSome then pure (.pointer (some A))else do let e <-elemOf t;pure (.pointer (some ⟨<-newObj (.view A e),0,none⟩))):=by refine dh (ai (.ptr b)) ?_;have d:=b;cases b with|mk b=>refine(pn b).bind ?_;intro h i u v f;rw[lB f];exact dh (ai (.ptr (d.mono i))) (xD g)
def qX(a1 t)(b:P.underlying qG=none){x X}(h:VsR π x X):(SR S (ah P fs) P) VQ π (Builtin.unsafeSliceData_ a1 qG x) (Builtin.unsafeSliceData_ a1 t X):=by have a:=h.toList;obtain⟨x⟩:=x;obtain⟨X⟩:=X;simp only[]at a;cases a with|nil=>exact al|cons d a=>cases a with|cons _ _=>exact al|nil=>cases d with|iL=>exact ai .JG|slice l c f=>exact Ca t c b f|qE A=>show(SR S (ah P fs) P) VQ π (do if(<-viewAt 0).isSome then pure (.pointer (some ⟨0,0,some 0⟩))else do let e <-elemOf qG;pure (.pointer (some ⟨<-newObj (.view ⟨0,0,some 0⟩ e),0,none⟩))) _;unfold viewAt;refine SR.tv λx=>?_;exact xD b|_=>exact al
def vN(a n):cW (Builtin.holdsCells a n):=by unfold Builtin.holdsCells;exact wT
def zi(a b c x y):cW (Builtin.mayShare a b c x y):=by unfold Builtin.mayShare;repeat' (first|exact vN _ _|with_reducible first|exact cW.pure _|exact cW.frozen _|refine cW.ite ?_ ?_|refine cW.bind ?_ λ_=>?_|dsimp only|split)
def px{a c}[Decidable c]{s t:Sem a}(h:dR s)(b:dR t):dR (if c then s else t):=by split<;>assumption
def Kh(L:dJ P)(a1 t){x X}(h:VsR π x X):(SR S (ah P fs) P) VQ π (Builtin.append_ a1 t x) (Builtin.append_ a1 t X):=by
 unfold Builtin.append_;have hg:=h.get 0;have ax:=h.get 1;generalize x[0]? =u at*;generalize X[0]? =v at*;generalize x[1]? =u1 at*;generalize X[1]? =v1 at*;cases a1[0]? with
 |none=>exact al
 |some t0=>
 cases hg with
 |none=>exact al
 | @some d D k=>
 cases ax with
 |none=>exact al
 | @some s S f=>
 refine(aB t0).bind ?_;rintro ay l1 dd _ ⟨rfl,aM⟩;clear aM;cases dd<;>first|exact al|skip
 rename_i e;have k:=k.mono l1;have f:=f.mono l1;generalize a1[1]? =x1;have W:(∃b B l c,d=.slice b l c/\D=.slice B l c/\(dP (aS ay) b B\/l=0/\c=0/\∃A,b=some ⟨0,0,some 0⟩/\B=some A))\/∀b l c,d≠ .slice b l c:=by cases k<;>first|exact .inl ⟨_,_,_,_,rfl,rfl,.inr ⟨rfl,rfl,_,rfl,rfl⟩⟩|exact .inl ⟨_,_,_,_,rfl,rfl,.inl .none⟩|exact .inl ⟨_,_,_,_,rfl,rfl,.inl (.some (by assumption))⟩|exact .inr (by simp)
 obtain⟨b,B,l,c,rfl,rfl,j⟩|hno:=W;refine(bL e).bind ?_
 rintro bb l2 size _ rfl;have f:=f.mono l2;have k:=k.mono l2;have j:=j.imp_left λh=>h.mono λ_ _ x=>aS.mono l2 x;cases x1 with
 |none=>refine(xC f).bind ?_;rintro a6 Y n _ ⟨rfl,hk⟩;have M:false=false->∀o c,s=.slice o 0 c->n=0:=λ_ o c e=>hk _ _ _ e;have f:=f.mono Y;have k:=k.mono Y;have j:=j.imp_left λh=>h.mono λ_ _ x=>aS.mono Y x;refine BV (λad=>?_) (λ_=>?_);obtain j|⟨rfl,rfl,A,rfl,rfl⟩:=j;refine(uM L _ e size _ f M).bind ?_;(intro p w vs VS C;have E:=j.mono λ_ _ x=>aS.mono w x;cases E with|none=>exact ai (.iL _ _)|some N=>refine(lU 0 (N.add _) C.toList).bind ?_;intro O F _ _ _;exact ai (.slice _ _ (N.mono F)));(have G:n=0:=by omega);subst G;refine(B8 _ e size f).bind ?_;rintro p w _ _ ⟨rfl,rfl⟩;exact ai (.qE _);refine(dC e).bind ?_;rintro p w i _ ⟨rfl,_⟩;refine dh (.never (aC (aG _))) ?_;refine(dC e).bind ?_;rintro af l7 i2 _ ⟨rfl,_⟩;refine dh (.never (aC (px (aG _) (bK (zi _ _ _ _ _) λ_=>px (bK (.mark _) λ_=>.halt _) (.halt _))))) ?_;refine(eu _).bind ?_;rintro ag l8 y _ rfl;refine(dC e).bind ?_;rintro ak l9 i3 _ ⟨rfl,_⟩;refine(qO _).bind ?_;intro Q H _ _ _;have g:=Ren.le_trans w (Ren.le_trans l7 (Ren.le_trans l8 (Ren.le_trans l9 H)));refine(mf _ _ (k.mono g) (λo c e=>by cases e;rfl)).bind ?_;intro R I old an q;refine(uM L _ e size _ ((f.mono g).mono I) M).bind ?_;intro T J vs VS C;refine(ej L e).bind ?_;rintro U r z _ ⟨rfl,hp⟩;refine(iS e (((VsR.mono r (VsR.mono J q)).append (VsR.mono r C)).append (fu (lF hp.cells _)))).bind ?_;intro V ao a A ha;exact ai (.slice _ _ ha)
 |some t1=>refine(aB t1).bind ?_;rintro a6 Y d1 _ ⟨rfl,_⟩;have f:=f.mono Y;have k:=k.mono Y;have j:=j.imp_left λh=>h.mono λ_ _ x=>aS.mono Y x;refine SR.bind (Q₁:=EqQ) (ai rfl) ?_;rintro bk l4 K _ rfl;have f:=f.mono l4;have k:=k.mono l4;have j:=j.imp_left λh=>h.mono λ_ _ x=>aS.mono l4 x;refine BV (λar=>?_) (λbm=>?_);refine(jy f).bind ?_;(rintro a7 Z m _ rfl;refine dh (.never (aC (aG _))) ?_;refine(dC e).bind ?_;rintro a8 aa i _ ⟨rfl,_⟩;refine dh (.never (bK (.choose _) λ_=>aC (aG _))) ?_;refine SR.bind (Q₁:=EqQ) (ai rfl) ?_;rintro ba ab n _ rfl;have M:K=false->∀o c,s=.slice o 0 c->n=0:=λh=>by rw[h]at ar;cases ar);have f:=((f.mono Z).mono aa).mono ab;have k:=((k.mono Z).mono aa).mono ab;have j:=j.imp_left λh=>h.mono λ_ _ x=>((aS.mono Z x).mono aa).mono ab;refine BV (λad=>?_) (λ_=>?_);obtain j|⟨rfl,rfl,A,rfl,rfl⟩:=j;refine(uM L _ e size _ f M).bind ?_;(intro p w vs VS C;have E:=j.mono λ_ _ x=>aS.mono w x;cases E with|none=>exact ai (.iL _ _)|some N=>refine(lU 0 (N.add _) C.toList).bind ?_;intro O F _ _ _;exact ai (.slice _ _ (N.mono F)));(have G:n=0:=by omega);subst G;refine(B8 _ e size f).bind ?_;rintro p w _ _ ⟨rfl,rfl⟩;exact ai (.qE _);refine(dC e).bind ?_;rintro p w i _ ⟨rfl,_⟩;refine dh (.never (aC (aG _))) ?_;refine(dC e).bind ?_;rintro af l7 i2 _ ⟨rfl,_⟩;refine dh (.never (aC (px (aG _) (bK (zi _ _ _ _ _) λ_=>px (bK (.mark _) λ_=>.halt _) (.halt _))))) ?_;refine(eu _).bind ?_;rintro ag l8 y _ rfl;refine(dC e).bind ?_;rintro ak l9 i3 _ ⟨rfl,_⟩;refine(qO _).bind ?_;intro Q H _ _ _;have g:=Ren.le_trans w (Ren.le_trans l7 (Ren.le_trans l8 (Ren.le_trans l9 H)));refine(mf _ _ (k.mono g) (λo c e=>by cases e;rfl)).bind ?_;intro R I old an q;refine(uM L _ e size _ ((f.mono g).mono I) M).bind ?_;intro T J vs VS C;refine(ej L e).bind ?_;rintro U r z _ ⟨rfl,hp⟩;refine(iS e (((VsR.mono r (VsR.mono J q)).append (VsR.mono r C)).append (fu (lF hp.cells _)))).bind ?_;intro V ao a A ha;exact ai (.slice _ _ ha);refine(xC f).bind ?_;rintro a7 Z n _ ⟨rfl,hk⟩;have M:K=false->∀o c,s=.slice o 0 c->n=0:=λ_ o c e=>hk _ _ _ e;have f:=f.mono Z;have k:=k.mono Z;have j:=j.imp_left λh=>h.mono λ_ _ x=>aS.mono Z x;refine BV (λad=>?_) (λ_=>?_);obtain j|⟨rfl,rfl,A,rfl,rfl⟩:=j;refine(uM L _ e size _ f M).bind ?_;(intro p w vs VS C;have E:=j.mono λ_ _ x=>aS.mono w x;cases E with|none=>exact ai (.iL _ _)|some N=>refine(lU 0 (N.add _) C.toList).bind ?_;intro O F _ _ _;exact ai (.slice _ _ (N.mono F)));(have G:n=0:=by omega);subst G;refine(B8 _ e size f).bind ?_;rintro p w _ _ ⟨rfl,rfl⟩;exact ai (.qE _);refine(dC e).bind ?_;rintro p w i _ ⟨rfl,_⟩;refine dh (.never (aC (aG _))) ?_;refine(dC e).bind ?_;rintro af l7 i2 _ ⟨rfl,_⟩;refine dh (.never (aC (px (aG _) (bK (zi _ _ _ _ _) λ_=>px (bK (.mark _) λ_=>.halt _) (.halt _))))) ?_;refine(eu _).bind ?_;rintro ag l8 y _ rfl;refine(dC e).bind ?_;rintro ak l9 i3 _ ⟨rfl,_⟩;refine(qO _).bind ?_;intro Q H _ _ _;have g:=Ren.le_trans w (Ren.le_trans l7 (Ren.le_trans l8 (Ren.le_trans l9 H)));refine(mf _ _ (k.mono g) (λo c e=>by cases e;rfl)).bind ?_;intro R I old an q;refine(uM L _ e size _ ((f.mono g).mono I) M).bind ?_;intro T J vs VS C;refine(ej L e).bind ?_;rintro U r z _ ⟨rfl,hp⟩;refine(iS e (((VsR.mono r (VsR.mono J q)).append (VsR.mono r C)).append (fu (lF hp.cells _)))).bind ?_;intro V ao a A ha;exact ai (.slice _ _ ha)
 cases d<;>first|exact al|exact absurd rfl (hno _ _ _)
end
section
variable {S:Kn} {P:Program} {fs:Array Func} {π:Ren P.globals.size} {G:Nat} {ρ:Ren G}
def oE(b n):∀{π:Ren P.globals.size} (t) {x X},aA π x X->(SR S (ah P fs) P) EqQ π (Instr.checkKey b n t x) (Instr.checkKey b n t X):=by
 induction n with
 |zero=>intros;exact aD
 |succ n m=>
  intro π t x X h;unfold Instr.checkKey;refine(aB t).bind ?_;rintro j y d _ ⟨rfl,A⟩;clear A;have h:=h.mono y;cases d with
  |interface L=>(cases h<;>first|exact al|exact ai rfl|skip);rename_i B v V D;simp only[];refine(dC B).bind ?_;rintro E F i _ ⟨rfl,_⟩;split;split;exact .never (aC (aG _));exact .never (bK (rI _) λ_=>aC (aG _));exact m _ (D.mono F)
  |array len e=>(cases h<;>first|exact al|skip);(rename_i c C o p;have a:VsR j c C:=⟨o,p⟩);simp only[Xy];refine SR.bind (Q₁:=EqQ) (iU _ _ λg k f s=>?_) ?_;refine(bL _).bind ?_;rintro H I z _ rfl;refine(gu _ _ (VsR.mono I (VsR.mono k a))).bind ?_;intro q J u U r;refine(m _ r).bind ?_;rintro w K b _ _;exact ai rfl;rintro g k s _ rfl;exact ai rfl
  |struct l=>(cases h<;>first|exact al|skip);(rename_i c C o p;have a:VsR j c C:=⟨o,p⟩);simp only[];rw[<-VE,<-VE];refine SR.bind (Q₁:=EqQ) (iU _ _ λg k f s=>?_) ?_;refine dh ?_ (ai rfl);refine(gu _ _ (VsR.mono k a)).bind ?_;intro q J u U r;refine(m _ r).bind ?_;rintro w K b _ _;exact ai rfl;rintro g k s _ rfl;exact ai rfl
  |_=>cases h<;>exact ai rfl
abbrev Cb{G}(π:Ren G):Nat×Value->Nat×Value->Prop:=λa b=>a.1=b.1/\aA π a.2 b.2
def uN(k){x X y Y}(a:aA ρ x X)(b:aA ρ y Y)(c:x≠ .tuple #[])(d:y≠ .tuple #[]):Instr.sameNow k x y=Instr.sameNow k X Y:=by cases a<;>(try exact absurd rfl c)<;>cases b<;>(try exact absurd rfl d)<;>first|rfl|(cases k<;>rfl)
def Ki(k y):Instr.sameNow k (.tuple #[]) y=none:=by cases k<;>rfl
def Kj(k x):Instr.sameNow k x (.tuple #[])=none:=by cases k<;>cases x<;>rfl
def Ek(k){x X}(d:aA ρ x X){l L}(f:bt (iM ρ) l L):∀i,dP (dP (Cb ρ)) (Instr.findNow k x l i) (Instr.findNow k X L i)\/Instr.findNow k x l i=none:=by induction f with|nil=>intro i;exact .inl (.some .none)| @cons e E l L a _ g=>intro i;unfold Instr.findNow;by_cases b:x=.tuple #[];rw[b,Ki];exact .inr rfl;by_cases c:e.key=.tuple #[];rw[c,Kj];exact .inr rfl;rw[uN k d a.key b c];split;exact .inl (.some (.some ⟨rfl,a.val⟩));exact g _;exact .inl .none
def El(t){d}(c:P.underlying t=some d){x y b}(h:Instr.sameNow d x y=some b){a g Q}{f:Bool->Sem a}{s':Sem g}(i:(SR S (ah P fs) P) Q π (f b) s'):(SR S (ah P fs) P) Q π (Op.equal t x y>>= f) s':=by
 have e:∃k:Program->Sem a,(Op.equal t x y>>= f)=.program k/\k (ah P fs)=f b:=by
  unfold Op.equal Op.maxDepth Op.equalIn underlying;refine⟨_,rfl,?_⟩;simp only[Sem.bind,jI,c,Pure.pure];cases d<;>cases x<;>first
   |(simp[Instr.sameNow]at h;done)
   |(cases y<;>first
    |(simp[Instr.sameNow]at h;done)
    |(simp only[Instr.sameNow,UX]at h;subst h;simp only[Sem.bind,Pure.pure])
    |(simp only[Instr.sameNow]at h;split at h
      ·rename_i j;simp only[UX]at h;subst h;subst j;simp only[Sem.bind,Pure.pure,Us]
      ·cases h))
 obtain⟨k,e1,l⟩:=e;rw[e1];refine .kF ?_;rw[l];exact i
def Kk(t){d}(n:P.underlying t=some d){x X}(o:aA π x X){l L}(p:bt (iM π) l L):∀(i) (r),Instr.findNow d X L i=some r->(SR S (ah P fs) P) (λc a b=>dP (Cb c) a b) π (Instr.findAsking t x l i) (pure r):=by induction p with|nil=>intro i r h;simp only[Instr.findNow,UX]at h;subst h;exact ai .none| @cons e E l L f _ q=>intro i r h;unfold Instr.findAsking;unfold Instr.findNow at h;by_cases g:x=.tuple #[];rw[g];exact .never (aC (ma _ _));by_cases j:e.key=.tuple #[];rw[j];exact .never (aC (me _ _));have k:=uN d o f.key g j;cases m:Instr.sameNow d X E.key with|none=>rw[m]at h;cases h|some b=>rw[m]at h k;refine El t n k ?_;cases b with|true=>simp only[UX]at h;subst h;exact ai (.some ⟨rfl,f.val⟩)|false=>exact q _ _ h
def qh(t){l L}:∀{π:Ren P.globals.size} {x X} (i),aA π x X->bt (iM π) l L->(SR S (ah P fs) P) (λd a b=>dP (Cb d) a b) π (Instr.findAsking t x l i) (Instr.findAsking t X L i):=by induction l generalizing L with|nil=>intro π x X i f c;cases c;exact ai .none|cons e l j=>intro π x X i f c;cases c with|cons h c=>unfold Instr.findAsking;refine(xb t f h.key).bind ?_;rintro k g b _ rfl;refine dh (ai (.some ⟨rfl,h.val.mono g⟩)) ?_;exact j _ (f.mono g) (c.mono λ_ _ x=>iM.mono g x)
def qY(t){x X}(g:aA π x X){l L}(j:bt (iM π) l L):(SR S (ah P fs) P) (λi a b=>dP (Cb i) a b) π (Instr.findKey t x l) (Instr.findKey t X L):=by unfold Instr.findKey;refine(aB t).bind ?_;rintro k e d _ ⟨rfl,m⟩;have c:=j.mono λ_ _ x=>iM.mono e x;have h:=Ek d (g.mono e) c 0;have f:=Kk (S:=S) (fs:=fs) t m (g.mono e) c 0;generalize Instr.findNow d x l 0=u at*;generalize Instr.findNow d X L 0=v at*;obtain h|rfl:=h;(cases h with|some h=>exact ai h|none=>exact qh t 0 (g.mono e) c);cases v with|none=>exact qh t 0 (g.mono e) c|some r=>exact f r rfl
def MQ{x X:Value}(g:aA π x X){b c:Type}{Q:Ren P.globals.size->b->c->Prop}{s:String}{f:Array MapEntry->Sem b}{F:Array MapEntry->Sem c} (d:∀a,Ren.le π a->∀es e,aZ (iM a) es e->(SR S (ah P fs) P) Q a (f es) (F e)):(SR S (ah P fs) P) Q π (do
  let es <-match x with
   | .map none=>pure #[]
   | .map (some r)=>do
    let .map es _ <-getObj r|stuck s
    pure es
   |_=>stuck s
  f es) (do
  let es <-match X with
   | .map none=>pure #[]
   | .map (some r)=>do
    let .map es _ <-getObj r|stuck s
    pure es
   |_=>stuck s
  F es):=by
 cases g with
 |L0=>exact d _ (Ren.le_refl _) _ _ .empty
 |map h=>
  refine(cO h).bind ?_;intro i j o O k;cases k with
  |map n h=>exact d _ j _ _ h
  |_=>exact .never (aC (.halt _))
 |_=>exact .never (aC (.halt _))
def Kl(n:dJ P)(t i){x X y Y}(j:aA π x X)(e:aA π y Y):(SR S (ah P fs) P) VQ π (Instr.lookup t x y i) (Instr.lookup t X Y i):=by (unfold Instr.lookup;refine(aB t).bind ?_;rintro o l d _ ⟨rfl,A⟩;cases d<;>first|exact al|skip);(rename_i key elem;have j:=j.mono l;have e:=e.mono l;refine MQ j ?_;intro p q es ES f;have g:es.isEmpty=ES.isEmpty:=by simp only[Array.isEmpty,f.1]);(rw[g];have e:=e.mono q;refine(oE _ _ _ e).bind ?_;intro r m _ _ _;refine(qY _ (e.mono m) (f.toList.mono λ_ _ x=>iM.mono m x)).bind ?_;intro s B u v k;have c:∀{a:Ren P.globals.size} (v V:Value) (b:Bool),aA a v V->aA a (if i then .tuple #[v,.bool b]else v) (if i then .tuple #[V,.bool b]else V):=by intro a v V b h;split;exact aA.tuple' (aZ.push (aZ.push aZ.empty h) (.bool b));exact h);cases k with|none=>refine(ej n elem).bind ?_;rintro a C z _ ⟨rfl,w⟩;exact ai (c _ _ _ (w _ _))|some h=>exact ai (c _ _ _ h.2)
def Cc(n):∀{x X y Y},aA ρ x X->aA ρ y Y->Instr.sameBits n x y=true->Instr.sameBits n X Y=true:=by
 have f:∀{r R s Z:Nat},ρ r R->ρ s Z->(some r==some s)=(some R==some Z):=by (intro r R s Z h i;have e:r=s↔R=Z:=⟨λe=>by subst e;exact ρ.fn _ _ _ h i,λe=>by subst e;exact ρ.inj _ _ _ h i⟩);rw[Vr];simp[e]
 have g:∀{a A b B:Addr},aS ρ a A->aS ρ b B->(some a==some b)=(some A==some B):=by intro a A b B h i;have:=(h.eq i).2;rw[Vr]at this⊢;simpa using this
 induction n with
 |zero=>intro x X y Y j k h;cases j<;>cases k<;>first|exact h|(simp[Instr.sameBits]at h;done)|exact(g (by assumption) (by assumption)).symm.trans h|exact(f (by assumption) (by assumption)).symm.trans h
 |succ n v=>(intro x X y Y j k h;cases j<;>cases k<;>first|exact h|(simp[Instr.sameBits]at h;done)|exact(g (by assumption) (by assumption)).symm.trans h|exact(f (by assumption) (by assumption)).symm.trans h|skip);rename_i o _ _ _ p;unfold Instr.sameBits at h⊢;simp only[Un]at h⊢;exact⟨h.1,v o p h.2⟩;rename_i c C w o d D z p;(have E:=aZ.toList ⟨w,o⟩;have F:=aZ.toList ⟨z,p⟩;have key:∀{l L m M:List Value},bt (aA ρ) l L->bt (aA ρ) m M->((l.zip m).all λ(x,y)=>Instr.sameBits n x y)=true->((L.zip M).all λ(x,y)=>Instr.sameBits n x y)=true:=by intro l L m M H;induction H generalizing m M with|nil=>intro _ _;rfl|cons h _ q=>intro t u;cases t with|nil=>rfl|cons i t=>simp only[List.zip_cons_cons,Wd,Un]at u⊢;exact⟨v h i u.1,q t u.2⟩);unfold Instr.sameBits at h⊢;simp only[Un]at h⊢;rw[w,z]at h;exact⟨h.1,key E F h.2⟩
def nM{x X y Y}(b:aA π x X)(a:aA π y Y):(SR S (ah P fs) P) VQ π (Instr.keyThatStays x y) (Instr.keyThatStays X Y):=by unfold Instr.keyThatStays;have d:=Cc 10000 b a;generalize Instr.sameBits 10000 x y=u at*;generalize Instr.sameBits 10000 X Y=v at*;cases u with|true=>rw[d rfl];exact ai a|false=>cases v with|true=>exact .m6 0 (n:=0) (λf g h=>by cases h) rfl (ai a)|false=>simp only[Uz,Uy];refine(eu _).bind ?_;rintro e c n _ rfl;refine ai ?_;split;exact a.mono c;exact b.mono c
def oF{R es a}(h:aZ R es a)(i){f F:MapEntry->MapEntry}(c:∀e E,R e E->R (f e) (F E)):aZ R (es.modify i f) (a.modify i F):=aZ.lN λj=>by rw[U5,U5];have b:=h.get j;split;generalize es[j]? =u at*;(generalize a[j]? =v at*;cases b with|none=>exact .none|some r=>exact .some (c _ _ r));exact b
def Ag{es a}(h:aZ (iM ρ) es a)(i:Nat){k K}(b:aA ρ k K):aA ρ (((es[i]?).map (·.key)).getD k) (((a[i]?).map (·.key)).getD K):=by have c:=h.get i;generalize es[i]? =u at*;generalize a[i]? =v at*;cases c with|none=>exact b|some r=>exact r.key
def Hd{es a}(h:aZ (iM ρ) es a)(i:Nat){b:Type}(f:Nat->b)(d):(((a[i]?).map (λx=>f x.born)).getD d)=(((es[i]?).map (λx=>f x.born)).getD d):=by have c:=h.get i;generalize es[i]? =u at*;generalize a[i]? =v at*;cases c with|none=>rfl|some r=>exact UQ f r.born.symm
def sx(t){x X k K v V}(m:aA π x X)(b:aA π k K)(c:aA π v V):(SR S (ah P fs) P) EqQ π (Instr.mapUpdate t x k v) (Instr.mapUpdate t X K V):=by
 unfold Instr.mapUpdate;refine(aB t).bind ?_;rintro r g d _ ⟨rfl,L⟩;cases d<;>first|exact al|skip
 rename_i key elem;have m:=m.mono g;cases m with
 |L0=>exact dv
 |map h=>
  refine(cO h).bind ?_;intro s j o O A;cases A with
  | @map es M n a=>refine(oE _ _ _ ((b.mono g).mono j)).bind ?_;intro B l _ _ _;have b:=((b.mono g).mono j).mono l;have c:=((c.mono g).mono j).mono l;have a:=a.mono λ_ _ x=>iM.mono l x;have h:=l _ _ (j _ _ h);refine(qY _ b a.toList).bind ?_;intro C f u w p;have b:=b.mono f;have c:=c.mono f;have a:=a.mono λ_ _ x=>iM.mono f x;cases p with|none=>exact ew (f _ _ h) (by simp) (.map _ (a.push ⟨b,c,rfl⟩))| @some u w D=>obtain⟨i,y⟩:=u;obtain⟨N,Y⟩:=w;obtain⟨hi,F⟩:=D;simp only[]at hi F;subst hi;refine(nM (Ag a i b) b).bind ?_;intro H q z Z I;exact ew (q _ _ (f _ _ h)) (by simp) (.map _ (oF (a.mono λ_ _ x=>iM.mono q x) i λe E J=>⟨I,c.mono q,J.born⟩))
  |_=>exact al
 |_=>exact al
def Em(l:dJ P)(t){x X k K}(m:aA π x X)(c:aA π k K):(SR S (ah P fs) P) VQ π (Instr.mapEntry t x k) (Instr.mapEntry t X K):=by
 unfold Instr.mapEntry;refine(aB t).bind ?_;rintro F p d _ ⟨rfl,Q⟩;cases d<;>first|exact al|skip
 rename_i key elem;have m:=m.mono p;cases m with
 |L0=>exact dv
 |map h=>
  refine(cO h).bind ?_;intro H q o O I;cases I with
  | @map es R b a=>refine(oE _ _ _ ((c.mono p).mono q)).bind ?_;intro J r _ _ _;have c:=((c.mono p).mono q).mono r;have a:=a.mono λ_ _ x=>iM.mono r x;have h:=r _ _ (q _ _ h);refine(qY _ c a.toList).bind ?_;intro L j u w s;have c:=c.mono j;have a:=a.mono λ_ _ x=>iM.mono j x;cases s with|none=>refine(ej l elem).bind ?_;rintro f g z _ ⟨rfl,A⟩;refine(ew (g _ _ (j _ _ h)) (by simp) (.map _ (aZ.push (a.mono λ_ _ x=>iM.mono g x) (⟨c.mono g,A _ _,rfl⟩:iM f ⟨k,z,b⟩ ⟨K,z,b⟩)))).bind ?_;intro v B _ _ _;exact ai (aA.tuple' (aZ.push (aZ.push aZ.empty (A _ _)) (.int _ _)))| @some u w M=>obtain⟨i,y⟩:=u;obtain⟨T,Y⟩:=w;obtain⟨hi,C⟩:=M;simp only[]at hi C;subst hi;refine(nM (Ag a i c) c).bind ?_;intro f g z Z l;refine(ew (g _ _ (j _ _ h)) (by simp) (.map _ (oF (a.mono λ_ _ x=>iM.mono g x) i λe E D=>(⟨l,D.val,D.born⟩:iM f {e with key:=z} {E with key:=Z})))).bind ?_;intro v B _ _ _;have N:=Hd a i (λn:Nat=>(n:Int)) 0;rw[N];exact ai (aA.tuple' (aZ.push (aZ.push aZ.empty ((C.mono g).mono B)) (.int _ _)))
  |_=>exact al
 |_=>exact al
def En{es a}(h:aZ (iM ρ) es a)(b):a.findIdx? (λe=>(e.born:Int)==b)=es.findIdx? (λe=>(e.born:Int)==b):=by have:=h.toList;obtain⟨l⟩:=es;obtain⟨L⟩:=a;simp only[List.findIdx?_toArray];simp only[]at this;clear h;induction this with|nil=>rfl|cons c _ d=>rw[List.findIdx?_cons,List.findIdx?_cons,c.born,d]
def zk(t){x X k K v V}(g:aA π x X)(i:aA π k K)(j:aA π v V):(SR S (ah P fs) P) EqQ π (Instr.entryStore t x k v) (Instr.entryStore t X K V):=by
 unfold Instr.entryStore;cases g with
 |map h=>refine(cO h).bind ?_;intro l b o O m;cases m with| @map es q c a=>refine(jy (i.mono b)).bind ?_;rintro p d n _ rfl;have a:=a.mono λ_ _ x=>iM.mono d x;rw[En a];split;exact ew (d _ _ (b _ _ h)) (by simp) (.map _ (oF a _ λe E f=>⟨f.key,(j.mono b).mono d,f.born⟩));exact aD|_=>exact al
 |_=>exact al
def MR(t){x X}(b:aA π x X):(SR S (ah P fs) P) VQ π (Instr.range t x) (Instr.range t X):=by
 unfold Instr.range;refine(aB t).bind ?_;rintro e f d _ ⟨rfl,g⟩;clear g;have b:=b.mono f;have fin:∀{a:Ren P.globals.size} {o O:Obj},fG S a o O->(SR S (ah P fs) P) VQ a (do pure (.pointer (some ⟨<-newObj o,0,none⟩))) (do pure (.pointer (some ⟨<-newObj O,0,none⟩))):=by intro a o O c;refine(ie c).bind ?_;intro i m r R j;exact ai (.ptr (.mk j))
 cases d with
 |string=>cases b<;>first|exact fin (.stringIter _ _)|exact .never (aC (.halt _))
 |map=>(cases b<;>first|exact fin (.fo _ _ _)|exact .never (aC (.halt _))|skip);rename_i r R h;refine(cO h).bind ?_;intro a k o O c;cases c with|map n l=>exact fin (.mapIter _ _ _ (k _ _ h))|_=>exact .never (aC (.halt _))
 |_=>cases b<;>exact .never (aC (.halt _))
def bt.filter{b c R l m}(h:bt R l m){p:b->Bool}{q:c->Bool}(d:∀x y,R x y->p x=q y):bt R (l.filter p) (m.filter q):=by induction h with|nil=>exact .nil|cons h _ a=>rw[Vv,Vv,d _ _ h];split;exact .cons h a;exact a
def aZ.filter{a b R l m}(h:aZ R l m){p:a->Bool}{q:b->Bool}(c:∀x y,R x y->p x=q y):aZ R (l.filter p) (m.filter q):=by have:=(h.toList.filter c).toArray;obtain⟨l⟩:=l;obtain⟨m⟩:=m;simpa using this
def aZ.all{a b R l m}(h:aZ R l m){p:a->Bool}{q:b->Bool}(c:∀x y,R x y->p x=q y):l.all p=m.all q:=by have d:=h.toList;obtain⟨l⟩:=l;obtain⟨m⟩:=m;simp only[UB,List.all_toArray']at*;clear h;induction d with|nil=>rfl|cons h _ e=>rw[Wd,Wd,c _ _ h,e]
def aZ.find{a b R l m}(h:aZ R l m){p:a->Bool}{q:b->Bool}(c:∀x y,R x y->p x=q y):dP R (l.find? p) (m.find? q):=by have d:=h.toList;obtain⟨l⟩:=l;obtain⟨m⟩:=m;simp only[List.find?_toArray]at*;clear h;induction d with|nil=>exact .none|cons h _ e=>rw[List.find?_cons,List.find?_cons,c _ _ h];split;exact .some h;exact e
def aZ.isEmpty{a b R}{l:Array a}{m:Array b}(h:aZ R l m):l.isEmpty=m.isEmpty:=by simp only[Array.isEmpty,h.1]
def MS{x X}(j:aA π x X):(SR S (ah P fs) P) VQ π (Instr.entry x) (Instr.entry X):=by
 unfold Instr.entry;cases j with
 |ptr h=>
  cases h with
  | @mk r R o p h=>
   cases o with
   |succ=>exact al
   |zero=>
   refine(cO h).bind ?_;intro k t ob w f;cases f with
   |mapIter a seen c l=>
    simp only[];cases seen.back? with
    |none=>exact al
    |some b=>
     simp only[];refine(cO l).bind ?_;intro m y o O f;cases f with
     | @map es n g i=>simp only[];split;exact .never (aC (.halt _));(have s:=i.find (p:=λe=>e.born==b) (q:=λe=>e.born==b) λe E d=>by rw[d.born]);generalize es.find? _=u at*;generalize n.find? _=v at*;cases s with|none=>exact aD|some d=>exact ai (aA.tuple' (aZ.push (aZ.push aZ.empty d.key) d.val))
     |_=>exact al
   |_=>exact al
 |_=>exact al
def PD(b t){x X}(H:aA π x X):(SR S (ah P fs) P) VQ π (Instr.next x b t) (Instr.next X b t):=by
 unfold Instr.next;cases H with
 |ptr h=>
  cases h with
  | @mk r R o p h=>
   cases o with
   |succ=>exact al
   |zero=>
   refine(cO h).bind ?_;intro I J ob N z;have h:=J _ _ h;cases z with
   |stringIter s pos=>cases b with|false=>exact al|true=>refine dh ?_ (ai (aA.tuple' (aZ.push aZ.empty (.bool _))));refine(ew h (by simp) (.stringIter _ _)).bind ?_;intro j A _ _ _;exact ai (aA.tuple' (aZ.push (aZ.push (aZ.push aZ.empty (.bool _)) (.int _ _)) (.int _ _)))
   |fo=>cases b with|true=>exact al|false=>exact ai (aA.tuple' (aZ.push aZ.empty (.bool _)))
   |mapIter a seen last w=>
    cases b with
    |true=>exact al
    |false=>
     refine(cO w).bind ?_;intro j A o O z;have h:=A _ _ h;have w:=A _ _ w;cases z with
     | @map es K B i=>simp only[];rw[<-i.isEmpty,<-i.all (p:=λe=>decide (e.born>=last)) (q:=λe=>decide (e.born>=last)) λe E c=>by rw[c.born]];split;exact .never (aC (.halt _));(have d:=i.filter (p:=λe=> !seen.contains e.born) (q:=λe=> !seen.contains e.born) λe E c=>by rw[c.born]);(generalize es.filter (λe=> !seen.contains e.born)=left at*;generalize K.filter (λe=> !seen.contains e.born)=f at*;have g:=d.filter (p:=λe=>decide (e.born<a)) (q:=λe=>decide (e.born<a)) λe E c=>by rw[c.born]);(have k:=d.filter (p:=λe=>decide (e.born>=a)) (q:=λe=>decide (e.born>=a)) λe E c=>by rw[c.born]);(generalize left.filter (λe=>decide (e.born<a))=old at*;generalize f.filter (λe=>decide (e.born<a))=l at*;generalize left.filter (λe=>decide (e.born>=a))=new at*;generalize f.filter (λe=>decide (e.born>=a))=m at*;rw[<-g.isEmpty];have D:aZ (dP (iM j)) ((if old.isEmpty then #[none]else #[])++(old++new).map some) ((if old.isEmpty then #[none]else #[])++(l++m).map some):=by refine aZ.append ?_ ((g.append k).map λ_ _=>.some);split;exact aZ.push aZ.empty .none;exact .empty);generalize ((if old.isEmpty then #[none]else #[])++(old++new).map some)=cs at*;generalize ((if old.isEmpty then #[none]else #[])++(l++m).map some)=CS at*;rw[<-D.1];refine(eu _).bind ?_;rintro L y n _ rfl;have C:=D.get n;generalize cs[n]? =u at*;generalize CS[n]? =v at*;cases C with|none=>exact al|some C=>cases C with|none=>exact ai (aA.tuple' (aZ.push aZ.empty (.bool _)))|some c=>simp only[c.born];refine(ew (y _ _ h) (by simp) (.mapIter _ _ _ (y _ _ w))).bind ?_;intro M F _ _ _;exact ai (aA.tuple' (aZ.push (aZ.push (aZ.push aZ.empty (.bool _)) ((c.key.mono y).mono F)) ((c.val.mono y).mono F)))
     |_=>exact al
   |_=>cases b<;>exact al
 |_=>exact al
end
end Go.Tm

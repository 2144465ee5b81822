import Derived.ProofKit
import Derived.Test.YtaglpcmhopjebaaGreatDoorW1
set_option linter.all false
set_option maxRecDepth 100000
set_option maxHeartbeats 20000000
namespace Go.Tm
section
variable {S:Kn} {P:Program} {fs:Array Func} {π:Ren P.globals.size}
def Ei{d e Q c}[Decidable c]{s t:Sem d}{s' b:Sem e}(h:c->(SR S (ai P fs) P) Q π s s')(f:¬c->(SR S (ai P fs) P) Q π t b):(SR S (ai P fs) P) Q π (if c then s else t) (if c then s' else b):=by by_cases a:c;rw[Wu a,Wu a];exact h a;rw[Wt a,Wt a];exact f a
def zm{x X}(h:aD π x X):(SR S (ai P fs) P) (λ_ a b=>a=b/\∀o k c,x=.slice o k c->a=k) π (Builtin.lenOf x) (Builtin.lenOf X):=by cases h<;>first|exact aj ⟨rfl,by simp⟩|exact aj ⟨rfl,λo k c e=>by cases e;rfl⟩|exact aq
def ns(size n){x X}(h:aD π x X)(a:∀o c,x=.slice o 0 c->n=0):(SR S (ai P fs) P) VsQ π (Builtin.firstCells size n x) (Builtin.firstCells size n X):=by cases h with|slice l c h=>exact lj h _|jv=>exact aj .empty|string=>exact aj (gn (rS _))|sC A=>rw[a _ _ rfl];unfold Builtin.firstCells;rw[Ym];exact aj .empty|_=>exact aq
def pW(size){x X}(h:aD π x X):(SR S (ai P fs) P) (λ_ a b=>a=#[]/\b=#[]) π (Builtin.firstCells size 0 x) (Builtin.firstCells size 0 X):=by
 cases h with
 |slice l c h=>unfold Builtin.firstCells;rw[Ym];exact aj ⟨rfl,rfl⟩
 |jv=>exact aj ⟨rfl,rfl⟩
 |string=>(have e:∀s:UV,((s.extract 0 0).data.map λb=>(Value.int .u8 b.toNat))=#[]:=λs=>by simp);unfold Builtin.firstCells;exact aj ⟨e _,e _⟩
 |sC A=>unfold Builtin.firstCells;rw[Ym];exact aj ⟨rfl,rfl⟩
 |_=>exact aq
def mM{z}(h:bu z)(n):bu (Builtin.zeroCells z n):=h.spread _ _
def xh(b:dW P)(a e size n){x X}(h:aD π x X)(d:a=false->∀o c,x=.slice o 0 c->n=0):(SR S (ai P fs) P) VsQ π (if !a then Builtin.firstCells size n x else if n*size=0 then pure #[]else do pure (Builtin.zeroCells (<-zeroValue e).cells n)) (if !a then Builtin.firstCells size n X else if n*size=0 then pure #[]else do pure (Builtin.zeroCells (<-zeroValue e).cells n)):=by refine Ei (λf=>ns _ _ h (d (by simpa using f))) (λ_=>dB (aj .empty) ?_);refine(eQ b e).bind ?_;rintro g j z _ ⟨rfl,i⟩;exact aj (gn (mM i.cells _))
def Ej(c e size){x X}(h:aD π x X):(SR S (ai P fs) P) (λ_ a b=>a=#[]/\b=#[]) π (if !c then Builtin.firstCells size 0 x else if 0*size=0 then pure #[]else do pure (Builtin.zeroCells (<-zeroValue e).cells 0)) (if !c then Builtin.firstCells size 0 X else if 0*size=0 then pure #[]else do pure (Builtin.zeroCells (<-zeroValue e).cells 0)):=by refine dB (pW _ h) ?_;rw[Wu (Ym _)];exact aj ⟨rfl,rfl⟩
def Tv(a1 t){x X}(h:VsR π x X):(SR S (ai P fs) P) VQ π (Builtin.len_ a1 t x) (Builtin.len_ a1 t X):=by
 unfold Builtin.len_;have j:=h.get 0;generalize x[0]? =u at*;generalize X[0]? =v at*;cases a1[0]? with
 |none=>exact aq
 |some k=>
 cases j with
 |none=>exact aq
 | @some x X a=>
 simp only[];refine(aE k).bind ?_;rintro l m d _ ⟨rfl,g⟩;clear g;have a:=a.mono m;cases d with
 |string=>cases a<;>first|exact aj (.int _ _)|exact aq
 |array=>cases a<;>exact aj (.int _ _)
 |pointer=>
  cases a<;>
  .refine(aE _).bind ?_;rintro b i d _ ⟨rfl,g⟩;cases d<;>first|exact aq|exact aj (.int _ _)
 |slice=>cases a<;>first|exact aj (.int _ _)|exact aq
 |map=>(cases a<;>first|exact aj (.int _ _)|exact aq|skip);rename_i r R c;refine(cZ c).bind ?_;intro b i o O e;cases e with|map n f=>simp only[];rw[f.1];exact aj (.int _ _)|_=>exact aq
 |chan=>(cases a<;>first|exact aj (.int _ _)|exact aq|skip);rename_i r R c;refine(cZ c).bind ?_;intro b i o O e;cases e<;>exact aq
 |_=>cases a<;>exact aq
def Tw(a1 t){x X}(h:VsR π x X):(SR S (ai P fs) P) VQ π (Builtin.cap_ a1 t x) (Builtin.cap_ a1 t X):=by
 unfold Builtin.cap_;have e:=h.get 0;generalize x[0]? =u at*;generalize X[0]? =v at*;cases a1[0]? with
 |none=>exact aq
 |some f=>
 cases e with
 |none=>exact aq
 | @some x X a=>
 simp only[];refine(aE f).bind ?_;rintro g i d _ ⟨rfl,c⟩;clear c;have a:=a.mono i;cases d with
 |array=>cases a<;>exact aj (.int _ _)
 |pointer=>
  cases a<;>
  .refine(aE _).bind ?_;rintro b j d _ ⟨rfl,c⟩;cases d<;>first|exact aq|exact aj (.int _ _)
 |slice=>cases a<;>first|exact aj (.int _ _)|exact aq
 |chan=>(cases a<;>first|exact aj (.int _ _)|exact aq|skip);rename_i r R k;refine(cZ k).bind ?_;intro b j o O l;cases l<;>exact aq
 |_=>cases a<;>exact aq
def RN(a1 t){x X}(h:VsR π x X):(SR S (ai P fs) P) VQ π (Builtin.copy_ a1 t x) (Builtin.copy_ a1 t X):=by
 unfold Builtin.copy_;have G:=h.get 0;have j:=h.get 1;generalize x[0]? =u at*;generalize X[0]? =v at*;generalize x[1]? =Q at*;generalize X[1]? =v1 at*;cases a1[0]? with
 |none=>exact aq
 |some H=>
 cases G with
 |none=>exact aq
 | @some d D k=>
 cases j with
 |none=>exact aq
 | @some s C m=>
 simp only[];refine(aE H).bind ?_;rintro f i I _ ⟨rfl,p⟩;clear p;cases I<;>first|exact aq|skip
 rename_i e;simp only[];have k:=k.mono i;have key:∀{b B:Option Addr} (l:Nat),(et (aW f) b B\/l=0/\∃A E,b=some A/\B=some E)->(SR S (ai P fs) P) VQ f (do
  let n:=Nat.min (<-Builtin.lenOf s) l;let cells <-Builtin.firstCells (<-sizeOf e) n s
  if let some a:=b then storeCells a cells.toList
  pure (goInt n)) (do
  let n:=Nat.min (<-Builtin.lenOf C) l;let cells <-Builtin.firstCells (<-sizeOf e) n C
  if let some a:=B then storeCells a cells.toList
  pure (goInt n)):=by
  intro b B l g;refine(zm (m.mono i)).bind ?_;rintro J q n _ ⟨rfl,K⟩;refine(bP e).bind ?_;rintro L r z _ rfl;obtain g|⟨rfl,A,E,rfl,rfl⟩:=g
  .refine(ns _ _ (((m.mono i).mono q).mono r) (λo c e=>?_)).bind ?_
   .rw[K _ _ _ e]
    exact Nat.zero_min _
   intro w F R T M;have g:=g.mono λ_ _ x=>aW.mono (Ren.le_trans q (Ren.le_trans r F)) x;cases g with
   |none=>exact aj (.int _ _)
   |some y=>refine(nc 0 y M.toList).bind ?_;intro N U _ _ _;exact aj (.int _ _)
  .rw[show Nat.min n 0=0 from Nat.min_zero _]
   refine(pW _ (((m.mono i).mono q).mono r)).bind ?_;rintro w F _ _ ⟨rfl,rfl⟩;exact aj (.int _ _)
 cases k with|jv=>exact key _ (.inl .none)|slice l c O=>exact key _ (.inl (.some O))|sC A=>exact key _ (.inr ⟨rfl,_,_,rfl,rfl⟩)|_=>exact aq
def ua(d a b x y):(SR S (ai P fs) P) VQ π (do pure (.string (if <-asBool (<-Op.stringOp d a b)then x else y))) (do pure (.string (if <-asBool (<-Op.stringOp d a b)then x else y))):=by refine(rL d a b).sr.bind ?_;intro e h v V f;refine(B8 f).bind ?_;rintro g i c _ rfl;exact aj (.string _)
def RP{x X y Y}(a:aD π x X)(b:aD π y Y):(SR S (ai P fs) P) VQ π (Builtin.min2 x y) (Builtin.min2 X Y):=by
 cases a<;>cases b<;>first
  |exact aq
  |exact aG
  |exact aj (.int _ _)
  |exact ua _ _ _ _ _
  |skip
 unfold Builtin.min2;simp only[];split<;>first|exact aj (.float _ _)|skip
 refine(fj _).bind ?_;rintro c d n _ rfl;exact aj (.float _ _)
def RQ{x X y Y}(a:aD π x X)(b:aD π y Y):(SR S (ai P fs) P) VQ π (Builtin.max2 x y) (Builtin.max2 X Y):=by
 cases a<;>cases b<;>first
  |exact aq
  |exact aG
  |exact aj (.int _ _)
  |exact ua _ _ _ _ _
  |skip
 unfold Builtin.max2;simp only[];split<;>first|exact aj (.float _ _)|skip
 refine(fj _).bind ?_;rintro c d n _ rfl;exact aj (.float _ _)
def Cn{f:x6->x6->Sem x6}(d:∀{π:Ren P.globals.size} {x X y Y},aD π x X->aD π y Y->(SR S (ai P fs) P) VQ π (f x y) (f X Y)){l L}:∀{π:Ren P.globals.size} {x X},bw (aD π) l L->aD π x X->(SR S (ai P fs) P) VQ π (l.foldlM f x) (L.foldlM f X):=by induction l generalizing L with|nil=>intro π x X b c;cases b;exact aj c|cons a l e=>intro π x X b c;cases b with|cons h b=>simp only[List.foldlM_cons];refine(d c h).bind ?_;intro g i v V j;exact e (b.mono λ_ _ x=>x.mono i) j
def Tx(a1 t){x X}(h:VsR π x X):(SR S (ai P fs) P) VQ π (Builtin.min_ a1 t x) (Builtin.min_ a1 t X):=by unfold Builtin.min_;have a:=h.toList;generalize x.toList=l at*;generalize X.toList=L at*;cases a with|nil=>exact aq|cons h a=>exact Cn RP a h
def Ty(a1 t){x X}(h:VsR π x X):(SR S (ai P fs) P) VQ π (Builtin.max_ a1 t x) (Builtin.max_ a1 t X):=by unfold Builtin.max_;have a:=h.toList;generalize x.toList=l at*;generalize X.toList=L at*;cases a with|nil=>exact aq|cons h a=>exact Cn RQ a h
def Ek(n):∀{π:Ren P.globals.size} {a A} (acc),aW π a A->(SR S (ai P fs) P) EqQ π (loadBytes a acc n) (loadBytes A acc n):=by
 induction n with
 |zero=>intro π a A acc h;exact aj rfl
 |succ n b=>
  intro π a A acc h;unfold loadBytes;refine(tD h).bind ?_;intro c d v V e;cases e with
  |int k n=>cases k<;>first|exact b _ ((h.mono d).add 1)|exact aq
  |_=>exact aq
def xZ(a1 t){x X}(h:VsR π x X):(SR S (ai P fs) P) VQ π (Builtin.unsafeString_ a1 t x) (Builtin.unsafeString_ a1 t X):=by have a:=h.toList;obtain⟨x⟩:=x;obtain⟨X⟩:=X;simp only[]at a;cases a with|nil=>exact aq|cons j a=>cases a with|nil=>exact aq|cons g a=>cases a with|cons _ _=>exact .never (by unfold Builtin.unsafeString_;exact dQ _)|nil=>(have key:∀{p Q:Option Addr},et (aW π) p Q->∀{y Y:x6},aD π y Y->(SR S (ai P fs) P) VQ π (Builtin.unsafeString_ a1 t #[.pointer p,y]) (Builtin.unsafeString_ a1 t #[.pointer Q,Y]):=by intro p Q c y Y k;unfold Builtin.unsafeString_;refine(kj k).bind ?_;rintro l m n _ rfl;have c:=c.mono λ_ _ x=>aW.mono m x;cases a1[0]? with|none=>exact aq|some o=>simp only[];split;exact .never (aF (aH _));split;exact .never (aF (.halt _));cases c with|none=>exact dB (aj (.string _)) dH|some d=>refine dB (aj (.string _)) ?_;refine(LY o).bind ?_;rintro q f e _ rfl;refine(pV (d.mono f) _ _).bind ?_;rintro r i b _ rfl;refine dB ?_ aG;refine(Ek _ _ ((d.mono f).mono i)).bind ?_;rintro u v s _ rfl;refine(Ck (((d.mono f).mono i).mono v) _).bind ?_;intro w A _ _ _;exact aj (.string _));cases j with|LG=>exact key .none g|ptr z=>exact key (.some z) g|_=>exact aq
def zn(a:P.underlying sG=none){b c Q}{f:TypeId->Sem b}{s:Sem c}:(SR S (ai P fs) P) Q π (elemOf sG>>= f) s:=by refine SR.lR ?_;have e:(ai P fs).underlying sG=none:=a;simp only[Sem.bind,e];exact aq
def El(t c)(g:P.underlying sG=none){a A}(b:aW π a A):(SR S (ai P fs) P) VQ π (if c≠0 then pure (.pointer (some a)) else do if(<-viewAt a.block).isSome then pure (.pointer (some a))else do let e <-elemOf sG;pure (.pointer (some ⟨<-newObj (.view a e),0,none⟩))) (if c≠0 then pure (.pointer (some A)) else do if(<-viewAt A.block).isSome then pure (.pointer (some A))else do let e <-elemOf t;pure (.pointer (some ⟨<-newObj (.view A e),0,none⟩))):=by refine dB (aj (.ptr b)) ?_;have d:=b;cases b with|mk b=>refine(qU b).bind ?_;intro h i u v f;rw[mI f];exact dB (aj (.ptr (d.mono i))) (zn g)
def sV(a1 t)(b:P.underlying sG=none){x X}(h:VsR π x X):(SR S (ai P fs) P) VQ π (Builtin.unsafeSliceData_ a1 sG x) (Builtin.unsafeSliceData_ a1 t X):=by have a:=h.toList;obtain⟨x⟩:=x;obtain⟨X⟩:=X;simp only[]at a;cases a with|nil=>exact aq|cons d a=>cases a with|cons _ _=>exact aq|nil=>cases d with|jv=>exact aj .LG|slice l c f=>exact El t c b f|sC A=>show(SR S (ai P fs) P) VQ π (do if(<-viewAt 0).isSome then pure (.pointer (some ⟨0,0,some 0⟩))else do let e <-elemOf sG;pure (.pointer (some ⟨<-newObj (.view ⟨0,0,some 0⟩ e),0,none⟩))) _;unfold viewAt;refine SR.uU λx=>?_;exact zn b|_=>exact aq
def ya(a n):dg (Builtin.holdsCells a n):=by unfold Builtin.holdsCells;exact yK
def Be(a b c x y):dg (Builtin.mayShare a b c x y):=by unfold Builtin.mayShare;repeat' (first|exact ya _ _|with_reducible first|exact dg.pure _|exact dg.frozen _|refine dg.ite ?_ ?_|refine dg.bind ?_ λ_=>?_|dsimp only|split)
def qZ{a c}[Decidable c]{s t:Sem a}(h:ey s)(b:ey t):ey (if c then s else t):=by split<;>assumption
def Mk(L:dW P)(a1 t){x X}(h:VsR π x X):(SR S (ai P fs) P) VQ π (Builtin.append_ a1 t x) (Builtin.append_ a1 t X):=by
 unfold Builtin.append_;have hg:=h.get 0;have ao:=h.get 1;generalize x[0]? =u at*;generalize X[0]? =v at*;generalize x[1]? =u1 at*;generalize X[1]? =v1 at*;cases a1[0]? with
 |none=>exact aq
 |some t0=>
 cases hg with
 |none=>exact aq
 | @some d D k=>
 cases ao with
 |none=>exact aq
 | @some s S f=>
 refine(aE t0).bind ?_;rintro ar l1 dd _ ⟨rfl,ax⟩;clear ax;cases dd<;>first|exact aq|skip
 rename_i e;have k:=k.mono l1;have f:=f.mono l1;generalize a1[1]? =x1;have W:(∃b B l c,d=.slice b l c/\D=.slice B l c/\(et (aW ar) b B\/l=0/\c=0/\∃A,b=some ⟨0,0,some 0⟩/\B=some A))\/∀b l c,d≠ .slice b l c:=by cases k<;>first|exact .inl ⟨_,_,_,_,rfl,rfl,.inr ⟨rfl,rfl,_,rfl,rfl⟩⟩|exact .inl ⟨_,_,_,_,rfl,rfl,.inl .none⟩|exact .inl ⟨_,_,_,_,rfl,rfl,.inl (.some (by assumption))⟩|exact .inr (by simp)
 obtain⟨b,B,l,c,rfl,rfl,j⟩|hno:=W;refine(bP e).bind ?_
 rintro a6 l2 size _ rfl;have f:=f.mono l2;have k:=k.mono l2;have j:=j.imp_left λh=>h.mono λ_ _ x=>aW.mono l2 x;cases x1 with
 |none=>refine(zm f).bind ?_;rintro ay Y n _ ⟨rfl,hk⟩;have M:false=false->∀o c,s=.slice o 0 c->n=0:=λ_ o c e=>hk _ _ _ e;have f:=f.mono Y;have k:=k.mono Y;have j:=j.imp_left λh=>h.mono λ_ _ x=>aW.mono Y x;refine Ei (λad=>?_) (λ_=>?_);obtain j|⟨rfl,rfl,A,rfl,rfl⟩:=j;refine(xh L _ e size _ f M).bind ?_;(intro p w vs VS C;have E:=j.mono λ_ _ x=>aW.mono w x;cases E with|none=>exact aj (.jv _ _)|some N=>refine(nc 0 (N.add _) C.toList).bind ?_;intro O F _ _ _;exact aj (.slice _ _ (N.mono F)));(have G:n=0:=by omega);subst G;refine(Ej _ e size f).bind ?_;rintro p w _ _ ⟨rfl,rfl⟩;exact aj (.sC _);refine(dP e).bind ?_;rintro p w i _ ⟨rfl,_⟩;refine dB (.never (aF (aH _))) ?_;refine(dP e).bind ?_;rintro af l7 i2 _ ⟨rfl,_⟩;refine dB (.never (aF (qZ (aH _) (bN (Be _ _ _ _ _) λ_=>qZ (bN (.mark _) λ_=>.halt _) (.halt _))))) ?_;refine(fj _).bind ?_;rintro ag l8 y _ rfl;refine(dP e).bind ?_;rintro ah l9 i3 _ ⟨rfl,_⟩;refine(sL _).bind ?_;intro Q H _ _ _;have g:=Ren.le_trans w (Ren.le_trans l7 (Ren.le_trans l8 (Ren.le_trans l9 H)));refine(ns _ _ (k.mono g) (λo c e=>by cases e;rfl)).bind ?_;intro R I old ak q;refine(xh L _ e size _ ((f.mono g).mono I) M).bind ?_;intro T J vs VS C;refine(eQ L e).bind ?_;rintro U r z _ ⟨rfl,hp⟩;refine(jD e (((VsR.mono r (VsR.mono J q)).append (VsR.mono r C)).append (gn (mM hp.cells _)))).bind ?_;intro V al a A ha;exact aj (.slice _ _ ha)
 |some t1=>refine(aE t1).bind ?_;rintro ay Y d1 _ ⟨rfl,_⟩;have f:=f.mono Y;have k:=k.mono Y;have j:=j.imp_left λh=>h.mono λ_ _ x=>aW.mono Y x;refine SR.bind (R1:=EqQ) (aj rfl) ?_;rintro a7 l4 K _ rfl;have f:=f.mono l4;have k:=k.mono l4;have j:=j.imp_left λh=>h.mono λ_ _ x=>aW.mono l4 x;refine Ei (λan=>?_) (λa8=>?_);refine(kj f).bind ?_;(rintro aK Z m _ rfl;refine dB (.never (aF (aH _))) ?_;refine(dP e).bind ?_;rintro aM aa i _ ⟨rfl,_⟩;refine dB (.never (bN (.choose _) λ_=>aF (aH _))) ?_;refine SR.bind (R1:=EqQ) (aj rfl) ?_;rintro aR ab n _ rfl;have M:K=false->∀o c,s=.slice o 0 c->n=0:=λh=>by rw[h]at an;cases an);have f:=((f.mono Z).mono aa).mono ab;have k:=((k.mono Z).mono aa).mono ab;have j:=j.imp_left λh=>h.mono λ_ _ x=>((aW.mono Z x).mono aa).mono ab;refine Ei (λad=>?_) (λ_=>?_);obtain j|⟨rfl,rfl,A,rfl,rfl⟩:=j;refine(xh L _ e size _ f M).bind ?_;(intro p w vs VS C;have E:=j.mono λ_ _ x=>aW.mono w x;cases E with|none=>exact aj (.jv _ _)|some N=>refine(nc 0 (N.add _) C.toList).bind ?_;intro O F _ _ _;exact aj (.slice _ _ (N.mono F)));(have G:n=0:=by omega);subst G;refine(Ej _ e size f).bind ?_;rintro p w _ _ ⟨rfl,rfl⟩;exact aj (.sC _);refine(dP e).bind ?_;rintro p w i _ ⟨rfl,_⟩;refine dB (.never (aF (aH _))) ?_;refine(dP e).bind ?_;rintro af l7 i2 _ ⟨rfl,_⟩;refine dB (.never (aF (qZ (aH _) (bN (Be _ _ _ _ _) λ_=>qZ (bN (.mark _) λ_=>.halt _) (.halt _))))) ?_;refine(fj _).bind ?_;rintro ag l8 y _ rfl;refine(dP e).bind ?_;rintro ah l9 i3 _ ⟨rfl,_⟩;refine(sL _).bind ?_;intro Q H _ _ _;have g:=Ren.le_trans w (Ren.le_trans l7 (Ren.le_trans l8 (Ren.le_trans l9 H)));refine(ns _ _ (k.mono g) (λo c e=>by cases e;rfl)).bind ?_;intro R I old ak q;refine(xh L _ e size _ ((f.mono g).mono I) M).bind ?_;intro T J vs VS C;refine(eQ L e).bind ?_;rintro U r z _ ⟨rfl,hp⟩;refine(jD e (((VsR.mono r (VsR.mono J q)).append (VsR.mono r C)).append (gn (mM hp.cells _)))).bind ?_;intro V al a A ha;exact aj (.slice _ _ ha);refine(zm f).bind ?_;rintro aK Z n _ ⟨rfl,hk⟩;have M:K=false->∀o c,s=.slice o 0 c->n=0:=λ_ o c e=>hk _ _ _ e;have f:=f.mono Z;have k:=k.mono Z;have j:=j.imp_left λh=>h.mono λ_ _ x=>aW.mono Z x;refine Ei (λad=>?_) (λ_=>?_);obtain j|⟨rfl,rfl,A,rfl,rfl⟩:=j;refine(xh L _ e size _ f M).bind ?_;(intro p w vs VS C;have E:=j.mono λ_ _ x=>aW.mono w x;cases E with|none=>exact aj (.jv _ _)|some N=>refine(nc 0 (N.add _) C.toList).bind ?_;intro O F _ _ _;exact aj (.slice _ _ (N.mono F)));(have G:n=0:=by omega);subst G;refine(Ej _ e size f).bind ?_;rintro p w _ _ ⟨rfl,rfl⟩;exact aj (.sC _);refine(dP e).bind ?_;rintro p w i _ ⟨rfl,_⟩;refine dB (.never (aF (aH _))) ?_;refine(dP e).bind ?_;rintro af l7 i2 _ ⟨rfl,_⟩;refine dB (.never (aF (qZ (aH _) (bN (Be _ _ _ _ _) λ_=>qZ (bN (.mark _) λ_=>.halt _) (.halt _))))) ?_;refine(fj _).bind ?_;rintro ag l8 y _ rfl;refine(dP e).bind ?_;rintro ah l9 i3 _ ⟨rfl,_⟩;refine(sL _).bind ?_;intro Q H _ _ _;have g:=Ren.le_trans w (Ren.le_trans l7 (Ren.le_trans l8 (Ren.le_trans l9 H)));refine(ns _ _ (k.mono g) (λo c e=>by cases e;rfl)).bind ?_;intro R I old ak q;refine(xh L _ e size _ ((f.mono g).mono I) M).bind ?_;intro T J vs VS C;refine(eQ L e).bind ?_;rintro U r z _ ⟨rfl,hp⟩;refine(jD e (((VsR.mono r (VsR.mono J q)).append (VsR.mono r C)).append (gn (mM hp.cells _)))).bind ?_;intro V al a A ha;exact aj (.slice _ _ ha)
 cases d<;>first|exact aq|exact absurd rfl (hno _ _ _)
end
section
variable {S:Kn} {P:Program} {fs:Array Func} {π:Ren P.globals.size} {G:Nat} {ρ:Ren G}
def pX(b n):∀{π:Ren P.globals.size} (t) {x X},aD π x X->(SR S (ai P fs) P) EqQ π (Instr.checkKey b n t x) (Instr.checkKey b n t X):=by
 induction n with
 |zero=>intros;exact aG
 |succ n m=>
  intro π t x X h;unfold Instr.checkKey;refine(aE t).bind ?_;rintro j y d _ ⟨rfl,A⟩;clear A;have h:=h.mono y;cases d with
  |interface L=>(cases h<;>first|exact aq|exact aj rfl|skip);rename_i B v V D;simp only[];refine(dP B).bind ?_;rintro E F i _ ⟨rfl,_⟩;split;split;exact .never (aF (aH _));exact .never (bN (tB _) λ_=>aF (aH _));exact m _ (D.mono F)
  |array len e=>(cases h<;>first|exact aq|skip);(rename_i c C o p;have a:VsR j c C:=⟨o,p⟩);simp only[Z9];refine SR.bind (R1:=EqQ) (jF _ _ λg k f s=>?_) ?_;refine(bP _).bind ?_;rintro H I z _ rfl;refine(iv _ _ (VsR.mono I (VsR.mono k a))).bind ?_;intro q J u U r;refine(m _ r).bind ?_;rintro w K b _ _;exact aj rfl;rintro g k s _ rfl;exact aj rfl
  |struct l=>(cases h<;>first|exact aq|skip);(rename_i c C o p;have a:VsR j c C:=⟨o,p⟩);simp only[];rw[<-Yi,<-Yi];refine SR.bind (R1:=EqQ) (jF _ _ λg k f s=>?_) ?_;refine dB ?_ (aj rfl);refine(iv _ _ (VsR.mono k a)).bind ?_;intro q J u U r;refine(m _ r).bind ?_;rintro w K b _ _;exact aj rfl;rintro g k s _ rfl;exact aj rfl
  |_=>cases h<;>exact aj rfl
abbrev Em{G}(π:Ren G):Nat×x6->Nat×x6->Prop:=λa b=>a.1=b.1/\aD π a.2 b.2
def xi(k){x X y Y}(a:aD ρ x X)(b:aD ρ y Y)(c:x≠ .tuple #[])(d:y≠ .tuple #[]):Instr.sameNow k x y=Instr.sameNow k X Y:=by cases a<;>(try exact absurd rfl c)<;>cases b<;>(try exact absurd rfl d)<;>first|rfl|(cases k<;>rfl)
def Ml(k y):Instr.sameNow k (.tuple #[]) y=none:=by cases k<;>rfl
def Mm(k x):Instr.sameNow k x (.tuple #[])=none:=by cases k<;>cases x<;>rfl
def Gu(k){x X}(d:aD ρ x X){l L}(f:bw (jw ρ) l L):∀i,et (et (Em ρ)) (Instr.findNow k x l i) (Instr.findNow k X L i)\/Instr.findNow k x l i=none:=by induction f with|nil=>intro i;exact .inl (.some .none)| @cons e E l L a _ g=>intro i;unfold Instr.findNow;by_cases b:x=.tuple #[];rw[b,Ml];exact .inr rfl;by_cases c:e.key=.tuple #[];rw[c,Mm];exact .inr rfl;rw[xi k d a.key b c];split;exact .inl (.some (.some ⟨rfl,a.val⟩));exact g _;exact .inl .none
def Gv(t){d}(c:P.underlying t=some d){x y b}(h:Instr.sameNow d x y=some b){a g Q}{f:Bool->Sem a}{s':Sem g}(i:(SR S (ai P fs) P) Q π (f b) s'):(SR S (ai P fs) P) Q π (Op.equal t x y>>= f) s':=by
 have e:∃k:Program->Sem a,(Op.equal t x y>>= f)=.program k/\k (ai P fs)=f b:=by
  unfold Op.equal Op.maxDepth Op.equalIn underlying;refine⟨_,rfl,?_⟩;simp only[Sem.bind,kD,c,Pure.pure];cases d<;>cases x<;>first
   |(simp[Instr.sameNow]at h;done)
   |(cases y<;>first
    |(simp[Instr.sameNow]at h;done)
    |(simp only[Instr.sameNow,Xo]at h;subst h;simp only[Sem.bind,Pure.pure])
    |(simp only[Instr.sameNow]at h;split at h
      .rename_i j;simp only[Xo]at h;subst h;subst j;simp only[Sem.bind,Pure.pure,WL]
      .cases h))
 obtain⟨k,e1,l⟩:=e;rw[e1];refine .lR ?_;rw[l];exact i
def Mn(t){d}(n:P.underlying t=some d){x X}(o:aD π x X){l L}(p:bw (jw π) l L):∀(i) (r),Instr.findNow d X L i=some r->(SR S (ai P fs) P) (λc a b=>et (Em c) a b) π (Instr.findAsking t x l i) (pure r):=by induction p with|nil=>intro i r h;simp only[Instr.findNow,Xo]at h;subst h;exact aj .none| @cons e E l L f _ q=>intro i r h;unfold Instr.findAsking;unfold Instr.findNow at h;by_cases g:x=.tuple #[];rw[g];exact .never (aF (nn _ _));by_cases j:e.key=.tuple #[];rw[j];exact .never (aF (np _ _));have k:=xi d o f.key g j;cases m:Instr.sameNow d X E.key with|none=>rw[m]at h;cases h|some b=>rw[m]at h k;refine Gv t n k ?_;cases b with|true=>simp only[Xo]at h;subst h;exact aj (.some ⟨rfl,f.val⟩)|false=>exact q _ _ h
def rU(t){l L}:∀{π:Ren P.globals.size} {x X} (i),aD π x X->bw (jw π) l L->(SR S (ai P fs) P) (λd a b=>et (Em d) a b) π (Instr.findAsking t x l i) (Instr.findAsking t X L i):=by induction l generalizing L with|nil=>intro π x X i f c;cases c;exact aj .none|cons e l j=>intro π x X i f c;cases c with|cons h c=>unfold Instr.findAsking;refine(yS t f h.key).bind ?_;rintro k g b _ rfl;refine dB (aj (.some ⟨rfl,h.val.mono g⟩)) ?_;exact j _ (f.mono g) (c.mono λ_ _ x=>jw.mono g x)
def sW(t){x X}(g:aD π x X){l L}(j:bw (jw π) l L):(SR S (ai P fs) P) (λi a b=>et (Em i) a b) π (Instr.findKey t x l) (Instr.findKey t X L):=by unfold Instr.findKey;refine(aE t).bind ?_;rintro k e d _ ⟨rfl,m⟩;have c:=j.mono λ_ _ x=>jw.mono e x;have h:=Gu d (g.mono e) c 0;have f:=Mn (S:=S) (fs:=fs) t m (g.mono e) c 0;generalize Instr.findNow d x l 0=u at*;generalize Instr.findNow d X L 0=v at*;obtain h|rfl:=h;(cases h with|some h=>exact aj h|none=>exact rU t 0 (g.mono e) c);cases v with|none=>exact rU t 0 (g.mono e) c|some r=>exact f r rfl
def Pb{x X:x6}(g:aD π x X){b c:Type}{Q:Ren P.globals.size->b->c->Prop}{s:String}{f:Array MapEntry->Sem b}{F:Array MapEntry->Sem c} (d:∀a,Ren.le π a->∀es e,bf (jw a) es e->(SR S (ai P fs) P) Q a (f es) (F e)):(SR S (ai P fs) P) Q π (do
  let es <-match x with
   | .map none=>pure #[]
   | .map (some r)=>do
    let .map es _ <-getObj r|stuck s
    pure es
   |_=>stuck s
  f es) (do
  let es <-match X with
   | .map none=>pure #[]
   | .map (some r)=>do
    let .map es _ <-getObj r|stuck s
    pure es
   |_=>stuck s
  F es):=by
 cases g with
 |Ol=>exact d _ (Ren.le_refl _) _ _ .empty
 |map h=>
  refine(cZ h).bind ?_;intro i j o O k;cases k with
  |map n h=>exact d _ j _ _ h
  |_=>exact .never (aF (.halt _))
 |_=>exact .never (aF (.halt _))
def Mo(n:dW P)(t i){x X y Y}(j:aD π x X)(e:aD π y Y):(SR S (ai P fs) P) VQ π (Instr.lookup t x y i) (Instr.lookup t X Y i):=by (unfold Instr.lookup;refine(aE t).bind ?_;rintro o l d _ ⟨rfl,A⟩;cases d<;>first|exact aq|skip);(rename_i key elem;have j:=j.mono l;have e:=e.mono l;refine Pb j ?_;intro p q es ES f;have g:es.isEmpty=ES.isEmpty:=by simp only[Array.isEmpty,f.1]);(rw[g];have e:=e.mono q;refine(pX _ _ _ e).bind ?_;intro r m _ _ _;refine(sW _ (e.mono m) (f.toList.mono λ_ _ x=>jw.mono m x)).bind ?_;intro s B u v k;have c:∀{a:Ren P.globals.size} (v V:x6) (b:Bool),aD a v V->aD a (if i then .tuple #[v,.bool b]else v) (if i then .tuple #[V,.bool b]else V):=by intro a v V b h;split;exact aD.tuple' (bf.push (bf.push bf.empty h) (.bool b));exact h);cases k with|none=>refine(eQ n elem).bind ?_;rintro a C z _ ⟨rfl,w⟩;exact aj (c _ _ _ (w _ _))|some h=>exact aj (c _ _ _ h.2)
def En(n):∀{x X y Y},aD ρ x X->aD ρ y Y->Instr.sameBits n x y=true->Instr.sameBits n X Y=true:=by
 have f:∀{r R s Z:Nat},ρ r R->ρ s Z->(some r==some s)=(some R==some Z):=by (intro r R s Z h i;have e:r=s↔R=Z:=⟨λe=>by subst e;exact ρ.fn _ _ _ h i,λe=>by subst e;exact ρ.inj _ _ _ h i⟩);rw[XP];simp[e]
 have g:∀{a A b B:Addr},aW ρ a A->aW ρ b B->(some a==some b)=(some A==some B):=by intro a A b B h i;have:=(h.eq i).2;rw[XP]at this⊢;simpa using this
 induction n with
 |zero=>intro x X y Y j k h;cases j<;>cases k<;>first|exact h|(simp[Instr.sameBits]at h;done)|exact(g (by assumption) (by assumption)).symm.trans h|exact(f (by assumption) (by assumption)).symm.trans h
 |succ n v=>(intro x X y Y j k h;cases j<;>cases k<;>first|exact h|(simp[Instr.sameBits]at h;done)|exact(g (by assumption) (by assumption)).symm.trans h|exact(f (by assumption) (by assumption)).symm.trans h|skip);rename_i o _ _ _ p;unfold Instr.sameBits at h⊢;simp only[WI]at h⊢;exact⟨h.1,v o p h.2⟩;rename_i c C w o d D z p;(have E:=bf.toList ⟨w,o⟩;have F:=bf.toList ⟨z,p⟩;have key:∀{l L m M:List x6},bw (aD ρ) l L->bw (aD ρ) m M->((l.zip m).all λ(x,y)=>Instr.sameBits n x y)=true->((L.zip M).all λ(x,y)=>Instr.sameBits n x y)=true:=by intro l L m M H;induction H generalizing m M with|nil=>intro _ _;rfl|cons h _ q=>intro t u;cases t with|nil=>rfl|cons i t=>simp only[List.zip_cons_cons,YZ,WI]at u⊢;exact⟨v h i u.1,q t u.2⟩);unfold Instr.sameBits at h⊢;simp only[WI]at h⊢;rw[w,z]at h;exact⟨h.1,key E F h.2⟩
def pq{x X y Y}(b:aD π x X)(a:aD π y Y):(SR S (ai P fs) P) VQ π (Instr.keyThatStays x y) (Instr.keyThatStays X Y):=by unfold Instr.keyThatStays;have d:=En 10000 b a;generalize Instr.sameBits 10000 x y=u at*;generalize Instr.sameBits 10000 X Y=v at*;cases u with|true=>rw[d rfl];exact aj a|false=>cases v with|true=>exact .ov 0 (n:=0) (λf g h=>by cases h) rfl (aj a)|false=>simp only[WW,WU];refine(fj _).bind ?_;rintro e c n _ rfl;refine aj ?_;split;exact a.mono c;exact b.mono c
def pY{R es a}(h:bf R es a)(i){f F:MapEntry->MapEntry}(c:∀e E,R e E->R (f e) (F E)):bf R (es.modify i f) (a.modify i F):=bf.mW λj=>by rw[XB,XB];have b:=h.get j;split;generalize es[j]? =u at*;(generalize a[j]? =v at*;cases b with|none=>exact .none|some r=>exact .some (c _ _ r));exact b
def Co{es a}(h:bf (jw ρ) es a)(i:Nat){k K}(b:aD ρ k K):aD ρ (((es[i]?).map (·.key)).getD k) (((a[i]?).map (·.key)).getD K):=by have c:=h.get i;generalize es[i]? =u at*;generalize a[i]? =v at*;cases c with|none=>exact b|some r=>exact r.key
def JH{es a}(h:bf (jw ρ) es a)(i:Nat){b:Type}(f:Nat->b)(d):(((a[i]?).map (λx=>f x.born)).getD d)=(((es[i]?).map (λx=>f x.born)).getD d):=by have c:=h.get i;generalize es[i]? =u at*;generalize a[i]? =v at*;cases c with|none=>rfl|some r=>exact W8 f r.born.symm
def uc(t){x X k K v V}(m:aD π x X)(b:aD π k K)(c:aD π v V):(SR S (ai P fs) P) EqQ π (Instr.mapUpdate t x k v) (Instr.mapUpdate t X K V):=by
 unfold Instr.mapUpdate;refine(aE t).bind ?_;rintro s g d _ ⟨rfl,M⟩;cases d<;>first|exact aq|skip
 rename_i key elem;have m:=m.mono g;cases m with
 |Ol=>exact dH
 |map h=>
  refine(cZ h).bind ?_;intro A j o O B;cases B with
  | @map es N n a=>refine(pX _ _ _ ((b.mono g).mono j)).bind ?_;intro C l _ _ _;have b:=((b.mono g).mono j).mono l;have c:=((c.mono g).mono j).mono l;have a:=a.mono λ_ _ x=>jw.mono l x;have h:=l _ _ (j _ _ h);refine(sW _ b a.toList).bind ?_;intro D f u w p;have b:=b.mono f;have c:=c.mono f;have a:=a.mono λ_ _ x=>jw.mono f x;cases p with|none=>exact fo (f _ _ h) (by simp) (.map _ (a.push ⟨b,c,rfl⟩))| @some u w F=>obtain⟨i,y⟩:=u;obtain⟨Q,Y⟩:=w;obtain⟨r,H⟩:=F;simp only[]at r H;subst r;refine(pq (Co a i b) b).bind ?_;intro I q z Z J;exact fo (q _ _ (f _ _ h)) (by simp) (.map _ (pY (a.mono λ_ _ x=>jw.mono q x) i λe E L=>⟨J,c.mono q,L.born⟩))
  |_=>exact aq
 |_=>exact aq
def Gw(l:dW P)(t){x X k K}(m:aD π x X)(c:aD π k K):(SR S (ai P fs) P) VQ π (Instr.mapEntry t x k) (Instr.mapEntry t X K):=by
 unfold Instr.mapEntry;refine(aE t).bind ?_;rintro H p d _ ⟨rfl,R⟩;cases d<;>first|exact aq|skip
 rename_i key elem;have m:=m.mono p;cases m with
 |Ol=>exact dH
 |map h=>
  refine(cZ h).bind ?_;intro I q o O J;cases J with
  | @map es T b a=>refine(pX _ _ _ ((c.mono p).mono q)).bind ?_;intro L r _ _ _;have c:=((c.mono p).mono q).mono r;have a:=a.mono λ_ _ x=>jw.mono r x;have h:=r _ _ (q _ _ h);refine(sW _ c a.toList).bind ?_;intro M j u w s;have c:=c.mono j;have a:=a.mono λ_ _ x=>jw.mono j x;cases s with|none=>refine(eQ l elem).bind ?_;rintro f g z _ ⟨rfl,A⟩;refine(fo (g _ _ (j _ _ h)) (by simp) (.map _ (bf.push (a.mono λ_ _ x=>jw.mono g x) (⟨c.mono g,A _ _,rfl⟩:jw f ⟨k,z,b⟩ ⟨K,z,b⟩)))).bind ?_;intro v B _ _ _;exact aj (aD.tuple' (bf.push (bf.push bf.empty (A _ _)) (.int _ _)))| @some u w N=>obtain⟨i,y⟩:=u;obtain⟨U,Y⟩:=w;obtain⟨C,D⟩:=N;simp only[]at C D;subst C;refine(pq (Co a i c) c).bind ?_;intro f g z Z l;refine(fo (g _ _ (j _ _ h)) (by simp) (.map _ (pY (a.mono λ_ _ x=>jw.mono g x) i λe E F=>(⟨l,F.val,F.born⟩:jw f {e with key:=z} {E with key:=Z})))).bind ?_;intro v B _ _ _;have Q:=JH a i (λn:Nat=>(n:Int)) 0;rw[Q];exact aj (aD.tuple' (bf.push (bf.push bf.empty ((D.mono g).mono B)) (.int _ _)))
  |_=>exact aq
 |_=>exact aq
def Gx{es a}(h:bf (jw ρ) es a)(b):a.findIdx? (λe=>(e.born:Int)==b)=es.findIdx? (λe=>(e.born:Int)==b):=by have:=h.toList;obtain⟨l⟩:=es;obtain⟨L⟩:=a;simp only[List.findIdx?_toArray];simp only[]at this;clear h;induction this with|nil=>rfl|cons c _ d=>rw[List.findIdx?_cons,List.findIdx?_cons,c.born,d]
def Bf(t){x X k K v V}(g:aD π x X)(i:aD π k K)(j:aD π v V):(SR S (ai P fs) P) EqQ π (Instr.entryStore t x k v) (Instr.entryStore t X K V):=by
 unfold Instr.entryStore;cases g with
 |map h=>refine(cZ h).bind ?_;intro l b o O m;cases m with| @map es q c a=>refine(kj (i.mono b)).bind ?_;rintro p d n _ rfl;have a:=a.mono λ_ _ x=>jw.mono d x;rw[Gx a];split;exact fo (d _ _ (b _ _ h)) (by simp) (.map _ (pY a _ λe E f=>⟨f.key,(j.mono b).mono d,f.born⟩));exact aG|_=>exact aq
 |_=>exact aq
def Pc(t){x X}(b:aD π x X):(SR S (ai P fs) P) VQ π (Instr.range t x) (Instr.range t X):=by
 unfold Instr.range;refine(aE t).bind ?_;rintro e f d _ ⟨rfl,g⟩;clear g;have b:=b.mono f;have fin:∀{a:Ren P.globals.size} {o O:Obj},gL S a o O->(SR S (ai P fs) P) VQ a (do pure (.pointer (some ⟨<-newObj o,0,none⟩))) (do pure (.pointer (some ⟨<-newObj O,0,none⟩))):=by intro a o O c;refine(iT c).bind ?_;intro i m r R j;exact aj (.ptr (.mk j))
 cases d with
 |string=>cases b<;>first|exact fin (.stringIter _ _)|exact .never (aF (.halt _))
 |map=>(cases b<;>first|exact fin (.gi _ _ _)|exact .never (aF (.halt _))|skip);rename_i r R h;refine(cZ h).bind ?_;intro a k o O c;cases c with|map n l=>exact fin (.mapIter _ _ _ (k _ _ h))|_=>exact .never (aF (.halt _))
 |_=>cases b<;>exact .never (aF (.halt _))
def bw.filter{b c R l m}(h:bw R l m){p:b->Bool}{q:c->Bool}(d:∀x y,R x y->p x=q y):bw R (l.filter p) (m.filter q):=by induction h with|nil=>exact .nil|cons h _ a=>rw[XX,XX,d _ _ h];split;exact .cons h a;exact a
def bf.filter{a b R l m}(h:bf R l m){p:a->Bool}{q:b->Bool}(c:∀x y,R x y->p x=q y):bf R (l.filter p) (m.filter q):=by have:=(h.toList.filter c).toArray;obtain⟨l⟩:=l;obtain⟨m⟩:=m;simpa using this
def bf.all{a b R l m}(h:bf R l m){p:a->Bool}{q:b->Bool}(c:∀x y,R x y->p x=q y):l.all p=m.all q:=by have d:=h.toList;obtain⟨l⟩:=l;obtain⟨m⟩:=m;simp only[WX,List.all_toArray']at*;clear h;induction d with|nil=>rfl|cons h _ e=>rw[YZ,YZ,c _ _ h,e]
def bf.find{a b R l m}(h:bf R l m){p:a->Bool}{q:b->Bool}(c:∀x y,R x y->p x=q y):et R (l.find? p) (m.find? q):=by have d:=h.toList;obtain⟨l⟩:=l;obtain⟨m⟩:=m;simp only[List.find?_toArray]at*;clear h;induction d with|nil=>exact .none|cons h _ e=>rw[List.find?_cons,List.find?_cons,c _ _ h];split;exact .some h;exact e
def bf.isEmpty{a b R}{l:Array a}{m:Array b}(h:bf R l m):l.isEmpty=m.isEmpty:=by simp only[Array.isEmpty,h.1]
def Pd{x X}(j:aD π x X):(SR S (ai P fs) P) VQ π (Instr.entry x) (Instr.entry X):=by
 unfold Instr.entry;cases j with
 |ptr h=>
  cases h with
  | @mk r R o p h=>
   cases o with
   |succ=>exact aq
   |zero=>
   refine(cZ h).bind ?_;intro k t ob w f;cases f with
   |mapIter a seen c l=>
    simp only[];cases seen.back? with
    |none=>exact aq
    |some b=>
     simp only[];refine(cZ l).bind ?_;intro m y o O f;cases f with
     | @map es n g i=>simp only[];split;exact .never (aF (.halt _));(have s:=i.find (p:=λe=>e.born==b) (q:=λe=>e.born==b) λe E d=>by rw[d.born]);generalize es.find? _=u at*;generalize n.find? _=v at*;cases s with|none=>exact aG|some d=>exact aj (aD.tuple' (bf.push (bf.push bf.empty d.key) d.val))
     |_=>exact aq
   |_=>exact aq
 |_=>exact aq
def RR(b t){x X}(H:aD π x X):(SR S (ai P fs) P) VQ π (Instr.next x b t) (Instr.next X b t):=by
 unfold Instr.next;cases H with
 |ptr h=>
  cases h with
  | @mk r R o p h=>
   cases o with
   |succ=>exact aq
   |zero=>
   refine(cZ h).bind ?_;intro I J ob N z;have h:=J _ _ h;cases z with
   |stringIter s pos=>cases b with|false=>exact aq|true=>refine dB ?_ (aj (aD.tuple' (bf.push bf.empty (.bool _))));refine(fo h (by simp) (.stringIter _ _)).bind ?_;intro j A _ _ _;exact aj (aD.tuple' (bf.push (bf.push (bf.push bf.empty (.bool _)) (.int _ _)) (.int _ _)))
   |gi=>cases b with|true=>exact aq|false=>exact aj (aD.tuple' (bf.push bf.empty (.bool _)))
   |mapIter a seen last w=>
    cases b with
    |true=>exact aq
    |false=>
     refine(cZ w).bind ?_;intro j A o O z;have h:=A _ _ h;have w:=A _ _ w;cases z with
     | @map es K B i=>simp only[];rw[<-i.isEmpty,<-i.all (p:=λe=>decide (e.born>=last)) (q:=λe=>decide (e.born>=last)) λe E c=>by rw[c.born]];split;exact .never (aF (.halt _));(have d:=i.filter (p:=λe=> !seen.contains e.born) (q:=λe=> !seen.contains e.born) λe E c=>by rw[c.born]);(generalize es.filter (λe=> !seen.contains e.born)=left at*;generalize K.filter (λe=> !seen.contains e.born)=f at*;have g:=d.filter (p:=λe=>decide (e.born<a)) (q:=λe=>decide (e.born<a)) λe E c=>by rw[c.born]);(have k:=d.filter (p:=λe=>decide (e.born>=a)) (q:=λe=>decide (e.born>=a)) λe E c=>by rw[c.born]);(generalize left.filter (λe=>decide (e.born<a))=old at*;generalize f.filter (λe=>decide (e.born<a))=l at*;generalize left.filter (λe=>decide (e.born>=a))=new at*;generalize f.filter (λe=>decide (e.born>=a))=m at*;rw[<-g.isEmpty];have D:bf (et (jw j)) ((if old.isEmpty then #[none]else #[])++(old++new).map some) ((if old.isEmpty then #[none]else #[])++(l++m).map some):=by refine bf.append ?_ ((g.append k).map λ_ _=>.some);split;exact bf.push bf.empty .none;exact .empty);generalize ((if old.isEmpty then #[none]else #[])++(old++new).map some)=cs at*;generalize ((if old.isEmpty then #[none]else #[])++(l++m).map some)=CS at*;rw[<-D.1];refine(fj _).bind ?_;rintro L y n _ rfl;have C:=D.get n;generalize cs[n]? =u at*;generalize CS[n]? =v at*;cases C with|none=>exact aq|some C=>cases C with|none=>exact aj (aD.tuple' (bf.push bf.empty (.bool _)))|some c=>simp only[c.born];refine(fo (y _ _ h) (by simp) (.mapIter _ _ _ (y _ _ w))).bind ?_;intro M F _ _ _;exact aj (aD.tuple' (bf.push (bf.push (bf.push bf.empty (.bool _)) ((c.key.mono y).mono F)) ((c.val.mono y).mono F)))
     |_=>exact aq
   |_=>cases b<;>exact aq
 |_=>exact aq
end
def JI(g:Func):Prop:=g.name= "" /\g.origin= "" /\g.body=none
def JI.find{g}(h:JI g):Extern.find g=none:=by (unfold Extern.find;have a:List.lookup "" Extern.allGenericRows=none:=by kernel_rfl);(have b:List.lookup "" Extern.allTypedRows=none:=by kernel_rfl);(have c:List.lookup "" Extern.allRows=none:=by kernel_rfl);simp only[h.1,h.2.1,a,b,c];rfl
def JI.findNext{g}(h:JI g):Extern.findNext g=none:=by (unfold Extern.findNext;have a:List.lookup "" Extern.allNextRows=none:=by kernel_rfl);simp only[h.1,h.2.1,a];rfl
def pZ(v)(h:ic v=true):Plain v:=by
 intro G π
 match v with
 | .bool _=>exact .bool _
 | .int .. =>exact .int _ _
 | .float .. =>exact .float _ _
 | .complex .. =>exact .complex _ _ _
 | .string _=>exact .string _
 | .pointer none=>exact .LG
 | .slice none _ _=>exact .jv _ _
 | .map none=>exact .Ol
 | .chan none=>exact .Ui
 | .nilFunc=>exact .nilFunc
 | .nilIface=>exact .nilIface
 | .tuple c=>(have e:c=#[]:=by simpa[ic]using h);rw[e];exact aD.tuple' .empty
 | .iface .. =>simp[ic]at h
 | .agg _=>simp[ic]at h
 | .func .. =>simp[ic]at h
 | .pointer (some _)=>simp[ic]at h
 | .slice (some _) _ _=>simp[ic]at h
 | .map (some _)=>simp[ic]at h
 | .chan (some _)=>simp[ic]at h
inductive NxR(S:Kn){G:Nat}(π:Ren G):Next->Next->Prop
 |value {v V:x6}:aD π v V->NxR S π (.value v) (.value V)
 |skip:NxR S π .skip .skip
 |enter (f:FuncId) {a A:WZ}:S.stop f=true\/S.ent f=true->(S.stop f=true->a.size=1)->VsR π a A->NxR S π (.enter f a) (.enter f A)
 |round {l L:Nat} (f:FuncId) {t T:WZ} (as body:Code):S.ent f=true->π l L->VsR π t T->S.code as->S.code body->NxR S π (.round l f t as body) (.round L f T as body)
structure Tab(S:Kn)(P:Program)(fs:Array Func):Prop where
 zero:dW P
 size:fs.size=P.funcs.size
 bad:P.underlying sG=none
 zo:S.dU 0=true
 ent:∀f,S.ent f=true->S.stop f=false/\∃g c,fs[f]? =some {g with body:=some (iK c)}/\P.funcs[f]? =some g/\g.name≠ "runtime.NumGoroutine" /\g.body=some c/\jy S c=true
 stop:∀f,S.stop f=true->f=lP/\∃g h,fs[f]? =some g/\P.funcs[f]? =some h/\g.name≠ "runtime.NumGoroutine" /\h.name≠ "runtime.NumGoroutine" /\g.body.isSome=true/\h.body.isSome=true
 rest:∀f g,fs[f]? =some g->S.ent f=true\/S.stop f=true\/JI g\/
  (P.funcs[f]? =some g/\g.name≠ "runtime.NumGoroutine" /\g.body=none/\Extern.findNext g=none/\∃e,Extern.find g=some e/\∀(π:Ren P.globals.size),(∀g,S.dU g=true->π g g)->∀(a A:WZ),VsR π a A->SR S (ai P fs) P VQ π (e a) (e A))
section
variable {S:Kn} {P:Program} {fs:Array Func} {π:Ren P.globals.size}
abbrev NQ(S:Kn){G}:Ren G->Next->Next->Prop:=λπ a A=>NxR S π a A
def cN{s T}(h:(SR S (ai P fs) P) VQ π s T):(SR S (ai P fs) P) (NQ S) π (do pure (.value (<-s))) (do pure (.value (<-T))):=h.bind λ_ _ _ _ a=>aj (.value a)
def ue{s T}(h:(SR S (ai P fs) P) EqQ π s T):(SR S (ai P fs) P) (NQ S) π (do s;pure .skip) (do T;pure .skip):=h.bind λ_ _ _ _ _=>aj .skip
def xj(d:Tab S P fs)(v:∀g,S.dU g=true->π g g)(f:FuncId){a A}(i:f=lP->a.size=1)(h:VsR π a A):(SR S (ai P fs) P) (NQ S) π (callFunc f a) (callFunc f A):=by unfold callFunc;refine cT.bind ?_;rintro w s _ _ ⟨rfl,rfl⟩;have h:=VsR.mono s h;rw[show(ai P fs).funcs=fs from rfl];cases m:fs[f]? with|none=>exact aq|some g=>simp only[];obtain j|j|k|⟨n,l,t,y,e,z,o⟩:=d.rest f g m;obtain⟨_,g',c,e1,p,l,B,_⟩:=d.ent f j;(rw[m]at e1;cases e1;rw[p];have b:¬(g'.name== "runtime.NumGoroutine")=true:=by simpa using l);simp only[b,WU,B];exact aj (.enter f (.inr j) (λx=>i (d.stop f x).1) h);obtain⟨_,u,g',e1,p,l,q,t,C⟩:=d.stop f j;rw[m]at e1;cases e1;rw[p];simp only[];rw[Wt (c:=(g.name== "runtime.NumGoroutine")=true) (by simpa using l),Wt (c:=(g'.name== "runtime.NumGoroutine")=true) (by simpa using q),Wt (c:=g.body.isNone=true) (by cases r:g.body<;>simp_all),Wt (c:=g'.body.isNone=true) (by cases r:g'.body<;>simp_all)];exact aj (.enter f (.inl j) (λx=>i (d.stop f x).1) h);refine .never ?_;rw[Wt (by rw[k.1];decide),Wu (by rw[k.2.2];rfl)];refine bN (.mark _) λ_=>?_;rw[k.findNext,k.find,k.1];simp only[];rw[Wt (by decide)];exact .halt _;rw[n];(simp only[];have b:¬(g.name== "runtime.NumGoroutine")=true:=by simpa using l);simp only[b,WU];rw[t,y,z];simp only[Option.isNone_none,WL];refine SR.extern ?_;exact cN (o _ (λg r=>s _ _ (v g r)) _ _ h)
def rV:dg Instr.panicnil:=by unfold Instr.panicnil;exact yK
def JJ(c:dW P)(b)(d:qS b=true)(ts t cs){a A}(h:VsR π a A):(SR S (ai P fs) P) (NQ S) π (builtin b ts t cs a) (builtin b ts t cs A):=by cases b<;>simp only[qS,WW]at d;exact cN (Mk c _ _ h);exact cN (Tw _ _ h);exact cN (RN _ _ h);exact cN (Tv _ _ h);exact cN (Ty _ _ h);exact cN (Tx _ _ h);refine .never (aF ?_);unfold Instr.panic;split;exact .halt _;exact bN rV λ_=>qZ (.halt _) (aH _);exact .halt _;exact cN (xZ _ _ h)
def ma{l L}(h:π l L):(SR S (ai P fs) P) (λc a b=>Fw S c a b) π (Instr.getLoop l) (Instr.getLoop L):=by unfold Instr.getLoop;refine(cZ h).bind ?_;intro d f o O e;cases e with|loop h=>exact aj h|_=>exact aq
def Eo{t T:WZ}{l:List (Tmp×x6)}:∀{t T} {L:List (Tmp×x6)},VsR π t T->bw (mJ π) l L->VsR π (l.foldl (λt (x)=>t.setIfInBounds x.1 x.2) t) (L.foldl (λt (x)=>t.setIfInBounds x.1 x.2) T):=by induction l with|nil=>intro t T L b a;cases a;exact b|cons x l c=>intro t T L b a;cases a with|cons h a=>simp only[ZL];rw[<-h.1];exact c (b.set _ h.2) a
def JK{b:Array Tmp}{a A}(h:VsR π a A):bw (mJ π) (b.zip a).toList (b.zip A).toList:=by have c:=h.toList;obtain⟨b⟩:=b;obtain⟨a⟩:=a;obtain⟨A⟩:=A;simp only[List.zip_toArray]at*;clear h;induction c generalizing b with|nil=>cases b<;>exact .nil|cons h _ d=>cases b with|nil=>exact .nil|cons p b=>exact .cons ⟨rfl,h⟩ (d b)
def Pe{l L}(h:π l L){a A}(c:VsR π a A):(SR S (ai P fs) P) (NQ S) π (Instr.yield l a) (Instr.yield L A):=by unfold Instr.yield;refine(ma h).bind ?_;intro e d r R b;rw[<-c.1,<-b.params];simp only[];split;exact .never (aF (.halt _));rw[<-b.fn,<-b.assign,<-b.body];refine aj (.round _ _ _ b.ent (d _ _ h) ?_ b.Uk b.Ul);rw[<-Zh,<-Zh];exact Eo (t:=#[]) (T:=#[]) b.tmps (JK (VsR.mono d c))
def EvR(S:Kn){G}(π:Ren G)(ρ R:Operand->x6):Prop:=∀x,cW S x=true->aD π (ρ x) (R x)
def EvR.row{ρ R}(h:EvR S π ρ R){xs:Array Operand}(a:xs.all (cW S)=true):VsR π (xs.map ρ) (xs.map R):=by rw[YC]at a;refine bf.mW λi=>?_;rw[Xd,Xd];cases b:xs[i]? with|none=>exact .none|some x=>exact .some (h x (a x (Xu b)))
def xk(k:Tab S P fs)(l:∀g,S.dU g=true->π g g){x X}(m:aD π x X){a A}(h:VsR π a A):(SR S (ai P fs) P) (NQ S) π (do let d <-Deferred.ofValue x a;invoke d.target d.args) (do let d <-Deferred.ofValue X A;invoke d.target d.args):=by
 cases m with
 |nilFunc=>(have e:(do let d <-Deferred.ofValue .nilFunc a;invoke d.target d.args:Sem Next)=runtimePanic .nilDeref:=by simp only[Deferred.ofValue,pure_bind,invoke]);rw[e];exact dH
 |func o i j p q=>cases o with|func f b=>exact xj k l f (λe=>absurd e b) (bf.append (bf.append ⟨i,j⟩ h) ⟨p,q⟩)|yield r=>exact Pe r (bf.append ⟨i,j⟩ h)
 |LH n f c=>(have e:(do let d <-Deferred.ofValue (.func (.method "") #[.nilIface] #[]) a;invoke d.target d.args:Sem Next)=runtimePanic .nilDeref:=by (have e0:(#[Value.nilIface]++a)[0]? =some .nilIface:=by simp[YP]);simp[Deferred.ofValue,invoke,callMethod,e0]);rw[e];exact .never (aH _)
 |_=>exact .never (aF (.halt _))
def RS(k:Tab S P fs)(n:∀g,S.dU g=true->π g g){ρ R}(h:EvR S π ρ R)(l:∀f,ρ (.func f)=.func (.func f) #[] #[])(o:∀f,R (.func f)=.func (.func f) #[] #[])(c t)(hc:Du S (.call c)=true):(SR S (ai P fs) P) (NQ S) π (do let d <-resolve ρ c t;invoke d.target d.args) (do let d <-resolve R c t;invoke d.target d.args):=by
 obtain⟨a,args,ts⟩:=c;unfold Du at hc;obtain hc|hc:=X3 _ _▸hc
 cases a with
 |value x=>
  cases x with
  |func f=>(simp only[lQ,WI,Xw]at hc;obtain⟨⟨rfl,j⟩,i⟩:=hc;have e:∀(σ:Operand->x6),σ (.func lP)=.func (.func lP) #[] #[]->(do let d <-resolve σ ⟨.value (.func lP),args,ts⟩ t;invoke d.target d.args:Sem Next)=callFunc lP (args.map σ):=λσ m=>by simp[resolve,Deferred.ofValue,m,invoke]);rw[e ρ (l _),e R (o _)];exact xj k n lP (λ_=>by simpa using j) (h.row i)
  |_=>simp[lQ]at hc
 |_=>simp[lQ]at hc
 simp only[Op.operands,Call.operands,WI]at hc;obtain⟨j,i⟩:=hc;cases a with
 |value f=>(simp only[aal,WI]at i;have p:cW S f=true:=by simpa using i.1);exact xk k n (h f p) (h.row i.2)
 |invoke=>simp at j
 |builtin b=>simp only[aal,WI]at i;exact JJ k.zero b j _ _ _ (h.row i.2)
def uf{ρ R}(h:EvR S π ρ R){x:Option Operand}(a:x.all (cW S)=true):et (aD π) (x.map ρ) (x.map R):=by cases x with|none=>exact .none|some x=>exact .some (h x a)
def Cq{ρ R:Operand->x6}(h:EvR S π ρ R){a:Array (Nat×Operand)}(b:∀x∈a,cW S x.2=true):bf (mJ π) (a.map λ(i,x)=>(i,ρ x)) (a.map λ(i,x)=>(i,R x)):=by refine bf.mW λi=>?_;rw[Xd,Xd];cases c:a[i]? with|none=>exact .none|some x=>exact .some ⟨rfl,h _ (b x (Xu c))⟩
def Cr{a:Array (Nat×Operand)}(h:((a.toList.map (·.2)).toArray.all (cW S))=true):∀x∈a,cW S x.2=true:=by intro x b;rw[YC]at h;exact h x.2 (by simp;exact⟨x.1,by simpa using b⟩)
def Mp(u:Tab S P fs)(M:∀g,S.dU g=true->π g g){ρ R}(h:EvR S π ρ R)(E:∀f,ρ (.func f)=.func (.func f) #[] #[])(N:∀f,R (.func f)=.func (.func f) #[] #[])(o)(C:Du S o.op=true):(SR S (ai P fs) P) (NQ S) π (execOp ρ o) (execOp R o):=by
 obtain⟨O,p,ty,pos,Q,X⟩:=o;have F:=C;by_cases w:∃c,p=.call c;obtain⟨c,rfl⟩:=w;exact RS u M h E N c ty F;unfold Du at C;have G:lQ S p=false:=by cases p<;>first|rfl|exact absurd ⟨_,rfl⟩ w
 simp only[G,YY,WI]at C;obtain⟨A,j⟩:=C;cases p with
 |move x=>exact aj (.value (h x (by simpa[Op.operands]using j)))
 |assign x=>exact aj (.value (h x (by simpa[Op.operands]using j)))
 |pick c a b=>simp[Op.operands]at j;refine(B8 (h c j.1)).bind ?_;rintro z q v _ rfl;refine aj (.value ?_);split;exact(h a j.2.1).mono q;exact(h b j.2.2).mono q
 |alloc e=>exact cN (OI u.zero e)
 |box e x=>exact cN (Tk e (h x (by simpa[Op.operands]using j)))
 |build t T=>exact cN (OK u.zero t (Cq h (Cr j)))
 |buildSlice t n T=>exact cN (AY u.zero t n (Cq h (Cr j)))
 |insert t m k v=>simp[Op.operands]at j;exact ue (uc t (h m j.1) (h k j.2.1) (h v j.2.2))
 |load t a=>refine cN ((km (h a (by simpa[Op.operands]using j))).bind ?_);intro z q b B H;exact yL t H
 |store t a x=>simp[Op.operands]at j;refine ue ((km (h a j.1)).bind ?_);intro z q b B H;exact FU t H ((h x j.2).mono q)
 |nilCheck x=>
  have I:=h x (by simpa[Op.operands]using j);unfold execOp;simp only[];generalize ρ x=v at*;generalize R x=V at*;have l:=I;cases I with
  |func U Y A Z j=>cases U<;>exact aj (.value l)
  |nE _ a=>
   cases V with
   |pointer o=>cases o<;>first|(simp[eO]at a;done)|exact aj (.value l)
   |func fn _ _=>cases fn<;>first|(simp[eO]at a;done)|exact aj (.value l)
   |_=>first|(simp[eO]at a;done)|exact aj (.value l)
  |LH n f c=>exact .never (aH _)
  |_=>first|exact dH|exact aj (.value l)
 |binOp p t x y t2=>simp[Op.operands]at j;refine cN ((JD p t x y (h x j.1) (h y j.2)).bind ?_);intro z q _ _ _;exact Pa p t ((h x j.1).mono q) ((h y j.2).mono q)
 |unOp p t x=>exact cN (OL p (h x (by simpa[Op.operands]using j)))
 |convert s d x=>exact cN (JG s d (by simpa using A) (h x (by simpa[Op.operands]using j)))
 |makeInterface t x=>exact cN (vt t (h x (by simpa[Op.operands]using j)))
 |makeFunc fn f c=>simp only[Op.operands,aal,WI]at j;cases fn with|func g=>exact cN (FV (.func g (by simpa using A)) (h.row j.1) (h.row j.2))|_=>simp at A
 |makeMap t r=>exact cN (Jk t (uf h (by cases r<;>simp_all [Op.operands])))
 |makeSlice t a b=>simp[Op.operands]at j;exact cN (DN u.zero t (h a j.1) (h b j.2))
 |slice t x J K L=>(have D:cW S x=true/\J.all (cW S)=true/\K.all (cW S)=true/\L.all (cW S)=true:=by cases J<;>cases K<;>cases L<;>simp[Op.operands]at j<;>simp[j]);exact cN (Jf t (h x D.1) (uf h D.2.1) (uf h D.2.2.1) (uf h D.2.2.2))
 |fieldAddr t x f=>exact cN (Ji t f (h x (by simpa[Op.operands]using j)))
 |field t x f=>exact cN (OH t f (h x (by simpa[Op.operands]using j)))
 |indexAddr t x i=>simp[Op.operands]at j;exact cN (Jg t (h x j.1) (h i j.2))
 |index t x i=>simp[Op.operands]at j;exact cN (OG t (h x j.1) (h i j.2))
 |lookup t x i W=>simp[Op.operands]at j;exact cN (Mo u.zero t W (h x j.1) (h i j.2))
 |mapUpdate t m k v=>simp[Op.operands]at j;exact ue (uc t (h m j.1) (h k j.2.1) (h v j.2.2))
 |mapEntry t m k=>simp[Op.operands]at j;exact cN (Gw u.zero t (h m j.1) (h k j.2))
 |entryStore t m k v=>simp[Op.operands]at j;exact ue (Bf t (h m j.1) (h k j.2.1) (h v j.2.2))
 |range t x=>exact cN (Pc t (h x (by simpa[Op.operands]using j)))
 |next x b=>exact cN (RR b _ (h x (by simpa[Op.operands]using j)))
 |entry x=>exact cN (Pd (h x (by simpa[Op.operands]using j)))
 |extract x i=>exact cN (Jh i (h x (by simpa[Op.operands]using j)))
 |call c=>exact absurd ⟨c,rfl⟩ w
 |panic x=>refine .never (aF ?_);unfold Instr.panic;split;exact .halt _;exact bN rV λ_=>qZ (.halt _) (aH _);exact .halt _
 |_=>simp at A
def JL(d:Tab S P fs)(i:∀g,S.dU g=true->π g g){ρ R}(h:EvR S π ρ R)(a:∀f,ρ (.func f)=.func (.func f) #[] #[])(j:∀f,R (.func f)=.func (.func f) #[] #[])(o)(e:opD S o.op=true):(SR S (ai P fs) P) (NQ S) π (execOp ρ (df o)) (execOp R o):=by
 unfold opD at e;obtain h1|h1:=X3 _ _▸e;unfold df;rw[Wt (by rw[Fv h1];simp)];exact Mp d i h a j o h1;obtain⟨l,m,ty,pos,n,p⟩:=o
 cases m with
 |call c=>
  obtain⟨k,args,ts⟩:=c;cases k with
  |builtin b=>cases b with|unsafeSliceData=>exact cN (sV _ _ d.bad (h.row h1))|_=>simp at h1
  |_=>simp at h1
 |_=>simp at h1
end
inductive gp(S:Kn){G:Nat}(π:Ren G):Item->Item->Prop
 |code {c:Code}:jy S c=true->gp S π (.code (iK c)) (.code c)
 |inBlock (id):gp S π (.inBlock id) (.inBlock id)
 |inLoop {b:Code}:S.code b->gp S π (.inLoop b) (.inLoop b)
 |inScope {b:Code}:S.code b->gp S π (.inScope b) (.inScope b)
 |inRegion {ops:Array Oper} (l):(∀o∈ops,opD S o.op=true)->gp S π (.inRegion (ops.map df) l) (.inRegion ops l)
 |inRangeFunc {l L:Nat}:π l L->gp S π (.inRangeFunc l) (.inRangeFunc L)
 |endRangeFunc {l L:Nat}:π l L->gp S π (.endRangeFunc l) (.endRangeFunc L)
 |beginRound:gp S π .beginRound .beginRound
def gp.same{S:Kn}{G:Nat}{π:Ren G}{c:Code}(h:S.code c):gp S π (.code c) (.code c):=by have:=gp.code (π:=π) (iL h).2;rwa[(iL h).1]at this
def Cs(o):(df o).dst=o.dst:=by unfold df;split<;>rfl
def xm(o):(df o).after=o.after:=by unfold df;split<;>rfl
def Gy(o):(df o).guard=o.guard:=by unfold df;split<;>rfl
def Pf(o):(df o).op=o.op:=by unfold df;split<;>rfl
def zp(m ops t):Region.schedule m (ops.map df) t=Region.schedule m ops t:=by (have a:Region.departs (ops.map df)=Region.departs ops:=by unfold Region.departs;rw[Array.any_map];congr 1;funext o;simp only[Function.comp,xm]);(have b:∀md f t l acc,Region.linearise.go md (ops.map df) f t l acc=Region.linearise.go md ops f t l acc:=by intro md f;induction f with|zero=>intro t l acc;rfl|succ f c=>intro t l acc;unfold Region.linearise.go;simp only[c,Yj,Xd,aam,Function.comp_def,xm]);unfold Region.schedule Region.linearise;simp only[a,b,Yj]
def Bg(ops t):yielded (ops.map df) t=yielded ops t:=by funext j;unfold yielded;simp only[Xd];cases ops[j]? with|none=>rfl|some o=>simp only[Xm,YI,Cs]
def Ep(o y):Region.wanted (df o) y=Region.wanted o y:=by unfold Region.wanted;rw[Gy]
structure bq(S:Kn){G:Nat}(π:Ren G)(f F:Frame):Prop where
 fn:F.fn=f.fn
 ent:S.ent f.fn=true
 tmps:VsR π f.tmps F.tmps
 todo:bw (gp S π) f.todo F.todo
 defers:bw (rG π) f.defers F.defers
 mode:F.mode=f.mode
 calm:f.mode=.run\/f.mode=.returning
 kind:f.kind=.normal
 Kind:F.kind=.normal
 round:et (λl L=>π l L) f.roundOf F.roundOf
section mono
variable {G:Nat} {S:Kn} {π π':Ren G} (l:Ren.le π π')
include l
def gp.mono{x X:Item}(h:gp S π x X):gp S π' x X:=by cases h with|code h=>exact .code h|inBlock=>exact .inBlock _|inLoop h=>exact .inLoop h|inScope h=>exact .inScope h|inRegion t h=>exact .inRegion t h|inRangeFunc h=>exact .inRangeFunc (l _ _ h)|endRangeFunc h=>exact .endRangeFunc (l _ _ h)|beginRound=>exact .beginRound
def bq.mono{f F:Frame}(h:bq S π f F):bq S π' f F:={h with tmps:=VsR.mono l h.tmps,todo:=h.todo.mono λ_ _=>gp.mono l,defers:=h.defers.mono λ_ _=>rG.mono l,round:=h.round.mono λ_ _ x=>l _ _ x}
end mono
def Marks{G}(π:Ren G)(f:Frame):Prop:=∀D∈f.defers,∃r R,D=⟨.collected r,#[]⟩/\π r R
def Pg{G}{π:Ren G}{l L}(h:bw (rG π) l L):∀D∈l,∃r R,D=⟨.collected r,#[]⟩/\π r R:=by
 induction h with
 |nil=>intro D h;cases h
 |cons h _ b=>
  intro D a;cases a with
  |head=>cases h with|mk h=>exact⟨_,_,rfl,h⟩
  |tail _ a=>exact b D a
def bw.left{b c R}{l:List b}{m:List c}(h:bw R l m):∀x∈l,∃y,R x y:=by induction h with|nil=>intro x h;cases h|cons h _ e=>intro x a;cases a with|head=>exact⟨_,h⟩|tail _ a=>exact e x a
def kL(G:Nat)(C0:List Frame)(r:GStep):Prop:=
 match r with
 | .ended .. =>True
 | .go g w _=>∃(π:Ren G) (cs:List Frame),g.callers=cs++C0/\g.status=.running/\g.dying=none/\g.offers=none/\(∃v,g.frame.mode=.panicking [{v,recovered:=false}])/\(∀f∈g.frame::cs,Marks π f)/\Dp π w/\∀f∈cs,f.mode=.run\/f.mode=.returning
 |_=>False
def kL.after{G C0 r}(es)(h:kL G C0 r):kL G C0 (r.after es):=by cases r<;>exact h
section
variable {S:Kn} {P:Program} {fs:Array Func} {Pr:Nat->Prop}
def Mq(S:Kn)(P:Program)(fs:Array Func)(π:Ren P.globals.size)(cs:List Frame)(f F:Frame):Prop:=bq S π f F\/cs≠[]/\∃g a A,S.stop g=true/\(a.size=1/\VsR π a A)/\f=Frame.enter (ai P fs) g a .normal/\F=Frame.enter P g A .normal
def rb(f:Frame):Bool:=f.roundOf.isSome
def Sh(a b:List Bool):Prop:=b=a\/(∃x,b=x::a)\/∃x,a=x::b
def nR(f v):rb (f.finish v)=rb f:=by unfold Frame.finish rb;split<;>rfl
def dX(S:Kn)(Pr:Nat->Prop)(P:Program)(fs:Array Func)(C0:List Frame)(st:List Bool)(π:Ren P.globals.size)(w W:xv)(d:Nat)(b:xv->GStep)(f:List Frame->GStep):Prop:=
 ∃L:List (Question->Nat),(∀g∈L,S.ie g)/\((∀τ,Fits τ d L->kL P.globals.size C0 (b (aw w τ d)))\/
  ∃fr cs w' es c CS a ev π',(∀τ,Fits τ d L->b (aw w τ d)=.go ⟨fr,cs++C0,.running,none,none⟩ (aw w' τ (d+L.length)) es)/\(∀B,f B=.go ⟨c,CS++B,.running,none,none⟩ a ev)/\bE S Pr π' w' a/\Chg Pr π W a π'/\(∀e∈ev,mE Pr π' e)/\bw (bq S π') cs CS/\Mq S P fs π' cs fr c/\Sh st (rb fr::cs.map rb))
variable {C0:List Frame} {st:List Bool} {π:Ren P.globals.size} {w W:xv} {d:Nat}
def dX.bind{A B Q s s'}(k:SR S (ai P fs) P Q π s s')(C:bE S Pr π w W){m:Result A×Array Event->GStep}{t:Result B×Array Event->List Frame->GStep} (D:∀h w' c,iA h->Dp π w'->kL P.globals.size C0 (m (.halt h w',c))) (E:∀π' a b w' i c ev d',Ren.le π π'->Q π' a b->bE S Pr π' w' i->(∀e∈ev,mE Pr π' e)->dX S Pr P fs C0 st π' w' i d' (λw=>m (.ok a w,c)) (t (.ok b i,ev))):dX S Pr P fs C0 st π w W d (λw=>m (s.runT (ai P fs) w #[])) (t (s'.runT P W #[])):=by obtain⟨L,n,h|⟨a,w',c,b,i,ev,π',u,v,F,H,y,I⟩⟩:=k.run (Pr:=Pr) w W #[] #[] d C;refine⟨L,n,.inl λτ f=>?_⟩;obtain⟨x,w',c,e1,J,e3⟩:=h τ f;simp only[e1];exact D x w' c J e3;rw[XY]at v;rw[v];obtain⟨z,j,g|⟨fr,cs,w2,o,K,CS,M,q,r,N,O,R,T,U,V,X⟩⟩:=E π' a b w' i c ev (d+L.length) y.le F H I;refine⟨L++z,iS n j,.inl λτ f=>?_⟩;have:=iR f;simp only[u τ this.1];exact g τ this.2;refine⟨L++z,iS n j,.inr ⟨fr,cs,w2,o,K,CS,M,q,r,λτ f=>?_,O,R,y.trans T,U,V,X⟩⟩;have:=iR f;simp only[u τ this.1];exact(N τ this.2).trans (by rw[WS,Ys])
def dX.still(c:bE S Pr π w W){fr a cs CS}(f:bw (bq S π) cs CS)(g:Mq S P fs π cs fr a)(b:Sh st (rb fr::cs.map rb))(es){ev}(h:∀e∈ev,mE Pr π e):dX S Pr P fs C0 st π w W d (λw=>.go ⟨fr,cs++C0,.running,none,none⟩ w es) (λB=>.go ⟨a,CS++B,.running,none,none⟩ W ev):=
 ⟨[],by simp,.inr ⟨fr,cs,w,es,a,CS,W,ev,π,λτ _=>rfl,λ_=>rfl,c,Chg.refl _ _ _,h,f,g,b⟩⟩
def dX.zq{a GS}(h:∀τ,kL P.globals.size C0 (a (aw w τ d))):dX S Pr P fs C0 st π w W d a GS:=⟨[],by simp,.inl λτ _=>h τ⟩
def Gz(p f es):∀e∈seen p f es,e∈es:=by
 have key:∀(l:List Event) (q:Bool) (k:Array Event) (g:FuncId->Bool),∀e∈(l.foldl (λ(x:Bool×Array Event) e=>match x with|(q,kept)=>match e.loc with
  | .mark (.extern f)=>(g f,kept)
  |_=>(q,if q&& !e.sync then kept else kept.push e)) (q,k)).2,e∈k\/e∈l:=by
  intro l;induction l with
  |nil=>exactλq k g e h=>.inl h
  |cons x l a=>
   intro q k g e h;simp only[ZL]at h;split at h
   .obtain h|h:=a _ _ _ _ h
    .exact .inl h
    .exact .inr (.tail _ h)
   .obtain h|h:=a _ _ _ _ h
    .split at h
     .exact .inl h
     .obtain h|rfl:=Y1.1 h
      .exact .inl h
      .exact .inr (.head _)
    .exact .inr (.tail _ h)
 intro e h;unfold seen at h;simp only[]at h;rw[<-Zh]at h;obtain h|h:=key _ _ _ _ e h;simp at h;simpa using h
def bq.eval(b:∀g,S.dU g=true->π g g){f F}(h:bq S π f F):EvR S π f.eval F.eval:=by
 intro x a;cases x with
 |tmp t=>simp only[Frame.eval];have c:=h.tmps.get t;rw[XC,XC];generalize f.tmps[t]? =u at*;generalize F.tmps[t]? =v at*;cases c with|none=>exact aD.tuple' .empty|some h=>exact h
 |const v=>exact pZ v a _ _
 |global g=>exact .ptr (.mk (b g a))
 |func f=>exact .func (.func f (by simpa[cW]using a)) rfl (λi x X h=>by simp at h) rfl (λi x X h=>by simp at h)
def bq.finish{f F}(h:bq S π f F){v V}(m:aD π v V):bq S π (f.finish v) (F.finish V):=by
 have a:=h.todo;obtain⟨fn,tmps,todo,defers,mode,kind,t⟩:=f;obtain⟨u,c,g,b,j,k,x⟩:=F;simp only[]at a;unfold Frame.finish;cases a with
 |nil=>exact h
 |cons n a=>
  cases n with
  |inRegion l q=>cases l with|nil=>exact h|cons i rest=>(have e:∀ops:Array Oper,((ops.map df)[i]?).bind (·.dst)=(ops[i]?).bind (·.dst):=λops=>by rw[Xd];cases ops[i]? with|none=>rfl|some o=>exact Cs o);simp only[e];refine{h with tmps:=?_,todo:=.cons (.inRegion rest q) a};split;exact h.tmps.set _ m;exact h.tmps
  |inRangeFunc r=>exact{h with todo:=.cons (.endRangeFunc r) a}
  |beginRound=>exact{h with todo:=a}
  |_=>exact h
def bq.marks{f F}(h:bq S π f F):Marks π f:=Pg h.defers
def Mr{f F}(h:bq S π f F){cs CS}(b:bw (bq S π) cs CS):∀g∈f::cs,Marks π g:=by intro g a;cases a with|head=>exact h.marks|tail _ a=>obtain⟨y,c⟩:=b.left g a;exact c.marks
def ug{f F}(h:bq S π f F){cs CS}(a:bw (bq S π) cs CS){w'}(c:Dp π w')(v es):kL P.globals.size C0 (.go ⟨f.raise [{v,recovered:=false}],cs++C0,.running,none,none⟩ w' es):=by (have i:=Mr h a;have e:f.raise [{v,recovered:=false}]={f with mode:=.panicking [{v,recovered:=false}]}:=by unfold Frame.raise;rcases h.calm with a|a<;>rw[a]);refine⟨π,cs,rfl,rfl,rfl,rfl,⟨_,by rw[e]⟩,λg b=>?_,c,λg b=>by obtain⟨y,j⟩:=a.left g b;exact j.calm⟩;cases b with|head=>rw[e];exact h.marks|tail _ b=>exact i g (.tail _ b)
def vL(n:Tab S P fs)(f:FuncId)(o:S.stop f=true\/S.ent f=true){a A}(b:S.stop f=true->a.size=1)(e:VsR π a A){cs}(h:cs≠[]):Mq S P fs π cs (Frame.enter (ai P fs) f a .normal) (Frame.enter P f A .normal):=by by_cases i:S.stop f=true;exact .inr ⟨h,f,a,A,i,⟨b i,e⟩,rfl,rfl⟩;have k:=o.resolve_left i;obtain⟨_,g,c,e1,m,_,q,j⟩:=n.ent f k;refine .inl ⟨rfl,k,?_,?_,.nil,rfl,.inl rfl,rfl,rfl,.none⟩;simp only[Frame.enter,show(ai P fs).funcs=fs from rfl,e1,m];rw[<-e.1];exact e.append (gn (jk _ (λ_ _=>aD.tuple' .empty)));simp only[Frame.enter,show(ai P fs).funcs=fs from rfl,e1,m,YI,q];exact .cons (.code j) .nil
def bq.Ph{f F}(h:bq S π f F):(∀d r s k,f.todo≠ .call d true r s::k)/\∀d r s k,F.todo≠ .call d true r s::k:=by have a:=h.todo;generalize f.todo=t at*;generalize F.todo=T at*;cases a with|nil=>exact⟨by simp,by simp⟩|cons b _=>cases b<;>exact⟨by simp,by simp⟩
def ly{p f es}(h:∀e∈es,mE Pr π e):∀e∈seen p f es++#[],mE Pr π e:=λe a=>h e (Gz p f es e (by simpa using a))
section applied
variable {p:Program} {fr:Frame} {cs:List Frame} {s:Sem Next} {es:Array Event} {D0 w₁:xv}
def xn{v}(h:s.runT p D0 #[]=(.ok (.value v) w₁,es))(a:fr.kind=.normal):stepG.apply p true fr cs none s D0=.go ⟨fr.finish v,cs,.running,none,none⟩ w₁ (seen p fr.fn es++#[]):=by simp only[stepG.apply,h,a,GStep.after,WL];rfl
def zt(h:s.runT p D0 #[]=(.ok .skip w₁,es))(a:fr.kind=.normal):stepG.apply p true fr cs none s D0=.go ⟨fr.finish undef,cs,.running,none,none⟩ w₁ (seen p fr.fn es++#[]):=by simp only[stepG.apply,h,a,GStep.after,WL];rfl
def xo{f a}(h:s.runT p D0 #[]=(.ok (.enter f a) w₁,es))(b:fr.kind=.normal)(c:∀d r s k,fr.todo≠ .call d true r s::k):stepG.apply p true fr cs none s D0=.go ⟨Frame.enter p f a .normal,fr::cs,.running,none,none⟩ w₁ (seen p fr.fn es++#[]):=by simp only[stepG.apply,h,b,GStep.after,WL];rw[Wt (by decide)]
def xp{l f t as body}(h:s.runT p D0 #[]=(.ok (.round l f t as body) w₁,es))(a:fr.kind=.normal):stepG.apply p true fr cs none s D0=.go ⟨Frame.round l f t as body .normal,fr::cs,.running,none,none⟩ w₁ (seen p fr.fn es++#[]):=by simp only[stepG.apply,h,a,GStep.after,WL];rfl
def GA{v}(h:s.runT p D0 #[]=(.halt (.panic v) w₁,es))(a:fr.kind=.normal):∃es',stepG.apply p true fr cs none s D0=.go ⟨fr.raise [{v,recovered:=false}],cs,.running,none,none⟩ w₁ es':=by simp only[stepG.apply,h,a,GStep.after,WL];exact⟨_,rfl⟩
def JM{x}(a:iA x)(b:∀v,x≠ .panic v)(h:s.runT p D0 #[]=(.halt x w₁,es)):∃o w es',stepG.apply p true fr cs none s D0=.ended o w es':=by
 cases x with
 |panic v=>exact absurd rfl (b v)
 |stuck=>simp only[stepG.apply,h,GStep.after,WL];exact⟨_,_,_,rfl⟩
 |unsupported u=>cases u with|initOrder=>exact a.elim|_=>simp only[stepG.apply,h,GStep.after,WL];exact⟨_,_,_,rfl⟩
 |_=>exact a.elim
end applied
def nt(N:Tab S P fs){f F}(h:bq S π f F){cs CS}(K:bw (bq S π) cs CS){s s'}(O:SR S (ai P fs) P (NQ S) π s s')(Q:bE S Pr π w W):dX S Pr P fs C0 (rb f::cs.map rb) π w W d (λw=>stepG.apply (ai P fs) true f (cs++C0) none s w) (λB=>stepG.apply P true F (CS++B) none s' W):=by obtain⟨L,k,R|⟨a,w',C,b,q,ev,π',r,m,U,u,j,y⟩⟩:=O.run (Pr:=Pr) w W #[] #[] d Q;refine⟨L,k,.inl λτ c=>?_⟩;obtain⟨x,w',C,e1,X,e3⟩:=R τ c;by_cases M:∃v,x=.panic v;obtain⟨v,rfl⟩:=M;obtain⟨n,e⟩:=GA (fr:=f) (cs:=cs++C0) e1 h.kind;simp only[e];exact ug h K e3 v n;obtain⟨o,w2,n,e⟩:=JM (fr:=f) (cs:=cs++C0) X (λv D=>M ⟨v,D⟩) e1;simp only[e];trivial;rw[XY]at m;have i:=K.mono λ_ _ x=>bq.mono j.le x;have z:=h.mono j.le;cases U with| @value v V D=>exact⟨L,k,.inr ⟨f.finish v,cs,w',_,F.finish V,CS,q,_,π',λτ c=>xn (r τ c) h.kind,λ_=>xn m h.Kind,u,j,ly y,i,.inl (z.finish D),by rw[nR];exact .inl rfl⟩⟩|skip=>exact⟨L,k,.inr ⟨f.finish undef,cs,w',_,F.finish undef,CS,q,_,π',λτ c=>zt (r τ c) h.kind,λ_=>zt m h.Kind,u,j,ly y,i,.inl (z.finish (aD.tuple' .empty)),by rw[nR];exact .inl rfl⟩⟩| @enter g a A E H I=>exact⟨L,k,.inr ⟨_,f::cs,w',_,_,F::CS,q,_,π',λτ c=>xo (r τ c) h.kind h.Ph.1,λ_=>xo m h.Kind h.Ph.2,u,j,ly y,.cons z i,vL N g E H I (by simp),.inr (.inl ⟨_,rfl⟩)⟩⟩| @round l LL g t T as body E Y J I Z=>refine⟨L,k,.inr ⟨_,f::cs,w',_,_,F::CS,q,_,π',λτ c=>xp (r τ c) h.kind,λ_=>xp m h.Kind,u,j,ly y,.cons z i,.inl ?_,.inr (.inl ⟨_,rfl⟩)⟩⟩;exact⟨rfl,E,J,.cons (.same I) (.cons .beginRound (.cons (.same Z) .nil)),.nil,rfl,.inl rfl,rfl,rfl,.some Y⟩
def JN(a){k K}(h:bw (gp S π) k K):et (bw (gp S π)) (exitTo a k) (exitTo a K):=by induction h with|nil=>exact .none| @cons x X k K c e b=>cases c with|inBlock i=>simp only[exitTo];split;exact .some e;exact b|_=>exact b
def Er(l):∀(b) (r),S.code b->findLabel b l=some r->S.code r:=by intro b;induction b with|seq a b g h=>intro r f c;simp only[Kn.code,codeOk,WI]at f;unfold findLabel at c;split at c;rename_i i e;cases c;have:=g i f.1 e;simp only[Kn.code,codeOk,WI];exact⟨this,f.2⟩;exact h r f.2 c|label j=>intro r f c;simp only[findLabel]at c;split at c;cases c;rfl;cases c|_=>intro r f c;simp[findLabel]at c
def JO(l){k K}(h:bw (gp S π) k K):et (bw (gp S π)) (gotoIn l k) (gotoIn l K):=by
 induction h with
 |nil=>exact .none
 | @cons x X k K f g a=>
  cases f with
  | @inScope b c=>simp only[gotoIn];cases e:findLabel b l with|none=>exact a|some r=>exact .some (.cons (.same (Er l b r c e)) (.cons (.inScope c) g))
  |_=>exact a
def GB{t T}(h:VsR π t T)(ops j):yielded ops t j=yielded ops T j:=by
 unfold yielded;cases(ops[j]?).bind (·.dst)with
 |none=>rfl
 |some d=>
  simp only[YI];have b:=h.get d;generalize t[d]? =u at*;generalize T[d]? =v at*;cases b with
  |none=>rfl
  | @some x y h=>
   cases h with
   |nE _ a=>cases y<;>first|rfl|(simp[eO]at a;done)
   |_=>rfl
def GC{l L}(h:π l L)(jump)(b:∀c,jump=some c->S.code c):SR S (ai P fs) P VQ π (Instr.endRound l jump) (Instr.endRound L jump):=by unfold Instr.endRound;refine(ma h).bind ?_;intro e f r R a;refine(fo (f _ _ h) (by simp) (.loop (l:={r with state:=if jump.isNone then .ready else .done,pending:=jump}) (L:={R with state:=if jump.isNone then .ready else .done,pending:=jump}) ⟨rfl,rfl,b,a.fn,a.ent,a.tmps,a.params,a.assign,a.Uk,a.body,a.Ul,a.defers⟩)).bind ?_;intro g i _ _ _;exact aj (.bool _)
def JP{l L}(h:π l L):SR S (ai P fs) P (λ_ a A=>a=A/\∀c,a=some c->S.code c) π (Instr.endLoop l) (Instr.endLoop L):=by unfold Instr.endLoop;refine(ma h).bind ?_;intro e f r R b;rw[<-b.state];refine dB (.never (aF (aH _))) ?_;refine(fo (f _ _ h) (by simp) (.loop (l:={r with state:=.exhausted}) (L:={R with state:=.exhausted}) {b with state:=rfl})).bind ?_;intro g i _ _ _;rw[<-b.pending];exact aj ⟨rfl,b.VN⟩
def Bh{l L}(h:π l L):SR S (ai P fs) P EqQ π (Instr.beginRound l) (Instr.beginRound L):=by unfold Instr.beginRound;refine(ma h).bind ?_;intro b c r R a;refine(fo (c _ _ h) (by simp) (.loop (l:={r with state:=.busy}) (L:={R with state:=.busy}) {a with state:=rfl})).bind ?_;intro e f _ _ _;rw[<-a.state];split;exact aj rfl;exact dH;exact dH;exact dH
def yb{r R}(h:π r R):SR S (ai P fs) P (λ_ a A=>a=[]/\A=[]) π (Instr.takeDeferred r) (Instr.takeDeferred R):=by unfold Instr.takeDeferred;refine(cZ h).bind ?_;intro b c o O e;cases e with|deferred=>refine(fo (c _ _ h) (by simp) .fv).bind ?_;intro f g _ _ _;exact aj ⟨rfl,rfl⟩|_=>exact aq
abbrev Tz(π:Ren P.globals.size):Nat×List Deferred->Nat×List Deferred->Prop:=λa A=>π a.1 A.1/\bw (rG π) a.2 A.2
def Es{fn:FuncId}(j:S.ent fn=true){t T}(k:VsR π t T)(params){as body}(m:S.code as)(n:S.code body){o u}(b:et (λl L=>π l L) o u):SR S (ai P fs) P (λπ' a A=>Tz π' a A) π (Instr.enterLoop fn t params as body o) (Instr.enterLoop fn T params as body u):=by unfold Instr.enterLoop;cases b with|none=>refine(iT .deferred).bind ?_;intro e f r R b;refine(iT (.loop (l:=⟨.ready,none,fn,t,params,as,body,r⟩) (L:=⟨.ready,none,fn,T,params,as,body,R⟩) ⟨rfl,rfl,(λc h=>by cases h),rfl,j,VsR.mono f k,rfl,rfl,m,rfl,n,b⟩)).bind ?_;intro g v q Q i;exact aj ⟨i,.cons (.mk (v _ _ b)) .nil⟩|some x=>refine(ma x).bind ?_;intro e f r R b;refine(iT (.loop (l:=⟨.ready,none,fn,t,params,as,body,r.defers⟩) (L:=⟨.ready,none,fn,T,params,as,body,R.defers⟩) ⟨rfl,rfl,(λc h=>by cases h),rfl,j,VsR.mono f k,rfl,rfl,m,rfl,n,b.defers⟩)).bind ?_;intro g v q Q i;exact aj ⟨i,.nil⟩
def JQ{c:Type}{f F:c->Sem x6}(xs:Array c)(h:∀(π'),Ren.le π π'->∀x,SR S (ai P fs) P VQ π' (f x) (F x)):SR S (ai P fs) P VsQ π (xs.mapM f) (xs.mapM F):=by (obtain⟨l⟩:=xs;simp only[List.mapM_toArray];have key:∀(l:List c) (π':Ren P.globals.size),Ren.le π π'->SR S (ai P fs) P (λb a A=>bw (aD b) a A) π' (l.mapM f) (l.mapM F):=by intro l;induction l with|nil=>intro π' e;simp only[List.mapM_nil];exact aj .nil|cons x l i=>intro π' e;simp only[List.mapM_cons];refine(h π' e x).bind ?_;intro b j v V k;refine(i b (Ren.le_trans e j)).bind ?_;intro m n o q g;exact aj (.cons (k.mono n) g));exact OJ (key l π (Ren.le_refl _)) λπ' a A h=>h.toArray
def sX(g){t T}(h:VsR π t T):SR S (ai P fs) P VQ π (results g t) (results g T):=by (unfold results;have e:∀{π':Ren P.globals.size},Ren.le π π'->∀i,aD π' (t.getD i undef) (T.getD i undef):=by intro π' l i;have j:=(VsR.mono l h).get i;rw[XC,XC];generalize t[i]? =u at*;generalize T[i]? =v at*;cases j with|none=>exact aD.tuple' .empty|some h=>exact h);refine(JQ g.results λπ' l x=>?_).bind ?_;(cases x with|tmp i=>exact aj (e l i)|cell a t=>refine(B9 (e l a)).bind ?_;intro k q a A m;exact yL t m);intro n r o y b;refine aj ?_;have f:=b.1;by_cases c:o.size=1;rw[Yw c,Yw (f▸c)];exact b.2 0 _ _ (W4 _) (W4 _);rw[dif_neg c,dif_neg (f▸c)];exact aD.tuple' b
end
end Go.Tm

import Derived.Test.YtaglpcmhopjebaaGreatDoorY4
set_option linter.all false
set_option maxRecDepth 100000
set_option maxHeartbeats 20000000
namespace Go.Tm
section
variable {S:Kn} {P:Program} {fs:Array Func} {π:Ren P.globals.size}
def xS(c f e:TypeId){x X:Value}(a:az π x X):(SR S (ah P fs) P) VQ π (do match <-underlying e with
 | .int .u8=>Conv.bytesToString x
 | .int .i32=>Conv.runesToString x
 |_=>stuck "Convert: a slice of what to string?") (do match <-underlying e with
 | .int .u8=>Conv.bytesToString X
 | .int .i32=>Conv.runesToString X
 |_=>stuck "Convert: a slice of what to string?"):=by
 refine(aD e).bind ?_;rintro g b d _ ⟨rfl,_⟩;split
 ·exact sT (a.mono b)
 ·exact sU (a.mono b)
 ·exact aq
def xT(e:TypeId){s:ByteArray}:(SR S (ah P fs) P) VQ π (do match <-underlying e with
 | .int .u8=>Conv.stringToBytes e s
 | .int .i32=>Conv.stringToRunes e s
 |_=>stuck "Convert: string to a slice of what?") (do match <-underlying e with
 | .int .u8=>Conv.stringToBytes e s
 | .int .i32=>Conv.stringToRunes e s
 |_=>stuck "Convert: string to a slice of what?"):=by
 refine(aD e).bind ?_;rintro a b d _ ⟨rfl,_⟩;split
 ·exact sR _ _
 ·exact sS _ _
 ·exact aq
def pq(b c e:TypeId){a A:Addr}{x X:Value}(f:aP π a A)(g:az π x X):(SR S (ah P fs) P) VQ π (do match b==c,<-underlying e with
 |true,.int .u8=>do markStringish a;pure x
 |_,_=>unsupported (.noEntry "convert/other")) (do match b==c,<-underlying e with
 |true,.int .u8=>do markStringish A;pure X
 |_,_=>unsupported (.noEntry "convert/other")):=by
 refine(aD _).bind ?_;rintro h d e _ ⟨rfl,_⟩;split
 ·refine(lX (f.mono d)).bind ?_
  intro i j _ _ _;exact ai ((g.mono d).mono j)
 ·exact aE
def ri(s d):dJ (Conv.unsafePointer s d (.tuple #[])):=by unfold Conv.unsafePointer;refine bz (da s) λa=>?_;refine bz (da d) λb=>?_;cases a<;>cases b<;>exact dk _
def pY(c f):dJ (convert c f (.tuple #[])):=by
 unfold convert;refine bz (da c) λa=>?_;refine bz (da f) λb=>?_;have key:∀e,dJ (do match <-underlying e with
  | .int .u8=>Conv.bytesToString (.tuple #[])
  | .int .i32=>Conv.runesToString (.tuple #[])
  |_=>stuck "Convert: a slice of what to string?"):=λe=>by
  refine bz (da e) λd=>?_;split<;>exact dk _
 cases a<;>cases b<;>first|exact key _|exact ri _ _|(refine bF _ ?_;exact True.intro)
def E6(b c){x X}(f:az π x X):(SR S (ah P fs) P) VQ π (convert b c x) (convert b c X):=by
 by_cases j:x=.tuple #[]
 ·rw[j];exact .never (pY _ _)
 unfold convert;refine(aD b).bind ?_;rintro t u _ s ⟨rfl,v⟩;clear v;refine(aD c).bind ?_;rintro w y _ d ⟨rfl,z⟩;clear z;have f:=(f.mono u).mono y;have a:=f;cases f<;>(try exact absurd rfl j)<;>split<;>first
  |contradiction
  |exact aE
  |exact ai (.int _ _)
  |exact ai (.float _ _)
  |exact(sP _ _ _).sr
  |exact(eE _ _ _).sr
  |exact(mJ _ _ _ _).sr
  |exact ai (.string _)
  |exact xT _
  |exact fF _ _ a
  |exact xS b c _ a
  |exact pq b c _ (by assumption) a
  |(rename_i d1 d2 d3 k l m n o p q r g;cases d1<;>exact fF _ _ a)
  |(rename_i d1 d2 d3 k l m n o p q r g h e i;cases d1<;>first|contradiction|exact fF _ _ a|exact(i rfl).elim|exact(e rfl).elim|exact(h rfl).elim)
  |(rename_i d1 d2 d3 k l m n o p q r g h e;cases d1<;>first|contradiction|exact fF _ _ a|exact(e rfl).elim|exact(h rfl).elim|exact(g rfl).elim)
  |(injections;subst_vars;exact pq b c _ (by assumption) a)
  |(injections;done)
  |skip
def vO{x X}(h:az π x X):(SR S (ah P fs) P) EqQ π (Builtin.lenOf x) (Builtin.lenOf X):=by cases h<;>first|exact ai rfl|exact aq
def lE(size n){x X}(h:az π x X):(SR S (ah P fs) P) VsQ π (Builtin.firstCells size n x) (Builtin.firstCells size n X):=by
 cases h with
 |slice l c h=>exact jK h _
 |js=>exact ai .empty
 |string=>exact ai (fe (pn _))
 |_=>exact aq
def kP{z}(h:bf z)(n):bf (Builtin.zeroCells z n):=h.spread _ _
def tK(b:du P)(a e size n){x X}(h:az π x X):
 (SR S (ah P fs) P) VsQ π (if !a then Builtin.firstCells size n x else if n*size=0 then pure #[]else do pure (Builtin.zeroCells (<-zeroValue e).cells n)) (if !a then Builtin.firstCells size n X else if n*size=0 then pure #[]else do pure (Builtin.zeroCells (<-zeroValue e).cells n)):=by
 refine cg (lE _ _ h) (cg (ai .empty) ?_);refine(dW b e).bind ?_;rintro c f z _ ⟨rfl,d⟩;exact ai (fe (kP d.cells _))
def Oq(a1 t){x X}(h:VsR π x X):(SR S (ah P fs) P) VQ π (Builtin.len_ a1 t x) (Builtin.len_ a1 t X):=by
 unfold Builtin.len_;have j:=h.get 0;generalize x[0]? =u at*;generalize X[0]? =v at*;cases a1[0]? with
 |none=>exact aq
 |some k=>
 cases j with
 |none=>exact aq
 | @some x X a=>
 simp only[];refine(aD k).bind ?_;rintro l m d _ ⟨rfl,g⟩;clear g;have a:=a.mono m;cases d with
 |string=>cases a<;>first|exact ai (.int _ _)|exact aq
 |array=>cases a<;>exact ai (.int _ _)
 |pointer=>
  cases a<;>
  ·refine(aD _).bind ?_
   rintro b i d _ ⟨rfl,g⟩;cases d<;>first|exact aq|exact ai (.int _ _)
 |slice=>cases a<;>first|exact ai (.int _ _)|exact aq
 |map=>
  cases a<;>first|exact ai (.int _ _)|exact aq|skip
  rename_i r R c;refine(cE c).bind ?_;intro b i o O e;cases e with
  |map n f=>simp only[];rw[f.1];exact ai (.int _ _)
  |_=>exact aq
 |chan=>
  cases a<;>first|exact ai (.int _ _)|exact aq|skip
  rename_i r R c;refine(cE c).bind ?_;intro b i o O e;cases e<;>exact aq
 |_=>cases a<;>exact aq
def Ot(a1 t){x X}(h:VsR π x X):(SR S (ah P fs) P) VQ π (Builtin.cap_ a1 t x) (Builtin.cap_ a1 t X):=by
 unfold Builtin.cap_;have e:=h.get 0;generalize x[0]? =u at*;generalize X[0]? =v at*;cases a1[0]? with
 |none=>exact aq
 |some f=>
 cases e with
 |none=>exact aq
 | @some x X a=>
 simp only[];refine(aD f).bind ?_;rintro g i d _ ⟨rfl,c⟩;clear c;have a:=a.mono i;cases d with
 |array=>cases a<;>exact ai (.int _ _)
 |pointer=>
  cases a<;>
  ·refine(aD _).bind ?_
   rintro b j d _ ⟨rfl,c⟩;cases d<;>first|exact aq|exact ai (.int _ _)
 |slice=>cases a<;>first|exact ai (.int _ _)|exact aq
 |chan=>
  cases a<;>first|exact ai (.int _ _)|exact aq|skip
  rename_i r R k;refine(cE k).bind ?_;intro b j o O l;cases l<;>exact aq
 |_=>cases a<;>exact aq
def MQ(a1 t){x X}(h:VsR π x X):(SR S (ah P fs) P) VQ π (Builtin.copy_ a1 t x) (Builtin.copy_ a1 t X):=by
 unfold Builtin.copy_;have y:=h.get 0;have g:=h.get 1;generalize x[0]? =u at*;generalize X[0]? =v at*;generalize x[1]? =L at*;generalize X[1]? =v1 at*;cases a1[0]? with
 |none=>exact aq
 |some A=>
 cases y with
 |none=>exact aq
 | @some d D i=>
 cases g with
 |none=>exact aq
 | @some s p q=>
 simp only[];refine(aD A).bind ?_;rintro f j C _ ⟨rfl,k⟩;clear k;cases C<;>first|exact aq|skip
 rename_i e;simp only[];have i:=i.mono j;have key:∀{b B:Option Addr} (l:Nat),dO (aP f) b B->(SR S (ah P fs) P) VQ f (do
  let n:=Nat.min (<-Builtin.lenOf s) l;let cells <-Builtin.firstCells (<-sizeOf e) n s
  if let some a:=b then storeCells a cells.toList
  pure (goInt n)) (do
  let n:=Nat.min (<-Builtin.lenOf p) l;let cells <-Builtin.firstCells (<-sizeOf e) n p
  if let some a:=B then storeCells a cells.toList
  pure (goInt n)):=by
  intro b B l m;refine(vO (q.mono j)).bind ?_;rintro E r n _ rfl;refine(bG e).bind ?_;rintro F w z _ rfl;refine(lE _ _ (((q.mono j).mono r).mono w)).bind ?_;intro G H M N I;have m:=m.mono λ_ _ x=>aP.mono (Ren.le_trans r (Ren.le_trans w H)) x;cases m with
  |none=>exact ai (.int _ _)
  |some o=>refine(lp 0 o I.toList).bind ?_;intro J O _ _ _;exact ai (.int _ _)
 cases i with
 |js=>exact key _ .none
 |slice l c K=>exact key _ (.some K)
 |_=>exact aq
def rm(d a b x y):(SR S (ah P fs) P) VQ π (do pure (.string (if <-asBool (<-Op.stringOp d a b)then x else y))) (do pure (.string (if <-asBool (<-Op.stringOp d a b)then x else y))):=by refine(pb d a b).sr.bind ?_;intro e h v V f;refine(yD f).bind ?_;rintro g i c _ rfl;exact ai (.string _)
def MR{x X y Y}(a:az π x X)(b:az π y Y):(SR S (ah P fs) P) VQ π (Builtin.min2 x y) (Builtin.min2 X Y):=by
 cases a<;>cases b<;>first
  |exact aq
  |exact aE
  |exact ai (.int _ _)
  |exact rm _ _ _ _ _
  |skip
 unfold Builtin.min2;simp only[];split<;>first|exact ai (.float _ _)|skip
 refine(en _).bind ?_;rintro c d n _ rfl;exact ai (.float _ _)
def MS{x X y Y}(a:az π x X)(b:az π y Y):(SR S (ah P fs) P) VQ π (Builtin.max2 x y) (Builtin.max2 X Y):=by
 cases a<;>cases b<;>first
  |exact aq
  |exact aE
  |exact ai (.int _ _)
  |exact rm _ _ _ _ _
  |skip
 unfold Builtin.max2;simp only[];split<;>first|exact ai (.float _ _)|skip
 refine(en _).bind ?_;rintro c d n _ rfl;exact ai (.float _ _)
def yP{f:Value->Value->Sem Value}(d:∀{π:Ren P.globals.size} {x X y Y},az π x X->az π y Y->(SR S (ah P fs) P) VQ π (f x y) (f X Y)){l L}:∀{π:Ren P.globals.size} {x X},bg (az π) l L->az π x X->(SR S (ah P fs) P) VQ π (l.foldlM f x) (L.foldlM f X):=by
 induction l generalizing L with
 |nil=>intro π x X b c;cases b;exact ai c
 |cons a l e=>
  intro π x X b c;cases b with
  |cons h b=>simp only[List.foldlM_cons];refine(d c h).bind ?_;intro g i v V j;exact e (b.mono λ_ _ x=>x.mono i) j
def Ou(a1 t){x X}(h:VsR π x X):(SR S (ah P fs) P) VQ π (Builtin.min_ a1 t x) (Builtin.min_ a1 t X):=by
 unfold Builtin.min_;have a:=h.toList;generalize x.toList=l at*;generalize X.toList=L at*;cases a with
 |nil=>exact aq
 |cons h a=>exact yP MR a h
def Ov(a1 t){x X}(h:VsR π x X):(SR S (ah P fs) P) VQ π (Builtin.max_ a1 t x) (Builtin.max_ a1 t X):=by
 unfold Builtin.max_;have a:=h.toList;generalize x.toList=l at*;generalize X.toList=L at*;cases a with
 |nil=>exact aq
 |cons h a=>exact yP MS a h
def Ao(n):∀{π:Ren P.globals.size} {a A} (acc),aP π a A->(SR S (ah P fs) P) EqQ π (loadBytes a acc n) (loadBytes A acc n):=by
 induction n with
 |zero=>intro π a A acc h;exact ai rfl
 |succ n b=>
  intro π a A acc h;unfold loadBytes;refine(qG h).bind ?_;intro c d v V e;cases e with
  |int k n=>cases k<;>first|exact b _ ((h.mono d).add 1)|exact aq
  |_=>exact aq
def uz(a1 t){x X}(h:VsR π x X):(SR S (ah P fs) P) VQ π (Builtin.unsafeString_ a1 t x) (Builtin.unsafeString_ a1 t X):=by
 have a:=h.toList;obtain⟨x⟩:=x;obtain⟨X⟩:=X;simp only[]at a;cases a with
 |nil=>exact aq
 |cons j a=>
 cases a with
 |nil=>exact aq
 |cons g a=>
 cases a with
 |cons _ _=>exact .never (by unfold Builtin.unsafeString_;exact dk _)
 |nil=>
 have key:∀{p Q:Option Addr},dO (aP π) p Q->∀{y Y:Value},az π y Y->(SR S (ah P fs) P) VQ π (Builtin.unsafeString_ a1 t #[.pointer p,y]) (Builtin.unsafeString_ a1 t #[.pointer Q,Y]):=by
  intro p Q c y Y k;unfold Builtin.unsafeString_;refine(jd k).bind ?_;rintro l m n _ rfl;have c:=c.mono λ_ _ x=>aP.mono m x;cases a1[0]? with
  |none=>exact aq
  |some o=>
  simp only[];split
  ·exact .never (aA (aG _))
  ·split
   ·exact .never (aA (.halt _))
   ·cases c with
    |none=>exact cg (ai (.string _)) db
    |some d=>refine cg (ai (.string _)) ?_;refine(yB o).bind ?_;rintro q f e _ rfl;refine(nN (d.mono f) _ _).bind ?_;rintro r i b _ rfl;refine cg ?_ aE;refine(Ao _ _ ((d.mono f).mono i)).bind ?_;rintro u v s _ rfl;refine(yM (((d.mono f).mono i).mono v) _).bind ?_;intro w A _ _ _;exact ai (.string _)
 cases j with
 |G3=>exact key .none g
 |ptr z=>exact key (.some z) g
 |_=>exact aq
def Ap(t c){a A}(b:aP π a A):(SR S (ah P fs) P) VQ π (if c≠0 then pure (.pointer (some a))
 else do if(<-viewAt a.block).isSome then pure (.pointer (some a))else do let e <-elemOf t;pure (.pointer (some ⟨<-newObj (.view a e),0,none⟩)))
 (if c≠0 then pure (.pointer (some A))
 else do if(<-viewAt A.block).isSome then pure (.pointer (some A))else do let e <-elemOf t;pure (.pointer (some ⟨<-newObj (.view A e),0,none⟩))):=by
 refine cg (ai (.ptr b)) ?_;have d:=b;cases b with
 |mk b=>
 refine(oG b).bind ?_;intro h g u v f;rw[kJ f];refine cg (ai (.ptr (d.mono g))) ?_;refine(yB t).bind ?_;rintro i j e _ rfl;exact pX ((d.mono g).mono j) e
def pZ(a1 t){x X}(h:VsR π x X):(SR S (ah P fs) P) VQ π (Builtin.unsafeSliceData_ a1 t x) (Builtin.unsafeSliceData_ a1 t X):=by
 have a:=h.toList;obtain⟨x⟩:=x;obtain⟨X⟩:=X;simp only[]at a;cases a with
 |nil=>exact aq
 |cons b a=>
 cases a with
 |cons _ _=>exact aq
 |nil=>
 cases b with
 |js=>exact ai .G3
 |slice l c d=>exact Ap t c d
 |_=>exact aq
def uA(a n):cP (Builtin.holdsCells a n):=by unfold Builtin.holdsCells;(repeat' (first|with_reducible exact cP.unsupported _ (by with_unfolding_all exact True.intro)|with_reducible first|exact cP.stuck _|exact cP.pure _|exact cP.program|exact cP.choose _|exact cP.shape _|exact cP.frozen _|exact cP.mark _|exact cP.newObj _|exact cP.sys _|assumption|refine cP.ite ?_ ?_|refine cP.bind ?_ λ_=>?_|dsimp only|split))
def xU(a b c x y):cP (Builtin.mayShare a b c x y):=by unfold Builtin.mayShare;repeat' (first|exact uA _ _|with_reducible first|exact cP.pure _|exact cP.frozen _|refine cP.ite ?_ ?_|refine cP.bind ?_ λ_=>?_|dsimp only|split)
def oL{a c}[Decidable c]{s t:Sem a}(h:dJ s)(b:dJ t):dJ (if c then s else t):=by split<;>assumption
def az.Qa{G}{ρ:Ren G}{b B}(h:dO (aP ρ) b B)(l c):az ρ (.slice b l c) (.slice B l c):=by
 cases h with
 |none=>exact .js _ _
 |some h=>exact .slice _ _ h
def Ih(H:du P)(a1 t){x X}(h:VsR π x X):(SR S (ah P fs) P) VQ π (Builtin.append_ a1 t x) (Builtin.append_ a1 t X):=by
 unfold Builtin.append_;have hg:=h.get 0;have ak:=h.get 1;generalize x[0]? =u at*;generalize X[0]? =v at*;generalize x[1]? =u1 at*;generalize X[1]? =v1 at*;cases a1[0]? with
 |none=>exact aq
 |some t0=>
 cases hg with
 |none=>exact aq
 | @some d D hd=>
 cases ak with
 |none=>exact aq
 | @some s S g=>
 refine(aD t0).bind ?_;rintro al l1 dd _ ⟨rfl,an⟩;clear an;cases dd<;>first|exact aq|skip
 rename_i e;have hd:=hd.mono l1;have g:=g.mono l1;generalize a1[1]? =x1;have Q:(∃b B l c,d=.slice b l c/\D=.slice B l c/\dO (aP al) b B)\/∀b l c,d≠ .slice b l c:=by cases hd<;>first|exact .inl ⟨_,_,_,_,rfl,rfl,.none⟩|exact .inl ⟨_,_,_,_,rfl,rfl,.some (by assumption)⟩|exact .inr (by simp)
 obtain⟨b,B,l,c,rfl,rfl,j⟩|hno:=Q
 ·refine(bG e).bind ?_
  rintro a6 l2 size _ rfl;have g:=g.mono l2;have j:=j.mono λ_ _ x=>aP.mono l2 x;cases x1 with
  |none=>
   refine(vO g).bind ?_;rintro ao R n _ rfl;have g:=g.mono R;have j:=j.mono λ_ _ x=>aP.mono R x;refine cg ?_ ?_
   ·refine(tK H _ e size _ g).bind ?_
    intro q r T U w;have y:=j.mono λ_ _ x=>aP.mono r x;cases y with
    |none=>exact ai (.js _ _)
    |some I=>refine(lp 0 (I.add _) w.toList).bind ?_;intro J C _ _ _;exact ai (.slice _ _ (I.mono C))
   ·refine(dj e).bind ?_
    rintro q r i _ ⟨rfl,_⟩;refine cg (.never (aA (aG _))) ?_;refine(dj e).bind ?_;rintro V W i2 _ ⟨rfl,_⟩;refine cg (.never (aA (oL (aG _) (bz (xU _ _ _ _ _) λ_=>oL (bz (.mark _) λ_=>.halt _) (.halt _))))) ?_;refine(en _).bind ?_;rintro Y Z p _ rfl;refine(dj e).bind ?_;rintro aa l9 i3 _ ⟨rfl,_⟩;refine(pP _).bind ?_;intro K E _ _ _;have f:=Ren.le_trans r (Ren.le_trans W (Ren.le_trans Z (Ren.le_trans l9 E)));refine(lE _ _ (az.Qa (j.mono λ_ _ x=>aP.mono f x) l c)).bind ?_;intro L F old ab k;refine(tK H _ e size _ ((g.mono f).mono F)).bind ?_;intro M G T U w;refine(dW H e).bind ?_;rintro N o z _ ⟨rfl,hp⟩;refine(iD e (((VsR.mono o (VsR.mono G k)).append (VsR.mono o w)).append (fe (kP hp.cells _)))).bind ?_;intro O ad a A ha;exact ai (.slice _ _ ha)
  |some t1=>
   refine(aD t1).bind ?_;rintro ao R d1 _ ⟨rfl,_⟩;have g:=g.mono R;have j:=j.mono λ_ _ x=>aP.mono R x;refine SR.bind (Q₁:=EqQ) (ai rfl) ?_;rintro a7 l4 ar _ rfl;have g:=g.mono l4;have j:=j.mono λ_ _ x=>aP.mono l4 x;refine cg ?_ ?_
   ·refine(jd g).bind ?_
    rintro ax l5 m _ rfl;refine cg (.never (aA (aG _))) ?_;refine(dj e).bind ?_;rintro ay af i _ ⟨rfl,_⟩;refine cg (.never (bz (.choose _) λ_=>aA (aG _))) ?_;refine SR.bind (Q₁:=EqQ) (ai rfl) ?_;rintro aM ag n _ rfl;have g:=((g.mono l5).mono af).mono ag;have j:=j.mono λ_ _ x=>((aP.mono l5 x).mono af).mono ag;refine cg ?_ ?_
    ·refine(tK H _ e size _ g).bind ?_
     intro q r T U w;have y:=j.mono λ_ _ x=>aP.mono r x;cases y with
     |none=>exact ai (.js _ _)
     |some I=>refine(lp 0 (I.add _) w.toList).bind ?_;intro J C _ _ _;exact ai (.slice _ _ (I.mono C))
    ·refine(dj e).bind ?_
     rintro q r i _ ⟨rfl,_⟩;refine cg (.never (aA (aG _))) ?_;refine(dj e).bind ?_;rintro V W i2 _ ⟨rfl,_⟩;refine cg (.never (aA (oL (aG _) (bz (xU _ _ _ _ _) λ_=>oL (bz (.mark _) λ_=>.halt _) (.halt _))))) ?_;refine(en _).bind ?_;rintro Y Z p _ rfl;refine(dj e).bind ?_;rintro aa l9 i3 _ ⟨rfl,_⟩;refine(pP _).bind ?_;intro K E _ _ _;have f:=Ren.le_trans r (Ren.le_trans W (Ren.le_trans Z (Ren.le_trans l9 E)));refine(lE _ _ (az.Qa (j.mono λ_ _ x=>aP.mono f x) l c)).bind ?_;intro L F old ab k;refine(tK H _ e size _ ((g.mono f).mono F)).bind ?_;intro M G T U w;refine(dW H e).bind ?_;rintro N o z _ ⟨rfl,hp⟩;refine(iD e (((VsR.mono o (VsR.mono G k)).append (VsR.mono o w)).append (fe (kP hp.cells _)))).bind ?_;intro O ad a A ha;exact ai (.slice _ _ ha)
   ·refine(vO g).bind ?_
    rintro ax l5 n _ rfl;have g:=g.mono l5;have j:=j.mono λ_ _ x=>aP.mono l5 x;refine cg ?_ ?_
    ·refine(tK H _ e size _ g).bind ?_
     intro q r T U w;have y:=j.mono λ_ _ x=>aP.mono r x;cases y with
     |none=>exact ai (.js _ _)
     |some I=>refine(lp 0 (I.add _) w.toList).bind ?_;intro J C _ _ _;exact ai (.slice _ _ (I.mono C))
    ·refine(dj e).bind ?_
     rintro q r i _ ⟨rfl,_⟩;refine cg (.never (aA (aG _))) ?_;refine(dj e).bind ?_;rintro V W i2 _ ⟨rfl,_⟩;refine cg (.never (aA (oL (aG _) (bz (xU _ _ _ _ _) λ_=>oL (bz (.mark _) λ_=>.halt _) (.halt _))))) ?_;refine(en _).bind ?_;rintro Y Z p _ rfl;refine(dj e).bind ?_;rintro aa l9 i3 _ ⟨rfl,_⟩;refine(pP _).bind ?_;intro K E _ _ _;have f:=Ren.le_trans r (Ren.le_trans W (Ren.le_trans Z (Ren.le_trans l9 E)));refine(lE _ _ (az.Qa (j.mono λ_ _ x=>aP.mono f x) l c)).bind ?_;intro L F old ab k;refine(tK H _ e size _ ((g.mono f).mono F)).bind ?_;intro M G T U w;refine(dW H e).bind ?_;rintro N o z _ ⟨rfl,hp⟩;refine(iD e (((VsR.mono o (VsR.mono G k)).append (VsR.mono o w)).append (fe (kP hp.cells _)))).bind ?_;intro O ad a A ha;exact ai (.slice _ _ ha)
 ·cases d<;>first|exact aq|exact absurd rfl (hno _ _ _)
end
end Go.Tm

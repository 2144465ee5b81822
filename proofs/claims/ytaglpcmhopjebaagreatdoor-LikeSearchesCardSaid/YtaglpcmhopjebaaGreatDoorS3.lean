import Derived.ProofKit
import Derived.Test.YtaglpcmhopjebaaGreatDoorS2
set_option linter.all false
set_option maxRecDepth 100000
set_option maxHeartbeats 20000000
namespace Go.Tm
section
variable {S:Kn} {P:Program} {fs:Array Func} {π:Ren P.globals.size} {G:Nat} {ρ:Ren G}
def oK(b n):∀{π:Ren P.globals.size} (t) {x X},az π x X->(SR S (ai P fs) P) EqQ π (Instr.checkKey b n t x) (Instr.checkKey b n t X):=by
 induction n with
 |zero=>intros;exact aC
 |succ n m=>
  intro π t x X h;unfold Instr.checkKey;refine(aA t).bind ?_;rintro j y d _ ⟨rfl,A⟩;clear A;have h:=h.mono y;cases d with
  |interface L=>(cases h<;>first|exact aq|exact aj rfl|skip);rename_i B v V D;simp only[];refine(dx B).bind ?_;rintro E F i _ ⟨rfl,_⟩;split;split;exact .never (aB (aF _));exact .never (bF (rH _) λ_=>aB (aF _));exact m _ (D.mono F)
  |array len e=>(cases h<;>first|exact aq|skip);(rename_i c C o p;have a:VsR j c C:=⟨o,p⟩);simp only[WI];refine SR.bind (R1:=EqQ) (iV _ _ λg k f s=>?_) ?_;refine(bH _).bind ?_;rintro H I z _ rfl;refine(gz _ _ (VsR.mono I (VsR.mono k a))).bind ?_;intro q J u U r;refine(m _ r).bind ?_;rintro w K b _ _;exact aj rfl;rintro g k s _ rfl;exact aj rfl
  |struct l=>(cases h<;>first|exact aq|skip);(rename_i c C o p;have a:VsR j c C:=⟨o,p⟩);simp only[];rw[<-UW,<-UW];refine SR.bind (R1:=EqQ) (iV _ _ λg k f s=>?_) ?_;refine cZ ?_ (aj rfl);refine(gz _ _ (VsR.mono k a)).bind ?_;intro q J u U r;refine(m _ r).bind ?_;rintro w K b _ _;exact aj rfl;rintro g k s _ rfl;exact aj rfl
  |_=>cases h<;>exact aj rfl
abbrev BT{G}(π:Ren G):Nat×Value->Nat×Value->Prop:=λa b=>a.1=b.1/\az π a.2 b.2
def uG(k){x X y Y}(a:az ρ x X)(b:az ρ y Y)(c:x≠ .tuple #[])(d:y≠ .tuple #[]):Instr.sameNow k x y=Instr.sameNow k X Y:=by cases a<;>(try exact absurd rfl c)<;>cases b<;>(try exact absurd rfl d)<;>first|rfl|(cases k<;>rfl)
def JO(k y):Instr.sameNow k (.tuple #[]) y=none:=by cases k<;>rfl
def JP(k x):Instr.sameNow k x (.tuple #[])=none:=by cases k<;>cases x<;>rfl
def D5(k){x X}(d:az ρ x X){l L}(f:bj (iN ρ) l L):∀i,dM (dM (BT ρ)) (Instr.findNow k x l i) (Instr.findNow k X L i)\/Instr.findNow k x l i=none:=by induction f with|nil=>intro i;exact .inl (.some .none)| @cons e E l L a _ g=>intro i;unfold Instr.findNow;by_cases b:x=.tuple #[];rw[b,JO];exact .inr rfl;by_cases c:e.key=.tuple #[];rw[c,JP];exact .inr rfl;rw[uG k d a.key b c];split;exact .inl (.some (.some ⟨rfl,a.val⟩));exact g _;exact .inl .none
def D6(t){d}(c:P.underlying t=some d){x y b}(h:Instr.sameNow d x y=some b){a g Q}{f:Bool->Sem a}{s':Sem g}(i:(SR S (ai P fs) P) Q π (f b) s'):(SR S (ai P fs) P) Q π (Op.equal t x y>>= f) s':=by
 have e:∃k:Program->Sem a,(Op.equal t x y>>= f)=.program k/\k (ai P fs)=f b:=by
  unfold Op.equal Op.maxDepth Op.equalIn underlying;refine⟨_,rfl,?_⟩;simp only[Sem.bind,jL,c,Pure.pure];cases d<;>cases x<;>first
   |(simp[Instr.sameNow]at h;done)
   |(cases y<;>first
    |(simp[Instr.sameNow]at h;done)
    |(simp only[Instr.sameNow,Ug]at h;subst h;simp only[Sem.bind,Pure.pure])
    |(simp only[Instr.sameNow]at h;split at h
      .rename_i j;simp only[Ug]at h;subst h;subst j;simp only[Sem.bind,Pure.pure,TK]
      .cases h))
 obtain⟨k,e1,l⟩:=e;rw[e1];refine .kH ?_;rw[l];exact i
def JQ(t){d}(n:P.underlying t=some d){x X}(o:az π x X){l L}(p:bj (iN π) l L):∀(i) (r),Instr.findNow d X L i=some r->(SR S (ai P fs) P) (λc a b=>dM (BT c) a b) π (Instr.findAsking t x l i) (pure r):=by induction p with|nil=>intro i r h;simp only[Instr.findNow,Ug]at h;subst h;exact aj .none| @cons e E l L f _ q=>intro i r h;unfold Instr.findAsking;unfold Instr.findNow at h;by_cases g:x=.tuple #[];rw[g];exact .never (aB (lZ _ _));by_cases j:e.key=.tuple #[];rw[j];exact .never (aB (ma _ _));have k:=uG d o f.key g j;cases m:Instr.sameNow d X E.key with|none=>rw[m]at h;cases h|some b=>rw[m]at h k;refine D6 t n k ?_;cases b with|true=>simp only[Ug]at h;subst h;exact aj (.some ⟨rfl,f.val⟩)|false=>exact q _ _ h
def qo(t){l L}:∀{π:Ren P.globals.size} {x X} (i),az π x X->bj (iN π) l L->(SR S (ai P fs) P) (λd a b=>dM (BT d) a b) π (Instr.findAsking t x l i) (Instr.findAsking t X L i):=by induction l generalizing L with|nil=>intro π x X i f c;cases c;exact aj .none|cons e l j=>intro π x X i f c;cases c with|cons h c=>unfold Instr.findAsking;refine(wR t f h.key).bind ?_;rintro k g b _ rfl;refine cZ (aj (.some ⟨rfl,h.val.mono g⟩)) ?_;exact j _ (f.mono g) (c.mono λ_ _ x=>iN.mono g x)
def ri(t){x X}(g:az π x X){l L}(j:bj (iN π) l L):(SR S (ai P fs) P) (λi a b=>dM (BT i) a b) π (Instr.findKey t x l) (Instr.findKey t X L):=by unfold Instr.findKey;refine(aA t).bind ?_;rintro k e d _ ⟨rfl,m⟩;have c:=j.mono λ_ _ x=>iN.mono e x;have h:=D5 d (g.mono e) c 0;have f:=JQ (S:=S) (fs:=fs) t m (g.mono e) c 0;generalize Instr.findNow d x l 0=u at*;generalize Instr.findNow d X L 0=v at*;obtain h|rfl:=h;(cases h with|some h=>exact aj h|none=>exact qo t 0 (g.mono e) c);cases v with|none=>exact qo t 0 (g.mono e) c|some r=>exact f r rfl
def Mu{x X:Value}(g:az π x X){b c:Type}{Q:Ren P.globals.size->b->c->Prop}{s:String}{f:Array MapEntry->Sem b}{F:Array MapEntry->Sem c} (d:∀a,Ren.le π a->∀es e,aY (iN a) es e->(SR S (ai P fs) P) Q a (f es) (F e)):(SR S (ai P fs) P) Q π (do
  let es <-match x with
   | .map none=>pure #[]
   | .map (some r)=>do
    let .map es _ <-getObj r|stuck s
    pure es
   |_=>stuck s
  f es) (do
  let es <-match X with
   | .map none=>pure #[]
   | .map (some r)=>do
    let .map es _ <-getObj r|stuck s
    pure es
   |_=>stuck s
  F es):=by
 cases g with
 |LB=>exact d _ (Ren.le_refl _) _ _ .empty
 |map h=>
  refine(cj h).bind ?_;intro i j o O k;cases k with
  |map n h=>exact d _ j _ _ h
  |_=>exact .never (aB (.halt _))
 |_=>exact .never (aB (.halt _))
def JR(n:dD P)(t i){x X y Y}(j:az π x X)(e:az π y Y):(SR S (ai P fs) P) VQ π (Instr.lookup t x y i) (Instr.lookup t X Y i):=by (unfold Instr.lookup;refine(aA t).bind ?_;rintro o l d _ ⟨rfl,A⟩;cases d<;>first|exact aq|skip);(rename_i key elem;have j:=j.mono l;have e:=e.mono l;refine Mu j ?_;intro p q es ES f;have g:es.isEmpty=ES.isEmpty:=by simp only[Array.isEmpty,f.1]);(rw[g];have e:=e.mono q;refine(oK _ _ _ e).bind ?_;intro r m _ _ _;refine(ri _ (e.mono m) (f.toList.mono λ_ _ x=>iN.mono m x)).bind ?_;intro s B u v k;have c:∀{a:Ren P.globals.size} (v V:Value) (b:Bool),az a v V->az a (if i then .tuple #[v,.bool b]else v) (if i then .tuple #[V,.bool b]else V):=by intro a v V b h;split;exact az.tuple' (aY.push (aY.push aY.empty h) (.bool b));exact h);cases k with|none=>refine(er n elem).bind ?_;rintro a C z _ ⟨rfl,w⟩;exact aj (c _ _ _ (w _ _))|some h=>exact aj (c _ _ _ h.2)
def BU(n):∀{x X y Y},az ρ x X->az ρ y Y->Instr.sameBits n x y=true->Instr.sameBits n X Y=true:=by
 have f:∀{r R s Z:Nat},ρ r R->ρ s Z->(some r==some s)=(some R==some Z):=by (intro r R s Z h i;have e:r=s↔R=Z:=⟨λe=>by subst e;exact ρ.fn _ _ _ h i,λe=>by subst e;exact ρ.inj _ _ _ h i⟩);rw[UE];simp[e]
 have g:∀{a A b B:Addr},aR ρ a A->aR ρ b B->(some a==some b)=(some A==some B):=by intro a A b B h i;have:=(h.eq i).2;rw[UE]at this⊢;simpa using this
 induction n with
 |zero=>intro x X y Y j k h;cases j<;>cases k<;>first|exact h|(simp[Instr.sameBits]at h;done)|exact(g (by assumption) (by assumption)).symm.trans h|exact(f (by assumption) (by assumption)).symm.trans h
 |succ n v=>(intro x X y Y j k h;cases j<;>cases k<;>first|exact h|(simp[Instr.sameBits]at h;done)|exact(g (by assumption) (by assumption)).symm.trans h|exact(f (by assumption) (by assumption)).symm.trans h|skip);rename_i o _ _ _ p;unfold Instr.sameBits at h⊢;simp only[TH]at h⊢;exact⟨h.1,v o p h.2⟩;rename_i c C w o d D z p;(have E:=aY.toList ⟨w,o⟩;have F:=aY.toList ⟨z,p⟩;have key:∀{l L m M:List Value},bj (az ρ) l L->bj (az ρ) m M->((l.zip m).all λ(x,y)=>Instr.sameBits n x y)=true->((L.zip M).all λ(x,y)=>Instr.sameBits n x y)=true:=by intro l L m M H;induction H generalizing m M with|nil=>intro _ _;rfl|cons h _ q=>intro t u;cases t with|nil=>rfl|cons i t=>simp only[List.zip_cons_cons,VA,TH]at u⊢;exact⟨v h i u.1,q t u.2⟩);unfold Instr.sameBits at h⊢;simp only[TH]at h⊢;rw[w,z]at h;exact⟨h.1,key E F h.2⟩
def nQ{x X y Y}(b:az π x X)(a:az π y Y):(SR S (ai P fs) P) VQ π (Instr.keyThatStays x y) (Instr.keyThatStays X Y):=by unfold Instr.keyThatStays;have d:=BU 10000 b a;generalize Instr.sameBits 10000 x y=u at*;generalize Instr.sameBits 10000 X Y=v at*;cases u with|true=>rw[d rfl];exact aj a|false=>cases v with|true=>exact .mW 0 (n:=0) (λf g h=>by cases h) rfl (aj a)|false=>simp only[TS,TP];refine(eE _).bind ?_;rintro e c n _ rfl;refine aj ?_;split;exact a.mono c;exact b.mono c
def oL{R es a}(h:aY R es a)(i){f F:MapEntry->MapEntry}(c:∀e E,R e E->R (f e) (F E)):aY R (es.modify i f) (a.modify i F):=aY.lN λj=>by rw[Uo,Uo];have b:=h.get j;split;generalize es[j]? =u at*;(generalize a[j]? =v at*;cases b with|none=>exact .none|some r=>exact .some (c _ _ r));exact b
def zY{es a}(h:aY (iN ρ) es a)(i:Nat){k K}(b:az ρ k K):az ρ (((es[i]?).map (·.key)).getD k) (((a[i]?).map (·.key)).getD K):=by have c:=h.get i;generalize es[i]? =u at*;generalize a[i]? =v at*;cases c with|none=>exact b|some r=>exact r.key
def Gz{es a}(h:aY (iN ρ) es a)(i:Nat){b:Type}(f:Nat->b)(d):(((a[i]?).map (λx=>f x.born)).getD d)=(((es[i]?).map (λx=>f x.born)).getD d):=by have c:=h.get i;generalize es[i]? =u at*;generalize a[i]? =v at*;cases c with|none=>rfl|some r=>exact T7 f r.born.symm
def sq(t){x X k K v V}(m:az π x X)(b:az π k K)(c:az π v V):(SR S (ai P fs) P) EqQ π (Instr.mapUpdate t x k v) (Instr.mapUpdate t X K V):=by
 unfold Instr.mapUpdate;refine(aA t).bind ?_;rintro s g d _ ⟨rfl,M⟩;cases d<;>first|exact aq|skip
 rename_i key elem;have m:=m.mono g;cases m with
 |LB=>exact dh
 |map h=>
  refine(cj h).bind ?_;intro A j o O B;cases B with
  | @map es N n a=>refine(oK _ _ _ ((b.mono g).mono j)).bind ?_;intro C l _ _ _;have b:=((b.mono g).mono j).mono l;have c:=((c.mono g).mono j).mono l;have a:=a.mono λ_ _ x=>iN.mono l x;have h:=l _ _ (j _ _ h);refine(ri _ b a.toList).bind ?_;intro D f u w p;have b:=b.mono f;have c:=c.mono f;have a:=a.mono λ_ _ x=>iN.mono f x;cases p with|none=>exact eF (f _ _ h) (by simp) (.map _ (a.push ⟨b,c,rfl⟩))| @some u w F=>obtain⟨i,y⟩:=u;obtain⟨Q,Y⟩:=w;obtain⟨r,H⟩:=F;simp only[]at r H;subst r;refine(nQ (zY a i b) b).bind ?_;intro I q z Z J;exact eF (q _ _ (f _ _ h)) (by simp) (.map _ (oL (a.mono λ_ _ x=>iN.mono q x) i λe E L=>⟨J,c.mono q,L.born⟩))
  |_=>exact aq
 |_=>exact aq
def D7(l:dD P)(t){x X k K}(m:az π x X)(c:az π k K):(SR S (ai P fs) P) VQ π (Instr.mapEntry t x k) (Instr.mapEntry t X K):=by
 unfold Instr.mapEntry;refine(aA t).bind ?_;rintro H p d _ ⟨rfl,R⟩;cases d<;>first|exact aq|skip
 rename_i key elem;have m:=m.mono p;cases m with
 |LB=>exact dh
 |map h=>
  refine(cj h).bind ?_;intro I q o O J;cases J with
  | @map es T b a=>refine(oK _ _ _ ((c.mono p).mono q)).bind ?_;intro L r _ _ _;have c:=((c.mono p).mono q).mono r;have a:=a.mono λ_ _ x=>iN.mono r x;have h:=r _ _ (q _ _ h);refine(ri _ c a.toList).bind ?_;intro M j u w s;have c:=c.mono j;have a:=a.mono λ_ _ x=>iN.mono j x;cases s with|none=>refine(er l elem).bind ?_;rintro f g z _ ⟨rfl,A⟩;refine(eF (g _ _ (j _ _ h)) (by simp) (.map _ (aY.push (a.mono λ_ _ x=>iN.mono g x) (⟨c.mono g,A _ _,rfl⟩:iN f ⟨k,z,b⟩ ⟨K,z,b⟩)))).bind ?_;intro v B _ _ _;exact aj (az.tuple' (aY.push (aY.push aY.empty (A _ _)) (.int _ _)))| @some u w N=>obtain⟨i,y⟩:=u;obtain⟨U,Y⟩:=w;obtain⟨C,D⟩:=N;simp only[]at C D;subst C;refine(nQ (zY a i c) c).bind ?_;intro f g z Z l;refine(eF (g _ _ (j _ _ h)) (by simp) (.map _ (oL (a.mono λ_ _ x=>iN.mono g x) i λe E F=>(⟨l,F.val,F.born⟩:iN f {e with key:=z} {E with key:=Z})))).bind ?_;intro v B _ _ _;have Q:=Gz a i (λn:Nat=>(n:Int)) 0;rw[Q];exact aj (az.tuple' (aY.push (aY.push aY.empty ((D.mono g).mono B)) (.int _ _)))
  |_=>exact aq
 |_=>exact aq
def D8{es a}(h:aY (iN ρ) es a)(b):a.findIdx? (λe=>(e.born:Int)==b)=es.findIdx? (λe=>(e.born:Int)==b):=by have:=h.toList;obtain⟨l⟩:=es;obtain⟨L⟩:=a;simp only[List.findIdx?_toArray];simp only[]at this;clear h;induction this with|nil=>rfl|cons c _ d=>rw[List.findIdx?_cons,List.findIdx?_cons,c.born,d]
def y6(t){x X k K v V}(g:az π x X)(i:az π k K)(j:az π v V):(SR S (ai P fs) P) EqQ π (Instr.entryStore t x k v) (Instr.entryStore t X K V):=by
 unfold Instr.entryStore;cases g with
 |map h=>refine(cj h).bind ?_;intro l b o O m;cases m with| @map es q c a=>refine(jA (i.mono b)).bind ?_;rintro p d n _ rfl;have a:=a.mono λ_ _ x=>iN.mono d x;rw[D8 a];split;exact eF (d _ _ (b _ _ h)) (by simp) (.map _ (oL a _ λe E f=>⟨f.key,(j.mono b).mono d,f.born⟩));exact aC|_=>exact aq
 |_=>exact aq
def Mv(t){x X}(b:az π x X):(SR S (ai P fs) P) VQ π (Instr.range t x) (Instr.range t X):=by
 unfold Instr.range;refine(aA t).bind ?_;rintro e f d _ ⟨rfl,g⟩;clear g;have b:=b.mono f;have fin:∀{a:Ren P.globals.size} {o O:Obj},fR S a o O->(SR S (ai P fs) P) VQ a (do pure (.pointer (some ⟨<-newObj o,0,none⟩))) (do pure (.pointer (some ⟨<-newObj O,0,none⟩))):=by intro a o O c;refine(ia c).bind ?_;intro i m r R j;exact aj (.ptr (.mk j))
 cases d with
 |string=>cases b<;>first|exact fin (.stringIter _ _)|exact .never (aB (.halt _))
 |map=>(cases b<;>first|exact fin (.fE _ _ _)|exact .never (aB (.halt _))|skip);rename_i r R h;refine(cj h).bind ?_;intro a k o O c;cases c with|map n l=>exact fin (.mapIter _ _ _ (k _ _ h))|_=>exact .never (aB (.halt _))
 |_=>cases b<;>exact .never (aB (.halt _))
def bj.filter{b c R l m}(h:bj R l m){p:b->Bool}{q:c->Bool}(d:∀x y,R x y->p x=q y):bj R (l.filter p) (m.filter q):=by induction h with|nil=>exact .nil|cons h _ a=>rw[UK,UK,d _ _ h];split;exact .cons h a;exact a
def aY.filter{a b R l m}(h:aY R l m){p:a->Bool}{q:b->Bool}(c:∀x y,R x y->p x=q y):aY R (l.filter p) (m.filter q):=by have:=(h.toList.filter c).toArray;obtain⟨l⟩:=l;obtain⟨m⟩:=m;simpa using this
def aY.all{a b R l m}(h:aY R l m){p:a->Bool}{q:b->Bool}(c:∀x y,R x y->p x=q y):l.all p=m.all q:=by have d:=h.toList;obtain⟨l⟩:=l;obtain⟨m⟩:=m;simp only[TU,List.all_toArray']at*;clear h;induction d with|nil=>rfl|cons h _ e=>rw[VA,VA,c _ _ h,e]
def aY.find{a b R l m}(h:aY R l m){p:a->Bool}{q:b->Bool}(c:∀x y,R x y->p x=q y):dM R (l.find? p) (m.find? q):=by have d:=h.toList;obtain⟨l⟩:=l;obtain⟨m⟩:=m;simp only[List.find?_toArray]at*;clear h;induction d with|nil=>exact .none|cons h _ e=>rw[List.find?_cons,List.find?_cons,c _ _ h];split;exact .some h;exact e
def aY.isEmpty{a b R}{l:Array a}{m:Array b}(h:aY R l m):l.isEmpty=m.isEmpty:=by simp only[Array.isEmpty,h.1]
def Mw{x X}(j:az π x X):(SR S (ai P fs) P) VQ π (Instr.entry x) (Instr.entry X):=by
 unfold Instr.entry;cases j with
 |ptr h=>
  cases h with
  | @mk r R o p h=>
   cases o with
   |succ=>exact aq
   |zero=>
   refine(cj h).bind ?_;intro k t ob w f;cases f with
   |mapIter a seen c l=>
    simp only[];cases seen.back? with
    |none=>exact aq
    |some b=>
     simp only[];refine(cj l).bind ?_;intro m y o O f;cases f with
     | @map es n g i=>simp only[];split;exact .never (aB (.halt _));(have s:=i.find (p:=λe=>e.born==b) (q:=λe=>e.born==b) λe E d=>by rw[d.born]);generalize es.find? _=u at*;generalize n.find? _=v at*;cases s with|none=>exact aC|some d=>exact aj (az.tuple' (aY.push (aY.push aY.empty d.key) d.val))
     |_=>exact aq
   |_=>exact aq
 |_=>exact aq
def O7(b t){x X}(H:az π x X):(SR S (ai P fs) P) VQ π (Instr.next x b t) (Instr.next X b t):=by
 unfold Instr.next;cases H with
 |ptr h=>
  cases h with
  | @mk r R o p h=>
   cases o with
   |succ=>exact aq
   |zero=>
   refine(cj h).bind ?_;intro I J ob N z;have h:=J _ _ h;cases z with
   |stringIter s pos=>cases b with|false=>exact aq|true=>refine cZ ?_ (aj (az.tuple' (aY.push aY.empty (.bool _))));refine(eF h (by simp) (.stringIter _ _)).bind ?_;intro j A _ _ _;exact aj (az.tuple' (aY.push (aY.push (aY.push aY.empty (.bool _)) (.int _ _)) (.int _ _)))
   |fE=>cases b with|true=>exact aq|false=>exact aj (az.tuple' (aY.push aY.empty (.bool _)))
   |mapIter a seen last w=>
    cases b with
    |true=>exact aq
    |false=>
     refine(cj w).bind ?_;intro j A o O z;have h:=A _ _ h;have w:=A _ _ w;cases z with
     | @map es K B i=>simp only[];rw[<-i.isEmpty,<-i.all (p:=λe=>decide (e.born>=last)) (q:=λe=>decide (e.born>=last)) λe E c=>by rw[c.born]];split;exact .never (aB (.halt _));(have d:=i.filter (p:=λe=> !seen.contains e.born) (q:=λe=> !seen.contains e.born) λe E c=>by rw[c.born]);(generalize es.filter (λe=> !seen.contains e.born)=left at*;generalize K.filter (λe=> !seen.contains e.born)=f at*;have g:=d.filter (p:=λe=>decide (e.born<a)) (q:=λe=>decide (e.born<a)) λe E c=>by rw[c.born]);(have k:=d.filter (p:=λe=>decide (e.born>=a)) (q:=λe=>decide (e.born>=a)) λe E c=>by rw[c.born]);(generalize left.filter (λe=>decide (e.born<a))=old at*;generalize f.filter (λe=>decide (e.born<a))=l at*;generalize left.filter (λe=>decide (e.born>=a))=new at*;generalize f.filter (λe=>decide (e.born>=a))=m at*;rw[<-g.isEmpty];have D:aY (dM (iN j)) ((if old.isEmpty then #[none]else #[])++(old++new).map some) ((if old.isEmpty then #[none]else #[])++(l++m).map some):=by refine aY.append ?_ ((g.append k).map λ_ _=>.some);split;exact aY.push aY.empty .none;exact .empty);generalize ((if old.isEmpty then #[none]else #[])++(old++new).map some)=cs at*;generalize ((if old.isEmpty then #[none]else #[])++(l++m).map some)=CS at*;rw[<-D.1];refine(eE _).bind ?_;rintro L y n _ rfl;have C:=D.get n;generalize cs[n]? =u at*;generalize CS[n]? =v at*;cases C with|none=>exact aq|some C=>cases C with|none=>exact aj (az.tuple' (aY.push aY.empty (.bool _)))|some c=>simp only[c.born];refine(eF (y _ _ h) (by simp) (.mapIter _ _ _ (y _ _ w))).bind ?_;intro M F _ _ _;exact aj (az.tuple' (aY.push (aY.push (aY.push aY.empty (.bool _)) ((c.key.mono y).mono F)) ((c.val.mono y).mono F)))
     |_=>exact aq
   |_=>cases b<;>exact aq
 |_=>exact aq
end
def GA(g:Func):Prop:=g.name= "" /\g.origin= "" /\g.body=none
def GA.find{g}(h:GA g):Extern.find g=none:=by (unfold Extern.find;have a:List.lookup "" Extern.allGenericRows=none:=by kernel_rfl);(have b:List.lookup "" Extern.allTypedRows=none:=by kernel_rfl);(have c:List.lookup "" Extern.allRows=none:=by kernel_rfl);simp only[h.1,h.2.1,a,b,c];rfl
def GA.findNext{g}(h:GA g):Extern.findNext g=none:=by (unfold Extern.findNext;have a:List.lookup "" Extern.allNextRows=none:=by kernel_rfl);simp only[h.1,h.2.1,a];rfl
def oM(v)(h:ga v=true):Plain v:=by
 intro G π
 match v with
 | .bool _=>exact .bool _
 | .int .. =>exact .int _ _
 | .float .. =>exact .float _ _
 | .complex .. =>exact .complex _ _ _
 | .string _=>exact .string _
 | .pointer none=>exact .Je
 | .slice none _ _=>exact .iM _ _
 | .map none=>exact .LB
 | .chan none=>exact .Q2
 | .nilFunc=>exact .nilFunc
 | .nilIface=>exact .nilIface
 | .tuple c=>(have e:c=#[]:=by simpa[ga]using h);rw[e];exact az.tuple' .empty
 | .iface .. =>simp[ga]at h
 | .agg _=>simp[ga]at h
 | .func .. =>simp[ga]at h
 | .pointer (some _)=>simp[ga]at h
 | .slice (some _) _ _=>simp[ga]at h
 | .map (some _)=>simp[ga]at h
 | .chan (some _)=>simp[ga]at h
inductive NxR(S:Kn){G:Nat}(π:Ren G):Next->Next->Prop
 |value {v V:Value}:az π v V->NxR S π (.value v) (.value V)
 |skip:NxR S π .skip .skip
 |enter (f:FuncId) {a A:Array Value}:S.stop f=true\/S.ent f=true->(S.stop f=true->a.size=1)->VsR π a A->NxR S π (.enter f a) (.enter f A)
 |round {l L:Nat} (f:FuncId) {t T:Array Value} (as body:Code):S.ent f=true->π l L->VsR π t T->S.code as->S.code body->NxR S π (.round l f t as body) (.round L f T as body)
structure Tab(S:Kn)(P:Program)(fs:Array Func):Prop where
 zero:dD P
 size:fs.size=P.funcs.size
 bad:P.underlying qM=none
 xq:S.dB 0=true
 ent:∀f,S.ent f=true->S.stop f=false/\∃g c,fs[f]? =some {g with body:=some (gR c)}/\P.funcs[f]? =some g/\g.name≠ "runtime.NumGoroutine" /\g.body=some c/\iP S c=true
 stop:∀f,S.stop f=true->f=kF/\∃g h,fs[f]? =some g/\P.funcs[f]? =some h/\g.name≠ "runtime.NumGoroutine" /\h.name≠ "runtime.NumGoroutine" /\g.body.isSome=true/\h.body.isSome=true
 rest:∀f g,fs[f]? =some g->S.ent f=true\/S.stop f=true\/GA g\/
  (P.funcs[f]? =some g/\g.name≠ "runtime.NumGoroutine" /\g.body=none/\Extern.findNext g=none/\∃e,Extern.find g=some e/\∀(π:Ren P.globals.size),(∀g,S.dB g=true->π g g)->∀(a A:Array Value),VsR π a A->SR S (ai P fs) P VQ π (e a) (e A))
section
variable {S:Kn} {P:Program} {fs:Array Func} {π:Ren P.globals.size}
abbrev NQ(S:Kn){G}:Ren G->Next->Next->Prop:=λπ a A=>NxR S π a A
def bW{s T}(h:(SR S (ai P fs) P) VQ π s T):(SR S (ai P fs) P) (NQ S) π (do pure (.value (<-s))) (do pure (.value (<-T))):=h.bind λ_ _ _ _ a=>aj (.value a)
def sx{s T}(h:(SR S (ai P fs) P) EqQ π s T):(SR S (ai P fs) P) (NQ S) π (do s;pure .skip) (do T;pure .skip):=h.bind λ_ _ _ _ _=>aj .skip
def uH(d:Tab S P fs)(v:∀g,S.dB g=true->π g g)(f:FuncId){a A}(i:f=kF->a.size=1)(h:VsR π a A):(SR S (ai P fs) P) (NQ S) π (callFunc f a) (callFunc f A):=by unfold callFunc;refine bY.bind ?_;rintro w s _ _ ⟨rfl,rfl⟩;have h:=VsR.mono s h;rw[show(ai P fs).funcs=fs from rfl];cases m:fs[f]? with|none=>exact aq|some g=>simp only[];obtain j|j|k|⟨n,l,t,y,e,z,o⟩:=d.rest f g m;obtain⟨_,g',c,e1,p,l,B,_⟩:=d.ent f j;(rw[m]at e1;cases e1;rw[p];have b:¬(g'.name== "runtime.NumGoroutine")=true:=by simpa using l);simp only[b,TP,B];exact aj (.enter f (.inr j) (λx=>i (d.stop f x).1) h);obtain⟨_,u,g',e1,p,l,q,t,C⟩:=d.stop f j;rw[m]at e1;cases e1;rw[p];simp only[];rw[Tu (c:=(g.name== "runtime.NumGoroutine")=true) (by simpa using l),Tu (c:=(g'.name== "runtime.NumGoroutine")=true) (by simpa using q),Tu (c:=g.body.isNone=true) (by cases r:g.body<;>simp_all),Tu (c:=g'.body.isNone=true) (by cases r:g'.body<;>simp_all)];exact aj (.enter f (.inl j) (λx=>i (d.stop f x).1) h);refine .never ?_;rw[Tu (by rw[k.1];decide),Tv (by rw[k.2.2];rfl)];refine bF (.mark _) λ_=>?_;rw[k.findNext,k.find,k.1];simp only[];rw[Tu (by decide)];exact .halt _;rw[n];(simp only[];have b:¬(g.name== "runtime.NumGoroutine")=true:=by simpa using l);simp only[b,TP];rw[t,y,z];simp only[Option.isNone_none,TK];refine SR.extern ?_;exact bW (o _ (λg r=>s _ _ (v g r)) _ _ h)
def qp:cN Instr.panicnil:=by unfold Instr.panicnil;exact wJ
def GB(c:dD P)(b)(d:pw b=true)(ts t cs){a A}(h:VsR π a A):(SR S (ai P fs) P) (NQ S) π (builtin b ts t cs a) (builtin b ts t cs A):=by cases b<;>simp only[pw,TS]at d;exact bW (JN c _ _ h);exact bW (Qt _ _ h);exact bW (O4 _ _ h);exact bW (Qr _ _ h);exact bW (Qv _ _ h);exact bW (Qu _ _ h);refine .never (aB ?_);unfold Instr.panic;split;exact .halt _;exact bF qp λ_=>pF (.halt _) (aF _);exact .halt _;exact bW (vC _ _ h)
def kS{l L}(h:π l L):(SR S (ai P fs) P) (λc a b=>C4 S c a b) π (Instr.getLoop l) (Instr.getLoop L):=by unfold Instr.getLoop;refine(cj h).bind ?_;intro d f o O e;cases e with|loop h=>exact aj h|_=>exact aq
def BV{t T:Array Value}{l:List (Tmp×Value)}:∀{t T} {L:List (Tmp×Value)},VsR π t T->bj (lC π) l L->VsR π (l.foldl (λt (x)=>t.setIfInBounds x.1 x.2) t) (L.foldl (λt (x)=>t.setIfInBounds x.1 x.2) T):=by induction l with|nil=>intro t T L b a;cases a;exact b|cons x l c=>intro t T L b a;cases a with|cons h a=>simp only[Wn];rw[<-h.1];exact c (b.set _ h.2) a
def GC{b:Array Tmp}{a A}(h:VsR π a A):bj (lC π) (b.zip a).toList (b.zip A).toList:=by have c:=h.toList;obtain⟨b⟩:=b;obtain⟨a⟩:=a;obtain⟨A⟩:=A;simp only[List.zip_toArray]at*;clear h;induction c generalizing b with|nil=>cases b<;>exact .nil|cons h _ d=>cases b with|nil=>exact .nil|cons p b=>exact .cons ⟨rfl,h⟩ (d b)
def Mx{l L}(h:π l L){a A}(c:VsR π a A):(SR S (ai P fs) P) (NQ S) π (Instr.yield l a) (Instr.yield L A):=by unfold Instr.yield;refine(kS h).bind ?_;intro e d r R b;rw[<-c.1,<-b.params];simp only[];split;exact .never (aB (.halt _));rw[<-b.fn,<-b.assign,<-b.body];refine aj (.round _ _ _ b.ent (d _ _ h) ?_ b.Q4 b.Q5);rw[<-VL,<-VL];exact BV (t:=#[]) (T:=#[]) b.tmps (GC (VsR.mono d c))
def EvR(S:Kn){G}(π:Ren G)(ρ R:Operand->Value):Prop:=∀x,bZ S x=true->az π (ρ x) (R x)
def EvR.row{ρ R}(h:EvR S π ρ R){xs:Array Operand}(a:xs.all (bZ S)=true):VsR π (xs.map ρ) (xs.map R):=by rw[Vg]at a;refine aY.lN λi=>?_;rw[T3,T3];cases b:xs[i]? with|none=>exact .none|some x=>exact .some (h x (a x (Uq b)))
def uI(k:Tab S P fs)(l:∀g,S.dB g=true->π g g){x X}(m:az π x X){a A}(h:VsR π a A):(SR S (ai P fs) P) (NQ S) π (do let d <-Deferred.ofValue x a;invoke d.target d.args) (do let d <-Deferred.ofValue X A;invoke d.target d.args):=by
 cases m with
 |nilFunc=>(have e:(do let d <-Deferred.ofValue .nilFunc a;invoke d.target d.args:Sem Next)=runtimePanic .nilDeref:=by simp only[Deferred.ofValue,pure_bind,invoke]);rw[e];exact dh
 |func o i j p q=>cases o with|func f b=>exact uH k l f (λe=>absurd e b) (aY.append (aY.append ⟨i,j⟩ h) ⟨p,q⟩)|yield r=>exact Mx r (aY.append ⟨i,j⟩ h)
 |Jf n f c=>(have e:(do let d <-Deferred.ofValue (.func (.method "") #[.nilIface] #[]) a;invoke d.target d.args:Sem Next)=runtimePanic .nilDeref:=by (have e0:(#[Value.nilIface]++a)[0]? =some .nilIface:=by simp[Vr]);simp[Deferred.ofValue,invoke,callMethod,e0]);rw[e];exact .never (aF _)
 |_=>exact .never (aB (.halt _))
def O8(k:Tab S P fs)(n:∀g,S.dB g=true->π g g){ρ R}(h:EvR S π ρ R)(l:∀f,ρ (.func f)=.func (.func f) #[] #[])(o:∀f,R (.func f)=.func (.func f) #[] #[])(c t)(hc:AZ S (.call c)=true):(SR S (ai P fs) P) (NQ S) π (do let d <-resolve ρ c t;invoke d.target d.args) (do let d <-resolve R c t;invoke d.target d.args):=by
 obtain⟨a,args,ts⟩:=c;unfold AZ at hc;obtain hc|hc:=US _ _▸hc
 cases a with
 |value x=>
  cases x with
  |func f=>(simp only[kG,TH,Uk]at hc;obtain⟨⟨rfl,j⟩,i⟩:=hc;have e:∀(σ:Operand->Value),σ (.func kF)=.func (.func kF) #[] #[]->(do let d <-resolve σ ⟨.value (.func kF),args,ts⟩ t;invoke d.target d.args:Sem Next)=callFunc kF (args.map σ):=λσ m=>by simp[resolve,Deferred.ofValue,m,invoke]);rw[e ρ (l _),e R (o _)];exact uH k n kF (λ_=>by simpa using j) (h.row i)
  |_=>simp[kG]at hc
 |_=>simp[kG]at hc
 simp only[Op.operands,Call.operands,TH]at hc;obtain⟨j,i⟩:=hc;cases a with
 |value f=>(simp only[WW,TH]at i;have p:bZ S f=true:=by simpa using i.1);exact uI k n (h f p) (h.row i.2)
 |invoke=>simp at j
 |builtin b=>simp only[WW,TH]at i;exact GB k.zero b j _ _ _ (h.row i.2)
def sC{ρ R}(h:EvR S π ρ R){x:Option Operand}(a:x.all (bZ S)=true):dM (az π) (x.map ρ) (x.map R):=by cases x with|none=>exact .none|some x=>exact .some (h x a)
def zZ{ρ R:Operand->Value}(h:EvR S π ρ R){a:Array (Nat×Operand)}(b:∀x∈a,bZ S x.2=true):aY (lC π) (a.map λ(i,x)=>(i,ρ x)) (a.map λ(i,x)=>(i,R x)):=by refine aY.lN λi=>?_;rw[T3,T3];cases c:a[i]? with|none=>exact .none|some x=>exact .some ⟨rfl,h _ (b x (Uq c))⟩
def Aa{a:Array (Nat×Operand)}(h:((a.toList.map (·.2)).toArray.all (bZ S))=true):∀x∈a,bZ S x.2=true:=by intro x b;rw[Vg]at h;exact h x.2 (by simp;exact⟨x.1,by simpa using b⟩)
def JS(u:Tab S P fs)(M:∀g,S.dB g=true->π g g){ρ R}(h:EvR S π ρ R)(E:∀f,ρ (.func f)=.func (.func f) #[] #[])(N:∀f,R (.func f)=.func (.func f) #[] #[])(o)(C:AZ S o.op=true):(SR S (ai P fs) P) (NQ S) π (execOp ρ o) (execOp R o):=by
 obtain⟨O,p,ty,pos,Q,X⟩:=o;have F:=C;by_cases w:∃c,p=.call c;obtain⟨c,rfl⟩:=w;exact O8 u M h E N c ty F;unfold AZ at C;have G:kG S p=false:=by cases p<;>first|rfl|exact absurd ⟨_,rfl⟩ w
 simp only[G,VR,TH]at C;obtain⟨A,j⟩:=C;cases p with
 |move x=>exact aj (.value (h x (by simpa[Op.operands]using j)))
 |assign x=>exact aj (.value (h x (by simpa[Op.operands]using j)))
 |pick c a b=>simp[Op.operands]at j;refine(zK (h c j.1)).bind ?_;rintro z q v _ rfl;refine aj (.value ?_);split;exact(h a j.2.1).mono q;exact(h b j.2.2).mono q
 |alloc e=>exact bW (LZ u.zero e)
 |box e x=>exact bW (Qh e (h x (by simpa[Op.operands]using j)))
 |build t T=>exact bW (L1 u.zero t (zZ h (Aa j)))
 |buildSlice t n T=>exact bW (yQ u.zero t n (zZ h (Aa j)))
 |insert t m k v=>simp[Op.operands]at j;exact sx (sq t (h m j.1) (h k j.2.1) (h v j.2.2))
 |load t a=>refine bW ((jB (h a (by simpa[Op.operands]using j))).bind ?_);intro z q b B H;exact wK t H
 |store t a x=>simp[Op.operands]at j;refine sx ((jB (h a j.1)).bind ?_);intro z q b B H;exact Dl t H ((h x j.2).mono q)
 |nilCheck x=>
  have I:=h x (by simpa[Op.operands]using j);unfold execOp;simp only[];generalize ρ x=v at*;generalize R x=V at*;have l:=I;cases I with
  |func U Y A Z j=>cases U<;>exact aj (.value l)
  |mv _ a=>
   cases V with
   |pointer o=>cases o<;>first|(simp[eo]at a;done)|exact aj (.value l)
   |func fn _ _=>cases fn<;>first|(simp[eo]at a;done)|exact aj (.value l)
   |_=>first|(simp[eo]at a;done)|exact aj (.value l)
  |Jf n f c=>exact .never (aF _)
  |_=>first|exact dh|exact aj (.value l)
 |binOp p t x y t2=>simp[Op.operands]at j;refine bW ((Gv p t x y (h x j.1) (h y j.2)).bind ?_);intro z q _ _ _;exact Mt p t ((h x j.1).mono q) ((h y j.2).mono q)
 |unOp p t x=>exact bW (L3 p (h x (by simpa[Op.operands]using j)))
 |convert s d x=>exact bW (Gy s d (by simpa using A) (h x (by simpa[Op.operands]using j)))
 |makeInterface t x=>exact bW (tG t (h x (by simpa[Op.operands]using j)))
 |makeFunc fn f c=>simp only[Op.operands,WW,TH]at j;cases fn with|func g=>exact bW (Dm (.func g (by simpa using A)) (h.row j.1) (h.row j.2))|_=>simp at A
 |makeMap t r=>exact bW (F9 t (sC h (by cases r<;>simp_all [Op.operands])))
 |makeSlice t a b=>simp[Op.operands]at j;exact bW (Bf u.zero t (h a j.1) (h b j.2))
 |slice t x J K L=>(have D:bZ S x=true/\J.all (bZ S)=true/\K.all (bZ S)=true/\L.all (bZ S)=true:=by cases J<;>cases K<;>cases L<;>simp[Op.operands]at j<;>simp[j]);exact bW (F4 t (h x D.1) (sC h D.2.1) (sC h D.2.2.1) (sC h D.2.2.2))
 |fieldAddr t x f=>exact bW (F7 t f (h x (by simpa[Op.operands]using j)))
 |field t x f=>exact bW (LY t f (h x (by simpa[Op.operands]using j)))
 |indexAddr t x i=>simp[Op.operands]at j;exact bW (F5 t (h x j.1) (h i j.2))
 |index t x i=>simp[Op.operands]at j;exact bW (LX t (h x j.1) (h i j.2))
 |lookup t x i W=>simp[Op.operands]at j;exact bW (JR u.zero t W (h x j.1) (h i j.2))
 |mapUpdate t m k v=>simp[Op.operands]at j;exact sx (sq t (h m j.1) (h k j.2.1) (h v j.2.2))
 |mapEntry t m k=>simp[Op.operands]at j;exact bW (D7 u.zero t (h m j.1) (h k j.2))
 |entryStore t m k v=>simp[Op.operands]at j;exact sx (y6 t (h m j.1) (h k j.2.1) (h v j.2.2))
 |range t x=>exact bW (Mv t (h x (by simpa[Op.operands]using j)))
 |next x b=>exact bW (O7 b _ (h x (by simpa[Op.operands]using j)))
 |entry x=>exact bW (Mw (h x (by simpa[Op.operands]using j)))
 |extract x i=>exact bW (F6 i (h x (by simpa[Op.operands]using j)))
 |call c=>exact absurd ⟨c,rfl⟩ w
 |panic x=>refine .never (aB ?_);unfold Instr.panic;split;exact .halt _;exact bF qp λ_=>pF (.halt _) (aF _);exact .halt _
 |_=>simp at A
def GD(d:Tab S P fs)(i:∀g,S.dB g=true->π g g){ρ R}(h:EvR S π ρ R)(a:∀f,ρ (.func f)=.func (.func f) #[] #[])(j:∀f,R (.func f)=.func (.func f) #[] #[])(o)(e:opD S o.op=true):(SR S (ai P fs) P) (NQ S) π (execOp ρ (cJ o)) (execOp R o):=by
 unfold opD at e;obtain h1|h1:=US _ _▸e;unfold cJ;rw[Tu (by rw[C3 h1];simp)];exact JS d i h a j o h1;obtain⟨l,m,ty,pos,n,p⟩:=o
 cases m with
 |call c=>
  obtain⟨k,args,ts⟩:=c;cases k with
  |builtin b=>cases b with|unsafeSliceData=>exact bW (rh _ _ d.bad (h.row h1))|_=>simp at h1
  |_=>simp at h1
 |_=>simp at h1
end
inductive fI(S:Kn){G:Nat}(π:Ren G):Item->Item->Prop
 |code {c:Code}:iP S c=true->fI S π (.code (gR c)) (.code c)
 |inBlock (id):fI S π (.inBlock id) (.inBlock id)
 |inLoop {b:Code}:S.code b->fI S π (.inLoop b) (.inLoop b)
 |inScope {b:Code}:S.code b->fI S π (.inScope b) (.inScope b)
 |inRegion {ops:Array Oper} (l):(∀o∈ops,opD S o.op=true)->fI S π (.inRegion (ops.map cJ) l) (.inRegion ops l)
 |inRangeFunc {l L:Nat}:π l L->fI S π (.inRangeFunc l) (.inRangeFunc L)
 |endRangeFunc {l L:Nat}:π l L->fI S π (.endRangeFunc l) (.endRangeFunc L)
 |beginRound:fI S π .beginRound .beginRound
def fI.same{S:Kn}{G:Nat}{π:Ren G}{c:Code}(h:S.code c):fI S π (.code c) (.code c):=by have:=fI.code (π:=π) (gS h).2;rwa[(gS h).1]at this
def Ab(o):(cJ o).dst=o.dst:=by unfold cJ;split<;>rfl
def uJ(o):(cJ o).after=o.after:=by unfold cJ;split<;>rfl
def D9(o):(cJ o).guard=o.guard:=by unfold cJ;split<;>rfl
def My(o):(cJ o).op=o.op:=by unfold cJ;split<;>rfl
def xt(m ops t):Region.schedule m (ops.map cJ) t=Region.schedule m ops t:=by (have a:Region.departs (ops.map cJ)=Region.departs ops:=by unfold Region.departs;rw[Array.any_map];congr 1;funext o;simp only[Function.comp,uJ]);(have b:∀md f t l acc,Region.linearise.go md (ops.map cJ) f t l acc=Region.linearise.go md ops f t l acc:=by intro md f;induction f with|zero=>intro t l acc;rfl|succ f c=>intro t l acc;unfold Region.linearise.go;simp only[c,UZ,T3,Option.map_map,Function.comp_def,uJ]);unfold Region.schedule Region.linearise;simp only[a,b,UZ]
def y7(ops t):yielded (ops.map cJ) t=yielded ops t:=by funext j;unfold yielded;simp only[T3];cases ops[j]? with|none=>rfl|some o=>simp only[Ud,Vn,Ab]
def B6(o y):Region.wanted (cJ o) y=Region.wanted o y:=by unfold Region.wanted;rw[D9]
structure bf(S:Kn){G:Nat}(π:Ren G)(f F:Frame):Prop where
 fn:F.fn=f.fn
 ent:S.ent f.fn=true
 tmps:VsR π f.tmps F.tmps
 todo:bj (fI S π) f.todo F.todo
 defers:bj (pU π) f.defers F.defers
 mode:F.mode=f.mode
 calm:f.mode=.run\/f.mode=.returning
 kind:f.kind=.normal
 Kind:F.kind=.normal
 round:dM (λl L=>π l L) f.roundOf F.roundOf
section mono
variable {G:Nat} {S:Kn} {π π':Ren G} (l:Ren.le π π')
include l
def fI.mono{x X:Item}(h:fI S π x X):fI S π' x X:=by cases h with|code h=>exact .code h|inBlock=>exact .inBlock _|inLoop h=>exact .inLoop h|inScope h=>exact .inScope h|inRegion t h=>exact .inRegion t h|inRangeFunc h=>exact .inRangeFunc (l _ _ h)|endRangeFunc h=>exact .endRangeFunc (l _ _ h)|beginRound=>exact .beginRound
def bf.mono{f F:Frame}(h:bf S π f F):bf S π' f F:={h with tmps:=VsR.mono l h.tmps,todo:=h.todo.mono λ_ _=>fI.mono l,defers:=h.defers.mono λ_ _=>pU.mono l,round:=h.round.mono λ_ _ x=>l _ _ x}
end mono
def Marks{G}(π:Ren G)(f:Frame):Prop:=∀D∈f.defers,∃r R,D=⟨.collected r,#[]⟩/\π r R
def Mz{G}{π:Ren G}{l L}(h:bj (pU π) l L):∀D∈l,∃r R,D=⟨.collected r,#[]⟩/\π r R:=by
 induction h with
 |nil=>intro D h;cases h
 |cons h _ b=>
  intro D a;cases a with
  |head=>cases h with|mk h=>exact⟨_,_,rfl,h⟩
  |tail _ a=>exact b D a
def bj.left{b c R}{l:List b}{m:List c}(h:bj R l m):∀x∈l,∃y,R x y:=by induction h with|nil=>intro x h;cases h|cons h _ e=>intro x a;cases a with|head=>exact⟨_,h⟩|tail _ a=>exact e x a
def jR(G:Nat)(D0:List Frame)(r:GStep):Prop:=
 match r with
 | .ended .. =>True
 | .go g w _=>∃(π:Ren G) (cs:List Frame),g.callers=cs++D0/\g.status=.running/\g.dying=none/\g.offers=none/\(∃v,g.frame.mode=.panicking [{v,recovered:=false}])/\(∀f∈g.frame::cs,Marks π f)/\Dp π w/\∀f∈cs,f.mode=.run\/f.mode=.returning
 |_=>False
def jR.after{G D0 r}(es)(h:jR G D0 r):jR G D0 (r.after es):=by cases r<;>exact h
section
variable {S:Kn} {P:Program} {fs:Array Func} {Pr:Nat->Prop}
def JU(S:Kn)(P:Program)(fs:Array Func)(π:Ren P.globals.size)(cs:List Frame)(f F:Frame):Prop:=bf S π f F\/cs≠[]/\∃g a A,S.stop g=true/\(a.size=1/\VsR π a A)/\f=Frame.enter (ai P fs) g a .normal/\F=Frame.enter P g A .normal
def rb(f:Frame):Bool:=f.roundOf.isSome
def Sh(a b:List Bool):Prop:=b=a\/(∃x,b=x::a)\/∃x,a=x::b
def mJ(f v):rb (f.finish v)=rb f:=by unfold Frame.finish rb;split<;>rfl
def dE(S:Kn)(Pr:Nat->Prop)(P:Program)(fs:Array Func)(D0:List Frame)(st:List Bool)(π:Ren P.globals.size)(w W:World)(d:Nat)(b:World->GStep)(f:List Frame->GStep):Prop:=
 ∃L:List (Question->Nat),(∀g∈L,S.gi g)/\((∀τ,Fits τ d L->jR P.globals.size D0 (b (av w τ d)))\/
  ∃fr cs w' es c CS a ev π',(∀τ,Fits τ d L->b (av w τ d)=.go ⟨fr,cs++D0,.running,none,none⟩ (av w' τ (d+L.length)) es)/\(∀B,f B=.go ⟨c,CS++B,.running,none,none⟩ a ev)/\bq S Pr π' w' a/\Chg Pr π W a π'/\(∀e∈ev,lx Pr π' e)/\bj (bf S π') cs CS/\JU S P fs π' cs fr c/\Sh st (rb fr::cs.map rb))
variable {D0:List Frame} {st:List Bool} {π:Ren P.globals.size} {w W:World} {d:Nat}
def dE.bind{A B Q s s'}(k:SR S (ai P fs) P Q π s s')(C:bq S Pr π w W){m:Result A×Array Event->GStep}{t:Result B×Array Event->List Frame->GStep} (D:∀h w' c,gI h->Dp π w'->jR P.globals.size D0 (m (.halt h w',c))) (E:∀π' a b w' i c ev d',Ren.le π π'->Q π' a b->bq S Pr π' w' i->(∀e∈ev,lx Pr π' e)->dE S Pr P fs D0 st π' w' i d' (λw=>m (.ok a w,c)) (t (.ok b i,ev))):dE S Pr P fs D0 st π w W d (λw=>m (s.runT (ai P fs) w #[])) (t (s'.runT P W #[])):=by obtain⟨L,n,h|⟨a,w',c,b,i,ev,π',u,v,F,H,y,I⟩⟩:=k.run (Pr:=Pr) w W #[] #[] d C;refine⟨L,n,.inl λτ f=>?_⟩;obtain⟨x,w',c,e1,J,e3⟩:=h τ f;simp only[e1];exact D x w' c J e3;rw[UL]at v;rw[v];obtain⟨z,j,g|⟨fr,cs,w2,o,K,CS,M,q,r,N,O,R,T,U,V,X⟩⟩:=E π' a b w' i c ev (d+L.length) y.le F H I;refine⟨L++z,hZ n j,.inl λτ f=>?_⟩;have:=hU f;simp only[u τ this.1];exact g τ this.2;refine⟨L++z,hZ n j,.inr ⟨fr,cs,w2,o,K,CS,M,q,r,λτ f=>?_,O,R,y.trans T,U,V,X⟩⟩;have:=hU f;simp only[u τ this.1];exact(N τ this.2).trans (by rw[TR,Vm])
def dE.still(c:bq S Pr π w W){fr a cs CS}(f:bj (bf S π) cs CS)(g:JU S P fs π cs fr a)(b:Sh st (rb fr::cs.map rb))(es){ev}(h:∀e∈ev,lx Pr π e):dE S Pr P fs D0 st π w W d (λw=>.go ⟨fr,cs++D0,.running,none,none⟩ w es) (λB=>.go ⟨a,CS++B,.running,none,none⟩ W ev):=
 ⟨[],by simp,.inr ⟨fr,cs,w,es,a,CS,W,ev,π,λτ _=>rfl,λ_=>rfl,c,Chg.refl _ _ _,h,f,g,b⟩⟩
def dE.xu{a GS}(h:∀τ,jR P.globals.size D0 (a (av w τ d))):dE S Pr P fs D0 st π w W d a GS:=⟨[],by simp,.inl λτ _=>h τ⟩
def Ea(p f es):∀e∈seen p f es,e∈es:=by
 have key:∀(l:List Event) (q:Bool) (k:Array Event) (g:FuncId->Bool),∀e∈(l.foldl (λ(x:Bool×Array Event) e=>match x with|(q,kept)=>match e.loc with
  | .mark (.extern f)=>(g f,kept)
  |_=>(q,if q&& !e.sync then kept else kept.push e)) (q,k)).2,e∈k\/e∈l:=by
  intro l;induction l with
  |nil=>exactλq k g e h=>.inl h
  |cons x l a=>
   intro q k g e h;simp only[Wn]at h;split at h
   .obtain h|h:=a _ _ _ _ h
    .exact .inl h
    .exact .inr (.tail _ h)
   .obtain h|h:=a _ _ _ _ h
    .split at h
     .exact .inl h
     .obtain h|rfl:=VB.1 h
      .exact .inl h
      .exact .inr (.head _)
    .exact .inr (.tail _ h)
 intro e h;unfold seen at h;simp only[]at h;rw[<-VL]at h;obtain h|h:=key _ _ _ _ e h;simp at h;simpa using h
def bf.eval(b:∀g,S.dB g=true->π g g){f F}(h:bf S π f F):EvR S π f.eval F.eval:=by
 intro x a;cases x with
 |tmp t=>simp only[Frame.eval];have c:=h.tmps.get t;rw[Up,Up];generalize f.tmps[t]? =u at*;generalize F.tmps[t]? =v at*;cases c with|none=>exact az.tuple' .empty|some h=>exact h
 |const v=>exact oM v a _ _
 |global g=>exact .ptr (.mk (b g a))
 |func f=>exact .func (.func f (by simpa[bZ]using a)) rfl (λi x X h=>by simp at h) rfl (λi x X h=>by simp at h)
def bf.finish{f F}(h:bf S π f F){v V}(m:az π v V):bf S π (f.finish v) (F.finish V):=by
 have a:=h.todo;obtain⟨fn,tmps,todo,defers,mode,kind,t⟩:=f;obtain⟨u,c,g,b,j,k,x⟩:=F;simp only[]at a;unfold Frame.finish;cases a with
 |nil=>exact h
 |cons n a=>
  cases n with
  |inRegion l q=>cases l with|nil=>exact h|cons i rest=>(have e:∀ops:Array Oper,((ops.map cJ)[i]?).bind (·.dst)=(ops[i]?).bind (·.dst):=λops=>by rw[T3];cases ops[i]? with|none=>rfl|some o=>exact Ab o);simp only[e];refine{h with tmps:=?_,todo:=.cons (.inRegion rest q) a};split;exact h.tmps.set _ m;exact h.tmps
  |inRangeFunc r=>exact{h with todo:=.cons (.endRangeFunc r) a}
  |beginRound=>exact{h with todo:=a}
  |_=>exact h
def bf.marks{f F}(h:bf S π f F):Marks π f:=Mz h.defers
def JV{f F}(h:bf S π f F){cs CS}(b:bj (bf S π) cs CS):∀g∈f::cs,Marks π g:=by intro g a;cases a with|head=>exact h.marks|tail _ a=>obtain⟨y,c⟩:=b.left g a;exact c.marks
def sG{f F}(h:bf S π f F){cs CS}(a:bj (bf S π) cs CS){w'}(c:Dp π w')(v es):jR P.globals.size D0 (.go ⟨f.raise [{v,recovered:=false}],cs++D0,.running,none,none⟩ w' es):=by (have i:=JV h a;have e:f.raise [{v,recovered:=false}]={f with mode:=.panicking [{v,recovered:=false}]}:=by unfold Frame.raise;rcases h.calm with a|a<;>rw[a]);refine⟨π,cs,rfl,rfl,rfl,rfl,⟨_,by rw[e]⟩,λg b=>?_,c,λg b=>by obtain⟨y,j⟩:=a.left g b;exact j.calm⟩;cases b with|head=>rw[e];exact h.marks|tail _ b=>exact i g (.tail _ b)
def tU(n:Tab S P fs)(f:FuncId)(o:S.stop f=true\/S.ent f=true){a A}(b:S.stop f=true->a.size=1)(e:VsR π a A){cs}(h:cs≠[]):JU S P fs π cs (Frame.enter (ai P fs) f a .normal) (Frame.enter P f A .normal):=by by_cases i:S.stop f=true;exact .inr ⟨h,f,a,A,i,⟨b i,e⟩,rfl,rfl⟩;have k:=o.resolve_left i;obtain⟨_,g,c,e1,m,_,q,j⟩:=n.ent f k;refine .inl ⟨rfl,k,?_,?_,.nil,rfl,.inl rfl,rfl,rfl,.none⟩;simp only[Frame.enter,show(ai P fs).funcs=fs from rfl,e1,m];rw[<-e.1];exact e.append (fH (iD _ (λ_ _=>az.tuple' .empty)));simp only[Frame.enter,show(ai P fs).funcs=fs from rfl,e1,m,Vn,q];exact .cons (.code j) .nil
def bf.MA{f F}(h:bf S π f F):(∀d r s k,f.todo≠ .call d true r s::k)/\∀d r s k,F.todo≠ .call d true r s::k:=by have a:=h.todo;generalize f.todo=t at*;generalize F.todo=T at*;cases a with|nil=>exact⟨by simp,by simp⟩|cons b _=>cases b<;>exact⟨by simp,by simp⟩
def ko{p f es}(h:∀e∈es,lx Pr π e):∀e∈seen p f es++#[],lx Pr π e:=λe a=>h e (Ea p f es e (by simpa using a))
section applied
variable {p:Program} {fr:Frame} {cs:List Frame} {s:Sem Next} {es:Array Event} {F0 Z1:World}
def uK{v}(h:s.runT p F0 #[]=(.ok (.value v) Z1,es))(a:fr.kind=.normal):stepG.apply p true fr cs none s F0=.go ⟨fr.finish v,cs,.running,none,none⟩ Z1 (seen p fr.fn es++#[]):=by simp only[stepG.apply,h,a,GStep.after,TK];rfl
def xw(h:s.runT p F0 #[]=(.ok .skip Z1,es))(a:fr.kind=.normal):stepG.apply p true fr cs none s F0=.go ⟨fr.finish bi,cs,.running,none,none⟩ Z1 (seen p fr.fn es++#[]):=by simp only[stepG.apply,h,a,GStep.after,TK];rfl
def uL{f a}(h:s.runT p F0 #[]=(.ok (.enter f a) Z1,es))(b:fr.kind=.normal)(c:∀d r s k,fr.todo≠ .call d true r s::k):stepG.apply p true fr cs none s F0=.go ⟨Frame.enter p f a .normal,fr::cs,.running,none,none⟩ Z1 (seen p fr.fn es++#[]):=by simp only[stepG.apply,h,b,GStep.after,TK];rw[Tu (by decide)]
def uM{l f t as body}(h:s.runT p F0 #[]=(.ok (.round l f t as body) Z1,es))(a:fr.kind=.normal):stepG.apply p true fr cs none s F0=.go ⟨Frame.round l f t as body .normal,fr::cs,.running,none,none⟩ Z1 (seen p fr.fn es++#[]):=by simp only[stepG.apply,h,a,GStep.after,TK];rfl
def Eb{v}(h:s.runT p F0 #[]=(.halt (.panic v) Z1,es))(a:fr.kind=.normal):∃es',stepG.apply p true fr cs none s F0=.go ⟨fr.raise [{v,recovered:=false}],cs,.running,none,none⟩ Z1 es':=by simp only[stepG.apply,h,a,GStep.after,TK];exact⟨_,rfl⟩
def GF{x}(a:gI x)(b:∀v,x≠ .panic v)(h:s.runT p F0 #[]=(.halt x Z1,es)):∃o w es',stepG.apply p true fr cs none s F0=.ended o w es':=by
 cases x with
 |panic v=>exact absurd rfl (b v)
 |stuck=>simp only[stepG.apply,h,GStep.after,TK];exact⟨_,_,_,rfl⟩
 |unsupported u=>cases u with|initOrder=>exact a.elim|_=>simp only[stepG.apply,h,GStep.after,TK];exact⟨_,_,_,rfl⟩
 |_=>exact a.elim
end applied
def mf(N:Tab S P fs){f F}(h:bf S π f F){cs CS}(K:bj (bf S π) cs CS){s s'}(O:SR S (ai P fs) P (NQ S) π s s')(Q:bq S Pr π w W):dE S Pr P fs D0 (rb f::cs.map rb) π w W d (λw=>stepG.apply (ai P fs) true f (cs++D0) none s w) (λB=>stepG.apply P true F (CS++B) none s' W):=by obtain⟨L,k,R|⟨a,w',C,b,q,ev,π',r,m,U,u,j,y⟩⟩:=O.run (Pr:=Pr) w W #[] #[] d Q;refine⟨L,k,.inl λτ c=>?_⟩;obtain⟨x,w',C,e1,X,e3⟩:=R τ c;by_cases M:∃v,x=.panic v;obtain⟨v,rfl⟩:=M;obtain⟨n,e⟩:=Eb (fr:=f) (cs:=cs++D0) e1 h.kind;simp only[e];exact sG h K e3 v n;obtain⟨o,w2,n,e⟩:=GF (fr:=f) (cs:=cs++D0) X (λv D=>M ⟨v,D⟩) e1;simp only[e];trivial;rw[UL]at m;have i:=K.mono λ_ _ x=>bf.mono j.le x;have z:=h.mono j.le;cases U with| @value v V D=>exact⟨L,k,.inr ⟨f.finish v,cs,w',_,F.finish V,CS,q,_,π',λτ c=>uK (r τ c) h.kind,λ_=>uK m h.Kind,u,j,ko y,i,.inl (z.finish D),by rw[mJ];exact .inl rfl⟩⟩|skip=>exact⟨L,k,.inr ⟨f.finish bi,cs,w',_,F.finish bi,CS,q,_,π',λτ c=>xw (r τ c) h.kind,λ_=>xw m h.Kind,u,j,ko y,i,.inl (z.finish (az.tuple' .empty)),by rw[mJ];exact .inl rfl⟩⟩| @enter g a A E H I=>exact⟨L,k,.inr ⟨_,f::cs,w',_,_,F::CS,q,_,π',λτ c=>uL (r τ c) h.kind h.MA.1,λ_=>uL m h.Kind h.MA.2,u,j,ko y,.cons z i,tU N g E H I (by simp),.inr (.inl ⟨_,rfl⟩)⟩⟩| @round l LL g t T as body E Y J I Z=>refine⟨L,k,.inr ⟨_,f::cs,w',_,_,F::CS,q,_,π',λτ c=>uM (r τ c) h.kind,λ_=>uM m h.Kind,u,j,ko y,.cons z i,.inl ?_,.inr (.inl ⟨_,rfl⟩)⟩⟩;exact⟨rfl,E,J,.cons (.same I) (.cons .beginRound (.cons (.same Z) .nil)),.nil,rfl,.inl rfl,rfl,rfl,.some Y⟩
def GJ(a){k K}(h:bj (fI S π) k K):dM (bj (fI S π)) (exitTo a k) (exitTo a K):=by induction h with|nil=>exact .none| @cons x X k K c e b=>cases c with|inBlock i=>simp only[exitTo];split;exact .some e;exact b|_=>exact b
def B7(l):∀(b) (r),S.code b->findLabel b l=some r->S.code r:=by intro b;induction b with|seq a b g h=>intro r f c;simp only[Kn.code,codeOk,TH]at f;unfold findLabel at c;split at c;rename_i i e;cases c;have:=g i f.1 e;simp only[Kn.code,codeOk,TH];exact⟨this,f.2⟩;exact h r f.2 c|label j=>intro r f c;simp only[findLabel]at c;split at c;cases c;rfl;cases c|_=>intro r f c;simp[findLabel]at c
def GK(l){k K}(h:bj (fI S π) k K):dM (bj (fI S π)) (gotoIn l k) (gotoIn l K):=by
 induction h with
 |nil=>exact .none
 | @cons x X k K f g a=>
  cases f with
  | @inScope b c=>simp only[gotoIn];cases e:findLabel b l with|none=>exact a|some r=>exact .some (.cons (.same (B7 l b r c e)) (.cons (.inScope c) g))
  |_=>exact a
def Ec{t T}(h:VsR π t T)(ops j):yielded ops t j=yielded ops T j:=by
 unfold yielded;cases(ops[j]?).bind (·.dst)with
 |none=>rfl
 |some d=>
  simp only[Vn];have b:=h.get d;generalize t[d]? =u at*;generalize T[d]? =v at*;cases b with
  |none=>rfl
  | @some x y h=>
   cases h with
   |mv _ a=>cases y<;>first|rfl|(simp[eo]at a;done)
   |_=>rfl
def Ee{l L}(h:π l L)(jump)(b:∀c,jump=some c->S.code c):SR S (ai P fs) P VQ π (Instr.endRound l jump) (Instr.endRound L jump):=by unfold Instr.endRound;refine(kS h).bind ?_;intro e f r R a;refine(eF (f _ _ h) (by simp) (.loop (l:={r with state:=if jump.isNone then .ready else .done,pending:=jump}) (L:={R with state:=if jump.isNone then .ready else .done,pending:=jump}) ⟨rfl,rfl,b,a.fn,a.ent,a.tmps,a.params,a.assign,a.Q4,a.body,a.Q5,a.defers⟩)).bind ?_;intro g i _ _ _;exact aj (.bool _)
def GL{l L}(h:π l L):SR S (ai P fs) P (λ_ a A=>a=A/\∀c,a=some c->S.code c) π (Instr.endLoop l) (Instr.endLoop L):=by unfold Instr.endLoop;refine(kS h).bind ?_;intro e f r R b;rw[<-b.state];refine cZ (.never (aB (aF _))) ?_;refine(eF (f _ _ h) (by simp) (.loop (l:={r with state:=.exhausted}) (L:={R with state:=.exhausted}) {b with state:=rfl})).bind ?_;intro g i _ _ _;rw[<-b.pending];exact aj ⟨rfl,b.SP⟩
def y8{l L}(h:π l L):SR S (ai P fs) P EqQ π (Instr.beginRound l) (Instr.beginRound L):=by unfold Instr.beginRound;refine(kS h).bind ?_;intro b c r R a;refine(eF (c _ _ h) (by simp) (.loop (l:={r with state:=.busy}) (L:={R with state:=.busy}) {a with state:=rfl})).bind ?_;intro e f _ _ _;rw[<-a.state];split;exact aj rfl;exact dh;exact dh;exact dh
def vH{r R}(h:π r R):SR S (ai P fs) P (λ_ a A=>a=[]/\A=[]) π (Instr.takeDeferred r) (Instr.takeDeferred R):=by unfold Instr.takeDeferred;refine(cj h).bind ?_;intro b c o O e;cases e with|deferred=>refine(eF (c _ _ h) (by simp) .eK).bind ?_;intro f g _ _ _;exact aj ⟨rfl,rfl⟩|_=>exact aq
abbrev Qw(π:Ren P.globals.size):Nat×List Deferred->Nat×List Deferred->Prop:=λa A=>π a.1 A.1/\bj (pU π) a.2 A.2
def B8{fn:FuncId}(j:S.ent fn=true){t T}(k:VsR π t T)(params){as body}(m:S.code as)(n:S.code body){o u}(b:dM (λl L=>π l L) o u):SR S (ai P fs) P (λπ' a A=>Qw π' a A) π (Instr.enterLoop fn t params as body o) (Instr.enterLoop fn T params as body u):=by unfold Instr.enterLoop;cases b with|none=>refine(ia .deferred).bind ?_;intro e f r R b;refine(ia (.loop (l:=⟨.ready,none,fn,t,params,as,body,r⟩) (L:=⟨.ready,none,fn,T,params,as,body,R⟩) ⟨rfl,rfl,(λc h=>by cases h),rfl,j,VsR.mono f k,rfl,rfl,m,rfl,n,b⟩)).bind ?_;intro g v q Q i;exact aj ⟨i,.cons (.mk (v _ _ b)) .nil⟩|some x=>refine(kS x).bind ?_;intro e f r R b;refine(ia (.loop (l:=⟨.ready,none,fn,t,params,as,body,r.defers⟩) (L:=⟨.ready,none,fn,T,params,as,body,R.defers⟩) ⟨rfl,rfl,(λc h=>by cases h),rfl,j,VsR.mono f k,rfl,rfl,m,rfl,n,b.defers⟩)).bind ?_;intro g v q Q i;exact aj ⟨i,.nil⟩
def GM{c:Type}{f F:c->Sem Value}(xs:Array c)(h:∀(π'),Ren.le π π'->∀x,SR S (ai P fs) P VQ π' (f x) (F x)):SR S (ai P fs) P VsQ π (xs.mapM f) (xs.mapM F):=by (obtain⟨l⟩:=xs;simp only[List.mapM_toArray];have key:∀(l:List c) (π':Ren P.globals.size),Ren.le π π'->SR S (ai P fs) P (λb a A=>bj (az b) a A) π' (l.mapM f) (l.mapM F):=by intro l;induction l with|nil=>intro π' e;simp only[List.mapM_nil];exact aj .nil|cons x l i=>intro π' e;simp only[List.mapM_cons];refine(h π' e x).bind ?_;intro b j v V k;refine(i b (Ren.le_trans e j)).bind ?_;intro m n o q g;exact aj (.cons (k.mono n) g));exact L0 (key l π (Ren.le_refl _)) λπ' a A h=>h.toArray
def rj(g){t T}(h:VsR π t T):SR S (ai P fs) P VQ π (results g t) (results g T):=by (unfold results;have e:∀{π':Ren P.globals.size},Ren.le π π'->∀i,az π' (t.getD i bi) (T.getD i bi):=by intro π' l i;have j:=(VsR.mono l h).get i;rw[Up,Up];generalize t[i]? =u at*;generalize T[i]? =v at*;cases j with|none=>exact az.tuple' .empty|some h=>exact h);refine(GM g.results λπ' l x=>?_).bind ?_;(cases x with|tmp i=>exact aj (e l i)|cell a t=>refine(zL (e l a)).bind ?_;intro k q a A m;exact wK t m);intro n r o y b;refine aj ?_;have f:=b.1;by_cases c:o.size=1;rw[U9 c,U9 (f▸c)];exact b.2 0 _ _ (TW _) (TW _);rw[dif_neg c,dif_neg (f▸c)];exact az.tuple' b
end
def Kx{e σ:Type}(b:σ->Prop)(f:e->σ->Option (ForInStep σ))(i:∀a s r,b s->f a s=some r->b (match r with| .yield s=>s| .done s=>s)):∀(l:List e) (s s':σ),b s->forIn l s f=some s'->b s':=by intro l;induction l with|nil=>intro s s' d h;simp at h;exact h▸d|cons a l j=>intro s s' d h;rw[WH]at h;cases c:f a s with|none=>rw[c]at h;cases h|some r=>rw[c]at h;have:=i a s r d c;cases r with|done g=>simp at h;exact h▸this|yield g=>exact j g s' this h
def PZ(i:TypeInfo):Prop:=∀z,i.zero=some z->Plain z
def pc{c}(h:bh c):Plain (.agg c):=λG π=>.FG ⟨rfl,λi x y a b=>by rw[a]at b;cases b;exact h i x a G π⟩
def bh.app{a b}(c:bh a)(d:bh b):bh (a++b):=λi v h=>by rw[Vr]at h;split at h;exact c _ _ h;exact d _ _ h
def CB(e)(n:∀t i,e t=some i->PZ i)(fs i)(h:Made.reckonStruct e fs=some i):PZ i:=by
 unfold Made.reckonStruct at h;simp only[<-UW,bind,UP]at h;obtain⟨r,o,l⟩:=h;have k:=Kx (λs:Array Field×Nat×Nat×Nat×Nat×Bool×Bool×Option (Array Value)×String=>∀c,s.2.2.2.2.2.2.2.1=some c->bh c) _ (λa s x p f=>?_) fs.toList _ r (λc d=>by cases d;exactλi v q=>by simp at q) o;have u:i.zero=r.2.2.2.2.2.2.2.1.map .agg:=by revert l;simp only[pure];split<;>(intro l;cases l;rfl)
 intro z m;rw[u]at m;obtain⟨c,d,rfl⟩:=T4.1 m;exact pc (k c d)
 cases g:e a.type with
 |none=>rw[g]at f;cases f
 |some j=>
  rw[g]at f;simp only[Vn,pure]at f;have fin:∀c,(if s.2.1+j.size>Made.mostCells then none else s.2.2.2.2.2.2.2.1.bind λa=>j.zero.bind λb=>some (a++b.cells))=some c->bh c:=by intro c d;split at d;cases d;simp only[UP]at d;obtain⟨w,y,z,A,B⟩:=d;cases B;exact(p w y).app ((n _ _ g z A).cells)
  repeat' split at f
  all_goals simp only[Option.bind_none,UP,reduceCtorEq,Ug]at f
  all_goals try (exact f.elim)
  all_goals first
   |(subst f;intro c d;first|(cases d;done)|exact fin c d|exact fin c (by rw[Tu (by assumption)];exact d))
   |(obtain⟨C,_,f⟩:=f;subst f;intro c d;first|(cases d;done)|exact fin c d|exact fin c (by rw[Tu (by assumption)];exact d))
def jc(d s z)(a:ga z=true)(c b):PZ (Made.word d s z c b):=by intro e h;have:(Made.word d s z c b).zero=some z:=rfl;rw[this]at h;cases h;exact oM _ a
def CE{c}(h:bh c)(n):bh (Array.replicate n c).flatten:=by intro i v e;have b:=Uq e;rw[Array.mem_flatten]at b;obtain⟨d,f,a⟩:=b;have:=Array.eq_of_mem_replicate f;subst this;obtain⟨j,g⟩:=VX.1 a;exact h j v g
def CF(e)(g:∀t i,e t=some i->PZ i)(d i)(h:Made.reckon e d=some i):PZ i:=by cases d<;>simp only[Made.reckon,bind,UP,pure,reduceCtorEq]at h;obtain⟨a,j,h⟩:=h;split at h;cases h;split at h;cases h;obtain⟨x,_,h⟩:=UP.1 h;cases h;exact jc _ _ _ rfl _ _;obtain⟨x,_,h⟩:=UP.1 h;cases h;exact jc _ _ _ rfl _ _;obtain⟨a,_,b,_,h⟩:=h;cases h;exact jc _ _ _ rfl _ _;obtain⟨a,j,b,_,h⟩:=h;cases h;intro z f;simp only[]at f;split at f;cases f;split at f;cases f;(exact pc λi v k=>by simp at k);obtain⟨l,m,rfl⟩:=T4.1 f;exact pc (CE ((g _ _ j l m).cells) _);obtain⟨a,_,b,_,c,_,d,_,h⟩:=h;cases h;exact jc _ _ _ rfl _ _;obtain⟨a,_,b,_,h⟩:=h;cases h;exact jc _ _ _ rfl _ _;exact CB e g _ i h;obtain⟨a,_,h⟩:=h;cases h;exact jc _ _ _ rfl _ _
def CG(T)(a:∀(t:Nat) i,T.types[t]? =some i->PZ i):∀(f) t i,Made.infoAt T f t=some i->PZ i:=by intro f;induction f with|zero=>intro t i h;cases h|succ f b=>intro t i h;unfold Made.infoAt at h;split at h;exact a t i h;obtain⟨d,_,h⟩:=UP.1 h;exact CF _ b d i h
def Hs(T:Tables)(a:∀(t:Nat) i,T.types[t]? =some i->PZ i)(t i)(h:T.info? t=some i):PZ i:=by unfold Tables.info? at h;split at h;exact a t i h;exact CG T a _ t i h
end Go.Tm

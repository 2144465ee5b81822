import Derived.ProofKit
import Derived.Test.YtaglpcmhopjebaaGreatDoorY5
set_option linter.all false
set_option maxRecDepth 100000
set_option maxHeartbeats 20000000
namespace Go.Tm
section
variable {S:Kn} {P:Program} {fs:Array Func} {π:Ren P.globals.size} {G:Nat} {ρ:Ren G}
def nO(b n):∀{π:Ren P.globals.size} (t) {x X},az π x X->(SR S (ah P fs) P) EqQ π (Instr.checkKey b n t x) (Instr.checkKey b n t X):=by
 induction n with
 |zero=>intros;exact aE
 |succ n m=>
  intro π t x X h;unfold Instr.checkKey;refine(aD t).bind ?_;rintro j y d _ ⟨rfl,A⟩;clear A;have h:=h.mono y;cases d with
  |interface L=>
   cases h<;>first|exact aq|exact ai rfl|skip
   rename_i B v V D;simp only[];refine(dj B).bind ?_;rintro E F i _ ⟨rfl,_⟩;split
   ·split
    ·exact .never (aA (aG _))
    ·exact .never (bz (qC _) λ_=>aA (aG _))
   ·exact m _ (D.mono F)
  |array len e=>
   cases h<;>first|exact aq|skip
   rename_i c C o p;have a:VsR j c C:=⟨o,p⟩
   simp only[UO];refine SR.bind (Q₁:=EqQ) (iF _ _ λg k f s=>?_) ?_
   ·refine(bG _).bind ?_
    rintro H I z _ rfl;refine(fX _ _ (VsR.mono I (VsR.mono k a))).bind ?_;intro q J u U r;refine(m _ r).bind ?_;rintro w K b _ _;exact ai rfl
   ·rintro g k s _ rfl
    exact ai rfl
  |struct l=>
   cases h<;>first|exact aq|skip
   rename_i c C o p;have a:VsR j c C:=⟨o,p⟩
   simp only[];rw[<-Ti,<-Ti];refine SR.bind (Q₁:=EqQ) (iF _ _ λg k f s=>?_) ?_
   ·refine cg ?_ (ai rfl)
    refine(fX _ _ (VsR.mono k a)).bind ?_;intro q J u U r;refine(m _ r).bind ?_;rintro w K b _ _;exact ai rfl
   ·rintro g k s _ rfl
    exact ai rfl
  |_=>cases h<;>exact ai rfl
abbrev Aq{G}(π:Ren G):Nat×Value->Nat×Value->Prop:=λa b=>a.1=b.1/\az π a.2 b.2
def tL(k){x X y Y}(a:az ρ x X)(b:az ρ y Y)(c:x≠ .tuple #[])(d:y≠ .tuple #[]):Instr.sameNow k x y=Instr.sameNow k X Y:=by cases a<;>(try exact absurd rfl c)<;>cases b<;>(try exact absurd rfl d)<;>first|rfl|(cases k<;>rfl)
def Ii(k y):Instr.sameNow k (.tuple #[]) y=none:=by cases k<;>rfl
def Ij(k x):Instr.sameNow k x (.tuple #[])=none:=by cases k<;>cases x<;>rfl
def CE(k){x X}(d:az ρ x X){l L}(f:bg (iv ρ) l L):∀i,dO (dO (Aq ρ)) (Instr.findNow k x l i) (Instr.findNow k X L i)\/Instr.findNow k x l i=none:=by
 induction f with
 |nil=>intro i;exact .inl (.some .none)
 | @cons e E l L a _ g=>
  intro i;unfold Instr.findNow;by_cases b:x=.tuple #[]
  ·rw[b,Ii];exact .inr rfl
  by_cases c:e.key=.tuple #[]
  ·rw[c,Ij];exact .inr rfl
  rw[tL k d a.key b c];split
  ·exact .inl (.some (.some ⟨rfl,a.val⟩))
  ·exact g _
  ·exact .inl .none
def CF(t){d}(c:P.underlying t=some d){x y b}(h:Instr.sameNow d x y=some b){a g Q}{f:Bool->Sem a}{s':Sem g}(i:(SR S (ah P fs) P) Q π (f b) s'):(SR S (ah P fs) P) Q π (Op.equal t x y>>= f) s':=by
 have e:∃k:Program->Sem a,(Op.equal t x y>>= f)=.program k/\k (ah P fs)=f b:=by
  unfold Op.equal Op.maxDepth Op.equalIn underlying;refine⟨_,rfl,?_⟩;simp only[Sem.bind,m6,c,Pure.pure];cases d<;>cases x<;>first
   |(simp[Instr.sameNow]at h;done)
   |(cases y<;>first
    |(simp[Instr.sameNow]at h;done)
    |(simp only[Instr.sameNow,Sg]at h;subst h;simp only[Sem.bind,Pure.pure])
    |(simp only[Instr.sameNow]at h;split at h
      ·rename_i j;simp only[Sg]at h;subst h;subst j;simp only[Sem.bind,Pure.pure,RG]
      ·cases h))
 obtain⟨k,e1,l⟩:=e;rw[e1];refine .lO ?_;rw[l];exact i
def Ik(t){d}(n:P.underlying t=some d){x X}(o:az π x X){l L}(p:bg (iv π) l L):∀(i) (r),Instr.findNow d X L i=some r->(SR S (ah P fs) P) (λc a b=>dO (Aq c) a b) π (Instr.findAsking t x l i) (pure r):=by
 induction p with
 |nil=>intro i r h;simp only[Instr.findNow,Sg]at h;subst h;exact ai .none
 | @cons e E l L f _ q=>
  intro i r h;unfold Instr.findAsking;unfold Instr.findNow at h;by_cases g:x=.tuple #[]
  ·rw[g];exact .never (aA (lC _ _))
  by_cases j:e.key=.tuple #[]
  ·rw[j];exact .never (aA (lD _ _))
  have k:=tL d o f.key g j;cases m:Instr.sameNow d X E.key with
  |none=>rw[m]at h;cases h
  |some b=>
   rw[m]at h k;refine CF t n k ?_;cases b with
   |true=>simp only[Sg]at h;subst h;exact ai (.some ⟨rfl,f.val⟩)
   |false=>exact q _ _ h
def pr(t){l L}:∀{π:Ren P.globals.size} {x X} (i),az π x X->bg (iv π) l L->(SR S (ah P fs) P) (λd a b=>dO (Aq d) a b) π (Instr.findAsking t x l i) (Instr.findAsking t X L i):=by
 induction l generalizing L with
 |nil=>intro π x X i f c;cases c;exact ai .none
 |cons e l j=>
  intro π x X i f c;cases c with
  |cons h c=>
  unfold Instr.findAsking;refine(vq t f h.key).bind ?_;rintro k g b _ rfl;refine cg (ai (.some ⟨rfl,h.val.mono g⟩)) ?_;exact j _ (f.mono g) (c.mono λ_ _ x=>iv.mono g x)
def qe(t){x X}(g:az π x X){l L}(j:bg (iv π) l L):(SR S (ah P fs) P) (λi a b=>dO (Aq i) a b) π (Instr.findKey t x l) (Instr.findKey t X L):=by
 unfold Instr.findKey;refine(aD t).bind ?_;rintro k e d _ ⟨rfl,m⟩;have c:=j.mono λ_ _ x=>iv.mono e x;have h:=CE d (g.mono e) c 0;have f:=Ik (S:=S) (fs:=fs) t m (g.mono e) c 0;generalize Instr.findNow d x l 0=u at*;generalize Instr.findNow d X L 0=v at*;obtain h|rfl:=h
 ·cases h with
  |some h=>exact ai h
  |none=>exact pr t 0 (g.mono e) c
 ·cases v with
  |none=>exact pr t 0 (g.mono e) c
  |some r=>exact f r rfl
def Ko{x X:Value}(g:az π x X){b c:Type}{Q:Ren P.globals.size->b->c->Prop}{s:String}{f:Array MapEntry->Sem b}{F:Array MapEntry->Sem c}
 (d:∀a,Ren.le π a->∀es e,aU (iv a) es e->(SR S (ah P fs) P) Q a (f es) (F e)):
 (SR S (ah P fs) P) Q π (do
  let es <-match x with
   | .map none=>pure #[]
   | .map (some r)=>do
    let .map es _ <-getObj r|stuck s
    pure es
   |_=>stuck s
  f es) (do
  let es <-match X with
   | .map none=>pure #[]
   | .map (some r)=>do
    let .map es _ <-getObj r|stuck s
    pure es
   |_=>stuck s
  F es):=by
 cases g with
 |Jz=>exact d _ (Ren.le_refl _) _ _ .empty
 |map h=>
  refine(cE h).bind ?_;intro i j o O k;cases k with
  |map n h=>exact d _ j _ _ h
  |_=>exact .never (aA (.halt _))
 |_=>exact .never (aA (.halt _))
def Il(o:du P)(t j){x X y Y}(k:az π x X)(e:az π y Y):(SR S (ah P fs) P) VQ π (Instr.lookup t x y j) (Instr.lookup t X Y j):=by
 unfold Instr.lookup;refine(aD t).bind ?_;rintro p m d _ ⟨rfl,B⟩;cases d<;>first|exact aq|skip
 rename_i key f;have k:=k.mono m;have e:=e.mono m;refine Ko k ?_;intro q r es ES g;have i:es.isEmpty=ES.isEmpty:=by simp only[Array.isEmpty,g.1]
 rw[i];have e:=e.mono r;refine(nO _ _ _ e).bind ?_;intro s n _ _ _;refine(qe _ (e.mono n) (g.toList.mono λ_ _ x=>iv.mono n x)).bind ?_;intro w C u v l;have c:∀{a:Ren P.globals.size} (v V:Value) (b:Bool),az a v V->az a (if j then .tuple #[v,.bool b]else v) (if j then .tuple #[V,.bool b]else V):=by
  intro a v V b h;split
  ·exact az.tuple' (aU.push (aU.push aU.empty h) (.bool b))
  ·exact h
 cases l with
 |none=>refine(dW o f).bind ?_;rintro a D z _ ⟨rfl,A⟩;exact ai (c _ _ _ (A _ _))
 |some h=>exact ai (c _ _ _ h.2)
def Ar(n):∀{x X y Y},az ρ x X->az ρ y Y->Instr.sameBits n x y=true->Instr.sameBits n X Y=true:=by
 have f:∀{r R s Z:Nat},ρ r R->ρ s Z->(some r==some s)=(some R==some Z):=by
  intro r R s Z h i;have e:r=s↔R=Z:=⟨λe=>by subst e;exact ρ.fn _ _ _ h i,λe=>by subst e;exact ρ.inj _ _ _ h i⟩
  rw[SV];simp[e]
 have g:∀{a A b B:Addr},aP ρ a A->aP ρ b B->(some a==some b)=(some A==some B):=by intro a A b B h i;have:=(h.eq i).2;rw[SV]at this⊢;simpa using this
 induction n with
 |zero=>intro x X y Y j k h;cases j<;>cases k<;>first|exact h|(simp[Instr.sameBits]at h;done)|exact(g (by assumption) (by assumption)).symm.trans h|exact(f (by assumption) (by assumption)).symm.trans h
 |succ n v=>
  intro x X y Y j k h;cases j<;>cases k<;>first|exact h|(simp[Instr.sameBits]at h;done)|exact(g (by assumption) (by assumption)).symm.trans h|exact(f (by assumption) (by assumption)).symm.trans h|skip
  ·rename_i o _ _ _ p
   unfold Instr.sameBits at h⊢;simp only[RD]at h⊢;exact⟨h.1,v o p h.2⟩
  ·rename_i c C w o d D z p
   have E:=aU.toList ⟨w,o⟩;have F:=aU.toList ⟨z,p⟩;have key:∀{l L m M:List Value},bg (az ρ) l L->bg (az ρ) m M->((l.zip m).all λ(x,y)=>Instr.sameBits n x y)=true->((L.zip M).all λ(x,y)=>Instr.sameBits n x y)=true:=by
    intro l L m M H;induction H generalizing m M with
    |nil=>intro _ _;rfl
    |cons h _ q=>
     intro t u;cases t with
     |nil=>rfl
     |cons i t=>simp only[List.zip_cons_cons,Td,RD]at u⊢;exact⟨v h i u.1,q t u.2⟩
   unfold Instr.sameBits at h⊢;simp only[RD]at h⊢;rw[w,z]at h;exact⟨h.1,key E F h.2⟩
def nf{x X y Y}(b:az π x X)(a:az π y Y):(SR S (ah P fs) P) VQ π (Instr.keyThatStays x y) (Instr.keyThatStays X Y):=by
 unfold Instr.keyThatStays;have d:=Ar 10000 b a;generalize Instr.sameBits 10000 x y=u at*;generalize Instr.sameBits 10000 X Y=v at*;cases u with
 |true=>rw[d rfl];exact ai a
 |false=>
  cases v with
  |true=>exact .mo 0 (n:=0) (λf g h=>by cases h) rfl (ai a)
  |false=>
   simp only[RQ,RP];refine(en _).bind ?_;rintro e c n _ rfl;refine ai ?_;split
   ·exact a.mono c
   ·exact b.mono c
def nP{R es a}(h:aU R es a)(i){f F:MapEntry->MapEntry}(c:∀e E,R e E->R (f e) (F E)):aU R (es.modify i f) (a.modify i F):=aU.kW λj=>by
 rw[SH,SH];have b:=h.get j;split
 ·generalize es[j]? =u at*
  generalize a[j]? =v at*;cases b with
  |none=>exact .none
  |some r=>exact .some (c _ _ r)
 ·exact b
def yQ{es a}(h:aU (iv ρ) es a)(i:Nat){k K}(b:az ρ k K):az ρ (((es[i]?).map (·.key)).getD k) (((a[i]?).map (·.key)).getD K):=by
 have c:=h.get i;generalize es[i]? =u at*;generalize a[i]? =v at*;cases c with
 |none=>exact b
 |some r=>exact r.key
def E7{es a}(h:aU (iv ρ) es a)(i:Nat){b:Type}(f:Nat->b)(d):(((a[i]?).map (λx=>f x.born)).getD d)=(((es[i]?).map (λx=>f x.born)).getD d):=by
 have c:=h.get i;generalize es[i]? =u at*;generalize a[i]? =v at*;cases c with
 |none=>rfl
 |some r=>exact R6 f r.born.symm
def rp(t){x X k K v V}(m:az π x X)(b:az π k K)(c:az π v V):(SR S (ah P fs) P) EqQ π (Instr.mapUpdate t x k v) (Instr.mapUpdate t X K V):=by
 unfold Instr.mapUpdate;refine(aD t).bind ?_;rintro A g d _ ⟨rfl,N⟩;cases d<;>first|exact aq|skip
 rename_i key r;have m:=m.mono g;cases m with
 |Jz=>exact db
 |map h=>
  refine(cE h).bind ?_;intro B j o O C;cases C with
  | @map es Q n a=>
   refine(nO _ _ _ ((b.mono g).mono j)).bind ?_;intro D l _ _ _;have b:=((b.mono g).mono j).mono l;have c:=((c.mono g).mono j).mono l;have a:=a.mono λ_ _ x=>iv.mono l x;have h:=l _ _ (j _ _ h);refine(qe _ b a.toList).bind ?_;intro F f u w p;have b:=b.mono f;have c:=c.mono f;have a:=a.mono λ_ _ x=>iv.mono f x;cases p with
   |none=>exact eo (f _ _ h) (by simp) (.map _ (a.push ⟨b,c,rfl⟩))
   | @some u w H=>obtain⟨i,y⟩:=u;obtain⟨R,Y⟩:=w;obtain⟨s,I⟩:=H;simp only[]at s I;subst s;refine(nf (yQ a i b) b).bind ?_;intro J q z Z L;exact eo (q _ _ (f _ _ h)) (by simp) (.map _ (nP (a.mono λ_ _ x=>iv.mono q x) i λe E M=>⟨L,c.mono q,M.born⟩))
  |_=>exact aq
 |_=>exact aq
def CG(m:du P)(t){x X k K}(p:az π x X)(c:az π k K):(SR S (ah P fs) P) VQ π (Instr.mapEntry t x k) (Instr.mapEntry t X K):=by
 unfold Instr.mapEntry;refine(aD t).bind ?_;rintro I q d _ ⟨rfl,T⟩;cases d<;>first|exact aq|skip
 rename_i key j;have p:=p.mono q;cases p with
 |Jz=>exact db
 |map h=>
  refine(cE h).bind ?_;intro J r o O L;cases L with
  | @map es U b a=>
   refine(nO _ _ _ ((c.mono q).mono r)).bind ?_;intro M s _ _ _;have c:=((c.mono q).mono r).mono s;have a:=a.mono λ_ _ x=>iv.mono s x;have h:=s _ _ (r _ _ h);refine(qe _ c a.toList).bind ?_;intro N l u w v;have c:=c.mono l;have a:=a.mono λ_ _ x=>iv.mono l x;cases v with
   |none=>refine(dW m j).bind ?_;rintro f g z _ ⟨rfl,B⟩;refine(eo (g _ _ (l _ _ h)) (by simp) (.map _ (aU.push (a.mono λ_ _ x=>iv.mono g x) (⟨c.mono g,B _ _,rfl⟩:iv f ⟨k,z,b⟩ ⟨K,z,b⟩)))).bind ?_;intro A C _ _ _;exact ai (az.tuple' (aU.push (aU.push aU.empty (B _ _)) (.int _ _)))
   | @some u w Q=>obtain⟨i,y⟩:=u;obtain⟨V,Y⟩:=w;obtain⟨D,F⟩:=Q;simp only[]at D F;subst D;refine(nf (yQ a i c) c).bind ?_;intro f g z Z m;refine(eo (g _ _ (l _ _ h)) (by simp) (.map _ (nP (a.mono λ_ _ x=>iv.mono g x) i λe E H=>(⟨m,H.val,H.born⟩:iv f {e with key:=z} {E with key:=Z})))).bind ?_;intro A C _ _ _;have R:=E7 a i (λn:Nat=>(n:Int)) 0;rw[R];exact ai (az.tuple' (aU.push (aU.push aU.empty ((F.mono g).mono C)) (.int _ _)))
  |_=>exact aq
 |_=>exact aq
def CH{es a}(h:aU (iv ρ) es a)(b):a.findIdx? (λe=>(e.born:Int)==b)=es.findIdx? (λe=>(e.born:Int)==b):=by
 have:=h.toList;obtain⟨l⟩:=es;obtain⟨L⟩:=a;simp only[List.findIdx?_toArray];simp only[]at this;clear h;induction this with
 |nil=>rfl
 |cons c _ d=>rw[List.findIdx?_cons,List.findIdx?_cons,c.born,d]
def xV(t){x X k K v V}(g:az π x X)(i:az π k K)(j:az π v V):(SR S (ah P fs) P) EqQ π (Instr.entryStore t x k v) (Instr.entryStore t X K V):=by
 unfold Instr.entryStore;cases g with
 |map h=>
  refine(cE h).bind ?_;intro l b o O m;cases m with
  | @map es q c a=>
   refine(jd (i.mono b)).bind ?_;rintro p d n _ rfl;have a:=a.mono λ_ _ x=>iv.mono d x;rw[CH a];split
   ·exact eo (d _ _ (b _ _ h)) (by simp) (.map _ (nP a _ λe E f=>⟨f.key,(j.mono b).mono d,f.born⟩))
   ·exact aE
  |_=>exact aq
 |_=>exact aq
def Kp(t){x X}(b:az π x X):(SR S (ah P fs) P) VQ π (Instr.range t x) (Instr.range t X):=by
 unfold Instr.range;refine(aD t).bind ?_;rintro e f d _ ⟨rfl,g⟩;clear g;have b:=b.mono f;have fin:∀{a:Ren P.globals.size} {o O:Obj},fA S a o O->(SR S (ah P fs) P) VQ a (do pure (.pointer (some ⟨<-newObj o,0,none⟩))) (do pure (.pointer (some ⟨<-newObj O,0,none⟩))):=by intro a o O c;refine(gL c).bind ?_;intro i m r R j;exact ai (.ptr (.mk j))
 cases d with
 |string=>cases b<;>first|exact fin (.stringIter _ _)|exact .never (aA (.halt _))
 |map=>
  cases b<;>first|exact fin (.eX _ _ _)|exact .never (aA (.halt _))|skip
  rename_i r R h;refine(cE h).bind ?_;intro a k o O c;cases c with
  |map n l=>exact fin (.mapIter _ _ _ (k _ _ h))
  |_=>exact .never (aA (.halt _))
 |_=>cases b<;>exact .never (aA (.halt _))
def bg.filter{b c R l m}(h:bg R l m){p:b->Bool}{q:c->Bool}(d:∀x y,R x y->p x=q y):bg R (l.filter p) (m.filter q):=by
 induction h with
 |nil=>exact .nil
 |cons h _ a=>
  rw[S6,S6,d _ _ h];split
  ·exact .cons h a
  ·exact a
def aU.filter{a b R l m}(h:aU R l m){p:a->Bool}{q:b->Bool}(c:∀x y,R x y->p x=q y):aU R (l.filter p) (m.filter q):=by have:=(h.toList.filter c).toArray;obtain⟨l⟩:=l;obtain⟨m⟩:=m;simpa using this
def aU.all{a b R l m}(h:aU R l m){p:a->Bool}{q:b->Bool}(c:∀x y,R x y->p x=q y):l.all p=m.all q:=by
 have d:=h.toList;obtain⟨l⟩:=l;obtain⟨m⟩:=m;simp only[RS,List.all_toArray']at*;clear h;induction d with
 |nil=>rfl
 |cons h _ e=>rw[Td,Td,c _ _ h,e]
def aU.find{a b R l m}(h:aU R l m){p:a->Bool}{q:b->Bool}(c:∀x y,R x y->p x=q y):dO R (l.find? p) (m.find? q):=by
 have d:=h.toList;obtain⟨l⟩:=l;obtain⟨m⟩:=m;simp only[List.find?_toArray]at*;clear h;induction d with
 |nil=>exact .none
 |cons h _ e=>
  rw[List.find?_cons,List.find?_cons,c _ _ h];split
  ·exact .some h
  ·exact e
def aU.isEmpty{a b R}{l:Array a}{m:Array b}(h:aU R l m):l.isEmpty=m.isEmpty:=by simp only[Array.isEmpty,h.1]
def Kq{x X}(j:az π x X):(SR S (ah P fs) P) VQ π (Instr.entry x) (Instr.entry X):=by
 unfold Instr.entry;cases j with
 |ptr h=>
  cases h with
  | @mk r R o p h=>
   cases o with
   |succ=>exact aq
   |zero=>
   refine(cE h).bind ?_;intro k t ob w f;cases f with
   |mapIter a seen c l=>
    simp only[];cases seen.back? with
    |none=>exact aq
    |some b=>
     simp only[];refine(cE l).bind ?_;intro m y o O f;cases f with
     | @map es n g i=>
      simp only[];split
      ·exact .never (aA (.halt _))
      ·have s:=i.find (p:=λe=>e.born==b) (q:=λe=>e.born==b) λe E d=>by rw[d.born]
       generalize es.find? _=u at*;generalize n.find? _=v at*;cases s with
       |none=>exact aE
       |some d=>exact ai (az.tuple' (aU.push (aU.push aU.empty d.key) d.val))
     |_=>exact aq
   |_=>exact aq
 |_=>exact aq
def MT(b t){x X}(H:az π x X):(SR S (ah P fs) P) VQ π (Instr.next x b t) (Instr.next X b t):=by
 unfold Instr.next;cases H with
 |ptr h=>
  cases h with
  | @mk r R o p h=>
   cases o with
   |succ=>exact aq
   |zero=>
   refine(cE h).bind ?_;intro I J ob N z;have h:=J _ _ h;cases z with
   |stringIter s pos=>
    cases b with
    |false=>exact aq
    |true=>refine cg ?_ (ai (az.tuple' (aU.push aU.empty (.bool _))));refine(eo h (by simp) (.stringIter _ _)).bind ?_;intro j A _ _ _;exact ai (az.tuple' (aU.push (aU.push (aU.push aU.empty (.bool _)) (.int _ _)) (.int _ _)))
   |eX=>
    cases b with
    |true=>exact aq
    |false=>exact ai (az.tuple' (aU.push aU.empty (.bool _)))
   |mapIter a seen last w=>
    cases b with
    |true=>exact aq
    |false=>
     refine(cE w).bind ?_;intro j A o O z;have h:=A _ _ h;have w:=A _ _ w;cases z with
     | @map es K B i=>
      simp only[];rw[<-i.isEmpty,<-i.all (p:=λe=>decide (e.born>=last)) (q:=λe=>decide (e.born>=last)) λe E c=>by rw[c.born]];split
      ·exact .never (aA (.halt _))
      ·have d:=i.filter (p:=λe=> !seen.contains e.born) (q:=λe=> !seen.contains e.born) λe E c=>by rw[c.born]
       generalize es.filter (λe=> !seen.contains e.born)=left at*;generalize K.filter (λe=> !seen.contains e.born)=f at*;have g:=d.filter (p:=λe=>decide (e.born<a)) (q:=λe=>decide (e.born<a)) λe E c=>by rw[c.born]
       have k:=d.filter (p:=λe=>decide (e.born>=a)) (q:=λe=>decide (e.born>=a)) λe E c=>by rw[c.born]
       generalize left.filter (λe=>decide (e.born<a))=old at*;generalize f.filter (λe=>decide (e.born<a))=l at*;generalize left.filter (λe=>decide (e.born>=a))=new at*;generalize f.filter (λe=>decide (e.born>=a))=m at*;rw[<-g.isEmpty];have D:aU (dO (iv j)) ((if old.isEmpty then #[none]else #[])++(old++new).map some) ((if old.isEmpty then #[none]else #[])++(l++m).map some):=by
        refine aU.append ?_ ((g.append k).map λ_ _=>.some);split
        ·exact aU.push aU.empty .none
        ·exact .empty
       generalize ((if old.isEmpty then #[none]else #[])++(old++new).map some)=cs at*;generalize ((if old.isEmpty then #[none]else #[])++(l++m).map some)=CS at*;rw[<-D.1];refine(en _).bind ?_;rintro L y n _ rfl;have C:=D.get n;generalize cs[n]? =u at*;generalize CS[n]? =v at*;cases C with
       |none=>exact aq
       |some C=>
        cases C with
        |none=>exact ai (az.tuple' (aU.push aU.empty (.bool _)))
        |some c=>simp only[c.born];refine(eo (y _ _ h) (by simp) (.mapIter _ _ _ (y _ _ w))).bind ?_;intro M F _ _ _;exact ai (az.tuple' (aU.push (aU.push (aU.push aU.empty (.bool _)) ((c.key.mono y).mono F)) ((c.val.mono y).mono F)))
     |_=>exact aq
   |_=>cases b<;>exact aq
 |_=>exact aq
end
def E8(g:Func):Prop:=g.name= "" /\g.origin= "" /\g.body=none
def E8.find{g}(h:E8 g):Extern.find g=none:=by
 unfold Extern.find;have a:List.lookup "" Extern.allGenericRows=none:=by kernel_rfl
 have b:List.lookup "" Extern.allTypedRows=none:=by kernel_rfl
 have c:List.lookup "" Extern.allRows=none:=by kernel_rfl
 simp only[h.1,h.2.1,a,b,c];rfl
def E8.findNext{g}(h:E8 g):Extern.findNext g=none:=by
 unfold Extern.findNext;have a:List.lookup "" Extern.allNextRows=none:=by kernel_rfl
 simp only[h.1,h.2.1,a];rfl
def nQ(v)(h:fI v=true):Plain v:=by
 intro G π
 match v with
 | .bool _=>exact .bool _
 | .int .. =>exact .int _ _
 | .float .. =>exact .float _ _
 | .complex .. =>exact .complex _ _ _
 | .string _=>exact .string _
 | .pointer none=>exact .G3
 | .slice none _ _=>exact .js _ _
 | .map none=>exact .Jz
 | .chan none=>exact .Pe
 | .nilFunc=>exact .nilFunc
 | .nilIface=>exact .nilIface
 | .tuple c=>
  have e:c=#[]:=by simpa[fI]using h
  rw[e];exact az.tuple' .empty
 | .iface .. =>simp[fI]at h
 | .agg _=>simp[fI]at h
 | .func .. =>simp[fI]at h
 | .pointer (some _)=>simp[fI]at h
 | .slice (some _) _ _=>simp[fI]at h
 | .map (some _)=>simp[fI]at h
 | .chan (some _)=>simp[fI]at h
inductive NxR(S:Kn){G:Nat}(π:Ren G):Next->Next->Prop
 |value {v V:Value}:az π v V->NxR S π (.value v) (.value V)
 |skip:NxR S π .skip .skip
 |enter (f:FuncId) {a A:Array Value}:S.stop f=true\/S.ent f=true->(S.stop f=true->a.size=1)->VsR π a A->NxR S π (.enter f a) (.enter f A)
 |round {l L:Nat} (f:FuncId) {t T:Array Value} (as body:Code):S.ent f=true->π l L->VsR π t T->S.code as->S.code body->NxR S π (.round l f t as body) (.round L f T as body)
structure Tab(S:Kn)(P:Program)(fs:Array Func):Prop where
 zero:du P
 size:fs.size=P.funcs.size
 ent:∀f,S.ent f=true->S.stop f=false/\∃g c,fs[f]? =some g/\P.funcs[f]? =some g/\g.name≠ "runtime.NumGoroutine" /\g.body=some c/\S.code c
 stop:∀f,S.stop f=true->f=j8/\∃g h,fs[f]? =some g/\P.funcs[f]? =some h/\g.name≠ "runtime.NumGoroutine" /\h.name≠ "runtime.NumGoroutine" /\g.body.isSome=true/\h.body.isSome=true
 rest:∀f g,fs[f]? =some g->S.ent f=true\/S.stop f=true\/E8 g\/
  (P.funcs[f]? =some g/\g.name≠ "runtime.NumGoroutine" /\g.body=none/\Extern.findNext g=none/\∃e,Extern.find g=some e/\∀(π:Ren P.globals.size),(∀g,S.dB g=true->π g g)->∀(a A:Array Value),VsR π a A->SR S (ah P fs) P VQ π (e a) (e A))
section
variable {S:Kn} {P:Program} {fs:Array Func} {π:Ren P.globals.size}
abbrev NQ(S:Kn){G}:Ren G->Next->Next->Prop:=λπ a A=>NxR S π a A
def bT{s T}(h:(SR S (ah P fs) P) VQ π s T):(SR S (ah P fs) P) (NQ S) π (do pure (.value (<-s))) (do pure (.value (<-T))):=h.bind λ_ _ _ _ a=>ai (.value a)
def ru{s T}(h:(SR S (ah P fs) P) EqQ π s T):(SR S (ah P fs) P) (NQ S) π (do s;pure .skip) (do T;pure .skip):=h.bind λ_ _ _ _ _=>ai .skip
def tM(d:Tab S P fs)(v:∀g,S.dB g=true->π g g)(f:FuncId){a A}(i:f=j8->a.size=1)(h:VsR π a A):(SR S (ah P fs) P) (NQ S) π (callFunc f a) (callFunc f A):=by
 unfold callFunc;refine b9.bind ?_;rintro w s _ _ ⟨rfl,rfl⟩;have h:=VsR.mono s h;rw[show(ah P fs).funcs=fs from rfl];cases m:fs[f]? with
 |none=>exact aq
 |some g=>
  simp only[];obtain j|j|k|⟨n,l,t,y,e,z,o⟩:=d.rest f g m
  ·obtain⟨_,g',c,e1,p,l,B,_⟩:=d.ent f j
   rw[m]at e1;cases e1;rw[p];have b:¬(g.name== "runtime.NumGoroutine")=true:=by simpa using l
   simp only[b,RP,B];exact ai (.enter f (.inr j) (λx=>i (d.stop f x).1) h)
  ·obtain⟨_,u,g',e1,p,l,q,t,C⟩:=d.stop f j
   rw[m]at e1;cases e1;rw[p];simp only[];rw[Ro (c:=(g.name== "runtime.NumGoroutine")=true) (by simpa using l),Ro (c:=(g'.name== "runtime.NumGoroutine")=true) (by simpa using q),Ro (c:=g.body.isNone=true) (by cases r:g.body<;>simp_all),Ro (c:=g'.body.isNone=true) (by cases r:g'.body<;>simp_all)];exact ai (.enter f (.inl j) (λx=>i (d.stop f x).1) h)
  ·refine .never ?_
   rw[Ro (by rw[k.1];decide),Rp (by rw[k.2.2];rfl)];refine bz (.mark _) λ_=>?_;rw[k.findNext,k.find,k.1];simp only[];rw[Ro (by decide)];exact .halt _
  ·rw[n]
   simp only[];have b:¬(g.name== "runtime.NumGoroutine")=true:=by simpa using l
   simp only[b,RP];rw[t,y,z];simp only[Option.isNone_none,RG];refine SR.extern ?_;exact bT (o _ (λg r=>s _ _ (v g r)) _ _ h)
def pv:cP Instr.panicnil:=by unfold Instr.panicnil;(repeat' (first|with_reducible exact cP.unsupported _ (by with_unfolding_all exact True.intro)|with_reducible first|exact cP.stuck _|exact cP.pure _|exact cP.program|exact cP.choose _|exact cP.shape _|exact cP.frozen _|exact cP.mark _|exact cP.newObj _|exact cP.sys _|assumption|refine cP.ite ?_ ?_|refine cP.bind ?_ λ_=>?_|dsimp only|split))
def E9(c:du P)(b)(d:rZ b=true)(ts t cs){a A}(h:VsR π a A):(SR S (ah P fs) P) (NQ S) π (builtin b ts t cs a) (builtin b ts t cs A):=by
 cases b<;>simp only[rZ,RQ]at d
 ·exact bT (Ih c _ _ h)
 ·exact bT (Ot _ _ h)
 ·exact bT (MQ _ _ h)
 ·exact bT (Oq _ _ h)
 ·exact bT (Ov _ _ h)
 ·exact bT (Ou _ _ h)
 ·refine .never (aA ?_)
  unfold Instr.panic;split
  ·exact .halt _
  ·exact bz pv λ_=>oL (.halt _) (aG _)
  ·exact .halt _
 ·exact bT (pZ _ _ h)
 ·exact bT (uz _ _ h)
def ko{l L}(h:π l L):(SR S (ah P fs) P) (λc a b=>Bh S c a b) π (Instr.getLoop l) (Instr.getLoop L):=by
 unfold Instr.getLoop;refine(cE h).bind ?_;intro d f o O e;cases e with
 |loop h=>exact ai h
 |_=>exact aq
def As{t T:Array Value}{l:List (Tmp×Value)}:∀{t T} {L:List (Tmp×Value)},VsR π t T->bg (kL π) l L->VsR π (l.foldl (λt (x)=>t.setIfInBounds x.1 x.2) t) (L.foldl (λt (x)=>t.setIfInBounds x.1 x.2) T):=by
 induction l with
 |nil=>intro t T L b a;cases a;exact b
 |cons x l c=>
  intro t T L b a;cases a with
  |cons h a=>simp only[Ur];rw[<-h.1];exact c (b.set _ h.2) a
def Fa{b:Array Tmp}{a A}(h:VsR π a A):bg (kL π) (b.zip a).toList (b.zip A).toList:=by
 have c:=h.toList;obtain⟨b⟩:=b;obtain⟨a⟩:=a;obtain⟨A⟩:=A;simp only[List.zip_toArray]at*;clear h;induction c generalizing b with
 |nil=>cases b<;>exact .nil
 |cons h _ d=>
  cases b with
  |nil=>exact .nil
  |cons p b=>exact .cons ⟨rfl,h⟩ (d b)
def Kr{l L}(h:π l L){a A}(c:VsR π a A):(SR S (ah P fs) P) (NQ S) π (Instr.yield l a) (Instr.yield L A):=by
 unfold Instr.yield;refine(ko h).bind ?_;intro e d r R b;rw[<-c.1,<-b.params];simp only[];split
 ·exact .never (aA (.halt _))
 ·rw[<-b.fn,<-b.assign,<-b.body]
  refine ai (.round _ _ _ b.ent (d _ _ h) ?_ b.Pf b.Pg);rw[<-T8,<-T8];exact As (t:=#[]) (T:=#[]) b.tmps (Fa (VsR.mono d c))
def EvR(S:Kn){G}(π:Ren G)(ρ R:Operand->Value):Prop:=∀x,cZ S x=true->az π (ρ x) (R x)
def EvR.row{ρ R}(h:EvR S π ρ R){xs:Array Operand}(a:xs.all (cZ S)=true):VsR π (xs.map ρ) (xs.map R):=by
 rw[Ub]at a;refine aU.kW λi=>?_;rw[Sp,Sp];cases b:xs[i]? with
 |none=>exact .none
 |some x=>exact .some (h x (a x (SO b)))
def tN(k:Tab S P fs)(l:∀g,S.dB g=true->π g g){x X}(m:az π x X){a A}(h:VsR π a A):(SR S (ah P fs) P) (NQ S) π (do let d <-Deferred.ofValue x a;invoke d.target d.args) (do let d <-Deferred.ofValue X A;invoke d.target d.args):=by
 cases m with
 |nilFunc=>
  have e:(do let d <-Deferred.ofValue .nilFunc a;invoke d.target d.args:Sem Next)=runtimePanic .nilDeref:=by simp only[Deferred.ofValue,pure_bind,invoke]
  rw[e];exact db
 |func o i j p q=>
  cases o with
  |func f b=>exact tM k l f (λe=>absurd e b) (aU.append (aU.append ⟨i,j⟩ h) ⟨p,q⟩)
  |yield r=>exact Kr r (aU.append ⟨i,j⟩ h)
 |G4 n f c=>
  have e:(do let d <-Deferred.ofValue (.func (.method "") #[.nilIface] #[]) a;invoke d.target d.args:Sem Next)=runtimePanic .nilDeref:=by
   have e0:(#[Value.nilIface]++a)[0]? =some .nilIface:=by simp[TJ]
   simp[Deferred.ofValue,invoke,callMethod,e0]
  rw[e];exact .never (aG _)
 |_=>exact .never (aA (.halt _))
def MU(k:Tab S P fs)(n:∀g,S.dB g=true->π g g){ρ R}(h:EvR S π ρ R)(l:∀f,ρ (.func f)=.func (.func f) #[] #[])(o:∀f,R (.func f)=.func (.func f) #[] #[])(c t)(hc:Bg S (.call c)=true):(SR S (ah P fs) P) (NQ S) π (do let d <-resolve ρ c t;invoke d.target d.args) (do let d <-resolve R c t;invoke d.target d.args):=by
 obtain⟨a,args,ts⟩:=c;unfold Bg at hc;obtain hc|hc:=T5 _ _▸hc
 ·cases a with
  |value x=>
   cases x with
   |func f=>
    simp only[lN,RD,Sq]at hc;obtain⟨⟨rfl,j⟩,i⟩:=hc;have e:∀(σ:Operand->Value),σ (.func j8)=.func (.func j8) #[] #[]->(do let d <-resolve σ ⟨.value (.func j8),args,ts⟩ t;invoke d.target d.args:Sem Next)=callFunc j8 (args.map σ):=λσ m=>by simp[resolve,Deferred.ofValue,m,invoke]
    rw[e ρ (l _),e R (o _)];exact tM k n j8 (λ_=>by simpa using j) (h.row i)
   |_=>simp[lN]at hc
  |_=>simp[lN]at hc
 simp only[Op.operands,Call.operands,RD]at hc;obtain⟨j,i⟩:=hc;cases a with
 |value f=>
  simp only[U5,RD]at i;have p:cZ S f=true:=by simpa using i.1
  exact tN k n (h f p) (h.row i.2)
 |invoke=>simp at j
 |builtin b=>simp only[U5,RD]at i;exact E9 k.zero b j _ _ _ (h.row i.2)
def rv{ρ R}(h:EvR S π ρ R){x:Option Operand}(a:x.all (cZ S)=true):dO (az π) (x.map ρ) (x.map R):=by
 cases x with
 |none=>exact .none
 |some x=>exact .some (h x a)
def yR{ρ R:Operand->Value}(h:EvR S π ρ R){a:Array (Nat×Operand)}(b:∀x∈a,cZ S x.2=true):aU (kL π) (a.map λ(i,x)=>(i,ρ x)) (a.map λ(i,x)=>(i,R x)):=by
 refine aU.kW λi=>?_;rw[Sp,Sp];cases c:a[i]? with
 |none=>exact .none
 |some x=>exact .some ⟨rfl,h _ (b x (SO c))⟩
def yS{a:Array (Nat×Operand)}(h:((a.toList.map (·.2)).toArray.all (cZ S))=true):∀x∈a,cZ S x.2=true:=by intro x b;rw[Ub]at h;exact h x.2 (by simp;exact⟨x.1,by simpa using b⟩)
def Im(u:Tab S P fs)(M:∀g,S.dB g=true->π g g){ρ R}(h:EvR S π ρ R)(E:∀f,ρ (.func f)=.func (.func f) #[] #[])(N:∀f,R (.func f)=.func (.func f) #[] #[])(o)(A:Bg S o.op=true):(SR S (ah P fs) P) (NQ S) π (execOp ρ o) (execOp R o):=by
 obtain⟨O,p,ty,pos,Q,X⟩:=o;have F:=A;by_cases w:∃c,p=.call c
 ·obtain⟨c,rfl⟩:=w
  exact MU u M h E N c ty F
 unfold Bg at A;have G:lN S p=false:=by cases p<;>first|rfl|exact absurd ⟨_,rfl⟩ w
 simp only[G,Ua,RD]at A;obtain⟨C,j⟩:=A;cases p with
 |move x=>exact ai (.value (h x (by simpa[Op.operands]using j)))
 |assign x=>exact ai (.value (h x (by simpa[Op.operands]using j)))
 |pick c a b=>
  simp[Op.operands]at j;refine(yD (h c j.1)).bind ?_;rintro z q v _ rfl;refine ai (.value ?_);split
  ·exact(h a j.2.1).mono q
  ·exact(h b j.2.2).mono q
 |alloc e=>exact bT (JV u.zero e)
 |box e x=>exact bT (Og e (h x (by simpa[Op.operands]using j)))
 |build t T=>exact bT (JX u.zero t (yR h (yS j)))
 |buildSlice t n T=>exact bT (xI u.zero t n (yR h (yS j)))
 |insert t m k v=>simp[Op.operands]at j;exact ru (rp t (h m j.1) (h k j.2.1) (h v j.2.2))
 |load t a=>refine bT ((je (h a (by simpa[Op.operands]using j))).bind ?_);intro z q b B H;exact ve t H
 |store t a x=>simp[Op.operands]at j;refine ru ((je (h a j.1)).bind ?_);intro z q b B H;exact BP t H ((h x j.2).mono q)
 |nilCheck x=>
  have I:=h x (by simpa[Op.operands]using j);unfold execOp;simp only[];generalize ρ x=v at*;generalize R x=V at*;have l:=I;cases I with
  |func U Y C Z j=>cases U<;>exact ai (.value l)
  |lL _ a=>
   cases V with
   |pointer o=>cases o<;>first|(simp[dU]at a;done)|exact ai (.value l)
   |func fn _ _=>cases fn<;>first|(simp[dU]at a;done)|exact ai (.value l)
   |_=>first|(simp[dU]at a;done)|exact ai (.value l)
  |G4 n f c=>exact .never (aG _)
  |_=>first|exact db|exact ai (.value l)
 |binOp p t x y t2=>simp[Op.operands]at j;refine bT ((E3 p t x y (h x j.1) (h y j.2)).bind ?_);intro z q _ _ _;exact Km p t ((h x j.1).mono q) ((h y j.2).mono q)
 |unOp p t x=>exact bT (JY p (h x (by simpa[Op.operands]using j)))
 |convert s d x=>exact bT (E6 s d (h x (by simpa[Op.operands]using j)))
 |makeInterface t x=>exact bT (sI t (h x (by simpa[Op.operands]using j)))
 |makeFunc fn f c=>
  simp only[Op.operands,U5,RD]at j;cases fn with
  |func g=>exact bT (BQ (.func g (by simpa using C)) (h.row j.1) (h.row j.2))
  |_=>simp at C
 |makeMap t r=>exact bT (EE t (rv h (by cases r<;>simp_all [Op.operands])))
 |makeSlice t a b=>simp[Op.operands]at j;exact bT (zT u.zero t (h a j.1) (h b j.2))
 |slice t x J K L=>
  have D:cZ S x=true/\J.all (cZ S)=true/\K.all (cZ S)=true/\L.all (cZ S)=true:=by cases J<;>cases K<;>cases L<;>simp[Op.operands]at j<;>simp[j]
  exact bT (Ez t (h x D.1) (rv h D.2.1) (rv h D.2.2.1) (rv h D.2.2.2))
 |fieldAddr t x f=>exact bT (EC t f (h x (by simpa[Op.operands]using j)))
 |field t x f=>exact bT (JU t f (h x (by simpa[Op.operands]using j)))
 |indexAddr t x i=>simp[Op.operands]at j;exact bT (EA t (h x j.1) (h i j.2))
 |index t x i=>simp[Op.operands]at j;exact bT (JS t (h x j.1) (h i j.2))
 |lookup t x i W=>simp[Op.operands]at j;exact bT (Il u.zero t W (h x j.1) (h i j.2))
 |mapUpdate t m k v=>simp[Op.operands]at j;exact ru (rp t (h m j.1) (h k j.2.1) (h v j.2.2))
 |mapEntry t m k=>simp[Op.operands]at j;exact bT (CG u.zero t (h m j.1) (h k j.2))
 |entryStore t m k v=>simp[Op.operands]at j;exact ru (xV t (h m j.1) (h k j.2.1) (h v j.2.2))
 |range t x=>exact bT (Kp t (h x (by simpa[Op.operands]using j)))
 |next x b=>exact bT (MT b _ (h x (by simpa[Op.operands]using j)))
 |entry x=>exact bT (Kq (h x (by simpa[Op.operands]using j)))
 |extract x i=>exact bT (EB i (h x (by simpa[Op.operands]using j)))
 |call c=>exact absurd ⟨c,rfl⟩ w
 |panic x=>
  refine .never (aA ?_);unfold Instr.panic;split
  ·exact .halt _
  ·exact bz pv λ_=>oL (.halt _) (aG _)
  ·exact .halt _
 |_=>simp at C
end
end Go.Tm

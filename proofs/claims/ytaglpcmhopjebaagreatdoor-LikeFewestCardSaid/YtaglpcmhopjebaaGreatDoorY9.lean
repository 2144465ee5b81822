import Derived.Test.YtaglpcmhopjebaaGreatDoorY8
set_option linter.all false
set_option maxRecDepth 100000
set_option maxHeartbeats 20000000
namespace Go.Tm
structure kp(P:Program):Prop where
 norace:∀f:Nat,(P.funcs[f]?).any (λx:Func=>x.norace)=false
 follows:P.follows .staticDataAhead=true
 stepOf:∀g,P.stepOf g=none
variable {P:Program}
def vT(g:kp P)(fn es)(h:iU (seen P fn es)):iU es:=by
 obtain⟨l⟩:=es;unfold seen at h;simp only[g.norace,List.foldl_toArray']at h;have key:∀(l:List Event) (k:Array Event),iU (l.foldl (λ(x:Bool×Array Event) e=>match e.loc with| .mark (.extern f)=>(false,x.2)|_=>(x.1,if x.1&& !e.sync then x.2 else x.2.push e)) (false,k)).2->iU k/\∀e∈l,e.loc≠ .output:=by
  intro l;induction l with
  |nil=>exactλk h=>⟨h,by simp⟩
  |cons e l d=>
   intro k h;rw[Ur]at h;split at h
   ·rename_i f b
    obtain⟨a,c⟩:=d k h;refine⟨a,λx hx=>?_⟩;obtain rfl|hx:=RX.1 hx
    ·rw[b];simp
    ·exact c x hx
   ·simp only[Bool.false_and,RQ,RP]at h
    obtain⟨a,c⟩:=d (k.push e) h;refine⟨λx hx=>a x (TG _ hx),λx hx=>?_⟩;obtain rfl|hx:=RX.1 hx
    ·exact a x VM
    ·exact c x hx
 exactλe b=>(key l #[] h).2 e (by simpa using b)
def bu(f:World->GStep):Prop:=∀w g' w' es,f w=.go g' w' es->g'.dying=none->g'.status=.running->iU es->w.drawn<=w'.drawn/\w'.tape=w.tape/\∀τ,Agr w w'.drawn τ->f (av w τ w.drawn)=.go g' (av w' τ w'.drawn) es
def ij(r:GStep):Prop:=∀g' w' es,r=.go g' w' es->g'.dying=none->g'.status=.running->False
def bu.go(g es):bu (λw=>.go g w es):=by intro w g' w' a h _ _ _;cases h;exact⟨Rq _,rfl,λ_ _=>rfl⟩
def bu.no{f:World->GStep}(h:∀w,ij (f w)):bu f:=λw g' w' es e a b _=>(h w g' w' es e a b).elim
def ij.ended(o w es):ij (.ended o w es):=λ_ _ _ h=>by cases h
def bu.sem(F:kp P){t}(s:Sem t)(fn)(k:Result t->Array Event->Array Event)(K:Result t->GStep)
 (u:∀a,(∀w es,k (.ok a w) es=seen P fn es)/\bu (λw=>K (.ok a w)))
 (H:∀h,(∀w,ij (K (.halt h w)))\/((∀w es,k (.halt h w) es=seen P fn es)/\bu (λw=>K (.halt h w)))):
 bu (λw=>GStep.after (k (s.runT P w #[]).1 (s.runT P w #[]).2) (K (s.runT P w #[]).1)):=by
 intro w g' w' es h v y G;dsimp only at h⊢;have z:∃es0,K (s.runT P w #[]).1=.go g' w' es0/\es=k (s.runT P w #[]).1 (s.runT P w #[]).2++es0:=by cases j:K (s.runT P w #[]).1<;>rw[j]at h<;>simp only[GStep.after]at h<;>cases h;exact⟨_,rfl,rfl⟩
 obtain⟨es0,j,rfl⟩:=z;have l:iU es0:=λe A=>G e (Array.mem_append_right _ A);have c:iU (k (s.runT P w #[]).1 (s.runT P w #[]).2):=λe A=>G e (U6 _ A);have d:=Is P s w #[];cases m:s.runT P w #[]with
 |mk r o=>
  rw[m]at j c d;cases r with
  |ok a w1=>obtain⟨f,B⟩:=u a;rw[f]at c;obtain⟨g,i,p⟩:=d (vT F fn o c);obtain⟨k1,C,D⟩:=B w1 g' w' es0 j v y l;simp only[Rw]at g i p;refine⟨Rr g k1,C.trans i,λτ q=>?_⟩;have e1:=p τ (λn a b=>q n a (Ru b k1));have E:=D τ (λn a b=>by rw[i];exact q n (Rr g a) b);simp only[e1,Rt,f,GStep.after,E]
  |halt x w1=>
   obtain f|⟨f,B⟩:=H x
   ·exact(f w1 g' w' es0 j v y).elim
   rw[f]at c;obtain⟨g,i,p⟩:=d (vT F fn o c);obtain⟨k1,C,D⟩:=B w1 g' w' es0 j v y l;simp only[Rw]at g i p;refine⟨Rr g k1,C.trans i,λτ q=>?_⟩;have e1:=p τ (λn a b=>q n a (Ru b k1));have E:=D τ (λn a b=>by rw[i];exact q n (Rr g a) b);simp only[e1,Rt,f,GStep.after,E]
def bu.run(q)(K:Result Nat->GStep)(c:∀a,bu (λw=>K (.ok a w)))(m:∀h,bu (λw=>K (.halt h w))):
 bu (λw=>K ((choose q).run P w)):=by
 intro w g' w' es h d f g;dsimp only at h⊢;simp only[choose,Sem.run,pure]at h⊢;by_cases i:q.forced=true
 ·simp only[Rp i]at h⊢
  exact c 0 w g' w' es h d f g
 ·simp only[Ro i]at h⊢
  obtain⟨k1,k,l⟩:=c _ {w with drawn:=w.drawn+1} g' w' es h d f g;refine⟨Rr (Nat.le_succ _) k1,k,λτ j=>?_⟩;have e:=j w.drawn (Rq _) k1;have:=l τ (λn a b=>j n (Nat.le_of_succ_le a) b);simp only[av]at this⊢;rw[e];exact this
end Go.Tm
namespace Go.Tm
section
variable {G:Nat}
def idR(G)(B:Nat->Prop):Ren G:=⟨λr R=>r=R/\B r,λ_ _ _ h a=>h.1.symm.trans a.1,λ_ _ _ h a=>h.1.trans a.1.symm,λ_ _ h=>by rw[h.1]⟩
theorem kU(π:Ren G):∀V,∃v,az π v V
 | .bool b=>⟨_,.bool b⟩
 | .int k n=>⟨_,.int k n⟩
 | .float k b=>⟨_,.float k b⟩
 | .complex k a b=>⟨_,.complex k a b⟩
 | .string s=>⟨_,.string s⟩
 | .pointer none=>⟨_,.G3⟩
 | .pointer (some a)=>⟨_,.lL _ rfl⟩
 | .slice none l c=>⟨_,.js l c⟩
 | .slice (some a) l c=>⟨_,.lL _ rfl⟩
 | .map none=>⟨_,.Jz⟩
 | .map (some r)=>⟨_,.lL _ rfl⟩
 | .chan none=>⟨_,.Pe⟩
 | .chan (some r)=>⟨_,.lL _ rfl⟩
 | .func (.method n) f c=>⟨_,.G4 n f c⟩
 | .func (.func g) f c=>⟨_,.lL _ rfl⟩
 | .func (.methodOf t n) f c=>⟨_,.lL _ rfl⟩
 | .func (.via t p g b) f c=>⟨_,.lL _ rfl⟩
 | .func (.yield l) f c=>⟨_,.lL _ rfl⟩
 | .nilFunc=>⟨_,.nilFunc⟩
 | .iface t v=>⟨_,.lL _ rfl⟩
 | .nilIface=>⟨_,.nilIface⟩
 | .agg cs=>by
  have h:∀i:Nat,∃v,∀x,cs[i]? =some x->az π v x:=λi=>by
   by_cases e:i<cs.size
   ·obtain⟨v,m⟩:=kU π cs[i]
    exact⟨v,λx d=>by rw[RV e]at d;cases d;exact m⟩
   ·exact⟨.bool false,λx d=>by rw[Tg (by omega)]at d;cases d⟩
  refine⟨.agg (Array.ofFn λi:Fin cs.size=>(h i).choose),.agg (by simp) λi x X d j=>?_⟩;have e:=(Rx.1 j).1;simp only[VZ,e,Tx,Sg]at d;subst d;exact(h i).choose_spec X j
 | .tuple cs=>by
  have h:∀i:Nat,∃v,∀x,cs[i]? =some x->az π v x:=λi=>by
   by_cases e:i<cs.size
   ·obtain⟨v,m⟩:=kU π cs[i]
    exact⟨v,λx d=>by rw[RV e]at d;cases d;exact m⟩
   ·exact⟨.bool false,λx d=>by rw[Tg (by omega)]at d;cases d⟩
  refine⟨.tuple (Array.ofFn λi:Fin cs.size=>(h i).choose),.tuple (by simp) λi x X d j=>?_⟩;have e:=(Rx.1 j).1;simp only[VZ,e,Tx,Sg]at d;subst d;exact(h i).choose_spec X j
noncomputable def mask(π:Ren G)(V:Value):Value:=open Classical in if az π V V then V else(kU π V).choose
def KZ(π:Ren G)(V):az π (mask π V) V:=by
 unfold mask;split
 ·assumption
 ·exact(kU π V).choose_spec
def tk{π:Ren G}{V}(h:az π V V):mask π V=V:=Rp h
noncomputable def jS(π:Ren G)(fz:Prop):Obj->Obj
 | .cells c e f=>.cells (c.map (mask π)) e (open Classical in if fz then(0,max f.2 (c.size+1))else f)
 |o=>o
noncomputable def bZ(π:Ren G)(fz:Nat->Prop)(W:World):World:={W with heap:=(Array.range W.heap.size).map λb=>jS π (fz b) (W.heap[b]?.getD default)}
def fG(π:Ren G)(fz W b):(bZ π fz W).heap[b]? =(W.heap[b]?).map (jS π (fz b)):=by
 unfold bZ;simp only[Sp,Array.getElem?_range];by_cases a:b<W.heap.size
 ·simp[a]
 ·simp[a]
def ky(π:Ren G)(fz W):(bZ π fz W).heap.size=W.heap.size:=by simp[bZ]
def j5{S B Pr W}(d:∀b,B b->∃o,W.heap[b]? =some o/\((∃c e f,o=.cells c e f)\/(¬Pr b/\(∀c e f,o≠ .cells c e f)/\fA S (idR G B) o o)))(g:∀b,Pr b->B b)(n:G<=W.heap.size):
 bj S Pr (idR G B) (bZ (idR G B) Pr W) W:=by
 refine⟨λr R h=>?_,λr R h j=>?_,λR h=>?_,by rw[ky];exact n,n⟩
 ·obtain⟨rfl,k⟩:=h
  obtain⟨o,a,l⟩:=d r k;refine⟨jS (idR G B) (Pr r) o,o,by rw[fG,a];rfl,a,?_⟩;obtain⟨c,e,f,rfl⟩|⟨j,m,p⟩:=l
  ·unfold jS
   refine .cells e (aU.kW λi=>?_) ?_
   ·rw[Sp]
    cases q:c[i]? with
    |none=>exact .none
    |some x=>exact .some (KZ _ x)
   ·split
    ·refine .inr ⟨rfl,?_,?_⟩
     ·simp only[TX];omega
     ·simp only[];omega
    ·exact .inl rfl
  ·cases o<;>first|exact absurd rfl (m _ _ _)|exact p
 ·obtain⟨rfl,k⟩:=h
  obtain⟨o,a,l⟩:=d r k;obtain⟨c,e,f,rfl⟩|⟨m,_⟩:=l
  ·refine⟨c.map (mask (idR G B)),e,(0,max f.2 (c.size+1)),?_,rfl,?_⟩
   ·rw[fG,a]
    simp[jS,j]
   ·simp only[TX];omega
  ·exact absurd j m
 ·obtain⟨o,a,_⟩:=d R (g R h)
  exact(Rx.1 a).1
end
section
variable {S:Kn} {P:Program} {fs:Array Func} {π:Ren P.globals.size}
def Le{a A}(h:VsR π a A):(SR S (ah P fs) P) VQ π (Extern.AbiNoEscape.same a) (Extern.AbiNoEscape.same A):=by
 have b:=h.toList;obtain⟨a⟩:=a;obtain⟨A⟩:=A;simp only[]at b;cases b with
 |nil=>exact aq
 |cons c b=>
 cases b with
 |nil=>exact ai c
 |cons=>exact aq
def uG(n):∀{π:Ren P.globals.size} {a A} (acc),aP π a A->(SR S (ah P fs) P) EqQ π (Extern.Bytes.loadBytes a n acc) (Extern.Bytes.loadBytes A n acc):=by
 induction n with
 |zero=>intro π a A acc h;exact ai rfl
 |succ n b=>
  intro π a A acc h;unfold Extern.Bytes.loadBytes;refine(qG h).bind ?_;intro c d v V e;cases e with
  |int k n=>cases k<;>first|exact b _ ((h.mono d).add 1)|exact aq
  |_=>exact aq
def mS{x X}(h:az π x X):(SR S (ah P fs) P) EqQ π (Extern.Bytes.bytesOf x) (Extern.Bytes.bytesOf X):=by
 cases h with
 |string=>exact ai rfl
 |js=>exact ai rfl
 |slice l c h=>exact uG _ _ h
 |_=>exact aq
def zu{x X}(h:az π x X):(SR S (ah P fs) P) EqQ π (Extern.Bytes.asByte x) (Extern.Bytes.asByte X):=by
 cases h with
 |int k n=>cases k<;>first|exact ai rfl|exact aq
 |_=>exact aq
def AV{a A}(h:VsR π a A):(SR S (ah P fs) P) VQ π (Extern.BytealgIndexByte.indexByte a) (Extern.BytealgIndexByte.indexByte A):=by
 have d:=h.toList;obtain⟨a⟩:=a;obtain⟨A⟩:=A;simp only[]at d;cases d with
 |nil=>exact aq
 |cons e d=>
 cases d with
 |nil=>exact aq
 |cons f d=>
 cases d with
 |cons=>exact aq
 |nil=>refine(mS e).bind ?_;rintro g i b _ rfl;refine(zu (f.mono i)).bind ?_;rintro j k c _ rfl;split<;>exact ai (.int _ _)
def Lf{a A}(h:VsR π a A):(SR S (ah P fs) P) VQ π (Extern.BytealgCount.count a) (Extern.BytealgCount.count A):=by
 have d:=h.toList;obtain⟨a⟩:=a;obtain⟨A⟩:=A;simp only[]at d;cases d with
 |nil=>exact aq
 |cons e d=>
 cases d with
 |nil=>exact aq
 |cons f d=>
 cases d with
 |cons=>exact aq
 |nil=>refine(mS e).bind ?_;rintro g i b _ rfl;refine(zu (f.mono i)).bind ?_;rintro j k c _ rfl;exact ai (.int _ _)
def wX:∀(n t) (acc),bf acc->bf (Extern.BytealgMakeNoZero.digits n t acc):=by
 intro n;induction n with
 |zero=>exactλ_ _ h=>h
 |succ n a=>exactλt acc h=>a _ _ (h.push (jW _ _))
def yd(f e){a A}(h:VsR π a A):(SR S (ah P fs) P) VQ π (Extern.BytealgMakeNoZero.makeNoZero f e a) (Extern.BytealgMakeNoZero.makeNoZero f e A):=by
 have c:=h.toList;obtain⟨a⟩:=a;obtain⟨A⟩:=A;simp only[]at c;cases c with
 |nil=>exact aq
 |cons g c=>
 cases c with
 |cons=>exact aq
 |nil=>
 cases g with
 |int k n=>
  cases k<;>first|exact aq|skip
  unfold Extern.BytealgMakeNoZero.makeNoZero;cases e[0]? with
  |none=>exact aq
  |some t=>
   refine(aD t).bind ?_;rintro i q d _ ⟨rfl,_⟩;cases d<;>first|exact aq|skip
   refine cg (.never (aA (aG _))) ?_;refine(en _).bind ?_;rintro j r cap _ rfl;refine(pP _).bind ?_;intro l s _ _ _;refine(en _).bind ?_;rintro m u b _ rfl;refine(iD _ (fe (wX _ _ _ .empty))).bind ?_;intro o v a A p;exact ai (.slice _ _ p)
 |_=>exact aq
def ye(a:∀g,S.dB g=true->π g g)(n)(b:∀g,P.globals.findIdx? (·.name==n)=some g->S.dB g=true):(SR S (ah P fs) P) AQ π (globalAddr n) (globalAddr n):=by
 unfold globalAddr;refine b9.bind ?_;rintro c d _ _ ⟨rfl,rfl⟩;rw[show(ah P fs).globals=P.globals from rfl];cases h:P.globals.findIdx? (·.name==n)with
 |none=>exact aq
 |some g=>exact ai (.mk (d _ _ (a g (b g h))))
def IW(k:∀g,S.dB g=true->π g g)(l:∀g,P.globals.findIdx? (·.name== "internal/bytealg.MaxLen")=some g->S.dB g=true){a A}(h:VsR π a A):(SR S (ah P fs) P) VQ π (Extern.BytealgIndex.index a) (Extern.BytealgIndex.index A):=by
 have d:=h.toList;obtain⟨a⟩:=a;obtain⟨A⟩:=A;simp only[]at d;cases d with
 |nil=>exact aq
 |cons n d=>
 cases d with
 |nil=>exact aq
 |cons o d=>
 cases d with
 |cons=>exact aq
 |nil=>
  refine(mS n).bind ?_;rintro p j b _ rfl;refine(mS (o.mono j)).bind ?_;rintro f q c _ rfl;have e:(SR S (ah P fs) P) EqQ f Extern.BytealgIndex.maxLen Extern.BytealgIndex.maxLen:=by unfold Extern.BytealgIndex.maxLen;refine(ye (λg r=>q _ _ (j _ _ (k g r))) _ l).bind ?_;intro i s x X t;refine(qG t).bind ?_;intro u y v V w;exact jd w
  refine e.bind ?_;rintro i s m _ rfl;refine cg (.never (aA (.halt _))) ?_;refine cg (.never (aA (.halt _))) ?_;split<;>exact ai (.int _ _)
end
end Go.Tm
namespace Go.Tm
variable {P:Program}
def bu.ended(f:World->Outcome×World×Array Event):bu (λw=>.ended (f w).1 (f w).2.1 (f w).2.2):=bu.no λw=>ij.ended _ _ _
def vU(fr a m b w):ij (dieOf fr a m b w):=by intro g' w' es h c _;unfold dieOf at h;cases h;cases c
def px(fr m w):ij (endThrow fr m w):=vU _ _ _ _ _
def xX(fr cs d m w):ij (endFatal P fr cs d m w):=by
 unfold endFatal;dsimp only;split
 ·exact vU _ _ _ _ _
 ·exact ij.ended _ _ _
 ·exact ij.ended _ _ _
def Fo(a:kp P)(fr cs d g w):ij (early P fr cs d g w):=by unfold early;simp only[a.follows,a.stepOf,Tj,RQ,RP];exact ij.ended _ _ _
def mL(main fr cs v)(a:fr.kind=.normal):bu (λw=>doReturn P main fr cs none v w):=by
 unfold doReturn;cases cs with
 |cons c cs=>simp only[a];exact bu.go _ _
 |nil=>
  simp only[a];cases main with
  |false=>exact bu.go _ _
  |true=>
   simp only[Tj,RQ,RP];cases P.inits.idxOf? fr.fn with
   |some k=>exact bu.go _ _
   |none=>exact bu.ended λw=>(.done v,w,_)
def nT(p f):seen p f #[]=#[]:=rfl
def GB{b}:Result b->Sem b
 | .ok a _=>.pure a
 | .halt h _=>.halt h
def It{a}(r:Result a):(GB r).runT P (Rw r) #[]=(r,#[]):=by cases r<;>rfl
def jX(r):GStep.after #[] r=r:=by cases r<;>simp[GStep.after]
def bu.congr{f g:World->GStep}(h:∀w,f w=g w)(a:bu g):bu f:=by rw[funext h];exact a
def iL{r}(h:ij r):ij (GStep.after #[] r):=by rw[jX];exact h
def jY(f:kp P)(fr cs s)(i:fr.kind=.normal):bu (λw=>stepG.apply P true fr cs none s w):=by
 have b:(fr.kind==CallKind.early)=false:=by rw[i];rfl
 refine bu.congr (λw=>?_) (bu.sem f s fr.fn (λr es=>seen P fr.fn (match r with| .halt .blocked _| .halt .waiting _| .halt (.unsupported (.initOrder _)) _=>#[]|_=>es)) (λr=>stepG.apply P true fr cs none (GB r) (Rw r)) ?_ ?_)
 ·unfold stepG.apply
  simp only[RG,b,RQ,RP,It];generalize s.runT P w #[]=j;obtain⟨r,es⟩:=j;dsimp only;obtain⟨a,w1⟩|⟨h,w1⟩:=r
  ·simp only[nT,jX]
  ·cases h with
   |unsupported u=>cases u<;>simp only[nT,jX]
   |_=>simp only[nT,jX]
 ·intro a
  refine⟨λw es=>rfl,?_⟩;unfold stepG.apply;simp only[RG,b,RQ,RP,GB,Rw,Sem.runT,nT,jX];cases a with
  |callThen d r k wr=>dsimp only;split<;>exact bu.go _ _
  |row r args=>dsimp only;split<;>exact bu.go _ _
  |stack r k=>dsimp only;split<;>exact bu.go _ _
  |recover=>dsimp only;split<;>exact bu.go _ _
  |spawn d=>
   refine bu.no λw=>?_;dsimp only;repeat' split
   all_goals first|exact px _ _ _|exactλ_ _ _ h=>by cases h
  |_=>first|exact bu.go _ _|exact bu.no λw _ _ _ h=>by cases h
 ·intro h
  unfold stepG.apply;simp only[RG,b,RQ,RP,GB,Rw,Sem.runT,nT,jX];cases h with
  |panic v=>exact .inr ⟨λw es=>rfl,bu.go _ _⟩
  |goexit=>exact .inr ⟨λw es=>rfl,bu.go _ _⟩
  |blocked=>exact .inl λw g' w' es h _ e=>by cases h;cases e
  |waiting=>exact .inl λw g' w' es h _ e=>by cases h;cases e
  |exit c=>exact .inl λw=>iL (ij.ended _ _ _)
  |fatal m=>exact .inl λw=>iL (xX _ _ _ _ _)
  |throw m=>exact .inl λw=>iL (px _ _ _)
  |unsupported u=>
   cases u with
   |initOrder g=>exact .inl λw=>iL (Fo f _ _ _ _ _)
   |_=>exact .inl λw=>iL (ij.ended _ _ _)
  |stuck m=>exact .inl λw=>iL (ij.ended _ _ _)
def Kx(a:kp P)(fr cs)(b:fr.kind=.normal):bu (λw=>stepG.oper P true fr cs none w):=by
 unfold stepG.oper;cases fr.oper? with
 |none=>exact bu.no λw=>ij.ended _ _ _
 |some o=>
  dsimp only;split
  ·exact jY a fr cs _ b
  ·exact jY a fr cs _ b
def bu.Ky(d:kp P){c F}(s:Sem c)(fn)(K:Result c->GStep)(e:∀w,F w=GStep.after (seen P fn (s.runT P w #[]).2) (K (s.runT P w #[]).1))
 (b:∀a,bu (λw=>K (.ok a w))) (f:∀h,bu (λw=>K (.halt h w))):bu F:=
 bu.congr e (bu.sem d s fn (λ_ es=>seen P fn es) K (λa=>⟨λ_ _=>rfl,b a⟩) λh=>.inr ⟨λ_ _=>rfl,f h⟩)
def Iu(b:kp P)(main:Bool)(fr:Frame)(cs:List Frame)(c:fr.kind=.normal)(jump:Option Code):bu (λw=>match fr.roundOf with
 |none=>if jump matches none|some .ret then GStep.go {frame:={fr with mode:=.returning},callers:=cs,status:=.running,dying:=none} w else GStep.ended (.stuck "exit, goto: no such block or label" (fr.pos P)) w
 |some l=>GStep.after (seen P fr.fn ((Instr.endRound l jump).runT P w #[]).2) (match((Instr.endRound l jump).runT P w #[]).1 with
  | .ok v w=>doReturn P main fr cs none v w
  | .halt _ w=>GStep.ended (.stuck "range over a function: no such loop" (fr.pos P)) w)):=by
 cases fr.roundOf with
 |none=>
  dsimp only;split
  ·simp only[RG];exact bu.go _ _
  ·simp only[RG];exact bu.go _ _
  ·simp only[RQ,RP];exact bu.no λw=>ij.ended _ _ _
 |some l=>
  exact bu.Ky b (Instr.endRound l jump) fr.fn (λr=>match r with
   | .ok v w=>doReturn P main fr cs none v w
   | .halt _ w=>GStep.ended (.stuck "range over a function: no such loop" (fr.pos P)) w) (λw=>rfl) (λa=>mL main fr cs a c) λh=>bu.no λw=>ij.ended _ _ _
def Kz(n:kp P)(main fr cs)(m:fr.kind=.normal):bu (λw=>stepG.exec P main true fr cs none w):=by
 have j:=λfr m jump=>Iu n main fr cs m jump;obtain⟨fn,tmps,todo,defers,mode,kind,g⟩:=fr;unfold stepG.exec;cases todo with
 |nil=>exact j _ m none
 |cons x k=>
  cases x with
  |code c=>
   cases c with
   |ret=>exact j _ m (some .ret)
   |skip=>exact bu.go _ _
   |label=>exact bu.go _ _
   |seq=>exact bu.go _ _
   |cond c a b=>dsimp only;generalize Frame.eval _ c=v;cases v<;>first|exact bu.go _ _|exact bu.no λw=>ij.ended _ _ _
   |block=>exact bu.go _ _
   |loop=>exact bu.go _ _
   |scope=>exact bu.go _ _
   |exit o=>
    dsimp only;cases exitTo o k with
    |none=>exact j _ m (some (.exit o))
    |some q=>exact bu.go _ _
   |goto l=>
    dsimp only;cases gotoIn l k with
    |none=>exact j _ m (some (.goto l))
    |some q=>exact bu.go _ _
   |rangeFunc f params assign body=>
    exact bu.Ky n (Instr.enterLoop fn tmps params assign body g) fn (λr=>match r with
     | .ok (l,mark) w=>stepG.apply P true ⟨fn,tmps,.inRangeFunc l::k,mark++defers,mode,kind,g⟩ cs none (do let d <-resolve (⟨fn,tmps,.inRangeFunc l::k,mark++defers,mode,kind,g⟩:Frame).eval {callee:=.value f,args:=#[.const (.func (.yield l) #[] #[])],argTypes:=#[]} 0;invoke d.target d.args) w
     | .halt _ w=>GStep.ended (.stuck "range over a function: no such loop" (Frame.pos P ⟨fn,tmps,.code (.rangeFunc f params assign body)::k,defers,mode,kind,g⟩)) w) (λw=>rfl) (λa=>jY n _ cs _ m) λh=>bu.no λw=>ij.ended _ _ _
   |refuse=>exact bu.no λw=>ij.ended _ _ _
   |region o ops p=>
    dsimp only;cases p with
    |false=>exact bu.go _ _
    |true=>
     exact bu.run (P:=P) (.order fn o) (λr=>match r with
      | .ok t w=>GStep.go {frame:=⟨fn,tmps,.inRegion ops (Region.schedule (P.follows .mixedOrders) ops t)::k,defers,mode,kind,g⟩,callers:=cs,status:=.running,dying:=none} w
      | .halt _ w=>GStep.ended (.stuck "order" (Frame.pos P ⟨fn,tmps,.code (.region o ops true)::k,defers,mode,kind,g⟩)) w) (λa=>bu.go _ _) λh=>bu.no λw=>ij.ended _ _ _
  |inBlock=>exact bu.go _ _
  |inLoop=>exact bu.go _ _
  |inScope=>exact bu.go _ _
  |inRegion ops l=>
   cases l with
   |nil=>exact bu.go _ _
   |cons i rest=>
    dsimp only;split
    ·exact Kx n _ cs m
    ·exact bu.go _ _
  |call d b r s=>exact jY n _ cs _ m
  |extern row args=>
   dsimp only;cases Extern.next row with
   |none=>exact bu.no λw=>ij.ended _ _ _
   |some e=>exact jY n _ cs _ m
  |inRangeFunc=>exact bu.no λw=>ij.ended _ _ _
  |beginRound=>exact jY n _ cs _ m
  |endRangeFunc l=>
   exact bu.Ky n (Instr.endLoop l) fn (λr=>match r with
    | .ok jump w=>GStep.go {frame:=⟨fn,tmps,(jump.map Item.code).toList++k,defers,mode,kind,g⟩,callers:=cs,status:=.running,dying:=none} w
    | .halt (.panic v) w=>GStep.go {frame:=Frame.raise ⟨fn,tmps,.endRangeFunc l::k,defers,mode,kind,g⟩ [{v,recovered:=false}],callers:=cs,status:=.running,dying:=none} w
    | .halt _ w=>GStep.ended (.stuck "range over a function: no such loop" (Frame.pos P ⟨fn,tmps,.endRangeFunc l::k,defers,mode,kind,g⟩)) w) (λw=>rfl) (λa=>bu.go _ _) λh=>by cases h<;>first|exact bu.go _ _|exact bu.no λw=>ij.ended _ _ _
def Fp(c:kp P)(main fr cs)(d:fr.kind=.normal)(f:∀D∈fr.defers,∃r,D=⟨.collected r,#[]⟩)(e:fr.mode=.returning):bu (λw=>unwind P main fr cs none w):=by
 obtain⟨fn,tmps,todo,defers,mode,kind,b⟩:=fr;unfold unwind;cases defers with
 |cons D ds=>
  obtain⟨r,rfl⟩:=f D (.head _);exact bu.Ky c (Instr.takeDeferred r) fn (λx=>match x with
   | .ok calls w=>GStep.go {frame:=⟨fn,tmps,todo,calls++ds,mode,kind,b⟩,callers:=cs,status:=.running,dying:=none} w
   | .halt _ w=>GStep.ended (.stuck "the deferred calls of a range-over-func loop have been taken" (Frame.pos P ⟨fn,tmps,todo,⟨.collected r,#[]⟩::ds,mode,kind,b⟩)) w) (λw=>rfl) (λa=>bu.go _ _) λh=>bu.no λw=>ij.ended _ _ _
 |nil=>
  simp only at e;subst e;dsimp only;cases j:P.funcs[fn]? with
  |none=>exact mL main _ cs _ d
  |some g=>
   refine bu.Ky c (results g tmps) fn (λx=>match x with
    | .ok v w=>doReturn P main ⟨fn,tmps,todo,[],.returning,kind,b⟩ cs none v w
    | .halt (.stuck s) w=>GStep.ended (.stuck s (Frame.pos P ⟨fn,tmps,todo,[],.returning,kind,b⟩)) w
    | .halt _ w=>GStep.ended (.stuck "return: the result variables cannot be read" (Frame.pos P ⟨fn,tmps,todo,[],.returning,kind,b⟩)) w) (λw=>?_) (λa=>mL main _ cs a d) λh=>?_
   ·dsimp only
    generalize (results g tmps).runT P w #[]=i;obtain⟨r,es⟩:=i;obtain⟨a,w1⟩|⟨h,w1⟩:=r
    ·rfl
    ·cases h<;>rfl
   ·cases h<;>exact bu.no λw=>ij.ended _ _ _
def tR(b:kp P)(main){fr cs}(c:fr.kind=.normal)(d:∀D∈fr.defers,∃r,D=⟨.collected r,#[]⟩)(f:fr.mode=.run\/fr.mode=.returning){w w' g' es}
 (h:stepG P main ⟨fr,cs,.running,none,none⟩ w=.go g' w' es) (a:g'.dying=none) (g:g'.status=.running) (i:iU es):
 w.drawn<=w'.drawn/\w'.tape=w.tape/\∀τ,Agr w w'.drawn τ->stepG P main ⟨fr,cs,.running,none,none⟩ (av w τ w.drawn)=.go g' (av w' τ w'.drawn) es:=by
 have key:bu (λw=>stepG P main ⟨fr,cs,.running,none,none⟩ w):=by
  unfold stepG;obtain e|e:=f
  ·simp only[e];exact Kz b main fr cs c
  ·simp only[e];exact Fp b main fr cs c d e
 exact key w g' w' es h a g i
end Go.Tm
namespace Go.Tm
def tS{Pr G}{π:Ren G}{es}(h:∀e∈es,kE Pr π e):iU es:=by intro e a b;have:=h e a;unfold kE at this;rw[b]at this;exact this
def Ay{G}{π:Ren G}{d D}(h:bg (oY π) d D):∀x∈D,∃r,x=⟨.collected r,#[]⟩:=by
 induction h with
 |nil=>simp
 |cons h _ b=>
  intro x hx;cases h with
  |mk a=>
   obtain rfl|hx:=RX.1 hx
   ·exact⟨_,rfl⟩
   ·exact b x hx
section
variable {S:Kn} {P:Program} {fs:Array Func} {Pr:Nat->Prop}
def Cp.calm{Post π c F CS W}(h:Cp S P fs Pr Post π c F CS W):F.kind=.normal/\(∀x∈F.defers,∃r,x=⟨.collected r,#[]⟩)/\(F.mode=.run\/F.mode=.returning):=⟨h.top.Kind,Ay h.top.defers,by rw[h.top.mode];exact h.top.calm⟩
def Cp.run(x:Tab S P fs)(y:kp P)(i:∀f,S.stop f=false){Post π c F CS W}(h:Cp S P fs Pr Post π c F CS W)(u:∀n,W.drawn<=n->S.calm (W.tape n)):
 ∃(j:Ren P.globals.size) (c':Gh) (v:Frame) (k:World) (n:Nat),Cp S P fs Pr Post j c' v [] k/\c'.AtE/\Chg Pr π W k j/\W.drawn<=k.drawn/\∀B τ,Agr W k.drawn τ->runN P n (lone F (CS++B) (av W τ W.drawn))=.next (lone v B (av k τ k.drawn)):=by
 have l:=h.qg.acc;induction l generalizing π F CS W with
 |intro c _ z=>
  by_cases p:c.AtE
  ·have m:=h.cs
   rw[p.1]at m;cases m;exact⟨π,c,F,W,0,h,p,Chg.refl _ _ _,Rq _,λB τ _=>rfl⟩
  ·obtain⟨c',N,A,k,ev,j,C,D,q,e,r⟩:=h.step x i p (u _ (Rq _)) true
   have d:=h.calm;have g:∀B,_:=λB=>tR y true d.1 d.2.1 d.2.2 (q B) rfl rfl (tS r);have s:=(g []).1;obtain⟨t,E,G,H,n,I,J,K,w,L⟩:=z c' C D λn M=>by rw[e.tape];exact u n (Rr s M)
   refine⟨t,E,G,H,n+1,I,J,e.trans K,Rr s w,λB τ o=>?_⟩;unfold runN;rw[step_lone_go (by rw[(g B).2.2 τ λn a b=>o n a (Ru b w)];rfl)];exact L B τ λn a b=>by rw[e.tape];exact o n (Rr s a) b
end
def CP{P fr x xs w'}:∀n w1,runN P n (lone aI [] w1)≠ .next (lone fr (x::xs) w'):=by
 intro n w1;cases n with
 |zero=>intro e;have:=(jg (Stepped.next.inj e)).2.1;simp at this
 |succ n=>
  intro e;unfold runN at e;have:∃o w2,step P (lone aI [] w1)=.ended o w2:=by
   refine⟨_,_,step_lone_ended (o:=?_) (w':=w1) ?_⟩;rotate_left
   ·simp[stepG,stepG.exec,aI,GStep.bare]
    rfl
  obtain⟨o,w2,a⟩:=this;rw[a]at e;cases e
def gone{P a fr x xs w0 w' v}(b:a.leaving P w0 (.returned v)){n}(h:runN P (n+1) (lone a [aI] w0)=.next (lone fr (x::xs) w')):False:=by unfold runN at h;rw[step_leave_returned b]at h;exact CP n w0 h
def gq(P){a n m m1 m2}(c:runN P a m=.next m1)(b:runN P n m=.next m2)(d:a<=n):runN P (n-a) m1=.next m2:=by
 have:n=a+(n-a):=by omega
 rw[this,runN_add,c]at b;exact b
section
variable {S:Kn} {P:Program} {fs:Array Func}
end
def Kept(w0 w:World):Prop:=w.heap.size=w0.heap.size/\∀b:Nat,w.heap[b]? =w0.heap[b]? \/w.heap[b]? =some (.deferred none)
def Kept.refl(w):Kept w w:=⟨rfl,λ_=>.inl rfl⟩
inductive wV(G:Nat)(w0:World)(ch0:List PanicEntry):Machine->Prop
 |up {fr:Frame} {cs:List Frame} {w:World} (π:Ren G):fr.mode=.panicking ch0->(∀f∈fr::cs,Marks π f)->Dp π w->(∀f∈cs,f.mode=.run\/f.mode=.returning)->Kept w0 w->wV G w0 ch0 (lone fr (cs++[aI]) w)
 |low (ch) (w:World):wV G w0 ch0 (lone {aI with mode:=.panicking ch} [] w)
def K6{G w0 ch0 m}(h:wV G w0 ch0 m){fr w}(e:m=lone fr [aI] w):fr.mode=.panicking ch0/\Kept w0 w:=by
 cases h with
 | @up fr' cs w' π c _ _ _ b=>have a:=jg e;have d:=a.2.1;simp at d;obtain⟨rfl,_,rfl⟩:=a;exact⟨c,b⟩
 |low ch w'=>simp only[lone,Machine.mk.injEq]at e;have a:=e.2.1;simp at a
def FJ{G w0 ch0 P m}(h:wV G w0 ch0 m):(∃o w,step P m=.ended o w)\/∃m',step P m=.next m'/\wV G w0 ch0 m':=by
 cases h with
 |low ch w=>
  refine .inl ⟨_,_,step_lone_ended (o:=?_) (w':=w) ?_⟩;rotate_left
  ·simp[stepG,unwind,callDeferred,aI,GStep.bare]
   rfl
 | @up fr cs w π p q s a i=>
  have j:=q fr (.head _);cases d:fr.defers with
  |nil=>
   by_cases g:fr.catches P=true
   ·refine .inl ⟨_,_,step_lone_ended (o:=?_) (w':=w) ?_⟩
    rotate_left
    ·simp[stepG,unwind,d,p,g,GStep.bare]
     rfl
   ·cases cs with
    |nil=>refine .inr ⟨_,step_lone_go (fr':={aI with mode:=.panicking ch0}) (cs':=[]) (w':=w) ?_,.low _ w⟩;simp[stepG,unwind,d,p,g,GStep.bare,Frame.raise,aI]
    |cons c cs=>
     have u:=q c (.tail _ (.head _));refine .inr ⟨_,step_lone_go (fr':=c.raise ch0) (cs':=cs++[aI]) (w':=w) ?_,?_⟩
     ·simp[stepG,unwind,d,p,g,GStep.bare]
     ·have e:c.raise ch0={c with mode:=.panicking ch0}:=by unfold Frame.raise;rcases a c (.head _)with x|x<;>rw[x]
      rw[e];refine .up π rfl (λf j=>?_) s (λf j=>a f (.tail _ j)) i;cases j with
      |head=>exact u
      |tail _ j=>exact q f (.tail _ (.tail _ j))
  |cons D ds=>
   obtain⟨r,R,rfl,v⟩:=j D (by rw[d];exact .head _);have l:=CM P r w λo k=>s r R o v k;obtain e|⟨x,w',e⟩:=l
   ·refine .inr ⟨_,step_lone_go (fr':={fr with defers:=ds}) (cs':=cs++[aI]) (w':={w with heap:=w.heap.setIfInBounds r (.deferred none)}) ?_,?_⟩
    ·simp only[stepG,p,unwind,d,e]
     rfl
    ·refine .up π p (λf n=>?_) ?_ a ⟨by simpa using i.1,λb=>?_⟩
     ·cases n with
      |head=>exactλD y=>j D (by rw[d];exact .tail _ y)
      |tail _ n=>exact q f (.tail _ n)
     ·intro z R' o t k
      simp only[Sn]at k;split at k
      ·split at k
       ·cases k;exact .inl rfl
       ·cases k
      ·exact s z R' o t k
     ·simp only[Sn]
      split
      ·split
       ·exact .inr rfl
       ·rename_i A B
        subst A;refine .inl ?_;rw[eq_comm,Array.getElem?_eq_none_iff,<-i.1];omega
      ·exact i.2 b
   ·refine .inl ⟨_,_,step_lone_ended (o:=?_) (w':=w') ?_⟩
    rotate_left
    ·simp only[stepG,p,unwind,d,e]
     rfl
def Dw{G w0 ch0 P}:∀(n) {m},wV G w0 ch0 m->∀{fr} {w},runN P n m=.next (lone fr [aI] w)->fr.mode=.panicking ch0/\Kept w0 w:=by
 intro n;induction n with
 |zero=>intro m h fr w e;exact K6 h (by simpa[runN]using e)
 |succ n c=>
  intro m h fr w e;unfold runN at e;rcases FJ (P:=P) h with⟨o,w',a⟩|⟨d,a,b⟩
  ·rw[a]at e;cases e
  ·rw[a]at e;exact c b e
end Go.Tm

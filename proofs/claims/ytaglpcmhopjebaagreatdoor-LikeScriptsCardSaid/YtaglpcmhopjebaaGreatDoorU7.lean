import Derived.Test.YtaglpcmhopjebaaGreatDoorU6
set_option linter.all false
set_option maxRecDepth 100000
set_option maxHeartbeats 20000000
namespace Go.Tm
def Rw{a}:Result a->World
 | .ok _ w=>w
 | .halt _ w=>w
def Rt{b}(τ:Nat->Question->Nat):Result b->Result b
 | .ok a w=>.ok a (av w τ w.drawn)
 | .halt h w=>.halt h (av w τ w.drawn)
def jk(es:Array Event):Prop:=∀e∈es,e.loc≠ .output
def Agr(w:World)(d:Nat)(τ:Nat->Question->Nat):Prop:=∀n,w.drawn<=n->n<d->τ n=w.tape n
def M4{f}(P)(s:Sem f):∀(w) (es),∀e∈es,e∈(s.runT P w es).2:=by
 induction s with
 |pure a=>exactλw es e b=>b
 |load m a k d=>intro w es e b;simp only[Sem.runT];cases w.cell? a with|some v=>exact d v w _ e (Wi _ b)|none=>simp only[];cases w.farLoad P a (m== .atomic)with|ok r=>exact d r.1 w _ e (XL _ b)|error h=>exact b
 |store m a v k d=>intro w es e b;cases v with|agg=>exact b|tuple=>exact b|_=>simp only[Sem.runT];cases w.cell? a with|some v=>simp only[];split;exact b;exact d _ _ e (Wi _ b)|none=>simp only[];split;exact d _ _ e (XL _ b);exact b
 |new o k d=>exactλw es=>d _ _ _
 |shape r k d=>exactλw es=>d _ _ _
 |freeze a n k d=>exactλw es=>d _ _
 |frozen a k d=>exactλw es=>d _ _ _
 |getObj r k d=>intro w es e b;simp only[Sem.runT];split;exact b;exact d _ _ _ e (Wi _ b);exact b
 |setObj r o k d=>intro w es e b;simp only[Sem.runT];split;exact b;exact d _ _ e (Wi _ b);exact b
 |choose q k d=>intro w es e b;simp only[Sem.runT];split;exact d _ _ _ e b;exact d _ _ _ e b
 |sys c k d=>exactλw es e b=>d _ _ _ e (Wi _ b)
 |program k d=>exactλw es=>d _ _ _
 |mark m k d=>exactλw es e b=>d _ _ e (Wi _ b)
 |halt h=>exactλw es e b=>b
def xI{P}{w w1:World}{a v m as}(h:w.farStore P a v m=.ok (w1,as)):w1.drawn=w.drawn/\w1.tape=w.tape:=by have:=gq P w w.tape w.drawn a v m;rw[show av w w.tape w.drawn=w from rfl,h]at this;simp only[Except.map,Except.ok.injEq,Xd,and_true]at this;rw[this];exact⟨rfl,rfl⟩
def Ks{z}(P)(s:Sem z):∀(w) (es),jk (s.runT P w es).2->w.drawn<=(Rw (s.runT P w es).1).drawn/\(Rw (s.runT P w es).1).tape=w.tape/\∀τ,Agr w (Rw (s.runT P w es).1).drawn τ->s.runT P (av w τ w.drawn) es=(Rt τ (s.runT P w es).1,(s.runT P w es).2):=by
 induction s with
 |pure a=>exactλw es _=>⟨Ue _,rfl,λτ _=>rfl⟩
 |load m a k d=>intro w es h;simp only[Sem.runT,show ∀τ,(av w τ w.drawn).cell? a=w.cell? a fromλ_=>rfl,show ∀τ,(av w τ w.drawn).farLoad P a (m== .atomic)=w.farLoad P a (m== .atomic)fromλ_=>rfl]at h⊢;cases i:w.cell? a with|some v=>simp only[i]at h⊢;exact d v w _ h|none=>simp only[i]at h⊢;cases j:w.farLoad P a (m== .atomic)with|ok r=>simp only[j]at h⊢;exact d r.1 w _ h|error e=>exact⟨Ue _,rfl,λτ _=>rfl⟩
 |store m a v k d=>
  intro w es h;by_cases f:(∀c,v≠ .agg c)/\(∀c,v≠ .tuple c);case neg=>cases v<;>first|exact⟨Ue _,rfl,λτ _=>rfl⟩|exact absurd ⟨by simp,by simp⟩ f
  have key:∀w:World,(Sem.store m a v k).runT P w es=match w.cell? a with
   |some _=>if w.frozen? a=true then(.halt (.unsupported (.unsafePointer "a write to bytes that a string shares")) w,es)else k.runT P (w.setCell a v) (es.push ⟨.cell a,true,m== .atomic⟩)
   |none=>match w.farStore P a v (m== .atomic)with
    | .ok (w',as)=>k.runT P w' (es++as.toArray.map (⟨.cell ·,true,m== .atomic⟩))
    | .error h=>(.halt h w,es):=by
   intro w;cases v<;>first|rfl|exact absurd rfl (f.1 _)|exact absurd rfl (f.2 _)
  simp only[key,show ∀τ,(av w τ w.drawn).cell? a=w.cell? a fromλ_=>rfl,show ∀τ,(av w τ w.drawn).frozen? a=w.frozen? a fromλ_=>rfl,gq]at h⊢;cases i:w.cell? a with|some B=>simp only[i]at h⊢;split;exact⟨Ue _,rfl,λτ _=>rfl⟩;rename_i A;simp only[Uc A]at h;exact d (w.setCell a v) _ h|none=>simp only[i]at h⊢;cases j:w.farStore P a v (m== .atomic)with|ok r=>obtain⟨w1,as⟩:=r;simp only[j,Except.map]at h⊢;obtain⟨e1,y⟩:=xI j;obtain⟨t,l,p⟩:=d w1 _ h;refine⟨by omega,l.trans y,λτ g=>?_⟩;have:=p τ (λn a b=>by rw[y];exact g n (by omega) b);rw[e1]at this;exact this|error e=>simp only[j,Except.map];exact⟨Ue _,rfl,λτ _=>rfl⟩
 |new o k d=>exactλw es h=>d _ {w with heap:=w.heap.push o} es h
 |shape r k d=>exactλw es h=>d _ w es h
 |freeze a n k d=>(intro w es h;have e:(w.freeze a n).drawn=w.drawn/\(w.freeze a n).tape=w.tape:=by unfold World.freeze;split<;>exact⟨rfl,rfl⟩);obtain⟨t,l,p⟩:=d (w.freeze a n) es h;refine⟨by simp only[Sem.runT];omega,l.trans e.2,λτ g=>?_⟩;simp only[Sem.runT,pR]at g⊢;have:=p τ (λn a b=>by rw[e.2];exact g n (by omega) b);rw[e.1]at this;exact this
 |frozen a k d=>exactλw es h=>d _ w es h
 |getObj r k d=>intro w es h;simp only[Sem.runT,show ∀τ,(av w τ w.drawn).heap[r]? =w.heap[r]? fromλ_=>rfl]at h⊢;cases u:w.heap[r]? with|none=>exact⟨Ue _,rfl,λτ _=>rfl⟩|some o=>cases o<;>simp only[u]at h⊢<;>first|exact d _ w _ h|exact⟨Ue _,rfl,λτ _=>rfl⟩
 |setObj r o k d=>intro w es h;simp only[Sem.runT,show ∀τ,(av w τ w.drawn).heap[r]? =w.heap[r]? fromλ_=>rfl]at h⊢;cases u:w.heap[r]? with|none=>exact⟨Ue _,rfl,λτ _=>rfl⟩|some o'=>cases o'<;>simp only[u]at h⊢<;>first|exact d {w with heap:=w.heap.setIfInBounds r o} _ h|exact⟨Ue _,rfl,λτ _=>rfl⟩
 |choose q k d=>intro w es h;simp only[Sem.runT]at h⊢;split;rename_i x;simp only[Ud x]at h;exact d 0 w es h;rename_i x;simp only[Uc x]at h;obtain⟨t,l,p⟩:=d _ {w with drawn:=w.drawn+1} es h;refine⟨Uf (Nat.le_succ _) t,l,λτ g=>?_⟩;have e:=g w.drawn (Ue _) t;have:=p τ (λn a b=>g n (Nat.le_of_succ_le a) b);simp only[av]at this⊢;rw[e];exact this
 |sys c k d=>intro w es h;exact absurd rfl (h _ (M4 P (k (w.sys c).1) (w.sys c).2 (es.push ⟨.output,true,false⟩) ⟨.output,true,false⟩ Array.mem_push_self))
 |program k d=>exactλw es h=>d _ w es h
 |mark m k d=>exactλw es h=>d w _ h
 |halt h=>exactλw es _=>⟨Ue _,rfl,λτ _=>rfl⟩
end Go.Tm
namespace Go.Tm
structure kP(P:Program):Prop where
 norace:∀f:Nat,(P.funcs[f]?).any (λx:Func=>x.norace)=false
 follows:P.follows .staticDataAhead=true
 stepOf:∀g,P.stepOf g=none
variable {P:Program}
def xJ(g:kP P)(fn es)(h:jk (seen P fn es)):jk es:=by (obtain⟨l⟩:=es;unfold seen at h;simp only[g.norace,List.foldl_toArray']at h;have key:∀(l:List Event) (k:Array Event),jk (l.foldl (λ(x:Bool×Array Event) e=>match e.loc with| .mark (.extern f)=>(false,x.2)|_=>(x.1,if x.1&& !e.sync then x.2 else x.2.push e)) (false,k)).2->jk k/\∀e∈l,e.loc≠ .output:=by intro l;induction l with|nil=>exactλk h=>⟨h,by simp⟩|cons e l d=>intro k h;rw[VJ]at h;split at h;rename_i f b;obtain⟨a,c⟩:=d k h;refine⟨a,λx hx=>?_⟩;obtain rfl|hx:=UC.1 hx;rw[b];simp;exact c x hx;simp only[Xe,Uz,Uy]at h;obtain⟨a,c⟩:=d (k.push e) h;refine⟨λx hx=>a x (Wi _ hx),λx hx=>?_⟩;obtain rfl|hx:=UC.1 hx;exact a x Array.mem_push_self;exact c x hx);exactλe b=>(key l #[] h).2 e (by simpa using b)
def bI(f:World->GStep):Prop:=∀w g' w' es,f w=.go g' w' es->g'.dying=none->g'.status=.running->jk es->w.drawn<=w'.drawn/\w'.tape=w.tape/\∀τ,Agr w w'.drawn τ->f (av w τ w.drawn)=.go g' (av w' τ w'.drawn) es
def iD(r:GStep):Prop:=∀g' w' es,r=.go g' w' es->g'.dying=none->g'.status=.running->False
def bI.go(g es):bI (λw=>.go g w es):=by intro w g' w' a h _ _ _;cases h;exact⟨Ue _,rfl,λ_ _=>rfl⟩
def bI.no{f:World->GStep}(h:∀w,iD (f w)):bI f:=λw g' w' es e a b _=>(h w g' w' es e a b).elim
def iD.ended(o w es):iD (.ended o w es):=λ_ _ _ h=>by cases h
def bI.sem(F:kP P){t}(s:Sem t)(fn)(k:Result t->Array Event->Array Event)(K:Result t->GStep) (u:∀a,(∀w es,k (.ok a w) es=seen P fn es)/\bI (λw=>K (.ok a w))) (H:∀h,(∀w,iD (K (.halt h w)))\/((∀w es,k (.halt h w) es=seen P fn es)/\bI (λw=>K (.halt h w)))):bI (λw=>GStep.after (k (s.runT P w #[]).1 (s.runT P w #[]).2) (K (s.runT P w #[]).1)):=by (intro w g' w' es h v y G;dsimp only at h⊢;have z:∃es0,K (s.runT P w #[]).1=.go g' w' es0/\es=k (s.runT P w #[]).1 (s.runT P w #[]).2++es0:=by cases j:K (s.runT P w #[]).1<;>rw[j]at h<;>simp only[GStep.after]at h<;>cases h;exact⟨_,rfl,rfl⟩);obtain⟨es0,j,rfl⟩:=z;have l:jk es0:=λe A=>G e (Array.mem_append_right _ A);have c:jk (k (s.runT P w #[]).1 (s.runT P w #[]).2):=λe A=>G e (XL _ A);have d:=Ks P s w #[];cases m:s.runT P w #[]with|mk r o=>rw[m]at j c d;cases r with|ok a w1=>obtain⟨f,B⟩:=u a;rw[f]at c;obtain⟨g,i,p⟩:=d (xJ F fn o c);obtain⟨k1,C,D⟩:=B w1 g' w' es0 j v y l;simp only[Rw]at g i p;refine⟨Uf g k1,C.trans i,λτ q=>?_⟩;have e1:=p τ (λn a b=>q n a (Ui b k1));have E:=D τ (λn a b=>by rw[i];exact q n (Uf g a) b);simp only[e1,Rt,f,GStep.after,E]|halt x w1=>obtain f|⟨f,B⟩:=H x;exact(f w1 g' w' es0 j v y).elim;rw[f]at c;obtain⟨g,i,p⟩:=d (xJ F fn o c);obtain⟨k1,C,D⟩:=B w1 g' w' es0 j v y l;simp only[Rw]at g i p;refine⟨Uf g k1,C.trans i,λτ q=>?_⟩;have e1:=p τ (λn a b=>q n a (Ui b k1));have E:=D τ (λn a b=>by rw[i];exact q n (Uf g a) b);simp only[e1,Rt,f,GStep.after,E]
def bI.run(q)(K:Result Nat->GStep)(c:∀a,bI (λw=>K (.ok a w)))(m:∀h,bI (λw=>K (.halt h w))):bI (λw=>K ((choose q).run P w)):=by intro w g' w' es h d f g;dsimp only at h⊢;simp only[choose,Sem.run,pure]at h⊢;by_cases i:q.forced=true;simp only[Ud i]at h⊢;exact c 0 w g' w' es h d f g;simp only[Uc i]at h⊢;obtain⟨k1,k,l⟩:=c _ {w with drawn:=w.drawn+1} g' w' es h d f g;refine⟨Uf (Nat.le_succ _) k1,k,λτ j=>?_⟩;have e:=j w.drawn (Ue _) k1;have:=l τ (λn a b=>j n (Nat.le_of_succ_le a) b);simp only[av]at this⊢;rw[e];exact this
end Go.Tm
namespace Go.Tm
section
variable {G:Nat}
def idR(G)(B:Nat->Prop):Ren G:=⟨λr R=>r=R/\B r,λ_ _ _ h a=>h.1.symm.trans a.1,λ_ _ _ h a=>h.1.trans a.1.symm,λ_ _ h=>by rw[h.1]⟩
theorem lK(π:Ren G):∀V,∃v,aA π v V
 | .bool b=>⟨_,.bool b⟩
 | .int k n=>⟨_,.int k n⟩
 | .float k b=>⟨_,.float k b⟩
 | .complex k a b=>⟨_,.complex k a b⟩
 | .string s=>⟨_,.string s⟩
 | .pointer none=>⟨_,.JG⟩
 | .pointer (some a)=>⟨_,.my _ rfl⟩
 | .slice none l c=>⟨_,.iL l c⟩
 | .slice (some a) l c=>⟨_,.my _ rfl⟩
 | .map none=>⟨_,.L0⟩
 | .map (some r)=>⟨_,.my _ rfl⟩
 | .chan none=>⟨_,.RF⟩
 | .chan (some r)=>⟨_,.my _ rfl⟩
 | .func (.method n) f c=>⟨_,.JH n f c⟩
 | .func (.func g) f c=>⟨_,.my _ rfl⟩
 | .func (.methodOf t n) f c=>⟨_,.my _ rfl⟩
 | .func (.via t p g b) f c=>⟨_,.my _ rfl⟩
 | .func (.yield l) f c=>⟨_,.my _ rfl⟩
 | .nilFunc=>⟨_,.nilFunc⟩
 | .iface t v=>⟨_,.my _ rfl⟩
 | .nilIface=>⟨_,.nilIface⟩
 | .agg cs=>by
  have h:∀i:Nat,∃v,∀x,cs[i]? =some x->aA π v x:=λi=>by
   by_cases hi:i<cs.size
   ·obtain⟨v,j⟩:=lK π cs[i]
    exact⟨v,λx d=>by rw[UD hi]at d;cases d;exact j⟩
   ·exact⟨.bool false,λx d=>by rw[Vz (by omega)]at d;cases d⟩
  refine⟨.agg (Array.ofFn λi:Fin cs.size=>(h i).choose),.agg (by simp) λi x X d e=>?_⟩;have hi:=(Uk.1 e).1;simp only[Array.getElem?_ofFn,hi,VX,UX]at d;subst d;exact(h i).choose_spec X e
 | .tuple cs=>by
  have h:∀i:Nat,∃v,∀x,cs[i]? =some x->aA π v x:=λi=>by
   by_cases hi:i<cs.size
   ·obtain⟨v,j⟩:=lK π cs[i]
    exact⟨v,λx d=>by rw[UD hi]at d;cases d;exact j⟩
   ·exact⟨.bool false,λx d=>by rw[Vz (by omega)]at d;cases d⟩
  refine⟨.tuple (Array.ofFn λi:Fin cs.size=>(h i).choose),.tuple (by simp) λi x X d e=>?_⟩;have hi:=(Uk.1 e).1;simp only[Array.getElem?_ofFn,hi,VX,UX]at d;subst d;exact(h i).choose_spec X e
noncomputable def mask(π:Ren G)(V:Value):Value:=open Classical in if aA π V V then V else match V with
 | .slice (some _) 0 0=>.slice (some ⟨0,0,some 0⟩) 0 0
 |_=>(lK π V).choose
def NA(π:Ren G)(V):aA π (mask π V) V:=by unfold mask;split;assumption;split;exact .qE _;exact(lK π V).choose_spec
def ja{π:Ren G}{V}(h:aA π V V):mask π V=V:=Ud h
def Ij(π:Ren G)(c):∃b,mask π (.slice c 0 0)=.slice b 0 0:=by cases c with|none=>exact⟨none,ja (.iL _ _)⟩|some a=>unfold mask;split;exact⟨_,rfl⟩;exact⟨_,rfl⟩
noncomputable def km(π:Ren G)(fz:Prop):Obj->Obj
 | .cells c e f=>.cells (c.map (mask π)) e (open Classical in if fz then(0,max f.2 (c.size+1))else f)
 |o=>o
noncomputable def dj(π:Ren G)(fz:Nat->Prop)(W:World):World:={W with heap:=(Array.range W.heap.size).map λb=>km π (fz b) (W.heap[b]?.getD default)}
def fN(π:Ren G)(fz W b):(dj π fz W).heap[b]? =(W.heap[b]?).map (km π (fz b)):=by unfold dj;simp only[UK,Array.getElem?_range];by_cases a:b<W.heap.size;simp[a];simp[a]
def kW(π:Ren G)(fz W):(dj π fz W).heap.size=W.heap.size:=by simp[dj]
def kB{S B Pr W}(d:∀b,B b->∃o,W.heap[b]? =some o/\((∃c e f,o=.cells c e f)\/(¬Pr b/\(∀c e f,o≠ .cells c e f)/\fG S (idR G B) o o)))(g:∀b,Pr b->B b)(p:G<=W.heap.size)(j:∃c e f,W.heap[0]? =some (.cells c e f)):bw S Pr (idR G B) (dj (idR G B) Pr W) W:=by refine⟨λr R h=>?_,λr R h k=>?_,λR h=>?_,by rw[kW];exact p,p,by obtain⟨c,e,f,j⟩:=j;rw[fN,j];exact⟨_,_,_,rfl⟩⟩;obtain⟨rfl,l⟩:=h;obtain⟨o,a,m⟩:=d r l;refine⟨km (idR G B) (Pr r) o,o,by rw[fN,a];rfl,a,?_⟩;obtain⟨c,e,f,rfl⟩|⟨k,n,q⟩:=m;unfold km;refine .cells e (aZ.lN λi=>?_) ?_;rw[UK];(cases hi:c[i]? with|none=>exact .none|some x=>exact .some (NA _ x));split;refine .inr ⟨rfl,?_,?_⟩;simp only[VI];omega;simp only[];omega;exact .inl rfl;(cases o<;>first|exact absurd rfl (n _ _ _)|exact q);obtain⟨rfl,l⟩:=h;obtain⟨o,a,m⟩:=d r l;obtain⟨c,e,f,rfl⟩|⟨n,_⟩:=m;refine⟨c.map (mask (idR G B)),e,(0,max f.2 (c.size+1)),?_,rfl,?_⟩;rw[fN,a];simp[km,k];simp only[VI];omega;exact absurd k n;obtain⟨o,a,_⟩:=d R (g R h);exact(Uk.1 a).1
end
section
variable {S:Kn} {P:Program} {fs:Array Func} {π:Ren P.globals.size}
def NJ{a A}(h:VsR π a A):(SR S (ah P fs) P) VQ π (Extern.AbiNoEscape.same a) (Extern.AbiNoEscape.same A):=by have b:=h.toList;obtain⟨a⟩:=a;obtain⟨A⟩:=A;simp only[]at b;cases b with|nil=>exact al|cons c b=>cases b with|nil=>exact ai c|cons=>exact al
def vU(n):∀{π:Ren P.globals.size} {a A} (acc),aS π a A->(SR S (ah P fs) P) EqQ π (Extern.Bytes.loadBytes a n acc) (Extern.Bytes.loadBytes A n acc):=by
 induction n with
 |zero=>intro π a A acc h;exact ai rfl
 |succ n b=>
  intro π a A acc h;unfold Extern.Bytes.loadBytes;refine(rK h).bind ?_;intro c d v V e;cases e with
  |int k n=>cases k<;>first|exact b _ ((h.mono d).add 1)|exact al
  |_=>exact al
def nF{x X}(h:aA π x X):(SR S (ah P fs) P) EqQ π (Extern.Bytes.bytesOf x) (Extern.Bytes.bytesOf X):=by cases h with|string=>exact ai rfl|iL=>exact ai rfl|slice l c h=>exact vU _ _ h|qE A=>exact ai rfl|_=>exact al
def AL{x X}(h:aA π x X):(SR S (ah P fs) P) EqQ π (Extern.Bytes.asByte x) (Extern.Bytes.asByte X):=by
 cases h with
 |int k n=>cases k<;>first|exact ai rfl|exact al
 |_=>exact al
def CK{a A}(h:VsR π a A):(SR S (ah P fs) P) VQ π (Extern.BytealgIndexByte.indexByte a) (Extern.BytealgIndexByte.indexByte A):=by have d:=h.toList;obtain⟨a⟩:=a;obtain⟨A⟩:=A;simp only[]at d;cases d with|nil=>exact al|cons e d=>cases d with|nil=>exact al|cons f d=>cases d with|cons=>exact al|nil=>refine(nF e).bind ?_;rintro g i b _ rfl;refine(AL (f.mono i)).bind ?_;rintro j k c _ rfl;split<;>exact ai (.int _ _)
def NK{a A}(h:VsR π a A):(SR S (ah P fs) P) VQ π (Extern.BytealgCount.count a) (Extern.BytealgCount.count A):=by have d:=h.toList;obtain⟨a⟩:=a;obtain⟨A⟩:=A;simp only[]at d;cases d with|nil=>exact al|cons e d=>cases d with|nil=>exact al|cons f d=>cases d with|cons=>exact al|nil=>refine(nF e).bind ?_;rintro g i b _ rfl;refine(AL (f.mono i)).bind ?_;rintro j k c _ rfl;exact ai (.int _ _)
def yn:∀(n t) (acc),bn acc->bn (Extern.BytealgMakeNoZero.digits n t acc):=by intro n;induction n with|zero=>exactλ_ _ h=>h|succ n a=>exactλt acc h=>a _ _ (h.push (kx _ _))
def zv(f e){a A}(h:VsR π a A):(SR S (ah P fs) P) VQ π (Extern.BytealgMakeNoZero.makeNoZero f e a) (Extern.BytealgMakeNoZero.makeNoZero f e A):=by
 have c:=h.toList;obtain⟨a⟩:=a;obtain⟨A⟩:=A;simp only[]at c;cases c with
 |nil=>exact al
 |cons g c=>
 cases c with
 |cons=>exact al
 |nil=>
 cases g with
 |int k n=>(cases k<;>first|exact al|skip);unfold Extern.BytealgMakeNoZero.makeNoZero;cases e[0]? with|none=>exact al|some t=>(refine(aB t).bind ?_;rintro i q d _ ⟨rfl,_⟩;cases d<;>first|exact al|skip);refine dh (.never (aC (aG _))) ?_;refine(eu _).bind ?_;rintro j r cap _ rfl;refine(qO _).bind ?_;intro l s _ _ _;refine(eu _).bind ?_;rintro m u b _ rfl;refine(iS _ (fu (yn _ _ _ .empty))).bind ?_;intro o v a A p;exact ai (.slice _ _ p)
 |_=>exact al
def zw(a:∀g,S.dF g=true->π g g)(n)(b:∀g,P.globals.findIdx? (·.name==n)=some g->S.dF g=true):(SR S (ah P fs) P) AQ π (globalAddr n) (globalAddr n):=by unfold globalAddr;refine cE.bind ?_;rintro c d _ _ ⟨rfl,rfl⟩;rw[show(ah P fs).globals=P.globals from rfl];cases h:P.globals.findIdx? (·.name==n)with|none=>exact al|some g=>exact ai (.mk (d _ _ (a g (b g h))))
def KV(k:∀g,S.dF g=true->π g g)(l:∀g,P.globals.findIdx? (·.name== "internal/bytealg.MaxLen")=some g->S.dF g=true){a A}(h:VsR π a A):(SR S (ah P fs) P) VQ π (Extern.BytealgIndex.index a) (Extern.BytealgIndex.index A):=by have d:=h.toList;obtain⟨a⟩:=a;obtain⟨A⟩:=A;simp only[]at d;cases d with|nil=>exact al|cons n d=>cases d with|nil=>exact al|cons o d=>cases d with|cons=>exact al|nil=>(refine(nF n).bind ?_;rintro p j b _ rfl;refine(nF (o.mono j)).bind ?_;rintro f q c _ rfl;have e:(SR S (ah P fs) P) EqQ f Extern.BytealgIndex.maxLen Extern.BytealgIndex.maxLen:=by unfold Extern.BytealgIndex.maxLen;refine(zw (λg r=>q _ _ (j _ _ (k g r))) _ l).bind ?_;intro i s x X t;refine(rK t).bind ?_;intro u y v V w;exact jy w);refine e.bind ?_;rintro i s m _ rfl;refine dh (.never (aC (.halt _))) ?_;refine dh (.never (aC (.halt _))) ?_;split<;>exact ai (.int _ _)
end
end Go.Tm
namespace Go.Tm
variable {P:Program}
def bI.ended(f:World->Outcome×World×Array Event):bI (λw=>.ended (f w).1 (f w).2.1 (f w).2.2):=bI.no λw=>iD.ended _ _ _
def xK(fr a m b w):iD (dieOf fr a m b w):=by intro g' w' es h c _;unfold dieOf at h;cases h;cases c
def qk(fr m w):iD (endThrow fr m w):=xK _ _ _ _ _
def zn(fr cs d m w):iD (endFatal P fr cs d m w):=by unfold endFatal;dsimp only;split;exact xK _ _ _ _ _;exact iD.ended _ _ _;exact iD.ended _ _ _
def Hq(a:kP P)(fr cs d g w):iD (early P fr cs d g w):=by unfold early;simp only[a.follows,a.stepOf,Vu,Uz,Uy];exact iD.ended _ _ _
def nw(main fr cs v)(a:fr.kind=.normal):bI (λw=>doReturn P main fr cs none v w):=by unfold doReturn;cases cs with|cons c cs=>simp only[a];exact bI.go _ _|nil=>simp only[a];cases main with|false=>exact bI.go _ _|true=>simp only[Vu,Uz,Uy];cases P.inits.idxOf? fr.fn with|some k=>exact bI.go _ _|none=>exact bI.ended λw=>(.done v,w,_)
def oJ(p f):seen p f #[]=#[]:=rfl
def Jh{b}:Result b->Sem b
 | .ok a _=>.pure a
 | .halt h _=>.halt h
def Kt{a}(r:Result a):(Jh r).runT P (Rw r) #[]=(r,#[]):=by cases r<;>rfl
def ky(r):GStep.after #[] r=r:=by cases r<;>simp[GStep.after]
def bI.congr{f g:World->GStep}(h:∀w,f w=g w)(a:bI g):bI f:=by rw[funext h];exact a
def iY{r}(h:iD r):iD (GStep.after #[] r):=by rw[ky];exact h
def kz(f:kP P)(fr cs s)(i:fr.kind=.normal):bI (λw=>stepG.apply P true fr cs none s w):=by
 have b:(fr.kind==CallKind.early)=false:=by rw[i];rfl
 refine bI.congr (λw=>?_) (bI.sem f s fr.fn (λr es=>seen P fr.fn (match r with| .halt .blocked _| .halt .waiting _| .halt (.unsupported (.initOrder _)) _=>#[]|_=>es)) (λr=>stepG.apply P true fr cs none (Jh r) (Rw r)) ?_ ?_);unfold stepG.apply;simp only[Us,b,Uz,Uy,Kt];generalize s.runT P w #[]=j;obtain⟨r,es⟩:=j;dsimp only;obtain⟨a,w1⟩|⟨h,w1⟩:=r;simp only[oJ,ky];cases h with|unsupported u=>cases u<;>simp only[oJ,ky]|_=>simp only[oJ,ky]
 ·intro a
  refine⟨λw es=>rfl,?_⟩;unfold stepG.apply;simp only[Us,b,Uz,Uy,Jh,Rw,Sem.runT,oJ,ky];cases a with
  |callThen d r k wr=>dsimp only;split<;>exact bI.go _ _
  |row r args=>dsimp only;split<;>exact bI.go _ _
  |stack r k=>dsimp only;split<;>exact bI.go _ _
  |recover=>dsimp only;split<;>exact bI.go _ _
  |spawn d=>(refine bI.no λw=>?_;dsimp only;repeat' split);all_goals first|exact qk _ _ _|exactλ_ _ _ h=>by cases h
  |_=>first|exact bI.go _ _|exact bI.no λw _ _ _ h=>by cases h
 intro h
 unfold stepG.apply;simp only[Us,b,Uz,Uy,Jh,Rw,Sem.runT,oJ,ky];cases h with
 |panic v=>exact .inr ⟨λw es=>rfl,bI.go _ _⟩
 |goexit=>exact .inr ⟨λw es=>rfl,bI.go _ _⟩
 |blocked=>exact .inl λw g' w' es h _ e=>by cases h;cases e
 |waiting=>exact .inl λw g' w' es h _ e=>by cases h;cases e
 |exit c=>exact .inl λw=>iY (iD.ended _ _ _)
 |fatal m=>exact .inl λw=>iY (zn _ _ _ _ _)
 |throw m=>exact .inl λw=>iY (qk _ _ _)
 |unsupported u=>cases u with|initOrder g=>exact .inl λw=>iY (Hq f _ _ _ _ _)|_=>exact .inl λw=>iY (iD.ended _ _ _)
 |stuck m=>exact .inl λw=>iY (iD.ended _ _ _)
def M6(a:kP P)(fr cs)(b:fr.kind=.normal):bI (λw=>stepG.oper P true fr cs none w):=by unfold stepG.oper;cases fr.oper? with|none=>exact bI.no λw=>iD.ended _ _ _|some o=>dsimp only;split;exact kz a fr cs _ b;exact kz a fr cs _ b
def bI.M7(d:kP P){c F}(s:Sem c)(fn)(K:Result c->GStep)(e:∀w,F w=GStep.after (seen P fn (s.runT P w #[]).2) (K (s.runT P w #[]).1)) (b:∀a,bI (λw=>K (.ok a w))) (f:∀h,bI (λw=>K (.halt h w))):bI F:=
 bI.congr e (bI.sem d s fn (λ_ es=>seen P fn es) K (λa=>⟨λ_ _=>rfl,b a⟩) λh=>.inr ⟨λ_ _=>rfl,f h⟩)
def Ku(b:kP P)(main:Bool)(fr:Frame)(cs:List Frame)(c:fr.kind=.normal)(jump:Option Code):bI (λw=>match fr.roundOf with
 |none=>if jump matches none|some .ret then GStep.go {frame:={fr with mode:=.returning},callers:=cs,status:=.running,dying:=none} w else GStep.ended (.stuck "exit, goto: no such block or label" (fr.pos P)) w
 |some l=>GStep.after (seen P fr.fn ((Instr.endRound l jump).runT P w #[]).2) (match((Instr.endRound l jump).runT P w #[]).1 with
  | .ok v w=>doReturn P main fr cs none v w
  | .halt _ w=>GStep.ended (.stuck "range over a function: no such loop" (fr.pos P)) w)):=by
 cases fr.roundOf with
 |none=>
  dsimp only;split
  ·simp only[Us];exact bI.go _ _
  ·simp only[Us];exact bI.go _ _
  ·simp only[Uz,Uy];exact bI.no λw=>iD.ended _ _ _
 |some l=>
  exact bI.M7 b (Instr.endRound l jump) fr.fn (λr=>match r with
   | .ok v w=>doReturn P main fr cs none v w
   | .halt _ w=>GStep.ended (.stuck "range over a function: no such loop" (fr.pos P)) w) (λw=>rfl) (λa=>nw main fr cs a c) λh=>bI.no λw=>iD.ended _ _ _
def M8(n:kP P)(main fr cs)(m:fr.kind=.normal):bI (λw=>stepG.exec P main true fr cs none w):=by
 have j:=λfr m jump=>Ku n main fr cs m jump;obtain⟨fn,tmps,todo,defers,mode,kind,g⟩:=fr;unfold stepG.exec;cases todo with
 |nil=>exact j _ m none
 |cons x k=>
  cases x with
  |code c=>
   cases c with
   |ret=>exact j _ m (some .ret)
   |skip=>exact bI.go _ _
   |label=>exact bI.go _ _
   |seq=>exact bI.go _ _
   |cond c a b=>dsimp only;generalize Frame.eval _ c=v;cases v<;>first|exact bI.go _ _|exact bI.no λw=>iD.ended _ _ _
   |block=>exact bI.go _ _
   |loop=>exact bI.go _ _
   |scope=>exact bI.go _ _
   |exit o=>dsimp only;cases exitTo o k with|none=>exact j _ m (some (.exit o))|some q=>exact bI.go _ _
   |goto l=>dsimp only;cases gotoIn l k with|none=>exact j _ m (some (.goto l))|some q=>exact bI.go _ _
   |rangeFunc f params assign body=>
    exact bI.M7 n (Instr.enterLoop fn tmps params assign body g) fn (λr=>match r with
     | .ok (l,mark) w=>stepG.apply P true ⟨fn,tmps,.inRangeFunc l::k,mark++defers,mode,kind,g⟩ cs none (do let d <-resolve (⟨fn,tmps,.inRangeFunc l::k,mark++defers,mode,kind,g⟩:Frame).eval {callee:=.value f,args:=#[.const (.func (.yield l) #[] #[])],argTypes:=#[]} 0;invoke d.target d.args) w
     | .halt _ w=>GStep.ended (.stuck "range over a function: no such loop" (Frame.pos P ⟨fn,tmps,.code (.rangeFunc f params assign body)::k,defers,mode,kind,g⟩)) w) (λw=>rfl) (λa=>kz n _ cs _ m) λh=>bI.no λw=>iD.ended _ _ _
   |refuse=>exact bI.no λw=>iD.ended _ _ _
   |region o ops p=>
    dsimp only;cases p with
    |false=>exact bI.go _ _
    |true=>
     exact bI.run (P:=P) (.order fn o) (λr=>match r with
      | .ok t w=>GStep.go {frame:=⟨fn,tmps,.inRegion ops (Region.schedule (P.follows .mixedOrders) ops t)::k,defers,mode,kind,g⟩,callers:=cs,status:=.running,dying:=none} w
      | .halt _ w=>GStep.ended (.stuck "order" (Frame.pos P ⟨fn,tmps,.code (.region o ops true)::k,defers,mode,kind,g⟩)) w) (λa=>bI.go _ _) λh=>bI.no λw=>iD.ended _ _ _
  |inBlock=>exact bI.go _ _
  |inLoop=>exact bI.go _ _
  |inScope=>exact bI.go _ _
  |inRegion ops l=>cases l with|nil=>exact bI.go _ _|cons i rest=>dsimp only;split;exact M6 n _ cs m;exact bI.go _ _
  |call d b r s=>exact kz n _ cs _ m
  |extern row args=>dsimp only;cases Extern.next row with|none=>exact bI.no λw=>iD.ended _ _ _|some e=>exact kz n _ cs _ m
  |inRangeFunc=>exact bI.no λw=>iD.ended _ _ _
  |beginRound=>exact kz n _ cs _ m
  |endRangeFunc l=>
   exact bI.M7 n (Instr.endLoop l) fn (λr=>match r with
    | .ok jump w=>GStep.go {frame:=⟨fn,tmps,(jump.map Item.code).toList++k,defers,mode,kind,g⟩,callers:=cs,status:=.running,dying:=none} w
    | .halt (.panic v) w=>GStep.go {frame:=Frame.raise ⟨fn,tmps,.endRangeFunc l::k,defers,mode,kind,g⟩ [{v,recovered:=false}],callers:=cs,status:=.running,dying:=none} w
    | .halt _ w=>GStep.ended (.stuck "range over a function: no such loop" (Frame.pos P ⟨fn,tmps,.endRangeFunc l::k,defers,mode,kind,g⟩)) w) (λw=>rfl) (λa=>bI.go _ _) λh=>by cases h<;>first|exact bI.go _ _|exact bI.no λw=>iD.ended _ _ _
def Hr(c:kP P)(main fr cs)(d:fr.kind=.normal)(f:∀D∈fr.defers,∃r,D=⟨.collected r,#[]⟩)(e:fr.mode=.returning):bI (λw=>unwind P main fr cs none w):=by
 obtain⟨fn,tmps,todo,defers,mode,kind,b⟩:=fr;unfold unwind;cases defers with
 |cons D ds=>
  obtain⟨r,rfl⟩:=f D (.head _);exact bI.M7 c (Instr.takeDeferred r) fn (λx=>match x with
   | .ok calls w=>GStep.go {frame:=⟨fn,tmps,todo,calls++ds,mode,kind,b⟩,callers:=cs,status:=.running,dying:=none} w
   | .halt _ w=>GStep.ended (.stuck "the deferred calls of a range-over-func loop have been taken" (Frame.pos P ⟨fn,tmps,todo,⟨.collected r,#[]⟩::ds,mode,kind,b⟩)) w) (λw=>rfl) (λa=>bI.go _ _) λh=>bI.no λw=>iD.ended _ _ _
 |nil=>
  simp only at e;subst e;dsimp only;cases j:P.funcs[fn]? with
  |none=>exact nw main _ cs _ d
  |some g=>
   refine bI.M7 c (results g tmps) fn (λx=>match x with
    | .ok v w=>doReturn P main ⟨fn,tmps,todo,[],.returning,kind,b⟩ cs none v w
    | .halt (.stuck s) w=>GStep.ended (.stuck s (Frame.pos P ⟨fn,tmps,todo,[],.returning,kind,b⟩)) w
    | .halt _ w=>GStep.ended (.stuck "return: the result variables cannot be read" (Frame.pos P ⟨fn,tmps,todo,[],.returning,kind,b⟩)) w) (λw=>?_) (λa=>nw main _ cs a d) λh=>?_
   dsimp only;generalize (results g tmps).runT P w #[]=i;obtain⟨r,es⟩:=i;obtain⟨a,w1⟩|⟨h,w1⟩:=r;rfl;cases h<;>rfl;cases h<;>exact bI.no λw=>iD.ended _ _ _
def uU(b:kP P)(main){fr cs}(c:fr.kind=.normal)(d:∀D∈fr.defers,∃r,D=⟨.collected r,#[]⟩)(f:fr.mode=.run\/fr.mode=.returning){w w' g' es} (h:stepG P main ⟨fr,cs,.running,none,none⟩ w=.go g' w' es) (a:g'.dying=none) (g:g'.status=.running) (i:jk es):w.drawn<=w'.drawn/\w'.tape=w.tape/\∀τ,Agr w w'.drawn τ->stepG P main ⟨fr,cs,.running,none,none⟩ (av w τ w.drawn)=.go g' (av w' τ w'.drawn) es:=by (have key:bI (λw=>stepG P main ⟨fr,cs,.running,none,none⟩ w):=by unfold stepG;obtain e|e:=f;simp only[e];exact M8 b main fr cs c;simp only[e];exact Hr b main fr cs c d e);exact key w g' w' es h a g i
end Go.Tm
namespace Go.Tm
def uV{Pr G}{π:Ren G}{es}(h:∀e∈es,lu Pr π e):jk es:=by intro e a b;have:=h e a;unfold lu at this;rw[b]at this;exact this
def Cl{G}{π:Ren G}{d D}(h:bt (pM π) d D):∀x∈D,∃r,x=⟨.collected r,#[]⟩:=by induction h with|nil=>simp|cons h _ b=>intro x hx;cases h with|mk a=>obtain rfl|hx:=UC.1 hx;exact⟨_,rfl⟩;exact b x hx
section
variable {S:Kn} {P:Program} {fs:Array Func} {Pr:Nat->Prop}
def Cp.calm{Post π c F CS W}(h:Cp S P fs Pr Post π c F CS W):F.kind=.normal/\(∀x∈F.defers,∃r,x=⟨.collected r,#[]⟩)/\(F.mode=.run\/F.mode=.returning):=⟨h.top.Kind,Cl h.top.defers,by rw[h.top.mode];exact h.top.calm⟩
def Cp.run(x:Tab S P fs)(y:kP P)(i:∀f,S.stop f=false){Post π c F CS W}(h:Cp S P fs Pr Post π c F CS W)(u:∀n,W.drawn<=n->S.calm (W.tape n)):∃(j:Ren P.globals.size) (c':Gh) (v:Frame) (k:World) (n:Nat),Cp S P fs Pr Post j c' v [] k/\c'.AtE/\Chg Pr π W k j/\W.drawn<=k.drawn/\∀B τ,Agr W k.drawn τ->runN P n (lone F (CS++B) (av W τ W.drawn))=.next (lone v B (av k τ k.drawn)):=by have l:=h.ra.acc;induction l generalizing π F CS W with|intro c _ z=>by_cases p:c.AtE;have m:=h.cs;rw[p.1]at m;cases m;exact⟨π,c,F,W,0,h,p,Chg.refl _ _ _,Ue _,λB τ _=>rfl⟩;obtain⟨c',N,A,k,ev,j,C,D,q,e,r⟩:=h.step x i p (u _ (Ue _)) true;(have d:=h.calm;have g:∀B,_:=λB=>uU y true d.1 d.2.1 d.2.2 (q B) rfl rfl (uV r);have s:=(g []).1;obtain⟨t,E,G,H,n,I,J,K,w,L⟩:=z c' C D λn M=>by rw[e.tape];exact u n (Uf s M));refine⟨t,E,G,H,n+1,I,J,e.trans K,Uf s w,λB τ o=>?_⟩;unfold runN;rw[step_lone_go (by rw[(g B).2.2 τ λn a b=>o n a (Ui b w)];rfl)];exact L B τ λn a b=>by rw[e.tape];exact o n (Uf s a) b
end
def Ex{P fr x xs w'}:∀n w1,runN P n (lone aH [] w1)≠ .next (lone fr (x::xs) w'):=by intro n w1;cases n with|zero=>intro e;have:=(jC (Stepped.next.inj e)).2.1;simp at this|succ n=>(intro e;unfold runN at e;have:∃o w2,step P (lone aH [] w1)=.ended o w2:=by refine⟨_,_,step_lone_ended (o:=?_) (w':=w1) ?_⟩;rotate_left;simp[stepG,stepG.exec,aH,GStep.bare];rfl);obtain⟨o,w2,a⟩:=this;rw[a]at e;cases e
def gone{P a fr x xs w0 w' v}(b:a.leaving P w0 (.returned v)){n}(h:runN P (n+1) (lone a [aH] w0)=.next (lone fr (x::xs) w')):False:=by unfold runN at h;rw[step_leave_returned b]at h;exact Ex n w0 h
def gO(P){a n m m1 m2}(c:runN P a m=.next m1)(b:runN P n m=.next m2)(d:a<=n):runN P (n-a) m1=.next m2:=by (have:n=a+(n-a):=by omega);rw[this,runN_add,c]at b;exact b
section
variable {S:Kn} {P:Program} {fs:Array Func}
end
def Kept(w0 w:World):Prop:=w.heap.size=w0.heap.size/\∀b:Nat,w.heap[b]? =w0.heap[b]? \/w.heap[b]? =some (.deferred none)
def Kept.refl(w):Kept w w:=⟨rfl,λ_=>.inl rfl⟩
inductive yl(G:Nat)(w0:World)(ch0:List PanicEntry):Machine->Prop
 |up {fr:Frame} {cs:List Frame} {w:World} (π:Ren G):fr.mode=.panicking ch0->(∀f∈fr::cs,Marks π f)->Dp π w->(∀f∈cs,f.mode=.run\/f.mode=.returning)->Kept w0 w->yl G w0 ch0 (lone fr (cs++[aH]) w)
 |low (ch) (w:World):yl G w0 ch0 (lone {aH with mode:=.panicking ch} [] w)
def NC{G w0 ch0 m}(h:yl G w0 ch0 m){fr w}(e:m=lone fr [aH] w):fr.mode=.panicking ch0/\Kept w0 w:=by cases h with| @up fr' cs w' π c _ _ _ b=>have a:=jC e;have d:=a.2.1;simp at d;obtain⟨rfl,_,rfl⟩:=a;exact⟨c,b⟩|low ch w'=>simp only[lone,Machine.mk.injEq]at e;have a:=e.2.1;simp at a
def Il{G w0 ch0 P m}(h:yl G w0 ch0 m):(∃o w,step P m=.ended o w)\/∃m',step P m=.next m'/\yl G w0 ch0 m':=by
 cases h with
 |low ch w=>refine .inl ⟨_,_,step_lone_ended (o:=?_) (w':=w) ?_⟩;rotate_left;simp[stepG,unwind,callDeferred,aH,GStep.bare];rfl
 | @up fr cs w π p q s a i=>
  have j:=q fr (.head _);cases d:fr.defers with
  |nil=>
   by_cases g:fr.catches P=true
   ·refine .inl ⟨_,_,step_lone_ended (o:=?_) (w':=w) ?_⟩;(rotate_left);simp[stepG,unwind,d,p,g,GStep.bare];rfl
   cases cs with|nil=>refine .inr ⟨_,step_lone_go (fr':={aH with mode:=.panicking ch0}) (cs':=[]) (w':=w) ?_,.low _ w⟩;simp[stepG,unwind,d,p,g,GStep.bare,Frame.raise,aH]|cons c cs=>have u:=q c (.tail _ (.head _));refine .inr ⟨_,step_lone_go (fr':=c.raise ch0) (cs':=cs++[aH]) (w':=w) ?_,?_⟩;simp[stepG,unwind,d,p,g,GStep.bare];(have e:c.raise ch0={c with mode:=.panicking ch0}:=by unfold Frame.raise;rcases a c (.head _)with x|x<;>rw[x]);rw[e];refine .up π rfl (λf j=>?_) s (λf j=>a f (.tail _ j)) i;cases j with|head=>exact u|tail _ j=>exact q f (.tail _ (.tail _ j))
  |cons D ds=>obtain⟨r,R,rfl,v⟩:=j D (by rw[d];exact .head _);have l:=Eu P r w λo k=>s r R o v k;obtain e|⟨x,w',e⟩:=l;refine .inr ⟨_,step_lone_go (fr':={fr with defers:=ds}) (cs':=cs++[aH]) (w':={w with heap:=w.heap.setIfInBounds r (.deferred none)}) ?_,?_⟩;simp only[stepG,p,unwind,d,e];rfl;refine .up π p (λf n=>?_) ?_ a ⟨by simpa using i.1,λb=>?_⟩;(cases n with|head=>exactλD y=>j D (by rw[d];exact .tail _ y)|tail _ n=>exact q f (.tail _ n));intro z R' o t k;simp only[UY]at k;split at k;split at k;cases k;exact .inl rfl;cases k;exact s z R' o t k;simp only[UY];split;split;exact .inr rfl;rename_i A B;subst A;refine .inl ?_;rw[eq_comm,Array.getElem?_eq_none_iff,<-i.1];omega;exact i.2 b;refine .inl ⟨_,_,step_lone_ended (o:=?_) (w':=w') ?_⟩;(rotate_left);simp only[stepG,p,unwind,d,e];rfl
def E9{G w0 ch0 P}:∀(n) {m},yl G w0 ch0 m->∀{fr} {w},runN P n m=.next (lone fr [aH] w)->fr.mode=.panicking ch0/\Kept w0 w:=by intro n;induction n with|zero=>intro m h fr w e;exact NC h (by simpa[runN]using e)|succ n c=>(intro m h fr w e;unfold runN at e;rcases Il (P:=P) h with⟨o,w',a⟩|⟨d,a,b⟩);rw[a]at e;cases e;rw[a]at e;exact c b e
end Go.Tm

import Derived.Test.YtaglpcmhopjebaaGreatDoorY6
set_option linter.all false
set_option maxRecDepth 100000
set_option maxHeartbeats 20000000
namespace Go.Tm
inductive gM(S:Kn){G:Nat}(π:Ren G):Item->Item->Prop
 |code {c:Code}:S.code c->gM S π (.code c) (.code c)
 |inBlock (id):gM S π (.inBlock id) (.inBlock id)
 |inLoop {b:Code}:S.code b->gM S π (.inLoop b) (.inLoop b)
 |inScope {b:Code}:S.code b->gM S π (.inScope b) (.inScope b)
 |inRegion {ops:Array Oper} (l):(∀o∈ops,Bg S o.op=true)->gM S π (.inRegion ops l) (.inRegion ops l)
 |inRangeFunc {l L:Nat}:π l L->gM S π (.inRangeFunc l) (.inRangeFunc L)
 |endRangeFunc {l L:Nat}:π l L->gM S π (.endRangeFunc l) (.endRangeFunc L)
 |beginRound:gM S π .beginRound .beginRound
structure aZ(S:Kn){G:Nat}(π:Ren G)(f F:Frame):Prop where
 fn:F.fn=f.fn
 ent:S.ent f.fn=true
 tmps:VsR π f.tmps F.tmps
 todo:bg (gM S π) f.todo F.todo
 defers:bg (oY π) f.defers F.defers
 mode:F.mode=f.mode
 calm:f.mode=.run\/f.mode=.returning
 kind:f.kind=.normal
 Kind:F.kind=.normal
 round:dO (λl L=>π l L) f.roundOf F.roundOf
section mono
variable {G:Nat} {S:Kn} {π π':Ren G} (l:Ren.le π π')
include l
def gM.mono{x X:Item}(h:gM S π x X):gM S π' x X:=by
 cases h with
 |code h=>exact .code h
 |inBlock=>exact .inBlock _
 |inLoop h=>exact .inLoop h
 |inScope h=>exact .inScope h
 |inRegion t h=>exact .inRegion t h
 |inRangeFunc h=>exact .inRangeFunc (l _ _ h)
 |endRangeFunc h=>exact .endRangeFunc (l _ _ h)
 |beginRound=>exact .beginRound
def aZ.mono{f F:Frame}(h:aZ S π f F):aZ S π' f F:={h with tmps:=VsR.mono l h.tmps,todo:=h.todo.mono λ_ _=>gM.mono l,defers:=h.defers.mono λ_ _=>oY.mono l,round:=h.round.mono λ_ _ x=>l _ _ x}
end mono
def Marks{G}(π:Ren G)(f:Frame):Prop:=∀D∈f.defers,∃r R,D=⟨.collected r,#[]⟩/\π r R
def Ks{G}{π:Ren G}{l L}(h:bg (oY π) l L):∀D∈l,∃r R,D=⟨.collected r,#[]⟩/\π r R:=by
 induction h with
 |nil=>intro D h;cases h
 |cons h _ b=>
  intro D a;cases a with
  |head=>cases h with|mk h=>exact⟨_,_,rfl,h⟩
  |tail _ a=>exact b D a
def bg.left{b c R}{l:List b}{m:List c}(h:bg R l m):∀x∈l,∃y,R x y:=by
 induction h with
 |nil=>intro x h;cases h
 |cons h _ e=>
  intro x a;cases a with
  |head=>exact⟨_,h⟩
  |tail _ a=>exact e x a
def jx(G:Nat)(B₀:List Frame)(r:GStep):Prop:=
 match r with
 | .ended .. =>True
 | .go g w _=>∃(π:Ren G) (cs:List Frame),g.callers=cs++B₀/\g.status=.running/\g.dying=none/\g.offers=none/\(∃v,g.frame.mode=.panicking [{v,recovered:=false}])/\(∀f∈g.frame::cs,Marks π f)/\Dp π w/\∀f∈cs,f.mode=.run\/f.mode=.returning
 |_=>False
def jx.after{G B₀ r}(es)(h:jx G B₀ r):jx G B₀ (r.after es):=by cases r<;>exact h
section
variable {S:Kn} {P:Program} {fs:Array Func} {Pr:Nat->Prop}
def Io(S:Kn)(P:Program)(fs:Array Func)(π:Ren P.globals.size)(cs:List Frame)(f F:Frame):Prop:=aZ S π f F\/cs≠[]/\∃g a A,S.stop g=true/\(a.size=1/\VsR π a A)/\f=Frame.enter (ah P fs) g a .normal/\F=Frame.enter P g A .normal
def rb(f:Frame):Bool:=f.roundOf.isSome
def Sh(a b:List Bool):Prop:=b=a\/(∃x,b=x::a)\/∃x,a=x::b
def lY(f v):rb (f.finish v)=rb f:=by unfold Frame.finish rb;split<;>rfl
def dv(S:Kn)(Pr:Nat->Prop)(P:Program)(fs:Array Func)(B₀:List Frame)(st:List Bool)(π:Ren P.globals.size)(w W:World)(d:Nat)(b:World->GStep)(f:List Frame->GStep):Prop:=
 ∃L:List (Question->Nat),(∀g∈L,S.fJ g)/\((∀τ,Fits τ d L->jx P.globals.size B₀ (b (av w τ d)))\/
  ∃fr cs w' es c CS a ev π',(∀τ,Fits τ d L->b (av w τ d)=.go ⟨fr,cs++B₀,.running,none,none⟩ (av w' τ (d+L.length)) es)/\(∀B,f B=.go ⟨c,CS++B,.running,none,none⟩ a ev)/\bj S Pr π' w' a/\Chg Pr π W a π'/\(∀e∈ev,kE Pr π' e)/\bg (aZ S π') cs CS/\Io S P fs π' cs fr c/\Sh st (rb fr::cs.map rb))
variable {B₀:List Frame} {st:List Bool} {π:Ren P.globals.size} {w W:World} {d:Nat}
def dv.bind{A B Q s s'}(k:SR S (ah P fs) P Q π s s')(C:bj S Pr π w W){m:Result A×Array Event->GStep}{t:Result B×Array Event->List Frame->GStep}
 (D:∀h w' c,gl h->Dp π w'->jx P.globals.size B₀ (m (.halt h w',c)))
 (E:∀π' a b w' i c ev d',Ren.le π π'->Q π' a b->bj S Pr π' w' i->(∀e∈ev,kE Pr π' e)->dv S Pr P fs B₀ st π' w' i d' (λw=>m (.ok a w,c)) (t (.ok b i,ev))):
 dv S Pr P fs B₀ st π w W d (λw=>m (s.runT (ah P fs) w #[])) (t (s'.runT P W #[])):=by
 obtain⟨L,n,h|⟨a,w',c,b,i,ev,π',u,v,F,H,y,I⟩⟩:=k.run (Pr:=Pr) w W #[] #[] d C
 ·refine⟨L,n,.inl λτ f=>?_⟩
  obtain⟨x,w',c,e1,J,e3⟩:=h τ f;simp only[e1];exact D x w' c J e3
 ·rw[S8]at v
  rw[v];obtain⟨z,j,g|⟨fr,cs,w2,o,K,CS,M,q,r,N,O,R,T,U,V,X⟩⟩:=E π' a b w' i c ev (d+L.length) y.le F H I
  ·refine⟨L++z,gK n j,.inl λτ f=>?_⟩
   have:=gJ f;simp only[u τ this.1];exact g τ this.2
  ·refine⟨L++z,gK n j,.inr ⟨fr,cs,w2,o,K,CS,M,q,r,λτ f=>?_,O,R,y.trans T,U,V,X⟩⟩
   have:=gJ f;simp only[u τ this.1];exact(N τ this.2).trans (by rw[RM,TR])
def dv.still(c:bj S Pr π w W){fr a cs CS}(f:bg (aZ S π) cs CS)(g:Io S P fs π cs fr a)(b:Sh st (rb fr::cs.map rb))(es){ev}(h:∀e∈ev,kE Pr π e):
 dv S Pr P fs B₀ st π w W d (λw=>.go ⟨fr,cs++B₀,.running,none,none⟩ w es) (λB=>.go ⟨a,CS++B,.running,none,none⟩ W ev):=
 ⟨[],by simp,.inr ⟨fr,cs,w,es,a,CS,W,ev,π,λτ _=>rfl,λ_=>rfl,c,Chg.refl _ _ _,h,f,g,b⟩⟩
def dv.vP{a GS}(h:∀τ,jx P.globals.size B₀ (a (av w τ d))):dv S Pr P fs B₀ st π w W d a GS:=⟨[],by simp,.inl λτ _=>h τ⟩
def CI(p f es):∀e∈seen p f es,e∈es:=by
 have key:∀(l:List Event) (q:Bool) (k:Array Event) (g:FuncId->Bool),∀e∈(l.foldl (λ(x:Bool×Array Event) e=>match x with|(q,kept)=>match e.loc with
  | .mark (.extern f)=>(g f,kept)
  |_=>(q,if q&& !e.sync then kept else kept.push e)) (q,k)).2,e∈k\/e∈l:=by
  intro l;induction l with
  |nil=>exactλq k g e h=>.inl h
  |cons x l a=>
   intro q k g e h;simp only[Ur]at h;split at h
   ·obtain h|h:=a _ _ _ _ h
    ·exact .inl h
    ·exact .inr (.tail _ h)
   ·obtain h|h:=a _ _ _ _ h
    ·split at h
     ·exact .inl h
     ·obtain h|rfl:=TY.1 h
      ·exact .inl h
      ·exact .inr (.head _)
    ·exact .inr (.tail _ h)
 intro e h;unfold seen at h;simp only[]at h;rw[<-T8]at h;obtain h|h:=key _ _ _ _ e h
 ·simp at h
 ·simpa using h
def aZ.eval(b:∀g,S.dB g=true->π g g){f F}(h:aZ S π f F):EvR S π f.eval F.eval:=by
 intro x a;cases x with
 |tmp t=>
  simp only[Frame.eval];have c:=h.tmps.get t;rw[Sw,Sw];generalize f.tmps[t]? =u at*;generalize F.tmps[t]? =v at*;cases c with
  |none=>exact az.tuple' .empty
  |some h=>exact h
 |const v=>exact nQ v a _ _
 |global g=>exact .ptr (.mk (b g a))
 |func f=>exact .func (.func f (by simpa[cZ]using a)) rfl (λi x X h=>by simp at h) rfl (λi x X h=>by simp at h)
def aZ.finish{f F}(h:aZ S π f F){v V}(k:az π v V):aZ S π (f.finish v) (F.finish V):=by
 have a:=h.todo;obtain⟨fn,tmps,todo,defers,mode,kind,q⟩:=f;obtain⟨r,c,e,b,g,j,t⟩:=F;simp only[]at a;unfold Frame.finish;cases a with
 |nil=>exact h
 |cons m a=>
  cases m with
  |inRegion l n=>
   cases l with
   |nil=>exact h
   |cons i rest=>
    simp only[];refine{h with tmps:=?_,todo:=.cons (.inRegion rest n) a};split
    ·exact h.tmps.set _ k
    ·exact h.tmps
  |inRangeFunc o=>exact{h with todo:=.cons (.endRangeFunc o) a}
  |beginRound=>exact{h with todo:=a}
  |_=>exact h
def aZ.marks{f F}(h:aZ S π f F):Marks π f:=Ks h.defers
def Ip{f F}(h:aZ S π f F){cs CS}(b:bg (aZ S π) cs CS):∀g∈f::cs,Marks π g:=by
 intro g a;cases a with
 |head=>exact h.marks
 |tail _ a=>obtain⟨y,c⟩:=b.left g a;exact c.marks
def ry{f F}(h:aZ S π f F){cs CS}(a:bg (aZ S π) cs CS){w'}(c:Dp π w')(v es):
 jx P.globals.size B₀ (.go ⟨f.raise [{v,recovered:=false}],cs++B₀,.running,none,none⟩ w' es):=by
 have i:=Ip h a;have e:f.raise [{v,recovered:=false}]={f with mode:=.panicking [{v,recovered:=false}]}:=by unfold Frame.raise;rcases h.calm with a|a<;>rw[a]
 refine⟨π,cs,rfl,rfl,rfl,rfl,⟨_,by rw[e]⟩,λg b=>?_,c,λg b=>by obtain⟨y,j⟩:=a.left g b;exact j.calm⟩;cases b with
 |head=>rw[e];exact h.marks
 |tail _ b=>exact i g (.tail _ b)
def sV(n:Tab S P fs)(f:FuncId)(o:S.stop f=true\/S.ent f=true){a A}(b:S.stop f=true->a.size=1)(e:VsR π a A){cs}(h:cs≠[]):Io S P fs π cs (Frame.enter (ah P fs) f a .normal) (Frame.enter P f A .normal):=by
 by_cases i:S.stop f=true
 ·exact .inr ⟨h,f,a,A,i,⟨b i,e⟩,rfl,rfl⟩
 ·have k:=o.resolve_left i
  obtain⟨_,g,c,e1,m,_,q,j⟩:=n.ent f k;refine .inl ⟨rfl,k,?_,?_,.nil,rfl,.inl rfl,rfl,rfl,.none⟩
  ·simp only[Frame.enter,show(ah P fs).funcs=fs from rfl,e1,m]
   rw[<-e.1];exact e.append (fe (ie _ (λ_ _=>az.tuple' .empty)))
  ·simp only[Frame.enter,show(ah P fs).funcs=fs from rfl,e1,m,TF,q]
   exact .cons (.code j) .nil
def aZ.Kt{f F}(h:aZ S π f F):(∀d r s k,f.todo≠ .call d true r s::k)/\∀d r s k,F.todo≠ .call d true r s::k:=by
 have a:=h.todo;generalize f.todo=t at*;generalize F.todo=T at*;cases a with
 |nil=>exact⟨by simp,by simp⟩
 |cons b _=>cases b<;>exact⟨by simp,by simp⟩
def jQ{p f es}(h:∀e∈es,kE Pr π e):∀e∈seen p f es++#[],kE Pr π e:=λe a=>h e (CI p f es e (by simpa using a))
section applied
variable {p:Program} {fr:Frame} {cs:List Frame} {s:Sem Next} {es:Array Event} {w₀ w₁:World}
def tO{v}(h:s.runT p w₀ #[]=(.ok (.value v) w₁,es))(a:fr.kind=.normal):stepG.apply p true fr cs none s w₀=.go ⟨fr.finish v,cs,.running,none,none⟩ w₁ (seen p fr.fn es++#[]):=by simp only[stepG.apply,h,a,GStep.after,RG];rfl
def vQ(h:s.runT p w₀ #[]=(.ok .skip w₁,es))(a:fr.kind=.normal):stepG.apply p true fr cs none s w₀=.go ⟨fr.finish undef,cs,.running,none,none⟩ w₁ (seen p fr.fn es++#[]):=by simp only[stepG.apply,h,a,GStep.after,RG];rfl
def tP{f a}(h:s.runT p w₀ #[]=(.ok (.enter f a) w₁,es))(b:fr.kind=.normal)(c:∀d r s k,fr.todo≠ .call d true r s::k):
 stepG.apply p true fr cs none s w₀=.go ⟨Frame.enter p f a .normal,fr::cs,.running,none,none⟩ w₁ (seen p fr.fn es++#[]):=by
 simp only[stepG.apply,h,b,GStep.after,RG];rw[Ro (by decide)]
def tQ{l f t as body}(h:s.runT p w₀ #[]=(.ok (.round l f t as body) w₁,es))(a:fr.kind=.normal):
 stepG.apply p true fr cs none s w₀=.go ⟨Frame.round l f t as body .normal,fr::cs,.running,none,none⟩ w₁ (seen p fr.fn es++#[]):=by
 simp only[stepG.apply,h,a,GStep.after,RG];rfl
def CJ{v}(h:s.runT p w₀ #[]=(.halt (.panic v) w₁,es))(a:fr.kind=.normal):∃es',stepG.apply p true fr cs none s w₀=.go ⟨fr.raise [{v,recovered:=false}],cs,.running,none,none⟩ w₁ es':=by simp only[stepG.apply,h,a,GStep.after,RG];exact⟨_,rfl⟩
def Fb{x}(a:gl x)(b:∀v,x≠ .panic v)(h:s.runT p w₀ #[]=(.halt x w₁,es)):∃o w es',stepG.apply p true fr cs none s w₀=.ended o w es':=by
 cases x with
 |panic v=>exact absurd rfl (b v)
 |stuck=>simp only[stepG.apply,h,GStep.after,RG];exact⟨_,_,_,rfl⟩
 |unsupported u=>
  cases u with
  |initOrder=>exact a.elim
  |_=>simp only[stepG.apply,h,GStep.after,RG];exact⟨_,_,_,rfl⟩
 |_=>exact a.elim
end applied
def lF(N:Tab S P fs){f F}(h:aZ S π f F){cs CS}(K:bg (aZ S π) cs CS){s s'}(O:SR S (ah P fs) P (NQ S) π s s')(Q:bj S Pr π w W):
 dv S Pr P fs B₀ (rb f::cs.map rb) π w W d (λw=>stepG.apply (ah P fs) true f (cs++B₀) none s w) (λB=>stepG.apply P true F (CS++B) none s' W):=by
 obtain⟨L,k,R|⟨a,w',C,b,q,ev,π',r,m,U,u,j,y⟩⟩:=O.run (Pr:=Pr) w W #[] #[] d Q
 ·refine⟨L,k,.inl λτ c=>?_⟩
  obtain⟨x,w',C,e1,X,e3⟩:=R τ c;by_cases M:∃v,x=.panic v
  ·obtain⟨v,rfl⟩:=M
   obtain⟨n,e⟩:=CJ (fr:=f) (cs:=cs++B₀) e1 h.kind;simp only[e];exact ry h K e3 v n
  ·obtain⟨o,w2,n,e⟩:=Fb (fr:=f) (cs:=cs++B₀) X (λv D=>M ⟨v,D⟩) e1
   simp only[e];trivial
 ·rw[S8]at m
  have i:=K.mono λ_ _ x=>aZ.mono j.le x;have z:=h.mono j.le;cases U with
  | @value v V D=>exact⟨L,k,.inr ⟨f.finish v,cs,w',_,F.finish V,CS,q,_,π',λτ c=>tO (r τ c) h.kind,λ_=>tO m h.Kind,u,j,jQ y,i,.inl (z.finish D),by rw[lY];exact .inl rfl⟩⟩
  |skip=>exact⟨L,k,.inr ⟨f.finish undef,cs,w',_,F.finish undef,CS,q,_,π',λτ c=>vQ (r τ c) h.kind,λ_=>vQ m h.Kind,u,j,jQ y,i,.inl (z.finish (az.tuple' .empty)),by rw[lY];exact .inl rfl⟩⟩
  | @enter g a A E H I=>exact⟨L,k,.inr ⟨_,f::cs,w',_,_,F::CS,q,_,π',λτ c=>tP (r τ c) h.kind h.Kt.1,λ_=>tP m h.Kind h.Kt.2,u,j,jQ y,.cons z i,sV N g E H I (by simp),.inr (.inl ⟨_,rfl⟩)⟩⟩
  | @round l LL g t T as body E Y J I Z=>refine⟨L,k,.inr ⟨_,f::cs,w',_,_,F::CS,q,_,π',λτ c=>tQ (r τ c) h.kind,λ_=>tQ m h.Kind,u,j,jQ y,.cons z i,.inl ?_,.inr (.inl ⟨_,rfl⟩)⟩⟩;exact⟨rfl,E,J,.cons (.code I) (.cons .beginRound (.cons (.code Z) .nil)),.nil,rfl,.inl rfl,rfl,rfl,.some Y⟩
def Fc(a){k K}(h:bg (gM S π) k K):dO (bg (gM S π)) (exitTo a k) (exitTo a K):=by
 induction h with
 |nil=>exact .none
 | @cons x X k K c e b=>
  cases c with
  |inBlock i=>
   simp only[exitTo];split
   ·exact .some e
   ·exact b
  |_=>exact b
def At(l):∀(b) (r),S.code b->findLabel b l=some r->S.code r:=by
 intro b;induction b with
 |seq a b g h=>
  intro r f c;simp only[Kn.code,codeOk,RD]at f;unfold findLabel at c;split at c
  ·rename_i i e
   cases c;have:=g i f.1 e;simp only[Kn.code,codeOk,RD];exact⟨this,f.2⟩
  ·exact h r f.2 c
 |label j=>
  intro r f c;simp only[findLabel]at c;split at c
  ·cases c;rfl
  ·cases c
 |_=>intro r f c;simp[findLabel]at c
def Ff(l){k K}(h:bg (gM S π) k K):dO (bg (gM S π)) (gotoIn l k) (gotoIn l K):=by
 induction h with
 |nil=>exact .none
 | @cons x X k K f g a=>
  cases f with
  | @inScope b c=>
   simp only[gotoIn];cases e:findLabel b l with
   |none=>exact a
   |some r=>exact .some (.cons (.code (At l b r c e)) (.cons (.inScope c) g))
  |_=>exact a
def CK{t T}(h:VsR π t T)(ops j):yielded ops t j=yielded ops T j:=by
 unfold yielded;cases(ops[j]?).bind (·.dst)with
 |none=>rfl
 |some d=>
  simp only[TF];have b:=h.get d;generalize t[d]? =u at*;generalize T[d]? =v at*;cases b with
  |none=>rfl
  | @some x y h=>
   cases h with
   |lL _ a=>cases y<;>first|rfl|(simp[dU]at a;done)
   |_=>rfl
def CL{l L}(h:π l L)(jump)(b:∀c,jump=some c->S.code c):SR S (ah P fs) P VQ π (Instr.endRound l jump) (Instr.endRound L jump):=by unfold Instr.endRound;refine(ko h).bind ?_;intro e f r R a;refine(eo (f _ _ h) (by simp) (.loop (l:={r with state:=if jump.isNone then .ready else .done,pending:=jump}) (L:={R with state:=if jump.isNone then .ready else .done,pending:=jump}) ⟨rfl,rfl,b,a.fn,a.ent,a.tmps,a.params,a.assign,a.Pf,a.body,a.Pg,a.defers⟩)).bind ?_;intro g i _ _ _;exact ai (.bool _)
def Fg{l L}(h:π l L):SR S (ah P fs) P (λ_ a A=>a=A/\∀c,a=some c->S.code c) π (Instr.endLoop l) (Instr.endLoop L):=by unfold Instr.endLoop;refine(ko h).bind ?_;intro e f r R b;rw[<-b.state];refine cg (.never (aA (aG _))) ?_;refine(eo (f _ _ h) (by simp) (.loop (l:={r with state:=.exhausted}) (L:={R with state:=.exhausted}) {b with state:=rfl})).bind ?_;intro g i _ _ _;rw[<-b.pending];exact ai ⟨rfl,b.QR⟩
def xW{l L}(h:π l L):SR S (ah P fs) P EqQ π (Instr.beginRound l) (Instr.beginRound L):=by
 unfold Instr.beginRound;refine(ko h).bind ?_;intro b c r R a;refine(eo (c _ _ h) (by simp) (.loop (l:={r with state:=.busy}) (L:={R with state:=.busy}) {a with state:=rfl})).bind ?_;intro e f _ _ _;rw[<-a.state];split
 ·exact ai rfl
 ·exact db
 ·exact db
 ·exact db
def uB{r R}(h:π r R):SR S (ah P fs) P (λ_ a A=>a=[]/\A=[]) π (Instr.takeDeferred r) (Instr.takeDeferred R):=by
 unfold Instr.takeDeferred;refine(cE h).bind ?_;intro b c o O e;cases e with
 |deferred=>refine(eo (c _ _ h) (by simp) .eu).bind ?_;intro f g _ _ _;exact ai ⟨rfl,rfl⟩
 |_=>exact aq
abbrev Ow(π:Ren P.globals.size):Nat×List Deferred->Nat×List Deferred->Prop:=λa A=>π a.1 A.1/\bg (oY π) a.2 A.2
def Au{fn:FuncId}(j:S.ent fn=true){t T}(k:VsR π t T)(params){as body}(m:S.code as)(n:S.code body){o u}(b:dO (λl L=>π l L) o u):
 SR S (ah P fs) P (λπ' a A=>Ow π' a A) π (Instr.enterLoop fn t params as body o) (Instr.enterLoop fn T params as body u):=by
 unfold Instr.enterLoop;cases b with
 |none=>refine(gL .deferred).bind ?_;intro e f r R b;refine(gL (.loop (l:=⟨.ready,none,fn,t,params,as,body,r⟩) (L:=⟨.ready,none,fn,T,params,as,body,R⟩) ⟨rfl,rfl,(λc h=>by cases h),rfl,j,VsR.mono f k,rfl,rfl,m,rfl,n,b⟩)).bind ?_;intro g v q Q i;exact ai ⟨i,.cons (.mk (v _ _ b)) .nil⟩
 |some x=>refine(ko x).bind ?_;intro e f r R b;refine(gL (.loop (l:=⟨.ready,none,fn,t,params,as,body,r.defers⟩) (L:=⟨.ready,none,fn,T,params,as,body,R.defers⟩) ⟨rfl,rfl,(λc h=>by cases h),rfl,j,VsR.mono f k,rfl,rfl,m,rfl,n,b.defers⟩)).bind ?_;intro g v q Q i;exact ai ⟨i,.nil⟩
def Fh{c:Type}{f F:c->Sem Value}(xs:Array c)(h:∀(π'),Ren.le π π'->∀x,SR S (ah P fs) P VQ π' (f x) (F x)):SR S (ah P fs) P VsQ π (xs.mapM f) (xs.mapM F):=by
 obtain⟨l⟩:=xs;simp only[List.mapM_toArray];have key:∀(l:List c) (π':Ren P.globals.size),Ren.le π π'->SR S (ah P fs) P (λb a A=>bg (az b) a A) π' (l.mapM f) (l.mapM F):=by
  intro l;induction l with
  |nil=>intro π' e;simp only[List.mapM_nil];exact ai .nil
  |cons x l i=>intro π' e;simp only[List.mapM_cons];refine(h π' e x).bind ?_;intro b j v V k;refine(i b (Ren.le_trans e j)).bind ?_;intro m n o q g;exact ai (.cons (k.mono n) g)
 exact JW (key l π (Ren.le_refl _)) λπ' a A h=>h.toArray
def qf(g){t T}(h:VsR π t T):SR S (ah P fs) P VQ π (results g t) (results g T):=by
 unfold results;have e:∀{π':Ren P.globals.size},Ren.le π π'->∀i,az π' (t.getD i undef) (T.getD i undef):=by
  intro π' l i;have j:=(VsR.mono l h).get i;rw[Sw,Sw];generalize t[i]? =u at*;generalize T[i]? =v at*;cases j with
  |none=>exact az.tuple' .empty
  |some h=>exact h
 refine(Fh g.results λπ' l x=>?_).bind ?_
 ·cases x with
  |tmp i=>exact ai (e l i)
  |cell a t=>refine(yE (e l a)).bind ?_;intro k q a A m;exact ve t m
 ·intro n r o y b
  refine ai ?_;have f:=b.1;by_cases c:o.size=1
  ·rw[Tx c,Tx (f▸c)]
   exact b.2 0 _ _ (RV _) (RV _)
  ·rw[dif_neg c,dif_neg (f▸c)]
   exact az.tuple' b
end
def IX{e σ:Type}(b:σ->Prop)(f:e->σ->Option (ForInStep σ))(i:∀a s r,b s->f a s=some r->b (match r with| .yield s=>s| .done s=>s)):∀(l:List e) (s s':σ),b s->forIn l s f=some s'->b s':=by
 intro l;induction l with
 |nil=>intro s s' d h;simp at h;exact h▸d
 |cons a l j=>
  intro s s' d h;rw[UN]at h;cases c:f a s with
  |none=>rw[c]at h;cases h
  |some r=>
   rw[c]at h;have:=i a s r d c;cases r with
   |done g=>simp at h;exact h▸this
   |yield g=>exact j g s' this h
def PZ(i:TypeInfo):Prop:=∀z,i.zero=some z->Plain z
def ot{c}(h:bf c):Plain (.agg c):=λG π=>.Ej ⟨rfl,λi x y a b=>by rw[a]at b;cases b;exact h i x a G π⟩
def bf.app{a b}(c:bf a)(d:bf b):bf (a++b):=λi v h=>by
 rw[TJ]at h;split at h
 ·exact c _ _ h
 ·exact d _ _ h
def AW(e)(n:∀t i,e t=some i->PZ i)(fs i)(h:Made.reckonStruct e fs=some i):PZ i:=by
 unfold Made.reckonStruct at h;simp only[<-Ti,bind,Tl]at h;obtain⟨r,o,l⟩:=h;have k:=IX (λs:Array Field×Nat×Nat×Nat×Nat×Bool×Bool×Option (Array Value)×String=>∀c,s.2.2.2.2.2.2.2.1=some c->bf c) _ (λa s x p f=>?_) fs.toList _ r (λc d=>by cases d;exactλi v q=>by simp at q) o
 ·have u:i.zero=r.2.2.2.2.2.2.2.1.map .agg:=by
   revert l
   simp only[pure];split<;>(intro l;cases l;rfl)
  intro z m;rw[u]at m;obtain⟨c,d,rfl⟩:=R4.1 m;exact ot (k c d)
 ·cases g:e a.type with
  |none=>rw[g]at f;cases f
  |some j=>
   rw[g]at f;simp only[TF,pure]at f;have fin:∀c,(if s.2.1+j.size>Made.mostCells then none else s.2.2.2.2.2.2.2.1.bind λa=>j.zero.bind λb=>some (a++b.cells))=some c->bf c:=by
    intro c d;split at d
    ·cases d
    ·simp only[Tl]at d
     obtain⟨w,y,z,A,B⟩:=d;cases B;exact(p w y).app ((n _ _ g z A).cells)
   repeat' split at f
   all_goals simp only[Option.bind_none,Tl,reduceCtorEq,Sg]at f
   all_goals try (exact f.elim)
   all_goals first
    |(subst f;intro c d;first|(cases d;done)|exact fin c d|exact fin c (by rw[Ro (by assumption)];exact d))
    |(obtain⟨C,_,f⟩:=f;subst f;intro c d;first|(cases d;done)|exact fin c d|exact fin c (by rw[Ro (by assumption)];exact d))
def iN(d s z)(a:fI z=true)(c b):PZ (Made.word d s z c b):=by intro e h;have:(Made.word d s z c b).zero=some z:=rfl;rw[this]at h;cases h;exact nQ _ a
def AX{c}(h:bf c)(n):bf (Array.replicate n c).flatten:=by intro i v e;have b:=SO e;rw[Array.mem_flatten]at b;obtain⟨d,f,a⟩:=b;have:=Array.eq_of_mem_replicate f;subst this;obtain⟨j,g⟩:=Uv.1 a;exact h j v g
def AY(e)(g:∀t i,e t=some i->PZ i)(d i)(h:Made.reckon e d=some i):PZ i:=by
 cases d<;>simp only[Made.reckon,bind,Tl,pure,reduceCtorEq]at h
 ·obtain⟨a,j,h⟩:=h
  split at h
  ·cases h
  ·split at h
   ·cases h
   ·obtain⟨x,_,h⟩:=Tl.1 h
    cases h;exact iN _ _ _ rfl _ _
  ·obtain⟨x,_,h⟩:=Tl.1 h
   cases h;exact iN _ _ _ rfl _ _
 ·obtain⟨a,_,b,_,h⟩:=h
  cases h;exact iN _ _ _ rfl _ _
 ·obtain⟨a,j,b,_,h⟩:=h
  cases h;intro z f;simp only[]at f;split at f
  ·cases f
  ·split at f
   ·cases f
    exact ot λi v k=>by simp at k
   ·obtain⟨l,m,rfl⟩:=R4.1 f
    exact ot (AX ((g _ _ j l m).cells) _)
 ·obtain⟨a,_,b,_,c,_,d,_,h⟩:=h
  cases h;exact iN _ _ _ rfl _ _
 ·obtain⟨a,_,b,_,h⟩:=h
  cases h;exact iN _ _ _ rfl _ _
 ·exact AW e g _ i h
 ·obtain⟨a,_,h⟩:=h
  cases h;exact iN _ _ _ rfl _ _
def AZ(T)(a:∀(t:Nat) i,T.types[t]? =some i->PZ i):∀(f) t i,Made.infoAt T f t=some i->PZ i:=by
 intro f;induction f with
 |zero=>intro t i h;cases h
 |succ f b=>
  intro t i h;unfold Made.infoAt at h;split at h
  ·exact a t i h
  ·obtain⟨d,_,h⟩:=Tl.1 h
   exact AY _ b d i h
def FW(T:Tables)(a:∀(t:Nat) i,T.types[t]? =some i->PZ i)(t i)(h:T.info? t=some i):PZ i:=by
 unfold Tables.info? at h;split at h
 ·exact a t i h
 ·exact AZ T a _ t i h
section
variable {S:Kn} {P:Program} {fs:Array Func} {Pr:Nat->Prop} {B₀ B:List Frame} {π:Ren P.globals.size} {w W:World} {d:Nat}
def nR(p main fr c cs v w)(h:fr.kind=.normal):doReturn p main fr (c::cs) none v w=.go ⟨c.finish v,cs,.running,none,none⟩ w:=by simp[doReturn,h]
def nS{f F:Frame}(h:aZ S π f F)(main e:Bool){cs CS:List Frame}(t:bg (aZ S π) cs CS)(m:cs≠[]){s s':Sem Value}(z:SR S (ah P fs) P VQ π s s')(A:bj S Pr π w W)
 {gh:Halt->World->GStep} {GH:Halt->World->GStep} (n:∀x w,∃o w' es,gh x w=.ended o w' es):
 dv S Pr P fs B₀ (rb f::cs.map rb) π w W d (λw=>GStep.after (seen (ah P fs) f.fn (s.runT (ah P fs) w #[]).2) (match(s.runT (ah P fs) w #[]).1 with| .ok v w=>doReturn (ah P fs) main f (cs++B₀) none v w| .halt x w=>gh x w))
  (λB=>GStep.after (seen P F.fn (s'.runT P W #[]).2) (match(s'.runT P W #[]).1 with| .ok v w=>doReturn P e F (CS++B) none v w| .halt x w=>GH x w)):=by
 obtain⟨L,u,D|⟨a,w',i,b,E,ev,p,G,y,H,I,l,J⟩⟩:=z.run (Pr:=Pr) w W #[] #[] d A
 ·refine⟨L,u,.inl λτ g=>?_⟩
  obtain⟨x,w',i,e1,N,e3⟩:=D τ g;obtain⟨o,w2,K,e4⟩:=n x w';simp only[e1,e4];trivial
 ·rw[S8]at y
  have M:=t.mono λ_ _ x=>aZ.mono l.le x;cases t with
  |nil=>exact absurd rfl m
  | @cons c C cs CS q r=>
   have j:=q.mono l.le;have k:=r.mono λ_ _ x=>aZ.mono l.le x;refine⟨L,u,.inr ⟨c.finish a,cs,w',seen (ah P fs) f.fn i++#[],C.finish b,CS,E,seen P F.fn ev++#[],p,λτ g=>?_,?_,I,l,jQ J,k,.inl (j.finish H),by rw[lY];exact .inr (.inr ⟨_,rfl⟩)⟩⟩
   ·simp only[G τ g,TU,nR _ _ _ _ _ _ _ h.kind];rfl
   ·intro B;simp only[y,TU,nR _ _ _ _ _ _ _ h.Kind];rfl
def iT{f F:Frame}(h:aZ S π f F)(main b:Bool){cs CS:List Frame}(j:bg (aZ S π) cs CS)(g:f.roundOf≠none->cs≠[])(k:bj S Pr π w W)(jump:Option Code)(m:∀c,jump=some c->S.code c):
 dv S Pr P fs B₀ (rb f::cs.map rb) π w W d
  (λw=>match f.roundOf with
   |none=>if jump matches none|some .ret then .go {frame:={f with mode:=.returning},callers:=cs++B₀,status:=.running,dying:=none} w else .ended (.stuck "exit, goto: no such block or label" (f.pos (ah P fs))) w
   |some l=>
    let(r,es):=(Instr.endRound l jump).runT (ah P fs) w #[]
    GStep.after (seen (ah P fs) f.fn es)<|match r with
    | .ok v w=>doReturn (ah P fs) main f (cs++B₀) none v w
    | .halt _ w=>.ended (.stuck "range over a function: no such loop" (f.pos (ah P fs))) w)
  (λB=>match F.roundOf with
   |none=>if jump matches none|some .ret then .go {frame:={F with mode:=.returning},callers:=CS++B,status:=.running,dying:=none} W else .ended (.stuck "exit, goto: no such block or label" (F.pos P)) W
   |some l=>
    let(r,es):=(Instr.endRound l jump).runT P W #[]
    GStep.after (seen P F.fn es)<|match r with
    | .ok v w=>doReturn P b F (CS++B) none v w
    | .halt _ w=>.ended (.stuck "range over a function: no such loop" (F.pos P)) w):=by
 have n:=h.round;have i:rb f=f.roundOf.isSome:=rfl;generalize f.roundOf=a at*;generalize F.roundOf=A at*;cases n with
 |none=>
  rw[i];have o:Io S P fs π cs ⟨f.fn,f.tmps,f.todo,f.defers,.returning,f.kind,none⟩ ⟨F.fn,F.tmps,F.todo,F.defers,.returning,F.kind,none⟩:=.inl ⟨h.fn,h.ent,h.tmps,h.todo,h.defers,rfl,.inr rfl,h.kind,h.Kind,.none⟩
  have e:=dv.still (Pr:=Pr) (B₀:=B₀) (st:=Option.isSome (none:Option Nat)::cs.map rb) (d:=d) (ev:=#[]) k j o (.inl rfl) #[] (by simp);cases jump with
  |none=>exact e
  |some c=>cases c<;>first|exact e|exact .vP λτ=>trivial
 |some p=>exact nS h main b j (g (by simp)) (CL p jump m) k λx w=>⟨_,_,_,rfl⟩
def pw(fr:Frame)(g l):resolve fr.eval {callee:=.value g,args:=#[.const (.func (.yield l) #[] #[])],argTypes:=#[]} 0=Deferred.ofValue (fr.eval g) #[.func (.yield l) #[] #[]]:=by simp[resolve,Frame.eval]
def Fi(p q w):(choose q).run p w=if q.forced then .ok 0 w else .ok (q.cut (w.tape w.drawn q)) {w with drawn:=w.drawn+1}:=by simp only[choose,Sem.run]
def Av(ht:Tab S P fs)(hG:∀g,S.dB g=true->π g g){f F}(h:aZ S π f F)(hm:f.mode=.run)(main p){cs CS}(H:bg (aZ S π) cs CS)(Q:f.roundOf≠none->cs≠[])(hR:S.calm (W.tape W.drawn))(I:bj S Pr π w W):
 dv S Pr P fs B₀ (rb f::cs.map rb) π w W d (λw=>stepG.exec (ah P fs) main true f (cs++B₀) none w) (λB=>stepG.exec P p true F (CS++B) none W):=by
 have aa:=h.eval hG;have J:=h.todo;obtain⟨fn,tmps,todo,defers,mode,kind,Z⟩:=f;obtain⟨FN,r,a6,n,A,C,RO⟩:=F;simp only[]at J hm;subst hm;have to:∀{t T:List Item},bg (gM S π) t T->dv S Pr P fs B₀ (Z.isSome::cs.map rb) π w W d (λw=>.go ⟨⟨fn,tmps,t,defers,.run,kind,Z⟩,cs++B₀,.running,none,none⟩ w) (λB=>.go ⟨⟨FN,r,T,n,A,C,RO⟩,CS++B,.running,none,none⟩ W):=λ{t T} ak=>by have O:Io S P fs π cs ⟨fn,tmps,t,defers,.run,kind,Z⟩ ⟨FN,r,T,n,A,C,RO⟩:=.inl ⟨h.fn,h.ent,h.tmps,ak,h.defers,h.mode,h.calm,h.kind,h.Kind,h.round⟩;exact dv.still (ev:=#[]) I H O (.inl rfl) #[] (by simp)
 unfold stepG.exec;cases J with
 |nil=>exact iT h main p H Q I none (λc h=>by cases h)
 | @cons x X k K hx s=>
  cases hx with
  | @code c m=>
   cases c with
   |skip=>exact to s
   |label=>exact to s
   |ret=>exact iT h main p H Q I (some .ret) (λc h=>by cases h;rfl)
   |refuse=>exact .vP λτ=>trivial
   |seq a b=>simp only[Kn.code,codeOk,RD]at m;exact to (.cons (.code m.1) (.cons (.code m.2) s))
   |block E b=>exact to (.cons (.code m) (.cons (.inBlock E) s))
   |loop b=>exact to (.cons (.code m) (.cons (.inLoop m) s))
   |scope b=>exact to (.cons (.code m) (.cons (.inScope m) s))
   |cond x a b=>
    simp only[Kn.code,codeOk,RD]at m;have hv:=aa x m.1.1;simp only[];generalize Frame.eval _ x=v at*;generalize Frame.eval _ x=V at*;cases hv with
    |bool b'=>
     cases b'
     ·exact to (.cons (.code m.2) s)
     ·exact to (.cons (.code m.1.2) s)
    |_=>exact .vP λτ=>trivial
   |exit E=>
    have he:=Fc E s;simp only[];generalize exitTo E k=u at*;generalize exitTo E K=v at*;cases he with
    |none=>exact iT h main p H Q I (some (.exit E)) (λc h=>by cases h;rfl)
    |some he=>exact to he
   |goto l=>
    have he:=Ff l s;simp only[];generalize gotoIn l k=u at*;generalize gotoIn l K=v at*;cases he with
    |none=>exact iT h main p H Q I (some (.goto l)) (λc h=>by cases h;rfl)
    |some he=>exact to he
   |region E ops ab=>
    have D:∀o∈ops,Bg S o.op=true:=by simp only[Kn.code,codeOk]at m;rw[Ub]at m;exact m
    cases ab with
    |false=>exact to (.cons (.inRegion _ D) s)
    |true=>
     have al:FN=fn:=h.fn;subst al;simp only[Fi];by_cases hq:(Question.order FN E).forced=true
     ·simp only[hq,RG]
      exact to (.cons (.inRegion _ D) s)
     ·simp only[hq,RP]
      have O:∀t,aZ S π ⟨FN,tmps,.inRegion ops t::k,defers,.run,kind,Z⟩ ⟨FN,r,.inRegion ops t::K,n,A,C,RO⟩:=λt=>⟨h.fn,h.ent,h.tmps,.cons (.inRegion t D) s,h.defers,h.mode,h.calm,h.kind,h.Kind,h.round⟩
      refine⟨[only (.order FN E) (W.tape W.drawn (.order FN E))],by simpa using Ek (show S.ent FN=true from h.ent) hR E,.inr ⟨_,cs,w,#[],_,CS,_,#[],π,λτ q=>?_,λ_=>rfl,I.heap rfl rfl,Chg.heap rfl rfl rfl rfl,by simp,H,.inl (O _),.inl rfl⟩⟩;simp only[show(av w τ d).tape (av w τ d).drawn (.order FN E)=W.tape W.drawn (.order FN E)from(congrFun q.head _).trans (rY _ _)];rfl
   |rangeFunc g params a b=>
    simp only[Kn.code,codeOk,RD]at m;obtain rfl:fn=FN:=h.fn.symm;obtain⟨L,hL,hh|⟨x,w',G,X,W',ev,M,h1,h2,h3,h4,N,h6⟩⟩:=(Au (S:=S) (P:=P) (fs:=fs) h.ent h.tmps params m.1.2 m.2 h.round).run (Pr:=Pr) w W #[] #[] d I
    ·refine⟨L,hL,.inl λτ q=>?_⟩
     obtain⟨y,w',G,e1,e2,e3⟩:=hh τ q;simp only[e1];exact jx.after _ trivial
    ·rw[S8]at h2
     obtain⟨l,mk⟩:=x;obtain⟨LL,MK⟩:=X;obtain⟨U,ad⟩:=h3;simp only[]at U ad;have R:=s.mono λ_ _ x=>gM.mono N.le x;have z:=h.mono N.le;have O:aZ S M ⟨fn,tmps,.inRangeFunc l::k,mk++defers,.run,kind,Z⟩ ⟨fn,r,.inRangeFunc LL::K,MK++n,A,C,RO⟩:=⟨z.fn,z.ent,z.tmps,.cons (.inRangeFunc U) R,ad.append z.defers,z.mode,z.calm,z.kind,z.Kind,z.round⟩
     have Y:VsR M #[Value.func (.yield l) #[] #[]] #[Value.func (.yield LL) #[] #[]]:=aU.push aU.empty (.func (.yield U) rfl (λi x X h=>by simp at h) rfl (λi x X h=>by simp at h))
     have hs:=tN (S:=S) ht (λg hg=>N.le _ _ (hG g hg)) ((O.eval λg hg=>N.le _ _ (hG g hg)) g m.1.1) Y;rw[<-pw,<-pw]at hs;obtain⟨L2,af,gg|⟨an,ao,w2,ar,ax,ay,W2,aM,a1,g1,g2,g3,g4,g5,g6,g7⟩⟩:=lF (B₀:=B₀) (d:=d+L.length) ht O (H.mono λ_ _ x=>aZ.mono N.le x) hs h4
     ·refine⟨L++L2,gK hL af,.inl λτ q=>?_⟩
      have:=gJ q;simp only[h1 τ this.1];exact jx.after _ (gg τ this.2)
     ·refine⟨L++L2,gK hL af,.inr ⟨an,ao,w2,seen (ah P fs) fn G++ar,ax,ay,W2,seen P fn ev++aM,a1,λτ q=>?_,?_,g3,N.trans g4,?_,g6,g7⟩⟩
      ·have:=gJ q
       simp only[h1 τ this.1];have e:=g1 τ this.2;rw[TR,<-RM]at e;exact R6 (GStep.after (seen (ah P fs) fn G)) e
      ·intro B
       simp only[h2];exact R6 (GStep.after (seen P fn ev)) (g2 B)
      ·intro e he
       obtain he|he:=SI.1 he
       ·exact(h6 e (CI _ _ _ e he)).mono g4.le
       ·exact g5 e he
  |inBlock=>exact to s
  |inScope=>exact to s
  |inLoop hb=>exact to (.cons (.code hb) (.cons (.inLoop hb) s))
  |inRangeFunc=>exact .vP λτ=>trivial
  | @endRangeFunc l LL U=>
   obtain⟨L,hL,hh|⟨a,w',G,b,W',ev,M,h1,h2,h3,h4,N,h6⟩⟩:=(Fg (fs:=fs) U).run (Pr:=Pr) w W #[] #[] d I
   ·refine⟨L,hL,.inl λτ q=>?_⟩
    obtain⟨x,w',G,e1,e2,e3⟩:=hh τ q;simp only[e1];refine jx.after _ ?_;cases x with
    |panic v=>exact ry h H e3 v #[]
    |_=>trivial
   ·rw[S8]at h2
    obtain⟨rfl,m⟩:=h3;have R:=s.mono λ_ _ x=>gM.mono N.le x;have z:=h.mono N.le;have O:aZ S M ⟨fn,tmps,(a.map Item.code).toList++k,defers,.run,kind,Z⟩ ⟨FN,r,(a.map Item.code).toList++K,n,A,C,RO⟩:=by
     refine⟨z.fn,z.ent,z.tmps,?_,z.defers,z.mode,z.calm,z.kind,z.Kind,z.round⟩;cases a with
     |none=>exact R
     |some c=>exact .cons (.code (m c rfl)) R
    refine⟨L,hL,.inr ⟨_,cs,w',seen (ah P fs) fn G++#[],_,CS,W',seen P FN ev++#[],M,λτ q=>?_,?_,h4,N,jQ h6,H.mono λ_ _ x=>aZ.mono N.le x,.inl O,.inl rfl⟩⟩
    ·simp only[h1 τ q];rfl
    ·intro B;simp only[h2];rfl
  |beginRound=>
   refine lF ht h H (ru ?_) I;have hr:=h.round;simp only[]at hr;cases hr with
   |none=>exact aq
   |some U=>exact xW U
  | @inRegion ops l D=>
   cases l with
   |nil=>exact to s
   |cons i rest=>
    have hy:yielded ops r=yielded ops tmps:=funext λj=>(CK h.tmps ops j).symm;simp only[hy];cases hb:(((ops[i]?).map (Region.wanted · (yielded ops tmps))).getD false);case true=>
     simp only[RG];unfold stepG.oper;simp only[Frame.oper?];cases ho:ops[i]? with
     |none=>exact .vP λτ=>trivial
     |some o=>have ag:=D o (SO ho);have hs:=Im ht hG aa (λ_=>rfl) (λ_=>rfl) o ag;have key:=lF (B₀:=B₀) (d:=d) ht h H hs I;obtain⟨a7,op,ty,pos,a8,gd⟩:=o;have hr:=h.round;simp only[]at hr;cases op<;>first|(simp[Bg,lN]at ag;done)|(cases hr<;>exact key)
    case false=>simp only[RQ,RP];have O:=h.finish (az.tuple' (.empty:VsR π #[] #[]));exact dv.still (ev:=#[]) I H (.inl O) (by rw[lY];exact .inl rfl) #[] (by simp)
end
end Go.Tm

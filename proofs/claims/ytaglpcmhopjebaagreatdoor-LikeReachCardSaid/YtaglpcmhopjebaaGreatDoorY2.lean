import Derived.Calls
import Derived.Test.YtaglpcmhopjebaaGreatDoorY1
set_option linter.all false
set_option maxRecDepth 100000
set_option maxHeartbeats 20000000
namespace Go.Tm
inductive fN(S:Kn){G:Nat}(π:Ren G):Item->Item->Prop
 |code {c:Code}:iW S c=true->fN S π (.code (ia c)) (.code c)
 |inBlock (id):fN S π (.inBlock id) (.inBlock id)
 |inLoop {b:Code}:S.code b->fN S π (.inLoop b) (.inLoop b)
 |inScope {b:Code}:S.code b->fN S π (.inScope b) (.inScope b)
 |inRegion {ops:Array Oper} (l):(∀o∈ops,opD S o.op=true)->fN S π (.inRegion (ops.map cP) l) (.inRegion ops l)
 |inRangeFunc {l L:Nat}:π l L->fN S π (.inRangeFunc l) (.inRangeFunc L)
 |endRangeFunc {l L:Nat}:π l L->fN S π (.endRangeFunc l) (.endRangeFunc L)
 |beginRound:fN S π .beginRound .beginRound
def fN.same{S:Kn}{G:Nat}{π:Ren G}{c:Code}(h:S.code c):fN S π (.code c) (.code c):=by have:=fN.code (π:=π) (ic h).2;rwa[(ic h).1]at this
def AD(o):(cP o).dst=o.dst:=by unfold cP;split<;>rfl
def vd(o):(cP o).after=o.after:=by unfold cP;split<;>rfl
def EO(o):(cP o).guard=o.guard:=by unfold cP;split<;>rfl
def Nu(o):(cP o).op=o.op:=by unfold cP;split<;>rfl
def xU(m ops t):Region.schedule m (ops.map cP) t=Region.schedule m ops t:=by (have a:Region.departs (ops.map cP)=Region.departs ops:=by unfold Region.departs;rw[Array.any_map];congr 1;funext o;simp only[Function.comp,vd]);(have b:∀md f t l acc,Region.linearise.go md (ops.map cP) f t l acc=Region.linearise.go md ops f t l acc:=by intro md f;induction f with|zero=>intro t l acc;rfl|succ f c=>intro t l acc;unfold Region.linearise.go;simp only[c,Wq,Vk,Option.map_map,Function.comp_def,vd]);unfold Region.schedule Region.linearise;simp only[a,b,Wq]
def zG(ops t):yielded (ops.map cP) t=yielded ops t:=by funext j;unfold yielded;simp only[Vk];cases ops[j]? with|none=>rfl|some o=>simp only[Vv,WR,AD]
def CL(o y):Region.wanted (cP o) y=Region.wanted o y:=by unfold Region.wanted;rw[EO]
structure bj(S:Kn){G:Nat}(π:Ren G)(f F:Frame):Prop where
 fn:F.fn=f.fn
 ent:S.ent f.fn=true
 tmps:VsR π f.tmps F.tmps
 todo:bp (fN S π) f.todo F.todo
 defers:bp (qp π) f.defers F.defers
 mode:F.mode=f.mode
 calm:f.mode=.run\/f.mode=.returning
 kind:f.kind=.normal
 Kind:F.kind=.normal
 round:dP (λl L=>π l L) f.roundOf F.roundOf
section mono
variable {G:Nat} {S:Kn} {π π':Ren G} (l:Ren.le π π')
include l
def fN.mono{x X:Item}(h:fN S π x X):fN S π' x X:=by cases h with|code h=>exact .code h|inBlock=>exact .inBlock _|inLoop h=>exact .inLoop h|inScope h=>exact .inScope h|inRegion t h=>exact .inRegion t h|inRangeFunc h=>exact .inRangeFunc (l _ _ h)|endRangeFunc h=>exact .endRangeFunc (l _ _ h)|beginRound=>exact .beginRound
def bj.mono{f F:Frame}(h:bj S π f F):bj S π' f F:={h with tmps:=VsR.mono l h.tmps,todo:=h.todo.mono λ_ _=>fN.mono l,defers:=h.defers.mono λ_ _=>qp.mono l,round:=h.round.mono λ_ _ x=>l _ _ x}
end mono
def Marks{G}(π:Ren G)(f:Frame):Prop:=∀D∈f.defers,∃r R,D=⟨.collected r,#[]⟩/\π r R
def Nv{G}{π:Ren G}{l L}(h:bp (qp π) l L):∀D∈l,∃r R,D=⟨.collected r,#[]⟩/\π r R:=by
 induction h with
 |nil=>intro D h;cases h
 |cons h _ b=>
  intro D a;cases a with
  |head=>cases h with|mk h=>exact⟨_,_,rfl,h⟩
  |tail _ a=>exact b D a
def bp.left{b c R}{l:List b}{m:List c}(h:bp R l m):∀x∈l,∃y,R x y:=by induction h with|nil=>intro x h;cases h|cons h _ e=>intro x a;cases a with|head=>exact⟨_,h⟩|tail _ a=>exact e x a
def j9(G:Nat)(D0:List Frame)(r:GStep):Prop:=
 match r with
 | .ended .. =>True
 | .go g w _=>∃(π:Ren G) (cs:List Frame),g.callers=cs++D0/\g.status=.running/\g.dying=none/\g.offers=none/\(∃v,g.frame.mode=.panicking [{v,recovered:=false}])/\(∀f∈g.frame::cs,Marks π f)/\Dp π w/\∀f∈cs,f.mode=.run\/f.mode=.returning
 |_=>False
def j9.after{G D0 r}(es)(h:j9 G D0 r):j9 G D0 (r.after es):=by cases r<;>exact h
section
variable {S:Kn} {P:Program} {fs:Array Func} {Pr:Nat->Prop}
def KG(S:Kn)(P:Program)(fs:Array Func)(π:Ren P.globals.size)(cs:List Frame)(f F:Frame):Prop:=bj S π f F\/cs≠[]/\∃g a A,S.stop g=true/\(a.size=1/\VsR π a A)/\f=Frame.enter (ah P fs) g a .normal/\F=Frame.enter P g A .normal
def rb(f:Frame):Bool:=f.roundOf.isSome
def Sh(a b:List Bool):Prop:=b=a\/(∃x,b=x::a)\/∃x,a=x::b
def nf(f v):rb (f.finish v)=rb f:=by unfold Frame.finish rb;split<;>rfl
def dI(S:Kn)(Pr:Nat->Prop)(P:Program)(fs:Array Func)(D0:List Frame)(st:List Bool)(π:Ren P.globals.size)(w W:x6)(d:Nat)(b:x6->GStep)(f:List Frame->GStep):Prop:=
 ∃L:List (Question->Nat),(∀g∈L,S.gq g)/\((∀τ,Fits τ d L->j9 P.globals.size D0 (b (au w τ d)))\/
  ∃fr cs w' es c CS a ev π',(∀τ,Fits τ d L->b (au w τ d)=.go ⟨fr,cs++D0,.running,none,none⟩ (au w' τ (d+L.length)) es)/\(∀B,f B=.go ⟨c,CS++B,.running,none,none⟩ a ev)/\bt S Pr π' w' a/\Chg Pr π W a π'/\(∀e∈ev,lO Pr π' e)/\bp (bj S π') cs CS/\KG S P fs π' cs fr c/\Sh st (rb fr::cs.map rb))
variable {D0:List Frame} {st:List Bool} {π:Ren P.globals.size} {w W:x6} {d:Nat}
def dI.bind{A B Q s s'}(k:SR S (ah P fs) P Q π s s')(C:bt S Pr π w W){m:Result A×Array Event->GStep}{t:Result B×Array Event->List Frame->GStep} (D:∀h w' c,gO h->Dp π w'->j9 P.globals.size D0 (m (.halt h w',c))) (E:∀π' a b w' i c ev d',Ren.le π π'->Q π' a b->bt S Pr π' w' i->(∀e∈ev,lO Pr π' e)->dI S Pr P fs D0 st π' w' i d' (λw=>m (.ok a w,c)) (t (.ok b i,ev))):dI S Pr P fs D0 st π w W d (λw=>m (s.runT (ah P fs) w #[])) (t (s'.runT P W #[])):=by obtain⟨L,n,h|⟨a,w',c,b,i,ev,π',u,v,F,H,y,I⟩⟩:=k.run (Pr:=Pr) w W #[] #[] d C;refine⟨L,n,.inl λτ f=>?_⟩;obtain⟨x,w',c,e1,J,e3⟩:=h τ f;simp only[e1];exact D x w' c J e3;rw[Wa]at v;rw[v];obtain⟨z,j,g|⟨fr,cs,w2,o,K,CS,M,q,r,N,O,R,T,U,V,X⟩⟩:=E π' a b w' i c ev (d+L.length) y.le F H I;refine⟨L++z,iu n j,.inl λτ f=>?_⟩;have:=ir f;simp only[u τ this.1];exact g τ this.2;refine⟨L++z,iu n j,.inr ⟨fr,cs,w2,o,K,CS,M,q,r,λτ f=>?_,O,R,y.trans T,U,V,X⟩⟩;have:=ir f;simp only[u τ this.1];exact(N τ this.2).trans (by rw[U6,Wv])
def dI.still(c:bt S Pr π w W){fr a cs CS}(f:bp (bj S π) cs CS)(g:KG S P fs π cs fr a)(b:Sh st (rb fr::cs.map rb))(es){ev}(h:∀e∈ev,lO Pr π e):dI S Pr P fs D0 st π w W d (λw=>.go ⟨fr,cs++D0,.running,none,none⟩ w es) (λB=>.go ⟨a,CS++B,.running,none,none⟩ W ev):=
 ⟨[],by simp,.inr ⟨fr,cs,w,es,a,CS,W,ev,π,λτ _=>rfl,λ_=>rfl,c,Chg.refl _ _ _,h,f,g,b⟩⟩
def dI.xV{a GS}(h:∀τ,j9 P.globals.size D0 (a (au w τ d))):dI S Pr P fs D0 st π w W d a GS:=⟨[],by simp,.inl λτ _=>h τ⟩
def EP(p f es):∀e∈seen p f es,e∈es:=by
 have key:∀(l:List Event) (q:Bool) (k:Array Event) (g:FuncId->Bool),∀e∈(l.foldl (λ(x:Bool×Array Event) e=>match x with|(q,kept)=>match e.loc with
  | .mark (.extern f)=>(g f,kept)
  |_=>(q,if q&& !e.sync then kept else kept.push e)) (q,k)).2,e∈k\/e∈l:=by
  intro l;induction l with
  |nil=>exactλq k g e h=>.inl h
  |cons x l a=>
   intro q k g e h;simp only[XW]at h;split at h
   .obtain h|h:=a _ _ _ _ h
    .exact .inl h
    .exact .inr (.tail _ h)
   .obtain h|h:=a _ _ _ _ h
    .split at h
     .exact .inl h
     .obtain h|rfl:=Xb.1 h
      .exact .inl h
      .exact .inr (.head _)
    .exact .inr (.tail _ h)
 intro e h;unfold seen at h;simp only[]at h;rw[<-Xr]at h;obtain h|h:=key _ _ _ _ e h;simp at h;simpa using h
def bj.eval(b:∀g,S.dF g=true->π g g){f F}(h:bj S π f F):EvR S π f.eval F.eval:=by
 intro x a;cases x with
 |tmp t=>simp only[Frame.eval];have c:=h.tmps.get t;rw[VG,VG];generalize f.tmps[t]? =u at*;generalize F.tmps[t]? =v at*;cases c with|none=>exact aw.tuple' .empty|some h=>exact h
 |const v=>exact pc v a _ _
 |global g=>exact .ptr (.mk (b g a))
 |func f=>exact .func (.func f (by simpa[cE]using a)) rfl (λi x X h=>by simp at h) rfl (λi x X h=>by simp at h)
def bj.finish{f F}(h:bj S π f F){v V}(m:aw π v V):bj S π (f.finish v) (F.finish V):=by
 have a:=h.todo;obtain⟨fn,tmps,todo,defers,mode,kind,t⟩:=f;obtain⟨u,c,g,b,j,k,x⟩:=F;simp only[]at a;unfold Frame.finish;cases a with
 |nil=>exact h
 |cons n a=>
  cases n with
  |inRegion l q=>cases l with|nil=>exact h|cons i rest=>(have e:∀ops:Array Oper,((ops.map cP)[i]?).bind (·.dst)=(ops[i]?).bind (·.dst):=λops=>by rw[Vk];cases ops[i]? with|none=>rfl|some o=>exact AD o);simp only[e];refine{h with tmps:=?_,todo:=.cons (.inRegion rest q) a};split;exact h.tmps.set _ m;exact h.tmps
  |inRangeFunc r=>exact{h with todo:=.cons (.endRangeFunc r) a}
  |beginRound=>exact{h with todo:=a}
  |_=>exact h
def bj.marks{f F}(h:bj S π f F):Marks π f:=Nv h.defers
def KH{f F}(h:bj S π f F){cs CS}(b:bp (bj S π) cs CS):∀g∈f::cs,Marks π g:=by intro g a;cases a with|head=>exact h.marks|tail _ a=>obtain⟨y,c⟩:=b.left g a;exact c.marks
def sV{f F}(h:bj S π f F){cs CS}(a:bp (bj S π) cs CS){w'}(c:Dp π w')(v es):j9 P.globals.size D0 (.go ⟨f.raise [{v,recovered:=false}],cs++D0,.running,none,none⟩ w' es):=by (have i:=KH h a;have e:f.raise [{v,recovered:=false}]={f with mode:=.panicking [{v,recovered:=false}]}:=by unfold Frame.raise;rcases h.calm with a|a<;>rw[a]);refine⟨π,cs,rfl,rfl,rfl,rfl,⟨_,by rw[e]⟩,λg b=>?_,c,λg b=>by obtain⟨y,j⟩:=a.left g b;exact j.calm⟩;cases b with|head=>rw[e];exact h.marks|tail _ b=>exact i g (.tail _ b)
def uj(n:Tab S P fs)(f:FuncId)(o:S.stop f=true\/S.ent f=true){a A}(b:S.stop f=true->a.size=1)(e:VsR π a A){cs}(h:cs≠[]):KG S P fs π cs (Frame.enter (ah P fs) f a .normal) (Frame.enter P f A .normal):=by by_cases i:S.stop f=true;exact .inr ⟨h,f,a,A,i,⟨b i,e⟩,rfl,rfl⟩;have k:=o.resolve_left i;obtain⟨_,g,c,e1,m,_,q,j⟩:=n.ent f k;refine .inl ⟨rfl,k,?_,?_,.nil,rfl,.inl rfl,rfl,rfl,.none⟩;simp only[Frame.enter,show(ah P fs).funcs=fs from rfl,e1,m];rw[<-e.1];exact e.append (fM (iL _ (λ_ _=>aw.tuple' .empty)));simp only[Frame.enter,show(ah P fs).funcs=fs from rfl,e1,m,WR,q];exact .cons (.code j) .nil
def bj.Nw{f F}(h:bj S π f F):(∀d r s k,f.todo≠ .call d true r s::k)/\∀d r s k,F.todo≠ .call d true r s::k:=by have a:=h.todo;generalize f.todo=t at*;generalize F.todo=T at*;cases a with|nil=>exact⟨by simp,by simp⟩|cons b _=>cases b<;>exact⟨by simp,by simp⟩
def kG{p f es}(h:∀e∈es,lO Pr π e):∀e∈seen p f es++#[],lO Pr π e:=λe a=>h e (EP p f es e (by simpa using a))
section applied
variable {p:Program} {fr:Frame} {cs:List Frame} {s:Sem Next} {es:Array Event} {C0 i1:x6}
def ve{v}(h:s.runT p C0 #[]=(.ok (.value v) i1,es))(a:fr.kind=.normal):stepG.apply p true fr cs none s C0=.go ⟨fr.finish v,cs,.running,none,none⟩ i1 (seen p fr.fn es++#[]):=by simp only[stepG.apply,h,a,GStep.after,UW];rfl
def xW(h:s.runT p C0 #[]=(.ok .skip i1,es))(a:fr.kind=.normal):stepG.apply p true fr cs none s C0=.go ⟨fr.finish undef,cs,.running,none,none⟩ i1 (seen p fr.fn es++#[]):=by simp only[stepG.apply,h,a,GStep.after,UW];rfl
def vh{f a}(h:s.runT p C0 #[]=(.ok (.enter f a) i1,es))(b:fr.kind=.normal)(c:∀d r s k,fr.todo≠ .call d true r s::k):stepG.apply p true fr cs none s C0=.go ⟨Frame.enter p f a .normal,fr::cs,.running,none,none⟩ i1 (seen p fr.fn es++#[]):=by simp only[stepG.apply,h,b,GStep.after,UW];rw[UG (by decide)]
def vi{l f t as body}(h:s.runT p C0 #[]=(.ok (.round l f t as body) i1,es))(a:fr.kind=.normal):stepG.apply p true fr cs none s C0=.go ⟨Frame.round l f t as body .normal,fr::cs,.running,none,none⟩ i1 (seen p fr.fn es++#[]):=by simp only[stepG.apply,h,a,GStep.after,UW];rfl
def ER{v}(h:s.runT p C0 #[]=(.halt (.panic v) i1,es))(a:fr.kind=.normal):∃es',stepG.apply p true fr cs none s C0=.go ⟨fr.raise [{v,recovered:=false}],cs,.running,none,none⟩ i1 es':=by simp only[stepG.apply,h,a,GStep.after,UW];exact⟨_,rfl⟩
def Ib{x}(a:gO x)(b:∀v,x≠ .panic v)(h:s.runT p C0 #[]=(.halt x i1,es)):∃o w es',stepG.apply p true fr cs none s C0=.ended o w es':=by
 cases x with
 |panic v=>exact absurd rfl (b v)
 |stuck=>simp only[stepG.apply,h,GStep.after,UW];exact⟨_,_,_,rfl⟩
 |unsupported u=>cases u with|initOrder=>exact a.elim|_=>simp only[stepG.apply,h,GStep.after,UW];exact⟨_,_,_,rfl⟩
 |_=>exact a.elim
end applied
def mJ(N:Tab S P fs){f F}(h:bj S π f F){cs CS}(K:bp (bj S π) cs CS){s s'}(O:SR S (ah P fs) P (NQ S) π s s')(Q:bt S Pr π w W):dI S Pr P fs D0 (rb f::cs.map rb) π w W d (λw=>stepG.apply (ah P fs) true f (cs++D0) none s w) (λB=>stepG.apply P true F (CS++B) none s' W):=by obtain⟨L,k,R|⟨a,w',C,b,q,ev,π',r,m,U,u,j,y⟩⟩:=O.run (Pr:=Pr) w W #[] #[] d Q;refine⟨L,k,.inl λτ c=>?_⟩;obtain⟨x,w',C,e1,X,e3⟩:=R τ c;by_cases M:∃v,x=.panic v;obtain⟨v,rfl⟩:=M;obtain⟨n,e⟩:=ER (fr:=f) (cs:=cs++D0) e1 h.kind;simp only[e];exact sV h K e3 v n;obtain⟨o,w2,n,e⟩:=Ib (fr:=f) (cs:=cs++D0) X (λv D=>M ⟨v,D⟩) e1;simp only[e];trivial;rw[Wa]at m;have i:=K.mono λ_ _ x=>bj.mono j.le x;have z:=h.mono j.le;cases U with| @value v V D=>exact⟨L,k,.inr ⟨f.finish v,cs,w',_,F.finish V,CS,q,_,π',λτ c=>ve (r τ c) h.kind,λ_=>ve m h.Kind,u,j,kG y,i,.inl (z.finish D),by rw[nf];exact .inl rfl⟩⟩|skip=>exact⟨L,k,.inr ⟨f.finish undef,cs,w',_,F.finish undef,CS,q,_,π',λτ c=>xW (r τ c) h.kind,λ_=>xW m h.Kind,u,j,kG y,i,.inl (z.finish (aw.tuple' .empty)),by rw[nf];exact .inl rfl⟩⟩| @enter g a A E H I=>exact⟨L,k,.inr ⟨_,f::cs,w',_,_,F::CS,q,_,π',λτ c=>vh (r τ c) h.kind h.Nw.1,λ_=>vh m h.Kind h.Nw.2,u,j,kG y,.cons z i,uj N g E H I (by simp),.inr (.inl ⟨_,rfl⟩)⟩⟩| @round l LL g t T as body E Y J I Z=>refine⟨L,k,.inr ⟨_,f::cs,w',_,_,F::CS,q,_,π',λτ c=>vi (r τ c) h.kind,λ_=>vi m h.Kind,u,j,kG y,.cons z i,.inl ?_,.inr (.inl ⟨_,rfl⟩)⟩⟩;exact⟨rfl,E,J,.cons (.same I) (.cons .beginRound (.cons (.same Z) .nil)),.nil,rfl,.inl rfl,rfl,rfl,.some Y⟩
def Ic(a){k K}(h:bp (fN S π) k K):dP (bp (fN S π)) (exitTo a k) (exitTo a K):=by induction h with|nil=>exact .none| @cons x X k K c e b=>cases c with|inBlock i=>simp only[exitTo];split;exact .some e;exact b|_=>exact b
def CM(l):∀(b) (r),S.code b->findLabel b l=some r->S.code r:=by intro b;induction b with|seq a b g h=>intro r f c;simp only[Kn.code,codeOk,UT]at f;unfold findLabel at c;split at c;rename_i i e;cases c;have:=g i f.1 e;simp only[Kn.code,codeOk,UT];exact⟨this,f.2⟩;exact h r f.2 c|label j=>intro r f c;simp only[findLabel]at c;split at c;cases c;rfl;cases c|_=>intro r f c;simp[findLabel]at c
def Ie(l){k K}(h:bp (fN S π) k K):dP (bp (fN S π)) (gotoIn l k) (gotoIn l K):=by
 induction h with
 |nil=>exact .none
 | @cons x X k K f g a=>
  cases f with
  | @inScope b c=>simp only[gotoIn];cases e:findLabel b l with|none=>exact a|some r=>exact .some (.cons (.same (CM l b r c e)) (.cons (.inScope c) g))
  |_=>exact a
def ET{t T}(h:VsR π t T)(ops j):yielded ops t j=yielded ops T j:=by
 unfold yielded;cases(ops[j]?).bind (·.dst)with
 |none=>rfl
 |some d=>
  simp only[WR];have b:=h.get d;generalize t[d]? =u at*;generalize T[d]? =v at*;cases b with
  |none=>rfl
  | @some x y h=>
   cases h with
   |mR _ a=>cases y<;>first|rfl|(simp[eA]at a;done)
   |_=>rfl
def EU{l L}(h:π l L)(jump)(b:∀c,jump=some c->S.code c):SR S (ah P fs) P VQ π (Instr.endRound l jump) (Instr.endRound L jump):=by unfold Instr.endRound;refine(lu h).bind ?_;intro e f r R a;refine(eL (f _ _ h) (by simp) (.loop (l:={r with state:=if jump.isNone then .ready else .done,pending:=jump}) (L:={R with state:=if jump.isNone then .ready else .done,pending:=jump}) ⟨rfl,rfl,b,a.fn,a.ent,a.tmps,a.params,a.assign,a.Sp,a.body,a.Sq,a.defers⟩)).bind ?_;intro g i _ _ _;exact ai (.bool _)
def Ig{l L}(h:π l L):SR S (ah P fs) P (λ_ a A=>a=A/\∀c,a=some c->S.code c) π (Instr.endLoop l) (Instr.endLoop L):=by unfold Instr.endLoop;refine(lu h).bind ?_;intro e f r R b;rw[<-b.state];refine de (.never (aB (aE _))) ?_;refine(eL (f _ _ h) (by simp) (.loop (l:={r with state:=.exhausted}) (L:={R with state:=.exhausted}) {b with state:=rfl})).bind ?_;intro g i _ _ _;rw[<-b.pending];exact ai ⟨rfl,b.Ub⟩
def zH{l L}(h:π l L):SR S (ah P fs) P EqQ π (Instr.beginRound l) (Instr.beginRound L):=by unfold Instr.beginRound;refine(lu h).bind ?_;intro b c r R a;refine(eL (c _ _ h) (by simp) (.loop (l:={r with state:=.busy}) (L:={R with state:=.busy}) {a with state:=rfl})).bind ?_;intro e f _ _ _;rw[<-a.state];split;exact ai rfl;exact dk;exact dk;exact dk
def wo{r R}(h:π r R):SR S (ah P fs) P (λ_ a A=>a=[]/\A=[]) π (Instr.takeDeferred r) (Instr.takeDeferred R):=by unfold Instr.takeDeferred;refine(cJ h).bind ?_;intro b c o O e;cases e with|deferred=>refine(eL (c _ _ h) (by simp) .eQ).bind ?_;intro f g _ _ _;exact ai ⟨rfl,rfl⟩|_=>exact aj
abbrev Ry(π:Ren P.globals.size):Nat×List Deferred->Nat×List Deferred->Prop:=λa A=>π a.1 A.1/\bp (qp π) a.2 A.2
def CN{fn:FuncId}(j:S.ent fn=true){t T}(k:VsR π t T)(params){as body}(m:S.code as)(n:S.code body){o u}(b:dP (λl L=>π l L) o u):SR S (ah P fs) P (λπ' a A=>Ry π' a A) π (Instr.enterLoop fn t params as body o) (Instr.enterLoop fn T params as body u):=by unfold Instr.enterLoop;cases b with|none=>refine(iv .deferred).bind ?_;intro e f r R b;refine(iv (.loop (l:=⟨.ready,none,fn,t,params,as,body,r⟩) (L:=⟨.ready,none,fn,T,params,as,body,R⟩) ⟨rfl,rfl,(λc h=>by cases h),rfl,j,VsR.mono f k,rfl,rfl,m,rfl,n,b⟩)).bind ?_;intro g v q Q i;exact ai ⟨i,.cons (.mk (v _ _ b)) .nil⟩|some x=>refine(lu x).bind ?_;intro e f r R b;refine(iv (.loop (l:=⟨.ready,none,fn,t,params,as,body,r.defers⟩) (L:=⟨.ready,none,fn,T,params,as,body,R.defers⟩) ⟨rfl,rfl,(λc h=>by cases h),rfl,j,VsR.mono f k,rfl,rfl,m,rfl,n,b.defers⟩)).bind ?_;intro g v q Q i;exact ai ⟨i,.nil⟩
def Ih{c:Type}{f F:c->Sem Zj}(xs:Array c)(h:∀(π'),Ren.le π π'->∀x,SR S (ah P fs) P VQ π' (f x) (F x)):SR S (ah P fs) P VsQ π (xs.mapM f) (xs.mapM F):=by (obtain⟨l⟩:=xs;simp only[List.mapM_toArray];have key:∀(l:List c) (π':Ren P.globals.size),Ren.le π π'->SR S (ah P fs) P (λb a A=>bp (aw b) a A) π' (l.mapM f) (l.mapM F):=by intro l;induction l with|nil=>intro π' e;simp only[List.mapM_nil];exact ai .nil|cons x l i=>intro π' e;simp only[List.mapM_cons];refine(h π' e x).bind ?_;intro b j v V k;refine(i b (Ren.le_trans e j)).bind ?_;intro m n o q g;exact ai (.cons (k.mono n) g));exact MQ (key l π (Ren.le_refl _)) λπ' a A h=>h.toArray
def rF(g){t T}(h:VsR π t T):SR S (ah P fs) P VQ π (results g t) (results g T):=by (unfold results;have e:∀{π':Ren P.globals.size},Ren.le π π'->∀i,aw π' (t.getD i undef) (T.getD i undef):=by intro π' l i;have j:=(VsR.mono l h).get i;rw[VG,VG];generalize t[i]? =u at*;generalize T[i]? =v at*;cases j with|none=>exact aw.tuple' .empty|some h=>exact h);refine(Ih g.results λπ' l x=>?_).bind ?_;(cases x with|tmp i=>exact ai (e l i)|cell a t=>refine(Am (e l a)).bind ?_;intro k q a A m;exact xn t m);intro n r o y b;refine ai ?_;have f:=b.1;by_cases c:o.size=1;rw[Wz c,Wz (f▸c)];exact b.2 0 _ _ (Va _) (Va _);rw[dif_neg c,dif_neg (f▸c)];exact aw.tuple' b
end
def Ln{e σ:Type}(b:σ->Prop)(f:e->σ->Option (ForInStep σ))(i:∀a s r,b s->f a s=some r->b (match r with| .yield s=>s| .done s=>s)):∀(l:List e) (s s':σ),b s->forIn l s f=some s'->b s':=by intro l;induction l with|nil=>intro s s' d h;simp at h;exact h▸d|cons a l j=>intro s s' d h;rw[Yh]at h;cases c:f a s with|none=>rw[c]at h;cases h|some r=>rw[c]at h;have:=i a s r d c;cases r with|done g=>simp at h;exact h▸this|yield g=>exact j g s' this h
def PZ(i:TypeInfo):Prop:=∀z,i.zero=some z->Plain z
def pE{c}(h:bn c):Plain (.agg c):=λG π=>.Gy ⟨rfl,λi x y a b=>by rw[a]at b;cases b;exact h i x a G π⟩
def bn.app{a b}(c:bn a)(d:bn b):bn (a++b):=λi v h=>by rw[WT]at h;split at h;exact c _ _ h;exact d _ _ h
def Di(e)(n:∀t i,e t=some i->PZ i)(fs i)(h:Made.reckonStruct e fs=some i):PZ i:=by
 unfold Made.reckonStruct at h;simp only[<-Wo,bind,Wi]at h;obtain⟨r,o,l⟩:=h;have k:=Ln (λs:Array Field×Nat×Nat×Nat×Nat×Bool×Bool×Option (Zq)×String=>∀c,s.2.2.2.2.2.2.2.1=some c->bn c) _ (λa s x p f=>?_) fs.toList _ r (λc d=>by cases d;exactλi v q=>by simp at q) o;have u:i.zero=r.2.2.2.2.2.2.2.1.map .agg:=by revert l;simp only[pure];split<;>(intro l;cases l;rfl)
 intro z m;rw[u]at m;obtain⟨c,d,rfl⟩:=Vi.1 m;exact pE (k c d)
 cases g:e a.type with
 |none=>rw[g]at f;cases f
 |some j=>
  rw[g]at f;simp only[WR,pure]at f;have fin:∀c,(if s.2.1+j.size>Made.mostCells then none else s.2.2.2.2.2.2.2.1.bind λa=>j.zero.bind λb=>some (a++b.cells))=some c->bn c:=by intro c d;split at d;cases d;simp only[Wi]at d;obtain⟨w,y,z,A,B⟩:=d;cases B;exact(p w y).app ((n _ _ g z A).cells)
  repeat' split at f
  all_goals simp only[Option.bind_none,Wi,reduceCtorEq,Vw]at f
  all_goals try (exact f.elim)
  all_goals first
   |(subst f;intro c d;first|(cases d;done)|exact fin c d|exact fin c (by rw[UG (by assumption)];exact d))
   |(obtain⟨C,_,f⟩:=f;subst f;intro c d;first|(cases d;done)|exact fin c d|exact fin c (by rw[UG (by assumption)];exact d))
def jo(d s z)(a:gp z=true)(c b):PZ (Made.word d s z c b):=by intro e h;have:(Made.word d s z c b).zero=some z:=rfl;rw[this]at h;cases h;exact pc _ a
def Dj{c}(h:bn c)(n):bn (Array.replicate n c).flatten:=by intro i v e;have b:=VI e;rw[Array.mem_flatten]at b;obtain⟨d,f,a⟩:=b;have:=Array.eq_of_mem_replicate f;subst this;obtain⟨j,g⟩:=XB.1 a;exact h j v g
def Dk(e)(g:∀t i,e t=some i->PZ i)(d i)(h:Made.reckon e d=some i):PZ i:=by cases d<;>simp only[Made.reckon,bind,Wi,pure,reduceCtorEq]at h;obtain⟨a,j,h⟩:=h;split at h;cases h;split at h;cases h;obtain⟨x,_,h⟩:=Wi.1 h;cases h;exact jo _ _ _ rfl _ _;obtain⟨x,_,h⟩:=Wi.1 h;cases h;exact jo _ _ _ rfl _ _;obtain⟨a,_,b,_,h⟩:=h;cases h;exact jo _ _ _ rfl _ _;obtain⟨a,j,b,_,h⟩:=h;cases h;intro z f;simp only[]at f;split at f;cases f;split at f;cases f;(exact pE λi v k=>by simp at k);obtain⟨l,m,rfl⟩:=Vi.1 f;exact pE (Dj ((g _ _ j l m).cells) _);obtain⟨a,_,b,_,c,_,d,_,h⟩:=h;cases h;exact jo _ _ _ rfl _ _;obtain⟨a,_,b,_,h⟩:=h;cases h;exact jo _ _ _ rfl _ _;exact Di e g _ i h;obtain⟨a,_,h⟩:=h;cases h;exact jo _ _ _ rfl _ _
def Dl(T)(a:∀(t:Nat) i,T.types[t]? =some i->PZ i):∀(f) t i,Made.infoAt T f t=some i->PZ i:=by intro f;induction f with|zero=>intro t i h;cases h|succ f b=>intro t i h;unfold Made.infoAt at h;split at h;exact a t i h;obtain⟨d,_,h⟩:=Wi.1 h;exact Dk _ b d i h
def IN(T:Tables)(a:∀(t:Nat) i,T.types[t]? =some i->PZ i)(t i)(h:T.info? t=some i):PZ i:=by unfold Tables.info? at h;split at h;exact a t i h;exact Dl T a _ t i h
section
variable {S:Kn} {P:Program} {fs:Array Func} {Pr:Nat->Prop} {D0 B:List Frame} {π:Ren P.globals.size} {w W:x6} {d:Nat}
def pd(p main fr c cs v w)(h:fr.kind=.normal):doReturn p main fr (c::cs) none v w=.go ⟨c.finish v,cs,.running,none,none⟩ w:=by simp[doReturn,h]
def pf{f F:Frame}(h:bj S π f F)(main e:Bool){cs CS:List Frame}(t:bp (bj S π) cs CS)(m:cs≠[]){s s':Sem Zj}(z:SR S (ah P fs) P VQ π s s')(A:bt S Pr π w W) {gh:Halt->x6->GStep} {GH:Halt->x6->GStep} (n:∀x w,∃o w' es,gh x w=.ended o w' es):dI S Pr P fs D0 (rb f::cs.map rb) π w W d (λw=>GStep.after (seen (ah P fs) f.fn (s.runT (ah P fs) w #[]).2) (match(s.runT (ah P fs) w #[]).1 with| .ok v w=>doReturn (ah P fs) main f (cs++D0) none v w| .halt x w=>gh x w)) (λB=>GStep.after (seen P F.fn (s'.runT P W #[]).2) (match(s'.runT P W #[]).1 with| .ok v w=>doReturn P e F (CS++B) none v w| .halt x w=>GH x w)):=by obtain⟨L,u,D|⟨a,w',i,b,E,ev,p,G,y,H,I,l,J⟩⟩:=z.run (Pr:=Pr) w W #[] #[] d A;refine⟨L,u,.inl λτ g=>?_⟩;obtain⟨x,w',i,e1,N,e3⟩:=D τ g;obtain⟨o,w2,K,e4⟩:=n x w';simp only[e1,e4];trivial;rw[Wa]at y;have M:=t.mono λ_ _ x=>bj.mono l.le x;cases t with|nil=>exact absurd rfl m| @cons c C cs CS q r=>have j:=q.mono l.le;have k:=r.mono λ_ _ x=>bj.mono l.le x;refine⟨L,u,.inr ⟨c.finish a,cs,w',seen (ah P fs) f.fn i++#[],C.finish b,CS,E,seen P F.fn ev++#[],p,λτ g=>?_,?_,I,l,kG J,k,.inl (j.finish H),by rw[nf];exact .inr (.inr ⟨_,rfl⟩)⟩⟩;simp only[G τ g,Xs,pd _ _ _ _ _ _ _ h.kind];rfl;intro B;simp only[y,Xs,pd _ _ _ _ _ _ _ h.Kind];rfl
def jy{f F:Frame}(h:bj S π f F)(main b:Bool){cs CS:List Frame}(j:bp (bj S π) cs CS)(g:f.roundOf≠none->cs≠[])(k:bt S Pr π w W)(jump:Option Code)(m:∀c,jump=some c->S.code c):dI S Pr P fs D0 (rb f::cs.map rb) π w W d (λw=>match f.roundOf with
   |none=>if jump matches none|some .ret then .go {frame:={f with mode:=.returning},callers:=cs++D0,status:=.running,dying:=none} w else .ended (.stuck "exit, goto: no such block or label" (f.pos (ah P fs))) w
   |some l=>
    let(r,es):=(Instr.endRound l jump).runT (ah P fs) w #[]
    GStep.after (seen (ah P fs) f.fn es)<|match r with
    | .ok v w=>doReturn (ah P fs) main f (cs++D0) none v w
    | .halt _ w=>.ended (.stuck "range over a function: no such loop" (f.pos (ah P fs))) w)
  (λB=>match F.roundOf with
   |none=>if jump matches none|some .ret then .go {frame:={F with mode:=.returning},callers:=CS++B,status:=.running,dying:=none} W else .ended (.stuck "exit, goto: no such block or label" (F.pos P)) W
   |some l=>
    let(r,es):=(Instr.endRound l jump).runT P W #[]
    GStep.after (seen P F.fn es)<|match r with
    | .ok v w=>doReturn P b F (CS++B) none v w
    | .halt _ w=>.ended (.stuck "range over a function: no such loop" (F.pos P)) w):=by
 have n:=h.round;have i:rb f=f.roundOf.isSome:=rfl;generalize f.roundOf=a at*;generalize F.roundOf=A at*;cases n with
 |none=>
  rw[i];have o:KG S P fs π cs ⟨f.fn,f.tmps,f.todo,f.defers,.returning,f.kind,none⟩ ⟨F.fn,F.tmps,F.todo,F.defers,.returning,F.kind,none⟩:=.inl ⟨h.fn,h.ent,h.tmps,h.todo,h.defers,rfl,.inr rfl,h.kind,h.Kind,.none⟩
  have e:=dI.still (Pr:=Pr) (D0:=D0) (st:=Option.isSome (none:Option Nat)::cs.map rb) (d:=d) (ev:=#[]) k j o (.inl rfl) #[] (by simp);cases jump with
  |none=>exact e
  |some c=>cases c<;>first|exact e|exact .xV λτ=>trivial
 |some p=>exact pf h main b j (g (by simp)) (EU p jump m) k λx w=>⟨_,_,_,rfl⟩
def qP(fr:Frame)(g l):resolve fr.eval {callee:=.value g,args:=#[.const (.func (.yield l) #[] #[])],argTypes:=#[]} 0=Deferred.ofValue (fr.eval g) #[.func (.yield l) #[] #[]]:=by simp[resolve,Frame.eval]
def Ii(p q w):(choose q).run p w=if q.forced then .ok 0 w else .ok (q.cut (w.tape w.drawn q)) {w with drawn:=w.drawn+1}:=by simp only[choose,Sem.run]
def CO(ht:Tab S P fs)(hG:∀g,S.dF g=true->π g g){f F}(h:bj S π f F)(hm:f.mode=.run)(main p){cs CS}(H:bp (bj S π) cs CS)(Q:f.roundOf≠none->cs≠[])(hR:S.calm (W.tape W.drawn))(I:bt S Pr π w W):dI S Pr P fs D0 (rb f::cs.map rb) π w W d (λw=>stepG.exec (ah P fs) main true f (cs++D0) none w) (λB=>stepG.exec P p true F (CS++B) none W):=by
 have R:=h.eval hG;have J:=h.todo;obtain⟨fn,tmps,todo,defers,mode,kind,ro⟩:=f;obtain⟨FN,r,a7,n,A,C,RO⟩:=F;simp only[]at J hm;subst hm;have to:∀{t T:List Item},bp (fN S π) t T->dI S Pr P fs D0 (ro.isSome::cs.map rb) π w W d (λw=>.go ⟨⟨fn,tmps,t,defers,.run,kind,ro⟩,cs++D0,.running,none,none⟩ w) (λB=>.go ⟨⟨FN,r,T,n,A,C,RO⟩,CS++B,.running,none,none⟩ W):=λ{t T} ak=>by have O:KG S P fs π cs ⟨fn,tmps,t,defers,.run,kind,ro⟩ ⟨FN,r,T,n,A,C,RO⟩:=.inl ⟨h.fn,h.ent,h.tmps,ak,h.defers,h.mode,h.calm,h.kind,h.Kind,h.round⟩;exact dI.still (ev:=#[]) I H O (.inl rfl) #[] (by simp)
 unfold stepG.exec;cases J with
 |nil=>exact jy h main p H Q I none (λc h=>by cases h)
 | @cons x X k K hx s=>
  cases hx with
  | @code c m=>
   cases c with
   |skip=>exact to s
   |label=>exact to s
   |ret=>exact jy h main p H Q I (some .ret) (λc h=>by cases h;rfl)
   |refuse=>exact .xV λτ=>trivial
   |seq a b=>simp only[iW,UT]at m;exact to (.cons (.code m.1) (.cons (.code m.2) s))
   |block E b=>exact to (.cons (.same m) (.cons (.inBlock E) s))
   |loop b=>exact to (.cons (.same m) (.cons (.inLoop m) s))
   |scope b=>exact to (.cons (.same m) (.cons (.inScope m) s))
   |cond x a b=>simp only[iW,codeOk,UT]at m;simp only[ia]at R⊢;have hv:=R x m.1.1;generalize Frame.eval _ x=v at*;generalize Frame.eval _ x=V at*;cases hv with|bool b'=>cases b';exact to (.cons (.same m.2) s);exact to (.cons (.same m.1.2) s)|_=>exact .xV λτ=>trivial
   |exit E=>have he:=Ic E s;simp only[ia];generalize exitTo E k=u at*;generalize exitTo E K=v at*;cases he with|none=>exact jy h main p H Q I (some (.exit E)) (λc h=>by cases h;rfl)|some he=>exact to he
   |goto l=>have he:=Ie l s;simp only[ia];generalize gotoIn l k=u at*;generalize gotoIn l K=v at*;cases he with|none=>exact jy h main p H Q I (some (.goto l)) (λc h=>by cases h;rfl)|some he=>exact to he
   |region E ops ab=>(have D:∀o∈ops,opD S o.op=true:=by simp only[iW]at m;rw[WJ]at m;exact m);cases ab with|false=>have e:=to (.cons (.inRegion (List.range ops.size) D) s);simp only[ia,Wq];exact e|true=>have an:FN=fn:=h.fn;subst an;simp only[ia,Ii,xU];by_cases hq:(Question.order FN E).forced=true;simp only[hq,UW];exact to (.cons (.inRegion _ D) s);simp only[hq,U5];(have O:∀t,bj S π ⟨FN,tmps,.inRegion (ops.map cP) t::k,defers,.run,kind,ro⟩ ⟨FN,r,.inRegion ops t::K,n,A,C,RO⟩:=λt=>⟨h.fn,h.ent,h.tmps,.cons (.inRegion t D) s,h.defers,h.mode,h.calm,h.kind,h.Kind,h.round⟩);refine⟨[only (.order FN E) (W.tape W.drawn (.order FN E))],by simpa using Gz (show S.ent FN=true from h.ent) hR E,.inr ⟨_,cs,w,#[],_,CS,_,#[],π,λτ q=>?_,λ_=>rfl,I.heap rfl rfl,Chg.heap rfl rfl rfl rfl,by simp,H,.inl (O _),.inl rfl⟩⟩;simp only[show(au w τ d).tape (au w τ d).drawn (.order FN E)=W.tape W.drawn (.order FN E)from(congrFun q.head _).trans (tG _ _)];rfl
   |rangeFunc g params a b=>simp only[iW,codeOk,UT]at m;simp only[ia]at h R⊢;obtain rfl:fn=FN:=h.fn.symm;obtain⟨L,hL,hh|⟨x,w',G,X,W',ev,M,h1,h2,h3,h4,N,h6⟩⟩:=(CN (S:=S) (P:=P) (fs:=fs) h.ent h.tmps params m.1.2 m.2 h.round).run (Pr:=Pr) w W #[] #[] d I;refine⟨L,hL,.inl λτ q=>?_⟩;obtain⟨y,w',G,e1,e2,e3⟩:=hh τ q;simp only[e1];exact j9.after _ trivial;rw[Wa]at h2;(obtain⟨l,mk⟩:=x;obtain⟨LL,MK⟩:=X;obtain⟨Z,ad⟩:=h3;simp only[]at Z ad;have U:=s.mono λ_ _ x=>fN.mono N.le x;have z:=h.mono N.le;have O:bj S M ⟨fn,tmps,.inRangeFunc l::k,mk++defers,.run,kind,ro⟩ ⟨fn,r,.inRangeFunc LL::K,MK++n,A,C,RO⟩:=⟨z.fn,z.ent,z.tmps,.cons (.inRangeFunc Z) U,ad.append z.defers,z.mode,z.calm,z.kind,z.Kind,z.round⟩);have aa:VsR M #[Value.func (.yield l) #[] #[]] #[Value.func (.yield LL) #[] #[]]:=aY.push aY.empty (.func (.yield Z) rfl (λi x X h=>by simp at h) rfl (λi x X h=>by simp at h));have hs:=vc (S:=S) ht (λg hg=>N.le _ _ (hG g hg)) ((O.eval λg hg=>N.le _ _ (hG g hg)) g m.1.1) aa;rw[<-qP,<-qP]at hs;obtain⟨L2,af,gg|⟨ao,ar,w2,ax,ay,aK,W2,aM,aR,g1,g2,g3,g4,g5,g6,g7⟩⟩:=mJ (D0:=D0) (d:=d+L.length) ht O (H.mono λ_ _ x=>bj.mono N.le x) hs h4;refine⟨L++L2,iu hL af,.inl λτ q=>?_⟩;have:=ir q;simp only[h1 τ this.1];exact j9.after _ (gg τ this.2);refine⟨L++L2,iu hL af,.inr ⟨ao,ar,w2,seen (ah P fs) fn G++ax,ay,aK,W2,seen P fn ev++aM,aR,λτ q=>?_,?_,g3,N.trans g4,?_,g6,g7⟩⟩;have:=ir q;simp only[h1 τ this.1];have e:=g1 τ this.2;rw[Wv,<-U6]at e;exact Vj (GStep.after (seen (ah P fs) fn G)) e;intro B;simp only[h2];exact Vj (GStep.after (seen P fn ev)) (g2 B);intro e he;obtain he|he:=VJ.1 he;exact(h6 e (EP _ _ _ e he)).mono g4.le;exact g5 e he
  |inBlock=>exact to s
  |inScope=>exact to s
  |inLoop hb=>exact to (.cons (.same hb) (.cons (.inLoop hb) s))
  |inRangeFunc=>exact .xV λτ=>trivial
  | @endRangeFunc l LL Z=>obtain⟨L,hL,hh|⟨a,w',G,b,W',ev,M,h1,h2,h3,h4,N,h6⟩⟩:=(Ig (fs:=fs) Z).run (Pr:=Pr) w W #[] #[] d I;refine⟨L,hL,.inl λτ q=>?_⟩;(obtain⟨x,w',G,e1,e2,e3⟩:=hh τ q;simp only[e1];refine j9.after _ ?_;cases x with|panic v=>exact sV h H e3 v #[]|_=>trivial);rw[Wa]at h2;(obtain⟨rfl,m⟩:=h3;have U:=s.mono λ_ _ x=>fN.mono N.le x;have z:=h.mono N.le;have O:bj S M ⟨fn,tmps,(a.map Item.code).toList++k,defers,.run,kind,ro⟩ ⟨FN,r,(a.map Item.code).toList++K,n,A,C,RO⟩:=by refine⟨z.fn,z.ent,z.tmps,?_,z.defers,z.mode,z.calm,z.kind,z.Kind,z.round⟩;cases a with|none=>exact U|some c=>exact .cons (.same (m c rfl)) U);refine⟨L,hL,.inr ⟨_,cs,w',seen (ah P fs) fn G++#[],_,CS,W',seen P FN ev++#[],M,λτ q=>?_,?_,h4,N,kG h6,H.mono λ_ _ x=>bj.mono N.le x,.inl O,.inl rfl⟩⟩;simp only[h1 τ q];rfl;intro B;simp only[h2];rfl
  |beginRound=>refine mJ ht h H (sT ?_) I;have hr:=h.round;simp only[]at hr;cases hr with|none=>exact aj|some Z=>exact zH Z
  | @inRegion ops l D=>
   cases l with
   |nil=>exact to s
   |cons i rest=>
    have hy:yielded ops r=yielded ops tmps:=funext λj=>(ET h.tmps ops j).symm;have a1:((((ops.map cP)[i]?).map (Region.wanted · (yielded ops tmps))).getD false)=(((ops[i]?).map (Region.wanted · (yielded ops tmps))).getD false):=by simp only[Vk,Option.map_map,Function.comp_def,CL]
    simp only[zG,hy,a1];cases hb:(((ops[i]?).map (Region.wanted · (yielded ops tmps))).getD false);case true=>
     simp only[UW];unfold stepG.oper;simp only[Frame.oper?,Vk];cases ho:ops[i]? with
     |none=>exact .xV λτ=>trivial
     |some o=>
      have ag:=D o (VI ho);have hs:=Ia ht hG R (λ_=>rfl) (λ_=>rfl) o ag;have key:=mJ (D0:=D0) (d:=d) ht h H hs I;have Y:=Nu o;simp only[Vv]
      revert key Y
      generalize cP o=o';intro key Y;obtain⟨bk,op,ty,pos,bm,gd⟩:=o;obtain⟨a8,a6,bo,ba,bb,br⟩:=o';have hr:=h.round;simp only[]at hr Y;subst Y;cases a6<;>first|(simp[opD,BM,kW]at ag;done)|(cases hr<;>exact key)
    case false=>simp only[U7,U5];have O:=h.finish (aw.tuple' (.empty:VsR π #[] #[]));exact dI.still (ev:=#[]) I H (.inl O) (by rw[nf];exact .inl rfl) #[] (by simp)
end
section
variable {S:Kn} {P:Program} {fs:Array Func} {Pr:Nat->Prop} {D0:List Frame} {st:List Bool} {π:Ren P.globals.size} {w W:x6} {d:Nat}
def dI.congr{b gs' GS a}(c:∀w,b w=gs' w)(e:GS=a)(h:dI S Pr P fs D0 st π w W d gs' a):dI S Pr P fs D0 st π w W d b GS:=by rw[e,funext c];exact h
def CP(H:Tab S P fs)(M:∀g,S.dF g=true->π g g){f F}(h:bj S π f F)(main i){cs CS}(A:bp (bj S π) cs CS)(j:f.roundOf≠none->cs≠[]) (p:f.mode=.returning->f.defers=[]->cs≠[]) (N:S.calm (W.tape W.drawn)) (C:bt S Pr π w W):dI S Pr P fs D0 (rb f::cs.map rb) π w W d (λw=>stepG (ah P fs) main ⟨f,cs++D0,.running,none,none⟩ w) (λB=>stepG P i ⟨F,CS++B,.running,none,none⟩ W):=by
 have e:=h.mode;unfold stepG;obtain hm|hm:=h.calm;rw[hm]at e;simp only[hm,e];exact CO H M h hm main i A j N C;rw[hm]at e
 simp only[hm,e];unfold unwind;have m:=h.defers;cases n:f.defers with
 |nil=>
  rw[n]at m;cases k:F.defers with
  |cons=>rw[k]at m;cases m
  |nil=>
   simp only[hm,e];obtain⟨_,g,c,e1,I,_,O,E⟩:=H.ent _ h.ent;rw[h.fn];simp only[show(ah P fs).funcs=fs from rfl,e1,I];have q:∀t,results {g with body:=some (ia c)} t=results g t:=λ_=>rfl;simp only[q];have key:=pf (Pr:=Pr) (D0:=D0) (d:=d) (fs:=fs) h main i A (p hm n) (rF g h.tmps) C
    (gh:=λx w=>match x with| .stuck s=>.ended (.stuck s (f.pos (ah P fs))) w|_=>.ended (.stuck "return: the result variables cannot be read" (f.pos (ah P fs))) w)
    (GH:=λx w=>match x with| .stuck s=>.ended (.stuck s (F.pos P)) w|_=>.ended (.stuck "return: the result variables cannot be read" (F.pos P)) w)
    (λx w=>by cases x<;>exact⟨_,_,_,rfl⟩)
   refine dI.congr ?_ ?_ key;intro w;(generalize (results g f.tmps).runT (ah P fs) w #[]=r;obtain⟨r,es⟩:=r;cases r with|ok=>rfl|halt x=>cases x<;>rfl);funext B;rw[<-h.fn];generalize (results g F.tmps).runT P W #[]=r;obtain⟨r,es⟩:=r;cases r with|ok=>rfl|halt x=>cases x<;>rfl
 |cons D ds=>rw[n]at m;cases k:F.defers with|nil=>rw[k]at m;cases m|cons DD Q=>rw[k]at m;cases m with|cons T G=>cases T with| @mk r R U=>simp only[];obtain⟨L,J,V|⟨a,w',u,b,X,ev,v,Y,K,⟨rfl,rfl⟩,Z,z,h6⟩⟩:=(wo (S:=S) (P:=P) (fs:=fs) U).run (Pr:=Pr) w W #[] #[] d C;refine⟨L,J,.inl λτ o=>?_⟩;obtain⟨x,w',u,e1,I,e3⟩:=V τ o;simp only[e1];exact j9.after _ trivial;rw[Wa]at K;(have l:=h.mono z.le;have y:=G.mono λ_ _ x=>qp.mono z.le x;have hf:bj S v {f with defers:=ds} {F with defers:=Q}:=⟨l.fn,l.ent,l.tmps,l.todo,y,l.mode,l.calm,l.kind,l.Kind,l.round⟩);refine⟨L,J,.inr ⟨_,cs,w',seen (ah P fs) f.fn u++#[],_,CS,X,seen P F.fn ev++#[],v,λτ o=>?_,?_,Z,z,kG h6,A.mono λ_ _ x=>bj.mono z.le x,.inl hf,.inl rfl⟩⟩;simp only[Y τ o];rfl;intro B;simp only[K];rfl
end
def aG:Frame:={fn:=0,tmps:=#[],todo:=[.code (.refuse "")],defers:=[{target:=.nil,args:=#[]}],mode:=.run,kind:=.normal}
def Off(ch:List PanicEntry):Prop:=2<=ch.length
inductive AE(G:Nat):Machine->Prop
 |up {fr:Frame} {cs:List Frame} {w:x6} (π:Ren G) (v):fr.mode=.panicking [{v,recovered:=false}]->(∀f∈fr::cs,Marks π f)->Dp π w->(∀f∈cs,f.mode=.run\/f.mode=.returning)->AE G (lone fr (cs++[aG]) w)
 |low (ch) (w:x6):AE G (lone {aG with mode:=.panicking ch} [] w)
def Qe{G m}(h:AE G m){fr w}(e:m=lone fr [aG] w):fr.mode≠ .returning/\∀ch,Off ch->fr.mode≠ .panicking ch:=by cases h with| @up fr' cs w' π ch b _ _ _=>simp only[lone,Machine.mk.injEq]at e;have a:=e.2.1;simp at a;obtain⟨rfl,_⟩:=a;rw[b];refine⟨by simp,λch c e=>?_⟩;cases e;simp[Off]at c|low ch w'=>simp only[lone,Machine.mk.injEq]at e;have a:=e.2.1;simp at a
def EV(P r w)(h:∀o,w.heap[r]? =some (.deferred o)->o=none\/o=some []):((Instr.takeDeferred r).runT P w #[]).1=.ok [] {w with heap:=w.heap.setIfInBounds r (.deferred none)}\/∃x w',((Instr.takeDeferred r).runT P w #[]).1=.halt x w':=by unfold Instr.takeDeferred;cases a:w.heap[r]? with|none=>right;simp[getObj,bind,Sem.bind,Sem.run,a]|some o=>cases o with|deferred o=>obtain rfl|rfl:=h o a;right;simp[getObj,bind,Sem.bind,Sem.run,a,stuck];left;simp[getObj,bind,Sem.bind,Sem.run,a,setObj,pure]|_=>right;simp[getObj,bind,Sem.bind,Sem.run,a,stuck]
def KI{G P m}(h:AE G m):(∃o w,step P m=.ended o w)\/∃m',step P m=.next m'/\AE G m':=by
 cases h with
 |low ch w=>refine .inl ⟨_,_,step_lone_ended (o:=?_) (w':=w) ?_⟩;rotate_left;simp[stepG,unwind,callDeferred,aG,GStep.bare];rfl
 | @up fr cs w π v0 l n p a=>
  have g:=n fr (.head _);cases b:fr.defers with
  |nil=>
   by_cases d:fr.catches P=true
   .refine .inl ⟨_,_,step_lone_ended (o:=?_) (w':=w) ?_⟩;(rotate_left);simp[stepG,unwind,b,l,d,GStep.bare];rfl
   cases cs with|nil=>refine .inr ⟨_,step_lone_go (fr':={aG with mode:=.panicking [{v:=v0,recovered:=false}]}) (cs':=[]) (w':=w) ?_,.low _ w⟩;simp[stepG,unwind,b,l,d,GStep.bare,Frame.raise,aG]|cons c cs=>have s:=n c (.tail _ (.head _));refine .inr ⟨_,step_lone_go (fr':=c.raise [{v:=v0,recovered:=false}]) (cs':=cs++[aG]) (w':=w) ?_,?_⟩;simp[stepG,unwind,b,l,d,GStep.bare];(have e:c.raise [{v:=v0,recovered:=false}]={c with mode:=.panicking [{v:=v0,recovered:=false}]}:=by unfold Frame.raise;rcases a c (.head _)with x|x<;>rw[x]);rw[e];refine .up π v0 rfl (λf g=>?_) p λf g=>a f (.tail _ g);cases g with|head=>exact s|tail _ g=>exact n f (.tail _ (.tail _ g))
  |cons D ds=>obtain⟨r,R,rfl,t⟩:=g D (by rw[b];exact .head _);have j:=EV P r w λo i=>p r R o t i;obtain e|⟨x,w',e⟩:=j;refine .inr ⟨_,step_lone_go (fr':={fr with defers:=ds}) (cs':=cs++[aG]) (w':={w with heap:=w.heap.setIfInBounds r (.deferred none)}) ?_,?_⟩;simp only[stepG,l,unwind,b,e];rfl;refine .up π v0 l (λf k=>?_) ?_ a;(cases k with|head=>exactλD u=>g D (by rw[b];exact .tail _ u)|tail _ k=>exact n f (.tail _ k));intro y R' o q i;simp only[Vz]at i;split at i;split at i;cases i;exact .inl rfl;cases i;exact p y R' o q i;refine .inl ⟨_,_,step_lone_ended (o:=?_) (w':=w') ?_⟩;(rotate_left);simp only[stepG,l,unwind,b,e];rfl
def Ij{G P}:∀(n) {m},AE G m->∀{fr} {w},runN P n m=.next (lone fr [aG] w)->fr.mode≠ .returning/\∀ch,Off ch->fr.mode≠ .panicking ch:=by intro n;induction n with|zero=>intro m h fr w e;exact Qe h (by simpa[runN]using e)|succ n c=>(intro m h fr w e;unfold runN at e;rcases KI (P:=P) h with⟨o,w',a⟩|⟨d,a,b⟩);rw[a]at e;cases e;rw[a]at e;exact c b e
structure Gh where
 fr:Frame
 cs:List Frame
 w:x6
def Gh.AtE(c:Gh):Prop:=c.cs=[]/\c.fr.mode=.returning/\c.fr.defers=[]
def Gh.Flat(c:Gh):Prop:=∀b,(rb c.fr::c.cs.map rb).getLast?=some b->b=false
def Ends(P:Program)(Post:Zj->x6->Prop)(fr:Frame)(w':x6):Prop:=(∃v,fr.leaving P w' (.returned v)/\Post v w')\/∃ch,Off ch/\fr.mode=.panicking ch/\fr.defers=[]
def Ends.Ny{P Post fr w'}(h:Ends P Post fr w')(a:fr.mode≠ .returning/\∀ch,Off ch->fr.mode≠ .panicking ch):False:=by obtain⟨v,h,_⟩|⟨ch,b,h,_⟩:=h;exact a.1 h.1;exact a.2 ch b h
def sW{P a fr x xs w0 w' ch}(g:a.mode=.panicking ch)(i:a.defers=[]):∀{n},runN P (n+1) (lone a [aG] w0)=.next (lone fr (x::xs) w')->False:=by
 intro n h;unfold runN at h;by_cases b:a.catches P=true
 .have:∃o w2,step P (lone a [aG] w0)=.ended o w2:=by refine⟨_,_,step_lone_ended (o:=?_) (w':=w0) ?_⟩;rotate_left;simp[stepG,unwind,i,g,b,GStep.bare];rfl
  obtain⟨o,w2,c⟩:=this;rw[c]at h;cases h
 obtain⟨f,d⟩:=ex ({aG with mode:=.panicking ch});have c:step P (lone a [aG] w0)=.next (lone f [] w0):=by refine step_lone_go ?_;simp[stepG,unwind,i,g,b,GStep.bare,Frame.raise,aG,d]
 rw[c]at h;change runN P n (lone f [] w0)=_ at h;cases n with|zero=>have e:=Stepped.next.inj h;simp only[lone,Machine.mk.injEq]at e;have:=e.2.1;simp at this|succ n=>(unfold runN at h;have:∃o w2,step P (lone f [] w0)=.ended o w2:=by refine⟨_,_,step_lone_ended (o:=?_) (w':=w0) ?_⟩;rotate_left;simp[stepG,unwind,callDeferred,aG,GStep.bare,d];rfl);obtain⟨o,w2,c⟩:=this;rw[c]at h;cases h
def Gd(S:Kn)(P:Program)(Post:Zj->x6->Prop)(c:Gh):Prop:=(∀n,c.w.drawn<=n->S.gq (c.w.tape n))/\∀τ,(∀n<c.w.drawn,τ n=c.w.tape n)->(∀n,c.w.drawn<=n->S.gq (τ n))->∃n fr w',runN P n (lone c.fr (c.cs++[aG]) (au c.w τ c.w.drawn))=.next (lone fr [aG] w')/\Ends P Post fr w'
def Nx(S:Kn)(P:Program)(c c':Gh):Prop:=c.w.drawn<=c'.w.drawn/\(∀n,c.w.drawn<=n->S.gq (c'.w.tape n))/\(∀n<c.w.drawn,c'.w.tape n=c.w.tape n)/\∃es,∀τ,(∀n<c'.w.drawn,τ n=c'.w.tape n)->stepG P true ⟨c.fr,c.cs++[aG],.running,none,none⟩ (au c.w τ c.w.drawn)=.go ⟨c'.fr,c'.cs++[aG],.running,none,none⟩ (au c'.w τ c'.w.drawn) es
def Nx.step{S P c c'}(h:Nx S P c c'){τ}(a:∀n<c'.w.drawn,τ n=c'.w.tape n):step P (lone c.fr (c.cs++[aG]) (au c.w τ c.w.drawn))=.next (lone c'.fr (c'.cs++[aG]) (au c'.w τ c'.w.drawn)):=by obtain⟨_,_,_,es,b⟩:=h;exact step_lone_go (by rw[b τ a];rfl)
def jP{fr fr' cs cs' w w'}(h:lone fr cs w=lone fr' cs' w'):fr=fr'/\cs=cs'/\w=w':=by simp only[lone,Machine.mk.injEq]at h;obtain⟨b,a,_⟩:=h;simp at a;exact⟨a.1,a.2,b⟩
def Nz{P}{c:Gh}{fr w w' v}(h:lone c.fr (c.cs++[aG]) w=lone fr [aG] w')(a:fr.leaving P w' (.returned v)):c.AtE:=by obtain⟨rfl,b,_⟩:=jP h;obtain⟨d,e,_⟩:=a;exact⟨by simpa using b,d,e⟩
def AF{S P Post c c' fr w' τ}(f:Nx S P c c')(g:∀n<c'.w.drawn,τ n=c'.w.tape n)(h:¬c.AtE)(d:lone c.fr (c.cs++[aG]) (au c.w τ c.w.drawn)=lone fr [aG] w')(a:Ends P Post fr w'):False:=by obtain⟨v,a,_⟩|⟨ch,_,i,j⟩:=a;exact h (Nz d a);have b:=f.step g;(rw[d]at b;have:∃x xs,c'.cs++[aG]=x::xs:=by cases c'.cs<;>exact⟨_,_,rfl⟩);obtain⟨x,xs,e⟩:=this;rw[e]at b;refine sW (n:=0) i j (x:=x) (xs:=xs) (fr:=c'.fr) (w0:=w') (w':=au c'.w τ c'.w.drawn) (P:=P) ?_;unfold runN;rw[b];rfl
def Gd.next{S P Post c c'}(h:Gd S P Post c)(a:Nx S P c c')(i:¬c.AtE):Gd S P Post c':=by (refine⟨λn b=>a.2.1 n (UJ a.1 b),λτ e j=>?_⟩;have k:∀n<c.w.drawn,τ n=c.w.tape n:=λn d=>(e n (UL d a.1)).trans (a.2.2.1 n d);have l:∀n,c.w.drawn<=n->S.gq (τ n):=λn b=>by obtain x|x:=UK n c'.w.drawn;rw[e n x];exact a.2.1 n b;exact j n x);obtain⟨n,fr,w',f,g⟩:=h.2 τ k l;cases n with|zero=>exact(AF a e i (by simpa[runN]using f) g).elim|succ n=>unfold runN at f;rw[a.step e]at f;exact⟨n,fr,w',f,g⟩
def nh{c:Type}{r a}(h:¬Acc r a):∃f:Nat->c,f 0=a/\∀n,r (f (n+1)) (f n):=by (have b:∀x:{x:c//¬Acc r x},∃y:{x:c//¬Acc r x},r y.1 x.1:=by intro⟨x,i⟩;apply VV;intro d;refine i ⟨x,λy j=>?_⟩;exact VV λe=>d ⟨⟨y,e⟩,j⟩);let g:Nat->{x:c//¬Acc r x}:=λn=>Nat.rec ⟨a,h⟩ (λ_ x=>(b x).choose) n;refine⟨λn=>(g n).1,rfl,λn=>?_⟩;exact(b (g n)).choose_spec
def Gd.acc{S P Post c}(h:Gd S P Post c):Acc (λc' c=>Nx S P c c'/\¬c.AtE) c:=by (apply VV;intro s;obtain⟨f,z,g⟩:=nh s;have t:∀n k,(f n).w.drawn<=(f (n+k)).w.drawn:=by intro n k;induction k with|zero=>exact UI _|succ k j=>exact UJ j (g (n+k)).1.1);(have p:∀n k i,i<(f n).w.drawn->(f (n+k)).w.tape i=(f n).w.tape i:=by intro n k;induction k with|zero=>intro i _;rfl|succ k j=>intro i l;exact((g (n+k)).1.2.2.1 i (UL l (t n k))).trans (j i l));(have u:∀n m i,i<(f n).w.drawn->i<(f m).w.drawn->(f n).w.tape i=(f m).w.tape i:=by intro n m i r A;obtain hnm|hnm:=Nat.le_total n m;obtain⟨k,rfl⟩:=Xw hnm;exact(p n k i r).symm;obtain⟨k,rfl⟩:=Xw hnm;exact p m k i A);(let τ:Nat->Question->Nat:=λi=>open Classical in if h:∃n,i<(f n).w.drawn then(f h.choose).w.tape i elseλ_=>0);(have e:∀n i,i<(f n).w.drawn->τ i=(f n).w.tape i:=by (intro n i l;have d:∃n,i<(f n).w.drawn:=⟨n,l⟩);show(open Classical in if h:∃n,i<(f n).w.drawn then(f h.choose).w.tape i elseλ_=>0)=_;rw[Wz d];exact u _ _ i d.choose_spec l);(have o:∀n i,(f 0).w.drawn<=i->i<(f n).w.drawn->S.gq ((f n).w.tape i):=by intro n;induction n with|zero=>intro i a b;omega|succ n j=>intro i a b;obtain x|x:=UK i (f n).w.drawn;rw[(g n).1.2.2.1 i x];exact j i a x;exact(g n).1.2.1 i x);(have q:∀i,(f 0).w.drawn<=i->S.gq (τ i):=by intro i l;by_cases d:∃n,i<(f n).w.drawn;obtain⟨n,r⟩:=d;rw[e n i r];exact o n i l r;show S.gq (open Classical in if h:∃n,i<(f n).w.drawn then(f h.choose).w.tape i elseλ_=>0);rw[dif_neg d];exact mS);(subst z;obtain⟨N,fr,w',y,B⟩:=h.2 τ (e 0) q;have v:∀n k,runN P n (lone (f k).fr ((f k).cs++[aG]) (au (f k).w τ (f k).w.drawn))=.next (lone (f (k+n)).fr ((f (k+n)).cs++[aG]) (au (f (k+n)).w τ (f (k+n)).w.drawn)):=by intro n;induction n with|zero=>intro k;rfl|succ n j=>intro k;unfold runN;rw[(g k).1.step (e (k+1))];have:=j (k+1);rw[show k+1+n=k+(n+1) by omega]at this;exact this);have:=v N 0;rw[UR]at this;rw[this]at y;exact AF (g N).1 (e (N+1)) (g N).2 (Stepped.next.inj y) B
def Gd.ends{S P Post c}(h:Gd S P Post c)(y:c.AtE)(k:c.fr.kind=.normal):∃v,c.fr.leaving P c.w (.returned v)/\Post v c.w:=by (obtain⟨n,fr,w',d,q⟩:=h.2 c.w.tape (λ_ _=>rfl) h.1;obtain⟨a,z,w0⟩:=c;obtain⟨t,j,l⟩:=y;simp only[]at t j l k d;subst t;have d:runN P n (lone a [aG] w0)=.next (lone fr [aG] w'):=d);cases n with|zero=>obtain⟨rfl,_,rfl⟩:=jP (Stepped.next.inj d);obtain q|⟨ch,_,u,_⟩:=q;exact q;rw[j]at u;cases u|succ n=>(exfalso;have f:∀n w1,runN P n (lone aG [] w1)≠ .next (lone fr [aG] w'):=by intro n w1;cases n with|zero=>intro e;have:=(jP (Stepped.next.inj e)).2.1;simp at this|succ n=>(intro e;unfold runN at e;have:∃o w2,step P (lone aG [] w1)=.ended o w2:=by refine⟨_,_,step_lone_ended (o:=?_) (w':=w1) ?_⟩;rotate_left;simp[stepG,stepG.exec,aG,GStep.bare];rfl);obtain⟨o,w2,m⟩:=this;rw[m]at e;cases e);(unfold runN at d;have i:(∃o w2,step P (lone a [aG] w0)=.ended o w2)\/∃w1,step P (lone a [aG] w0)=.next (lone aG [] w1):=by cases p:P.funcs[a.fn]? with|none=>refine .inr ⟨w0,step_lone_go ?_⟩;simp[stepG,unwind,doReturn,j,l,k,p,Frame.finish,aG,GStep.bare]|some g=>cases b:(results g a.tmps).runT P w0 #[]with|mk r es=>cases r with|ok v w1=>refine .inr ⟨w1,step_lone_go ?_⟩;simp only[stepG,unwind,doReturn,j,l,k,p,b];rfl|halt x w1=>cases x with|stuck s=>refine .inl ⟨_,_,step_lone_ended (o:=?_) (w':=w1) ?_⟩;rotate_left;simp only[stepG,unwind,doReturn,j,l,k,p,b];rfl|_=>refine .inl ⟨_,_,step_lone_ended (o:=?_) (w':=w1) ?_⟩;rotate_left;simp only[stepG,unwind,doReturn,j,l,k,p,b];rfl);obtain⟨o,w2,m⟩|⟨w1,m⟩:=i;rw[m]at d;cases d;rw[m]at d;exact f n w1 d
section
variable {S:Kn} {P:Program} {fs:Array Func} {Pr:Nat->Prop} {π:Ren P.globals.size} {W:x6}
def EW{L}(a:∀g∈L,S.gq g)(d n):S.gq (mm d L n):=by unfold mm;cases h:L[n-d]? with|none=>exact mS|some g=>exact a g (VC h)
def pW{L}(a:∀g∈L,S.gq g){d}{t:Nat->Question->Nat}:∀n,d<=n->S.gq ((λn=>if n<d then t n else mm d L n) n):=λn b=>by show S.gq (if n<d then t n else mm d L n);rw[UG (by omega)];exact EW a d n
def KJ{c c':Gh}(h:c.Flat)(d:Sh (rb c.fr::c.cs.map rb) (rb c'.fr::c'.cs.map rb)):c'.Flat:=by unfold Gh.Flat at*;intro b a;obtain e|⟨x,e⟩|⟨x,e⟩:=d;rw[e]at a;exact h b a;rw[e]at a;refine h b ?_;simpa using a;refine h b ?_;rw[e];rw[YI];exact a
def follow(O:Tab S P fs)(Q:∀g,S.dF g=true->π g g){Post c F CS}(h:bj S π c.fr F)(R:bp (bj S π) c.cs CS)(T:bt S Pr π c.w W)(b:c.Flat) (J:Gd S (ah P fs) Post c) (m:¬c.AtE) (U:S.calm (W.tape W.drawn)) (f):∃(c':Gh) (z:Frame) (j:List Frame) (q:x6) (ev:Array Event) (a:Ren P.globals.size),Nx S (ah P fs) c c'/\Gd S (ah P fs) Post c'/\(∀B,stepG P f ⟨F,CS++B,.running,none,none⟩ W=.go ⟨z,j++B,.running,none,none⟩ q ev)/\bt S Pr a c'.w q/\Chg Pr π W q a/\(∀e∈ev,lO Pr a e)/\bp (bj S a) c'.cs j/\KG S P fs a c'.cs c'.fr z/\c'.Flat:=by
 have k:c.fr.roundOf≠none->c.cs≠[]:=by intro l D;have:=b (rb c.fr) (by rw[D];rfl);unfold rb at this;cases hx:c.fr.roundOf<;>simp_all
 have s:c.fr.mode=.returning->c.fr.defers=[]->c.cs≠[]:=λV X Y=>m ⟨Y,V,X⟩;obtain⟨L,K,Z|⟨fr',cs',w',es,z,j,q,ev,a,g1,g2,g3,g4,g5,g6,g7,g8⟩⟩:=CP (D0:=[aG]) (d:=c.w.drawn) O Q h true f R k s U T;exfalso;let τ:Nat->Question->Nat:=λn=>if n<c.w.drawn then c.w.tape n else mm c.w.drawn L n
 have E:Fits τ c.w.drawn L:=λi g A=>by show(if c.w.drawn+i<c.w.drawn then _ else _)=g;rw[UG (by omega)];exact lP c.w.drawn L i g A
 obtain⟨n,fr,w',l,C⟩:=J.2 τ (λn G=>UH G) (pW K);have p:j9 P.globals.size [aG] (stepG (ah P fs) true ⟨c.fr,c.cs++[aG],.running,none,none⟩ (au c.w τ c.w.drawn)):=Z τ E;cases n with
 |zero=>obtain⟨v,C,_⟩|⟨ch,_,hm,_⟩:=C;exact m (Nz (Stepped.next.inj l) C);have t:=h.calm;rw[(jP (Stepped.next.inj l)).1,hm]at t;rcases t with x|x<;>cases x
 |succ n=>unfold runN at l;generalize u:stepG (ah P fs) true ⟨c.fr,c.cs++[aG],.running,none,none⟩ (au c.w τ c.w.drawn)=r at p;cases r with|ended o w2 H=>rw[step_lone_ended (by rw[u];rfl)]at l;cases l|go g w2 H=>obtain⟨I,aa,e1,M,e3,e4,⟨ch,e5⟩,e6,e7,e8⟩:=p;obtain⟨gf,gc,gs,gd,go⟩:=g;simp only[]at e1 M e3 e4 e5 e6;subst e1 M e3 e4;rw[step_lone_go (by rw[u];rfl)]at l;exact C.Ny (Ij n (.up I ch e5 e6 e7 e8) l)|_=>exact p
 let τ:Nat->Question->Nat:=λn=>if n<c.w.drawn then c.w.tape n else mm c.w.drawn L n
 have N:Nx S (ah P fs) c ⟨fr',cs',au w' τ (c.w.drawn+L.length)⟩:=by (refine⟨Yq _ _,pW K,λn G=>UH G,es,λy h'=>?_⟩;have hf:Fits y c.w.drawn L:=λi g A=>by have ab:=(Vt.1 A).1;rw[h' (c.w.drawn+i) (show c.w.drawn+i<c.w.drawn+L.length by omega)];show(if c.w.drawn+i<c.w.drawn then _ else _)=g;rw[UG (by omega)];exact lP c.w.drawn L i g A);exact g1 y hf
 exact⟨⟨fr',cs',au w' τ (c.w.drawn+L.length)⟩,z,j,q,ev,a,N,J.next N m,g2,g3.heap rfl rfl,g4,g5,g6,g7,KJ b g8⟩
end
def EX{S P Post f args w}(b:∀n,w.drawn<=n->S.gq (w.tape n)) (h:∀τ,(∀n<w.drawn,τ n=w.tape n)->(∀n,w.drawn<=n->S.gq (τ n))->Calls P f args (au w τ w.drawn) λe w'=>∃v,e=.returned v/\Post v w'):Gd S P Post ⟨Frame.enter P f args .normal,[],w⟩:=by refine⟨b,λτ c a=>?_⟩;obtain⟨e,w',fr,⟨v,rfl,d⟩,g,_,i⟩:=h τ c a [aG];obtain⟨n,j⟩:=g;exact⟨n,fr,w',j,.inl ⟨v,i,d⟩⟩
def CQ{S P Post f args w}(d:∀n,w.drawn<=n->S.gq (w.tape n)) (h:∀τ,(∀n<w.drawn,τ n=w.tape n)->Calls P f args (au w τ w.drawn) λe w'=>(∃v,e=.returned v/\Post v w')\/∃ch,Off ch/\e=.panicked ch):Gd S P Post ⟨Frame.enter P f args .normal,[],w⟩:=by refine⟨d,λτ g _=>?_⟩;obtain⟨e,w',fr,i,c,_,a⟩:=h τ g [aG];obtain⟨v,rfl,j⟩|⟨ch,k,rfl⟩:=i;obtain⟨n,b⟩:=c;exact⟨n,fr,w',b,.inl ⟨v,a,j⟩⟩;obtain⟨n,b⟩:=c;exact⟨n,fr,w',b,.inr ⟨ch,k,a.1,a.2.1⟩⟩
section
variable {S:Kn} {P:Program} {fs:Array Func} {Pr:Nat->Prop}
structure Cp(S:Kn)(P:Program)(fs:Array Func)(Pr:Nat->Prop)(Post:Zj->x6->Prop)(π:Ren P.globals.size)(c:Gh)(F:Frame)(CS:List Frame)(W:x6):Prop where
 top:bj S π c.fr F
 cs:bp (bj S π) c.cs CS
 w:bt S Pr π c.w W
 flat:c.Flat
 rG:Gd S (ah P fs) Post c
 dF:∀g,S.dF g=true->π g g
def Cp.step(p:Tab S P fs)(i:∀f,S.stop f=false){Post π c F CS W}(h:Cp S P fs Pr Post π c F CS W)(j:¬c.AtE)(q:S.calm (W.tape W.drawn))(main):∃(c':Gh) (l:Frame) (d:List Frame) (k:x6) (ev:Array Event) (b:Ren P.globals.size),(Nx S (ah P fs) c c'/\¬c.AtE)/\Cp S P fs Pr Post b c' l d k/\(∀B,stepG P main ⟨F,CS++B,.running,none,none⟩ W=.go ⟨l,d++B,.running,none,none⟩ k ev)/\Chg Pr π W k b/\∀e∈ev,lO Pr b e:=by obtain⟨c',l,d,k,ev,b,r,s,t,u,n,v,x,m,y⟩:=follow p h.dF h.top h.cs h.w h.flat h.rG j q main;refine⟨c',l,d,k,ev,b,⟨r,j⟩,⟨?_,x,u,y,s,λg z=>n.le _ _ (h.dF g z)⟩,t,n,v⟩;obtain m|⟨_,g,a,A,o,_⟩:=m;exact m;rw[i g]at o;cases o
def Cp.Rz(m:Tab S P fs)(a:∀f,S.stop f=false)(b:∀g,S.calm g){Post π c F CS W}(h:Cp S P fs Pr Post π c F CS W):∃(π':Ren P.globals.size) (c':Gh) (n:Frame) (k:x6) (v:Zj),Cp S P fs Pr Post π' c' n [] k/\c'.AtE/\Post v c'.w/\c'.fr.leaving (ah P fs) c'.w (.returned v)/\Chg Pr π W k π':=by have d:=h.rG.acc;induction d generalizing π F CS W with|intro c _ o=>by_cases j:c.AtE;obtain⟨v,p,q⟩:=h.rG.ends j h.top.kind;have e:=h.cs;rw[j.1]at e;cases e;exact⟨π,c,F,W,v,h,j,q,p,Chg.refl _ _ _⟩;obtain⟨c',E,r,k,ev,π',s,t,_,i,_⟩:=h.step m a j (b _) true;obtain⟨l,u,x,y,v,z,A,B,C,D⟩:=o c' s t;exact⟨l,u,x,y,v,z,A,B,C,i.trans D⟩
def Gd.au{S P Post c}(h:Gd S P Post c){τ:Nat->Question->Nat}(f:∀n<c.w.drawn,τ n=c.w.tape n)(g:∀n,c.w.drawn<=n->S.gq (τ n)):Gd S P Post ⟨c.fr,c.cs,au c.w τ c.w.drawn⟩:=⟨g,λa b d=>h.2 a (λn e=>(b n e).trans (f n e)) d⟩
def Cp.returns(z:Tab S P fs){Post π c F CS W}(h:Cp S P fs Pr Post π c F CS W)(r:c.AtE)(C B main):CS=[]/\∃(v V:Zj) (w' m:x6) (ev:Array Event) (f:Ren P.globals.size),Post v w'/\w'.heap=c.w.heap/\stepG P main ⟨F,C::B,.running,none,none⟩ W=.go ⟨C.finish V,B,.running,none,none⟩ m ev/\aw f v V/\bt S Pr f w' m/\Chg Pr π W m f/\∀e∈ev,lO Pr f e:=by
 have o:=h.cs;rw[r.1]at o;refine⟨by cases o;rfl,?_⟩;obtain⟨_,g,A,e1,D,_,_,_⟩:=z.ent _ h.top.ent;have s:=rF (S:=S) (P:=P) (fs:=fs) g h.top.tmps;obtain⟨L,E,G|⟨a,w',t,b,m,ev,f,H,y,I,J,K,M⟩⟩:=s.run (Pr:=Pr) c.w W #[] #[] c.w.drawn h.w;all_goals
  let τ:Nat->Question->Nat:=λn=>if n<c.w.drawn then c.w.tape n else mm c.w.drawn L n
  have p:Fits τ c.w.drawn L:=λi g N=>by show(if c.w.drawn+i<c.w.drawn then _ else _)=g;rw[UG (by omega)];exact lP c.w.drawn L i g N
  have u:∀n<c.w.drawn,τ n=c.w.tape n:=λn O=>UH O;obtain⟨v,⟨_,_,_,g',k,j⟩,Q⟩:=(h.rG.au u (pW E)).ends r h.top.kind;simp only[show(ah P fs).funcs=fs from rfl]at k;rw[e1]at k;cases k;rw[show results {g with body:=some (ia A)} c.fr.tmps=results g c.fr.tmps from rfl]at j;have d:((results g c.fr.tmps).runT (ah P fs) (au c.w τ c.w.drawn) #[]).1=.ok v (au c.w τ c.w.drawn):=by rw[<-j];simp
 obtain⟨x,w',t,e,_⟩:=G τ p;rw[e]at d;cases d;rw[H τ p]at d;simp only[Result.ok.injEq]at d;obtain⟨rfl,R⟩:=d;rw[Wa]at y;refine⟨a,b,au c.w τ c.w.drawn,m,seen P F.fn ev++#[],f,Q,rfl,?_,I,?_,K,kG M⟩;have l:=h.top.mode.trans r.2.1;have q:F.defers=[]:=by have:=h.top.defers;rw[r.2.2]at this;cases T:F.defers with|nil=>rfl|cons=>rw[T]at this;cases this
 have U:P.funcs[F.fn]? =some g:=by rw[h.top.fn];exact D
 simp only[stepG,unwind,l,q,U,y,pd _ _ _ _ _ _ _ h.top.Kind];rfl;refine J.heap ?_ rfl;rw[<-R];rfl
end
section
variable {S:Kn} {P:Program} {fs:Array Func}
structure Eff(Own:Nat->Prop)(W W':x6):Prop where
 os:W'.os=W.os
 tape:W'.tape=W.tape
 output:W'.output=W.output
 size:W.heap.size<=W'.heap.size
 keep:∀b,b<W.heap.size->¬Own b->W'.heap[b]? =W.heap[b]?
def Eff.refl(Own W):Eff Own W W:=⟨rfl,rfl,rfl,UI _,λ_ _ _=>rfl⟩
structure iV(S:Kn)(P:Program)(fs:Array Func)(π₀:Ren P.globals.size)(F0 wB:x6)(Post:Zj->x6->Prop)(πA πB:Ren P.globals.size)(cA cB:Gh)(F:Frame)(CS:List Frame)(W:x6):Prop where
 a:Cp S P fs (λR=>∃r,π₀ r R) Post πA cA F CS W
 b:Cp S P fs (λ_=>False) (λ_ w'=>∀r R,π₀ r R->w'.heap[r]? =wB.heap[r]?) πB cB F CS W
 la:Ren.le π₀ πA
 lb:Ren.le π₀ πB
 base:∀r R,π₀ r R->∃c C e F,wB.heap[r]? =some (.cells c e F)/\F0.heap[R]? =some (.cells C e F)
 old:∀r R,π₀ r R->W.heap[R]? =F0.heap[R]?
 same:∀R,(∃r,πA r R)↔∃r,πB r R
def iV.Own(a c:Ren P.globals.size)(b:Nat):Prop:=(∃r,c r b)/\¬∃r,a r b
def wQ{π Pr Post c F CS W}(h:Cp S P fs Pr Post π c F CS W):c.AtE↔CS=[]/\F.mode=.returning/\F.defers=[]:=by (unfold Gh.AtE;have a:c.cs=[]↔CS=[]:=by have:=h.cs.length;exact⟨λe=>by rw[e]at this;exact Vx this.symm,λe=>by rw[e]at this;exact Vx this⟩);(have b:c.fr.defers=[]↔F.defers=[]:=by have:=h.top.defers.length;exact⟨λe=>by rw[e]at this;exact Vx this.symm,λe=>by rw[e]at this;exact Vx this⟩);rw[a,b,h.top.mode]
def AG{R0 a b n}(d:Fle R0 a)(c:Fle a b)(f:J1 n R0 b):a=R0:=by (refine Fle.back d ?_;have:b=R0:=by obtain e|⟨e1,g,e3⟩:=f;exact e;obtain e|⟨h,i⟩:=d.trans c;exact e;refine Prod.ext ?_ ?_<;>omega);rw[this]at c;exact c
def iV.step(V:Tab S P fs)(j:∀f,S.stop f=false)(k:∀g,S.calm g){d l X p wB Post T cB F CS W} (h:iV S P fs d p wB Post l X T cB F CS W) (A:¬T.AtE) (main):∃(πA' m:Ren P.globals.size) (q D:Gh) (U:Frame) (t:List Frame) (u:x6) (ev:Array Event),(Nx S (ah P fs) T q/\¬T.AtE)/\iV S P fs d p wB Post πA' m q D U t u/\(∀B,stepG P main ⟨F,CS++B,.running,none,none⟩ W=.go ⟨U,t++B,.running,none,none⟩ u ev)/\Eff (iV.Own d l) W u/\(∀b,iV.Own d l b->iV.Own d πA' b)/\(∀b,iV.Own d πA' b->iV.Own d l b\/W.heap.size<=b)/\(∀b,W.heap.size<=b->b<u.heap.size->iV.Own d πA' b)/\(∀e∈ev,lO (λR=>∃r,d r R) πA' e)/\Chg (λR=>∃r,d r R) l W u πA':=by (have J:¬cB.AtE:=by rw[wQ h.b];rw[wQ h.a]at A;exact A);(obtain⟨q,U,t,u,ev,πA',a1,a2,a3,n,a5⟩:=h.a.step V j A (k _) main;obtain⟨D,ad,af,W2,ag,m,b1,Y,K,I,b5⟩:=h.b.step V j J (k _) main;have K:=K [];rw[a3 []]at K;simp only[GStep.go.injEq,Goroutine.mk.injEq]at K;obtain⟨⟨e1,e2,_⟩,e3,_⟩:=K;have Z:=List.append_cancel_right e2;subst e1;subst Z;subst e3;have y:∀r R,d r R->u.heap[R]? =p.heap[R]? :=by intro r R i;obtain⟨c,C,e,z,hb,hW⟩:=h.base r R i;obtain⟨F',E⟩:=n.oD R ⟨r,i⟩ C e z (by rw[h.old r R i,hW]);obtain⟨C1,F1,G,aa⟩:=I.fz R C e z (by rw[h.old r R i,hW]);rw[E]at G;simp only[Vw,Obj.cells.injEq,Xx]at G;obtain⟨rfl,rfl⟩:=G;obtain⟨ak,c2,F2,We,v,g1,g2,g3,g4,g5⟩:=Y.Rz V j k;obtain⟨C2,Fe,ab,L⟩:=g5.fz R C e F' E;obtain⟨o,O,ho,hO,M⟩:=g1.w.obj r R (g5.le _ _ (I.le _ _ (h.lb _ _ i)));rw[g3 r R i,hb]at ho;rw[ab]at hO;cases ho;cases hO;cases M with|cells _ _ hf=>rw[E,hW,AG aa L hf]);(have H:∀R,(∃r,πA' r R)↔∃r,m r R:=by intro R;constructor;rintro⟨r,i⟩;obtain x|x:=n.old r R i;obtain⟨s,hs⟩:=(h.same R).1 ⟨r,x⟩;exact⟨s,I.le _ _ hs⟩;exact I.new R x (a2.w.lt i).2;rintro⟨r,i⟩;obtain x|x:=I.old r R i;obtain⟨s,hs⟩:=(h.same R).2 ⟨r,x⟩;exact⟨s,n.le _ _ hs⟩;exact n.new R x (Y.w.lt i).2);(have N:∀b,iV.Own d l b->iV.Own d πA' b:=λb ⟨⟨r,i⟩,Q⟩=>⟨⟨r,n.le _ _ i⟩,Q⟩);refine⟨πA',m,q,D,U,t,u,ev,a1,⟨a2,Y,Ren.le_trans h.la n.le,Ren.le_trans h.lb I.le,h.base,y,H⟩,a3,⟨n.os,n.tape,n.output,n.size,λb hb Q=>?_⟩,N,λb ⟨⟨r,i⟩,Q⟩=>?_,λb h1 h2=>?_,a5,n⟩;by_cases hp:∃r,l r b;have:∃r,d r b:=VV λhx=>Q ⟨hp,hx⟩;obtain⟨r,i⟩:=this;rw[y r b i,h.old r b i];exact n.keep b hb hp;obtain x|x:=n.old r b i;exact .inl ⟨⟨r,x⟩,Q⟩;exact .inr x;refine⟨n.new b h1 h2,λ⟨r,i⟩=>?_⟩;have:=(h.a.w.lt (h.la _ _ i)).2;omega
end
def Rw{a}:Result a->x6
 | .ok _ w=>w
 | .halt _ w=>w
def Rt{b}(τ:Nat->Question->Nat):Result b->Result b
 | .ok a w=>.ok a (au w τ w.drawn)
 | .halt h w=>.halt h (au w τ w.drawn)
def jA(es:Array Event):Prop:=∀e∈es,e.loc≠ .output
def Agr(w:x6)(d:Nat)(τ:Nat->Question->Nat):Prop:=∀n,w.drawn<=n->n<d->τ n=w.tape n
def NA{f}(P)(s:Sem f):∀(w) (es),∀e∈es,e∈(s.runT P w es).2:=by
 induction s with
 |pure a=>exactλw es e b=>b
 |load m a k d=>intro w es e b;simp only[Sem.runT];cases w.cell? a with|some v=>exact d v w _ e (WS _ b)|none=>simp only[];cases w.farLoad P a (m== .atomic)with|ok r=>exact d r.1 w _ e (Yu _ b)|error h=>exact b
 |store m a v k d=>intro w es e b;cases v with|agg=>exact b|tuple=>exact b|_=>simp only[Sem.runT];cases w.cell? a with|some v=>simp only[];split;exact b;exact d _ _ e (WS _ b)|none=>simp only[];split;exact d _ _ e (Yu _ b);exact b
 |new o k d=>exactλw es=>d _ _ _
 |shape r k d=>exactλw es=>d _ _ _
 |freeze a n k d=>exactλw es=>d _ _
 |frozen a k d=>exactλw es=>d _ _ _
 |getObj r k d=>intro w es e b;simp only[Sem.runT];split;exact b;exact d _ _ _ e (WS _ b);exact b
 |setObj r o k d=>intro w es e b;simp only[Sem.runT];split;exact b;exact d _ _ e (WS _ b);exact b
 |choose q k d=>intro w es e b;simp only[Sem.runT];split;exact d _ _ _ e b;exact d _ _ _ e b
 |sys c k d=>exactλw es e b=>d _ _ _ e (WS _ b)
 |program k d=>exactλw es=>d _ _ _
 |mark m k d=>exactλw es e b=>d _ _ e (WS _ b)
 |halt h=>exactλw es e b=>b
def xX{P}{w w1:x6}{a v m as}(h:w.farStore P a v m=.ok (w1,as)):w1.drawn=w.drawn/\w1.tape=w.tape:=by have:=gG P w w.tape w.drawn a v m;rw[show au w w.tape w.drawn=w from rfl,h]at this;simp only[Except.map,Except.ok.injEq,XX,and_true]at this;rw[this];exact⟨rfl,rfl⟩
def KL{z}(P)(s:Sem z):∀(w) (es),jA (s.runT P w es).2->w.drawn<=(Rw (s.runT P w es).1).drawn/\(Rw (s.runT P w es).1).tape=w.tape/\∀τ,Agr w (Rw (s.runT P w es).1).drawn τ->s.runT P (au w τ w.drawn) es=(Rt τ (s.runT P w es).1,(s.runT P w es).2):=by
 induction s with
 |pure a=>exactλw es _=>⟨UI _,rfl,λτ _=>rfl⟩
 |load m a k d=>intro w es h;simp only[Sem.runT,show ∀τ,(au w τ w.drawn).cell? a=w.cell? a fromλ_=>rfl,show ∀τ,(au w τ w.drawn).farLoad P a (m== .atomic)=w.farLoad P a (m== .atomic)fromλ_=>rfl]at h⊢;cases i:w.cell? a with|some v=>simp only[i]at h⊢;exact d v w _ h|none=>simp only[i]at h⊢;cases j:w.farLoad P a (m== .atomic)with|ok r=>simp only[j]at h⊢;exact d r.1 w _ h|error e=>exact⟨UI _,rfl,λτ _=>rfl⟩
 |store m a v k d=>
  intro w es h;by_cases f:(∀c,v≠ .agg c)/\(∀c,v≠ .tuple c);case neg=>cases v<;>first|exact⟨UI _,rfl,λτ _=>rfl⟩|exact absurd ⟨by simp,by simp⟩ f
  have key:∀w:x6,(Sem.store m a v k).runT P w es=match w.cell? a with
   |some _=>if w.frozen? a=true then(.halt (.unsupported (.unsafePointer "a write to bytes that a string shares")) w,es)else k.runT P (w.setCell a v) (es.push ⟨.cell a,true,m== .atomic⟩)
   |none=>match w.farStore P a v (m== .atomic)with
    | .ok (w',as)=>k.runT P w' (es++as.toArray.map (⟨.cell ·,true,m== .atomic⟩))
    | .error h=>(.halt h w,es):=by
   intro w;cases v<;>first|rfl|exact absurd rfl (f.1 _)|exact absurd rfl (f.2 _)
  simp only[key,show ∀τ,(au w τ w.drawn).cell? a=w.cell? a fromλ_=>rfl,show ∀τ,(au w τ w.drawn).frozen? a=w.frozen? a fromλ_=>rfl,gG]at h⊢;cases i:w.cell? a with|some B=>simp only[i]at h⊢;split;exact⟨UI _,rfl,λτ _=>rfl⟩;rename_i A;simp only[UG A]at h;exact d (w.setCell a v) _ h|none=>simp only[i]at h⊢;cases j:w.farStore P a v (m== .atomic)with|ok r=>obtain⟨w1,as⟩:=r;simp only[j,Except.map]at h⊢;obtain⟨e1,y⟩:=xX j;obtain⟨t,l,p⟩:=d w1 _ h;refine⟨by omega,l.trans y,λτ g=>?_⟩;have:=p τ (λn a b=>by rw[y];exact g n (by omega) b);rw[e1]at this;exact this|error e=>simp only[j,Except.map];exact⟨UI _,rfl,λτ _=>rfl⟩
 |new o k d=>exactλw es h=>d _ {w with heap:=w.heap.push o} es h
 |shape r k d=>exactλw es h=>d _ w es h
 |freeze a n k d=>(intro w es h;have e:(w.freeze a n).drawn=w.drawn/\(w.freeze a n).tape=w.tape:=by unfold World.freeze;split<;>exact⟨rfl,rfl⟩);obtain⟨t,l,p⟩:=d (w.freeze a n) es h;refine⟨by simp only[Sem.runT];omega,l.trans e.2,λτ g=>?_⟩;simp only[Sem.runT,qu]at g⊢;have:=p τ (λn a b=>by rw[e.2];exact g n (by omega) b);rw[e.1]at this;exact this
 |frozen a k d=>exactλw es h=>d _ w es h
 |getObj r k d=>intro w es h;simp only[Sem.runT,show ∀τ,(au w τ w.drawn).heap[r]? =w.heap[r]? fromλ_=>rfl]at h⊢;cases u:w.heap[r]? with|none=>exact⟨UI _,rfl,λτ _=>rfl⟩|some o=>cases o<;>simp only[u]at h⊢<;>first|exact d _ w _ h|exact⟨UI _,rfl,λτ _=>rfl⟩
 |setObj r o k d=>intro w es h;simp only[Sem.runT,show ∀τ,(au w τ w.drawn).heap[r]? =w.heap[r]? fromλ_=>rfl]at h⊢;cases u:w.heap[r]? with|none=>exact⟨UI _,rfl,λτ _=>rfl⟩|some o'=>cases o'<;>simp only[u]at h⊢<;>first|exact d {w with heap:=w.heap.setIfInBounds r o} _ h|exact⟨UI _,rfl,λτ _=>rfl⟩
 |choose q k d=>intro w es h;simp only[Sem.runT]at h⊢;split;rename_i x;simp only[UH x]at h;exact d 0 w es h;rename_i x;simp only[UG x]at h;obtain⟨t,l,p⟩:=d _ {w with drawn:=w.drawn+1} es h;refine⟨UJ (Nat.le_succ _) t,l,λτ g=>?_⟩;have e:=g w.drawn (UI _) t;have:=p τ (λn a b=>g n (Nat.le_of_succ_le a) b);simp only[au]at this⊢;rw[e];exact this
 |sys c k d=>intro w es h;exact absurd rfl (h _ (NA P (k (w.sys c).1) (w.sys c).2 (es.push ⟨.output,true,false⟩) ⟨.output,true,false⟩ Array.mem_push_self))
 |program k d=>exactλw es h=>d _ w es h
 |mark m k d=>exactλw es h=>d w _ h
 |halt h=>exactλw es _=>⟨UI _,rfl,λτ _=>rfl⟩
end Go.Tm
namespace Go.Tm
structure lx(P:Program):Prop where
 norace:∀f:Nat,(P.funcs[f]?).any (λx:Func=>x.norace)=false
 follows:P.follows .staticDataAhead=true
 stepOf:∀g,P.stepOf g=none
variable {P:Program}
def xY(g:lx P)(fn es)(h:jA (seen P fn es)):jA es:=by (obtain⟨l⟩:=es;unfold seen at h;simp only[g.norace,List.foldl_toArray']at h;have key:∀(l:List Event) (k:Array Event),jA (l.foldl (λ(x:Bool×Array Event) e=>match e.loc with| .mark (.extern f)=>(false,x.2)|_=>(x.1,if x.1&& !e.sync then x.2 else x.2.push e)) (false,k)).2->jA k/\∀e∈l,e.loc≠ .output:=by intro l;induction l with|nil=>exactλk h=>⟨h,by simp⟩|cons e l d=>intro k h;rw[XW]at h;split at h;rename_i f b;obtain⟨a,c⟩:=d k h;refine⟨a,λx hx=>?_⟩;obtain rfl|hx:=U8.1 hx;rw[b];simp;exact c x hx;simp only[XY,U7,U5]at h;obtain⟨a,c⟩:=d (k.push e) h;refine⟨λx hx=>a x (WS _ hx),λx hx=>?_⟩;obtain rfl|hx:=U8.1 hx;exact a x Array.mem_push_self;exact c x hx);exactλe b=>(key l #[] h).2 e (by simpa using b)
def bG(f:x6->GStep):Prop:=∀w g' w' es,f w=.go g' w' es->g'.dying=none->g'.status=.running->jA es->w.drawn<=w'.drawn/\w'.tape=w.tape/\∀τ,Agr w w'.drawn τ->f (au w τ w.drawn)=.go g' (au w' τ w'.drawn) es
def iN(r:GStep):Prop:=∀g' w' es,r=.go g' w' es->g'.dying=none->g'.status=.running->False
def bG.go(g es):bG (λw=>.go g w es):=by intro w g' w' a h _ _ _;cases h;exact⟨UI _,rfl,λ_ _=>rfl⟩
def bG.no{f:x6->GStep}(h:∀w,iN (f w)):bG f:=λw g' w' es e a b _=>(h w g' w' es e a b).elim
def iN.ended(o w es):iN (.ended o w es):=λ_ _ _ h=>by cases h
def bG.sem(F:lx P){t}(s:Sem t)(fn)(k:Result t->Array Event->Array Event)(K:Result t->GStep) (u:∀a,(∀w es,k (.ok a w) es=seen P fn es)/\bG (λw=>K (.ok a w))) (H:∀h,(∀w,iN (K (.halt h w)))\/((∀w es,k (.halt h w) es=seen P fn es)/\bG (λw=>K (.halt h w)))):bG (λw=>GStep.after (k (s.runT P w #[]).1 (s.runT P w #[]).2) (K (s.runT P w #[]).1)):=by (intro w g' w' es h v y G;dsimp only at h⊢;have z:∃es0,K (s.runT P w #[]).1=.go g' w' es0/\es=k (s.runT P w #[]).1 (s.runT P w #[]).2++es0:=by cases j:K (s.runT P w #[]).1<;>rw[j]at h<;>simp only[GStep.after]at h<;>cases h;exact⟨_,rfl,rfl⟩);obtain⟨es0,j,rfl⟩:=z;have l:jA es0:=λe A=>G e (Array.mem_append_right _ A);have c:jA (k (s.runT P w #[]).1 (s.runT P w #[]).2):=λe A=>G e (Yu _ A);have d:=KL P s w #[];cases m:s.runT P w #[]with|mk r o=>rw[m]at j c d;cases r with|ok a w1=>obtain⟨f,B⟩:=u a;rw[f]at c;obtain⟨g,i,p⟩:=d (xY F fn o c);obtain⟨k1,C,D⟩:=B w1 g' w' es0 j v y l;simp only[Rw]at g i p;refine⟨UJ g k1,C.trans i,λτ q=>?_⟩;have e1:=p τ (λn a b=>q n a (UL b k1));have E:=D τ (λn a b=>by rw[i];exact q n (UJ g a) b);simp only[e1,Rt,f,GStep.after,E]|halt x w1=>obtain f|⟨f,B⟩:=H x;exact(f w1 g' w' es0 j v y).elim;rw[f]at c;obtain⟨g,i,p⟩:=d (xY F fn o c);obtain⟨k1,C,D⟩:=B w1 g' w' es0 j v y l;simp only[Rw]at g i p;refine⟨UJ g k1,C.trans i,λτ q=>?_⟩;have e1:=p τ (λn a b=>q n a (UL b k1));have E:=D τ (λn a b=>by rw[i];exact q n (UJ g a) b);simp only[e1,Rt,f,GStep.after,E]
def bG.run(q)(K:Result Nat->GStep)(c:∀a,bG (λw=>K (.ok a w)))(m:∀h,bG (λw=>K (.halt h w))):bG (λw=>K ((choose q).run P w)):=by intro w g' w' es h d f g;dsimp only at h⊢;simp only[choose,Sem.run,pure]at h⊢;by_cases i:q.forced=true;simp only[UH i]at h⊢;exact c 0 w g' w' es h d f g;simp only[UG i]at h⊢;obtain⟨k1,k,l⟩:=c _ {w with drawn:=w.drawn+1} g' w' es h d f g;refine⟨UJ (Nat.le_succ _) k1,k,λτ j=>?_⟩;have e:=j w.drawn (UI _) k1;have:=l τ (λn a b=>j n (Nat.le_of_succ_le a) b);simp only[au]at this⊢;rw[e];exact this
end Go.Tm
namespace Go.Tm
section
variable {G:Nat}
def idR(G)(B:Nat->Prop):Ren G:=⟨λr R=>r=R/\B r,λ_ _ _ h a=>h.1.symm.trans a.1,λ_ _ _ h a=>h.1.trans a.1.symm,λ_ _ h=>by rw[h.1]⟩
theorem mf(π:Ren G):∀V,∃v,aw π v V
 | .bool b=>⟨_,.bool b⟩
 | .int k n=>⟨_,.int k n⟩
 | .float k b=>⟨_,.float k b⟩
 | .complex k a b=>⟨_,.complex k a b⟩
 | .string s=>⟨_,.string s⟩
 | .pointer none=>⟨_,.JZ⟩
 | .pointer (some a)=>⟨_,.mR _ rfl⟩
 | .slice none l c=>⟨_,.iT l c⟩
 | .slice (some a) l c=>⟨_,.mR _ rfl⟩
 | .map none=>⟨_,.Mv⟩
 | .map (some r)=>⟨_,.mR _ rfl⟩
 | .chan none=>⟨_,.Sm⟩
 | .chan (some r)=>⟨_,.mR _ rfl⟩
 | .func (.method n) f c=>⟨_,.J0 n f c⟩
 | .func (.func g) f c=>⟨_,.mR _ rfl⟩
 | .func (.methodOf t n) f c=>⟨_,.mR _ rfl⟩
 | .func (.via t p g b) f c=>⟨_,.mR _ rfl⟩
 | .func (.yield l) f c=>⟨_,.mR _ rfl⟩
 | .nilFunc=>⟨_,.nilFunc⟩
 | .iface t v=>⟨_,.mR _ rfl⟩
 | .nilIface=>⟨_,.nilIface⟩
 | .agg cs=>by
  have h:∀i:Nat,∃v,∀x,cs[i]? =some x->aw π v x:=λi=>by
   by_cases e:i<cs.size
   .obtain⟨v,m⟩:=mf π cs[i]
    exact⟨v,λx d=>by rw[Va e]at d;cases d;exact m⟩
   .exact⟨.bool false,λx d=>by rw[Wk (by omega)]at d;cases d⟩
  refine⟨.agg (Array.ofFn λi:Fin cs.size=>(h i).choose),.agg (by simp) λi x X d j=>?_⟩;have e:=(UO.1 j).1;simp only[Array.getElem?_ofFn,e,Wz,Vw]at d;subst d;exact(h i).choose_spec X j
 | .tuple cs=>by
  have h:∀i:Nat,∃v,∀x,cs[i]? =some x->aw π v x:=λi=>by
   by_cases e:i<cs.size
   .obtain⟨v,m⟩:=mf π cs[i]
    exact⟨v,λx d=>by rw[Va e]at d;cases d;exact m⟩
   .exact⟨.bool false,λx d=>by rw[Wk (by omega)]at d;cases d⟩
  refine⟨.tuple (Array.ofFn λi:Fin cs.size=>(h i).choose),.tuple (by simp) λi x X d j=>?_⟩;have e:=(UO.1 j).1;simp only[Array.getElem?_ofFn,e,Wz,Vw]at d;subst d;exact(h i).choose_spec X j
noncomputable def mask(π:Ren G)(V:Zj):Zj:=open Classical in if aw π V V then V else match V with
 | .slice (some _) 0 0=>.slice (some ⟨0,0,some 0⟩) 0 0
 |_=>(mf π V).choose
def Oa(π:Ren G)(V):aw π (mask π V) V:=by unfold mask;split;assumption;split;exact .qZ _;exact(mf π V).choose_spec
def jl{π:Ren G}{V}(h:aw π V V):mask π V=V:=UH h
def IB(π:Ren G)(c):∃b,mask π (.slice c 0 0)=.slice b 0 0:=by cases c with|none=>exact⟨none,jl (.iT _ _)⟩|some a=>unfold mask;split;exact⟨_,rfl⟩;exact⟨_,rfl⟩
noncomputable def kI(π:Ren G)(fz:Prop):Obj->Obj
 | .cells c e f=>.cells (c.map (mask π)) e (open Classical in if fz then(0,max f.2 (c.size+1))else f)
 |o=>o
noncomputable def dg(π:Ren G)(fz:Nat->Prop)(W:x6):x6:={W with heap:=(Array.range W.heap.size).map λb=>kI π (fz b) (W.heap[b]?.getD default)}
def gi(π:Ren G)(fz W b):(dg π fz W).heap[b]? =(W.heap[b]?).map (kI π (fz b)):=by unfold dg;simp only[Vk,Array.getElem?_range];by_cases a:b<W.heap.size;simp[a];simp[a]
def lE(π:Ren G)(fz W):(dg π fz W).heap.size=W.heap.size:=by simp[dg]
def kT{S B Pr W}(d:∀b,B b->∃o,W.heap[b]? =some o/\((∃c e f,o=.cells c e f)\/(¬Pr b/\(∀c e f,o≠ .cells c e f)/\fV S (idR G B) o o)))(g:∀b,Pr b->B b)(p:G<=W.heap.size)(j:∃c e f,W.heap[0]? =some (.cells c e f)):bt S Pr (idR G B) (dg (idR G B) Pr W) W:=by refine⟨λr R h=>?_,λr R h k=>?_,λR h=>?_,by rw[lE];exact p,p,by obtain⟨c,e,f,j⟩:=j;rw[gi,j];exact⟨_,_,_,rfl⟩⟩;obtain⟨rfl,l⟩:=h;obtain⟨o,a,m⟩:=d r l;refine⟨kI (idR G B) (Pr r) o,o,by rw[gi,a];rfl,a,?_⟩;obtain⟨c,e,f,rfl⟩|⟨k,n,q⟩:=m;unfold kI;refine .cells e (aY.mj λi=>?_) ?_;rw[Vk];(cases s:c[i]? with|none=>exact .none|some x=>exact .some (Oa _ x));split;refine .inr ⟨rfl,?_,?_⟩;simp only[Wq];omega;simp only[];omega;exact .inl rfl;(cases o<;>first|exact absurd rfl (n _ _ _)|exact q);obtain⟨rfl,l⟩:=h;obtain⟨o,a,m⟩:=d r l;obtain⟨c,e,f,rfl⟩|⟨n,_⟩:=m;refine⟨c.map (mask (idR G B)),e,(0,max f.2 (c.size+1)),?_,rfl,?_⟩;rw[gi,a];simp[kI,k];simp only[Wq];omega;exact absurd k n;obtain⟨o,a,_⟩:=d R (g R h);exact(UO.1 a).1
end
section
variable {S:Kn} {P:Program} {fs:Array Func} {π:Ren P.globals.size}
def Oi{a A}(h:VsR π a A):(SR S (ah P fs) P) VQ π (Extern.AbiNoEscape.same a) (Extern.AbiNoEscape.same A):=by have b:=h.toList;obtain⟨a⟩:=a;obtain⟨A⟩:=A;simp only[]at b;cases b with|nil=>exact aj|cons c b=>cases b with|nil=>exact ai c|cons=>exact aj
def wJ(n):∀{π:Ren P.globals.size} {a A} (acc),aS π a A->(SR S (ah P fs) P) EqQ π (Extern.Bytes.loadBytes a n acc) (Extern.Bytes.loadBytes A n acc):=by
 induction n with
 |zero=>intro π a A acc h;exact ai rfl
 |succ n b=>
  intro π a A acc h;unfold Extern.Bytes.loadBytes;refine(rW h).bind ?_;intro c d v V e;cases e with
  |int k n=>cases k<;>first|exact b _ ((h.mono d).add 1)|exact aj
  |_=>exact aj
def nX{x X}(h:aw π x X):(SR S (ah P fs) P) EqQ π (Extern.Bytes.bytesOf x) (Extern.Bytes.bytesOf X):=by cases h with|string=>exact ai rfl|iT=>exact ai rfl|slice l c h=>exact wJ _ _ h|qZ A=>exact ai rfl|_=>exact aj
def A6{x X}(h:aw π x X):(SR S (ah P fs) P) EqQ π (Extern.Bytes.asByte x) (Extern.Bytes.asByte X):=by
 cases h with
 |int k n=>cases k<;>first|exact ai rfl|exact aj
 |_=>exact aj
def Dh{a A}(h:VsR π a A):(SR S (ah P fs) P) VQ π (Extern.BytealgIndexByte.indexByte a) (Extern.BytealgIndexByte.indexByte A):=by have d:=h.toList;obtain⟨a⟩:=a;obtain⟨A⟩:=A;simp only[]at d;cases d with|nil=>exact aj|cons e d=>cases d with|nil=>exact aj|cons f d=>cases d with|cons=>exact aj|nil=>refine(nX e).bind ?_;rintro g i b _ rfl;refine(A6 (f.mono i)).bind ?_;rintro j k c _ rfl;split<;>exact ai (.int _ _)
def Oj{a A}(h:VsR π a A):(SR S (ah P fs) P) VQ π (Extern.BytealgCount.count a) (Extern.BytealgCount.count A):=by have d:=h.toList;obtain⟨a⟩:=a;obtain⟨A⟩:=A;simp only[]at d;cases d with|nil=>exact aj|cons e d=>cases d with|nil=>exact aj|cons f d=>cases d with|cons=>exact aj|nil=>refine(nX e).bind ?_;rintro g i b _ rfl;refine(A6 (f.mono i)).bind ?_;rintro j k c _ rfl;exact ai (.int _ _)
def yE:∀(n t) (acc),bn acc->bn (Extern.BytealgMakeNoZero.digits n t acc):=by intro n;induction n with|zero=>exactλ_ _ h=>h|succ n a=>exactλt acc h=>a _ _ (h.push (kP _ _))
def zO(f e){a A}(h:VsR π a A):(SR S (ah P fs) P) VQ π (Extern.BytealgMakeNoZero.makeNoZero f e a) (Extern.BytealgMakeNoZero.makeNoZero f e A):=by
 have c:=h.toList;obtain⟨a⟩:=a;obtain⟨A⟩:=A;simp only[]at c;cases c with
 |nil=>exact aj
 |cons g c=>
 cases c with
 |cons=>exact aj
 |nil=>
 cases g with
 |int k n=>(cases k<;>first|exact aj|skip);unfold Extern.BytealgMakeNoZero.makeNoZero;cases e[0]? with|none=>exact aj|some t=>(refine(aA t).bind ?_;rintro i q d _ ⟨rfl,_⟩;cases d<;>first|exact aj|skip);refine de (.never (aB (aE _))) ?_;refine(eK _).bind ?_;rintro j r cap _ rfl;refine(rn _).bind ?_;intro l s _ _ _;refine(eK _).bind ?_;rintro m u b _ rfl;refine(jc _ (fM (yE _ _ _ .empty))).bind ?_;intro o v a A p;exact ai (.slice _ _ p)
 |_=>exact aj
def zP(a:∀g,S.dF g=true->π g g)(n)(b:∀g,P.globals.findIdx? (·.name==n)=some g->S.dF g=true):(SR S (ah P fs) P) AQ π (globalAddr n) (globalAddr n):=by unfold globalAddr;refine cu.bind ?_;rintro c d _ _ ⟨rfl,rfl⟩;rw[show(ah P fs).globals=P.globals from rfl];cases h:P.globals.findIdx? (·.name==n)with|none=>exact aj|some g=>exact ai (.mk (d _ _ (a g (b g h))))
def Li(k:∀g,S.dF g=true->π g g)(l:∀g,P.globals.findIdx? (·.name== "internal/bytealg.MaxLen")=some g->S.dF g=true){a A}(h:VsR π a A):(SR S (ah P fs) P) VQ π (Extern.BytealgIndex.index a) (Extern.BytealgIndex.index A):=by have d:=h.toList;obtain⟨a⟩:=a;obtain⟨A⟩:=A;simp only[]at d;cases d with|nil=>exact aj|cons n d=>cases d with|nil=>exact aj|cons o d=>cases d with|cons=>exact aj|nil=>(refine(nX n).bind ?_;rintro p j b _ rfl;refine(nX (o.mono j)).bind ?_;rintro f q c _ rfl;have e:(SR S (ah P fs) P) EqQ f Extern.BytealgIndex.maxLen Extern.BytealgIndex.maxLen:=by unfold Extern.BytealgIndex.maxLen;refine(zP (λg r=>q _ _ (j _ _ (k g r))) _ l).bind ?_;intro i s x X t;refine(rW t).bind ?_;intro u y v V w;exact jM w);refine e.bind ?_;rintro i s m _ rfl;refine de (.never (aB (.halt _))) ?_;refine de (.never (aB (.halt _))) ?_;split<;>exact ai (.int _ _)
end
end Go.Tm
namespace Go.Tm
variable {P:Program}
def bG.ended(f:x6->Outcome×x6×Array Event):bG (λw=>.ended (f w).1 (f w).2.1 (f w).2.2):=bG.no λw=>iN.ended _ _ _
def xZ(fr a m b w):iN (dieOf fr a m b w):=by intro g' w' es h c _;unfold dieOf at h;cases h;cases c
def qQ(fr m w):iN (endThrow fr m w):=xZ _ _ _ _ _
def zI(fr cs d m w):iN (endFatal P fr cs d m w):=by unfold endFatal;dsimp only;split;exact xZ _ _ _ _ _;exact iN.ended _ _ _;exact iN.ended _ _ _
def Ik(a:lx P)(fr cs d g w):iN (early P fr cs d g w):=by unfold early;simp only[a.follows,a.stepOf,Wx,U7,U5];exact iN.ended _ _ _
def nQ(main fr cs v)(a:fr.kind=.normal):bG (λw=>doReturn P main fr cs none v w):=by unfold doReturn;cases cs with|cons c cs=>simp only[a];exact bG.go _ _|nil=>simp only[a];cases main with|false=>exact bG.go _ _|true=>simp only[Wx,U7,U5];cases P.inits.idxOf? fr.fn with|some k=>exact bG.go _ _|none=>exact bG.ended λw=>(.done v,w,_)
def pg(p f):seen p f #[]=#[]:=rfl
def JA{b}:Result b->Sem b
 | .ok a _=>.pure a
 | .halt h _=>.halt h
def KM{a}(r:Result a):(JA r).runT P (Rw r) #[]=(r,#[]):=by cases r<;>rfl
def kQ(r):GStep.after #[] r=r:=by cases r<;>simp[GStep.after]
def bG.congr{f g:x6->GStep}(h:∀w,f w=g w)(a:bG g):bG f:=by rw[funext h];exact a
def ji{r}(h:iN r):iN (GStep.after #[] r):=by rw[kQ];exact h
def kR(f:lx P)(fr cs s)(i:fr.kind=.normal):bG (λw=>stepG.apply P true fr cs none s w):=by
 have b:(fr.kind==CallKind.early)=false:=by rw[i];rfl
 refine bG.congr (λw=>?_) (bG.sem f s fr.fn (λr es=>seen P fr.fn (match r with| .halt .blocked _| .halt .waiting _| .halt (.unsupported (.initOrder _)) _=>#[]|_=>es)) (λr=>stepG.apply P true fr cs none (JA r) (Rw r)) ?_ ?_);unfold stepG.apply;simp only[UW,b,U7,U5,KM];generalize s.runT P w #[]=j;obtain⟨r,es⟩:=j;dsimp only;obtain⟨a,w1⟩|⟨h,w1⟩:=r;simp only[pg,kQ];cases h with|unsupported u=>cases u<;>simp only[pg,kQ]|_=>simp only[pg,kQ]
 .intro a
  refine⟨λw es=>rfl,?_⟩;unfold stepG.apply;simp only[UW,b,U7,U5,JA,Rw,Sem.runT,pg,kQ];cases a with
  |callThen d r k wr=>dsimp only;split<;>exact bG.go _ _
  |row r args=>dsimp only;split<;>exact bG.go _ _
  |stack r k=>dsimp only;split<;>exact bG.go _ _
  |recover=>dsimp only;split<;>exact bG.go _ _
  |spawn d=>(refine bG.no λw=>?_;dsimp only;repeat' split);all_goals first|exact qQ _ _ _|exactλ_ _ _ h=>by cases h
  |_=>first|exact bG.go _ _|exact bG.no λw _ _ _ h=>by cases h
 intro h
 unfold stepG.apply;simp only[UW,b,U7,U5,JA,Rw,Sem.runT,pg,kQ];cases h with
 |panic v=>exact .inr ⟨λw es=>rfl,bG.go _ _⟩
 |goexit=>exact .inr ⟨λw es=>rfl,bG.go _ _⟩
 |blocked=>exact .inl λw g' w' es h _ e=>by cases h;cases e
 |waiting=>exact .inl λw g' w' es h _ e=>by cases h;cases e
 |exit c=>exact .inl λw=>ji (iN.ended _ _ _)
 |fatal m=>exact .inl λw=>ji (zI _ _ _ _ _)
 |throw m=>exact .inl λw=>ji (qQ _ _ _)
 |unsupported u=>cases u with|initOrder g=>exact .inl λw=>ji (Ik f _ _ _ _ _)|_=>exact .inl λw=>ji (iN.ended _ _ _)
 |stuck m=>exact .inl λw=>ji (iN.ended _ _ _)
def NB(a:lx P)(fr cs)(b:fr.kind=.normal):bG (λw=>stepG.oper P true fr cs none w):=by unfold stepG.oper;cases fr.oper? with|none=>exact bG.no λw=>iN.ended _ _ _|some o=>dsimp only;split;exact kR a fr cs _ b;exact kR a fr cs _ b
def bG.NC(d:lx P){c F}(s:Sem c)(fn)(K:Result c->GStep)(e:∀w,F w=GStep.after (seen P fn (s.runT P w #[]).2) (K (s.runT P w #[]).1)) (b:∀a,bG (λw=>K (.ok a w))) (f:∀h,bG (λw=>K (.halt h w))):bG F:=
 bG.congr e (bG.sem d s fn (λ_ es=>seen P fn es) K (λa=>⟨λ_ _=>rfl,b a⟩) λh=>.inr ⟨λ_ _=>rfl,f h⟩)
def KN(b:lx P)(main:Bool)(fr:Frame)(cs:List Frame)(c:fr.kind=.normal)(jump:Option Code):bG (λw=>match fr.roundOf with
 |none=>if jump matches none|some .ret then GStep.go {frame:={fr with mode:=.returning},callers:=cs,status:=.running,dying:=none} w else GStep.ended (.stuck "exit, goto: no such block or label" (fr.pos P)) w
 |some l=>GStep.after (seen P fr.fn ((Instr.endRound l jump).runT P w #[]).2) (match((Instr.endRound l jump).runT P w #[]).1 with
  | .ok v w=>doReturn P main fr cs none v w
  | .halt _ w=>GStep.ended (.stuck "range over a function: no such loop" (fr.pos P)) w)):=by
 cases fr.roundOf with
 |none=>
  dsimp only;split
  .simp only[UW];exact bG.go _ _
  .simp only[UW];exact bG.go _ _
  .simp only[U7,U5];exact bG.no λw=>iN.ended _ _ _
 |some l=>
  exact bG.NC b (Instr.endRound l jump) fr.fn (λr=>match r with
   | .ok v w=>doReturn P main fr cs none v w
   | .halt _ w=>GStep.ended (.stuck "range over a function: no such loop" (fr.pos P)) w) (λw=>rfl) (λa=>nQ main fr cs a c) λh=>bG.no λw=>iN.ended _ _ _
def ND(n:lx P)(main fr cs)(m:fr.kind=.normal):bG (λw=>stepG.exec P main true fr cs none w):=by
 have j:=λfr m jump=>KN n main fr cs m jump;obtain⟨fn,tmps,todo,defers,mode,kind,g⟩:=fr;unfold stepG.exec;cases todo with
 |nil=>exact j _ m none
 |cons x k=>
  cases x with
  |code c=>
   cases c with
   |ret=>exact j _ m (some .ret)
   |skip=>exact bG.go _ _
   |label=>exact bG.go _ _
   |seq=>exact bG.go _ _
   |cond c a b=>dsimp only;generalize Frame.eval _ c=v;cases v<;>first|exact bG.go _ _|exact bG.no λw=>iN.ended _ _ _
   |block=>exact bG.go _ _
   |loop=>exact bG.go _ _
   |scope=>exact bG.go _ _
   |exit o=>dsimp only;cases exitTo o k with|none=>exact j _ m (some (.exit o))|some q=>exact bG.go _ _
   |goto l=>dsimp only;cases gotoIn l k with|none=>exact j _ m (some (.goto l))|some q=>exact bG.go _ _
   |rangeFunc f params assign body=>
    exact bG.NC n (Instr.enterLoop fn tmps params assign body g) fn (λr=>match r with
     | .ok (l,mark) w=>stepG.apply P true ⟨fn,tmps,.inRangeFunc l::k,mark++defers,mode,kind,g⟩ cs none (do let d <-resolve (⟨fn,tmps,.inRangeFunc l::k,mark++defers,mode,kind,g⟩:Frame).eval {callee:=.value f,args:=#[.const (.func (.yield l) #[] #[])],argTypes:=#[]} 0;invoke d.target d.args) w
     | .halt _ w=>GStep.ended (.stuck "range over a function: no such loop" (Frame.pos P ⟨fn,tmps,.code (.rangeFunc f params assign body)::k,defers,mode,kind,g⟩)) w) (λw=>rfl) (λa=>kR n _ cs _ m) λh=>bG.no λw=>iN.ended _ _ _
   |refuse=>exact bG.no λw=>iN.ended _ _ _
   |region o ops p=>
    dsimp only;cases p with
    |false=>exact bG.go _ _
    |true=>
     exact bG.run (P:=P) (.order fn o) (λr=>match r with
      | .ok t w=>GStep.go {frame:=⟨fn,tmps,.inRegion ops (Region.schedule (P.follows .mixedOrders) ops t)::k,defers,mode,kind,g⟩,callers:=cs,status:=.running,dying:=none} w
      | .halt _ w=>GStep.ended (.stuck "order" (Frame.pos P ⟨fn,tmps,.code (.region o ops true)::k,defers,mode,kind,g⟩)) w) (λa=>bG.go _ _) λh=>bG.no λw=>iN.ended _ _ _
  |inBlock=>exact bG.go _ _
  |inLoop=>exact bG.go _ _
  |inScope=>exact bG.go _ _
  |inRegion ops l=>cases l with|nil=>exact bG.go _ _|cons i rest=>dsimp only;split;exact NB n _ cs m;exact bG.go _ _
  |call d b r s=>exact kR n _ cs _ m
  |extern row args=>dsimp only;cases Extern.next row with|none=>exact bG.no λw=>iN.ended _ _ _|some e=>exact kR n _ cs _ m
  |inRangeFunc=>exact bG.no λw=>iN.ended _ _ _
  |beginRound=>exact kR n _ cs _ m
  |endRangeFunc l=>
   exact bG.NC n (Instr.endLoop l) fn (λr=>match r with
    | .ok jump w=>GStep.go {frame:=⟨fn,tmps,(jump.map Item.code).toList++k,defers,mode,kind,g⟩,callers:=cs,status:=.running,dying:=none} w
    | .halt (.panic v) w=>GStep.go {frame:=Frame.raise ⟨fn,tmps,.endRangeFunc l::k,defers,mode,kind,g⟩ [{v,recovered:=false}],callers:=cs,status:=.running,dying:=none} w
    | .halt _ w=>GStep.ended (.stuck "range over a function: no such loop" (Frame.pos P ⟨fn,tmps,.endRangeFunc l::k,defers,mode,kind,g⟩)) w) (λw=>rfl) (λa=>bG.go _ _) λh=>by cases h<;>first|exact bG.go _ _|exact bG.no λw=>iN.ended _ _ _
def Il(c:lx P)(main fr cs)(d:fr.kind=.normal)(f:∀D∈fr.defers,∃r,D=⟨.collected r,#[]⟩)(e:fr.mode=.returning):bG (λw=>unwind P main fr cs none w):=by
 obtain⟨fn,tmps,todo,defers,mode,kind,b⟩:=fr;unfold unwind;cases defers with
 |cons D ds=>
  obtain⟨r,rfl⟩:=f D (.head _);exact bG.NC c (Instr.takeDeferred r) fn (λx=>match x with
   | .ok calls w=>GStep.go {frame:=⟨fn,tmps,todo,calls++ds,mode,kind,b⟩,callers:=cs,status:=.running,dying:=none} w
   | .halt _ w=>GStep.ended (.stuck "the deferred calls of a range-over-func loop have been taken" (Frame.pos P ⟨fn,tmps,todo,⟨.collected r,#[]⟩::ds,mode,kind,b⟩)) w) (λw=>rfl) (λa=>bG.go _ _) λh=>bG.no λw=>iN.ended _ _ _
 |nil=>
  simp only at e;subst e;dsimp only;cases j:P.funcs[fn]? with
  |none=>exact nQ main _ cs _ d
  |some g=>
   refine bG.NC c (results g tmps) fn (λx=>match x with
    | .ok v w=>doReturn P main ⟨fn,tmps,todo,[],.returning,kind,b⟩ cs none v w
    | .halt (.stuck s) w=>GStep.ended (.stuck s (Frame.pos P ⟨fn,tmps,todo,[],.returning,kind,b⟩)) w
    | .halt _ w=>GStep.ended (.stuck "return: the result variables cannot be read" (Frame.pos P ⟨fn,tmps,todo,[],.returning,kind,b⟩)) w) (λw=>?_) (λa=>nQ main _ cs a d) λh=>?_
   dsimp only;generalize (results g tmps).runT P w #[]=i;obtain⟨r,es⟩:=i;obtain⟨a,w1⟩|⟨h,w1⟩:=r;rfl;cases h<;>rfl;cases h<;>exact bG.no λw=>iN.ended _ _ _
def vl(b:lx P)(main){fr cs}(c:fr.kind=.normal)(d:∀D∈fr.defers,∃r,D=⟨.collected r,#[]⟩)(f:fr.mode=.run\/fr.mode=.returning){w w' g' es} (h:stepG P main ⟨fr,cs,.running,none,none⟩ w=.go g' w' es) (a:g'.dying=none) (g:g'.status=.running) (i:jA es):w.drawn<=w'.drawn/\w'.tape=w.tape/\∀τ,Agr w w'.drawn τ->stepG P main ⟨fr,cs,.running,none,none⟩ (au w τ w.drawn)=.go g' (au w' τ w'.drawn) es:=by (have key:bG (λw=>stepG P main ⟨fr,cs,.running,none,none⟩ w):=by unfold stepG;obtain e|e:=f;simp only[e];exact ND b main fr cs c;simp only[e];exact Il b main fr cs c d e);exact key w g' w' es h a g i
end Go.Tm
namespace Go.Tm
def vn{Pr G}{π:Ren G}{es}(h:∀e∈es,lO Pr π e):jA es:=by intro e a b;have:=h e a;unfold lO at this;rw[b]at this;exact this
def CR{G}{π:Ren G}{d D}(h:bp (qp π) d D):∀x∈D,∃r,x=⟨.collected r,#[]⟩:=by induction h with|nil=>simp|cons h _ b=>intro x hx;cases h with|mk a=>obtain rfl|hx:=U8.1 hx;exact⟨_,rfl⟩;exact b x hx
section
variable {S:Kn} {P:Program} {fs:Array Func} {Pr:Nat->Prop}
def Cp.calm{Post π c F CS W}(h:Cp S P fs Pr Post π c F CS W):F.kind=.normal/\(∀x∈F.defers,∃r,x=⟨.collected r,#[]⟩)/\(F.mode=.run\/F.mode=.returning):=⟨h.top.Kind,CR h.top.defers,by rw[h.top.mode];exact h.top.calm⟩
def Cp.run(x:Tab S P fs)(y:lx P)(i:∀f,S.stop f=false){Post π c F CS W}(h:Cp S P fs Pr Post π c F CS W)(u:∀n,W.drawn<=n->S.calm (W.tape n)):∃(j:Ren P.globals.size) (c':Gh) (v:Frame) (k:x6) (n:Nat),Cp S P fs Pr Post j c' v [] k/\c'.AtE/\Chg Pr π W k j/\W.drawn<=k.drawn/\∀B τ,Agr W k.drawn τ->runN P n (lone F (CS++B) (au W τ W.drawn))=.next (lone v B (au k τ k.drawn)):=by have l:=h.rG.acc;induction l generalizing π F CS W with|intro c _ z=>by_cases p:c.AtE;have m:=h.cs;rw[p.1]at m;cases m;exact⟨π,c,F,W,0,h,p,Chg.refl _ _ _,UI _,λB τ _=>rfl⟩;obtain⟨c',N,A,k,ev,j,C,D,q,e,r⟩:=h.step x i p (u _ (UI _)) true;(have d:=h.calm;have g:∀B,_:=λB=>vl y true d.1 d.2.1 d.2.2 (q B) rfl rfl (vn r);have s:=(g []).1;obtain⟨t,E,G,H,n,I,J,K,w,L⟩:=z c' C D λn M=>by rw[e.tape];exact u n (UJ s M));refine⟨t,E,G,H,n+1,I,J,e.trans K,UJ s w,λB τ o=>?_⟩;unfold runN;rw[step_lone_go (by rw[(g B).2.2 τ λn a b=>o n a (UL b w)];rfl)];exact L B τ λn a b=>by rw[e.tape];exact o n (UJ s a) b
end
def EY{P fr x xs w'}:∀n w1,runN P n (lone aG [] w1)≠ .next (lone fr (x::xs) w'):=by intro n w1;cases n with|zero=>intro e;have:=(jP (Stepped.next.inj e)).2.1;simp at this|succ n=>(intro e;unfold runN at e;have:∃o w2,step P (lone aG [] w1)=.ended o w2:=by refine⟨_,_,step_lone_ended (o:=?_) (w':=w1) ?_⟩;rotate_left;simp[stepG,stepG.exec,aG,GStep.bare];rfl);obtain⟨o,w2,a⟩:=this;rw[a]at e;cases e
def gone{P a fr x xs w0 w' v}(b:a.leaving P w0 (.returned v)){n}(h:runN P (n+1) (lone a [aG] w0)=.next (lone fr (x::xs) w')):False:=by unfold runN at h;rw[step_leave_returned b]at h;exact EY n w0 h
def gZ(P){a n m m1 m2}(c:runN P a m=.next m1)(b:runN P n m=.next m2)(d:a<=n):runN P (n-a) m1=.next m2:=by (have:n=a+(n-a):=by omega);rw[this,runN_add,c]at b;exact b
section
variable {S:Kn} {P:Program} {fs:Array Func}
end
end Go.Tm

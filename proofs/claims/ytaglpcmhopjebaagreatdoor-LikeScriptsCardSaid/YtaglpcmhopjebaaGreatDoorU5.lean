import Derived.ProofKit
import Derived.Test.YtaglpcmhopjebaaGreatDoorU4
set_option linter.all false
set_option maxRecDepth 100000
set_option maxHeartbeats 20000000
namespace Go.Tm
def He(g:Func):Prop:=g.name= "" /\g.origin= "" /\g.body=none
def He.find{g}(h:He g):Extern.find g=none:=by (unfold Extern.find;have a:List.lookup "" Extern.allGenericRows=none:=by kernel_rfl);(have b:List.lookup "" Extern.allTypedRows=none:=by kernel_rfl);(have c:List.lookup "" Extern.allRows=none:=by kernel_rfl);simp only[h.1,h.2.1,a,b,c];rfl
def He.findNext{g}(h:He g):Extern.findNext g=none:=by (unfold Extern.findNext;have a:List.lookup "" Extern.allNextRows=none:=by kernel_rfl);simp only[h.1,h.2.1,a];rfl
def oG(v)(h:fR v=true):Plain v:=by
 intro G π
 match v with
 | .bool _=>exact .bool _
 | .int .. =>exact .int _ _
 | .float .. =>exact .float _ _
 | .complex .. =>exact .complex _ _ _
 | .string _=>exact .string _
 | .pointer none=>exact .JG
 | .slice none _ _=>exact .iL _ _
 | .map none=>exact .L0
 | .chan none=>exact .RF
 | .nilFunc=>exact .nilFunc
 | .nilIface=>exact .nilIface
 | .tuple c=>(have e:c=#[]:=by simpa[fR]using h);rw[e];exact aA.tuple' .empty
 | .iface .. =>simp[fR]at h
 | .agg _=>simp[fR]at h
 | .func .. =>simp[fR]at h
 | .pointer (some _)=>simp[fR]at h
 | .slice (some _) _ _=>simp[fR]at h
 | .map (some _)=>simp[fR]at h
 | .chan (some _)=>simp[fR]at h
inductive NxR(S:Kn){G:Nat}(π:Ren G):Next->Next->Prop
 |value {v V:Value}:aA π v V->NxR S π (.value v) (.value V)
 |skip:NxR S π .skip .skip
 |enter (f:FuncId) {a A:Array Value}:S.stop f=true\/S.ent f=true->(S.stop f=true->a.size=1)->VsR π a A->NxR S π (.enter f a) (.enter f A)
 |round {l L:Nat} (f:FuncId) {t T:Array Value} (as body:Code):S.ent f=true->π l L->VsR π t T->S.code as->S.code body->NxR S π (.round l f t as body) (.round L f T as body)
structure Tab(S:Kn)(P:Program)(fs:Array Func):Prop where
 zero:dJ P
 size:fs.size=P.funcs.size
 bad:P.underlying qG=none
 xE:S.dF 0=true
 ent:∀f,S.ent f=true->S.stop f=false/\∃g c,fs[f]? =some {g with body:=some (gS c)}/\P.funcs[f]? =some g/\g.name≠ "runtime.NumGoroutine" /\g.body=some c/\iO S c=true
 stop:∀f,S.stop f=true->f=kD/\∃g h,fs[f]? =some g/\P.funcs[f]? =some h/\g.name≠ "runtime.NumGoroutine" /\h.name≠ "runtime.NumGoroutine" /\g.body.isSome=true/\h.body.isSome=true
 rest:∀f g,fs[f]? =some g->S.ent f=true\/S.stop f=true\/He g\/
  (P.funcs[f]? =some g/\g.name≠ "runtime.NumGoroutine" /\g.body=none/\Extern.findNext g=none/\∃e,Extern.find g=some e/\∀(π:Ren P.globals.size),(∀g,S.dF g=true->π g g)->∀(a A:Array Value),VsR π a A->SR S (ah P fs) P VQ π (e a) (e A))
section
variable {S:Kn} {P:Program} {fs:Array Func} {π:Ren P.globals.size}
abbrev NQ(S:Kn){G}:Ren G->Next->Next->Prop:=λπ a A=>NxR S π a A
def bY{s T}(h:(SR S (ah P fs) P) VQ π s T):(SR S (ah P fs) P) (NQ S) π (do pure (.value (<-s))) (do pure (.value (<-T))):=h.bind λ_ _ _ _ a=>ai (.value a)
def sG{s T}(h:(SR S (ah P fs) P) EqQ π s T):(SR S (ah P fs) P) (NQ S) π (do s;pure .skip) (do T;pure .skip):=h.bind λ_ _ _ _ _=>ai .skip
def uO(d:Tab S P fs)(v:∀g,S.dF g=true->π g g)(f:FuncId){a A}(i:f=kD->a.size=1)(h:VsR π a A):(SR S (ah P fs) P) (NQ S) π (callFunc f a) (callFunc f A):=by unfold callFunc;refine cE.bind ?_;rintro w s _ _ ⟨rfl,rfl⟩;have h:=VsR.mono s h;rw[show(ah P fs).funcs=fs from rfl];cases m:fs[f]? with|none=>exact al|some g=>simp only[];obtain j|j|k|⟨n,l,t,y,e,z,o⟩:=d.rest f g m;obtain⟨_,g',c,e1,p,l,B,_⟩:=d.ent f j;(rw[m]at e1;cases e1;rw[p];have b:¬(g'.name== "runtime.NumGoroutine")=true:=by simpa using l);simp only[b,Uy,B];exact ai (.enter f (.inr j) (λx=>i (d.stop f x).1) h);obtain⟨_,u,g',e1,p,l,q,t,C⟩:=d.stop f j;rw[m]at e1;cases e1;rw[p];simp only[];rw[Uc (c:=(g.name== "runtime.NumGoroutine")=true) (by simpa using l),Uc (c:=(g'.name== "runtime.NumGoroutine")=true) (by simpa using q),Uc (c:=g.body.isNone=true) (by cases r:g.body<;>simp_all),Uc (c:=g'.body.isNone=true) (by cases r:g'.body<;>simp_all)];exact ai (.enter f (.inl j) (λx=>i (d.stop f x).1) h);refine .never ?_;rw[Uc (by rw[k.1];decide),Ud (by rw[k.2.2];rfl)];refine bK (.mark _) λ_=>?_;rw[k.findNext,k.find,k.1];simp only[];rw[Uc (by decide)];exact .halt _;rw[n];(simp only[];have b:¬(g.name== "runtime.NumGoroutine")=true:=by simpa using l);simp only[b,Uy];rw[t,y,z];simp only[Option.isNone_none,Us];refine SR.extern ?_;exact bY (o _ (λg r=>s _ _ (v g r)) _ _ h)
def qi:cW Instr.panicnil:=by unfold Instr.panicnil;exact wT
def Hf(c:dJ P)(b)(d:pj b=true)(ts t cs){a A}(h:VsR π a A):(SR S (ah P fs) P) (NQ S) π (builtin b ts t cs a) (builtin b ts t cs A):=by cases b<;>simp only[pj,Uz]at d;exact bY (Kh c _ _ h);exact bY (QY _ _ h);exact bY (Py _ _ h);exact bY (QX _ _ h);exact bY (Q0 _ _ h);exact bY (QZ _ _ h);refine .never (aC ?_);unfold Instr.panic;split;exact .halt _;exact bK qi λ_=>px (.halt _) (aG _);exact .halt _;exact bY (vM _ _ h)
def kO{l L}(h:π l L):(SR S (ah P fs) P) (λc a b=>Dg S c a b) π (Instr.getLoop l) (Instr.getLoop L):=by unfold Instr.getLoop;refine(cO h).bind ?_;intro d f o O e;cases e with|loop h=>exact ai h|_=>exact al
def Cd{t T:Array Value}{l:List (Tmp×Value)}:∀{t T} {L:List (Tmp×Value)},VsR π t T->bt (lC π) l L->VsR π (l.foldl (λt (x)=>t.setIfInBounds x.1 x.2) t) (L.foldl (λt (x)=>t.setIfInBounds x.1 x.2) T):=by induction l with|nil=>intro t T L b a;cases a;exact b|cons x l c=>intro t T L b a;cases a with|cons h a=>simp only[VJ];rw[<-h.1];exact c (b.set _ h.2) a
def Hg{b:Array Tmp}{a A}(h:VsR π a A):bt (lC π) (b.zip a).toList (b.zip A).toList:=by have c:=h.toList;obtain⟨b⟩:=b;obtain⟨a⟩:=a;obtain⟨A⟩:=A;simp only[List.zip_toArray]at*;clear h;induction c generalizing b with|nil=>cases b<;>exact .nil|cons h _ d=>cases b with|nil=>exact .nil|cons p b=>exact .cons ⟨rfl,h⟩ (d b)
def MT{l L}(h:π l L){a A}(c:VsR π a A):(SR S (ah P fs) P) (NQ S) π (Instr.yield l a) (Instr.yield L A):=by unfold Instr.yield;refine(kO h).bind ?_;intro e d r R b;rw[<-c.1,<-b.params];simp only[];split;exact .never (aC (.halt _));rw[<-b.fn,<-b.assign,<-b.body];refine ai (.round _ _ _ b.ent (d _ _ h) ?_ b.RH b.RI);rw[<-WH,<-WH];exact Cd (t:=#[]) (T:=#[]) b.tmps (Hg (VsR.mono d c))
def EvR(S:Kn){G}(π:Ren G)(ρ R:Operand->Value):Prop:=∀x,cJ S x=true->aA π (ρ x) (R x)
def EvR.row{ρ R}(h:EvR S π ρ R){xs:Array Operand}(a:xs.all (cJ S)=true):VsR π (xs.map ρ) (xs.map R):=by rw[V8]at a;refine aZ.lN λi=>?_;rw[UK,UK];cases hi:xs[i]? with|none=>exact .none|some x=>exact .some (h x (a x (UZ hi)))
def uP(k:Tab S P fs)(l:∀g,S.dF g=true->π g g){x X}(m:aA π x X){a A}(h:VsR π a A):(SR S (ah P fs) P) (NQ S) π (do let d <-Deferred.ofValue x a;invoke d.target d.args) (do let d <-Deferred.ofValue X A;invoke d.target d.args):=by
 cases m with
 |nilFunc=>(have e:(do let d <-Deferred.ofValue .nilFunc a;invoke d.target d.args:Sem Next)=runtimePanic .nilDeref:=by simp only[Deferred.ofValue,pure_bind,invoke]);rw[e];exact dv
 |func o i j p q=>cases o with|func f b=>exact uO k l f (λe=>absurd e b) (aZ.append (aZ.append ⟨i,j⟩ h) ⟨p,q⟩)|yield r=>exact MT r (aZ.append ⟨i,j⟩ h)
 |JH n f c=>(have e:(do let d <-Deferred.ofValue (.func (.method "") #[.nilIface] #[]) a;invoke d.target d.args:Sem Next)=runtimePanic .nilDeref:=by (have e0:(#[Value.nilIface]++a)[0]? =some .nilIface:=by simp[Wk]);simp[Deferred.ofValue,invoke,callMethod,e0]);rw[e];exact .never (aG _)
 |_=>exact .never (aC (.halt _))
def PE(k:Tab S P fs)(n:∀g,S.dF g=true->π g g){ρ R}(h:EvR S π ρ R)(l:∀f,ρ (.func f)=.func (.func f) #[] #[])(o:∀f,R (.func f)=.func (.func f) #[] #[])(c t)(hc:A8 S (.call c)=true):(SR S (ah P fs) P) (NQ S) π (do let d <-resolve ρ c t;invoke d.target d.args) (do let d <-resolve R c t;invoke d.target d.args):=by
 obtain⟨a,args,ts⟩:=c;unfold A8 at hc;obtain hc|hc:=VB _ _▸hc
 cases a with
 |value x=>
  cases x with
  |func f=>(simp only[kE,Un,U3]at hc;obtain⟨⟨rfl,j⟩,i⟩:=hc;have e:∀(σ:Operand->Value),σ (.func kD)=.func (.func kD) #[] #[]->(do let d <-resolve σ ⟨.value (.func kD),args,ts⟩ t;invoke d.target d.args:Sem Next)=callFunc kD (args.map σ):=λσ m=>by simp[resolve,Deferred.ofValue,m,invoke]);rw[e ρ (l _),e R (o _)];exact uO k n kD (λ_=>by simpa using j) (h.row i)
  |_=>simp[kE]at hc
 |_=>simp[kE]at hc
 simp only[Op.operands,Call.operands,Un]at hc;obtain⟨j,i⟩:=hc;cases a with
 |value f=>(simp only[XK,Un]at i;have p:cJ S f=true:=by simpa using i.1);exact uP k n (h f p) (h.row i.2)
 |invoke=>simp at j
 |builtin b=>simp only[XK,Un]at i;exact Hf k.zero b j _ _ _ (h.row i.2)
def sH{ρ R}(h:EvR S π ρ R){x:Option Operand}(a:x.all (cJ S)=true):dP (aA π) (x.map ρ) (x.map R):=by cases x with|none=>exact .none|some x=>exact .some (h x a)
def Ah{ρ R:Operand->Value}(h:EvR S π ρ R){a:Array (Nat×Operand)}(b:∀x∈a,cJ S x.2=true):aZ (lC π) (a.map λ(i,x)=>(i,ρ x)) (a.map λ(i,x)=>(i,R x)):=by refine aZ.lN λi=>?_;rw[UK,UK];cases hi:a[i]? with|none=>exact .none|some x=>exact .some ⟨rfl,h _ (b x (UZ hi))⟩
def Ai{a:Array (Nat×Operand)}(h:((a.toList.map (·.2)).toArray.all (cJ S))=true):∀x∈a,cJ S x.2=true:=by intro x b;rw[V8]at h;exact h x.2 (by simp;exact⟨x.1,by simpa using b⟩)
def Km(u:Tab S P fs)(K:∀g,S.dF g=true->π g g){ρ R}(h:EvR S π ρ R)(E:∀f,ρ (.func f)=.func (.func f) #[] #[])(L:∀f,R (.func f)=.func (.func f) #[] #[])(o)(C:A8 S o.op=true):(SR S (ah P fs) P) (NQ S) π (execOp ρ o) (execOp R o):=by
 obtain⟨M,p,ty,pos,N,U⟩:=o;have F:=C;by_cases w:∃c,p=.call c;obtain⟨c,rfl⟩:=w;exact PE u K h E L c ty F;unfold A8 at C;have G:kE S p=false:=by cases p<;>first|rfl|exact absurd ⟨_,rfl⟩ w
 simp only[G,WK,Un]at C;obtain⟨A,j⟩:=C;cases p with
 |move x=>exact ai (.value (h x (by simpa[Op.operands]using j)))
 |assign x=>exact ai (.value (h x (by simpa[Op.operands]using j)))
 |pick c a b=>simp[Op.operands]at j;refine(zS (h c j.1)).bind ?_;rintro z q v _ rfl;refine ai (.value ?_);split;exact(h a j.2.1).mono q;exact(h b j.2.2).mono q
 |alloc e=>exact bY (Mn u.zero e)
 |box e x=>exact bY (QP e (h x (by simpa[Op.operands]using j)))
 |build t O=>exact bY (Mp u.zero t (Ah h (Ai j)))
 |buildSlice t n O=>exact bY (y6 u.zero t n (Ah h (Ai j)))
 |insert t m k v=>simp[Op.operands]at j;exact sG (sx t (h m j.1) (h k j.2.1) (h v j.2.2))
 |load t a=>refine bY ((jA (h a (by simpa[Op.operands]using j))).bind ?_);intro z q b B H;exact wU t H
 |store t a x=>simp[Op.operands]at j;refine sG ((jA (h a j.1)).bind ?_);intro z q b B H;exact DI t H ((h x j.2).mono q)
 |nilCheck x=>
  have I:=h x (by simpa[Op.operands]using j);unfold execOp;simp only[];generalize ρ x=v at*;generalize R x=V at*;have l:=I;cases I with
  |func Q W A X j=>cases Q<;>exact ai (.value l)
  |my _ a=>
   cases V with
   |pointer o=>cases o<;>first|(simp[dZ]at a;done)|exact ai (.value l)
   |func fn _ _=>cases fn<;>first|(simp[dZ]at a;done)|exact ai (.value l)
   |_=>first|(simp[dZ]at a;done)|exact ai (.value l)
  |JH n f c=>exact .never (aG _)
  |_=>first|exact dv|exact ai (.value l)
 |binOp p t x y Y=>simp[Op.operands]at j;refine bY ((G8 p t x y (h x j.1) (h y j.2)).bind ?_);intro z q _ _ _;exact MP p t ((h x j.1).mono q) ((h y j.2).mono q)
 |unOp p t x=>exact bY (Mq p (h x (by simpa[Op.operands]using j)))
 |convert s d x=>exact bY (Hb s d (by simpa using A) (h x (by simpa[Op.operands]using j)))
 |makeInterface t x=>exact bY (tJ t (h x (by simpa[Op.operands]using j)))
 |makeFunc fn f c=>simp only[Op.operands,XK,Un]at j;cases fn with|func g=>exact bY (DJ (.func g (by simpa using A)) (h.row j.1) (h.row j.2))|_=>simp at A
 |makeMap t r=>exact bY (Gz t (sH h (by cases r<;>simp_all [Op.operands])))
 |makeSlice t a b=>simp[Op.operands]at j;exact bY (Bp u.zero t (h a j.1) (h b j.2))
 |slice t x lo hi J=>(have D:cJ S x=true/\lo.all (cJ S)=true/\hi.all (cJ S)=true/\J.all (cJ S)=true:=by cases lo<;>cases hi<;>cases J<;>simp[Op.operands]at j<;>simp[j]);exact bY (Gu t (h x D.1) (sH h D.2.1) (sH h D.2.2.1) (sH h D.2.2.2))
 |fieldAddr t x f=>exact bY (Gx t f (h x (by simpa[Op.operands]using j)))
 |field t x f=>exact bY (Mm t f (h x (by simpa[Op.operands]using j)))
 |indexAddr t x i=>simp[Op.operands]at j;exact bY (Gv t (h x j.1) (h i j.2))
 |index t x i=>simp[Op.operands]at j;exact bY (Ml t (h x j.1) (h i j.2))
 |lookup t x i T=>simp[Op.operands]at j;exact bY (Kl u.zero t T (h x j.1) (h i j.2))
 |mapUpdate t m k v=>simp[Op.operands]at j;exact sG (sx t (h m j.1) (h k j.2.1) (h v j.2.2))
 |mapEntry t m k=>simp[Op.operands]at j;exact bY (Em u.zero t (h m j.1) (h k j.2))
 |entryStore t m k v=>simp[Op.operands]at j;exact sG (zk t (h m j.1) (h k j.2.1) (h v j.2.2))
 |range t x=>exact bY (MR t (h x (by simpa[Op.operands]using j)))
 |next x b=>exact bY (PD b _ (h x (by simpa[Op.operands]using j)))
 |entry x=>exact bY (MS (h x (by simpa[Op.operands]using j)))
 |extract x i=>exact bY (Gw i (h x (by simpa[Op.operands]using j)))
 |call c=>exact absurd ⟨c,rfl⟩ w
 |panic x=>refine .never (aC ?_);unfold Instr.panic;split;exact .halt _;exact bK qi λ_=>px (.halt _) (aG _);exact .halt _
 |_=>simp at A
def Hh(d:Tab S P fs)(i:∀g,S.dF g=true->π g g){ρ R}(h:EvR S π ρ R)(a:∀f,ρ (.func f)=.func (.func f) #[] #[])(j:∀f,R (.func f)=.func (.func f) #[] #[])(o)(e:opD S o.op=true):(SR S (ah P fs) P) (NQ S) π (execOp ρ (cT o)) (execOp R o):=by
 unfold opD at e;obtain h1|h1:=VB _ _▸e;unfold cT;rw[Uc (by rw[Df h1];simp)];exact Km d i h a j o h1;obtain⟨l,m,ty,pos,n,p⟩:=o
 cases m with
 |call c=>
  obtain⟨k,args,ts⟩:=c;cases k with
  |builtin b=>cases b with|unsafeSliceData=>exact bY (qX _ _ d.bad (h.row h1))|_=>simp at h1
  |_=>simp at h1
 |_=>simp at h1
end
inductive fv(S:Kn){G:Nat}(π:Ren G):Item->Item->Prop
 |code {c:Code}:iO S c=true->fv S π (.code (gS c)) (.code c)
 |inBlock (id):fv S π (.inBlock id) (.inBlock id)
 |inLoop {b:Code}:S.code b->fv S π (.inLoop b) (.inLoop b)
 |inScope {b:Code}:S.code b->fv S π (.inScope b) (.inScope b)
 |inRegion {ops:Array Oper} (l):(∀o∈ops,opD S o.op=true)->fv S π (.inRegion (ops.map cT) l) (.inRegion ops l)
 |inRangeFunc {l L:Nat}:π l L->fv S π (.inRangeFunc l) (.inRangeFunc L)
 |endRangeFunc {l L:Nat}:π l L->fv S π (.endRangeFunc l) (.endRangeFunc L)
 |beginRound:fv S π .beginRound .beginRound
def fv.same{S:Kn}{G:Nat}{π:Ren G}{c:Code}(h:S.code c):fv S π (.code c) (.code c):=by have:=fv.code (π:=π) (gU h).2;rwa[(gU h).1]at this
def Aj(o):(cT o).dst=o.dst:=by unfold cT;split<;>rfl
def uQ(o):(cT o).after=o.after:=by unfold cT;split<;>rfl
def Eo(o):(cT o).guard=o.guard:=by unfold cT;split<;>rfl
def MU(o):(cT o).op=o.op:=by unfold cT;split<;>rfl
def xF(m ops t):Region.schedule m (ops.map cT) t=Region.schedule m ops t:=by (have a:Region.departs (ops.map cT)=Region.departs ops:=by unfold Region.departs;rw[Array.any_map];congr 1;funext o;simp only[Function.comp,uQ]);(have b:∀md f t l acc,Region.linearise.go md (ops.map cT) f t l acc=Region.linearise.go md ops f t l acc:=by intro md f;induction f with|zero=>intro t l acc;rfl|succ f c=>intro t l acc;unfold Region.linearise.go;simp only[c,VI,UK,Option.map_map,Function.comp_def,uQ]);unfold Region.schedule Region.linearise;simp only[a,b,VI]
def zl(ops t):yielded (ops.map cT) t=yielded ops t:=by funext j;unfold yielded;simp only[UK];cases ops[j]? with|none=>rfl|some o=>simp only[UW,Wc,Aj]
def Ce(o y):Region.wanted (cT o) y=Region.wanted o y:=by unfold Region.wanted;rw[Eo]
structure bg(S:Kn){G:Nat}(π:Ren G)(f F:Frame):Prop where
 fn:F.fn=f.fn
 ent:S.ent f.fn=true
 tmps:VsR π f.tmps F.tmps
 todo:bt (fv S π) f.todo F.todo
 defers:bt (pM π) f.defers F.defers
 mode:F.mode=f.mode
 calm:f.mode=.run\/f.mode=.returning
 kind:f.kind=.normal
 Kind:F.kind=.normal
 round:dP (λl L=>π l L) f.roundOf F.roundOf
section mono
variable {G:Nat} {S:Kn} {π π':Ren G} (l:Ren.le π π')
include l
def fv.mono{x X:Item}(h:fv S π x X):fv S π' x X:=by cases h with|code h=>exact .code h|inBlock=>exact .inBlock _|inLoop h=>exact .inLoop h|inScope h=>exact .inScope h|inRegion t h=>exact .inRegion t h|inRangeFunc h=>exact .inRangeFunc (l _ _ h)|endRangeFunc h=>exact .endRangeFunc (l _ _ h)|beginRound=>exact .beginRound
def bg.mono{f F:Frame}(h:bg S π f F):bg S π' f F:={h with tmps:=VsR.mono l h.tmps,todo:=h.todo.mono λ_ _=>fv.mono l,defers:=h.defers.mono λ_ _=>pM.mono l,round:=h.round.mono λ_ _ x=>l _ _ x}
end mono
def Marks{G}(π:Ren G)(f:Frame):Prop:=∀D∈f.defers,∃r R,D=⟨.collected r,#[]⟩/\π r R
def MV{G}{π:Ren G}{l L}(h:bt (pM π) l L):∀D∈l,∃r R,D=⟨.collected r,#[]⟩/\π r R:=by
 induction h with
 |nil=>intro D h;cases h
 |cons h _ b=>
  intro D a;cases a with
  |head=>cases h with|mk h=>exact⟨_,_,rfl,h⟩
  |tail _ a=>exact b D a
def bt.left{b c R}{l:List b}{m:List c}(h:bt R l m):∀x∈l,∃y,R x y:=by induction h with|nil=>intro x h;cases h|cons h _ e=>intro x a;cases a with|head=>exact⟨_,h⟩|tail _ a=>exact e x a
def jN(G:Nat)(B₀:List Frame)(r:GStep):Prop:=
 match r with
 | .ended .. =>True
 | .go g w _=>∃(π:Ren G) (cs:List Frame),g.callers=cs++B₀/\g.status=.running/\g.dying=none/\g.offers=none/\(∃v,g.frame.mode=.panicking [{v,recovered:=false}])/\(∀f∈g.frame::cs,Marks π f)/\Dp π w/\∀f∈cs,f.mode=.run\/f.mode=.returning
 |_=>False
def jN.after{G B₀ r}(es)(h:jN G B₀ r):jN G B₀ (r.after es):=by cases r<;>exact h
section
variable {S:Kn} {P:Program} {fs:Array Func} {Pr:Nat->Prop}
def Ko(S:Kn)(P:Program)(fs:Array Func)(π:Ren P.globals.size)(cs:List Frame)(f F:Frame):Prop:=bg S π f F\/cs≠[]/\∃g a A,S.stop g=true/\(a.size=1/\VsR π a A)/\f=Frame.enter (ah P fs) g a .normal/\F=Frame.enter P g A .normal
def rb(f:Frame):Bool:=f.roundOf.isSome
def Sh(a b:List Bool):Prop:=b=a\/(∃x,b=x::a)\/∃x,a=x::b
def mK(f v):rb (f.finish v)=rb f:=by unfold Frame.finish rb;split<;>rfl
def dK(S:Kn)(Pr:Nat->Prop)(P:Program)(fs:Array Func)(B₀:List Frame)(st:List Bool)(π:Ren P.globals.size)(w W:World)(d:Nat)(b:World->GStep)(f:List Frame->GStep):Prop:=
 ∃L:List (Question->Nat),(∀g∈L,S.fS g)/\((∀τ,Fits τ d L->jN P.globals.size B₀ (b (av w τ d)))\/
  ∃fr cs w' es c CS a ev π',(∀τ,Fits τ d L->b (av w τ d)=.go ⟨fr,cs++B₀,.running,none,none⟩ (av w' τ (d+L.length)) es)/\(∀B,f B=.go ⟨c,CS++B,.running,none,none⟩ a ev)/\bw S Pr π' w' a/\Chg Pr π W a π'/\(∀e∈ev,lu Pr π' e)/\bt (bg S π') cs CS/\Ko S P fs π' cs fr c/\Sh st (rb fr::cs.map rb))
variable {B₀:List Frame} {st:List Bool} {π:Ren P.globals.size} {w W:World} {d:Nat}
def dK.bind{A B Q s s'}(k:SR S (ah P fs) P Q π s s')(C:bw S Pr π w W){m:Result A×Array Event->GStep}{t:Result B×Array Event->List Frame->GStep} (D:∀h w' c,gH h->Dp π w'->jN P.globals.size B₀ (m (.halt h w',c))) (E:∀π' a b w' i c ev d',Ren.le π π'->Q π' a b->bw S Pr π' w' i->(∀e∈ev,lu Pr π' e)->dK S Pr P fs B₀ st π' w' i d' (λw=>m (.ok a w,c)) (t (.ok b i,ev))):dK S Pr P fs B₀ st π w W d (λw=>m (s.runT (ah P fs) w #[])) (t (s'.runT P W #[])):=by obtain⟨L,n,h|⟨a,w',c,b,i,ev,π',u,v,F,H,y,I⟩⟩:=k.run (Pr:=Pr) w W #[] #[] d C;refine⟨L,n,.inl λτ f=>?_⟩;obtain⟨x,w',c,e1,J,e3⟩:=h τ f;simp only[e1];exact D x w' c J e3;rw[Vw]at v;rw[v];obtain⟨z,j,g|⟨fr,cs,w2,o,K,CS,M,q,r,N,O,R,T,U,V,X⟩⟩:=E π' a b w' i c ev (d+L.length) y.le F H I;refine⟨L++z,ic n j,.inl λτ f=>?_⟩;have:=ia f;simp only[u τ this.1];exact g τ this.2;refine⟨L++z,ic n j,.inr ⟨fr,cs,w2,o,K,CS,M,q,r,λτ f=>?_,O,R,y.trans T,U,V,X⟩⟩;have:=ia f;simp only[u τ this.1];exact(N τ this.2).trans (by rw[Uw,Wb])
def dK.still(c:bw S Pr π w W){fr a cs CS}(f:bt (bg S π) cs CS)(g:Ko S P fs π cs fr a)(b:Sh st (rb fr::cs.map rb))(es){ev}(h:∀e∈ev,lu Pr π e):dK S Pr P fs B₀ st π w W d (λw=>.go ⟨fr,cs++B₀,.running,none,none⟩ w es) (λB=>.go ⟨a,CS++B,.running,none,none⟩ W ev):=
 ⟨[],by simp,.inr ⟨fr,cs,w,es,a,CS,W,ev,π,λτ _=>rfl,λ_=>rfl,c,Chg.refl _ _ _,h,f,g,b⟩⟩
def dK.xG{a GS}(h:∀τ,jN P.globals.size B₀ (a (av w τ d))):dK S Pr P fs B₀ st π w W d a GS:=⟨[],by simp,.inl λτ _=>h τ⟩
def Ep(p f es):∀e∈seen p f es,e∈es:=by
 have key:∀(l:List Event) (q:Bool) (k:Array Event) (g:FuncId->Bool),∀e∈(l.foldl (λ(x:Bool×Array Event) e=>match x with|(q,kept)=>match e.loc with
  | .mark (.extern f)=>(g f,kept)
  |_=>(q,if q&& !e.sync then kept else kept.push e)) (q,k)).2,e∈k\/e∈l:=by
  intro l;induction l with
  |nil=>exactλq k g e h=>.inl h
  |cons x l a=>
   intro q k g e h;simp only[VJ]at h;split at h
   ·obtain h|h:=a _ _ _ _ h
    ·exact .inl h
    ·exact .inr (.tail _ h)
   ·obtain h|h:=a _ _ _ _ h
    ·split at h
     ·exact .inl h
     ·obtain h|rfl:=Wu.1 h
      ·exact .inl h
      ·exact .inr (.head _)
    ·exact .inr (.tail _ h)
 intro e h;unfold seen at h;simp only[]at h;rw[<-WH]at h;obtain h|h:=key _ _ _ _ e h;simp at h;simpa using h
def bg.eval(b:∀g,S.dF g=true->π g g){f F}(h:bg S π f F):EvR S π f.eval F.eval:=by
 intro x a;cases x with
 |tmp t=>simp only[Frame.eval];have c:=h.tmps.get t;rw[U7,U7];generalize f.tmps[t]? =u at*;generalize F.tmps[t]? =v at*;cases c with|none=>exact aA.tuple' .empty|some h=>exact h
 |const v=>exact oG v a _ _
 |global g=>exact .ptr (.mk (b g a))
 |func f=>exact .func (.func f (by simpa[cJ]using a)) rfl (λi x X h=>by simp at h) rfl (λi x X h=>by simp at h)
def bg.finish{f F}(h:bg S π f F){v V}(m:aA π v V):bg S π (f.finish v) (F.finish V):=by
 have a:=h.todo;obtain⟨fn,tmps,todo,defers,mode,kind,r⟩:=f;obtain⟨t,c,g,b,j,k,u⟩:=F;simp only[]at a;unfold Frame.finish;cases a with
 |nil=>exact h
 |cons hi a=>
  cases hi with
  |inRegion l n=>cases l with|nil=>exact h|cons i rest=>(have e:∀ops:Array Oper,((ops.map cT)[i]?).bind (·.dst)=(ops[i]?).bind (·.dst):=λops=>by rw[UK];cases ops[i]? with|none=>rfl|some o=>exact Aj o);simp only[e];refine{h with tmps:=?_,todo:=.cons (.inRegion rest n) a};split;exact h.tmps.set _ m;exact h.tmps
  |inRangeFunc q=>exact{h with todo:=.cons (.endRangeFunc q) a}
  |beginRound=>exact{h with todo:=a}
  |_=>exact h
def bg.marks{f F}(h:bg S π f F):Marks π f:=MV h.defers
def Kp{f F}(h:bg S π f F){cs CS}(b:bt (bg S π) cs CS):∀g∈f::cs,Marks π g:=by intro g a;cases a with|head=>exact h.marks|tail _ a=>obtain⟨y,c⟩:=b.left g a;exact c.marks
def sI{f F}(h:bg S π f F){cs CS}(a:bt (bg S π) cs CS){w'}(c:Dp π w')(v es):jN P.globals.size B₀ (.go ⟨f.raise [{v,recovered:=false}],cs++B₀,.running,none,none⟩ w' es):=by (have i:=Kp h a;have e:f.raise [{v,recovered:=false}]={f with mode:=.panicking [{v,recovered:=false}]}:=by unfold Frame.raise;rcases h.calm with a|a<;>rw[a]);refine⟨π,cs,rfl,rfl,rfl,rfl,⟨_,by rw[e]⟩,λg b=>?_,c,λg b=>by obtain⟨y,j⟩:=a.left g b;exact j.calm⟩;cases b with|head=>rw[e];exact h.marks|tail _ b=>exact i g (.tail _ b)
def tW(n:Tab S P fs)(f:FuncId)(o:S.stop f=true\/S.ent f=true){a A}(b:S.stop f=true->a.size=1)(e:VsR π a A){cs}(h:cs≠[]):Ko S P fs π cs (Frame.enter (ah P fs) f a .normal) (Frame.enter P f A .normal):=by by_cases i:S.stop f=true;exact .inr ⟨h,f,a,A,i,⟨b i,e⟩,rfl,rfl⟩;have k:=o.resolve_left i;obtain⟨_,g,c,e1,m,_,q,j⟩:=n.ent f k;refine .inl ⟨rfl,k,?_,?_,.nil,rfl,.inl rfl,rfl,rfl,.none⟩;simp only[Frame.enter,show(ah P fs).funcs=fs from rfl,e1,m];rw[<-e.1];exact e.append (fu (iB _ (λ_ _=>aA.tuple' .empty)));simp only[Frame.enter,show(ah P fs).funcs=fs from rfl,e1,m,Wc,q];exact .cons (.code j) .nil
def bg.MW{f F}(h:bg S π f F):(∀d r s k,f.todo≠ .call d true r s::k)/\∀d r s k,F.todo≠ .call d true r s::k:=by have a:=h.todo;generalize f.todo=t at*;generalize F.todo=T at*;cases a with|nil=>exact⟨by simp,by simp⟩|cons hi _=>cases hi<;>exact⟨by simp,by simp⟩
def ki{p f es}(h:∀e∈es,lu Pr π e):∀e∈seen p f es++#[],lu Pr π e:=λe a=>h e (Ep p f es e (by simpa using a))
section applied
variable {p:Program} {fr:Frame} {cs:List Frame} {s:Sem Next} {es:Array Event} {w₀ w₁:World}
def uR{v}(h:s.runT p w₀ #[]=(.ok (.value v) w₁,es))(a:fr.kind=.normal):stepG.apply p true fr cs none s w₀=.go ⟨fr.finish v,cs,.running,none,none⟩ w₁ (seen p fr.fn es++#[]):=by simp only[stepG.apply,h,a,GStep.after,Us];rfl
def xH(h:s.runT p w₀ #[]=(.ok .skip w₁,es))(a:fr.kind=.normal):stepG.apply p true fr cs none s w₀=.go ⟨fr.finish undef,cs,.running,none,none⟩ w₁ (seen p fr.fn es++#[]):=by simp only[stepG.apply,h,a,GStep.after,Us];rfl
def uS{f a}(h:s.runT p w₀ #[]=(.ok (.enter f a) w₁,es))(b:fr.kind=.normal)(c:∀d r s k,fr.todo≠ .call d true r s::k):stepG.apply p true fr cs none s w₀=.go ⟨Frame.enter p f a .normal,fr::cs,.running,none,none⟩ w₁ (seen p fr.fn es++#[]):=by simp only[stepG.apply,h,b,GStep.after,Us];rw[Uc (by decide)]
def uT{l f t as body}(h:s.runT p w₀ #[]=(.ok (.round l f t as body) w₁,es))(a:fr.kind=.normal):stepG.apply p true fr cs none s w₀=.go ⟨Frame.round l f t as body .normal,fr::cs,.running,none,none⟩ w₁ (seen p fr.fn es++#[]):=by simp only[stepG.apply,h,a,GStep.after,Us];rfl
def Er{v}(h:s.runT p w₀ #[]=(.halt (.panic v) w₁,es))(a:fr.kind=.normal):∃es',stepG.apply p true fr cs none s w₀=.go ⟨fr.raise [{v,recovered:=false}],cs,.running,none,none⟩ w₁ es':=by simp only[stepG.apply,h,a,GStep.after,Us];exact⟨_,rfl⟩
def Hi{x}(a:gH x)(b:∀v,x≠ .panic v)(h:s.runT p w₀ #[]=(.halt x w₁,es)):∃o w es',stepG.apply p true fr cs none s w₀=.ended o w es':=by
 cases x with
 |panic v=>exact absurd rfl (b v)
 |stuck=>simp only[stepG.apply,h,GStep.after,Us];exact⟨_,_,_,rfl⟩
 |unsupported u=>cases u with|initOrder=>exact a.elim|_=>simp only[stepG.apply,h,GStep.after,Us];exact⟨_,_,_,rfl⟩
 |_=>exact a.elim
end applied
def mg(N:Tab S P fs){f F}(h:bg S π f F){cs CS}(K:bt (bg S π) cs CS){s s'}(O:SR S (ah P fs) P (NQ S) π s s')(Q:bw S Pr π w W):dK S Pr P fs B₀ (rb f::cs.map rb) π w W d (λw=>stepG.apply (ah P fs) true f (cs++B₀) none s w) (λB=>stepG.apply P true F (CS++B) none s' W):=by obtain⟨L,k,R|⟨a,w',C,b,q,ev,π',r,m,U,u,j,y⟩⟩:=O.run (Pr:=Pr) w W #[] #[] d Q;refine⟨L,k,.inl λτ c=>?_⟩;obtain⟨x,w',C,e1,X,e3⟩:=R τ c;by_cases M:∃v,x=.panic v;obtain⟨v,rfl⟩:=M;obtain⟨n,e⟩:=Er (fr:=f) (cs:=cs++B₀) e1 h.kind;simp only[e];exact sI h K e3 v n;obtain⟨o,w2,n,e⟩:=Hi (fr:=f) (cs:=cs++B₀) X (λv D=>M ⟨v,D⟩) e1;simp only[e];trivial;rw[Vw]at m;have i:=K.mono λ_ _ x=>bg.mono j.le x;have z:=h.mono j.le;cases U with| @value v V D=>exact⟨L,k,.inr ⟨f.finish v,cs,w',_,F.finish V,CS,q,_,π',λτ c=>uR (r τ c) h.kind,λ_=>uR m h.Kind,u,j,ki y,i,.inl (z.finish D),by rw[mK];exact .inl rfl⟩⟩|skip=>exact⟨L,k,.inr ⟨f.finish undef,cs,w',_,F.finish undef,CS,q,_,π',λτ c=>xH (r τ c) h.kind,λ_=>xH m h.Kind,u,j,ki y,i,.inl (z.finish (aA.tuple' .empty)),by rw[mK];exact .inl rfl⟩⟩| @enter g a A E H I=>exact⟨L,k,.inr ⟨_,f::cs,w',_,_,F::CS,q,_,π',λτ c=>uS (r τ c) h.kind h.MW.1,λ_=>uS m h.Kind h.MW.2,u,j,ki y,.cons z i,tW N g E H I (by simp),.inr (.inl ⟨_,rfl⟩)⟩⟩| @round l LL g t T as body E Y J I Z=>refine⟨L,k,.inr ⟨_,f::cs,w',_,_,F::CS,q,_,π',λτ c=>uT (r τ c) h.kind,λ_=>uT m h.Kind,u,j,ki y,.cons z i,.inl ?_,.inr (.inl ⟨_,rfl⟩)⟩⟩;exact⟨rfl,E,J,.cons (.same I) (.cons .beginRound (.cons (.same Z) .nil)),.nil,rfl,.inl rfl,rfl,rfl,.some Y⟩
def Hj(a){k K}(h:bt (fv S π) k K):dP (bt (fv S π)) (exitTo a k) (exitTo a K):=by induction h with|nil=>exact .none| @cons x X k K c e b=>cases c with|inBlock i=>simp only[exitTo];split;exact .some e;exact b|_=>exact b
def Cg(l):∀(b) (r),S.code b->findLabel b l=some r->S.code r:=by intro b;induction b with|seq a b g h=>intro r f c;simp only[Kn.code,codeOk,Un]at f;unfold findLabel at c;split at c;rename_i i e;cases c;have:=g i f.1 e;simp only[Kn.code,codeOk,Un];exact⟨this,f.2⟩;exact h r f.2 c|label j=>intro r f c;simp only[findLabel]at c;split at c;cases c;rfl;cases c|_=>intro r f c;simp[findLabel]at c
def Hk(l){k K}(h:bt (fv S π) k K):dP (bt (fv S π)) (gotoIn l k) (gotoIn l K):=by
 induction h with
 |nil=>exact .none
 | @cons x X k K f g a=>
  cases f with
  | @inScope b c=>simp only[gotoIn];cases e:findLabel b l with|none=>exact a|some r=>exact .some (.cons (.same (Cg l b r c e)) (.cons (.inScope c) g))
  |_=>exact a
def Es{t T}(h:VsR π t T)(ops j):yielded ops t j=yielded ops T j:=by
 unfold yielded;cases(ops[j]?).bind (·.dst)with
 |none=>rfl
 |some d=>
  simp only[Wc];have b:=h.get d;generalize t[d]? =u at*;generalize T[d]? =v at*;cases b with
  |none=>rfl
  | @some x y h=>
   cases h with
   |my _ a=>cases y<;>first|rfl|(simp[dZ]at a;done)
   |_=>rfl
def Et{l L}(h:π l L)(jump)(b:∀c,jump=some c->S.code c):SR S (ah P fs) P VQ π (Instr.endRound l jump) (Instr.endRound L jump):=by unfold Instr.endRound;refine(kO h).bind ?_;intro e f r R a;refine(ew (f _ _ h) (by simp) (.loop (l:={r with state:=if jump.isNone then .ready else .done,pending:=jump}) (L:={R with state:=if jump.isNone then .ready else .done,pending:=jump}) ⟨rfl,rfl,b,a.fn,a.ent,a.tmps,a.params,a.assign,a.RH,a.body,a.RI,a.defers⟩)).bind ?_;intro g i _ _ _;exact ai (.bool _)
def Hl{l L}(h:π l L):SR S (ah P fs) P (λ_ a A=>a=A/\∀c,a=some c->S.code c) π (Instr.endLoop l) (Instr.endLoop L):=by unfold Instr.endLoop;refine(kO h).bind ?_;intro e f r R b;rw[<-b.state];refine dh (.never (aC (aG _))) ?_;refine(ew (f _ _ h) (by simp) (.loop (l:={r with state:=.exhausted}) (L:={R with state:=.exhausted}) {b with state:=rfl})).bind ?_;intro g i _ _ _;rw[<-b.pending];exact ai ⟨rfl,b.TD⟩
def zm{l L}(h:π l L):SR S (ah P fs) P EqQ π (Instr.beginRound l) (Instr.beginRound L):=by unfold Instr.beginRound;refine(kO h).bind ?_;intro b c r R a;refine(ew (c _ _ h) (by simp) (.loop (l:={r with state:=.busy}) (L:={R with state:=.busy}) {a with state:=rfl})).bind ?_;intro e f _ _ _;rw[<-a.state];split;exact ai rfl;exact dv;exact dv;exact dv
def vO{r R}(h:π r R):SR S (ah P fs) P (λ_ a A=>a=[]/\A=[]) π (Instr.takeDeferred r) (Instr.takeDeferred R):=by unfold Instr.takeDeferred;refine(cO h).bind ?_;intro b c o O e;cases e with|deferred=>refine(ew (c _ _ h) (by simp) .eB).bind ?_;intro f g _ _ _;exact ai ⟨rfl,rfl⟩|_=>exact al
abbrev Q1(π:Ren P.globals.size):Nat×List Deferred->Nat×List Deferred->Prop:=λa A=>π a.1 A.1/\bt (pM π) a.2 A.2
def Ch{fn:FuncId}(j:S.ent fn=true){t T}(k:VsR π t T)(params){as body}(m:S.code as)(n:S.code body){o u}(b:dP (λl L=>π l L) o u):SR S (ah P fs) P (λπ' a A=>Q1 π' a A) π (Instr.enterLoop fn t params as body o) (Instr.enterLoop fn T params as body u):=by unfold Instr.enterLoop;cases b with|none=>refine(ie .deferred).bind ?_;intro e f r R b;refine(ie (.loop (l:=⟨.ready,none,fn,t,params,as,body,r⟩) (L:=⟨.ready,none,fn,T,params,as,body,R⟩) ⟨rfl,rfl,(λc h=>by cases h),rfl,j,VsR.mono f k,rfl,rfl,m,rfl,n,b⟩)).bind ?_;intro g v q Q i;exact ai ⟨i,.cons (.mk (v _ _ b)) .nil⟩|some x=>refine(kO x).bind ?_;intro e f r R b;refine(ie (.loop (l:=⟨.ready,none,fn,t,params,as,body,r.defers⟩) (L:=⟨.ready,none,fn,T,params,as,body,R.defers⟩) ⟨rfl,rfl,(λc h=>by cases h),rfl,j,VsR.mono f k,rfl,rfl,m,rfl,n,b.defers⟩)).bind ?_;intro g v q Q i;exact ai ⟨i,.nil⟩
def Hm{c:Type}{f F:c->Sem Value}(xs:Array c)(h:∀(π'),Ren.le π π'->∀x,SR S (ah P fs) P VQ π' (f x) (F x)):SR S (ah P fs) P VsQ π (xs.mapM f) (xs.mapM F):=by (obtain⟨l⟩:=xs;simp only[List.mapM_toArray];have key:∀(l:List c) (π':Ren P.globals.size),Ren.le π π'->SR S (ah P fs) P (λb a A=>bt (aA b) a A) π' (l.mapM f) (l.mapM F):=by intro l;induction l with|nil=>intro π' e;simp only[List.mapM_nil];exact ai .nil|cons x l i=>intro π' e;simp only[List.mapM_cons];refine(h π' e x).bind ?_;intro b j v V k;refine(i b (Ren.le_trans e j)).bind ?_;intro m n o q g;exact ai (.cons (k.mono n) g));exact Mo (key l π (Ren.le_refl _)) λπ' a A h=>h.toArray
def qZ(g){t T}(h:VsR π t T):SR S (ah P fs) P VQ π (results g t) (results g T):=by (unfold results;have e:∀{π':Ren P.globals.size},Ren.le π π'->∀i,aA π' (t.getD i undef) (T.getD i undef):=by intro π' l i;have j:=(VsR.mono l h).get i;rw[U7,U7];generalize t[i]? =u at*;generalize T[i]? =v at*;cases j with|none=>exact aA.tuple' .empty|some h=>exact h);refine(Hm g.results λπ' l x=>?_).bind ?_;(cases x with|tmp i=>exact ai (e l i)|cell a t=>refine(zT (e l a)).bind ?_;intro k q a A m;exact wU t m);intro n r o y b;refine ai ?_;have f:=b.1;by_cases c:o.size=1;rw[VX c,VX (f▸c)];exact b.2 0 _ _ (UD _) (UD _);rw[dif_neg c,dif_neg (f▸c)];exact aA.tuple' b
end
def K4{e σ:Type}(b:σ->Prop)(f:e->σ->Option (ForInStep σ))(i:∀a s r,b s->f a s=some r->b (match r with| .yield s=>s| .done s=>s)):∀(l:List e) (s s':σ),b s->forIn l s f=some s'->b s':=by intro l;induction l with|nil=>intro s s' d h;simp at h;exact h▸d|cons a l j=>intro s s' d h;rw[Xx]at h;cases c:f a s with|none=>rw[c]at h;cases h|some r=>rw[c]at h;have:=i a s r d c;cases r with|done g=>simp at h;exact h▸this|yield g=>exact j g s' this h
def PZ(i:TypeInfo):Prop:=∀z,i.zero=some z->Plain z
def oX{c}(h:bn c):Plain (.agg c):=λG π=>.F9 ⟨rfl,λi x y a b=>by rw[a]at b;cases b;exact h i x a G π⟩
def bn.app{a b}(c:bn a)(d:bn b):bn (a++b):=λi v h=>by rw[Wk]at h;split at h;exact c _ _ h;exact d _ _ h
def CL(e)(hi:∀t i,e t=some i->PZ i)(fs i)(h:Made.reckonStruct e fs=some i):PZ i:=by
 unfold Made.reckonStruct at h;simp only[<-VE,bind,Vy]at h;obtain⟨r,n,l⟩:=h;have k:=K4 (λs:Array Field×Nat×Nat×Nat×Nat×Bool×Bool×Option (Array Value)×String=>∀c,s.2.2.2.2.2.2.2.1=some c->bn c) _ (λa s x o f=>?_) fs.toList _ r (λc d=>by cases d;exactλi v p=>by simp at p) n;have q:i.zero=r.2.2.2.2.2.2.2.1.map .agg:=by revert l;simp only[pure];split<;>(intro l;cases l;rfl)
 intro z m;rw[q]at m;obtain⟨c,d,rfl⟩:=UN.1 m;exact oX (k c d)
 cases g:e a.type with
 |none=>rw[g]at f;cases f
 |some j=>
  rw[g]at f;simp only[Wc,pure]at f;have fin:∀c,(if s.2.1+j.size>Made.mostCells then none else s.2.2.2.2.2.2.2.1.bind λa=>j.zero.bind λb=>some (a++b.cells))=some c->bn c:=by intro c d;split at d;cases d;simp only[Vy]at d;obtain⟨u,w,z,y,A⟩:=d;cases A;exact(o u w).app ((hi _ _ g z y).cells)
  repeat' split at f
  all_goals simp only[Option.bind_none,Vy,reduceCtorEq,UX]at f
  all_goals try (exact f.elim)
  all_goals first
   |(subst f;intro c d;first|(cases d;done)|exact fin c d|exact fin c (by rw[Uc (by assumption)];exact d))
   |(obtain⟨B,_,f⟩:=f;subst f;intro c d;first|(cases d;done)|exact fin c d|exact fin c (by rw[Uc (by assumption)];exact d))
def jc(d s z)(a:fR z=true)(c b):PZ (Made.word d s z c b):=by intro e h;have:(Made.word d s z c b).zero=some z:=rfl;rw[this]at h;cases h;exact oG _ a
def CM{c}(h:bn c)(n):bn (Array.replicate n c).flatten:=by intro i v e;have b:=UZ e;rw[Array.mem_flatten]at b;obtain⟨d,f,a⟩:=b;have:=Array.eq_of_mem_replicate f;subst this;obtain⟨j,g⟩:=WO.1 a;exact h j v g
def CN(e)(hi:∀t i,e t=some i->PZ i)(d i)(h:Made.reckon e d=some i):PZ i:=by cases d<;>simp only[Made.reckon,bind,Vy,pure,reduceCtorEq]at h;obtain⟨a,g,h⟩:=h;split at h;cases h;split at h;cases h;obtain⟨x,_,h⟩:=Vy.1 h;cases h;exact jc _ _ _ rfl _ _;obtain⟨x,_,h⟩:=Vy.1 h;cases h;exact jc _ _ _ rfl _ _;obtain⟨a,_,b,_,h⟩:=h;cases h;exact jc _ _ _ rfl _ _;obtain⟨a,g,b,_,h⟩:=h;cases h;intro z f;simp only[]at f;split at f;cases f;split at f;cases f;(exact oX λi v j=>by simp at j);obtain⟨k,l,rfl⟩:=UN.1 f;exact oX (CM ((hi _ _ g k l).cells) _);obtain⟨a,_,b,_,c,_,d,_,h⟩:=h;cases h;exact jc _ _ _ rfl _ _;obtain⟨a,_,b,_,h⟩:=h;cases h;exact jc _ _ _ rfl _ _;exact CL e hi _ i h;obtain⟨a,_,h⟩:=h;cases h;exact jc _ _ _ rfl _ _
def CO(T)(a:∀(t:Nat) i,T.types[t]? =some i->PZ i):∀(f) t i,Made.infoAt T f t=some i->PZ i:=by intro f;induction f with|zero=>intro t i h;cases h|succ f b=>intro t i h;unfold Made.infoAt at h;split at h;exact a t i h;obtain⟨d,_,h⟩:=Vy.1 h;exact CN _ b d i h
def Iw(T:Tables)(a:∀(t:Nat) i,T.types[t]? =some i->PZ i)(t i)(h:T.info? t=some i):PZ i:=by unfold Tables.info? at h;split at h;exact a t i h;exact CO T a _ t i h
end Go.Tm

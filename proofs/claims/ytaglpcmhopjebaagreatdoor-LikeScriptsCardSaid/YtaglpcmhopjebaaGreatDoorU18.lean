import Derived.Test.YtaglpcmhopjebaaGreatDoorProg
import Derived.WalkKit
import Derived.WalkSpells
import Derived.WalkLawsBesides
import Derived.RangeFuncNested
import Derived.RangeFuncBound
import Derived.RangeFuncCalls
import Derived.Shelf.Abstract
import Derived.Test.YtaglpcmhopjebaaGreatDoorU0
set_option linter.all false
set_option maxRecDepth 100000
set_option maxHeartbeats 20000000
namespace Go.Proofs
open Go.Tm
noncomputable abbrev Qs(fs:Array Func):Program:=ah Tryz.prog fs
section
variable (P:Program) (fs:Array Func) (t:TypeId) (w:World)
@[go_sem] theorem tz:(ah P fs).info? t=P.info? t:=rfl
@[go_sem] theorem aI:(ah P fs).underlying t=P.underlying t:=rfl
@[go_sem] theorem Bb:(isAgg t).run (ah P fs) w=(isAgg t).run P w:=by simp only[isAgg,underlying,program,bind,Sem.bind,Sem.run,aI];cases P.underlying t with|none=>rfl|some d=>cases d<;>rfl
@[go_sem] theorem wK:(Go.sizeOf t).run (ah P fs) w=(Go.sizeOf t).run P w:=by simp only[Go.sizeOf,typeInfo,program,bind,Sem.bind,Sem.run,tz];cases P.info? t<;>rfl
@[go_sem] theorem jr:(zeroValue t).run (ah P fs) w=(zeroValue t).run P w:=by simp only[zeroValue,typeInfo,program,bind,Sem.bind,Sem.run,tz];cases P.info? t with|none=>rfl|some i=>simp only[Sem.bind,pure];cases i.zero<;>rfl
end
def dI(fs)(a:(Qs fs).funcs[63]? =some Tryz.f63)(n lo hi w):Calls (Qs fs) 63 #[.int .i64 n,.int .i64 lo,.int .i64 hi] w λe w'=>e=.returned (.bool (decide (lo<=n)&&decide (n<=hi)))/\w'=w:=by go_enter a,Tryz.ntmps63;go_wp2;all_goals (go_ret;simp;try omega)
def m7(fs)(a:(Qs fs).funcs[91]? =some Tryz.f91)(c w):Calls (Qs fs) 91 #[.int .u8 c] w λe w'=>e=.returned (.bool (decide (97<=c)&&decide (c<=122)))/\w'=w:=by go_enter a,Tryz.ntmps91;go_wp2;all_goals (go_ret;simp;try omega)
def nth:List Value->Nat->Value
 | [],_=>undef
 |x::_,0=>x
 |_::l,n+1=>nth l n
def GY:List Value->Nat->Value->List Value
 | [],_,_=>[]
 |_::l,0,v=>v::l
 |x::l,n+1,v=>x::GY l n v
def Agr(s:Array Bool):Nat->List Value->List Value->Prop
 |n,x::xs,v::a=>(s.getD n false=true->x=v)/\Agr s (n+1) xs a
 |_,[],[]=>True
 |_,_,_=>False
theorem Agr.got{s}:∀{n} {xs a},Agr s n xs a->∀k,s.getD (n+k) false=true->nth xs k=nth a k
 |_,[],[],_,_,_=>rfl
 |_,_::_,_::_,h,0,d=>h.1 d
 |n,_::_,_::_,h,k+1,d=>Agr.got h.2 k (by rw[Wb,VT 1 k];exact d)
def Agr.get{s xs a}(h:Agr s 0 xs a)(k)(d:s.getD k false=true):nth xs k=nth a k:=Agr.got h k (by rw[Uo];exact d)
theorem Agr.far{s j}:∀{n} {xs a},Agr s n xs a->j<n->Agr (s.setIfInBounds j true) n xs a
 |_,[],[],_,_=>trivial
 |n,_::_,_::_,h,b=>⟨λd=>h.1 (by rw[U7]at d⊢;rw[Ur (by omega)]at d;exact d),Agr.far h.2 (by omega)⟩
theorem Agr.put{s}(v):∀{n} {xs a},Agr s n xs a->∀k,Agr (s.setIfInBounds (n+k) true) n (GY xs k v) (GY a k v)
 |_,[],[],_,_=>trivial
 |n,_::_,_::_,h,0=>⟨λ_=>rfl,Agr.far h.2 (Vk n)⟩
 |n,_::_,_::_,h,k+1=>⟨λd=>h.1 (by
  rw[U7]at d⊢;rw[Ur (by omega)]at d;exact d),by
  have b:=Agr.put v h.2 k;rw[Wb,VT 1 k]at b;exact b⟩
def Agr.GZ{s xs a}(h:Agr s 0 xs a)(k v):Agr (s.setIfInBounds k true) 0 (GY xs k v) (GY a k v):=by have b:=Agr.put v h k;rw[Uo]at b;exact b
theorem Ef:∀(a) (k),GY a k (nth a k)=a
 | [],_=>rfl
 |_::_,0=>rfl
 |x::l,k+1=>UQ (x:: ·) (Ef l k)
def Agr.set{s xs vs}(h:Agr s 0 xs vs)(k):Agr (s.setIfInBounds k true) 0 (GY xs k (nth vs k)) vs:=by have a:=h.GZ k (nth vs k);rw[Ef]at a;exact a
theorem Agr.start{k}:∀{n xs b},xs.length=b.length->Agr (Array.replicate k false) n xs b
 |_,[],[],_=>trivial
 |_,[],_::_,a=>by cases a
 |_,_::_,[],a=>by cases a
 |n,_::_,_::_,a=>⟨λd=>by rw[U7,Xu]at d;split at d<;>exact absurd d (by decide),Agr.start (Nat.succ.inj a)⟩
def Agr.dep{s xs b}(h:Agr s 0 xs b){md}{o:Oper}(a:∀e∈o.after,Region.binds md e=true->s.getD e.on false=true)(p:Nat){e}(c:o.after[p]? =some e)(d:Region.binds md e=true):nth xs e.on=nth b e.on:=h.get _ (a _ (UZ c) d)
def pv{md}{o:Oper}{s:Array Bool}(a:∀e∈o.after,Region.binds md e=true->s.getD e.on false=true){n}(h:((List.range n).all λk=>o.after.any λe=>e.on==k&&Region.binds md e)=true)(k)(b:k<n):s.getD k false=true:=by obtain⟨e,c,h⟩:=Array.any_eq_true'.1 (UJ.1 h k (Xb.2 b));simp only[Un,U3]at h;rw[<-h.1];exact a e c h.2
end Go.Proofs
namespace Go.Proofs
open Go.Tm Go.RowKit
structure Stp(n B:Nat)(W W':World):Prop where
 os:W'.os=W.os
 tape:W'.tape=W.tape
 output:W'.output=W.output
 size:W.heap.size<=W'.heap.size
 block:∀b,b<n->b≠B->W'.heap[b]? =W.heap[b]?
def Stp.refl(n B W):Stp n B W W:=⟨rfl,rfl,rfl,Ue _,λ_ _ _=>rfl⟩
def Stp.trans{n B W c W2}(h:Stp n B W c)(k:Stp n B c W2):Stp n B W W2:=⟨k.os.trans h.os,k.tape.trans h.tape,k.output.trans h.output,Uf h.size k.size,λb d e=>(k.block b d e).trans (h.block b d e)⟩
def Stp.mono{n m B W W'}(h:Stp n B W W')(d:m<=n):Stp m B W W':=⟨h.os,h.tape,h.output,h.size,λb e c=>h.block b (by omega) c⟩
def Stp.Di{n B W W'}(h:Below n W W'):Stp n B W W':=⟨h.os,h.tape,h.output,h.size,λb c _=>h.block b c⟩
def Stp.setCell{n B}(W o v):Stp n B W (W.setCell ⟨B,o,none⟩ v):=⟨rfl,rfl,rfl,by show W.heap.size<=(W.heap.modify _ _).size;rw[Array.size_modify];exact Ue _,λb _ h=>Below.heap_setCell W ⟨B,o,none⟩ v b h⟩
def Stp.putObj{n B W l}(o')(c:n<=l):Stp n B W (W.putObj l o'):=⟨rfl,rfl,rfl,by simp,λb h _=>World.putObj_heap_other (by omega)⟩
section
variable {α:Type} {F:Fence} {n:Nat} {P:Program} {g:Operand} {ps:Array Tmp} {assign body:Code} {Q:Exit->Act->World->Prop} {a:Act} {w:World}
def yQ(G:F.round=none)(h1:1<=n){gf:Nat}{lb:Array Value}(hg:a.eval g=.func (.func gf) #[] lb)(H:F.fn gf)(eg:∀args w,(callFunc gf args).run P w=.ok (.enter gf args) w) {encs:α->Array Value} (L:∀x,(encs x).size=ps.size) (M N:Nat) (ad:M<w.heap.size) (af:N<w.heap.size) (xs:List α) (I:List α->World->Prop) (i:∀pre W l o o',w.heap.size<=l->W.heap[l]? =some o->o.isCells=false->I pre W->I pre (W.putObj l o')) (s:∀pre W c,Stp W.heap.size M W c->I pre W->I pre c) (h0:I [] w) (u:∀(l:Nat) (J:List α->World->Prop) (W:World),Below w.heap.size w W->(∀pre W c,Stp W.heap.size M W c->J pre W->J pre c)->(∀pre x W1,J pre W1->pre++[x]<+:xs->YieldAt F (n-1-1) P l (encs x) W1 λe c=>e=.returned (.bool true)/\J (pre++[x]) c/\Stp w.heap.size N W1 c)->J [] W->CallsIn F (n-1) P gf (#[.func (.yield l) #[] #[]]++lb) W λe c=>(∃v,e=.returned v)/\J xs c) (h:α->Act) (d:∀(l:Nat) (x:α) (W:World) (K:Act->World->Prop),K (h x) W->assign.wpIn (F.inRound l) (n-1-1) P (Exit.then K (λ_ _ _=>False)) {tmps:=(ps.zip (encs x)).foldl (λt (p,v)=>t.setIfInBounds p v) a.tmps,defers:=[]} W) (j:∀(l:Nat) (pre:List α) (x:α) (W:World),I pre W->pre++[x]<+:xs->w.heap.size+2<=W.heap.size->body.wpIn (F.inRound l) (n-1-1) P (λe _ c=>e=.normal/\I (pre++[x]) c/\Stp (w.heap.size+2) N W c) (h x) W) (k:∀(D:Nat) (W:World),w.heap.size<=D->I xs W->W.heap[D]? =some (.deferred (some []))->Q .normal {a with defers:={target:=.collected D,args:=#[]}::a.defers} W):(Code.rangeFunc g ps assign body).wpIn F n P Q a w:=by
 refine wpIn_rangeFunc ?_;intro fn O;rw[G];obtain⟨rec,b⟩:∃rec:LoopState->Option Code->Loop,rec=λst pe=>{state:=st,pending:=pe,fn,tmps:=a.tmps,params:=ps,assign,body,defers:=w.heap.size}:=⟨_,rfl⟩
 obtain⟨W1,f⟩:∃W1,(w.alloc (.deferred (some []))).alloc (.loop (rec .ready none))=W1:=⟨_,rfl⟩
 have R:W1.heap[w.heap.size+1]? =some (.loop (rec .ready none)):=by rw[<-f];have:=World.alloc_heap_new (w.alloc (.deferred (some []))) (.loop (rec .ready none));rwa[World.size_alloc]at this
 have S:W1.heap[w.heap.size]? =some (.deferred (some [])):=by rw[<-f];exact(Below.heap_alloc _ _ _ (by simp)).trans (World.alloc_heap_new w _)
 have y:Below w.heap.size w W1:=by rw[<-f];exact((Below.refl _ w).alloc (Ue _) _).alloc (by simp) _
 have T:=s _ _ _ (Stp.Di y) h0;refine⟨w.heap.size+1,[{target:=.collected w.heap.size,args:=#[]}],W1,{target:=.fn (.func gf) lb,args:=#[.func (.yield (w.heap.size+1)) #[] #[]]},W1,gf,#[.func (.yield (w.heap.size+1)) #[] #[]]++lb,W1,?_,?_,?_,?_,λ_=>h1,?_⟩;rw[<-f,b];exact run_enterLoop_outer _ _ _ _ _
 ·simp only[resolve,hg];simp[go_sem]
 intro f' z;simp[Target.leads]at z;subst z;exact H
 ·simp[invoke,go_sem,eg]
 refine(u (w.heap.size+1) (λpre W=>I pre W/\W.heap[w.heap.size+1]? =some (.loop (rec .ready none))/\W.heap[w.heap.size]? =some (.deferred (some [])))
  W1 y (λpre A B U C=>⟨s _ _ _ U C.1,(U.block _ (Uk.1 C.2.1).1 (by omega)).trans C.2.1,(U.block _ (Uk.1 C.2.2).1 (by omega)).trans C.2.2⟩) ?_ ⟨T,R,S⟩).mono ?_
 rintro pre x W ⟨hi,m,V⟩ E;have X:=(Uk.1 m).1;have hy:=run_yield (P:=P) (args:=encs x) m (by rw[b];exact L x);rw[b]at hy;refine⟨fn,_,assign,body,hy,roundIn_of_wpIn O (d _ x W _ ?_)⟩;refine⟨_,run_beginRound m (by rw[b]),?_⟩;have Y:(W.putObj (w.heap.size+1) (.loop {rec .ready none with state:=.busy})).heap[w.heap.size+1]? =some (.loop {rec .ready none with state:=.busy}):=World.putObj_heap_same X;have Z:(W.putObj (w.heap.size+1) (.loop {rec .ready none with state:=.busy})).heap[w.heap.size]? =some (.deferred (some [])):=(World.putObj_heap_other (by omega)).trans V;refine wpIn_mono (j _ pre x _ (i _ _ _ _ _ (by omega) m rfl hi) E (by simp;omega)) ?_;rintro e a3 W3 ⟨rfl,aa,q⟩;have r:=(q.block (w.heap.size+1) (by omega) (by omega)).trans Y;have ab:=(q.block w.heap.size (by omega) (by omega)).trans Z;have hr:=run_endRound (P:=P) none r;rw[b]at hr;refine⟨_,_,hr,⟨rfl,⟨i _ _ _ _ _ (by omega) r rfl aa,?_,?_⟩,?_⟩⟩;rw[b];exact World.putObj_heap_same (Uk.1 r).1;exact(World.putObj_heap_other (by omega)).trans ab;exact((Stp.putObj _ (by omega)).trans (q.mono (by omega))).trans (Stp.putObj _ (by omega));rintro e W2 ⟨⟨v,rfl⟩,hi,m,V⟩;exact⟨none,_,by have:=run_endLoop (P:=P) m (by rw[b];simp);rw[b]at this;exact this,k _ _ (Ue _) (i _ _ _ _ _ (by omega) m rfl hi) ((World.putObj_heap_other (by omega)).trans V)⟩
end
abbrev Pr2:=ByteArray×ByteArray
structure fT where
 name:ByteArray
 aP:List Pr2
structure Table where
 aq:List Pr2
 au:List fT
 bz:List (List ByteArray)
structure Mark where
 name:ByteArray
 word:ByteArray
 aW:List Int
 day:Int
 known:Bool
structure vu where
 kind:Int
 least:Int
 plain:Int
 known:Int
structure Case where
 table:Table
 rules:List vu
 new:Mark
 marks:List Mark
 kin:List Int
def L6(K:Nat->Prop)(w:World)(b:Option Addr):Prop:=∀a,b=some a->a.spot=none/\K a.block/\∃c e F,w.heap[a.block]? =some (.cells c e F)
def aE{e:Type}(K:Nat->Prop)(f:Nat)(E:(Nat->Prop)->World->Nat->Nat->e->Prop)(w:World)(v:Value)(l:List e):Prop:=∃d c,v=.slice d l.length c/\l.length<=c/\c<=9223372036854775807/\(c=0\/L6 K w d)/\∀k (h:k<l.length),∃b a,d=some ⟨b,a,none⟩/\E K w b (a+k*f) l[k]
def kG(K:Nat->Prop)(w:World)(b o:Nat)(s:ByteArray):Prop:=w.cell? ⟨b,o,none⟩=some (.string s)
def dG(K:Nat->Prop)(w:World)(b o:Nat)(n:Int):Prop:=w.cell? ⟨b,o,none⟩=some (.int .i64 n)
def dA(K:Nat->Prop)(w:World)(b o:Nat)(p:Pr2):Prop:=w.cell? ⟨b,o,none⟩=some (.string p.1)/\w.cell? ⟨b,o+1,none⟩=some (.string p.2)
def jJ(K:Nat->Prop)(w:World)(b o:Nat)(l:List ByteArray):Prop:=∃v,w.cell? ⟨b,o,none⟩=some v/\aE K 1 kG w v l
def eZ(K:Nat->Prop)(w:World)(b o:Nat)(t:fT):Prop:=w.cell? ⟨b,o,none⟩=some (.string t.name)/\∃v,w.cell? ⟨b,o+1,none⟩=some v/\aE K 2 dA w v t.aP
def pO(K:Nat->Prop)(w:World)(b o:Nat)(m:Mark):Prop:=w.cell? ⟨b,o,none⟩=some (.string m.name)/\w.cell? ⟨b,o+1,none⟩=some (.string m.word)/\(∃v,w.cell? ⟨b,o+2,none⟩=some v/\aE K 1 dG w v m.aW)/\w.cell? ⟨b,o+3,none⟩=some (.int .i64 m.day)/\w.cell? ⟨b,o+4,none⟩=some (.bool m.known)
def pP(K:Nat->Prop)(w:World)(b o:Nat)(r:vu):Prop:=w.cell? ⟨b,o,none⟩=some (.int .i64 r.kind)/\w.cell? ⟨b,o+1,none⟩=some (.int .i64 r.least)/\w.cell? ⟨b,o+2,none⟩=some (.int .i64 r.plain)/\w.cell? ⟨b,o+3,none⟩=some (.int .i64 r.known)
def IsTable(K:Nat->Prop)(w:World)(v0 v1 v2:Value)(t:Table):Prop:=aE K 2 dA w v0 t.aq/\aE K 2 eZ w v1 t.au/\aE K 1 jJ w v2 t.bz
def bP(K:Nat->Prop)(w:World)(sc:Array Value)(c:Case):Prop:=∃v0 v1 v2 a b d e,sc=#[v0,v1,v2,a,.string c.new.name,.string c.new.word,b,.int .i64 c.new.day,.bool c.new.known,d,e]/\IsTable K w v0 v1 v2 c.table/\aE K 4 pP w a c.rules/\aE K 1 dG w b c.new.aW/\aE K 5 pO w d c.marks/\aE K 1 dG w e c.kin
inductive TV(σ:Nat->Nat->Prop)(K':Nat->Prop)(w':World):Bool->Value->Value->Prop
 |bool {q} (b):TV σ K' w' q (.bool b) (.bool b)
 |int {q} (k n):TV σ K' w' q (.int k n) (.int k n)
 |string {q} (s):TV σ K' w' q (.string s) (.string s)
 |iL {q} (l c):TV σ K' w' q (.slice none l c) (.slice none l c)
 |slice {q} {b b' o:Nat} (l c):σ b b'->K' b'->(∃c e F,w'.heap[b']? =some (.cells c e F))->TV σ K' w' q (.slice (some ⟨b,o,none⟩) l c) (.slice (some ⟨b',o,none⟩) l c)
 |empty (a a':Option Addr):TV σ K' w' false (.slice a 0 0) (.slice a' 0 0)
inductive CV(K:Nat->Prop)(w:World):Bool->Value->Prop
 |bool {q} (b):CV K w q (.bool b)
 |int {q} (k n):CV K w q (.int k n)
 |string {q} (s):CV K w q (.string s)
 |slice {q} {ao:Option Addr} (l c):L6 K w ao->CV K w q (.slice ao l c)
 |empty (ao:Option Addr):CV K w false (.slice ao 0 0)
def TV.cv{σ K' w' v V}(h:TV σ K' w' true v V):CV K' w' true V:=by cases h with|bool=>exact .bool _|int=>exact .int _ _|string=>exact .string _|iL=>exact .slice _ _ λa e=>by cases e|slice l c f b d=>exact .slice _ _ λa e=>by cases e;exact⟨rfl,b,d⟩
def fV(K:Nat->Prop)(w:World)(sc:Array Value):Prop:=∀v∈sc,CV K w true v
structure Carry(σ:Nat->Nat->Prop)(K K':Nat->Prop)(w w':World):Prop where
 fn:∀b b' b'',σ b b'->σ b b''->b'=b''
 cell:∀b b' o v,σ b b'->w.cell? ⟨b,o,none⟩=some v->CV K w false v->∃v',w'.cell? ⟨b',o,none⟩=some v'/\TV σ K' w' false v v'
section
variable {σ:Nat->Nat->Prop} {K K':Nat->Prop} {w w':World}
def aE.cv{a b E v}{l:List a}(h:aE K b E w v l):CV K w false v:=by obtain⟨e,c,rfl,d,_,hk,_⟩:=h;obtain rfl|hk:=hk;rw[Nat.le_zero.1 d];exact .empty _;exact .slice _ _ hk
def aE.carry{u j E}(y:∀b f o x,σ b f->E K w b o x->E K' w' f o x){q}{v m}{l:List u}(p:TV σ K' w' q v m)(h:aE K j E w v l):aE K' j E w' m l:=by obtain⟨G,c,rfl,r,s,H,t⟩:=h;generalize g:l.length=n at p;cases p with|empty _ z=>have e:l=[]:=UH g;subst e;exact⟨z,0,rfl,Ue _,by omega,.inl rfl,λk d=>absurd d (by simp)⟩|iL=>subst g;refine⟨none,c,rfl,r,s,.inr ?_,?_⟩;intro a e;cases e;intro k d;obtain⟨b,i,e,_⟩:=t k d;cases e| @slice _ b f o _ _ A B D=>subst g;refine⟨some ⟨f,o,none⟩,c,rfl,r,s,.inr ?_,?_⟩;intro a e;cases e;exact⟨rfl,B,D⟩;intro k d;obtain⟨I,i,e,F⟩:=t k d;cases e;exact⟨f,o,rfl,y _ _ _ _ A F⟩
variable (C:Carry σ K K' w w')
include C
def kG.carry(b a o:Nat)(s:ByteArray)(c:σ b a)(h:kG K w b o s):kG K' w' a o s:=by obtain⟨v,d,e⟩:=C.cell b a o _ c h (.string s);cases e;exact d
def dG.carry(b a o:Nat)(n:Int)(c:σ b a)(h:dG K w b o n):dG K' w' a o n:=by obtain⟨v,d,e⟩:=C.cell b a o _ c h (.int _ n);cases e;exact d
def Gf(b a o:Nat)(x:Bool)(c:σ b a)(h:w.cell? ⟨b,o,none⟩=some (.bool x)):w'.cell? ⟨a,o,none⟩=some (.bool x):=by obtain⟨v,d,e⟩:=C.cell b a o _ c h (.bool x);cases e;exact d
def dA.carry(b a o:Nat)(p:Pr2)(c:σ b a)(h:dA K w b o p):dA K' w' a o p:=⟨kG.carry C b a o _ c h.1,kG.carry C b a (o+1) _ c h.2⟩
def pP.carry(b a o:Nat)(r:vu)(c:σ b a)(h:pP K w b o r):pP K' w' a o r:=⟨dG.carry C b a o _ c h.1,dG.carry C b a (o+1) _ c h.2.1,dG.carry C b a (o+2) _ c h.2.2.1,dG.carry C b a (o+3) _ c h.2.2.2⟩
def jJ.carry(b a o:Nat)(l:List ByteArray)(d:σ b a)(h:jJ K w b o l):jJ K' w' a o l:=by obtain⟨v,e,c⟩:=h;obtain⟨f,g,i⟩:=C.cell b a o _ d e c.cv;exact⟨f,g,c.carry (kG.carry C) i⟩
def eZ.carry(b a o:Nat)(t:fT)(c:σ b a)(h:eZ K w b o t):eZ K' w' a o t:=by obtain⟨e,v,f,d⟩:=h;obtain⟨g,i,j⟩:=C.cell b a (o+1) _ c f d.cv;exact⟨kG.carry C b a o _ c e,g,i,d.carry (dA.carry C) j⟩
def pO.carry(b a o:Nat)(m:Mark)(c:σ b a)(h:pO K w b o m):pO K' w' a o m:=by obtain⟨e,f,⟨v,g,d⟩,i,j⟩:=h;obtain⟨k,l,n⟩:=C.cell b a (o+2) _ c g d.cv;exact⟨kG.carry C b a o _ c e,kG.carry C b a (o+1) _ c f,⟨k,l,d.carry (dG.carry C) n⟩,dG.carry C b a (o+3) _ c i,Gf C b a (o+4) _ c j⟩
def IsTable.carry{v0 v1 v2 a b c:Value}{t:Table}{q}(d:TV σ K' w' q v0 a)(e:TV σ K' w' q v1 b)(f:TV σ K' w' q v2 c)(h:IsTable K w v0 v1 v2 t):IsTable K' w' a b c t:=⟨h.1.carry (dA.carry C) d,h.2.1.carry (eZ.carry C) e,h.2.2.carry (jJ.carry C) f⟩
def bP.carry{sc e:Array Value}{c:Case}(b:e.size=sc.size)(a:∀(i:Nat) v V,sc[i]? =some v->e[i]? =some V->CV K w false v->TV σ K' w' false v V)(h:bP K w sc c):bP K' w' e c:=by (obtain⟨v0,v1,v2,s,t,u,x,rfl,f,j,k,l,m⟩:=h;obtain⟨L⟩:=e;have b:L.length=11:=by simpa using b);match L,b with| [n,a1,o,p,y,z,q,A,B,r,d],_=>have D:=a 0 v0 n rfl rfl f.1.cv;have E:=a 1 v1 a1 rfl rfl f.2.1.cv;have F:=a 2 v2 o rfl rfl f.2.2.cv;have G:=a 3 s p rfl rfl j.cv;have H:=a 4 _ y rfl rfl (.string _);have I:=a 5 _ z rfl rfl (.string _);have J:=a 6 t q rfl rfl k.cv;have M:=a 7 _ A rfl rfl (.int _ _);have N:=a 8 _ B rfl rfl (.bool _);have O:=a 9 u r rfl rfl l.cv;have g:=a 10 x d rfl rfl m.cv;cases H;cases I;cases M;cases N;exact⟨n,a1,o,p,q,r,d,rfl,f.carry C D E F,j.carry (pP.carry C) G,k.carry (dG.carry C) J,l.carry (pO.carry C) O,m.carry (dG.carry C) g⟩
end
def Carry.keep{K:Nat->Prop}{w w':World}(h:∀(b:Nat) c e f,w.heap[b]? =some (.cells c e f)->w'.heap[b]? =some (.cells c e f)):Carry (λa b=>a=b) K K w w' where
 fn _ _ _ h1 h2:=h1.symm.trans h2
 cell b b' o v hs hc hv:=by
  subst hs;have d:w'.cell? ⟨b,o,none⟩=some v:=by
   unfold World.cell? at hc⊢
   revert hc
   simp only[];cases i:w.heap[b]? with
   |none=>intro h;cases h
   |some o'=>
    cases o' with
    |cells g e F=>intro hc;rw[h b g e F i];exact hc
    |_=>intro h;cases h
  refine⟨v,d,?_⟩;cases hv with
  |bool=>exact .bool _
  |int=>exact .int _ _
  |string=>exact .string _
  |empty=>exact .empty _ _
  | @slice _ j l c k=>
   cases j with
   |none=>exact .iL _ _
   |some a=>obtain⟨b,o,p⟩:=a;obtain⟨h1,h2,g,e,F,m⟩:=k _ rfl;simp only[]at h1;subst h1;exact .slice _ _ rfl h2 ⟨_,_,_,h _ _ _ _ m⟩
def TV.self{K w w'}(h:∀(b:Nat) c e f,w.heap[b]? =some (.cells c e f)->w'.heap[b]? =some (.cells c e f)){q}{v}(g:CV K w q v):TV (λa b=>a=b) K w' q v v:=by cases g with|bool=>exact .bool _|int=>exact .int _ _|string=>exact .string _|empty=>exact .empty _ _| @slice _ i l c j=>cases i with|none=>exact .iL _ _|some a=>obtain⟨b,o,p⟩:=a;obtain⟨d,k,n,e,F,m⟩:=j _ rfl;simp only[]at d;subst d;exact .slice _ _ rfl k ⟨_,_,_,h _ _ _ _ m⟩
def ae(w w':World):Prop:=∀(b:Nat) c e f,w.heap[b]? =some (.cells c e f)->w'.heap[b]? =some (.cells c e f)
def ae.refl(w):ae w w:=λ_ _ _ _ h=>h
def ae.trans{a b c}(h:ae a b)(k:ae b c):ae a c:=λx _ _ _ d=>k x _ _ _ (h x _ _ _ d)
def ae.below{w w'}(h:Below w.heap.size w w'):ae w w':=λb c e f a=>(h.block b (Uk.1 a).1).trans a
def aE.stays{d K a E w w'}(e:ae w w')(f:∀b c o x,b=c->E K w b o x->E K w' c o x){v}{l:List d}(h:aE K a E w v l):aE K a E w' v l:=h.carry f (TV.self e h.cv)
def IsTable.stays{K w w'}(a:ae w w'){v0 v1 v2 t}(h:IsTable K w v0 v1 v2 t):IsTable K w' v0 v1 v2 t:=h.carry (Carry.keep a) (TV.self a h.1.cv) (TV.self a h.2.1.cv) (TV.self a h.2.2.cv)
def bP.stays{K w w'}(a:ae w w'){sc c}(h:bP K w sc c):bP K w' sc c:=h.carry (Carry.keep a) rfl λi v V d b e=>by rw[d]at b;cases b;exact TV.self a e
end Go.Proofs
namespace Go.Proofs
open Go.Tm Go.Shelf
def gI:List Nat:=[3,4,5,6,7,8,9,10,11,12,13,14,15,16,17,18,19,20,21,22,23,24,25,26,27,28,29,30,31,32,33,34,35,36,37,38,39,40,41,42,43,44,45,46,47,48,49,50,51,52,53,54,55,56,57,58,59,60,61,62,63,64,65,66,67,68,69,70,71,72,73,75,76,77,78,79,80,81,82,83,84,85,86,87,88,89,90,91,92,93,94,95,96,97,98,99,100,101,102,103,104,105,106,107,108,109,110,111,112,113,114,115,116,117,118,119,120,121,125,128,129,130,131,132,133,134,135,136,137,138,139,140,141,142,143,162,163,164,165,166,167,173,174,175,176,177,178,179,180,181,182,183,184,185,186,187,188,189,190,191,192,193,194,195,196,197,198,199,200,201,202,203,204,205,206,207,208,209,210,211,212,230,231,232,233,234,235,236,237,238,239,240,241,242,243,244,245]
noncomputable def nS:Func:={Tryz.f95 with body:=some (.seq (.region 0 #[⟨some 2,.assign (.const (.string ⟨#[]⟩)),9,"builder.go:46",#[],none⟩] false) (.seq (.region 1 #[⟨some 3,.move (.tmp 0),151,"builder.go:47",#[],none⟩,⟨some 4,.nilCheck (.tmp 3),0,"builder.go:47",#[⟨0,.data⟩],none⟩,⟨some 5,.fieldAddr 153 (.tmp 4) 1,0,"builder.go:47",#[⟨1,.data⟩],none⟩,⟨some 6,.load 120 (.tmp 5),120,"builder.go:47",#[⟨2,.data⟩],none⟩,⟨some 7,.call ⟨.builtin .unsafeSliceData,#[.tmp 6],#[120]⟩,qG,"builder.go:47",#[⟨3,.data⟩],none⟩,⟨some 8,.move (.tmp 0),151,"builder.go:47",#[],none⟩,⟨some 9,.nilCheck (.tmp 8),0,"builder.go:47",#[⟨5,.data⟩],none⟩,⟨some 10,.fieldAddr 153 (.tmp 9) 1,0,"builder.go:47",#[⟨6,.data⟩],none⟩,⟨some 11,.load 120 (.tmp 10),120,"builder.go:47",#[⟨7,.data⟩],none⟩,⟨some 12,.call ⟨.builtin .len,#[.tmp 11],#[120]⟩,3,"builder.go:47",#[⟨8,.data⟩],none⟩,⟨some 13,.call ⟨.builtin .unsafeString,#[.tmp 7,.tmp 12],#[203,3]⟩,9,"builder.go:47",#[⟨4,.data⟩,⟨9,.data⟩],none⟩,⟨some 2,.assign (.tmp 13),9,"builder.go:47",#[⟨10,.data⟩,⟨0,.phase⟩,⟨1,.phase⟩,⟨2,.phase⟩,⟨3,.phase⟩,⟨4,.phase⟩,⟨5,.phase⟩,⟨6,.phase⟩,⟨7,.phase⟩,⟨8,.phase⟩,⟨9,.phase⟩,⟨10,.phase⟩],none⟩] true) .ret))}
def Ge:Tryz.f95.body.map gS=nS.body:=by kernel_rfl
def bT(fs:Array Func):Prop:=(∀i∈gI,i≠95->(Qs fs).funcs[i]? =Tryz.prog.funcs[i]?)/\(Qs fs).funcs[95]? =some nS
section
variable {fs:Array Func} (L:bT fs)
def nOf(i:Nat)(h:i∈gI:=by decide)(k:i≠95:=by decide):=L.1 i h k
def n3:=(nOf L 3).trans Tryz.func3
def n4:=(nOf L 4).trans Tryz.func4
def n5:=(nOf L 5).trans Tryz.func5
def n6:=(nOf L 6).trans Tryz.func6
def n7:=(nOf L 7).trans Tryz.func7
def n8:=(nOf L 8).trans Tryz.func8
def n9:=(nOf L 9).trans Tryz.func9
def n10:=(nOf L 10).trans Tryz.func10
def n11:=(nOf L 11).trans Tryz.func11
def n12:=(nOf L 12).trans Tryz.func12
def n13:=(nOf L 13).trans Tryz.func13
def n14:=(nOf L 14).trans Tryz.func14
def n15:=(nOf L 15).trans Tryz.func15
def n16:=(nOf L 16).trans Tryz.func16
def n17:=(nOf L 17).trans Tryz.func17
def n18:=(nOf L 18).trans Tryz.func18
def n20:=(nOf L 20).trans Tryz.func20
def n21:=(nOf L 21).trans Tryz.func21
def n22:=(nOf L 22).trans Tryz.func22
def n25:=(nOf L 25).trans Tryz.func25
def n28:=(nOf L 28).trans Tryz.func28
def n29:=(nOf L 29).trans Tryz.func29
def n31:=(nOf L 31).trans Tryz.func31
def n36:=(nOf L 36).trans Tryz.func36
def n37:=(nOf L 37).trans Tryz.func37
def n38:=(nOf L 38).trans Tryz.func38
def n40:=(nOf L 40).trans Tryz.func40
def n46:=(nOf L 46).trans Tryz.func46
def n50:=(nOf L 50).trans Tryz.func50
def n51:=(nOf L 51).trans Tryz.func51
def n52:=(nOf L 52).trans Tryz.func52
def n53:=(nOf L 53).trans Tryz.func53
def n54:=(nOf L 54).trans Tryz.func54
def n55:=(nOf L 55).trans Tryz.func55
def n56:=(nOf L 56).trans Tryz.func56
def n57:=(nOf L 57).trans Tryz.func57
def n58:=(nOf L 58).trans Tryz.func58
def n59:=(nOf L 59).trans Tryz.func59
def n60:=(nOf L 60).trans Tryz.func60
def n61:=(nOf L 61).trans Tryz.func61
def n62:=(nOf L 62).trans Tryz.func62
def n63:=(nOf L 63).trans Tryz.func63
def n64:=(nOf L 64).trans Tryz.func64
def n65:=(nOf L 65).trans Tryz.func65
def n66:=(nOf L 66).trans Tryz.func66
def n67:=(nOf L 67).trans Tryz.func67
def n70:=(nOf L 70).trans Tryz.func70
def n71:=(nOf L 71).trans Tryz.func71
def n72:=(nOf L 72).trans Tryz.func72
def n73:=(nOf L 73).trans Tryz.func73
def n77:=(nOf L 77).trans Tryz.func77
def n78:=(nOf L 78).trans Tryz.func78
def n79:=(nOf L 79).trans Tryz.func79
def n80:=(nOf L 80).trans Tryz.func80
def n81:=(nOf L 81).trans Tryz.func81
def n82:=(nOf L 82).trans Tryz.func82
def n83:=(nOf L 83).trans Tryz.func83
def n84:=(nOf L 84).trans Tryz.func84
def n85:=(nOf L 85).trans Tryz.func85
def n88:=(nOf L 88).trans Tryz.func88
def n89:=(nOf L 89).trans Tryz.func89
def n91:=(nOf L 91).trans Tryz.func91
def n93:=(nOf L 93).trans Tryz.func93
def n94:=(nOf L 94).trans Tryz.func94
def n95:=L.2
def n96:=(nOf L 96).trans Tryz.func96
def n97:=(nOf L 97).trans Tryz.func97
def n98:=(nOf L 98).trans Tryz.func98
def n99:=(nOf L 99).trans Tryz.func99
def n100:=(nOf L 100).trans Tryz.func100
def n101:=(nOf L 101).trans Tryz.func101
def n102:=(nOf L 102).trans Tryz.func102
def n103:=(nOf L 103).trans Tryz.func103
def n104:=(nOf L 104).trans Tryz.func104
def n105:=(nOf L 105).trans Tryz.func105
def n106:=(nOf L 106).trans Tryz.func106
def n107:=(nOf L 107).trans Tryz.func107
def n108:=(nOf L 108).trans Tryz.func108
def n109:=(nOf L 109).trans Tryz.func109
def n110:=(nOf L 110).trans Tryz.func110
def n111:=(nOf L 111).trans Tryz.func111
def n112:=(nOf L 112).trans Tryz.func112
def n113:=(nOf L 113).trans Tryz.func113
def n114:=(nOf L 114).trans Tryz.func114
def n115:=(nOf L 115).trans Tryz.func115
def n116:=(nOf L 116).trans Tryz.func116
def n117:=(nOf L 117).trans Tryz.func117
def n118:=(nOf L 118).trans Tryz.func118
def n119:=(nOf L 119).trans Tryz.func119
def n120:=(nOf L 120).trans Tryz.func120
def n121:=(nOf L 121).trans Tryz.func121
def n125:=(nOf L 125).trans Tryz.func125
def n128:=(nOf L 128).trans Tryz.func128
def n129:=(nOf L 129).trans Tryz.func129
def n130:=(nOf L 130).trans Tryz.func130
def n131:=(nOf L 131).trans Tryz.func131
def n132:=(nOf L 132).trans Tryz.func132
def n133:=(nOf L 133).trans Tryz.func133
def n134:=(nOf L 134).trans Tryz.func134
def n135:=(nOf L 135).trans Tryz.func135
def n136:=(nOf L 136).trans Tryz.func136
def n137:=(nOf L 137).trans Tryz.func137
def n138:=(nOf L 138).trans Tryz.func138
def n139:=(nOf L 139).trans Tryz.func139
def n140:=(nOf L 140).trans Tryz.func140
def n141:=(nOf L 141).trans Tryz.func141
def n142:=(nOf L 142).trans Tryz.func142
def n143:=(nOf L 143).trans Tryz.func143
def n162:=(nOf L 162).trans Tryz.func162
def n163:=(nOf L 163).trans Tryz.func163
def n165:=(nOf L 165).trans Tryz.func165
def n166:=(nOf L 166).trans Tryz.func166
def n167:=(nOf L 167).trans Tryz.func167
def n173:=(nOf L 173).trans Tryz.func173
def n174:=(nOf L 174).trans Tryz.func174
def n175:=(nOf L 175).trans Tryz.func175
def n176:=(nOf L 176).trans Tryz.func176
def n179:=(nOf L 179).trans Tryz.func179
def n180:=(nOf L 180).trans Tryz.func180
def n181:=(nOf L 181).trans Tryz.func181
def n183:=(nOf L 183).trans Tryz.func183
def n192:=(nOf L 192).trans Tryz.func192
def n193:=(nOf L 193).trans Tryz.func193
def n194:=(nOf L 194).trans Tryz.func194
def n230:=(nOf L 230).trans Tryz.func230
def n231:=(nOf L 231).trans Tryz.func231
def n232:=(nOf L 232).trans Tryz.func232
def n233:=(nOf L 233).trans Tryz.func233
def n234:=(nOf L 234).trans Tryz.func234
def n235:=(nOf L 235).trans Tryz.func235
def n236:=(nOf L 236).trans Tryz.func236
def n237:=(nOf L 237).trans Tryz.func237
def n238:=(nOf L 238).trans Tryz.func238
def n239:=(nOf L 239).trans Tryz.func239
def n240:=(nOf L 240).trans Tryz.func240
def n241:=(nOf L 241).trans Tryz.func241
def n242:=(nOf L 242).trans Tryz.func242
def n243:=(nOf L 243).trans Tryz.func243
def n244:=(nOf L 244).trans Tryz.func244
def n245:=(nOf L 245).trans Tryz.func245
def eOf{P:Program}{f:FuncId}{fn:Func}{c:Code}(b:P.funcs[f]? =some fn)(d:(fn.name== "runtime.NumGoroutine")=false:=by kernel_rfl)(e:fn.body=some c:=by rfl):=λa w=>enters_of b d e a w
def e3:=eOf (n3 L)
def e4:=eOf (n4 L)
def e5:=eOf (n5 L)
def e6:=eOf (n6 L)
def e7:=eOf (n7 L)
def e8:=eOf (n8 L)
def e10:=eOf (n10 L)
def e11:=eOf (n11 L)
def e16:=eOf (n16 L)
def e17:=eOf (n17 L)
def e18:=eOf (n18 L)
def e20:=eOf (n20 L)
def e21:=eOf (n21 L)
def e22:=eOf (n22 L)
def e25:=eOf (n25 L)
def e28:=eOf (n28 L)
def e29:=eOf (n29 L)
def e31:=eOf (n31 L)
def e36:=eOf (n36 L)
def e37:=eOf (n37 L)
def e38:=eOf (n38 L)
def e40:=eOf (n40 L)
def e46:=eOf (n46 L)
def e50:=eOf (n50 L)
def e51:=eOf (n51 L)
def e52:=eOf (n52 L)
def e53:=eOf (n53 L)
def e54:=eOf (n54 L)
def e55:=eOf (n55 L)
def e56:=eOf (n56 L)
def e57:=eOf (n57 L)
def e58:=eOf (n58 L)
def e59:=eOf (n59 L)
def e60:=eOf (n60 L)
def e61:=eOf (n61 L)
def e62:=eOf (n62 L)
def e63:=eOf (n63 L)
def e64:=eOf (n64 L)
def e65:=eOf (n65 L)
def e66:=eOf (n66 L)
def e67:=eOf (n67 L)
def e70:=eOf (n70 L)
def e71:=eOf (n71 L)
def e72:=eOf (n72 L)
def e73:=eOf (n73 L)
def e78:=eOf (n78 L)
def e79:=eOf (n79 L)
def e80:=eOf (n80 L)
def e81:=eOf (n81 L)
def e82:=eOf (n82 L)
def e83:=eOf (n83 L)
def e84:=eOf (n84 L)
def e85:=eOf (n85 L)
def e88:=eOf (n88 L)
def e91:=eOf (n91 L)
def e93:=eOf (n93 L)
def e94:=eOf (n94 L)
def e95:=eOf (n95 L)
def e96:=eOf (n96 L)
def e97:=eOf (n97 L)
def e98:=eOf (n98 L)
def e99:=eOf (n99 L)
def RM:=eOf (n100 L)
def TE:=eOf (n101 L)
def OU:=eOf (n102 L)
def RN:=eOf (n103 L)
def TF:=eOf (n104 L)
def RP:=eOf (n105 L)
def TG:=eOf (n106 L)
def RQ:=eOf (n107 L)
def TH:=eOf (n108 L)
def OV:=eOf (n109 L)
def RR:=eOf (n110 L)
def RS:=eOf (n111 L)
def RU:=eOf (n112 L)
def RV:=eOf (n113 L)
def TJ:=eOf (n114 L)
def RX:=eOf (n115 L)
def RY:=eOf (n116 L)
def RZ:=eOf (n117 L)
def OW:=eOf (n118 L)
def R2:=eOf (n119 L)
def OX:=eOf (n120 L)
def TK:=eOf (n121 L)
def R3:=eOf (n129 L)
def R4:=eOf (n130 L)
def R5:=eOf (n131 L)
def QL:=eOf (n132 L)
def OY:=eOf (n133 L)
def OZ:=eOf (n134 L)
def R6:=eOf (n135 L)
def TL:=eOf (n136 L)
def R7:=eOf (n137 L)
def R8:=eOf (n138 L)
def R9:=eOf (n139 L)
def Sd:=eOf (n140 L)
def Se:=eOf (n141 L)
def Sf:=eOf (n142 L)
def Sg:=eOf (n143 L)
def O0:=eOf (n162 L)
def Si:=eOf (n163 L)
def Sj:=eOf (n165 L)
def Sk:=eOf (n166 L)
def Sl:=eOf (n167 L)
def O2:=eOf (n173 L)
def O3:=eOf (n174 L)
def Sm:=eOf (n175 L)
def Sn:=eOf (n176 L)
def O4:=eOf (n179 L)
def Sp:=eOf (n180 L)
def Sq:=eOf (n181 L)
def O5:=eOf (n183 L)
def Sr:=eOf (n192 L)
def Ss:=eOf (n193 L)
def Su:=eOf (n194 L)
def TM:=eOf (n230 L)
def JK:=eOf (n231 L)
def TN:=eOf (n232 L)
def TO:=eOf (n233 L)
def Sv:=eOf (n234 L)
def Sw:=eOf (n235 L)
def TP:=eOf (n236 L)
def SD:=eOf (n237 L)
def TQ:=eOf (n238 L)
def SE:=eOf (n239 L)
def TR:=eOf (n240 L)
def SF:=eOf (n241 L)
def SG:=eOf (n242 L)
def SH:=eOf (n243 L)
def SI:=eOf (n244 L)
def SJ:=eOf (n245 L)
end
end Go.Proofs
namespace Go.Proofs
abbrev Bs:=List UInt8
def aQ(c:UInt8):Bool:=decide (97<=(c.toNat:Int))&&decide ((c.toNat:Int)<=122)
def js(c:UInt8):Bool:=decide (48<=(c.toNat:Int))&&decide ((c.toNat:Int)<=57)
def aw(n lo hi:Int):Bool:=decide (lo<=n)&&decide (n<=hi)
def bc(s:ByteArray)(lo hi:Int):Bool:=aw s.size lo hi&&s.data.toList.all aQ
def gV(c:UInt8):Bool:=c==10||c==58||c==59||c==44
def bd(s:ByteArray)(hi:Int):Bool:=aw s.size 1 hi&& !s.data.toList.any gV
def cu(s:ByteArray):Bool:=aw s.size 1 10&&(s.data.toList.head?.any aQ)&&s.data.toList.all λc=>aQ c||js c
def fp{a:Type}(chk:List a->a->Int)(seen:List a):List a->Int
 | []=>0
 |x::xs=>if chk seen x≠0 then chk seen x else fp chk (seen++[x]) xs
def aT{a:Type}(lo hi:Int)(chk:List a->a->Int)(l:List a):Int:=if aw l.length lo hi then fp chk [] l else 2
def letterF(seen:List Pr2)(p:Pr2):Int:=if !bd p.1 4 then 3 else if seen.any (λq=>decide (q.1=p.1))then 5 else if !bc p.2 1 3 then 3 else 0
def dQ(_:List Pr2)(p:Pr2):Int:=if !bc p.1 1 3|| !bc p.2 0 p.1.size then 3 else 0
def de(seen:List fT)(t:fT):Int:=if !cu t.name then 4 else if seen.any (λq=>decide (q.name=t.name))then 5 else aT 0 5 dQ t.aP
def ju(seen:List ByteArray)(s:ByteArray):Int:=if !bc s 1 48 then 3 else if seen.any (λq=>decide (q=s))then 5 else 0
def gJ(_:List (List ByteArray))(l:List ByteArray):Int:=aT 2 4 ju l
def bj(t:Table):Int:=
 let a:=aT 0 12 letterF t.aq
 if a≠0 then a else
 let b:=aT 0 3 de t.au
 if b≠0 then b else aT 0 4 gJ t.bz
def codeF(seen:List Int)(n:Int):Int:=if !aw n 0 999 then 1 else if seen.getLast?.any (λq=>decide (n<=q))then 7 else 0
def dB(m:Mark):Int:=
 if !cu m.name then 4 else if !m.word.data.toList.isEmpty&& !bd m.word 16 then 3 else
 let f:=aT 0 5 codeF m.aW
 if f≠0 then f else if !aw m.day 0 99999 then 1 else 0
def jV(_:List vu)(r:vu):Int:=if !aw r.kind 0 5|| !aw r.least 1 100|| !aw r.plain 0 9|| !aw r.known 0 9 then 1 else 0
def Gg(_:List Int)(n:Int):Int:=if !aw n 0 9 then 1 else 0
def qI(new:ByteArray)(seen:List Mark)(m:Mark):Int:=
 let f:=dB m
 if f≠0 then f else if decide (new=m.name)||seen.any (λq=>decide (q.name=m.name))then 5 else 0
def pQ(c:Case):Int:=
 let a:=bj c.table
 if a≠0 then a else
 let b:=aT 0 6 jV c.rules
 if b≠0 then b else
 let d:=dB c.new
 if d≠0 then d else
 let e:=aT 0 8 (qI c.new.name) c.marks
 if e≠0 then e else aT c.marks.length c.marks.length Gg c.kin
def bO(b:List Pr2)(rest:Bs):Option Pr2:=b.foldl (λa p=>if p.1.data.toList.isPrefixOf rest&&decide ((a.elim 0 λq=>q.1.size)<p.1.size)then some p else a) none
def iu(a:List Pr2):Nat->Bs->Bs
 |0,_=>[]
 |_,[]=>[]
 |n+1,c::cs=>
  match bO a (c::cs)with
  |some p=>p.2.data.toList++iu a n ((c::cs).drop p.1.size)
  |none=>(if aQ c then[c]else[])++iu a n cs
def aL(a:List Pr2)(w:Bs):Bs:=iu a w.length w
def cN(a b:Bs):Nat->Bs->Bs
 |0,s=>s
 |_,[]=>[]
 |n+1,c::cs=>if a.isPrefixOf (c::cs)then b++cN a b n ((c::cs).drop a.length)else c::cN a b n cs
def bN(p:Pr2)(s:Bs):Bs:=cN p.1.data.toList p.2.data.toList s.length s
def bl(t:Table)(k:Nat)(w:Bs):Bs:=((t.au[k]?.map (·.aP)).getD []).foldl (λs r=>bN r s) (aL t.aq w)
def nJ:Nat->Bs->Bs->Nat
 |_,[],b=>b.length
 |_,_::a,[]=>a.length+1
 |0,_::_,_::_=>0
 |n+1,x::a,y::b=>if x=y then nJ n a b else 1+min (nJ n a b) (min (nJ n a (y::b)) (nJ n (x::a) b))
def aK(a b:Bs):Nat:=nJ (a.length+b.length) a b
def tA(n b):nJ n [] b=b.length:=by cases n<;>rfl
def qJ(n a):nJ n a []=a.length:=by cases n<;>cases a<;>rfl
theorem gK:∀(n m) (a b),a.length+b.length<=n->a.length+b.length<=m->nJ n a b=nJ m a b
 |n,m,[],b,_,_=>by rw[tA,tA]
 |n,m,x::a,[],_,_=>by rw[qJ,qJ]
 |0,_,x::a,y::b,h,_=>by simp at h
 |n+1,0,x::a,y::b,_,h=>by simp at h
 |n+1,m+1,x::a,y::b,c,d=>by simp only[Ug]at c d;unfold nJ;rw[gK n m a b (by omega) (by omega),gK n m a (y::b) (by simp only[Ug];omega) (by simp only[Ug];omega),gK n m (x::a) b (by simp only[Ug];omega) (by simp only[Ug];omega)]
def Qx(b):aK [] b=b.length:=tA _ b
def L8(a):aK a []=a.length:=qJ _ a
def Qy(x y)(a b:Bs):aK (x::a) (y::b)=if x=y then aK a b else 1+min (aK a b) (min (aK a (y::b)) (aK (x::a) b)):=by have e:aK (x::a) (y::b)=nJ ((a.length+b.length+1)+1) (x::a) (y::b):=gK _ _ _ _ (Ue _) (by simp only[Ug];omega);rw[e];unfold nJ aK;rw[gK (a.length+b.length+1) (a.length+b.length) a b (by omega) (Ue _),gK (a.length+b.length+1) (a.length+(y::b).length) a (y::b) (by simp only[Ug];omega) (Ue _),gK (a.length+b.length+1) ((x::a).length+b.length) (x::a) b (by simp only[Ug];omega) (Ue _)]
def bH(a b:Bs):Int:=if a.isEmpty||b.isEmpty then 0 else(100*((max a.length b.length:Nat)-(aK a b:Int)))/(max a.length b.length:Nat)
def pI(a b:Bs):Int:=
 let(x,y):=if a.length>b.length then(b,a)else(a,b)
 if x.length<3|| !x.isPrefixOf y&& !x.isSuffixOf y then 0 else(100*x.length:Int)/(y.length:Int)
def gL(t:Table)(a b:Bs):Int:=if t.bz.any (λl=>l.any (λs=>s.data.toList==a)&&l.any (λs=>s.data.toList==b))||(a==b&& !a.isEmpty)then 100 else 0
def bD(l other:List Int):List Int:=l.filter λn=> !other.contains n
def aO(l:List Int)(n:Int):Nat:=(l.filter λx=>x/100==n).length
def bX(a b:List Int):Int:=
 if a.isEmpty||b.isEmpty then 0 else
 let x:=bD a b;let y:=bD b a;let c:=((List.range 10).map λ(n:Nat)=>min (aO x n) (aO y n)).sum
 (100*(2*(a.length-x.length)+c:Nat):Int)/(a.length+b.length:Nat)
def bE(t:Table)(kind:Int)(one two:Mark):Int:=
 let a:=aL t.aq one.word.data.toList;let b:=aL t.aq two.word.data.toList
 if kind=0 then bH a b
 else if kind=1 then(List.range t.au.length).foldl (λc k=>max c (bH (bl t k one.word.data.toList) (bl t k two.word.data.toList))) 0
 else if kind=2 then gL t a b
 else if kind=3 then bH a b.reverse
 else if kind=4 then pI a b
 else bX one.aW two.aW
structure Dj where
 days:Int
 level:Int
 kin:Int
deriving DecidableEq
def mA(c:Case)(m:Mark)(kin:Int)(r:vu):Dj:=
 let a:=if m.known then min r.plain r.known else r.plain
 ⟨max 0 (m.day+1-c.new.day),max 0 (r.least-bE c.table r.kind c.new m),max 0 (a-kin)⟩
def eD(c:Case)(m:Mark)(kin:Int):Nat->List vu->Option (Nat×Int)
 |_,[]=>none
 |i,r::a=>if mA c m kin r=⟨0,0,0⟩then some (i,bE c.table r.kind c.new m)else eD c m kin (i+1) a
structure Hit where
 mark:Int
 eo:Int
 level:Int
deriving DecidableEq
def iv(c:Case)(i:Nat):Option Hit:=
 match c.marks[i]?,c.kin[i]? with
 |some m,some k=>(eD c m k 0 c.rules).map λx=>⟨i,x.1,x.2⟩
 |_,_=>none
def gX(c:Case)(i:Int):Int:=(c.marks[i.toNat]?.map (·.day)).getD 0
def aU(c:Case)(a b:Hit):Bool:=
 if a.eo≠b.eo then decide (a.eo<b.eo)else if a.level≠b.level then decide (b.level<a.level)else
 if gX c a.mark≠gX c b.mark then decide (gX c a.mark<gX c b.mark)else decide (a.mark<b.mark)
def eE(c:Case)(h:Hit):List Hit->List Hit
 | []=>[h]
 |x::xs=>if aU c x h then x::eE c h xs else h::x::xs
def cj(c:Case):List Hit:=((List.range c.marks.length).filterMap (iv c)).foldl (λl h=>eE c h l) []
end Go.Proofs

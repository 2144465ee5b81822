import Derived.Test.YtaglpcmhopjebaaGreatDoorProg
import Derived.WalkKit
import Derived.WalkSpells
import Derived.WalkLawsBesides
import Derived.RangeFuncNested
import Derived.RangeFuncBound
import Derived.RangeFuncCalls
import Derived.Shelf.Abstract
import Derived.Test.YtaglpcmhopjebaaGreatDoorY1
set_option linter.all false
set_option maxRecDepth 100000
set_option maxHeartbeats 20000000
namespace Go.Proofs
open Go.Tm
noncomputable abbrev Qs(fs:Array Func):Program:=ah Tryz.prog fs
section
variable (P:Program) (fs:Array Func) (t:TypeId) (w:World)
@[go_sem] theorem si:(ah P fs).info? t=P.info? t:=rfl
@[go_sem] theorem aH:(ah P fs).underlying t=P.underlying t:=rfl
@[go_sem] theorem zM:(isAgg t).run (ah P fs) w=(isAgg t).run P w:=by
 simp only[isAgg,underlying,program,bind,Sem.bind,Sem.run,aH];cases P.underlying t with
 |none=>rfl
 |some d=>cases d<;>rfl
@[go_sem] theorem uT:(Go.sizeOf t).run (ah P fs) w=(Go.sizeOf t).run P w:=by simp only[Go.sizeOf,typeInfo,program,bind,Sem.bind,Sem.run,si];cases P.info? t<;>rfl
@[go_sem] theorem gD:(zeroValue t).run (ah P fs) w=(zeroValue t).run P w:=by
 simp only[zeroValue,typeInfo,program,bind,Sem.bind,Sem.run,si];cases P.info? t with
 |none=>rfl
 |some i=>simp only[Sem.bind,pure];cases i.zero<;>rfl
end
def cj(fs)(a:(Qs fs).funcs[63]? =some Tryz.f63)(n b c w):
 Calls (Qs fs) 63 #[.int .i64 n,.int .i64 b,.int .i64 c] w λe w'=>e=.returned (.bool (decide (b<=n)&&decide (n<=c)))/\w'=w:=by
 go_enter a,Tryz.ntmps63;go_wp2;all_goals (go_ret;simp;try omega)
def eY(fs)(a:(Qs fs).funcs[91]? =some Tryz.f91)(c w):
 Calls (Qs fs) 91 #[.int .u8 c] w λe w'=>e=.returned (.bool (decide (97<=c)&&decide (c<=122)))/\w'=w:=by
 go_enter a,Tryz.ntmps91;go_wp2;all_goals (go_ret;simp;try omega)
def nth:List Value->Nat->Value
 | [],_=>undef
 |x::_,0=>x
 |_::l,n+1=>nth l n
def EY:List Value->Nat->Value->List Value
 | [],_,_=>[]
 |_::l,0,v=>v::l
 |x::l,n+1,v=>x::EY l n v
def Agr(s:Array Bool):Nat->List Value->List Value->Prop
 |n,x::xs,v::a=>(s.getD n false=true->x=v)/\Agr s (n+1) xs a
 |_,[],[]=>True
 |_,_,_=>False
theorem Agr.got{s}:∀{n} {xs a},Agr s n xs a->∀k,s.getD (n+k) false=true->nth xs k=nth a k
 |_,[],[],_,_,_=>rfl
 |_,_::_,_::_,h,0,d=>h.1 d
 |n,_::_,_::_,h,k+1,d=>Agr.got h.2 k (by rw[TR,Tu 1 k];exact d)
def Agr.get{s xs a}(h:Agr s 0 xs a)(k)(d:s.getD k false=true):nth xs k=nth a k:=Agr.got h k (by rw[RB];exact d)
theorem Agr.far{s j}:∀{n} {xs a},Agr s n xs a->j<n->Agr (s.setIfInBounds j true) n xs a
 |_,[],[],_,_=>trivial
 |n,_::_,_::_,h,b=>⟨λd=>h.1 (by rw[Sw]at d⊢;rw[RH (by omega)]at d;exact d),Agr.far h.2 (by omega)⟩
theorem Agr.put{s}(v):∀{n} {xs a},Agr s n xs a->∀k,Agr (s.setIfInBounds (n+k) true) n (EY xs k v) (EY a k v)
 |_,[],[],_,_=>trivial
 |n,_::_,_::_,h,0=>⟨λ_=>rfl,Agr.far h.2 (To n)⟩
 |n,_::_,_::_,h,k+1=>⟨λd=>h.1 (by
  rw[Sw]at d⊢;rw[RH (by omega)]at d;exact d),by
  have b:=Agr.put v h.2 k;rw[TR,Tu 1 k]at b;exact b⟩
def Agr.EZ{s xs a}(h:Agr s 0 xs a)(k v):Agr (s.setIfInBounds k true) 0 (EY xs k v) (EY a k v):=by have b:=Agr.put v h k;rw[RB]at b;exact b
theorem Cw:∀(a) (k),EY a k (nth a k)=a
 | [],_=>rfl
 |_::_,0=>rfl
 |x::l,k+1=>R6 (x:: ·) (Cw l k)
def Agr.set{s xs vs}(h:Agr s 0 xs vs)(k):Agr (s.setIfInBounds k true) 0 (EY xs k (nth vs k)) vs:=by have a:=h.EZ k (nth vs k);rw[Cw]at a;exact a
theorem Agr.start{k}:∀{n xs b},xs.length=b.length->Agr (Array.replicate k false) n xs b
 |_,[],[],_=>trivial
 |_,[],_::_,a=>by cases a
 |_,_::_,[],a=>by cases a
 |n,_::_,_::_,a=>⟨λd=>by rw[Sw,UL]at d;split at d<;>exact absurd d (by decide),Agr.start (Nat.succ.inj a)⟩
def Agr.dep{s xs b}(h:Agr s 0 xs b){md}{o:Oper}(a:∀e∈o.after,Region.binds md e=true->s.getD e.on false=true)(p:Nat){e}(c:o.after[p]? =some e)(d:Region.binds md e=true):nth xs e.on=nth b e.on:=h.get _ (a _ (SO c) d)
def oJ{md}{o:Oper}{s:Array Bool}(a:∀e∈o.after,Region.binds md e=true->s.getD e.on false=true){n}(h:((List.range n).all λk=>o.after.any λe=>e.on==k&&Region.binds md e)=true)(k)(b:k<n):s.getD k false=true:=by obtain⟨e,c,h⟩:=Array.any_eq_true'.1 (Sm.1 h k (Uq.2 b));simp only[RD,Sq]at h;rw[<-h.1];exact a e c h.2
end Go.Proofs
namespace Go.Proofs
open Go.Tm Go.RowKit
structure Stp(n B:Nat)(W W':World):Prop where
 os:W'.os=W.os
 tape:W'.tape=W.tape
 output:W'.output=W.output
 size:W.heap.size<=W'.heap.size
 block:∀b,b<n->b≠B->W'.heap[b]? =W.heap[b]?
def Stp.refl(n B W):Stp n B W W:=⟨rfl,rfl,rfl,Rq _,λ_ _ _=>rfl⟩
def Stp.trans{n B W c W2}(h:Stp n B W c)(k:Stp n B c W2):Stp n B W W2:=⟨k.os.trans h.os,k.tape.trans h.tape,k.output.trans h.output,Rr h.size k.size,λb d e=>(k.block b d e).trans (h.block b d e)⟩
def Stp.mono{n m B W W'}(h:Stp n B W W')(d:m<=n):Stp m B W W':=⟨h.os,h.tape,h.output,h.size,λb e c=>h.block b (by omega) c⟩
def Stp.Bj{n B W W'}(h:Below n W W'):Stp n B W W':=⟨h.os,h.tape,h.output,h.size,λb c _=>h.block b c⟩
def Stp.setCell{n B}(W o v):Stp n B W (W.setCell ⟨B,o,none⟩ v):=⟨rfl,rfl,rfl,by show W.heap.size<=(W.heap.modify _ _).size;rw[Array.size_modify];exact Rq _,λb _ h=>Below.heap_setCell W ⟨B,o,none⟩ v b h⟩
def Stp.putObj{n B W l}(o')(c:n<=l):Stp n B W (W.putObj l o'):=⟨rfl,rfl,rfl,by simp,λb h _=>World.putObj_heap_other (by omega)⟩
section
variable {α:Type} {F:Fence} {n:Nat} {P:Program} {g:Operand} {ps:Array Tmp} {assign body:Code} {Q:Exit->Act->World->Prop} {a:Act} {w:World}
def xz(G:F.round=none)(h1:1<=n){gf:Nat}{lb:Array Value}(hg:a.eval g=.func (.func gf) #[] lb)(H:F.fn gf)(eg:∀args w,(callFunc gf args).run P w=.ok (.enter gf args) w)
 {encs:α->Array Value} (L:∀x,(encs x).size=ps.size) (M N:Nat) (af:M<w.heap.size) (ag:N<w.heap.size) (xs:List α)
 (I:List α->World->Prop) (i:∀pre W l o o',w.heap.size<=l->W.heap[l]? =some o->o.isCells=false->I pre W->I pre (W.putObj l o')) (s:∀pre W c,Stp W.heap.size M W c->I pre W->I pre c) (h0:I [] w)
 (u:∀(l:Nat) (J:List α->World->Prop) (W:World),Below w.heap.size w W->(∀pre W c,Stp W.heap.size M W c->J pre W->J pre c)->
  (∀pre x W1,J pre W1->pre++[x]<+:xs->YieldAt F (n-1-1) P l (encs x) W1 λe c=>e=.returned (.bool true)/\J (pre++[x]) c/\Stp w.heap.size N W1 c)->J [] W->
  CallsIn F (n-1) P gf (#[.func (.yield l) #[] #[]]++lb) W λe c=>(∃v,e=.returned v)/\J xs c)
 (h:α->Act)
 (d:∀(l:Nat) (x:α) (W:World) (K:Act->World->Prop),K (h x) W->assign.wpIn (F.inRound l) (n-1-1) P (Exit.then K (λ_ _ _=>False)) {tmps:=(ps.zip (encs x)).foldl (λt (p,v)=>t.setIfInBounds p v) a.tmps,defers:=[]} W)
 (j:∀(l:Nat) (pre:List α) (x:α) (W:World),I pre W->pre++[x]<+:xs->w.heap.size+2<=W.heap.size->body.wpIn (F.inRound l) (n-1-1) P (λe _ c=>e=.normal/\I (pre++[x]) c/\Stp (w.heap.size+2) N W c) (h x) W)
 (k:∀(D:Nat) (W:World),w.heap.size<=D->I xs W->W.heap[D]? =some (.deferred (some []))->Q .normal {a with defers:={target:=.collected D,args:=#[]}::a.defers} W):
 (Code.rangeFunc g ps assign body).wpIn F n P Q a w:=by
 refine wpIn_rangeFunc ?_;intro fn O;rw[G];obtain⟨rec,b⟩:∃rec:LoopState->Option Code->Loop,rec=λst pe=>{state:=st,pending:=pe,fn,tmps:=a.tmps,params:=ps,assign,body,defers:=w.heap.size}:=⟨_,rfl⟩
 obtain⟨W1,f⟩:∃W1,(w.alloc (.deferred (some []))).alloc (.loop (rec .ready none))=W1:=⟨_,rfl⟩
 have R:W1.heap[w.heap.size+1]? =some (.loop (rec .ready none)):=by rw[<-f];have:=World.alloc_heap_new (w.alloc (.deferred (some []))) (.loop (rec .ready none));rwa[World.size_alloc]at this
 have S:W1.heap[w.heap.size]? =some (.deferred (some [])):=by rw[<-f];exact(Below.heap_alloc _ _ _ (by simp)).trans (World.alloc_heap_new w _)
 have y:Below w.heap.size w W1:=by rw[<-f];exact((Below.refl _ w).alloc (Rq _) _).alloc (by simp) _
 have T:=s _ _ _ (Stp.Bj y) h0;refine⟨w.heap.size+1,[{target:=.collected w.heap.size,args:=#[]}],W1,{target:=.fn (.func gf) lb,args:=#[.func (.yield (w.heap.size+1)) #[] #[]]},W1,gf,#[.func (.yield (w.heap.size+1)) #[] #[]]++lb,W1,?_,?_,?_,?_,λ_=>h1,?_⟩
 ·rw[<-f,b];exact run_enterLoop_outer _ _ _ _ _
 ·simp only[resolve,hg]
  simp[go_sem]
 ·intro f' z;simp[Target.leads]at z;subst z;exact H
 ·simp[invoke,go_sem,eg]
 ·refine(u (w.heap.size+1) (λpre W=>I pre W/\W.heap[w.heap.size+1]? =some (.loop (rec .ready none))/\W.heap[w.heap.size]? =some (.deferred (some [])))
   W1 y (λpre A B U C=>⟨s _ _ _ U C.1,(U.block _ (Rx.1 C.2.1).1 (by omega)).trans C.2.1,(U.block _ (Rx.1 C.2.2).1 (by omega)).trans C.2.2⟩) ?_ ⟨T,R,S⟩).mono ?_
  ·rintro pre x W ⟨V,m,X⟩ E
   have Y:=(Rx.1 m).1;have hy:=run_yield (P:=P) (args:=encs x) m (by rw[b];exact L x);rw[b]at hy;refine⟨fn,_,assign,body,hy,roundIn_of_wpIn O (d _ x W _ ?_)⟩;refine⟨_,run_beginRound m (by rw[b]),?_⟩;have Z:(W.putObj (w.heap.size+1) (.loop {rec .ready none with state:=.busy})).heap[w.heap.size+1]? =some (.loop {rec .ready none with state:=.busy}):=World.putObj_heap_same Y;have aa:(W.putObj (w.heap.size+1) (.loop {rec .ready none with state:=.busy})).heap[w.heap.size]? =some (.deferred (some [])):=(World.putObj_heap_other (by omega)).trans X;refine wpIn_mono (j _ pre x _ (i _ _ _ _ _ (by omega) m rfl V) E (by simp;omega)) ?_;rintro e a3 W3 ⟨rfl,ab,q⟩;have r:=(q.block (w.heap.size+1) (by omega) (by omega)).trans Z;have ad:=(q.block w.heap.size (by omega) (by omega)).trans aa;have hr:=run_endRound (P:=P) none r;rw[b]at hr;refine⟨_,_,hr,⟨rfl,⟨i _ _ _ _ _ (by omega) r rfl ab,?_,?_⟩,?_⟩⟩
   ·rw[b];exact World.putObj_heap_same (Rx.1 r).1
   ·exact(World.putObj_heap_other (by omega)).trans ad
   ·exact((Stp.putObj _ (by omega)).trans (q.mono (by omega))).trans (Stp.putObj _ (by omega))
  ·rintro e W2 ⟨⟨v,rfl⟩,V,m,X⟩
   exact⟨none,_,by have:=run_endLoop (P:=P) m (by rw[b];simp);rw[b]at this;exact this,k _ _ (Rq _) (i _ _ _ _ _ (by omega) m rfl V) ((World.putObj_heap_other (by omega)).trans X)⟩
end
abbrev Pr2:=ByteArray×ByteArray
structure kY where
 name:ByteArray
 aY:List Pr2
structure Table where
 aC:List Pr2
 aO:List kY
 iy:List (List ByteArray)
structure Mark where
 name:ByteArray
 word:ByteArray
 aW:List Int
 day:Int
 known:Bool
structure ug where
 kind:Int
 least:Int
 plain:Int
 known:Int
structure Case where
 table:Table
 rules:List ug
 new:Mark
 marks:List Mark
 kin:List Int
def JF(K:Nat->Prop)(w:World)(ao:Option Addr):Prop:=∀a,ao=some a->a.spot=none/\K a.block/\∃c e F,w.heap[a.block]? =some (.cells c e F)
def aB{d:Type}(K:Nat->Prop)(e:Nat)(E:(Nat->Prop)->World->Nat->Nat->d->Prop)(w:World)(v:Value)(l:List d):Prop:=∃ao c,v=.slice ao l.length c/\l.length<=c/\c<=9223372036854775807/\JF K w ao/\∀k (h:k<l.length),∃b a,ao=some ⟨b,a,none⟩/\E K w b (a+k*e) l[k]
def kF(K:Nat->Prop)(w:World)(b o:Nat)(s:ByteArray):Prop:=w.cell? ⟨b,o,none⟩=some (.string s)
def dn(K:Nat->Prop)(w:World)(b o:Nat)(n:Int):Prop:=w.cell? ⟨b,o,none⟩=some (.int .i64 n)
def dC(K:Nat->Prop)(w:World)(b o:Nat)(p:Pr2):Prop:=w.cell? ⟨b,o,none⟩=some (.string p.1)/\w.cell? ⟨b,o+1,none⟩=some (.string p.2)
def j9(K:Nat->Prop)(w:World)(b o:Nat)(l:List ByteArray):Prop:=∃v,w.cell? ⟨b,o,none⟩=some v/\aB K 1 kF w v l
def fW(K:Nat->Prop)(w:World)(b o:Nat)(t:kY):Prop:=w.cell? ⟨b,o,none⟩=some (.string t.name)/\∃v,w.cell? ⟨b,o+1,none⟩=some v/\aB K 2 dC w v t.aY
def o0(K:Nat->Prop)(w:World)(b o:Nat)(m:Mark):Prop:=w.cell? ⟨b,o,none⟩=some (.string m.name)/\w.cell? ⟨b,o+1,none⟩=some (.string m.word)/\(∃v,w.cell? ⟨b,o+2,none⟩=some v/\aB K 1 dn w v m.aW)/\w.cell? ⟨b,o+3,none⟩=some (.int .i64 m.day)/\w.cell? ⟨b,o+4,none⟩=some (.bool m.known)
def o6(K:Nat->Prop)(w:World)(b o:Nat)(r:ug):Prop:=w.cell? ⟨b,o,none⟩=some (.int .i64 r.kind)/\w.cell? ⟨b,o+1,none⟩=some (.int .i64 r.least)/\w.cell? ⟨b,o+2,none⟩=some (.int .i64 r.plain)/\w.cell? ⟨b,o+3,none⟩=some (.int .i64 r.known)
def IsTable(K:Nat->Prop)(w:World)(v0 v1 v2:Value)(t:Table):Prop:=aB K 2 dC w v0 t.aC/\aB K 2 fW w v1 t.aO/\aB K 1 j9 w v2 t.iy
def bl(K:Nat->Prop)(w:World)(sc:Array Value)(c:Case):Prop:=∃v0 v1 v2 a b d e,sc=#[v0,v1,v2,a,.string c.new.name,.string c.new.word,b,.int .i64 c.new.day,.bool c.new.known,d,e]/\IsTable K w v0 v1 v2 c.table/\aB K 4 o6 w a c.rules/\aB K 1 dn w b c.new.aW/\aB K 5 o0 w d c.marks/\aB K 1 dn w e c.kin
inductive TV(σ:Nat->Nat->Prop)(K':Nat->Prop)(w':World):Value->Value->Prop
 |bool (b):TV σ K' w' (.bool b) (.bool b)
 |int (k n):TV σ K' w' (.int k n) (.int k n)
 |string (s):TV σ K' w' (.string s) (.string s)
 |js (l c):TV σ K' w' (.slice none l c) (.slice none l c)
 |slice {b b' o:Nat} (l c):σ b b'->K' b'->(∃c e F,w'.heap[b']? =some (.cells c e F))->TV σ K' w' (.slice (some ⟨b,o,none⟩) l c) (.slice (some ⟨b',o,none⟩) l c)
inductive CV(K:Nat->Prop)(w:World):Value->Prop
 |bool (b):CV K w (.bool b)
 |int (k n):CV K w (.int k n)
 |string (s):CV K w (.string s)
 |slice {ao:Option Addr} (l c):JF K w ao->CV K w (.slice ao l c)
structure Carry(σ:Nat->Nat->Prop)(K K':Nat->Prop)(w w':World):Prop where
 fn:∀b b' b'',σ b b'->σ b b''->b'=b''
 cell:∀b b' o v,σ b b'->w.cell? ⟨b,o,none⟩=some v->CV K w v->∃v',w'.cell? ⟨b',o,none⟩=some v'/\TV σ K' w' v v'
section
variable {σ:Nat->Nat->Prop} {K K':Nat->Prop} {w w':World}
def aB.cv{a b E v}{l:List a}(h:aB K b E w v l):CV K w v:=by obtain⟨ao,c,rfl,_,_,d,_⟩:=h;exact .slice _ _ d
def aB.carry{q i E}(r:∀b f o x,σ b f->E K w b o x->E K' w' f o x){v j}{l:List q}(s:TV σ K' w' v j)(h:aB K i E w v l):aB K' i E w' j l:=by
 obtain⟨ao,c,rfl,m,n,A,p⟩:=h;cases s with
 |js=>
  refine⟨none,c,rfl,m,n,?_,?_⟩
  ·intro a e;cases e
  ·intro k d
   obtain⟨b,g,e,_⟩:=p k d;cases e
 | @slice b f o _ _ t u y=>
  refine⟨some ⟨f,o,none⟩,c,rfl,m,n,?_,?_⟩
  ·intro a e;cases e;exact⟨rfl,u,y⟩
  intro k d;obtain⟨b1,g,e,z⟩:=p k d;cases e;exact⟨f,o,rfl,r _ _ _ _ t z⟩
variable (C:Carry σ K K' w w')
include C
def kF.carry(b a o:Nat)(s:ByteArray)(c:σ b a)(h:kF K w b o s):kF K' w' a o s:=by obtain⟨v,d,e⟩:=C.cell b a o _ c h (.string s);cases e;exact d
def dn.carry(b a o:Nat)(n:Int)(c:σ b a)(h:dn K w b o n):dn K' w' a o n:=by obtain⟨v,d,e⟩:=C.cell b a o _ c h (.int _ n);cases e;exact d
def En(b a o:Nat)(x:Bool)(c:σ b a)(h:w.cell? ⟨b,o,none⟩=some (.bool x)):w'.cell? ⟨a,o,none⟩=some (.bool x):=by obtain⟨v,d,e⟩:=C.cell b a o _ c h (.bool x);cases e;exact d
def dC.carry(b a o:Nat)(p:Pr2)(c:σ b a)(h:dC K w b o p):dC K' w' a o p:=⟨kF.carry C b a o _ c h.1,kF.carry C b a (o+1) _ c h.2⟩
def o6.carry(b a o:Nat)(r:ug)(c:σ b a)(h:o6 K w b o r):o6 K' w' a o r:=⟨dn.carry C b a o _ c h.1,dn.carry C b a (o+1) _ c h.2.1,dn.carry C b a (o+2) _ c h.2.2.1,dn.carry C b a (o+3) _ c h.2.2.2⟩
def j9.carry(b a o:Nat)(l:List ByteArray)(d:σ b a)(h:j9 K w b o l):j9 K' w' a o l:=by obtain⟨v,e,c⟩:=h;obtain⟨f,g,i⟩:=C.cell b a o _ d e c.cv;exact⟨f,g,c.carry (kF.carry C) i⟩
def fW.carry(b a o:Nat)(t:kY)(c:σ b a)(h:fW K w b o t):fW K' w' a o t:=by obtain⟨e,v,f,d⟩:=h;obtain⟨g,i,j⟩:=C.cell b a (o+1) _ c f d.cv;exact⟨kF.carry C b a o _ c e,g,i,d.carry (dC.carry C) j⟩
def o0.carry(b a o:Nat)(m:Mark)(c:σ b a)(h:o0 K w b o m):o0 K' w' a o m:=by obtain⟨e,f,⟨v,g,d⟩,i,j⟩:=h;obtain⟨k,l,n⟩:=C.cell b a (o+2) _ c g d.cv;exact⟨kF.carry C b a o _ c e,kF.carry C b a (o+1) _ c f,⟨k,l,d.carry (dn.carry C) n⟩,dn.carry C b a (o+3) _ c i,En C b a (o+4) _ c j⟩
def IsTable.carry{v0 v1 v2 a b c:Value}{t:Table}(d:TV σ K' w' v0 a)(e:TV σ K' w' v1 b)(f:TV σ K' w' v2 c)(h:IsTable K w v0 v1 v2 t):IsTable K' w' a b c t:=⟨h.1.carry (dC.carry C) d,h.2.1.carry (fW.carry C) e,h.2.2.carry (j9.carry C) f⟩
def bl.carry{sc e:Array Value}{c:Case}(b:e.size=sc.size)(a:∀(i:Nat) v V,sc[i]? =some v->e[i]? =some V->CV K w v->TV σ K' w' v V)(h:bl K w sc c):bl K' w' e c:=by
 obtain⟨v0,v1,v2,s,t,u,x,rfl,f,j,k,l,m⟩:=h;obtain⟨L⟩:=e;have b:L.length=11:=by simpa using b
 match L,b with
 | [n,a1,o,p,y,z,q,A,B,r,d],_=>have D:=a 0 v0 n rfl rfl f.1.cv;have E:=a 1 v1 a1 rfl rfl f.2.1.cv;have F:=a 2 v2 o rfl rfl f.2.2.cv;have G:=a 3 s p rfl rfl j.cv;have H:=a 4 _ y rfl rfl (.string _);have I:=a 5 _ z rfl rfl (.string _);have J:=a 6 t q rfl rfl k.cv;have M:=a 7 _ A rfl rfl (.int _ _);have N:=a 8 _ B rfl rfl (.bool _);have O:=a 9 u r rfl rfl l.cv;have g:=a 10 x d rfl rfl m.cv;cases H;cases I;cases M;cases N;exact⟨n,a1,o,p,q,r,d,rfl,f.carry C D E F,j.carry (o6.carry C) G,k.carry (dn.carry C) J,l.carry (o0.carry C) O,m.carry (dn.carry C) g⟩
end
def Carry.keep{K:Nat->Prop}{w w':World}(h:∀(b:Nat) c e f,w.heap[b]? =some (.cells c e f)->w'.heap[b]? =some (.cells c e f)):Carry (λa b=>a=b) K K w w' where
 fn _ _ _ h1 h2:=h1.symm.trans h2
 cell b b' o v hs hc hv:=by
  subst hs;have d:w'.cell? ⟨b,o,none⟩=some v:=by
   unfold World.cell? at hc⊢
   revert hc
   simp only[];cases i:w.heap[b]? with
   |none=>intro h;cases h
   |some o'=>
    cases o' with
    |cells g e F=>intro hc;rw[h b g e F i];exact hc
    |_=>intro h;cases h
  refine⟨v,d,?_⟩;cases hv with
  |bool=>exact .bool _
  |int=>exact .int _ _
  |string=>exact .string _
  | @slice ao l c j=>
   cases ao with
   |none=>exact .js _ _
   |some a=>obtain⟨b,o,p⟩:=a;obtain⟨h1,h2,g,e,F,k⟩:=j _ rfl;simp only[]at h1;subst h1;exact .slice _ _ rfl h2 ⟨_,_,_,h _ _ _ _ k⟩
def TV.self{K w w'}(h:∀(b:Nat) c e f,w.heap[b]? =some (.cells c e f)->w'.heap[b]? =some (.cells c e f)){v}(g:CV K w v):TV (λa b=>a=b) K w' v v:=by
 cases g with
 |bool=>exact .bool _
 |int=>exact .int _ _
 |string=>exact .string _
 | @slice ao l c i=>
  cases ao with
  |none=>exact .js _ _
  |some a=>obtain⟨b,o,p⟩:=a;obtain⟨d,j,m,e,F,k⟩:=i _ rfl;simp only[]at d;subst d;exact .slice _ _ rfl j ⟨_,_,_,h _ _ _ _ k⟩
def ae(w w':World):Prop:=∀(b:Nat) c e f,w.heap[b]? =some (.cells c e f)->w'.heap[b]? =some (.cells c e f)
def ae.refl(w):ae w w:=λ_ _ _ _ h=>h
def ae.trans{a b c}(h:ae a b)(k:ae b c):ae a c:=λx _ _ _ d=>k x _ _ _ (h x _ _ _ d)
def ae.below{w w'}(h:Below w.heap.size w w'):ae w w':=λb c e f a=>(h.block b (Rx.1 a).1).trans a
def aB.stays{d K a E w w'}(e:ae w w')(f:∀b c o x,b=c->E K w b o x->E K w' c o x){v}{l:List d}(h:aB K a E w v l):aB K a E w' v l:=h.carry f (TV.self e h.cv)
def IsTable.stays{K w w'}(a:ae w w'){v0 v1 v2 t}(h:IsTable K w v0 v1 v2 t):IsTable K w' v0 v1 v2 t:=h.carry (Carry.keep a) (TV.self a h.1.cv) (TV.self a h.2.1.cv) (TV.self a h.2.2.cv)
def bl.stays{K w w'}(a:ae w w'){sc c}(h:bl K w sc c):bl K w' sc c:=h.carry (Carry.keep a) rfl λi v V d b e=>by rw[d]at b;cases b;exact TV.self a e
end Go.Proofs
namespace Go.Proofs
open Go.Tm Go.Shelf
def fK:List Nat:=[3,4,5,6,7,8,9,10,11,12,13,14,15,16,17,18,19,20,21,22,23,24,25,26,27,28,29,30,31,32,33,34,35,36,37,38,39,40,41,42,43,44,45,46,47,48,49,50,51,52,53,54,55,56,57,58,59,60,61,62,63,64,65,66,67,68,69,70,71,72,73,75,76,77,78,79,80,81,82,83,84,85,86,87,88,89,90,91,92,93,94,95,96,97,98,99,100,101,102,103,104,105,106,107,108,109,110,111,112,113,114,115,116,117,118,119,120,121,125,128,129,130,131,132,133,134,135,136,137,138,139,140,141,142,143,162,163,164,165,166,167,173,174,175,176,177,178,179,180,181,182,183,184,185,186,187,188,189,190,191,192,193,194,195,196,197,198,199,200,201,202,203,204,205,206,207,208,209,210,211,212,230,231,232,233,234,235,236,237,238,239,240,241,242,243,244,245]
def bQ(fs:Array Func):Prop:=∀i∈fK,(Qs fs).funcs[i]? =Tryz.prog.funcs[i]?
section
variable {fs:Array Func} (L:bQ fs)
def n3:=(L 3 (by decide)).trans Tryz.func3
def n4:=(L 4 (by decide)).trans Tryz.func4
def n5:=(L 5 (by decide)).trans Tryz.func5
def n6:=(L 6 (by decide)).trans Tryz.func6
def n7:=(L 7 (by decide)).trans Tryz.func7
def n8:=(L 8 (by decide)).trans Tryz.func8
def n9:=(L 9 (by decide)).trans Tryz.func9
def n10:=(L 10 (by decide)).trans Tryz.func10
def n11:=(L 11 (by decide)).trans Tryz.func11
def n12:=(L 12 (by decide)).trans Tryz.func12
def n13:=(L 13 (by decide)).trans Tryz.func13
def n14:=(L 14 (by decide)).trans Tryz.func14
def n15:=(L 15 (by decide)).trans Tryz.func15
def n17:=(L 17 (by decide)).trans Tryz.func17
def n18:=(L 18 (by decide)).trans Tryz.func18
def n20:=(L 20 (by decide)).trans Tryz.func20
def n22:=(L 22 (by decide)).trans Tryz.func22
def n25:=(L 25 (by decide)).trans Tryz.func25
def n28:=(L 28 (by decide)).trans Tryz.func28
def n29:=(L 29 (by decide)).trans Tryz.func29
def n31:=(L 31 (by decide)).trans Tryz.func31
def n36:=(L 36 (by decide)).trans Tryz.func36
def n37:=(L 37 (by decide)).trans Tryz.func37
def n38:=(L 38 (by decide)).trans Tryz.func38
def n40:=(L 40 (by decide)).trans Tryz.func40
def n46:=(L 46 (by decide)).trans Tryz.func46
def n47:=(L 47 (by decide)).trans Tryz.func47
def n50:=(L 50 (by decide)).trans Tryz.func50
def n51:=(L 51 (by decide)).trans Tryz.func51
def n52:=(L 52 (by decide)).trans Tryz.func52
def n53:=(L 53 (by decide)).trans Tryz.func53
def n54:=(L 54 (by decide)).trans Tryz.func54
def n55:=(L 55 (by decide)).trans Tryz.func55
def n56:=(L 56 (by decide)).trans Tryz.func56
def n57:=(L 57 (by decide)).trans Tryz.func57
def n62:=(L 62 (by decide)).trans Tryz.func62
def n63:=(L 63 (by decide)).trans Tryz.func63
def n64:=(L 64 (by decide)).trans Tryz.func64
def n65:=(L 65 (by decide)).trans Tryz.func65
def n66:=(L 66 (by decide)).trans Tryz.func66
def n67:=(L 67 (by decide)).trans Tryz.func67
def n70:=(L 70 (by decide)).trans Tryz.func70
def n71:=(L 71 (by decide)).trans Tryz.func71
def n72:=(L 72 (by decide)).trans Tryz.func72
def n73:=(L 73 (by decide)).trans Tryz.func73
def n77:=(L 77 (by decide)).trans Tryz.func77
def n78:=(L 78 (by decide)).trans Tryz.func78
def n79:=(L 79 (by decide)).trans Tryz.func79
def n80:=(L 80 (by decide)).trans Tryz.func80
def n81:=(L 81 (by decide)).trans Tryz.func81
def n82:=(L 82 (by decide)).trans Tryz.func82
def n83:=(L 83 (by decide)).trans Tryz.func83
def n84:=(L 84 (by decide)).trans Tryz.func84
def n85:=(L 85 (by decide)).trans Tryz.func85
def n88:=(L 88 (by decide)).trans Tryz.func88
def n89:=(L 89 (by decide)).trans Tryz.func89
def n90:=(L 90 (by decide)).trans Tryz.func90
def n91:=(L 91 (by decide)).trans Tryz.func91
def n93:=(L 93 (by decide)).trans Tryz.func93
def n94:=(L 94 (by decide)).trans Tryz.func94
def n95:=(L 95 (by decide)).trans Tryz.func95
def n96:=(L 96 (by decide)).trans Tryz.func96
def n97:=(L 97 (by decide)).trans Tryz.func97
def n98:=(L 98 (by decide)).trans Tryz.func98
def n99:=(L 99 (by decide)).trans Tryz.func99
def n100:=(L 100 (by decide)).trans Tryz.func100
def n101:=(L 101 (by decide)).trans Tryz.func101
def n102:=(L 102 (by decide)).trans Tryz.func102
def n103:=(L 103 (by decide)).trans Tryz.func103
def n104:=(L 104 (by decide)).trans Tryz.func104
def n105:=(L 105 (by decide)).trans Tryz.func105
def n106:=(L 106 (by decide)).trans Tryz.func106
def n107:=(L 107 (by decide)).trans Tryz.func107
def n108:=(L 108 (by decide)).trans Tryz.func108
def n109:=(L 109 (by decide)).trans Tryz.func109
def n112:=(L 112 (by decide)).trans Tryz.func112
def n113:=(L 113 (by decide)).trans Tryz.func113
def n114:=(L 114 (by decide)).trans Tryz.func114
def n115:=(L 115 (by decide)).trans Tryz.func115
def n116:=(L 116 (by decide)).trans Tryz.func116
def n117:=(L 117 (by decide)).trans Tryz.func117
def n118:=(L 118 (by decide)).trans Tryz.func118
def n119:=(L 119 (by decide)).trans Tryz.func119
def n120:=(L 120 (by decide)).trans Tryz.func120
def n121:=(L 121 (by decide)).trans Tryz.func121
def n125:=(L 125 (by decide)).trans Tryz.func125
def n128:=(L 128 (by decide)).trans Tryz.func128
def n129:=(L 129 (by decide)).trans Tryz.func129
def n130:=(L 130 (by decide)).trans Tryz.func130
def n131:=(L 131 (by decide)).trans Tryz.func131
def n132:=(L 132 (by decide)).trans Tryz.func132
def n133:=(L 133 (by decide)).trans Tryz.func133
def n134:=(L 134 (by decide)).trans Tryz.func134
def n135:=(L 135 (by decide)).trans Tryz.func135
def n136:=(L 136 (by decide)).trans Tryz.func136
def n137:=(L 137 (by decide)).trans Tryz.func137
def n138:=(L 138 (by decide)).trans Tryz.func138
def n139:=(L 139 (by decide)).trans Tryz.func139
def n140:=(L 140 (by decide)).trans Tryz.func140
def n141:=(L 141 (by decide)).trans Tryz.func141
def n142:=(L 142 (by decide)).trans Tryz.func142
def n143:=(L 143 (by decide)).trans Tryz.func143
def n162:=(L 162 (by decide)).trans Tryz.func162
def n163:=(L 163 (by decide)).trans Tryz.func163
def n165:=(L 165 (by decide)).trans Tryz.func165
def n167:=(L 167 (by decide)).trans Tryz.func167
def n173:=(L 173 (by decide)).trans Tryz.func173
def n174:=(L 174 (by decide)).trans Tryz.func174
def n175:=(L 175 (by decide)).trans Tryz.func175
def n176:=(L 176 (by decide)).trans Tryz.func176
def n183:=(L 183 (by decide)).trans Tryz.func183
def n192:=(L 192 (by decide)).trans Tryz.func192
def n193:=(L 193 (by decide)).trans Tryz.func193
def n194:=(L 194 (by decide)).trans Tryz.func194
def n230:=(L 230 (by decide)).trans Tryz.func230
def n231:=(L 231 (by decide)).trans Tryz.func231
def n232:=(L 232 (by decide)).trans Tryz.func232
def n233:=(L 233 (by decide)).trans Tryz.func233
def n234:=(L 234 (by decide)).trans Tryz.func234
def n235:=(L 235 (by decide)).trans Tryz.func235
def n236:=(L 236 (by decide)).trans Tryz.func236
def n237:=(L 237 (by decide)).trans Tryz.func237
def n238:=(L 238 (by decide)).trans Tryz.func238
def n240:=(L 240 (by decide)).trans Tryz.func240
def n241:=(L 241 (by decide)).trans Tryz.func241
def n242:=(L 242 (by decide)).trans Tryz.func242
def n244:=(L 244 (by decide)).trans Tryz.func244
def n245:=(L 245 (by decide)).trans Tryz.func245
def e3:=λa w=>enters_of (n3 L) (by kernel_rfl) rfl a w
def e4:=λa w=>enters_of (n4 L) (by kernel_rfl) rfl a w
def e5:=λa w=>enters_of (n5 L) (by kernel_rfl) rfl a w
def e6:=λa w=>enters_of (n6 L) (by kernel_rfl) rfl a w
def e7:=λa w=>enters_of (n7 L) (by kernel_rfl) rfl a w
def e8:=λa w=>enters_of (n8 L) (by kernel_rfl) rfl a w
def e10:=λa w=>enters_of (n10 L) (by kernel_rfl) rfl a w
def e11:=λa w=>enters_of (n11 L) (by kernel_rfl) rfl a w
def e17:=λa w=>enters_of (n17 L) (by kernel_rfl) rfl a w
def e18:=λa w=>enters_of (n18 L) (by kernel_rfl) rfl a w
def e20:=λa w=>enters_of (n20 L) (by kernel_rfl) rfl a w
def e22:=λa w=>enters_of (n22 L) (by kernel_rfl) rfl a w
def e25:=λa w=>enters_of (n25 L) (by kernel_rfl) rfl a w
def e28:=λa w=>enters_of (n28 L) (by kernel_rfl) rfl a w
def e29:=λa w=>enters_of (n29 L) (by kernel_rfl) rfl a w
def e31:=λa w=>enters_of (n31 L) (by kernel_rfl) rfl a w
def e36:=λa w=>enters_of (n36 L) (by kernel_rfl) rfl a w
def e37:=λa w=>enters_of (n37 L) (by kernel_rfl) rfl a w
def e38:=λa w=>enters_of (n38 L) (by kernel_rfl) rfl a w
def e40:=λa w=>enters_of (n40 L) (by kernel_rfl) rfl a w
def e46:=λa w=>enters_of (n46 L) (by kernel_rfl) rfl a w
def e47:=λa w=>enters_of (n47 L) (by kernel_rfl) rfl a w
def e50:=λa w=>enters_of (n50 L) (by kernel_rfl) rfl a w
def e51:=λa w=>enters_of (n51 L) (by kernel_rfl) rfl a w
def e52:=λa w=>enters_of (n52 L) (by kernel_rfl) rfl a w
def e53:=λa w=>enters_of (n53 L) (by kernel_rfl) rfl a w
def e54:=λa w=>enters_of (n54 L) (by kernel_rfl) rfl a w
def e55:=λa w=>enters_of (n55 L) (by kernel_rfl) rfl a w
def e56:=λa w=>enters_of (n56 L) (by kernel_rfl) rfl a w
def e57:=λa w=>enters_of (n57 L) (by kernel_rfl) rfl a w
def e62:=λa w=>enters_of (n62 L) (by kernel_rfl) rfl a w
def e63:=λa w=>enters_of (n63 L) (by kernel_rfl) rfl a w
def e64:=λa w=>enters_of (n64 L) (by kernel_rfl) rfl a w
def e65:=λa w=>enters_of (n65 L) (by kernel_rfl) rfl a w
def e66:=λa w=>enters_of (n66 L) (by kernel_rfl) rfl a w
def e67:=λa w=>enters_of (n67 L) (by kernel_rfl) rfl a w
def e70:=λa w=>enters_of (n70 L) (by kernel_rfl) rfl a w
def e71:=λa w=>enters_of (n71 L) (by kernel_rfl) rfl a w
def e72:=λa w=>enters_of (n72 L) (by kernel_rfl) rfl a w
def e73:=λa w=>enters_of (n73 L) (by kernel_rfl) rfl a w
def e78:=λa w=>enters_of (n78 L) (by kernel_rfl) rfl a w
def e79:=λa w=>enters_of (n79 L) (by kernel_rfl) rfl a w
def e80:=λa w=>enters_of (n80 L) (by kernel_rfl) rfl a w
def e81:=λa w=>enters_of (n81 L) (by kernel_rfl) rfl a w
def e82:=λa w=>enters_of (n82 L) (by kernel_rfl) rfl a w
def e83:=λa w=>enters_of (n83 L) (by kernel_rfl) rfl a w
def e84:=λa w=>enters_of (n84 L) (by kernel_rfl) rfl a w
def e85:=λa w=>enters_of (n85 L) (by kernel_rfl) rfl a w
def e88:=λa w=>enters_of (n88 L) (by kernel_rfl) rfl a w
def e89:=λa w=>enters_of (n89 L) (by kernel_rfl) rfl a w
def e90:=λa w=>enters_of (n90 L) (by kernel_rfl) rfl a w
def e91:=λa w=>enters_of (n91 L) (by kernel_rfl) rfl a w
def e93:=λa w=>enters_of (n93 L) (by kernel_rfl) rfl a w
def e94:=λa w=>enters_of (n94 L) (by kernel_rfl) rfl a w
def e95:=λa w=>enters_of (n95 L) (by kernel_rfl) rfl a w
def e96:=λa w=>enters_of (n96 L) (by kernel_rfl) rfl a w
def e97:=λa w=>enters_of (n97 L) (by kernel_rfl) rfl a w
def e98:=λa w=>enters_of (n98 L) (by kernel_rfl) rfl a w
def e99:=λa w=>enters_of (n99 L) (by kernel_rfl) rfl a w
def Pj:=λa w=>enters_of (n100 L) (by kernel_rfl) rfl a w
def QS:=λa w=>enters_of (n101 L) (by kernel_rfl) rfl a w
def Mj:=λa w=>enters_of (n102 L) (by kernel_rfl) rfl a w
def Pk:=λa w=>enters_of (n103 L) (by kernel_rfl) rfl a w
def QT:=λa w=>enters_of (n104 L) (by kernel_rfl) rfl a w
def Pl:=λa w=>enters_of (n105 L) (by kernel_rfl) rfl a w
def QU:=λa w=>enters_of (n106 L) (by kernel_rfl) rfl a w
def Pm:=λa w=>enters_of (n107 L) (by kernel_rfl) rfl a w
def QV:=λa w=>enters_of (n108 L) (by kernel_rfl) rfl a w
def Mk:=λa w=>enters_of (n109 L) (by kernel_rfl) rfl a w
def Pn:=λa w=>enters_of (n112 L) (by kernel_rfl) rfl a w
def Po:=λa w=>enters_of (n113 L) (by kernel_rfl) rfl a w
def QW:=λa w=>enters_of (n114 L) (by kernel_rfl) rfl a w
def Pp:=λa w=>enters_of (n115 L) (by kernel_rfl) rfl a w
def Pq:=λa w=>enters_of (n116 L) (by kernel_rfl) rfl a w
def Pt:=λa w=>enters_of (n117 L) (by kernel_rfl) rfl a w
def Ml:=λa w=>enters_of (n118 L) (by kernel_rfl) rfl a w
def Pu:=λa w=>enters_of (n119 L) (by kernel_rfl) rfl a w
def Mm:=λa w=>enters_of (n120 L) (by kernel_rfl) rfl a w
def QX:=λa w=>enters_of (n121 L) (by kernel_rfl) rfl a w
def Pv:=λa w=>enters_of (n129 L) (by kernel_rfl) rfl a w
def Pw:=λa w=>enters_of (n130 L) (by kernel_rfl) rfl a w
def Px:=λa w=>enters_of (n131 L) (by kernel_rfl) rfl a w
def Oc:=λa w=>enters_of (n132 L) (by kernel_rfl) rfl a w
def Py:=λa w=>enters_of (n133 L) (by kernel_rfl) rfl a w
def Pz:=λa w=>enters_of (n134 L) (by kernel_rfl) rfl a w
def PC:=λa w=>enters_of (n135 L) (by kernel_rfl) rfl a w
def QY:=λa w=>enters_of (n136 L) (by kernel_rfl) rfl a w
def PD:=λa w=>enters_of (n137 L) (by kernel_rfl) rfl a w
def PE:=λa w=>enters_of (n138 L) (by kernel_rfl) rfl a w
def PF:=λa w=>enters_of (n139 L) (by kernel_rfl) rfl a w
def PG:=λa w=>enters_of (n140 L) (by kernel_rfl) rfl a w
def PH:=λa w=>enters_of (n141 L) (by kernel_rfl) rfl a w
def PI:=λa w=>enters_of (n142 L) (by kernel_rfl) rfl a w
def PK:=λa w=>enters_of (n143 L) (by kernel_rfl) rfl a w
def Mn:=λa w=>enters_of (n162 L) (by kernel_rfl) rfl a w
def PL:=λa w=>enters_of (n163 L) (by kernel_rfl) rfl a w
def PM:=λa w=>enters_of (n165 L) (by kernel_rfl) rfl a w
def PO:=λa w=>enters_of (n167 L) (by kernel_rfl) rfl a w
def Mo:=λa w=>enters_of (n173 L) (by kernel_rfl) rfl a w
def Mp:=λa w=>enters_of (n174 L) (by kernel_rfl) rfl a w
def PQ:=λa w=>enters_of (n175 L) (by kernel_rfl) rfl a w
def PR:=λa w=>enters_of (n176 L) (by kernel_rfl) rfl a w
def Mq:=λa w=>enters_of (n183 L) (by kernel_rfl) rfl a w
def PT:=λa w=>enters_of (n192 L) (by kernel_rfl) rfl a w
def PU:=λa w=>enters_of (n193 L) (by kernel_rfl) rfl a w
def PV:=λa w=>enters_of (n194 L) (by kernel_rfl) rfl a w
def QZ:=λa w=>enters_of (n230 L) (by kernel_rfl) rfl a w
def G7:=λa w=>enters_of (n231 L) (by kernel_rfl) rfl a w
def Q0:=λa w=>enters_of (n232 L) (by kernel_rfl) rfl a w
def Q1:=λa w=>enters_of (n233 L) (by kernel_rfl) rfl a w
def PW:=λa w=>enters_of (n234 L) (by kernel_rfl) rfl a w
def PX:=λa w=>enters_of (n235 L) (by kernel_rfl) rfl a w
def Q2:=λa w=>enters_of (n236 L) (by kernel_rfl) rfl a w
def PY:=λa w=>enters_of (n237 L) (by kernel_rfl) rfl a w
def Q3:=λa w=>enters_of (n238 L) (by kernel_rfl) rfl a w
def Q4:=λa w=>enters_of (n240 L) (by kernel_rfl) rfl a w
def P0:=λa w=>enters_of (n241 L) (by kernel_rfl) rfl a w
def P1:=λa w=>enters_of (n242 L) (by kernel_rfl) rfl a w
def P2:=λa w=>enters_of (n244 L) (by kernel_rfl) rfl a w
def P3:=λa w=>enters_of (n245 L) (by kernel_rfl) rfl a w
end
end Go.Proofs

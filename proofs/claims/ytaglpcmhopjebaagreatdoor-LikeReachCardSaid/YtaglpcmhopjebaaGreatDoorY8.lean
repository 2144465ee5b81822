import Derived.Test.YtaglpcmhopjebaaGreatDoorProg
import Derived.WalkKit
import Derived.WalkSpells
import Derived.WalkLawsBesides
import Derived.RangeFuncNested
import Derived.RangeFuncBound
import Derived.RangeFuncCalls
import Derived.Shelf.Abstract
import Derived.Test.YtaglpcmhopjebaaGreatDoorRows
import Derived.LaidMore
import Derived.Lay
import Derived.LaidHandle
import Derived.ProofKit
import Derived.Lib.IndexBytes
import Derived.BigQuiet
import Derived.OwnWalk
import Derived.Test.YtaglpcmhopjebaaGreatDoorY0
set_option linter.all false
set_option maxRecDepth 100000
set_option maxHeartbeats 20000000
theorem Go.RowKit.Hid.o{p:Prop}(h:Go.RowKit.Hid p):p:=h
theorem Go.jj{p:Prop}(h:p):Go.RowKit.Hid p:=h
abbrev Go.xv(w w':Go.World):=Go.RowKit.Below w.heap.size w w'
namespace Go.Proofs
open Go.Tm
noncomputable abbrev Qs(fs:Array Func):Program:=ah Tryz.prog fs
abbrev ac(fs f a w v):=Calls (Qs fs) f a w λe w'=>e=.returned v/\RowKit.Below w.heap.size w w'
abbrev ap(fs f a w v):=Calls (Qs fs) f a w λe w'=>e=.returned v/\w'=w
section
variable (P:Program) (fs:Array Func) (t:TypeId) (w:x6)
@[go_sem] theorem tL:(ah P fs).info? t=P.info? t:=rfl
@[go_sem] theorem aJ:(ah P fs).underlying t=P.underlying t:=rfl
@[go_sem] theorem BO:(isAgg t).run (ah P fs) w=(isAgg t).run P w:=by simp only[isAgg,underlying,program,bind,Sem.bind,Sem.run,aJ];cases P.underlying t with|none=>rfl|some d=>cases d<;>rfl
@[go_sem] theorem xa:(Go.sizeOf t).run (ah P fs) w=(Go.sizeOf t).run P w:=by simp only[Go.sizeOf,typeInfo,program,bind,Sem.bind,Sem.run,tL];cases P.info? t<;>rfl
@[go_sem] theorem jF:(zeroValue t).run (ah P fs) w=(zeroValue t).run P w:=by simp only[zeroValue,typeInfo,program,bind,Sem.bind,Sem.run,tL];cases P.info? t with|none=>rfl|some i=>simp only[Sem.bind,pure];cases i.zero<;>rfl
end
def dY(fs)(a:(Qs fs).funcs[63]? =some Tryz.f63)(n b c w):ap fs 63 #[.i n,.i b,.i c] w (.bool (decide (b<=n)&&decide (n<=c))):=by go_enter a,Tryz.ntmps63;go_wp2;all_goals (go_ret;simp;try omega)
def nB(fs)(a:(Qs fs).funcs[91]? =some Tryz.f91)(c w):ap fs 91 #[.int .u8 c] w (.bool (decide (97<=c)&&decide (c<=122))):=by go_enter a,Tryz.ntmps91;go_wp2;all_goals (go_ret;simp;try omega)
def nth:List Zj->Nat->Zj
 | [],_=>undef
 |x::_,0=>x
 |_::l,n+1=>nth l n
def Hj:List Zj->Nat->Zj->List Zj
 | [],_,_=>[]
 |_::l,0,v=>v::l
 |x::l,n+1,v=>x::Hj l n v
def Agr(s:Array Bool):Nat->List Zj->List Zj->Prop
 |n,x::xs,v::a=>(s.getD n false=true->x=v)/\Agr s (n+1) xs a
 |_,[],[]=>True
 |_,_,_=>False
theorem Agr.got{s}:∀{n} {xs a},Agr s n xs a->∀k,s.getD (n+k) false=true->nth xs k=nth a k
 |_,[],[],_,_,_=>rfl
 |_,_::_,_::_,h,0,d=>h.1 d
 |n,_::_,_::_,h,k+1,d=>Agr.got h.2 k (by rw[Wv,W6 1 k];exact d)
def Agr.get{s xs a}(h:Agr s 0 xs a)(k)(d:s.getD k false=true):nth xs k=nth a k:=Agr.got h k (by rw[UR];exact d)
theorem Agr.far{s j}:∀{n} {xs a},Agr s n xs a->j<n->Agr (s.setIfInBounds j true) n xs a
 |_,[],[],_,_=>trivial
 |n,_::_,_::_,h,b=>⟨λd=>h.1 (by rw[VG]at d⊢;rw[UU (by omega)]at d;exact d),Agr.far h.2 (by omega)⟩
theorem Agr.put{s}(v):∀{n} {xs a},Agr s n xs a->∀k,Agr (s.setIfInBounds (n+k) true) n (Hj xs k v) (Hj a k v)
 |_,[],[],_,_=>trivial
 |n,_::_,_::_,h,0=>⟨λ_=>rfl,Agr.far h.2 (VR n)⟩
 |n,_::_,_::_,h,k+1=>⟨λd=>h.1 (by
  rw[VG]at d⊢;rw[UU (by omega)]at d;exact d),by
  have b:=Agr.put v h.2 k;rw[Wv,W6 1 k]at b;exact b⟩
def Agr.Hl{s xs a}(h:Agr s 0 xs a)(k v):Agr (s.setIfInBounds k true) 0 (Hj xs k v) (Hj a k v):=by have b:=Agr.put v h k;rw[UR]at b;exact b
theorem EE:∀(a) (k),Hj a k (nth a k)=a
 | [],_=>rfl
 |_::_,0=>rfl
 |x::l,k+1=>Vj (x:: ·) (EE l k)
def Agr.set{s xs vs}(h:Agr s 0 xs vs)(k):Agr (s.setIfInBounds k true) 0 (Hj xs k (nth vs k)) vs:=by have a:=h.Hl k (nth vs k);rw[EE]at a;exact a
theorem Agr.start{k}:∀{n xs b},xs.length=b.length->Agr (Array.replicate k false) n xs b
 |_,[],[],_=>trivial
 |_,[],_::_,a=>by cases a
 |_,_::_,[],a=>by cases a
 |n,_::_,_::_,a=>⟨λd=>by rw[VG,Yf]at d;split at d<;>exact absurd d (by decide),Agr.start (Nat.succ.inj a)⟩
def Agr.dep{s xs b}(h:Agr s 0 xs b){md}{o:Oper}(a:∀e∈o.after,Region.binds md e=true->s.getD e.on false=true)(p:Nat){e}(c:o.after[p]? =some e)(d:Region.binds md e=true):nth xs e.on=nth b e.on:=h.get _ (a _ (VI c) d)
def pT{md}{o:Oper}{s:Array Bool}(a:∀e∈o.after,Region.binds md e=true->s.getD e.on false=true){n}(h:((List.range n).all λk=>o.after.any λe=>e.on==k&&Region.binds md e)=true)(k)(b:k<n):s.getD k false=true:=by obtain⟨e,c,h⟩:=Array.any_eq_true'.1 (Vp.1 h k (Xv.2 b));simp only[UT,VA]at h;rw[<-h.1];exact a e c h.2
end Go.Proofs
namespace Go.Proofs
open Go.Tm Go.RowKit
structure Stp(n B:Nat)(W W':x6):Prop where
 os:W'.os=W.os
 tape:W'.tape=W.tape
 output:W'.output=W.output
 size:W.heap.size<=W'.heap.size
 block:∀b,b<n->b≠B->W'.heap[b]? =W.heap[b]?
def Stp.refl(n B W):Stp n B W W:=⟨rfl,rfl,rfl,UI _,λ_ _ _=>rfl⟩
def Stp.trans{n B W c W2}(h:Stp n B W c)(k:Stp n B c W2):Stp n B W W2:=⟨k.os.trans h.os,k.tape.trans h.tape,k.output.trans h.output,UJ h.size k.size,λb d e=>(k.block b d e).trans (h.block b d e)⟩
def Stp.mono{n m B W W'}(h:Stp n B W W')(d:m<=n):Stp m B W W':=⟨h.os,h.tape,h.output,h.size,λb e c=>h.block b (by omega) c⟩
def Stp.DU{n B W W'}(h:Below n W W'):Stp n B W W':=⟨h.os,h.tape,h.output,h.size,λb c _=>h.block b c⟩
def Stp.setCell{n B}(W o v):Stp n B W (W.setCell ⟨B,o,none⟩ v):=⟨rfl,rfl,rfl,by show W.heap.size<=(W.heap.modify _ _).size;rw[Array.size_modify];exact UI _,λb _ h=>Below.heap_setCell W ⟨B,o,none⟩ v b h⟩
def Stp.putObj{n B W l}(o')(c:n<=l):Stp n B W (W.putObj l o'):=⟨rfl,rfl,rfl,by simp,λb h _=>World.putObj_heap_other (by omega)⟩
section
variable {α:Type} {F:Fence} {n:Nat} {P:Program} {g:Operand} {ps:Array Tmp} {assign body:Code} {Q:Exit->Act->x6->Prop} {a:Act} {w:x6}
def zd(G:F.round=none)(h1:1<=n){gf:Nat}{lb:Zq}(hg:a.eval g=.func (.func gf) #[] lb)(H:F.fn gf)(eg:∀args w,(callFunc gf args).run P w=.ok (.enter gf args) w) {encs:α->Zq} (L:∀x,(encs x).size=ps.size) (M N:Nat) (af:M<w.heap.size) (ag:N<w.heap.size) (xs:List α) (I:List α->x6->Prop) (i:∀pre W l o o',w.heap.size<=l->W.heap[l]? =some o->o.isCells=false->I pre W->I pre (W.putObj l o')) (s:∀pre W c,Stp W.heap.size M W c->I pre W->I pre c) (h0:I [] w) (u:∀(l:Nat) (J:List α->x6->Prop) (W:x6),xv w W->(∀pre W c,Stp W.heap.size M W c->J pre W->J pre c)->(∀pre x W1,J pre W1->pre++[x]<+:xs->YieldAt F (n-1-1) P l (encs x) W1 λe c=>e=.returned (.bool true)/\J (pre++[x]) c/\Stp w.heap.size N W1 c)->J [] W->CallsIn F (n-1) P gf (#[.func (.yield l) #[] #[]]++lb) W λe c=>(∃v,e=.returned v)/\J xs c) (h:α->Act) (d:∀(l:Nat) (x:α) (W:x6) (K:Act->x6->Prop),K (h x) W->assign.wpIn (F.inRound l) (n-1-1) P (Exit.then K (λ_ _ _=>False)) {tmps:=(ps.zip (encs x)).foldl (λt (p,v)=>t.setIfInBounds p v) a.tmps,defers:=[]} W) (j:∀(l:Nat) (pre:List α) (x:α) (W:x6),I pre W->pre++[x]<+:xs->w.heap.size+2<=W.heap.size->body.wpIn (F.inRound l) (n-1-1) P (λe _ c=>e=.normal/\I (pre++[x]) c/\Stp (w.heap.size+2) N W c) (h x) W) (k:∀(D:Nat) (W:x6),w.heap.size<=D->I xs W->W.heap[D]? =some (.deferred (some []))->Q .normal {a with defers:={target:=.collected D,args:=#[]}::a.defers} W):(Code.rangeFunc g ps assign body).wpIn F n P Q a w:=by
 refine wpIn_rangeFunc ?_;intro fn O;rw[G];obtain⟨rec,b⟩:∃rec:LoopState->Option Code->Loop,rec=λst pe=>{state:=st,pending:=pe,fn,tmps:=a.tmps,params:=ps,assign,body,defers:=w.heap.size}:=⟨_,rfl⟩
 obtain⟨W1,f⟩:∃W1,(w.alloc (.deferred (some []))).alloc (.loop (rec .ready none))=W1:=⟨_,rfl⟩
 have R:W1.heap[w.heap.size+1]? =some (.loop (rec .ready none)):=by rw[<-f];have:=World.alloc_heap_new (w.alloc (.deferred (some []))) (.loop (rec .ready none));rwa[World.size_alloc]at this
 have S:W1.heap[w.heap.size]? =some (.deferred (some [])):=by rw[<-f];exact(Below.heap_alloc _ _ _ (by simp)).trans (World.alloc_heap_new w _)
 have y:xv w W1:=by rw[<-f];exact((Below.refl _ w).alloc (UI _) _).alloc (by simp) _
 have T:=s _ _ _ (Stp.DU y) h0;refine⟨w.heap.size+1,[{target:=.collected w.heap.size,args:=#[]}],W1,{target:=.fn (.func gf) lb,args:=#[.func (.yield (w.heap.size+1)) #[] #[]]},W1,gf,#[.func (.yield (w.heap.size+1)) #[] #[]]++lb,W1,?_,?_,?_,?_,λ_=>h1,?_⟩;rw[<-f,b];exact run_enterLoop_outer _ _ _ _ _
 .simp only[resolve,hg];simp[go_sem]
 intro f' z;simp[Target.leads]at z;subst z;exact H
 .simp[invoke,go_sem,eg]
 refine(u (w.heap.size+1) (λpre W=>I pre W/\W.heap[w.heap.size+1]? =some (.loop (rec .ready none))/\W.heap[w.heap.size]? =some (.deferred (some [])))
  W1 y (λpre A B U C=>⟨s _ _ _ U C.1,(U.block _ (UO.1 C.2.1).1 (by omega)).trans C.2.1,(U.block _ (UO.1 C.2.2).1 (by omega)).trans C.2.2⟩) ?_ ⟨T,R,S⟩).mono ?_
 rintro pre x W ⟨V,m,X⟩ E;have Y:=(UO.1 m).1;have hy:=run_yield (P:=P) (args:=encs x) m (by rw[b];exact L x);rw[b]at hy;refine⟨fn,_,assign,body,hy,roundIn_of_wpIn O (d _ x W _ ?_)⟩;refine⟨_,run_beginRound m (by rw[b]),?_⟩;have Z:(W.putObj (w.heap.size+1) (.loop {rec .ready none with state:=.busy})).heap[w.heap.size+1]? =some (.loop {rec .ready none with state:=.busy}):=World.putObj_heap_same Y;have aa:(W.putObj (w.heap.size+1) (.loop {rec .ready none with state:=.busy})).heap[w.heap.size]? =some (.deferred (some [])):=(World.putObj_heap_other (by omega)).trans X;refine wpIn_mono (j _ pre x _ (i _ _ _ _ _ (by omega) m rfl V) E (by simp;omega)) ?_;rintro e a3 W3 ⟨rfl,ab,q⟩;have r:=(q.block (w.heap.size+1) (by omega) (by omega)).trans Z;have ad:=(q.block w.heap.size (by omega) (by omega)).trans aa;have hr:=run_endRound (P:=P) none r;rw[b]at hr;refine⟨_,_,hr,⟨rfl,⟨i _ _ _ _ _ (by omega) r rfl ab,?_,?_⟩,?_⟩⟩;rw[b];exact World.putObj_heap_same (UO.1 r).1;exact(World.putObj_heap_other (by omega)).trans ad;exact((Stp.putObj _ (by omega)).trans (q.mono (by omega))).trans (Stp.putObj _ (by omega));rintro e W2 ⟨⟨v,rfl⟩,V,m,X⟩;exact⟨none,_,by have:=run_endLoop (P:=P) m (by rw[b];simp);rw[b]at this;exact this,k _ _ (UI _) (i _ _ _ _ _ (by omega) m rfl V) ((World.putObj_heap_other (by omega)).trans X)⟩
end
abbrev Pr2:=Zk×Zk
structure jY where
 name:Zk
 aX:List Pr2
structure Table where
 av:List Pr2
 aF:List jY
 bu:List (List Zk)
structure Mark where
 name:Zk
 word:Zk
 aP:List Int
 day:Int
 known:Bool
structure ja where
 kind:Int
 least:Int
 plain:Int
 known:Int
structure Case where
 table:Table
 rules:List ja
 new:Mark
 marks:List Mark
 kin:List Int
def MA(K:Nat->Prop)(w:x6)(b:Option Addr):Prop:=∀a,b=some a->a.spot=none/\K a.block/\∃c e F,w.heap[a.block]? =some (.cells c e F)
def az{e:Type}(K:Nat->Prop)(f:Nat)(E:(Nat->Prop)->x6->Nat->Nat->e->Prop)(w:x6)(v:Zj)(l:List e):Prop:=∃d c,v=.slice d l.length c/\l.length<=c/\c<=9223372036854775807/\(c=0\/MA K w d)/\∀k (h:k<l.length),∃b a,d=some ⟨b,a,none⟩/\E K w b (a+k*f) l[k]
def jZ(K:Nat->Prop)(w:x6)(b o:Nat)(s:Zk):Prop:=w.cell? ⟨b,o,none⟩=some (.string s)
def cT(K:Nat->Prop)(w:x6)(b o:Nat)(n:Int):Prop:=w.cell? ⟨b,o,none⟩=some (.i n)
def dA(K:Nat->Prop)(w:x6)(b o:Nat)(p:Pr2):Prop:=w.cell? ⟨b,o,none⟩=some (.string p.1)/\w.cell? ⟨b,o+1,none⟩=some (.string p.2)
def j5(K:Nat->Prop)(w:x6)(b o:Nat)(l:List Zk):Prop:=∃v,w.cell? ⟨b,o,none⟩=some v/\az K 1 jZ w v l
def fH(K:Nat->Prop)(w:x6)(b o:Nat)(t:jY):Prop:=w.cell? ⟨b,o,none⟩=some (.string t.name)/\∃v,w.cell? ⟨b,o+1,none⟩=some v/\az K 2 dA w v t.aX
def lQ(K:Nat->Prop)(w:x6)(b o:Nat)(m:Mark):Prop:=w.cell? ⟨b,o,none⟩=some (.string m.name)/\w.cell? ⟨b,o+1,none⟩=some (.string m.word)/\(∃v,w.cell? ⟨b,o+2,none⟩=some v/\az K 1 cT w v m.aP)/\w.cell? ⟨b,o+3,none⟩=some (.i m.day)/\w.cell? ⟨b,o+4,none⟩=some (.bool m.known)
def iX(K:Nat->Prop)(w:x6)(b o:Nat)(r:ja):Prop:=w.cell? ⟨b,o,none⟩=some (.i r.kind)/\w.cell? ⟨b,o+1,none⟩=some (.i r.least)/\w.cell? ⟨b,o+2,none⟩=some (.i r.plain)/\w.cell? ⟨b,o+3,none⟩=some (.i r.known)
def IsTable(K:Nat->Prop)(w:x6)(v0 v1 v2:Zj)(t:Table):Prop:=az K 2 dA w v0 t.av/\az K 2 fH w v1 t.aF/\az K 1 j5 w v2 t.bu
def bF(K:Nat->Prop)(w:x6)(sc:Zq)(c:Case):Prop:=∃v0 v1 v2 a b d e,sc=#[v0,v1,v2,a,.string c.new.name,.string c.new.word,b,.i c.new.day,.bool c.new.known,d,e]/\IsTable K w v0 v1 v2 c.table/\az K 4 iX w a c.rules/\az K 1 cT w b c.new.aP/\az K 5 lQ w d c.marks/\az K 1 cT w e c.kin
inductive TV(σ:Nat->Nat->Prop)(K':Nat->Prop)(w':x6):Bool->Zj->Zj->Prop
 |bool {q} (b):TV σ K' w' q (.bool b) (.bool b)
 |int {q} (k n):TV σ K' w' q (.int k n) (.int k n)
 |string {q} (s):TV σ K' w' q (.string s) (.string s)
 |iT {q} (l c):TV σ K' w' q (.slice none l c) (.slice none l c)
 |slice {q} {b b' o:Nat} (l c):σ b b'->K' b'->(∃c e F,w'.heap[b']? =some (.cells c e F))->TV σ K' w' q (.slice (some ⟨b,o,none⟩) l c) (.slice (some ⟨b',o,none⟩) l c)
 |empty (a a':Option Addr):TV σ K' w' false (.slice a 0 0) (.slice a' 0 0)
inductive CV(K:Nat->Prop)(w:x6):Bool->Zj->Prop
 |bool {q} (b):CV K w q (.bool b)
 |int {q} (k n):CV K w q (.int k n)
 |string {q} (s):CV K w q (.string s)
 |slice {q} {ao:Option Addr} (l c):MA K w ao->CV K w q (.slice ao l c)
 |empty (ao:Option Addr):CV K w false (.slice ao 0 0)
def TV.cv{σ K' w' v V}(h:TV σ K' w' true v V):CV K' w' true V:=by cases h with|bool=>exact .bool _|int=>exact .int _ _|string=>exact .string _|iT=>exact .slice _ _ λa e=>by cases e|slice l c f b d=>exact .slice _ _ λa e=>by cases e;exact⟨rfl,b,d⟩
def ie(K:Nat->Prop)(w:x6)(sc:Zq):Prop:=∀v∈sc,CV K w true v
structure Carry(σ:Nat->Nat->Prop)(K K':Nat->Prop)(w w':x6):Prop where
 fn:∀b b' b'',σ b b'->σ b b''->b'=b''
 cell:∀b b' o v,σ b b'->w.cell? ⟨b,o,none⟩=some v->CV K w false v->∃v',w'.cell? ⟨b',o,none⟩=some v'/\TV σ K' w' false v v'
section
variable {σ:Nat->Nat->Prop} {K K':Nat->Prop} {w w':x6}
def az.cv{a b E v}{l:List a}(h:az K b E w v l):CV K w false v:=by obtain⟨e,c,rfl,d,_,hk,_⟩:=h;obtain rfl|hk:=hk;rw[Nat.le_zero.1 d];exact .empty _;exact .slice _ _ hk
def az.carry{u j E}(y:∀b f o x,σ b f->E K w b o x->E K' w' f o x){q}{v m}{l:List u}(p:TV σ K' w' q v m)(h:az K j E w v l):az K' j E w' m l:=by obtain⟨G,c,rfl,r,s,H,t⟩:=h;generalize g:l.length=n at p;cases p with|empty _ z=>have e:l=[]:=Vx g;subst e;exact⟨z,0,rfl,UI _,by omega,.inl rfl,λk d=>absurd d (by simp)⟩|iT=>subst g;refine⟨none,c,rfl,r,s,.inr ?_,?_⟩;intro a e;cases e;intro k d;obtain⟨b,i,e,_⟩:=t k d;cases e| @slice _ b f o _ _ A B D=>subst g;refine⟨some ⟨f,o,none⟩,c,rfl,r,s,.inr ?_,?_⟩;intro a e;cases e;exact⟨rfl,B,D⟩;intro k d;obtain⟨I,i,e,F⟩:=t k d;cases e;exact⟨f,o,rfl,y _ _ _ _ A F⟩
variable (C:Carry σ K K' w w')
include C
def jZ.carry(b a o:Nat)(s:Zk)(c:σ b a)(h:jZ K w b o s):jZ K' w' a o s:=by obtain⟨v,d,e⟩:=C.cell b a o _ c h (.string s);cases e;exact d
def cT.carry(b a o:Nat)(n:Int)(c:σ b a)(h:cT K w b o n):cT K' w' a o n:=by obtain⟨v,d,e⟩:=C.cell b a o _ c h (.int _ n);cases e;exact d
def GD(b a o:Nat)(x:Bool)(c:σ b a)(h:w.cell? ⟨b,o,none⟩=some (.bool x)):w'.cell? ⟨a,o,none⟩=some (.bool x):=by obtain⟨v,d,e⟩:=C.cell b a o _ c h (.bool x);cases e;exact d
def dA.carry(b a o:Nat)(p:Pr2)(c:σ b a)(h:dA K w b o p):dA K' w' a o p:=⟨jZ.carry C b a o _ c h.1,jZ.carry C b a (o+1) _ c h.2⟩
def iX.carry(b a o:Nat)(r:ja)(c:σ b a)(h:iX K w b o r):iX K' w' a o r:=⟨cT.carry C b a o _ c h.1,cT.carry C b a (o+1) _ c h.2.1,cT.carry C b a (o+2) _ c h.2.2.1,cT.carry C b a (o+3) _ c h.2.2.2⟩
def j5.carry(b a o:Nat)(l:List Zk)(d:σ b a)(h:j5 K w b o l):j5 K' w' a o l:=by obtain⟨v,e,c⟩:=h;obtain⟨f,g,i⟩:=C.cell b a o _ d e c.cv;exact⟨f,g,c.carry (jZ.carry C) i⟩
def fH.carry(b a o:Nat)(t:jY)(c:σ b a)(h:fH K w b o t):fH K' w' a o t:=by obtain⟨e,v,f,d⟩:=h;obtain⟨g,i,j⟩:=C.cell b a (o+1) _ c f d.cv;exact⟨jZ.carry C b a o _ c e,g,i,d.carry (dA.carry C) j⟩
def lQ.carry(b a o:Nat)(m:Mark)(c:σ b a)(h:lQ K w b o m):lQ K' w' a o m:=by obtain⟨e,f,⟨v,g,d⟩,i,j⟩:=h;obtain⟨k,l,n⟩:=C.cell b a (o+2) _ c g d.cv;exact⟨jZ.carry C b a o _ c e,jZ.carry C b a (o+1) _ c f,⟨k,l,d.carry (cT.carry C) n⟩,cT.carry C b a (o+3) _ c i,GD C b a (o+4) _ c j⟩
def IsTable.carry{v0 v1 v2 a b c:Zj}{t:Table}{q}(d:TV σ K' w' q v0 a)(e:TV σ K' w' q v1 b)(f:TV σ K' w' q v2 c)(h:IsTable K w v0 v1 v2 t):IsTable K' w' a b c t:=⟨h.1.carry (dA.carry C) d,h.2.1.carry (fH.carry C) e,h.2.2.carry (j5.carry C) f⟩
def bF.carry{sc e:Zq}{c:Case}(b:e.size=sc.size)(a:∀(i:Nat) v V,sc[i]? =some v->e[i]? =some V->CV K w false v->TV σ K' w' false v V)(h:bF K w sc c):bF K' w' e c:=by (obtain⟨v0,v1,v2,s,t,u,x,rfl,f,j,k,l,m⟩:=h;obtain⟨L⟩:=e;have b:L.length=11:=by simpa using b);match L,b with| [n,a1,o,p,y,z,q,A,B,r,d],_=>have D:=a 0 v0 n rfl rfl f.1.cv;have E:=a 1 v1 a1 rfl rfl f.2.1.cv;have F:=a 2 v2 o rfl rfl f.2.2.cv;have G:=a 3 s p rfl rfl j.cv;have H:=a 4 _ y rfl rfl (.string _);have I:=a 5 _ z rfl rfl (.string _);have J:=a 6 t q rfl rfl k.cv;have M:=a 7 _ A rfl rfl (.int _ _);have N:=a 8 _ B rfl rfl (.bool _);have O:=a 9 u r rfl rfl l.cv;have g:=a 10 x d rfl rfl m.cv;cases H;cases I;cases M;cases N;exact⟨n,a1,o,p,q,r,d,rfl,f.carry C D E F,j.carry (iX.carry C) G,k.carry (cT.carry C) J,l.carry (lQ.carry C) O,m.carry (cT.carry C) g⟩
end
def Carry.keep{K:Nat->Prop}{w w':x6}(h:∀(b:Nat) c e f,w.heap[b]? =some (.cells c e f)->w'.heap[b]? =some (.cells c e f)):Carry (λa b=>a=b) K K w w' where
 fn _ _ _ h1 h2:=h1.symm.trans h2
 cell b b' o v hs hc hv:=by
  subst hs;have d:w'.cell? ⟨b,o,none⟩=some v:=by
   unfold World.cell? at hc⊢
   revert hc
   simp only[];cases i:w.heap[b]? with
   |none=>intro h;cases h
   |some o'=>
    cases o' with
    |cells g e F=>intro hc;rw[h b g e F i];exact hc
    |_=>intro h;cases h
  refine⟨v,d,?_⟩;cases hv with
  |bool=>exact .bool _
  |int=>exact .int _ _
  |string=>exact .string _
  |empty=>exact .empty _ _
  | @slice _ j l c k=>
   cases j with
   |none=>exact .iT _ _
   |some a=>obtain⟨b,o,p⟩:=a;obtain⟨h1,h2,g,e,F,m⟩:=k _ rfl;simp only[]at h1;subst h1;exact .slice _ _ rfl h2 ⟨_,_,_,h _ _ _ _ m⟩
def TV.self{K w w'}(h:∀(b:Nat) c e f,w.heap[b]? =some (.cells c e f)->w'.heap[b]? =some (.cells c e f)){q}{v}(g:CV K w q v):TV (λa b=>a=b) K w' q v v:=by cases g with|bool=>exact .bool _|int=>exact .int _ _|string=>exact .string _|empty=>exact .empty _ _| @slice _ i l c j=>cases i with|none=>exact .iT _ _|some a=>obtain⟨b,o,p⟩:=a;obtain⟨d,k,n,e,F,m⟩:=j _ rfl;simp only[]at d;subst d;exact .slice _ _ rfl k ⟨_,_,_,h _ _ _ _ m⟩
def ae(w w':x6):Prop:=∀(b:Nat) c e f,w.heap[b]? =some (.cells c e f)->w'.heap[b]? =some (.cells c e f)
def ae.refl(w):ae w w:=λ_ _ _ _ h=>h
def ae.trans{a b c}(h:ae a b)(k:ae b c):ae a c:=λx _ _ _ d=>k x _ _ _ (h x _ _ _ d)
def ae.below{w w'}(h:xv w w'):ae w w':=λb c e f a=>(h.block b (UO.1 a).1).trans a
def az.stays{d K a E w w'}(e:ae w w')(f:∀b c o x,b=c->E K w b o x->E K w' c o x){v}{l:List d}(h:az K a E w v l):az K a E w' v l:=h.carry f (TV.self e h.cv)
def IsTable.stays{K w w'}(a:ae w w'){v0 v1 v2 t}(h:IsTable K w v0 v1 v2 t):IsTable K w' v0 v1 v2 t:=h.carry (Carry.keep a) (TV.self a h.1.cv) (TV.self a h.2.1.cv) (TV.self a h.2.2.cv)
def bF.stays{K w w'}(a:ae w w'){sc c}(h:bF K w sc c):bF K w' sc c:=h.carry (Carry.keep a) rfl λi v V d b e=>by rw[d]at b;cases b;exact TV.self a e
def eI{w:x6}{N:Nat}{a a1 b c d e f g j k a10:Zj}(h:∀i v,(#[a,a1,b,c,d,e,f,g,j,k,a10]:Zq)[i]? =some v->w.cell? ⟨N,i,none⟩=some v):w.cell? ⟨N,0,none⟩=some a/\w.cell? ⟨N,1,none⟩=some a1/\w.cell? ⟨N,2,none⟩=some b/\w.cell? ⟨N,3,none⟩=some c/\w.cell? ⟨N,4,none⟩=some d/\w.cell? ⟨N,5,none⟩=some e/\w.cell? ⟨N,6,none⟩=some f/\w.cell? ⟨N,7,none⟩=some g/\w.cell? ⟨N,8,none⟩=some j/\w.cell? ⟨N,9,none⟩=some k/\w.cell? ⟨N,10,none⟩=some a10:=
 ⟨h 0 _ rfl,h 1 _ rfl,h 2 _ rfl,h 3 _ rfl,h 4 _ rfl,h 5 _ rfl,h 6 _ rfl,h 7 _ rfl,h 8 _ rfl,h 9 _ rfl,h 10 _ rfl⟩
def T6{w:x6}{N:Nat}{a b c:Zj}(h:∀i v,(#[a,b,c]:Zq)[i]? =some v->w.cell? ⟨N,i,none⟩=some v):w.cell? ⟨N,0,none⟩=some a/\w.cell? ⟨N,1,none⟩=some b/\w.cell? ⟨N,2,none⟩=some c:=⟨h 0 _ rfl,h 1 _ rfl,h 2 _ rfl⟩
def QI{w:x6}{N:Nat}{a b c d e:Zj}(h:∀i v,(#[a,b,c,d,e]:Zq)[i]? =some v->w.cell? ⟨N,i,none⟩=some v):w.cell? ⟨N,0,none⟩=some a/\w.cell? ⟨N,1,none⟩=some b/\w.cell? ⟨N,2,none⟩=some c/\w.cell? ⟨N,3,none⟩=some d/\w.cell? ⟨N,4,none⟩=some e:=⟨h 0 _ rfl,h 1 _ rfl,h 2 _ rfl,h 3 _ rfl,h 4 _ rfl⟩
end Go.Proofs
namespace Go.Proofs
open Go.Tm Go.Shelf
def gP:List Nat:=[3,4,5,6,7,8,9,10,11,12,13,14,15,16,17,18,19,20,21,22,23,24,25,26,27,28,29,30,31,32,33,34,35,36,37,38,39,40,41,42,43,44,45,46,47,48,49,50,51,52,53,54,55,56,57,58,59,60,61,62,63,64,65,66,67,68,69,70,71,72,73,75,76,77,78,79,80,81,82,83,84,85,86,87,88,89,90,91,92,93,94,95,96,97,98,99,100,101,102,103,104,105,106,107,108,109,110,111,112,113,114,115,116,117,118,119,120,121,125,128,129,130,131,132,133,134,135,136,137,138,139,140,141,142,143,162,163,164,165,166,167,173,174,175,176,177,178,179,180,181,182,183,184,185,186,187,188,189,190,191,192,193,194,195,196,197,198,199,200,201,202,203,204,205,206,207,208,209,210,211,212,230,231,232,233,234,235,236,237,238,239,240,241,242,243,244,245]
noncomputable def ow:Func:={Tryz.f95 with body:=some (.seq (.region 0 #[⟨some 2,.assign (.const (.string ⟨#[]⟩)),9,"builder.go:46",#[],none⟩] false) (.seq (.region 1 #[⟨some 3,.move (.tmp 0),151,"builder.go:47",#[],none⟩,⟨some 4,.nilCheck (.tmp 3),0,"builder.go:47",#[⟨0,.data⟩],none⟩,⟨some 5,.fieldAddr 153 (.tmp 4) 1,0,"builder.go:47",#[⟨1,.data⟩],none⟩,⟨some 6,.load 120 (.tmp 5),120,"builder.go:47",#[⟨2,.data⟩],none⟩,⟨some 7,.call ⟨.builtin .unsafeSliceData,#[.tmp 6],#[120]⟩,ra,"builder.go:47",#[⟨3,.data⟩],none⟩,⟨some 8,.move (.tmp 0),151,"builder.go:47",#[],none⟩,⟨some 9,.nilCheck (.tmp 8),0,"builder.go:47",#[⟨5,.data⟩],none⟩,⟨some 10,.fieldAddr 153 (.tmp 9) 1,0,"builder.go:47",#[⟨6,.data⟩],none⟩,⟨some 11,.load 120 (.tmp 10),120,"builder.go:47",#[⟨7,.data⟩],none⟩,⟨some 12,.call ⟨.builtin .len,#[.tmp 11],#[120]⟩,3,"builder.go:47",#[⟨8,.data⟩],none⟩,⟨some 13,.call ⟨.builtin .unsafeString,#[.tmp 7,.tmp 12],#[203,3]⟩,9,"builder.go:47",#[⟨4,.data⟩,⟨9,.data⟩],none⟩,⟨some 2,.assign (.tmp 13),9,"builder.go:47",#[⟨10,.data⟩,⟨0,.phase⟩,⟨1,.phase⟩,⟨2,.phase⟩,⟨3,.phase⟩,⟨4,.phase⟩,⟨5,.phase⟩,⟨6,.phase⟩,⟨7,.phase⟩,⟨8,.phase⟩,⟨9,.phase⟩,⟨10,.phase⟩],none⟩] true) .ret))}
def GC:Tryz.f95.body.map ia=ow.body:=by kernel_rfl
def bR(fs:Array Func):Prop:=(∀i∈gP,i≠95->(Qs fs).funcs[i]? =Tryz.prog.funcs[i]?)/\(Qs fs).funcs[95]? =some ow
section
variable {fs:Array Func} (L:bR fs)
def nOf(i:Nat)(h:i∈gP:=by decide)(k:i≠95:=by decide):=L.1 i h k
def n3:=(nOf L 3).trans Tryz.func3
def n4:=(nOf L 4).trans Tryz.func4
def n5:=(nOf L 5).trans Tryz.func5
def n6:=(nOf L 6).trans Tryz.func6
def n7:=(nOf L 7).trans Tryz.func7
def n8:=(nOf L 8).trans Tryz.func8
def n9:=(nOf L 9).trans Tryz.func9
def n10:=(nOf L 10).trans Tryz.func10
def n11:=(nOf L 11).trans Tryz.func11
def n12:=(nOf L 12).trans Tryz.func12
def n13:=(nOf L 13).trans Tryz.func13
def n14:=(nOf L 14).trans Tryz.func14
def n15:=(nOf L 15).trans Tryz.func15
def n16:=(nOf L 16).trans Tryz.func16
def n17:=(nOf L 17).trans Tryz.func17
def n18:=(nOf L 18).trans Tryz.func18
def n20:=(nOf L 20).trans Tryz.func20
def n21:=(nOf L 21).trans Tryz.func21
def n22:=(nOf L 22).trans Tryz.func22
def n24:=(nOf L 24).trans Tryz.func24
def n25:=(nOf L 25).trans Tryz.func25
def n29:=(nOf L 29).trans Tryz.func29
def n30:=(nOf L 30).trans Tryz.func30
def n31:=(nOf L 31).trans Tryz.func31
def n32:=(nOf L 32).trans Tryz.func32
def n33:=(nOf L 33).trans Tryz.func33
def n34:=(nOf L 34).trans Tryz.func34
def n36:=(nOf L 36).trans Tryz.func36
def n37:=(nOf L 37).trans Tryz.func37
def n38:=(nOf L 38).trans Tryz.func38
def n40:=(nOf L 40).trans Tryz.func40
def n46:=(nOf L 46).trans Tryz.func46
def n50:=(nOf L 50).trans Tryz.func50
def n51:=(nOf L 51).trans Tryz.func51
def n52:=(nOf L 52).trans Tryz.func52
def n53:=(nOf L 53).trans Tryz.func53
def n54:=(nOf L 54).trans Tryz.func54
def n55:=(nOf L 55).trans Tryz.func55
def n56:=(nOf L 56).trans Tryz.func56
def n57:=(nOf L 57).trans Tryz.func57
def n58:=(nOf L 58).trans Tryz.func58
def n59:=(nOf L 59).trans Tryz.func59
def n60:=(nOf L 60).trans Tryz.func60
def n61:=(nOf L 61).trans Tryz.func61
def n62:=(nOf L 62).trans Tryz.func62
def n63:=(nOf L 63).trans Tryz.func63
def n64:=(nOf L 64).trans Tryz.func64
def n65:=(nOf L 65).trans Tryz.func65
def n66:=(nOf L 66).trans Tryz.func66
def n67:=(nOf L 67).trans Tryz.func67
def n68:=(nOf L 68).trans Tryz.func68
def n69:=(nOf L 69).trans Tryz.func69
def n70:=(nOf L 70).trans Tryz.func70
def n72:=(nOf L 72).trans Tryz.func72
def n73:=(nOf L 73).trans Tryz.func73
def n75:=(nOf L 75).trans Tryz.func75
def n76:=(nOf L 76).trans Tryz.func76
def n77:=(nOf L 77).trans Tryz.func77
def n78:=(nOf L 78).trans Tryz.func78
def n79:=(nOf L 79).trans Tryz.func79
def n80:=(nOf L 80).trans Tryz.func80
def n81:=(nOf L 81).trans Tryz.func81
def n82:=(nOf L 82).trans Tryz.func82
def n83:=(nOf L 83).trans Tryz.func83
def n84:=(nOf L 84).trans Tryz.func84
def n85:=(nOf L 85).trans Tryz.func85
def n88:=(nOf L 88).trans Tryz.func88
def n89:=(nOf L 89).trans Tryz.func89
def n91:=(nOf L 91).trans Tryz.func91
def n93:=(nOf L 93).trans Tryz.func93
def n94:=(nOf L 94).trans Tryz.func94
def n95:=L.2
def n96:=(nOf L 96).trans Tryz.func96
def n97:=(nOf L 97).trans Tryz.func97
def n98:=(nOf L 98).trans Tryz.func98
def n99:=(nOf L 99).trans Tryz.func99
def n100:=(nOf L 100).trans Tryz.func100
def n101:=(nOf L 101).trans Tryz.func101
def n102:=(nOf L 102).trans Tryz.func102
def n103:=(nOf L 103).trans Tryz.func103
def n104:=(nOf L 104).trans Tryz.func104
def n105:=(nOf L 105).trans Tryz.func105
def n106:=(nOf L 106).trans Tryz.func106
def n107:=(nOf L 107).trans Tryz.func107
def n108:=(nOf L 108).trans Tryz.func108
def n109:=(nOf L 109).trans Tryz.func109
def n110:=(nOf L 110).trans Tryz.func110
def n111:=(nOf L 111).trans Tryz.func111
def n112:=(nOf L 112).trans Tryz.func112
def n113:=(nOf L 113).trans Tryz.func113
def n114:=(nOf L 114).trans Tryz.func114
def n115:=(nOf L 115).trans Tryz.func115
def n116:=(nOf L 116).trans Tryz.func116
def n117:=(nOf L 117).trans Tryz.func117
def n118:=(nOf L 118).trans Tryz.func118
def n119:=(nOf L 119).trans Tryz.func119
def n120:=(nOf L 120).trans Tryz.func120
def n121:=(nOf L 121).trans Tryz.func121
def n125:=(nOf L 125).trans Tryz.func125
def n128:=(nOf L 128).trans Tryz.func128
def n129:=(nOf L 129).trans Tryz.func129
def n130:=(nOf L 130).trans Tryz.func130
def n131:=(nOf L 131).trans Tryz.func131
def n132:=(nOf L 132).trans Tryz.func132
def n133:=(nOf L 133).trans Tryz.func133
def n134:=(nOf L 134).trans Tryz.func134
def n135:=(nOf L 135).trans Tryz.func135
def n136:=(nOf L 136).trans Tryz.func136
def n137:=(nOf L 137).trans Tryz.func137
def n138:=(nOf L 138).trans Tryz.func138
def n139:=(nOf L 139).trans Tryz.func139
def n140:=(nOf L 140).trans Tryz.func140
def n141:=(nOf L 141).trans Tryz.func141
def n142:=(nOf L 142).trans Tryz.func142
def n143:=(nOf L 143).trans Tryz.func143
def n162:=(nOf L 162).trans Tryz.func162
def n163:=(nOf L 163).trans Tryz.func163
def n165:=(nOf L 165).trans Tryz.func165
def n166:=(nOf L 166).trans Tryz.func166
def n167:=(nOf L 167).trans Tryz.func167
def n173:=(nOf L 173).trans Tryz.func173
def n174:=(nOf L 174).trans Tryz.func174
def n175:=(nOf L 175).trans Tryz.func175
def n176:=(nOf L 176).trans Tryz.func176
def n179:=(nOf L 179).trans Tryz.func179
def n180:=(nOf L 180).trans Tryz.func180
def n181:=(nOf L 181).trans Tryz.func181
def n183:=(nOf L 183).trans Tryz.func183
def n192:=(nOf L 192).trans Tryz.func192
def n193:=(nOf L 193).trans Tryz.func193
def n194:=(nOf L 194).trans Tryz.func194
def n230:=(nOf L 230).trans Tryz.func230
def n231:=(nOf L 231).trans Tryz.func231
def n232:=(nOf L 232).trans Tryz.func232
def n233:=(nOf L 233).trans Tryz.func233
def n234:=(nOf L 234).trans Tryz.func234
def n235:=(nOf L 235).trans Tryz.func235
def n236:=(nOf L 236).trans Tryz.func236
def n237:=(nOf L 237).trans Tryz.func237
def n238:=(nOf L 238).trans Tryz.func238
def n239:=(nOf L 239).trans Tryz.func239
def n240:=(nOf L 240).trans Tryz.func240
def n241:=(nOf L 241).trans Tryz.func241
def n242:=(nOf L 242).trans Tryz.func242
def n243:=(nOf L 243).trans Tryz.func243
def n244:=(nOf L 244).trans Tryz.func244
def n245:=(nOf L 245).trans Tryz.func245
def eOf{P:Program}{f:FuncId}{fn:Func}{c:Code}(b:P.funcs[f]? =some fn)(d:(fn.name== "runtime.NumGoroutine")=false:=by kernel_rfl)(e:fn.body=some c:=by rfl):=λa w=>enters_of b d e a w
def e3:=eOf (n3 L)
def e4:=eOf (n4 L)
def e5:=eOf (n5 L)
def e6:=eOf (n6 L)
def e7:=eOf (n7 L)
def e8:=eOf (n8 L)
def e9:=eOf (n9 L)
def e10:=eOf (n10 L)
def e11:=eOf (n11 L)
def e16:=eOf (n16 L)
def e17:=eOf (n17 L)
def e18:=eOf (n18 L)
def e20:=eOf (n20 L)
def e21:=eOf (n21 L)
def e22:=eOf (n22 L)
def e24:=eOf (n24 L)
def e25:=eOf (n25 L)
def e29:=eOf (n29 L)
def e30:=eOf (n30 L)
def e31:=eOf (n31 L)
def e32:=eOf (n32 L)
def e33:=eOf (n33 L)
def e34:=eOf (n34 L)
def e36:=eOf (n36 L)
def e37:=eOf (n37 L)
def e38:=eOf (n38 L)
def e40:=eOf (n40 L)
def e46:=eOf (n46 L)
def e50:=eOf (n50 L)
def e51:=eOf (n51 L)
def e52:=eOf (n52 L)
def e53:=eOf (n53 L)
def e54:=eOf (n54 L)
def e55:=eOf (n55 L)
def e56:=eOf (n56 L)
def e57:=eOf (n57 L)
def e58:=eOf (n58 L)
def e59:=eOf (n59 L)
def e60:=eOf (n60 L)
def e61:=eOf (n61 L)
def e62:=eOf (n62 L)
def e63:=eOf (n63 L)
def e64:=eOf (n64 L)
def e65:=eOf (n65 L)
def e66:=eOf (n66 L)
def e67:=eOf (n67 L)
def e68:=eOf (n68 L)
def e69:=eOf (n69 L)
def e70:=eOf (n70 L)
def e72:=eOf (n72 L)
def e73:=eOf (n73 L)
def e75:=eOf (n75 L)
def e76:=eOf (n76 L)
def e78:=eOf (n78 L)
def e79:=eOf (n79 L)
def e80:=eOf (n80 L)
def e81:=eOf (n81 L)
def e82:=eOf (n82 L)
def e83:=eOf (n83 L)
def e84:=eOf (n84 L)
def e85:=eOf (n85 L)
def e88:=eOf (n88 L)
def e91:=eOf (n91 L)
def e93:=eOf (n93 L)
def e94:=eOf (n94 L)
def e95:=eOf (n95 L)
def e96:=eOf (n96 L)
def e97:=eOf (n97 L)
def e98:=eOf (n98 L)
def e99:=eOf (n99 L)
def Ss:=eOf (n100 L)
def Uc:=eOf (n101 L)
def Pp:=eOf (n102 L)
def Su:=eOf (n103 L)
def Ud:=eOf (n104 L)
def Sv:=eOf (n105 L)
def Ue:=eOf (n106 L)
def Sw:=eOf (n107 L)
def Uf:=eOf (n108 L)
def Pq:=eOf (n109 L)
def Pt:=eOf (n110 L)
def Pu:=eOf (n111 L)
def SD:=eOf (n112 L)
def SE:=eOf (n113 L)
def Ug:=eOf (n114 L)
def SF:=eOf (n115 L)
def SG:=eOf (n116 L)
def SH:=eOf (n117 L)
def Pv:=eOf (n118 L)
def SI:=eOf (n119 L)
def Pw:=eOf (n120 L)
def Uh:=eOf (n121 L)
def SJ:=eOf (n129 L)
def SK:=eOf (n130 L)
def SL:=eOf (n131 L)
def Rb:=eOf (n132 L)
def Px:=eOf (n133 L)
def Py:=eOf (n134 L)
def SM:=eOf (n135 L)
def Ui:=eOf (n136 L)
def SN:=eOf (n137 L)
def SO:=eOf (n138 L)
def SP:=eOf (n139 L)
def SQ:=eOf (n140 L)
def SS:=eOf (n141 L)
def SU:=eOf (n142 L)
def SV:=eOf (n143 L)
def Pz:=eOf (n162 L)
def SY:=eOf (n163 L)
def SZ:=eOf (n165 L)
def S6:=eOf (n166 L)
def S8:=eOf (n167 L)
def PC:=eOf (n173 L)
def PD:=eOf (n174 L)
def S9:=eOf (n175 L)
def Ta:=eOf (n176 L)
def PE:=eOf (n179 L)
def Tb:=eOf (n180 L)
def Tc:=eOf (n181 L)
def PF:=eOf (n183 L)
def Td:=eOf (n192 L)
def Te:=eOf (n193 L)
def Tf:=eOf (n194 L)
def Uj:=eOf (n230 L)
def J3:=eOf (n231 L)
def Uk:=eOf (n232 L)
def Ul:=eOf (n233 L)
def Tg:=eOf (n234 L)
def Th:=eOf (n235 L)
def Um:=eOf (n236 L)
def Ti:=eOf (n237 L)
def Un:=eOf (n238 L)
def Tj:=eOf (n239 L)
def Uo:=eOf (n240 L)
def Tk:=eOf (n241 L)
def Tl:=eOf (n242 L)
def Tn:=eOf (n243 L)
def To:=eOf (n244 L)
def Tp:=eOf (n245 L)
end
end Go.Proofs
namespace Go.Proofs
abbrev Bs:=List UInt8
def bh(c:UInt8):Bool:=decide (97<=(c.toNat:Int))&&decide ((c.toNat:Int)<=122)
def jG(c:UInt8):Bool:=decide (48<=(c.toNat:Int))&&decide ((c.toNat:Int)<=57)
def aq(n a b:Int):Bool:=decide (a<=n)&&decide (n<=b)
def aZ(s:Zk)(a b:Int):Bool:=aq s.size a b&&s.data.toList.all bh
def jH(c:UInt8):Bool:=c==10||c==58||c==59||c==44
def bq(s:Zk)(a:Int):Bool:=aq s.size 1 a&& !s.data.toList.any jH
def dK(s:Zk):Bool:=aq s.size 1 10&&(s.data.toList.head?.any bh)&&s.data.toList.all λc=>bh c||jG c
def dZ{a:Type}(chk:List a->a->Int)(seen:List a):List a->Int
 | []=>0
 |x::xs=>if chk seen x≠0 then chk seen x else dZ chk (seen++[x]) xs
def aI{a:Type}(b c:Int)(chk:List a->a->Int)(l:List a):Int:=if aq l.length b c then dZ chk [] l else 2
def letterF(seen:List Pr2)(p:Pr2):Int:=if !bq p.1 4 then 3 else if seen.any (λq=>decide (q.1=p.1))then 5 else if !aZ p.2 1 3 then 3 else 0
def eh(_:List Pr2)(p:Pr2):Int:=if !aZ p.1 1 3|| !aZ p.2 0 p.1.size then 3 else 0
def dq(seen:List jY)(t:jY):Int:=if !dK t.name then 4 else if seen.any (λq=>decide (q.name=t.name))then 5 else aI 0 5 eh t.aX
def jI(seen:List Zk)(s:Zk):Int:=if !aZ s 1 48 then 3 else if seen.any (λq=>decide (q=s))then 5 else 0
def gQ(_:List (List Zk))(l:List Zk):Int:=aI 2 4 jI l
def dL(t:Table):Int:=
 let a:=aI 0 12 letterF t.av
 if a≠0 then a else
 let b:=aI 0 3 dq t.aF
 if b≠0 then b else aI 0 4 gQ t.bu
def codeF(seen:List Int)(n:Int):Int:=if !aq n 0 999 then 1 else if seen.getLast?.any (λq=>decide (n<=q))then 7 else 0
def bV(m:Mark):Int:=
 if !dK m.name then 4 else if !m.word.data.toList.isEmpty&& !bq m.word 16 then 3 else
 let f:=aI 0 5 codeF m.aP
 if f≠0 then f else if !aq m.day 0 99999 then 1 else 0
def et(_:List ja)(r:ja):Int:=if !aq r.kind 0 5|| !aq r.least 1 100|| !aq r.plain 0 9|| !aq r.known 0 9 then 1 else 0
def oF(_:List Int)(n:Int):Int:=if !aq n 0 9 then 1 else 0
def fE(new:Zk)(seen:List Mark)(m:Mark):Int:=
 let f:=bV m
 if f≠0 then f else if decide (new=m.name)||seen.any (λq=>decide (q.name=m.name))then 5 else 0
def dB(c:Case):Int:=
 let a:=dL c.table
 if a≠0 then a else
 let b:=aI 0 6 et c.rules
 if b≠0 then b else
 let d:=bV c.new
 if d≠0 then d else
 let e:=aI 0 8 (fE c.new.name) c.marks
 if e≠0 then e else aI c.marks.length c.marks.length oF c.kin
def bP(b:List Pr2)(rest:Bs):Option Pr2:=b.foldl (λa p=>if p.1.data.toList.isPrefixOf rest&&decide ((a.elim 0 λq=>q.1.size)<p.1.size)then some p else a) none
def lR(a:List Pr2):Nat->Bs->Bs
 |0,_=>[]
 |_,[]=>[]
 |n+1,c::cs=>
  match bP a (c::cs)with
  |some p=>p.2.data.toList++lR a n ((c::cs).drop p.1.size)
  |none=>(if bh c then[c]else[])++lR a n cs
def aT(a:List Pr2)(w:Bs):Bs:=lR a w.length w
def fo(a b:Bs):Nat->Bs->Bs
 |0,s=>s
 |_,[]=>[]
 |n+1,c::cs=>if a.isPrefixOf (c::cs)then b++fo a b n ((c::cs).drop a.length)else c::fo a b n cs
def bX(p:Pr2)(s:Bs):Bs:=fo p.1.data.toList p.2.data.toList s.length s
def bL(t:Table)(k:Nat)(w:Bs):Bs:=((t.aF[k]?.map (·.aX)).getD []).foldl (λs r=>bX r s) (aT t.av w)
def oc:Nat->Bs->Bs->Nat
 |_,[],b=>b.length
 |_,_::a,[]=>a.length+1
 |0,_::_,_::_=>0
 |n+1,x::a,y::b=>if x=y then oc n a b else 1+min (oc n a b) (min (oc n a (y::b)) (oc n (x::a) b))
def aU(a b:Bs):Nat:=oc (a.length+b.length) a b
def tM(n b):oc n [] b=b.length:=by cases n<;>rfl
def rh(n a):oc n a []=a.length:=by cases n<;>cases a<;>rfl
theorem gS:∀(n m) (a b),a.length+b.length<=n->a.length+b.length<=m->oc n a b=oc m a b
 |n,m,[],b,_,_=>by rw[tM,tM]
 |n,m,x::a,[],_,_=>by rw[rh,rh]
 |0,_,x::a,y::b,h,_=>by simp at h
 |n+1,0,x::a,y::b,_,h=>by simp at h
 |n+1,m+1,x::a,y::b,c,d=>by simp only[UM]at c d;unfold oc;rw[gS n m a b (by omega) (by omega),gS n m a (y::b) (by simp only[UM];omega) (by simp only[UM];omega),gS n m (x::a) b (by simp only[UM];omega) (by simp only[UM];omega)]
def QY(b):aU [] b=b.length:=tM _ b
def MB(a):aU a []=a.length:=rh _ a
def QZ(x y)(a b:Bs):aU (x::a) (y::b)=if x=y then aU a b else 1+min (aU a b) (min (aU a (y::b)) (aU (x::a) b)):=by have e:aU (x::a) (y::b)=oc ((a.length+b.length+1)+1) (x::a) (y::b):=gS _ _ _ _ (UI _) (by simp only[UM];omega);rw[e];unfold oc aU;rw[gS (a.length+b.length+1) (a.length+b.length) a b (by omega) (UI _),gS (a.length+b.length+1) (a.length+(y::b).length) a (y::b) (by simp only[UM];omega) (UI _),gS (a.length+b.length+1) ((x::a).length+b.length) (x::a) b (by simp only[UM];omega) (UI _)]
def dQ(a b:Bs):Int:=if a.isEmpty||b.isEmpty then 0 else(100*((max a.length b.length:Nat)-(aU a b:Int)))/(max a.length b.length:Nat)
def qj(a b:Bs):Int:=
 let(x,y):=if a.length>b.length then(b,a)else(a,b)
 if x.length<3|| !x.isPrefixOf y&& !x.isSuffixOf y then 0 else(100*x.length:Int)/(y.length:Int)
def gU(t:Table)(a b:Bs):Int:=if t.bu.any (λl=>l.any (λs=>s.data.toList==a)&&l.any (λs=>s.data.toList==b))||(a==b&& !a.isEmpty)then 100 else 0
def bw(l other:List Int):List Int:=l.filter λn=> !other.contains n
def aO(l:List Int)(n:Int):Nat:=(l.filter λx=>x/100==n).length
def bY(a b:List Int):Int:=
 if a.isEmpty||b.isEmpty then 0 else
 let x:=bw a b;let y:=bw b a;let c:=((List.range 10).map λ(n:Nat)=>min (aO x n) (aO y n)).sum
 (100*(2*(a.length-x.length)+c:Nat):Int)/(a.length+b.length:Nat)
def bz(t:Table)(kind:Int)(one two:Mark):Int:=
 let a:=aT t.av one.word.data.toList;let b:=aT t.av two.word.data.toList
 if kind=0 then dQ a b
 else if kind=1 then(List.range t.aF.length).foldl (λc k=>max c (dQ (bL t k one.word.data.toList) (bL t k two.word.data.toList))) 0
 else if kind=2 then gU t a b
 else if kind=3 then dQ a b.reverse
 else if kind=4 then qj a b
 else bY one.aP two.aP
structure BP where
 days:Int
 level:Int
 kin:Int
deriving DecidableEq
def ig(c:Case)(m:Mark)(kin:Int)(r:ja):BP:=
 let a:=if m.known then min r.plain r.known else r.plain
 ⟨max 0 (m.day+1-c.new.day),max 0 (r.least-bz c.table r.kind c.new m),max 0 (a-kin)⟩
def dR(c:Case)(m:Mark)(kin:Int):Nat->List ja->Option (Nat×Int)
 |_,[]=>none
 |i,r::a=>if ig c m kin r=⟨0,0,0⟩then some (i,bz c.table r.kind c.new m)else dR c m kin (i+1) a
structure Hit where
 mark:Int
 eB:Int
 level:Int
deriving DecidableEq
def fp(c:Case)(i:Nat):Option Hit:=
 match c.marks[i]?,c.kin[i]? with
 |some m,some k=>(dR c m k 0 c.rules).map λx=>⟨i,x.1,x.2⟩
 |_,_=>none
def ij(c:Case)(i:Int):Int:=(c.marks[i.toNat]?.map (·.day)).getD 0
def aV(c:Case)(a b:Hit):Bool:=
 if a.eB≠b.eB then decide (a.eB<b.eB)else if a.level≠b.level then decide (b.level<a.level)else
 if ij c a.mark≠ij c b.mark then decide (ij c a.mark<ij c b.mark)else decide (a.mark<b.mark)
def eT(c:Case)(h:Hit):List Hit->List Hit
 | []=>[h]
 |x::xs=>if aV c x h then x::eT c h xs else h::x::xs
def bc(c:Case):List Hit:=((List.range c.marks.length).filterMap (fp c)).foldl (λl h=>eT c h l) []
def dX(b):aU [] b=b.length:=QY b
def dE(a):aU a []=a.length:=MB a
def yI(x y)(a b:Bs):aU (x::a) (y::b)=if x=y then aU a b else 1+min (aU a b) (min (aU a (y::b)) (aU (x::a) b)):=QZ x y a b
theorem qg:∀(n) (a b),a.length+b.length<=n->aU a b=aU b a
 |n,[],b,_=>by rw[dX,dE]
 |n,x::a,[],_=>by rw[dX,dE]
 |0,x::a,y::b,h=>by simp at h
 |n+1,x::a,y::b,h=>by
  simp only[UM]at h;rw[yI,yI,qg n a b (by omega),qg n a (y::b) (by simp only[UM];omega),qg n (x::a) b (by simp only[UM];omega)];by_cases e:x=y
  .subst e;simp
  .rw[UG e,UG (U4 e)];omega
def Q8(a b):aU a b=aU b a:=qg _ a b (UI _)
theorem yJ:∀(n) (a b) (x),a.length+b.length<=n->aU a b<=aU (x::a) b+1/\aU (x::a) b<=aU a b+1
 |n,a,[],x,_=>by rw[dE,dE];simp only[UM];omega
 |0,a,y::b,x,h=>by simp only[UM]at h;omega
 |n+1,a,y::b,x,h=>by
  simp only[UM]at h;have c:=yJ n b a y (by omega);have d:=yJ n a b x (by omega);rw[Q8 b a,Q8 (y::b) a]at c;rw[yI];by_cases e:x=y
  .rw[UH e];omega
  .rw[UG e];omega
def UC(a b x):aU a b<=aU (x::a) b+1:=(yJ _ a b x (UI _)).1
def uG(a b:Bs)(x):aU (x::a) (x::b)=aU a b:=by rw[yI,UH rfl]
def Lv(a b:Bs)(x y):aU (x::a) (y::b)<=aU a b+1:=by rw[yI];split<;>omega
theorem vw:∀(a b),aU a b<=max a.length b.length
 | [],b=>by rw[dX];simp
 |x::a,[]=>by rw[dE];simp
 |x::a,y::b=>by have h:=Lv a b x y;have k:=vw a b;simp only[UM];omega
theorem Bg:∀a,aU a a=0
 | []=>by rw[dX];rfl
 |x::a=>by rw[uG];exact Bg a
theorem rM:∀(a b),aU a b=0->a=b
 | [],b,h=>by rw[dX]at h;exact(Wm.1 h).symm
 |x::a,[],h=>by rw[dE]at h;simp at h
 |x::a,y::b,h=>by
  rw[yI]at h;by_cases e:x=y
  .rw[UH e]at h
   rw[e,rM a b h]
  .rw[UG e]at h;omega
abbrev Ed:=Int×Int×Int
def codeOf(c:UInt8):Int:=(c.toNat:Int)
def bf(i:Nat):Bs->Bs->List Ed
 | [],[]=>[]
 | [],y::b=>((i:Int),0,codeOf y)::bf i [] b
 |x::a,[]=>((i:Int),1,0)::bf (i+1) a []
 |x::a,y::b=>
  if aU (x::a) (y::b)=0 then[]
  else if aU (x::a) b+1=aU (x::a) (y::b)then((i:Int),0,codeOf y)::bf i (x::a) b
  else if aU a (y::b)+1=aU (x::a) (y::b)then((i:Int),1,0)::bf (i+1) a (y::b)
  else if x≠y then((i:Int),2,codeOf y)::bf (i+1) a b
  else bf (i+1) a b
termination_by a b=>a.length+b.length
inductive Run:Nat->Bs->List Ed->Bs->Prop
 |nil {i:Nat} {a:Bs}:Run i a [] a
 |keep {i:Nat} {a:Bs} {l:List Ed} {b:Bs} {e:Ed} (x:UInt8):(i:Int)<e.1->Run (i+1) a (e::l) b->Run i (x::a) (e::l) (x::b)
 |put {i:Nat} {a:Bs} {l:List Ed} {b:Bs} (y:UInt8):bh y=true->Run i a l b->Run i a (((i:Int),0,codeOf y)::l) (y::b)
 |drop {i:Nat} {a:Bs} {l:List Ed} {b:Bs} (x:UInt8):Run (i+1) a l b->Run i (x::a) (((i:Int),1,0)::l) b
 |swap {i:Nat} {a:Bs} {l:List Ed} {b:Bs} (x y:UInt8):bh y=true->Run (i+1) a l b->Run i (x::a) (((i:Int),2,codeOf y)::l) (y::b)
def Run.later{i a e l b}(h:Run i a (e::l) b):(i:Int)<=e.1:=by cases h with|keep x h _=>omega|put=>exact WQ _|drop=>exact WQ _|swap=>exact WQ _
def Lw(i a):bf i a a=[]:=by cases a with|nil=>rw[bf]|cons x a=>rw[bf,UH (Bg _)]
theorem kU:∀(n) (i) (a b),a.length+b.length<=n->b.all bh=true->Run i a (bf i a b) b/\(bf i a b).length=aU a b
 |n,i,[],[],_,_=>by rw[bf];exact⟨.nil,by rw[dX];rfl⟩
 |0,i,[],y::b,h,_=>by simp at h
 |n+1,i,[],y::b,h,c=>by simp only[W9,UT]at c;simp only[UM,UZ]at h;obtain⟨d,f⟩:=kU n i [] b (by simp only[UZ];omega) c.2;rw[bf];exact⟨.put y c.1 d,by rw[UM,f,dX,dX];rfl⟩
 |0,i,x::a,b,h,_=>by simp at h
 |n+1,i,x::a,[],h,c=>by simp only[UM,UZ]at h;obtain⟨d,f⟩:=kU n (i+1) a [] (by simp only[UZ];omega) c;rw[bf];exact⟨.drop x d,by rw[UM,f,dE,dE];rfl⟩
 |n+1,i,x::a,y::b,h,c=>by
  have m:=c;simp only[W9,UT]at c;simp only[UM]at h;rw[bf];by_cases k:aU (x::a) (y::b)=0
  .rw[UH k,k,rM _ _ k]
   exact⟨.nil,rfl⟩
  .rw[UG k]
   by_cases d:aU (x::a) b+1=aU (x::a) (y::b)
   .obtain⟨g,j⟩:=kU n i (x::a) b (by simp only[UM];omega) c.2
    rw[UH d];exact⟨.put y c.1 g,by rw[UM,j,d]⟩
   .rw[UG d]
    by_cases f:aU a (y::b)+1=aU (x::a) (y::b)
    .obtain⟨g,j⟩:=kU n (i+1) a (y::b) (by simp only[UM];omega) m
     rw[UH f];exact⟨.drop x g,by rw[UM,j,f]⟩
    .rw[UG f]
     obtain⟨g,j⟩:=kU n (i+1) a b (by omega) c.2;by_cases o:x=y
     .subst o
      rw[UG (λh=>h rfl),uG];rw[uG]at k;refine⟨?_,j⟩;cases p:bf (i+1) a b with
      |nil=>rw[p]at j;exact absurd j.symm k
      |cons e l=>rw[p]at g;exact .keep x (by have:=g.later;omega) g
     .rw[UH o]
      refine⟨.swap x y c.1 g,?_⟩;rw[UM,j];rw[yI,UG o]at d f⊢;have k1:=UC a (y::b) x;omega
def kj(a b:Bs):List Ed:=bf 0 a b
def zR(a b)(c:b.all bh=true):(kj a b).length=aU a b:=(kU _ 0 a b (UI _) c).2
def own:ownKnob Tryz.prog.godebug=none:=by kernel_rfl
noncomputable def Pn(os:Os):x6:=(World.doorLaid Tryz.prog 50 os).layVars Tryz.prog [("unicode/utf8.first",Go.Pinned.utf8First)]
def QX(os:Os):(Pn os).os=os:=World.layVars_os _ _ _
def Gx(os:Os)(args:Zq):((Pn os).forCall (λ_ _=>0) ⟨#[],args,[]⟩).Shaped Tryz.prog:=World.shaped_of_ZipB (by kernel_rfl) (by kernel_rfl)
def Po(os:Os)(args:Zq):laidMetH Tryz.prog YtaglpcmhopjebaaGreatDoor.Rows.likeWordsRow.laid ((Pn os).forCall (λ_ _=>0) ⟨#[],args,[]⟩).memory:=laidMetH_of_parts3 (fuel:=8) (laidMet_of_run' 8 (by kernel_rfl) (by kernel_rfl)) (by kernel_rfl) (by kernel_rfl)
end Go.Proofs
namespace Go.Proofs
open Go.Tm Go.RowKit
@[go_sem] theorem UF(P)(fs)(t)(w):(underlying t).run (ah P fs) w=(underlying t).run P w:=by simp only[underlying,program,bind,Sem.bind,Sem.run,aJ];cases P.underlying t<;>rfl
variable {fs:Array Func} (L:bR fs)
def wM(c):bh c=true↔97<=(c.toNat:Int)/\(c.toNat:Int)<=122:=by simp[bh]
def oG{s:Zk}{j}(a:j<s.size):s.data.toList[j]'(by simpa using a)=s[j]:=by rw[Yb];rfl
def BQ{p:UInt8->Bool}{s:Zk}(h:∀j (h:j<s.size),p s[j]=true):s.data.toList.all p=true:=by (rw[Vp];intro x b;obtain⟨j,c,rfl⟩:=Wt.1 b;have a:j<s.size:=by simpa using c);rw[oG a];exact h j a
def rO{s:Zk}{j}(a:j<s.size):s[j]∈s.data.toList:=by rw[<-oG a];exact US _
def tN{p}{s:Zk}{j}(a:j<s.size)(h:p s[j]=false):s.data.toList.all p=false:=by rw[List.all_eq_false];exact⟨s[j],rO a,by simp[h]⟩
def BR{p}{s:Zk}{j}(a:j<s.size)(h:p s[j]=true):s.data.toList.any p=true:=by rw[VO];exact⟨s[j],rO a,h⟩
def tO{p:UInt8->Bool}{s:Zk}(h:∀j (h:j<s.size),p s[j]=false):s.data.toList.any p=false:=by (rw[WK];intro x b;obtain⟨j,c,rfl⟩:=Wt.1 b;have a:j<s.size:=by simpa using c);rw[oG a,h j a];exact Xn
def uN{s a b k}(c:k<s.size)(h:((s[k].toNat:Int))<97\/122<(s[k].toNat:Int)):aZ s a b=false:=by (have:bh s[k]=false:=by cases d:bh s[k]with|false=>rfl|true=>have:=(wM _).1 d;omega);simp[aZ,tN c this]
def BS{s:Zk}{a hi:Int}(h:∀j (h:j<s.size),bh s[j]=true):aZ s a hi=aq s.size a hi:=by simp[aZ,BQ h]
def GF{s:Zk}{k:Nat}(b:∀j (h:j<k) (a:j<s.size),bh s[j]=true)(c:k<s.size)(h:bh s[k]=true):∀j (h:j<k+1) (a:j<s.size),bh s[j]=true:=by intro j d a;obtain h1|h1:=UK j k;exact b j h1 a;(have:j=k:=by omega);subst this;exact h
def mU(c):jH c=true↔(c.toNat:Int)=10\/(c.toNat:Int)=58\/(c.toNat:Int)=59\/(c.toNat:Int)=44:=by simp only[jH,Wl,VA,<-XG,UInt8.reduceToNat,or_assoc];omega
def kv{s a k}(b:k<s.size)(h:jH s[k]=true):bq s a=false:=by simp[bq,BR b h]
def ze{s:Zk}{hi:Int}(h:∀j (h:j<s.size),jH s[j]=false):bq s hi=aq s.size 1 hi:=by simp[bq,tO h]
def GJ{s:Zk}{k:Nat}(b:∀j (h:j<k) (a:j<s.size),jH s[j]=false)(c:k<s.size)(h:jH s[k]=false):∀j (h:j<k+1) (a:j<s.size),jH s[j]=false:=by intro j d a;obtain h1|h1:=UK j k;exact b j h1 a;(have:j=k:=by omega);subst this;exact h
def xb(n a b:Int)(w:x6):ap fs 60 #[.i n,.i a,.i b] w (.bool (aq n a b)):=by go_enter (n60 L),Tryz.ntmps60;go_wp2;all_goals (go_ret;simp[aq];try omega)
def nC(s:Zk)(a b:Int)(w:x6)(d:s.size<=9223372036854775807):ap fs 61 #[.string s,.i a,.i b] w (.bool (aZ s a b)):=by have e60:=e60 L;go_enter (n61 L),Tryz.ntmps61;go_wp2;(go_loop [7] (λi=>∃k:Nat,k<=s.size/\i=.i k/\∀j (h:j<k) (f:j<s.size),bh s[j]=true) (λi=>s.size-(intOf i).toNat));(case atStart=>exact⟨0,UP _,rfl,λj h=>absurd h (UX _)⟩);case round=>obtain⟨k,g,rfl,c⟩:=hrel;go_wp2_with (go_at_call 60;refine(xb L _ _ _ _).mono ?_;rintro e w' ⟨rfl,rfl⟩);go_ret;exact⟨by rw[uN (by assumption) (by assumption)];rfl,rfl⟩;refine⟨⟨k+1,by omega,by go_num,GF c (by assumption) ((wM _).2 (by assumption))⟩,by simp[intOf];omega⟩;go_ret;exact⟨by rw[uN (by assumption) (.inl (by assumption))];rfl,rfl⟩;go_ret;exact⟨by rw[BS λj h=>c j (by omega) h];rfl,rfl⟩
def ky(a b:Zk):(a.toList==b.toList)=decide (a=b):=by rw[VY,U3,VA,Lib.toList_data,Lib.toList_data];exact⟨λh=>Go.WideShapes.bytes_inj h,λh=>h▸rfl⟩
def J4{a b:Zk}(h:(a.toList==b.toList)=true):a=b:=by rw[ky]at h;simpa using h
def J5{a b:Zk}(h:(a.toList==b.toList)=false):a≠b:=by rw[ky]at h;simpa using h
def uO(s:Zk)(a:Int)(w:x6)(d:s.size<=9223372036854775807):ap fs 110 #[.string s,.i a] w (.bool (bq s a)):=by have e60:=e60 L;go_enter (n110 L),Tryz.ntmps110;go_wp2;(go_loop [5] (λi=>∃k:Nat,k<=s.size/\i=.i k/\∀j (h:j<k) (f:j<s.size),jH s[j]=false) (λi=>s.size-(intOf i).toNat));(case atStart=>exact⟨0,UP _,rfl,λj h=>absurd h (UX _)⟩);case round=>obtain⟨k,g,rfl,b⟩:=hrel;go_wp2_with (go_at_call 60;refine(xb L _ _ _ _).mono ?_;rintro e w' ⟨rfl,rfl⟩);go_ret;exact⟨by rw[kv (by assumption) ((mU _).2 (by omega))];rfl,rfl⟩;go_ret;exact⟨by rw[kv (by assumption) ((mU _).2 (by omega))];rfl,rfl⟩;go_ret;exact⟨by rw[kv (by assumption) ((mU _).2 (by omega))];rfl,rfl⟩;have h:= ‹(((_\/_)\/_)\/_:Prop)›;go_ret;simp only[VA]at h;exact⟨by rw[kv (by assumption) ((mU _).2 (by omega))];rfl,rfl⟩;have h:= ‹(((_/\_)/\_)/\_:Prop)›;simp only[Ve]at h;refine⟨⟨k+1,by omega,by go_num,GJ b (by assumption) ?_⟩,by simp[intOf];omega⟩;rw[XH];intro c;have:=(mU _).1 c;omega;go_ret;exact⟨by rw[ze λj h=>b j (by omega) h];rfl,rfl⟩
def rP(s r:Zk)(k:Nat)(w:x6)(c:s.size<=1000000)(d:r.size<=1000000)(f:k<=s.size):ap fs 96 #[.string s,.i k,.string r] w (.bool (Lib.occAt s.data.toList r.data.toList k)):=by go_enter (n96 L),Tryz.ntmps96;go_wp2;go_ret;exact⟨by rw[Lib.occ_of_piece s r k (by omega)];rfl,rfl⟩;go_ret;(refine⟨?_,rfl⟩;have:Lib.occAt s.data.toList r.data.toList k=false:=by cases a:Lib.occAt s.data.toList r.data.toList k with|false=>rfl|true=>have b:=(Wb.1 (show r.data.toList.isPrefixOf (s.data.toList.drop k)=true from a)).length_le;rw[UY,<-Lib.size_eq,<-Lib.size_eq]at b;have g:= ‹(_:Int)<_+_›;by_cases h:r.size=0;omega;omega);rw[this];rfl
def kq(l:List Zk)(s:Zk):Int:=(l.findIdx? λq=>decide (q=s)).elim (-1) λk=>(k:Int)
def J6{l:List Zk}{s:Zk}{k:Nat}(a:k<l.length)(h:l[k]=s)(b:∀j (h:j<k) (d:j<l.length),l[j]≠s):kq l s=k:=by (unfold kq;have:(l.findIdx? λq=>decide (q=s))=some k:=by rw[YE];exact⟨a,by simp[h],λj c=>by simpa using b j c (by omega)⟩);rw[this];rfl
def GK{l:List Zk}{s:Zk}(a:∀j (d:j<l.length),l[j]≠s):kq l s= -1:=by (unfold kq;have:(l.findIdx? λq=>decide (q=s))=none:=by rw[Yc];intro x b;obtain⟨j,c,rfl⟩:=Wt.1 b;simpa using a j c);rw[this];rfl
def rQ(l s):decide (0<=kq l s)=l.any (λq=>decide (q=s)):=by
 unfold kq;cases h:(l.findIdx? λq=>decide (q=s))with
 |none=>(rw[Yc]at h;have:l.any (λq=>decide (q=s))=false:=by rw[WK];intro x a;simpa using h x a);rw[this];rfl
 |some k=>rw[YE]at h;obtain⟨c,b,_⟩:=h;have:l.any (λq=>decide (q=s))=true:=VO.2 ⟨l[k],US _,b⟩;rw[this];simp
def Jp{b:Type}{l:List b}{s:b}{k:Nat}(c:∀j (h:j<k) (a:j<l.length),l[j]≠s)(d:k<l.length)(h:l[k]≠s):∀j (h:j<k+1) (a:j<l.length),l[j]≠s:=by intro j e a;obtain h1|h1:=UK j k;exact c j h1 a;(have:j=k:=by omega);subst this;exact h
def BT{K:Nat->Prop}{v:Zj}{l:List Zk}(s:Zk)(w:x6)(f:az K 1 jZ w v l):ap fs 62 #[v,.string s] w (.i (kq l s)):=by
 obtain⟨p,c,rfl,o,q,_,a⟩:=f;go_enter (n62 L),Tryz.ntmps62;go_wp2
 go_loop [5] (λi=>∃k:Nat,k<=l.length/\i=.i k/\∀j (h:j<k) (r:j<l.length),l[j]≠s) (λi=>l.length-(intOf i).toNat)
 case atStart=>exact⟨0,UP _,rfl,λj h=>absurd h (UX _)⟩
 case round=>
  obtain⟨k,t,rfl,g⟩:=hrel;obtain d|hge:=UK k l.length
  .obtain⟨b,m,rfl,n⟩:=a k d;(have n:w.cell? ⟨b,m+k,none⟩=some (.string l[k]):=by simpa[jZ]using n);go_wp2;go_ret;exact⟨by rw[J6 d (J4 (by assumption)) g];rfl,rfl⟩;exact⟨⟨k+1,by omega,by go_num,Jp g d (J5 (by assumption))⟩,by simp[intOf];omega⟩
  go_wp2;go_ret;exact⟨by rw[GK λj h=>g j (by omega) h];rfl,rfl⟩
def MC{K:Nat->Prop}{v:Zj}{l:List Int}(s:Int)(w:x6)(d:az K 1 cT w v l):ap fs 167 #[v,.i s] w (.bool (l.contains s)):=by
 obtain⟨r,c,rfl,p,t,_,a⟩:=d;go_enter (n167 L),Tryz.ntmps167;go_wp2
 go_loop [5] (λi=>∃k:Nat,k<=l.length/\i=.i k/\∀j (h:j<k) (u:j<l.length),l[j]≠s) (λi=>l.length-(intOf i).toNat)
 case atStart=>exact⟨0,UP _,rfl,λj h=>absurd h (UX _)⟩
 case round=>
  obtain⟨k,x,rfl,n⟩:=hrel;obtain f|hge:=UK k l.length
  .obtain⟨b,m,rfl,o⟩:=a k f;(have o:w.cell? ⟨b,m+k,none⟩=some (.i l[k]):=by simpa[cT]using o);go_wp2;have h:= ‹(_==_)=true›;(go_ret;have g:s∈l:=by rw[<-(VA.1 h)];exact US _);exact⟨by simp[g],rfl⟩;have h:= ‹(_==_)=false›;exact⟨⟨k+1,by omega,by go_num,Jp n f (by simpa using h)⟩,by simp[intOf];omega⟩
  go_wp2;go_ret;have g:¬s∈l:=λg=>by obtain⟨j,q,rfl⟩:=Wt.1 g;exact n j (by omega) q rfl
  exact⟨by simp[g],rfl⟩
def oH{a:Type}(p)(l:List a)(k)(b:k<l.length):((l.take (k+1)).filter p)=(l.take k).filter p++(if p l[k]then[l[k]]else[]):=by rw[WL b,WU];congr 1;simp[List.filter];split<;>simp_all
def xc{K:Nat->Prop}{v:Zj}{l:List Int}(n:Int)(w:x6)(d:az K 1 cT w v l)(p:∀x∈l,0<=x/\x<=999):ap fs 142 #[v,.i n] w (.i (aO l n)):=by
 obtain⟨r,c,rfl,q,s,_,a⟩:=d;go_enter (n142 L),Tryz.ntmps142;go_wp2
 go_loop [5,6] (λm i=>∃k:Nat,k<=l.length/\i=.i k/\m=.i (aO (l.take k) n)) (λm i=>l.length-(intOf i).toNat)
 case atStart=>exact⟨0,UP _,rfl,rfl⟩
 case round=>
  obtain⟨k,t,rfl,rfl⟩:=hrel;have u:aO (l.take k) n<=k:=by unfold aO;exact UJ (VP _ _) (by simp;omega)
  obtain f|hge:=UK k l.length
  .obtain⟨b,j,rfl,o⟩:=a k f;(have o:w.cell? ⟨b,j+k,none⟩=some (.i l[k]):=by simpa[cT]using o);(obtain⟨y,z⟩:=p l[k] (US _);have g:aO (l.take (k+1)) n=aO (l.take k) n+(if l[k]/100==n then 1 else 0):=by unfold aO;rw[oH _ _ _ f,U6];split<;>rfl);go_wp2;have h:= ‹(_==n)=true›;exact⟨⟨k+1,by omega,by go_num,by rw[g,UH h];go_num⟩,by simp[intOf];omega⟩;have h:= ‹(_==n)=false›;exact⟨⟨k+1,by omega,by go_num,by rw[g,UG (by rw[h];exact Xn)];go_num⟩,by simp[intOf];omega⟩
  go_wp2;go_ret;rw[WV hge];exact⟨rfl,rfl⟩
end Go.Proofs
namespace Go.Proofs
open Go.Tm Go.RowKit
variable {fs:Array Func} (L:bR fs)
def bs(l:Bs):Zk:=⟨l.toArray⟩
def dz(l):(bs l).data.toList=l:=by simp[bs]
def da(l):(bs l).size=l.length:=by rw[Lib.size_eq,dz]
def ri{a b:Zk}(h:a.data.toList=b.data.toList):a=b:=Go.WideShapes.bytes_inj h
def DV(a b:Zk):(a++b).data.toList=a.data.toList++b.data.toList:=by obtain⟨⟨a⟩⟩:=a;obtain⟨⟨b⟩⟩:=b;simp
def tP(x)(r:Zk):bs x++r=bs (x++r.data.toList):=ri (by rw[DV,dz,dz])
def BU(x)(s:Zk)(k)(b:k<s.size):bs x++s.extract k (k+1)=bs (x++[s[k]]):=by rw[tP,Lib.extract_data];congr 2;(have a:k<s.data.toList.length:=by rwa[<-Lib.size_eq]);rw[WW a,YF];simp only[Vu,Vq];rw[oG b]
def drop_cons(s:Zk)(k)(b:k<s.size):s.data.toList.drop k=s[k]::s.data.toList.drop (k+1):=by (have a:k<s.data.toList.length:=by rwa[<-Lib.size_eq]);rw[WW a,oG b]
def zg(f t:Bs)(e:f≠[]):∀(n m) (s),s.length<=n->s.length<=m->fo f t n s=fo f t m s:=by have a:=VZ.2 e;intro n;induction n with|zero=>intro m s h _;have:s=[]:=Vx (by omega);subst this;cases m<;>rfl|succ n b=>intro m s h d;cases s with|nil=>cases m<;>rfl|cons c cs=>cases m with|zero=>simp at d|succ m=>(simp only[UM]at h d;unfold fo;have g:((c::cs).drop f.length).length<=n:=by rw[UY,UM];omega);(have i:((c::cs).drop f.length).length<=m:=by rw[UY,UM];omega);rw[b m _ g i,b m cs (by omega) (by omega)]
def nD(p):bX p []=[]:=rfl
def nE{p s}(b:p.1.data.toList.isPrefixOf s=true)(a:p.1.data.toList≠[]):bX p s=p.2.data.toList++bX p (s.drop p.1.data.toList.length):=by cases s with|nil=>have:=(Wb.1 b).length_le;exact absurd (Vx (Nat.le_zero.1 this)) a|cons c cs=>have d:=VZ.2 a;show fo _ _ (cs.length+1) (c::cs)=_;unfold fo;rw[UH b];congr 1;exact zg _ _ a _ _ _ (by rw[UY,UM];omega) (UI _)
def mo{p c}{s:Bs}(a:p.1.data.toList.isPrefixOf (c::s)=false):bX p (c::s)=c::bX p s:=by show fo _ _ (s.length+1) (c::s)=_;unfold fo;rw[a];rfl
def aC(w:x6)(c)(e i:Nat)(v)(h:c[i]? =some v):(w.alloc (.cells c e)).cell? ⟨w.heap.size,i,none⟩=some v:=by unfold World.cell? World.alloc;simp[h]
def aH(w o):xv w (w.alloc o):=(Below.refl _ w).alloc (UI _) o
def DX(s:Zk)(p:Pr2)(w:x6)(z:s.size<=1000)(A:1<=p.1.size)(B:p.1.size<=1000)(C:p.2.size<=1000):ac fs 113 #[.string s,.agg #[.string p.1,.string p.2]] w (.string (bs (bX p s.data.toList))):=by
 have e96:=e96 L;have n:p.1.data.toList≠[]:=by intro h;have l:=Lib.size_eq p.1;rw[h]at l;have D:p.1.size=0:=l;omega
 have q:=aC w #[.string p.1,.string p.2] 51 0 (.string p.1) rfl;have r:=aC w #[.string p.1,.string p.2] 51 1 (.string p.2) rfl;have t:Hid (xv w (w.alloc (.cells #[.string p.1,.string p.2] 51))):=aH w _;go_enter (n113 L),Tryz.ntmps113;go_wp2
 go_loop [5,6] (λo i=>∃(k:Nat) (x:Bs),k<=s.size/\i=.i k/\o=.string (bs x)/\(bs x).size<=1000*k/\x++bX p (s.data.toList.drop k)=bX p s.data.toList) (λo i=>s.size-(intOf i).toNat)
 case atStart=>exact⟨0,[],UP _,rfl,rfl,UP _,rfl⟩
 case round=>
  obtain⟨k,x,E,rfl,rfl,u,a⟩:=hrel;have g:=jj a;clear a;obtain b|hge:=UK k s.size
  .have c:=drop_cons s k b;have m:=jj c;clear c;have v:=λy=>rP L s p.1 k y (by omega) (by omega) (by omega);go_wp2_with (go_at_call 96;refine(v _).mono ?_;rintro e w' ⟨rfl,rfl⟩);have f:= ‹Lib.occAt _ _ _=true›;have d:=(Wb.1 (show p.1.data.toList.isPrefixOf (s.data.toList.drop k)=true from f)).length_le;rw[UY,<-Lib.size_eq,<-Lib.size_eq]at d;refine⟨⟨k+p.1.size,x++p.2.data.toList,by omega,by go_num,by rw[tP],?_,?_⟩,by simp[intOf];omega⟩;rw[da,U6,<-da x,<-Lib.size_eq];have:1000*(k+p.1.size)=1000*k+1000*p.1.size:=Nat.mul_add _ _ _;omega;rw[<-g.o,nE f n,Xo,<-Lib.size_eq,V5];have f:= ‹Lib.occAt _ _ _=false›;refine⟨⟨k+1,x++[s[k]],by omega,by go_num,by rw[BU x s k b],?_,?_⟩,by simp[intOf];omega⟩;rw[da,U6,<-da x];simp only[UM,UZ];omega;rw[<-g.o,m.o];(have j:p.1.data.toList.isPrefixOf (s[k]::s.data.toList.drop (k+1))=false:=by rw[<-m.o];exact f);rw[mo j,V5];rfl
  go_wp2;go_ret;have a:=g.o;rw[Vn (by rw[<-Lib.size_eq];exact hge),nD,V7]at a;exact⟨by rw[a];rfl,t.o⟩
def MD(s:Zk)(w:x6)(d:s.size<=1000):ap fs 117 #[.string s] w (.string (bs s.data.toList.reverse)):=by
 go_enter (n117 L),Tryz.ntmps117;go_wp2
 go_loop [3,4] (λo i=>∃(k:Nat) (x:Bs),k<=s.size/\i=.i ((k:Int)-1)/\o=.string (bs x)/\(bs x).size<=1000/\x=(s.data.toList.drop k).reverse) (λo i=>(intOf i+1).toNat)
 case atStart=>exact⟨s.size,[],UI _,by simp,rfl,by decide,by rw[Vn (by rw[<-Lib.size_eq];exact UI _)];rfl⟩
 case round=>
  obtain⟨k,x,f,rfl,rfl,c,a⟩:=hrel;have b:=jj a;clear a;obtain rfl|hpos:=Vr k
  .go_wp2;go_ret;have a:=b.o;rw[Vy]at a;exact⟨by rw[a];rfl,rfl⟩
  obtain⟨j,rfl⟩:∃j,k=j+1:=⟨k-1,by omega⟩
  go_wp2;have a:=b.o;refine⟨⟨j,x++[s[j]],by omega,rfl,by rw[BU x s j (by omega)],?_,?_⟩,by simp[intOf]⟩;rw[da,U6,a,XI,UY,<-Lib.size_eq];simp only[UM,UZ];omega;rw[a,drop_cons s j (by omega),List.reverse_cons]
def PG{a b:Zk}(d:a.size<=b.size):qj a.data.toList b.data.toList= if a.size<3\/(Lib.occAt b.data.toList a.data.toList 0=false/\Lib.occAt b.data.toList a.data.toList (b.size-a.size)=false)then 0 else(100*a.size:Int)/b.size:=by (have c:a.data.toList.isSuffixOf b.data.toList=Lib.occAt b.data.toList a.data.toList (b.size-a.size):=by (have h:=Lib.hasSuffix_of_drop b.data.toList a.data.toList;unfold Lib.hasSuffix at h;rw[<-h,<-Lib.size_eq,<-Lib.size_eq,UQ d,Xp];unfold Lib.occAt;have e:(b.data.toList.drop (b.size-a.size)).length=a.data.toList.length:=by rw[UY,<-Lib.size_eq,<-Lib.size_eq];omega);rw[VY,VA,Wb];exact⟨λh=>h▸List.prefix_refl _,λh=>(List.IsPrefix.eq_of_length h e.symm).symm⟩);unfold qj;rw[<-Lib.size_eq,<-Lib.size_eq,UG (by omega)];simp only[];rw[<-Lib.size_eq,<-Lib.size_eq,c,show a.data.toList.isPrefixOf b.data.toList=Lib.occAt b.data.toList a.data.toList 0 from rfl];cases Lib.occAt b.data.toList a.data.toList 0<;>cases Lib.occAt b.data.toList a.data.toList (b.size-a.size)<;>simp
def ME(a b:Zk)(w:x6)(g:a.size<=1000)(i:b.size<=1000)(c:a.size<=b.size):ap fs 118 #[.string a,.string b] w (.i (qj a.data.toList b.data.toList)):=by
 have e96:=e96 L;have f:∀wx,ap fs 96 #[.string b,.i 0,.string a] wx (.bool (Lib.occAt b.data.toList a.data.toList 0)):=λwx=>rP L b a 0 wx (by omega) (by omega) (by omega);have d:∀wx,ap fs 96 #[.string b,.i ((b.size:Int)-a.size),.string a] wx (.bool (Lib.occAt b.data.toList a.data.toList (b.size-a.size))):=λwx=>by rw[show(b.size:Int)-a.size=((b.size-a.size:Nat):Int) by omega];exact rP L b a (b.size-a.size) wx (by omega) (by omega) (by omega)
 go_enter (n118 L),Tryz.ntmps118;go_wp2_with (first|(go_at_call 96;refine(f _).mono ?_;rintro e w' ⟨rfl,rfl⟩)|(go_at_call 96;refine(d _).mono ?_;rintro e w' ⟨rfl,rfl⟩));all_goals
  go_ret;refine⟨?_,rfl⟩;rw[PG c];first
   |(rw[UH (by first|(left;omega)|(right;simp_all;done)|(right;simp_all;rcases ‹_\/_› with h|h<;>first|omega|exact h))];rfl)
   |(rw[UG (by simp_all;try omega)];rfl)
def zY{a b:Zk}(h:b.size<a.size):qj a.data.toList b.data.toList=qj b.data.toList a.data.toList:=by unfold qj;rw[<-Lib.size_eq,<-Lib.size_eq,UH h,UG (by omega)]
def Tq(a b:Zk)(w:x6)(d:a.size<=1000)(f:b.size<=1000):ap fs 118 #[.string a,.string b] w (.i (qj a.data.toList b.data.toList)):=by
 obtain c|hge:=UK b.size a.size
 .have Pv:=Pv L;have g:=λh=>ME L b a h f d (by omega);go_enter (n118 L),Tryz.ntmps118;go_wp2_with (go_at_call 118;refine(g _).mono ?_;rintro e w' ⟨rfl,rfl⟩);go_ret;exact⟨by rw[zY c];rfl,rfl⟩
 exact ME L a b w d f hge
structure OkT(t:Table):Prop where
 lets:∀p∈t.av,1<=p.1.size/\p.1.size<=4/\p.2.size<=3
 Tr:t.av.length<=12
 aX:∀x∈t.aF,∀p∈x.aX,1<=p.1.size/\p.1.size<=3/\p.2.size<=p.1.size
 Jq:∀x∈t.aF,x.aX.length<=5
 xd:t.aF.length<=3
 Rc:t.bu.length<=4
def eC(rest:Bs)(a:Option Pr2)(p:Pr2):Option Pr2:=if p.1.data.toList.isPrefixOf rest&&decide ((a.elim 0 λq=>q.1.size)<p.1.size)then some p else a
def kz(a:List Pr2)(k)(b:k<a.length)(rest):bP (a.take (k+1)) rest=eC rest (bP (a.take k) rest) a[k]:=by unfold bP;rw[WL b,XJ];rfl
def iE(a:List Pr2)(rest:Bs)(k:Nat)(b:Int):Prop:=(b= -1/\bP (a.take k) rest=none)\/∃j,∃h:j<a.length,j<k/\b=j/\bP (a.take k) rest=some a[j]
def iE.start(a rest):iE a rest 0 (-1):=.inl ⟨rfl,rfl⟩
def BV(rest):∀(a:List Pr2) (b) (p),a.foldl (eC rest) b=some p->p∈a\/b=some p:=by intro a;induction a with|nil=>exactλb p h=>.inr h|cons q a c=>intro b p h;obtain h|h:=c _ p h;exact .inl (.tail _ h);unfold eC at h;split at h;cases h;exact .inl (.head _);exact .inr h
def ik{ls rest p}(h:bP ls rest=some p):p∈ls:=by obtain h|h:=BV rest ls none p h;exact h;cases h
def vL(rest:Bs):∀(c:List Pr2) (b),(∀p,b=some p->p.1.data.toList.isPrefixOf rest=true)->∀p,c.foldl (eC rest) b=some p->p.1.data.toList.isPrefixOf rest=true:=by intro c;induction c with|nil=>exactλb d p h=>d p h|cons q c f=>intro b d p h;refine f _ (λg a=>?_) p h;unfold eC at a;split at a;rename_i e;cases a;simp only[UT]at e;exact e.1;exact d g a
def oI{a rest p}(h:bP a rest=some p):p.1.data.toList.isPrefixOf rest=true:=vL rest a none (λp h=>by cases h) p h
def GL(a:List Pr2)(e:∀p∈a,1<=p.1.size):∀(n m) (s),s.length<=n->s.length<=m->lR a n s=lR a m s:=by intro n;induction n with|zero=>intro m s h _;have:s=[]:=Vx (by omega);subst this;cases m<;>rfl|succ n b=>intro m s h d;cases s with|nil=>cases m<;>rfl|cons c cs=>cases m with|zero=>simp at d|succ m=>simp only[UM]at h d;unfold lR;cases f:bP a (c::cs)with|none=>simp only[];rw[b m cs (by omega) (by omega)]|some p=>have g:=ik f;have:=e p g;simp only[];rw[b m _ (by rw[UY,UM];omega) (by rw[UY,UM];omega)]
def kL{w w':x6}(h:w'.heap=w.heap)(a):w'.cell? a=w.cell? a:=by unfold World.cell?;rw[h]
def J7(a):aT a []=[]:=rfl
def J8{a:List Pr2}(b:∀p∈a,1<=p.1.size){c}{s:Bs}{p}(d:bP a (c::s)=some p):aT a (c::s)=p.2.data.toList++aT a ((c::s).drop p.1.size):=by have e:=b p (ik d);show lR a (s.length+1) (c::s)=_;unfold lR;rw[d];simp only[];congr 1;exact GL _ b _ _ _ (by rw[UY,UM];omega) (UI _)
def GM{a c}{s:Bs}(b:bP a (c::s)=none):aT a (c::s)=(if bh c then[c]else[])++aT a s:=by show lR a (s.length+1) (c::s)=_;unfold lR;rw[b];rfl
def iE.skip{a rest k b}(h:iE a rest k b)(d:k<a.length)(e:eC rest (bP (a.take k) rest) a[k]=bP (a.take k) rest):iE a rest (k+1) b:=by obtain⟨f,c⟩|⟨j,g,f,c,i⟩:=h;exact .inl ⟨f,by rw[kz _ _ d,e,c]⟩;exact .inr ⟨j,g,by omega,c,by rw[kz _ _ d,e,i]⟩
def iE.take{a rest k}(b:k<a.length)(c:eC rest (bP (a.take k) rest) a[k]=some a[k]):iE a rest (k+1) k:=.inr ⟨k,b,VR _,rfl,by rw[kz _ _ b,c]⟩
def DY{K:Nat->Prop}{v0 v1 v2:Zj}{t:Table}(s:Zk)(w:x6)(ht:IsTable K w v0 v1 v2 t)(ok:OkT t)(hs:s.size<=1000):Calls (Qs fs) 54 #[.agg #[v0,v1,v2],.string s] w λe w'=>e=.returned (.string (bs (aT t.av s.data.toList)))/\xv w w':=by
 have e96:=e96 L;obtain⟨⟨S,c,rfl,aa,hc,_,m⟩,_,_⟩:=ht;have n:=ok.lets;have ab:=ok.Tr;clear ok;obtain⟨ls,T⟩:=ex (t.av);rw[<-T]at aa m n ab⊢;clear T;have h1:∀p∈ls,1<=p.1.size:=λp hp=>(n p hp).1;have q:=aC w #[.slice S ls.length c,v1,v2] 26 0 _ rfl;have U:=aH w (.cells #[.slice S ls.length c,v1,v2] 26);have r:∀(k:Nat) (h:k<ls.length),∃b v,S=some ⟨b,v,none⟩/\dA K (w.alloc (.cells #[.slice S ls.length c,v1,v2] 26)) b (v+k*2) ls[k]:=λk h=>by obtain⟨b,v,e,P⟩:=m k h;exact⟨b,v,e,dA.carry (Carry.keep (ae.below (aH w _))) b b _ _ rfl P⟩
 clear m;obtain⟨w1,V⟩:=ex (w.alloc (.cells #[.slice S ls.length c,v1,v2] 26));go_enter (n54 L),Tryz.ntmps54;go_wp2;rw[<-V]at q U r⊢;obtain⟨N,hN⟩:=ex (w.heap.size);rw[<-hN]at q⊢;clear V hN;go_loopw [5,6] (λo i wr=>∃(k:Nat) (x:Bs),k<=s.size/\i=.i k/\o=.string (bs x)/\(bs x).size<=1000*k/\wr.heap=w1.heap/\xv w wr/\x++aT ls (s.data.toList.drop k)=aT ls s.data.toList) (λo i _=>s.size-(intOf i).toNat);case atStart=>exact⟨0,[],UP _,rfl,rfl,UP _,rfl,U,rfl⟩
 case round=>
  obtain⟨k,x,hk,rfl,rfl,ar,A,l,W⟩:=hrel;have R:=jj W;clear W;obtain X|hge:=UK k s.size
  .have B:=(kL A _).trans q;have Y:=drop_cons s k X;have HD:=jj Y;clear Y;go_wp2;go_loopw [7,8] (λb i wr=>∃(j:Nat) (b0:Int),j<=ls.length/\i=.i j/\b=.i b0/\iE ls (s.data.toList.drop k) j b0/\wr.heap=w1.heap/\xv w wr) (λb i _=>ls.length-(intOf i).toNat);case atStart=>exact⟨0,-1,UP _,rfl,rfl,iE.start _ _,A,l⟩
   case round=>
    (obtain⟨j,b0,hj,rfl,rfl,C,a,g⟩:=hrel;have ak:=(kL a _).trans q;have HW:Hid _:=(⟨a,g⟩:wr.heap=w1.heap/\xv w wr));obtain f|hjge:=UK j ls.length
    .obtain⟨b,v,rfl,D,H⟩:=r j f;have ad:=n ls[j] (US _);obtain⟨z1,z2,z3⟩:=ad;have D:=(kL a _).trans D;have E:=r;clear a g A l q H h1 n R U B r;have I:=λwx=>rP L s ls[j].1 k wx (by omega) (by omega) (by omega);obtain⟨rfl,y⟩|⟨u,F,Q,rfl,d⟩:=C
     .have G:=jj y;clear y E;cases z:Lib.occAt s.data.toList ls[j].1.data.toList k with|false=>simp only[z]at I;have M:=jj z;clear z;go_wp2;go_quiet ((go_at_call 96;exact Calls.quiet_of_same (I _)));go_wp2;refine⟨⟨j+1,-1,by omega,by go_num,rfl,iE.skip (.inl ⟨rfl,G.o⟩) f ?_,HW.o.1,Go.below_drewN HW.o.2 _⟩,by simp[intOf];omega⟩;unfold eC;rw[show ls[j].1.data.toList.isPrefixOf (s.data.toList.drop k)=false from M.o];rfl|true=>simp only[z]at I;have M:=jj z;clear z;go_wp2;go_quiet ((go_at_call 96;exact Calls.quiet_of_same (I _)));go_wp2;refine⟨⟨j+1,j,by omega,by go_num,rfl,iE.take f ?_,HW.o.1,Go.below_drewN HW.o.2 _⟩,by simp[intOf];omega⟩;unfold eC;rw[show ls[j].1.data.toList.isPrefixOf (s.data.toList.drop k)=true from M.o,G.o,Xp];exact UH (UQ (show(0:Nat)<ls[j].1.size by omega))
     obtain⟨b2,an,e2,Z,_⟩:=E u F
     cases e2;have Z:=(kL HW.o.1 _).trans Z;have G:=jj d;clear d E;cases z:Lib.occAt s.data.toList ls[j].1.data.toList k with
     |false=>simp only[z]at I;have M:=jj z;clear z;go_wp2;go_quiet ((go_at_call 96;exact Calls.quiet_of_same (I _)));go_wp2;refine⟨⟨j+1,u,by omega,by go_num,rfl,iE.skip (.inr ⟨u,F,Q,rfl,G.o⟩) f ?_,HW.o.1,Go.below_drewN HW.o.2 _⟩,by simp[intOf];omega⟩;unfold eC;rw[show ls[j].1.data.toList.isPrefixOf (s.data.toList.drop k)=false from M.o];rfl
     |true=>
      simp only[z]at I;have M:=jj z;clear z;obtain hcmp|hcmp:=UK ls[u].1.size ls[j].1.size
      .go_wp2;go_quiet ((go_at_call 96;exact Calls.quiet_of_same (I _)));go_wp2;refine⟨⟨j+1,j,by omega,by go_num,rfl,iE.take f ?_,HW.o.1,Go.below_drewN HW.o.2 _⟩,by simp[intOf];omega⟩;unfold eC;rw[show ls[j].1.data.toList.isPrefixOf (s.data.toList.drop k)=true from M.o,G.o];simp[hcmp]
      go_wp2;go_quiet ((go_at_call 96;exact Calls.quiet_of_same (I _)));go_wp2;refine⟨⟨j+1,u,by omega,by go_num,rfl,iE.skip (.inr ⟨u,F,Q,rfl,G.o⟩) f ?_,HW.o.1,Go.below_drewN HW.o.2 _⟩,by simp[intOf];omega⟩;unfold eC;rw[show ls[j].1.data.toList.isPrefixOf (s.data.toList.drop k)=true from M.o,G.o,Xp,UG (by rw[U3];show ¬ls[u].1.size<ls[j].1.size;omega)]
    (have af:j=ls.length:=by omega);subst af;obtain⟨rfl,y⟩|⟨u,F,Q,rfl,d⟩:=C
    .rw[WM]at y;(have G:=jj y;have J:=R;clear y r A l q h1 n R U B a g;have O:∀b:Bool,bh s[k]=b->aT ls (s.data.toList.drop k)=(if b then[s[k]]else[])++aT ls (s.data.toList.drop (k+1)):=λb hb=>by have P:=G.o;rw[HD.o]at P⊢;rw[GM P,hb]);have HL:=jj O;clear O;go_wp2;refine⟨⟨k+1,x++[s[k]],by omega,by go_num,by rw[BU x s k X],?_,HW.o.1,HW.o.2,?_⟩,by simp[intOf];omega⟩;rw[da,U6,<-da x];simp only[UM,UZ];omega;rw[<-J.o,HL.o true ((wM _).2 ⟨by assumption,by assumption⟩),V5];rfl;all_goals
      refine⟨⟨k+1,x,by omega,by go_num,rfl,by omega,HW.o.1,HW.o.2,?_⟩,by simp[intOf];omega⟩;rw[<-J.o,HL.o false (by
       cases hl:bh s[k]with
       |false=>rfl
       |true=>have:=(wM _).1 hl;omega)]
      rfl
    rw[WM]at d;obtain⟨b,v,rfl,D,H⟩:=r u F;obtain⟨z1,z2,z3⟩:=n ls[u] (US _);have D:=(kL a _).trans D;have H:=(kL a _).trans H;have G:=jj d;have J:=R;have H1:=jj h1;have ag:=(Wb.1 (oI d)).length_le;rw[UY,<-Lib.size_eq,<-Lib.size_eq]at ag;clear d r A l q n R U B a g h1;go_wp2;refine⟨⟨k+ls[u].1.size,x++ls[u].2.data.toList,by omega,by go_num,by rw[tP],?_,HW.o.1,HW.o.2,?_⟩,by simp[intOf];omega⟩;rw[da,U6,<-da x,<-Lib.size_eq];have:1000*(k+ls[u].1.size)=1000*k+1000*ls[u].1.size:=Nat.mul_add _ _ _;omega;have P:=G.o;rw[<-J.o];rw[HD.o]at P⊢;rw[J8 H1.o P,<-HD.o,Xo,V5]
  go_wp2;go_ret;have W:=R.o;rw[Vn (by rw[<-Lib.size_eq];exact hge),J7,V7]at W;exact⟨by rw[W];rfl,l⟩
def ae.cell{w w'}(h:ae w w'){b o v}(a:w.cell? ⟨b,o,none⟩=some v):w'.cell? ⟨b,o,none⟩=some v:=by unfold World.cell? at a⊢;revert a;simp only[];cases c:w.heap[b]? with|none=>intro h;cases h|some o'=>cases o' with|cells d e F=>intro a;rw[h b d e F c];exact a|_=>intro h;cases h
def ae.alloc(w o):ae w (w.alloc o):=ae.below (aH w o)
def ae.drewN{w w'}(h:ae w w')(n):ae w (w'.drewN n):=h
def vN(f t)(b:t.length<=f.length):∀(n) (s),(fo f t n s).length<=s.length:=by intro n;induction n with|zero=>intro s;exact UI _|succ n a=>intro s;cases s with|nil=>exact UI _|cons c cs=>unfold fo;split;rename_i d;have g:=(Wb.1 d).length_le;have e:=a ((c::cs).drop f.length);rw[UY]at e;rw[U6];omega;have:=a cs;simp only[UM];omega
def j6{p}(h:p.2.size<=p.1.size)(s):(bX p s).length<=s.length:=vN _ _ (by rw[<-Lib.size_eq,<-Lib.size_eq];exact h) _ _
def rR(a:List Pr2)(h:∀p∈a,1<=p.1.size/\p.1.size<=4/\p.2.size<=3):∀(n) (s),(lR a n s).length<=3*s.length:=by intro n;induction n with|zero=>intro s;exact UP _|succ n b=>intro s;cases s with|nil=>exact UP _|cons c cs=>unfold lR;cases e:bP a (c::cs)with|none=>have:=b cs;simp only[U6,UM];split<;>simp only[UM,UZ]<;>omega|some p=>obtain⟨f,g,i⟩:=h p (ik e);have d:=b ((c::cs).drop p.1.size);rw[UY]at d;simp only[U6,UM]at d⊢;rw[<-Lib.size_eq];omega
def db{t}(a:OkT t)(s):(aT t.av s).length<=3*s.length:=rR _ a.lets _ _
def GN(aX:List Pr2)(y:Bs):Bs:=aX.foldl (λs r=>bX r s) y
def DZ{aX:List Pr2}(h:∀p∈aX,1<=p.1.size/\p.1.size<=3/\p.2.size<=p.1.size):∀(y),(GN aX y).length<=y.length:=by induction aX with|nil=>exactλy=>UI _|cons p aX a=>intro y;have b:=a (λq c=>h q (.tail _ c)) (bX p y);have d:=j6 (h p (.head _)).2.2 y;exact UJ b d
def zZ(aX:List Pr2)(j)(a:j<aX.length)(y):GN (aX.drop j) y=GN (aX.drop (j+1)) (bX aX[j] y):=by rw[WW a];rfl
def tQ{t k}(a:k<t.aF.length)(s):bL t k s=GN t.aF[k].aX (aT t.av s):=by unfold bL;rw[Vb a];rfl
def mr{t}(a:OkT t){k}(b:k<t.aF.length)(s):(bL t k s).length<=3*s.length:=by rw[tQ b];exact UJ (DZ (a.aX _ (US _)) _) (db a s)
def J9{K:Nat->Prop}{v0 v1 v2:Zj}{t:Table}(k:Nat)(s:Zk)(w:x6)(S:IsTable K w v0 v1 v2 t)(O:OkT t)(hs:s.size<=300)(T:k<t.aF.length):Calls (Qs fs) 65 #[.agg #[v0,v1,v2],.i k,.string s] w λe w'=>e=.returned (.string (bs (bL t k s.data.toList)))/\xv w w':=by
 have e54:=e54 L;have SE:=SE L;have n:=tQ T s.data.toList;have Q:=db O s.data.toList;rw[<-Lib.size_eq]at Q;have p:=S.stays (ae.alloc w (.cells #[v0,v1,v2] 26));have x:=aH w (.cells #[v0,v1,v2] 26);have U:=DY L s _ p O (by omega);have a:∀i v,(#[v0,v1,v2]:Zq)[i]? =some v->(w.alloc (.cells #[v0,v1,v2] 26)).cell? ⟨w.heap.size,i,none⟩=some v:=λi v h=>aC w _ 26 i v h;have q:=a 0 v0 rfl;have g:=a 1 v1 rfl;have r:=a 2 v2 rfl;go_enter (n65 L),Tryz.ntmps65;go_wp2_with (go_at_call 54;refine U.mono ?_;rintro e w2 ⟨rfl,P⟩);obtain⟨w1,z⟩:=ex (w.alloc (.cells #[v0,v1,v2] 26));have hN:w.heap.size+1=w1.heap.size:=by rw[z];simp
 rw[<-z]at P p x q g r;have S2:=ae.below P;have B2:=x.trans (P.mono (by omega));obtain⟨N,D⟩:=ex (w.heap.size);rw[<-D]at q g r⊢;clear P x U a z hN D S;obtain⟨ao,c,rfl,ab,hc,_,l⟩:=p.2.1;clear p;have u:=O.aX t.aF[k] (US _);clear O;obtain⟨B,E⟩:=ex (t.aF[k]);have F:=l k T;rw[<-E]at u n F;clear l E;obtain⟨b,ad,rfl,_,vs,A,G⟩:=F;obtain⟨af,c2,rfl,V,ag,W,d⟩:=G;go_loopw [7,8] (λo i wr=>∃(j:Nat) (y:Bs),j<=B.aX.length/\i=.i j/\o=.string (bs y)/\(bs y).size<=900/\ae w1 wr/\xv w wr/\GN (B.aX.drop j) y=bL t k s.data.toList) (λo i _=>B.aX.length-(intOf i).toNat);case atStart=>exact⟨0,_,UP _,rfl,rfl,by rw[da];omega,S2,B2,n.symm⟩
 case round=>
  obtain⟨j,y,hj,rfl,rfl,hy,f,m,C⟩:=hrel;have X:=jj C;have Y:=f.cell g;have Z:=f.cell A;have HW:Hid _:=(⟨f,m⟩:ae w1 wr/\xv w wr)
  obtain H|hge:=UK j B.aX.length
  .obtain⟨b2,aa,rfl,I,J⟩:=d j H;have I:=f.cell I;have J:=f.cell J;obtain⟨z1,z2,z3⟩:=u B.aX[j] (US _);have R:=j6 z3 y;rw[<-da,<-da]at R;have cR:=DX L (bs y) B.aX[j] wr (by omega) z1 (by omega) (by omega);rw[dz]at cR;clear C f m g A q r d u n;go_wp2_with (go_at_call 113;refine cR.mono ?_;rintro e w3 ⟨rfl,M⟩);refine⟨⟨j+1,_,by omega,by go_num,rfl,by omega,HW.o.1.trans (ae.below M),HW.o.2.trans (M.mono HW.o.2.size),?_⟩,by simp[intOf];omega⟩;rw[<-X.o,zZ _ _ H]
  clear C f m g A q r d u n;go_wp2;go_ret;have C:=X.o;rw[Vn hge]at C;exact⟨by rw[<-C];rfl,HW.o.2⟩
def rS(l a):l.any (λs=>s.data.toList==a.data.toList)=decide (0<=kq l a):=by rw[rQ];congr 1;funext q;rw[VY,VA,U3];exact⟨λh=>ri h,λh=>h▸rfl⟩
def fW(a:Zk):a.data.toList.isEmpty=decide (a.size=0):=by rw[Lib.size_eq,VY,List.isEmpty_iff,U3,Wm]
def Ka(t a b):gU t a.data.toList b.data.toList=if(∃q,∃h:q<t.bu.length,0<=kq t.bu[q] a/\0<=kq t.bu[q] b)\/(a=b/\0<a.size)then 100 else 0:=by unfold gU;congr 1;rw[eq_iff_iff,Wl,VO,fW];refine or_congr ⟨?_,?_⟩ ?_;rintro⟨l,d,h⟩;obtain⟨q,c,rfl⟩:=Wt.1 d;rw[rS,rS,UT,U3,U3]at h;exact⟨q,c,h⟩;rintro⟨q,c,h⟩;refine⟨_,US c,?_⟩;rw[rS,rS,UT,U3,U3];exact h;rw[UT,VA,Bool.not_eq_true',decide_eq_false_iff_not];exact⟨λh=>⟨ri h.1,by omega⟩,λh=>⟨h.1▸rfl,by omega⟩⟩
def Jr{p:Nat->Prop}{k n}(a:∀q,q<k->q<n->¬p q)(h:¬p k):∀q,q<k+1->q<n->¬p q:=by intro q c b;obtain h1|h1:=UK q k;exact a q h1 b;(have:q=k:=by omega);subst this;exact h
def PH{K:Nat->Prop}{v0 v1 v2:Zj}{t:Table}(a b:Zk)(w:x6)(E:IsTable K w v0 v1 v2 t)(z:t.bu.length<=4):Calls (Qs fs) 116 #[.agg #[v0,v1,v2],.string a,.string b] w λe w'=>e=.returned (.i (gU t a.data.toList b.data.toList))/\xv w w':=by
 have e62:=e62 L;have r:=E.stays (ae.alloc w (.cells #[v0,v1,v2] 26));have f:=aH w (.cells #[v0,v1,v2] 26);have n:=aC w #[v0,v1,v2] 26 2 v2 rfl;have s:Hid _:=Ka t a b;obtain⟨I,c,rfl,A,V,_,d⟩:=r.2.2;clear r E;obtain⟨m,u⟩:=ex (t.bu);rw[<-u]at A d z s f n⊢;clear u;obtain⟨w1,v⟩:=ex (w.alloc (.cells #[v0,v1,.slice I m.length c] 26));obtain⟨N,F⟩:=ex (w.heap.size);have o:∀(J:¬(a=b/\0<a.size)),True:=λ_=>trivial;by_cases k:a=b/\0<a.size
 .obtain⟨rfl,x⟩:=k;have l:=s.o;rw[UH (.inr ⟨rfl,x⟩)]at l;have B:=jj l;clear l s d;go_enter (n116 L),Tryz.ntmps116;go_wp2;go_ret;exact⟨by rw[B.o];rfl,f⟩
 have p:(a.toList==b.toList)=false\/((a.toList==b.toList)=true/\a.size=0):=by rw[ky];by_cases h:a=b;right;by_cases M:a.size=0;exact⟨by simp[h],M⟩;exact absurd ⟨h,by omega⟩ k;left;simp[h]
 have O:=jj k;clear k o;have key:∀(fr:Act->Prop),True:=λ_=>trivial;clear key;obtain p|⟨p,P⟩:=p;all_goals
  go_enter (n116 L),Tryz.ntmps116;go_wp2;rw[<-v]at n f d⊢;rw[<-F]at n⊢;clear v F
  go_loop [7] (λi=>∃j:Nat,j<=m.length/\i=.i j/\∀q,q<j->q<m.length->¬∃h:q<m.length,0<=kq m[q] a/\0<=kq m[q] b) (λi=>m.length-(intOf i).toNat)
  case atStart=>exact⟨0,UP _,rfl,λq h=>absurd h (UX _)⟩
  case round=>
   obtain⟨j,W,rfl,G⟩:=hrel;have C:=jj G;clear G;obtain y|hge:=UK j m.length
   .obtain⟨X,H,rfl,Y,D,g⟩:=d j y
    rw[Vs]at D;have Q:=BT L a w1 g;have R:=BT L b w1 g;obtain⟨S,Z,rfl,_⟩:=g;clear d;go_wp2_with (first|(go_at_call 62;refine Q.mono ?_;rintro e w3 ⟨rfl,rfl⟩)|(go_at_call 62;refine R.mono ?_;rintro e w3 ⟨rfl,rfl⟩))
    .go_ret
     have l:=s.o;rw[UH (.inl ⟨j,y,by assumption,by assumption⟩)]at l;exact⟨by rw[l];rfl,f⟩
    .exact⟨⟨j+1,by omega,by go_num,Jr C.o λ⟨_,T,U⟩=>by omega⟩,by simp[intOf];omega⟩
    .exact⟨⟨j+1,by omega,by go_num,Jr C.o λ⟨_,T,U⟩=>by omega⟩,by simp[intOf];omega⟩
   .clear d
    go_wp2;go_ret;have l:=s.o;rw[UG]at l
    .exact⟨by rw[l];rfl,f⟩
    .rintro(⟨q,p,h⟩|h)
     .exact C.o q (by omega) p ⟨p,h⟩
     .exact O.o h
def Ts:((Tryz.prog).info? 3).map (λi=>(i.zero,i.size,i.bytes))=some (some (.i 0),1,8):=by kernel_rfl
def B6(fs):((Qs fs).info? 3).map (λi=>(i.zero,i.size,i.bytes))=some (some (.i 0),1,8):=Ts
def dS{base e b n:Nat}{w:x6}{v xs}(h:w.ownsRow base e b v n xs):∀k,v.ownBlock=some k->base<=k:=by intro k a;obtain⟨rfl,_⟩|⟨g,cap,c,rfl,d,_⟩:=h.2;cases a;cases a;exact d
def uP{d:Type}{base e b:Nat}{w:x6}{v:Zj}{l:List d}{xs:List Zj}{E:(Nat->Prop)->x6->Nat->Nat->d->Prop}(h:w.ownsRow base e b v l.length xs) (f:∀g:Nat,(∀i,i<l.length*b->w.cell? ⟨g,i,none⟩=xs[i]?)->∀k (c:k<l.length),E (λ_=>True) w g (k*b) l[k]):az (λ_=>True) b E w v l:=by have j:=h;obtain⟨rfl,m⟩|⟨g,cap,n,rfl,s,o,p,q,t,u⟩:=h.2;exact⟨none,0,by rw[m],by omega,by omega,.inl rfl,λk c=>by omega⟩;refine⟨_,_,rfl,p,q,.inr ?_,?_⟩;intro a e;cases e;exact⟨rfl,trivial,_,_,_,o⟩;intro k c;refine⟨g,0,rfl,?_⟩;rw[UR];exact f g (λi r=>j.cellAt i r) k c
def xe{base w v l}(h:w.ownsRow base 3 1 v l.length (l.map (Value.int .i64))):az (λ_=>True) 1 cT w v l:=uP h λg a k b=>by show w.cell? ⟨g,k*1,none⟩=_;rw[a _ (by omega)];simp[b]
def MF{K:Nat->Prop}{v0 v1:Zj}{l m:List Int}(w:x6)(F:az K 1 cT w v0 l)(E:az K 1 cT w v1 m)(P:l.length<=40):Calls (Qs fs) 141 #[v0,v1] w λe w'=>∃v,e=.returned v/\w'.ownsRow w.heap.size 3 1 v (bw l m).length ((bw l m).map (Value.int .i64))/\xv w w':=by
 have S8:=S8 L;obtain⟨G,H,A,B,C⟩:=info_parts (B6 fs);have D:=E;obtain⟨Q,c,rfl,I,R,_,f⟩:=F;obtain⟨J,c1,rfl,_⟩:=E;go_enter (n141 L),Tryz.ntmps141;go_wp2;go_loopw [5,6] (λo i wr=>∃j:Nat,j<=l.length/\i=.i j/\wr.ownsRow w.heap.size 3 1 o (bw (l.take j) m).length ((bw (l.take j) m).map (Value.int .i64))/\xv w wr) (λo i _=>l.length-(intOf i).toNat);case atStart=>exact⟨0,UP _,rfl,World.ownsRow_nil _ _ _ _,Below.refl _ _⟩
 case round=>
  obtain⟨j,S,rfl,d,a⟩:=hrel;obtain n|hge:=UK j l.length
  .obtain⟨b,M,rfl,t⟩:=f j n
   rw[Vs]at t;have g:=ae.below a;have N:=g.cell t;have y:=MC L l[j] wr (D.stays g (λb T o x e h=>by subst e;exact cT.carry (Carry.keep g) b b o x rfl h));have O:(bw (l.take j) m).length<=j:=UJ (VP _ _) (by rw[VT];omega);cases z:m.contains l[j]with
   |true=>rw[z]at y;clear f t g D;go_wp2_with (go_at_call 167;refine y.mono ?_;rintro e w3 ⟨rfl,rfl⟩);(have k:bw (l.take (j+1)) m=bw (l.take j) m:=by unfold bw;rw[oH _ _ _ n,z];simp);exact⟨⟨j+1,by omega,by go_num,by rw[k];exact d,a⟩,by simp[intOf];omega⟩
   |false=>rw[z]at y;clear f t g D;go_wp2_with (first|(go_at_call 167;refine y.mono ?_;rintro e w3 ⟨rfl,rfl⟩)|(at_builtin;refine wpList_append_own _ rfl _ _ 36 rfl w.heap.size 3 G (.i 0) 1 8 Tryz.underlying36 H A B C rfl (by decide) _ _ _ rfl (d.alloc _) ⟨_,0,none⟩ 1 1 [.i l[j]] rfl rfl ?c1 ?c2 ?c3 ?c4 ?c5 ?_));(case c1=>intro i u p;match i,p with|0,p=>simp at p;subst p;simp[Addr.add]);(case c2=>intro u p;simp at p;subst p;rfl);(case c3=>unfold maxLen;omega);(case c4=>omega);(case c5=>have:=a.size;simp;omega);(intro U w4 q r _;have k:bw (l.take (j+1)) m=bw (l.take j) m++[l[j]]:=by unfold bw;rw[oH _ _ _ n,z];simp);have s:=(a.alloc a.size (.cells #[.i l[j]] 3)).grown r (by have:=a.size;simp;omega) (dS d);go_wp2;exact⟨⟨j+1,by omega,by go_num,by rw[k,U6,WN];exact q,s⟩,by simp[intOf];omega⟩
  go_wp2;go_ret;rw[WV hge]at d;exact⟨_,rfl,d,a⟩
def od(x y:List Int)(k:Nat):Nat:=((List.range k).map λ(n:Nat)=>min (aO x n) (aO y n)).sum
def xg(x y k):od x y (k+1)=od x y k+min (aO x k) (aO y k):=by unfold od;rw[Xq,WN,List.sum_append];simp
def D1(x y k):od x y k<=k*x.length:=by induction k with|zero=>simp[od]|succ k a=>rw[xg,Wc];have:aO x k<=x.length:=VP _ _;omega
def uQ(a b)(c:a≠[])(d:b≠[]):bY a b=(100*(2*(a.length-(bw a b).length)+od (bw a b) (bw b a) 10:Nat):Int)/(a.length+b.length:Nat):=by unfold bY;rw[UG (by simp[c,d])];rfl
def rT(a b)(h:a=[]\/b=[]):bY a b=0:=by unfold bY;rw[UH (by rcases h with rfl|rfl<;>simp)]
def Kb{K:Nat->Prop}{v0 v1:Zj}{l m:List Int}(w:x6)(Q:az K 1 cT w v0 l)(R:az K 1 cT w v1 m)(I:l.length<=40)(hm:m.length<=40)(A:∀x∈l,0<=x/\x<=999)(B:∀x∈m,0<=x/\x<=999):ac fs 119 #[v0,v1] w (.i (bY l m)):=by
 have SS:=SS L;have SU:=SU L;have G:=λJ f v=>MF L (K:=K) (v0:=v0) (v1:=v1) (l:=l) (m:=m) J f v I;have H:=λJ f v=>MF L (K:=K) (v0:=v1) (v1:=v0) (l:=m) (m:=l) J f v hm;have M:=Q;have N:=R;obtain⟨ao,c,rfl,aa,hc,_,j⟩:=Q;obtain⟨ab,O,rfl,S,ad,_,g⟩:=R;clear j g;obtain n|hlp:=Vr l.length
 .have n:=Wm.1 n;subst n;clear G H;go_enter (n119 L),Tryz.ntmps119;go_wp2_with fail;go_ret;exact⟨by rw[rT _ _ (.inl rfl)];rfl,Below.refl _ _⟩
 obtain p|hmp:=Vr m.length
 .have p:=Wm.1 p;subst p;clear G H;go_enter (n119 L),Tryz.ntmps119;go_wp2_with fail;all_goals
   go_ret;exact⟨by rw[rT _ _ (.inr rfl)];rfl,Below.refl _ _⟩
 have T:Hid _:=uQ l m (VZ.1 hlp) (VZ.1 hmp);have U:∀x∈bw l m,0<=x/\x<=999:=λx f=>A x (WX.1 f).1;have V:∀x∈bw m l,0<=x/\x<=999:=λx f=>B x (WX.1 f).1;have q:(bw l m).length<=l.length:=VP _ _;have af:¬l=[]:=VZ.1 hlp;have ag:((l.length:Int)==0)=false:=by rw[Ve];omega
 have ak:¬m=[]:=VZ.1 hmp;have an:((m.length:Int)==0)=false:=by rw[Ve];omega
 clear A B;have O:=G w M N;go_enter (n119 L),Tryz.ntmps119;go_wp2_with (first|(go_at_call 141;refine O.mono ?_;clear O G;rintro e w2 ⟨x,rfl,f,a⟩;have W:=H w2 (N.stays (ae.below a) (λb X o x e h=>by subst e;exact cT.carry (Carry.keep (ae.below a)) b b o x rfl h)) (M.stays (ae.below a) (λb X o x e h=>by subst e;exact cT.carry (Carry.keep (ae.below a)) b b o x rfl h)))|(go_at_call 141;refine W.mono ?_;clear W H;rintro e w3 ⟨y,rfl,v,r⟩));have P:=ae.below r;have C:=(xe f).stays P (λb X o x e h=>by subst e;exact cT.carry (Carry.keep P) b b o x rfl h);have D:=xe v;have B3:=a.trans (r.mono a.size);clear f v a r M N P;obtain⟨xs,t⟩:=ex (bw l m);obtain⟨z,u⟩:=ex (bw m l);rw[<-t,<-u]at T;rw[<-t]at C U q;rw[<-u]at D V;clear t u;obtain⟨ax,cx,rfl,_⟩:=id C;obtain⟨ay,cy,rfl,_⟩:=id D
 go_loop [7,8] (λs i=>∃k:Nat,k<=10/\i=.i k/\s=.i (od xs z k)) (λs i=>10-(intOf i).toNat)
 case atStart=>exact⟨0,by omega,rfl,rfl⟩
 case round=>
  obtain⟨k,hk,rfl,rfl⟩:=hrel;have E:=D1 xs z k;have Y:od xs z k<=400:=UJ E (UJ (Nat.mul_le_mul hk (UJ q I)) (by omega));obtain ar|hge:=UK k 10
  .have Z:=xc L (k:Int) w3 C U;have cY:=xc L (k:Int) w3 D V;have aK:aO xs k<=40:=UJ (VP _ _) (UJ q I);have d:=xg xs z k;have HS:=jj d;clear d E C D;go_wp2_with (first|(go_at_call 142;refine Z.mono ?_;clear Z;rintro e w4 ⟨rfl,rfl⟩)|(go_at_call 142;refine cY.mono ?_;rintro e w4 ⟨rfl,rfl⟩));refine⟨⟨k+1,by omega,by go_num,?_⟩,by simp[intOf];omega⟩;rw[HS.o];refine Vj (Value.int .i64) ?_;split<;>omega
  have F:k=10:=by omega
  subst F;clear C D;go_wp2;go_ret;have e1:(2*((l.length:Int)-xs.length)+od xs z 10)=((2*(l.length-xs.length)+od xs z 10:Nat):Int):=by omega
  have e2:((l.length:Int)+m.length)=((l.length+m.length:Nat):Int):=by omega
  refine⟨?_,B3⟩;rw[T.o,<-e1,<-e2];rfl
end Go.Proofs

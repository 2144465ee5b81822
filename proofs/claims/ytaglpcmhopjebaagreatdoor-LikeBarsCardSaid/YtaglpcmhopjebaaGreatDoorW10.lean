import Derived.Test.YtaglpcmhopjebaaGreatDoorProg
import Derived.WalkKit
import Derived.WalkSpells
import Derived.WalkLawsBesides
import Derived.RangeFuncNested
import Derived.RangeFuncBound
import Derived.RangeFuncCalls
import Derived.Shelf.Abstract
import Derived.Test.YtaglpcmhopjebaaGreatDoorRows
import Derived.LaidMore
import Derived.Lay
import Derived.LaidHandle
import Derived.ProofKit
import Derived.Lib.IndexBytes
import Derived.Test.YtaglpcmhopjebaaGreatDoorW0
set_option linter.all false
set_option maxRecDepth 100000
set_option maxHeartbeats 20000000
theorem Go.RowKit.Hid.o{p:Prop}(h:Go.RowKit.Hid p):p:=h
theorem Go.jj{p:Prop}(h:p):Go.RowKit.Hid p:=h
abbrev Go.jg(w w':Go.World):=Go.RowKit.Below w.heap.size w w'
namespace Go.Proofs
open Go.Tm
noncomputable abbrev Qs(fs:Array Func):Program:=ai Tryz.prog fs
abbrev ac(fs f a w v):=Calls (Qs fs) f a w λe w'=>e=.returned v/\RowKit.Below w.heap.size w w'
abbrev ap(fs f a w v):=Calls (Qs fs) f a w λe w'=>e=.returned v/\w'=w
section
variable (P:Program) (fs:Array Func) (t:TypeId) (w:xv)
@[go_sem] theorem uX:(ai P fs).info? t=P.info? t:=rfl
@[go_sem] theorem aP:(ai P fs).underlying t=P.underlying t:=rfl
@[go_sem] theorem Dw:(isAgg t).run (ai P fs) w=(isAgg t).run P w:=by simp only[isAgg,underlying,program,bind,Sem.bind,Sem.run,aP];cases P.underlying t with|none=>rfl|some d=>cases d<;>rfl
@[go_sem] theorem yA:(Go.sizeOf t).run (ai P fs) w=(Go.sizeOf t).run P w:=by simp only[Go.sizeOf,typeInfo,program,bind,Sem.bind,Sem.run,uX];cases P.info? t<;>rfl
@[go_sem] theorem jZ:(zeroValue t).run (ai P fs) w=(zeroValue t).run P w:=by simp only[zeroValue,typeInfo,program,bind,Sem.bind,Sem.run,uX];cases P.info? t with|none=>rfl|some i=>simp only[Sem.bind,pure];cases i.zero<;>rfl
end
def dV(fs)(a:(Qs fs).funcs[63]? =some Tryz.f63)(n b c w):ap fs 63 #[.i n,.i b,.i c] w (.bool (decide (b<=n)&&decide (n<=c))):=by go_enter a,Tryz.ntmps63;go_wp2;all_goals (go_ret;simp;try omega)
def ow(fs)(a:(Qs fs).funcs[91]? =some Tryz.f91)(c w):ap fs 91 #[.int .u8 c] w (.bool (decide (97<=c)&&decide (c<=122))):=by go_enter a,Tryz.ntmps91;go_wp2;all_goals (go_ret;simp;try omega)
def nth:List x6->Nat->x6
 | [],_=>undef
 |x::_,0=>x
 |_::l,n+1=>nth l n
def Jy:List x6->Nat->x6->List x6
 | [],_,_=>[]
 |_::l,0,v=>v::l
 |x::l,n+1,v=>x::Jy l n v
def Agr(s:Array Bool):Nat->List x6->List x6->Prop
 |n,x::xs,v::a=>(s.getD n false=true->x=v)/\Agr s (n+1) xs a
 |_,[],[]=>True
 |_,_,_=>False
theorem Agr.got{s}:∀{n} {xs a},Agr s n xs a->∀k,s.getD (n+k) false=true->nth xs k=nth a k
 |_,[],[],_,_,_=>rfl
 |_,_::_,_::_,h,0,d=>h.1 d
 |n,_::_,_::_,h,k+1,d=>Agr.got h.2 k (by rw[Ys,YH 1 k];exact d)
def Agr.get{s xs a}(h:Agr s 0 xs a)(k)(d:s.getD k false=true):nth xs k=nth a k:=Agr.got h k (by rw[WH];exact d)
theorem Agr.far{s j}:∀{n} {xs a},Agr s n xs a->j<n->Agr (s.setIfInBounds j true) n xs a
 |_,[],[],_,_=>trivial
 |n,_::_,_::_,h,b=>⟨λd=>h.1 (by rw[XC]at d⊢;rw[WK (by omega)]at d;exact d),Agr.far h.2 (by omega)⟩
theorem Agr.put{s}(v):∀{n} {xs a},Agr s n xs a->∀k,Agr (s.setIfInBounds (n+k) true) n (Jy xs k v) (Jy a k v)
 |_,[],[],_,_=>trivial
 |n,_::_,_::_,h,0=>⟨λ_=>rfl,Agr.far h.2 (XK n)⟩
 |n,_::_,_::_,h,k+1=>⟨λd=>h.1 (by
  rw[XC]at d⊢;rw[WK (by omega)]at d;exact d),by
  have b:=Agr.put v h.2 k;rw[Ys,YH 1 k]at b;exact b⟩
def Agr.Jz{s xs a}(h:Agr s 0 xs a)(k v):Agr (s.setIfInBounds k true) 0 (Jy xs k v) (Jy a k v):=by have b:=Agr.put v h k;rw[WH]at b;exact b
theorem Gp:∀(a) (k),Jy a k (nth a k)=a
 | [],_=>rfl
 |_::_,0=>rfl
 |x::l,k+1=>W8 (x:: ·) (Gp l k)
def Agr.set{s xs vs}(h:Agr s 0 xs vs)(k):Agr (s.setIfInBounds k true) 0 (Jy xs k (nth vs k)) vs:=by have a:=h.Jz k (nth vs k);rw[Gp]at a;exact a
theorem Agr.start{k}:∀{n xs b},xs.length=b.length->Agr (Array.replicate k false) n xs b
 |_,[],[],_=>trivial
 |_,[],_::_,a=>by cases a
 |_,_::_,[],a=>by cases a
 |n,_::_,_::_,a=>⟨λd=>by rw[XC,Z6]at d;split at d<;>exact absurd d (by decide),Agr.start (Nat.succ.inj a)⟩
def Agr.dep{s xs b}(h:Agr s 0 xs b){md}{o:Oper}(a:∀e∈o.after,Region.binds md e=true->s.getD e.on false=true)(p:Nat){e}(c:o.after[p]? =some e)(d:Region.binds md e=true):nth xs e.on=nth b e.on:=h.get _ (a _ (Xu c) d)
def qX{md}{o:Oper}{s:Array Bool}(a:∀e∈o.after,Region.binds md e=true->s.getD e.on false=true){n}(h:((List.range n).all λk=>o.after.any λe=>e.on==k&&Region.binds md e)=true)(k)(b:k<n):s.getD k false=true:=by obtain⟨e,c,h⟩:=Array.any_eq_true'.1 (Xe.1 h k (Y0.2 b));simp only[WI,Xw]at h;rw[<-h.1];exact a e c h.2
end Go.Proofs
namespace Go.Proofs
open Go.Tm Go.RowKit
structure Stp(n B:Nat)(W W':xv):Prop where
 os:W'.os=W.os
 tape:W'.tape=W.tape
 output:W'.output=W.output
 size:W.heap.size<=W'.heap.size
 block:∀b,b<n->b≠B->W'.heap[b]? =W.heap[b]?
def Stp.refl(n B W):Stp n B W W:=⟨rfl,rfl,rfl,Wv _,λ_ _ _=>rfl⟩
def Stp.trans{n B W c W2}(h:Stp n B W c)(k:Stp n B c W2):Stp n B W W2:=⟨k.os.trans h.os,k.tape.trans h.tape,k.output.trans h.output,Ww h.size k.size,λb d e=>(k.block b d e).trans (h.block b d e)⟩
def Stp.mono{n m B W W'}(h:Stp n B W W')(d:m<=n):Stp m B W W':=⟨h.os,h.tape,h.output,h.size,λb e c=>h.block b (by omega) c⟩
def Stp.Fz{n B W W'}(h:Below n W W'):Stp n B W W':=⟨h.os,h.tape,h.output,h.size,λb c _=>h.block b c⟩
def Stp.setCell{n B}(W o v):Stp n B W (W.setCell ⟨B,o,none⟩ v):=⟨rfl,rfl,rfl,by show W.heap.size<=(W.heap.modify _ _).size;rw[Array.size_modify];exact Wv _,λb _ h=>Below.heap_setCell W ⟨B,o,none⟩ v b h⟩
def Stp.putObj{n B W l}(o')(c:n<=l):Stp n B W (W.putObj l o'):=⟨rfl,rfl,rfl,by simp,λb h _=>World.putObj_heap_other (by omega)⟩
section
variable {α:Type} {F:Fence} {n:Nat} {P:Program} {g:Operand} {ps:Array Tmp} {assign body:Code} {Q:Exit->Act->xv->Prop} {a:Act} {w:xv}
def AL(G:F.round=none)(h1:1<=n){gf:Nat}{lb:WZ}(hg:a.eval g=.func (.func gf) #[] lb)(H:F.fn gf)(eg:∀args w,(callFunc gf args).run P w=.ok (.enter gf args) w) {encs:α->WZ} (L:∀x,(encs x).size=ps.size) (M N:Nat) (af:M<w.heap.size) (ag:N<w.heap.size) (xs:List α) (I:List α->xv->Prop) (i:∀pre W l o o',w.heap.size<=l->W.heap[l]? =some o->o.isCells=false->I pre W->I pre (W.putObj l o')) (s:∀pre W c,Stp W.heap.size M W c->I pre W->I pre c) (h0:I [] w) (u:∀(l:Nat) (J:List α->xv->Prop) (W:xv),jg w W->(∀pre W c,Stp W.heap.size M W c->J pre W->J pre c)->(∀pre x W1,J pre W1->pre++[x]<+:xs->YieldAt F (n-1-1) P l (encs x) W1 λe c=>e=.returned (.bool true)/\J (pre++[x]) c/\Stp w.heap.size N W1 c)->J [] W->CallsIn F (n-1) P gf (#[.func (.yield l) #[] #[]]++lb) W λe c=>(∃v,e=.returned v)/\J xs c) (h:α->Act) (d:∀(l:Nat) (x:α) (W:xv) (K:Act->xv->Prop),K (h x) W->assign.wpIn (F.inRound l) (n-1-1) P (Exit.then K (λ_ _ _=>False)) {tmps:=(ps.zip (encs x)).foldl (λt (p,v)=>t.setIfInBounds p v) a.tmps,defers:=[]} W) (j:∀(l:Nat) (pre:List α) (x:α) (W:xv),I pre W->pre++[x]<+:xs->w.heap.size+2<=W.heap.size->body.wpIn (F.inRound l) (n-1-1) P (λe _ c=>e=.normal/\I (pre++[x]) c/\Stp (w.heap.size+2) N W c) (h x) W) (k:∀(D:Nat) (W:xv),w.heap.size<=D->I xs W->W.heap[D]? =some (.deferred (some []))->Q .normal {a with defers:={target:=.collected D,args:=#[]}::a.defers} W):(Code.rangeFunc g ps assign body).wpIn F n P Q a w:=by
 refine wpIn_rangeFunc ?_;intro fn O;rw[G];obtain⟨rec,b⟩:∃rec:LoopState->Option Code->Loop,rec=λst pe=>{state:=st,pending:=pe,fn,tmps:=a.tmps,params:=ps,assign,body,defers:=w.heap.size}:=⟨_,rfl⟩
 obtain⟨W1,f⟩:∃W1,(w.alloc (.deferred (some []))).alloc (.loop (rec .ready none))=W1:=⟨_,rfl⟩
 have R:W1.heap[w.heap.size+1]? =some (.loop (rec .ready none)):=by rw[<-f];have:=World.alloc_heap_new (w.alloc (.deferred (some []))) (.loop (rec .ready none));rwa[World.size_alloc]at this
 have S:W1.heap[w.heap.size]? =some (.deferred (some [])):=by rw[<-f];exact(Below.heap_alloc _ _ _ (by simp)).trans (World.alloc_heap_new w _)
 have y:jg w W1:=by rw[<-f];exact((Below.refl _ w).alloc (Wv _) _).alloc (by simp) _
 have T:=s _ _ _ (Stp.Fz y) h0;refine⟨w.heap.size+1,[{target:=.collected w.heap.size,args:=#[]}],W1,{target:=.fn (.func gf) lb,args:=#[.func (.yield (w.heap.size+1)) #[] #[]]},W1,gf,#[.func (.yield (w.heap.size+1)) #[] #[]]++lb,W1,?_,?_,?_,?_,λ_=>h1,?_⟩;rw[<-f,b];exact run_enterLoop_outer _ _ _ _ _
 .simp only[resolve,hg];simp[go_sem]
 intro f' z;simp[Target.leads]at z;subst z;exact H
 .simp[invoke,go_sem,eg]
 refine(u (w.heap.size+1) (λpre W=>I pre W/\W.heap[w.heap.size+1]? =some (.loop (rec .ready none))/\W.heap[w.heap.size]? =some (.deferred (some [])))
  W1 y (λpre A B U C=>⟨s _ _ _ U C.1,(U.block _ (WC.1 C.2.1).1 (by omega)).trans C.2.1,(U.block _ (WC.1 C.2.2).1 (by omega)).trans C.2.2⟩) ?_ ⟨T,R,S⟩).mono ?_
 rintro pre x W ⟨V,m,X⟩ E;have Y:=(WC.1 m).1;have hy:=run_yield (P:=P) (args:=encs x) m (by rw[b];exact L x);rw[b]at hy;refine⟨fn,_,assign,body,hy,roundIn_of_wpIn O (d _ x W _ ?_)⟩;refine⟨_,run_beginRound m (by rw[b]),?_⟩;have Z:(W.putObj (w.heap.size+1) (.loop {rec .ready none with state:=.busy})).heap[w.heap.size+1]? =some (.loop {rec .ready none with state:=.busy}):=World.putObj_heap_same Y;have aa:(W.putObj (w.heap.size+1) (.loop {rec .ready none with state:=.busy})).heap[w.heap.size]? =some (.deferred (some [])):=(World.putObj_heap_other (by omega)).trans X;refine wpIn_mono (j _ pre x _ (i _ _ _ _ _ (by omega) m rfl V) E (by simp;omega)) ?_;rintro e a3 W3 ⟨rfl,ab,q⟩;have r:=(q.block (w.heap.size+1) (by omega) (by omega)).trans Z;have ad:=(q.block w.heap.size (by omega) (by omega)).trans aa;have hr:=run_endRound (P:=P) none r;rw[b]at hr;refine⟨_,_,hr,⟨rfl,⟨i _ _ _ _ _ (by omega) r rfl ab,?_,?_⟩,?_⟩⟩;rw[b];exact World.putObj_heap_same (WC.1 r).1;exact(World.putObj_heap_other (by omega)).trans ad;exact((Stp.putObj _ (by omega)).trans (q.mono (by omega))).trans (Stp.putObj _ (by omega));rintro e W2 ⟨⟨v,rfl⟩,V,m,X⟩;exact⟨none,_,by have:=run_endLoop (P:=P) m (by rw[b];simp);rw[b]at this;exact this,k _ _ (Wv _) (i _ _ _ _ _ (by omega) m rfl V) ((World.putObj_heap_other (by omega)).trans X)⟩
end
abbrev Pr2:=UV×UV
structure kE where
 name:UV
 bd:List Pr2
structure Table where
 az:List Pr2
 aI:List kE
 bG:List (List UV)
structure Mark where
 name:UV
 word:UV
 aU:List Int
 day:Int
 known:Bool
structure jd where
 kind:Int
 least:Int
 plain:Int
 known:Int
structure Case where
 table:Table
 rules:List jd
 new:Mark
 marks:List Mark
 kin:List Int
def Ot(K:Nat->Prop)(w:xv)(b:Option Addr):Prop:=∀a,b=some a->a.spot=none/\K a.block/\∃c e F,w.heap[a.block]? =some (.cells c e F)
def aB{d:Type}(K:Nat->Prop)(e:Nat)(E:(Nat->Prop)->xv->Nat->Nat->d->Prop)(w:xv)(v:x6)(l:List d):Prop:=∃a c,v=.slice a l.length c/\l.length<=c/\c<=9223372036854775807/\(c=0\/Ot K w a)/\∀k (h:k<l.length),∃b off,a=some ⟨b,off,none⟩/\E K w b (off+k*e) l[k]
def kF(K:Nat->Prop)(w:xv)(b o:Nat)(s:UV):Prop:=w.cell? ⟨b,o,none⟩=some (.string s)
def dh(K:Nat->Prop)(w:xv)(b o:Nat)(n:Int):Prop:=w.cell? ⟨b,o,none⟩=some (.i n)
def dO(K:Nat->Prop)(w:xv)(b o:Nat)(p:Pr2):Prop:=w.cell? ⟨b,o,none⟩=some (.string p.1)/\w.cell? ⟨b,o+1,none⟩=some (.string p.2)
def kG(K:Nat->Prop)(w:xv)(b o:Nat)(l:List UV):Prop:=∃v,w.cell? ⟨b,o,none⟩=some v/\aB K 1 kF w v l
def fW(K:Nat->Prop)(w:xv)(b o:Nat)(t:kE):Prop:=w.cell? ⟨b,o,none⟩=some (.string t.name)/\∃v,w.cell? ⟨b,o+1,none⟩=some v/\aB K 2 dO w v t.bd
def mG(K:Nat->Prop)(w:xv)(b o:Nat)(m:Mark):Prop:=w.cell? ⟨b,o,none⟩=some (.string m.name)/\w.cell? ⟨b,o+1,none⟩=some (.string m.word)/\(∃v,w.cell? ⟨b,o+2,none⟩=some v/\aB K 1 dh w v m.aU)/\w.cell? ⟨b,o+3,none⟩=some (.i m.day)/\w.cell? ⟨b,o+4,none⟩=some (.bool m.known)
def j5(K:Nat->Prop)(w:xv)(b o:Nat)(r:jd):Prop:=w.cell? ⟨b,o,none⟩=some (.i r.kind)/\w.cell? ⟨b,o+1,none⟩=some (.i r.least)/\w.cell? ⟨b,o+2,none⟩=some (.i r.plain)/\w.cell? ⟨b,o+3,none⟩=some (.i r.known)
def IsTable(K:Nat->Prop)(w:xv)(v0 v1 v2:x6)(t:Table):Prop:=aB K 2 dO w v0 t.az/\aB K 2 fW w v1 t.aI/\aB K 1 kG w v2 t.bG
def bD(K:Nat->Prop)(w:xv)(sc:WZ)(c:Case):Prop:=∃v0 v1 v2 a b d e,sc=#[v0,v1,v2,a,.string c.new.name,.string c.new.word,b,.i c.new.day,.bool c.new.known,d,e]/\IsTable K w v0 v1 v2 c.table/\aB K 4 j5 w a c.rules/\aB K 1 dh w b c.new.aU/\aB K 5 mG w d c.marks/\aB K 1 dh w e c.kin
inductive TV(σ:Nat->Nat->Prop)(K':Nat->Prop)(w':xv):Bool->x6->x6->Prop
 |bool {q} (b):TV σ K' w' q (.bool b) (.bool b)
 |int {q} (k n):TV σ K' w' q (.int k n) (.int k n)
 |string {q} (s):TV σ K' w' q (.string s) (.string s)
 |jv {q} (l c):TV σ K' w' q (.slice none l c) (.slice none l c)
 |slice {q} {b b' o:Nat} (l c):σ b b'->K' b'->(∃c e F,w'.heap[b']? =some (.cells c e F))->TV σ K' w' q (.slice (some ⟨b,o,none⟩) l c) (.slice (some ⟨b',o,none⟩) l c)
 |empty (a a':Option Addr):TV σ K' w' false (.slice a 0 0) (.slice a' 0 0)
inductive CV(K:Nat->Prop)(w:xv):Bool->x6->Prop
 |bool {q} (b):CV K w q (.bool b)
 |int {q} (k n):CV K w q (.int k n)
 |string {q} (s):CV K w q (.string s)
 |slice {q} {ao:Option Addr} (l c):Ot K w ao->CV K w q (.slice ao l c)
 |empty (ao:Option Addr):CV K w false (.slice ao 0 0)
def TV.cv{σ K' w' v V}(h:TV σ K' w' true v V):CV K' w' true V:=by cases h with|bool=>exact .bool _|int=>exact .int _ _|string=>exact .string _|jv=>exact .slice _ _ λa e=>by cases e|slice l c f b d=>exact .slice _ _ λa e=>by cases e;exact⟨rfl,b,d⟩
def gZ(K:Nat->Prop)(w:xv)(sc:WZ):Prop:=∀v∈sc,CV K w true v
structure Carry(σ:Nat->Nat->Prop)(K K':Nat->Prop)(w w':xv):Prop where
 fn:∀b b' b'',σ b b'->σ b b''->b'=b''
 cell:∀b b' o v,σ b b'->w.cell? ⟨b,o,none⟩=some v->CV K w false v->∃v',w'.cell? ⟨b',o,none⟩=some v'/\TV σ K' w' false v v'
section
variable {σ:Nat->Nat->Prop} {K K':Nat->Prop} {w w':xv}
def aB.cv{a b E v}{l:List a}(h:aB K b E w v l):CV K w false v:=by obtain⟨e,c,rfl,d,_,hk,_⟩:=h;obtain rfl|hk:=hk;rw[Nat.le_zero.1 d];exact .empty _;exact .slice _ _ hk
def aB.carry{t i E}(u:∀b f o x,σ b f->E K w b o x->E K' w' f o x){q}{v j}{l:List t}(m:TV σ K' w' q v j)(h:aB K i E w v l):aB K' i E w' j l:=by obtain⟨F,c,rfl,p,r,G,s⟩:=h;generalize g:l.length=n at m;cases m with|empty _ y=>have e:l=[]:=Xp g;subst e;exact⟨y,0,rfl,Wv _,by omega,.inl rfl,λk d=>absurd d (by simp)⟩|jv=>subst g;refine⟨none,c,rfl,p,r,.inr ?_,?_⟩;intro a e;cases e;intro k d;obtain⟨b,off,e,_⟩:=s k d;cases e| @slice _ b f o _ _ z A B=>subst g;refine⟨some ⟨f,o,none⟩,c,rfl,p,r,.inr ?_,?_⟩;intro a e;cases e;exact⟨rfl,A,B⟩;intro k d;obtain⟨H,off,e,D⟩:=s k d;cases e;exact⟨f,o,rfl,u _ _ _ _ z D⟩
variable (C:Carry σ K K' w w')
include C
def kF.carry(b a o:Nat)(s:UV)(c:σ b a)(h:kF K w b o s):kF K' w' a o s:=by obtain⟨v,d,e⟩:=C.cell b a o _ c h (.string s);cases e;exact d
def dh.carry(b a o:Nat)(n:Int)(c:σ b a)(h:dh K w b o n):dh K' w' a o n:=by obtain⟨v,d,e⟩:=C.cell b a o _ c h (.int _ n);cases e;exact d
def I4(b a o:Nat)(x:Bool)(c:σ b a)(h:w.cell? ⟨b,o,none⟩=some (.bool x)):w'.cell? ⟨a,o,none⟩=some (.bool x):=by obtain⟨v,d,e⟩:=C.cell b a o _ c h (.bool x);cases e;exact d
def dO.carry(b a o:Nat)(p:Pr2)(c:σ b a)(h:dO K w b o p):dO K' w' a o p:=⟨kF.carry C b a o _ c h.1,kF.carry C b a (o+1) _ c h.2⟩
def j5.carry(b a o:Nat)(r:jd)(c:σ b a)(h:j5 K w b o r):j5 K' w' a o r:=⟨dh.carry C b a o _ c h.1,dh.carry C b a (o+1) _ c h.2.1,dh.carry C b a (o+2) _ c h.2.2.1,dh.carry C b a (o+3) _ c h.2.2.2⟩
def kG.carry(b a o:Nat)(l:List UV)(d:σ b a)(h:kG K w b o l):kG K' w' a o l:=by obtain⟨v,e,c⟩:=h;obtain⟨f,g,i⟩:=C.cell b a o _ d e c.cv;exact⟨f,g,c.carry (kF.carry C) i⟩
def fW.carry(b a o:Nat)(t:kE)(c:σ b a)(h:fW K w b o t):fW K' w' a o t:=by obtain⟨e,v,f,d⟩:=h;obtain⟨g,i,j⟩:=C.cell b a (o+1) _ c f d.cv;exact⟨kF.carry C b a o _ c e,g,i,d.carry (dO.carry C) j⟩
def mG.carry(b a o:Nat)(m:Mark)(c:σ b a)(h:mG K w b o m):mG K' w' a o m:=by obtain⟨e,f,⟨v,g,d⟩,i,j⟩:=h;obtain⟨k,l,n⟩:=C.cell b a (o+2) _ c g d.cv;exact⟨kF.carry C b a o _ c e,kF.carry C b a (o+1) _ c f,⟨k,l,d.carry (dh.carry C) n⟩,dh.carry C b a (o+3) _ c i,I4 C b a (o+4) _ c j⟩
def IsTable.carry{v0 v1 v2 a b c:x6}{t:Table}{q}(d:TV σ K' w' q v0 a)(e:TV σ K' w' q v1 b)(f:TV σ K' w' q v2 c)(h:IsTable K w v0 v1 v2 t):IsTable K' w' a b c t:=⟨h.1.carry (dO.carry C) d,h.2.1.carry (fW.carry C) e,h.2.2.carry (kG.carry C) f⟩
def bD.carry{sc e:WZ}{c:Case}(b:e.size=sc.size)(a:∀(i:Nat) v V,sc[i]? =some v->e[i]? =some V->CV K w false v->TV σ K' w' false v V)(h:bD K w sc c):bD K' w' e c:=by (obtain⟨v0,v1,v2,s,t,u,x,rfl,f,j,k,l,m⟩:=h;obtain⟨L⟩:=e;have b:L.length=11:=by simpa using b);match L,b with| [n,a1,o,p,y,z,q,A,B,r,d],_=>have D:=a 0 v0 n rfl rfl f.1.cv;have E:=a 1 v1 a1 rfl rfl f.2.1.cv;have F:=a 2 v2 o rfl rfl f.2.2.cv;have G:=a 3 s p rfl rfl j.cv;have H:=a 4 _ y rfl rfl (.string _);have I:=a 5 _ z rfl rfl (.string _);have J:=a 6 t q rfl rfl k.cv;have M:=a 7 _ A rfl rfl (.int _ _);have N:=a 8 _ B rfl rfl (.bool _);have O:=a 9 u r rfl rfl l.cv;have g:=a 10 x d rfl rfl m.cv;cases H;cases I;cases M;cases N;exact⟨n,a1,o,p,q,r,d,rfl,f.carry C D E F,j.carry (j5.carry C) G,k.carry (dh.carry C) J,l.carry (mG.carry C) O,m.carry (dh.carry C) g⟩
end
def Carry.keep{K:Nat->Prop}{w w':xv}(h:∀(b:Nat) c e f,w.heap[b]? =some (.cells c e f)->w'.heap[b]? =some (.cells c e f)):Carry (λa b=>a=b) K K w w' where
 fn _ _ _ h1 h2:=h1.symm.trans h2
 cell b b' o v hs hc hv:=by
  subst hs;have d:w'.cell? ⟨b,o,none⟩=some v:=by
   unfold World.cell? at hc⊢
   revert hc
   simp only[];cases i:w.heap[b]? with
   |none=>intro h;cases h
   |some o'=>
    cases o' with
    |cells g e F=>intro hc;rw[h b g e F i];exact hc
    |_=>intro h;cases h
  refine⟨v,d,?_⟩;cases hv with
  |bool=>exact .bool _
  |int=>exact .int _ _
  |string=>exact .string _
  |empty=>exact .empty _ _
  | @slice _ j l c k=>
   cases j with
   |none=>exact .jv _ _
   |some a=>obtain⟨b,o,p⟩:=a;obtain⟨h1,h2,g,e,F,m⟩:=k _ rfl;simp only[]at h1;subst h1;exact .slice _ _ rfl h2 ⟨_,_,_,h _ _ _ _ m⟩
def TV.self{K w w'}(h:∀(b:Nat) c e f,w.heap[b]? =some (.cells c e f)->w'.heap[b]? =some (.cells c e f)){q}{v}(g:CV K w q v):TV (λa b=>a=b) K w' q v v:=by cases g with|bool=>exact .bool _|int=>exact .int _ _|string=>exact .string _|empty=>exact .empty _ _| @slice _ i l c j=>cases i with|none=>exact .jv _ _|some a=>obtain⟨b,o,p⟩:=a;obtain⟨d,k,n,e,F,m⟩:=j _ rfl;simp only[]at d;subst d;exact .slice _ _ rfl k ⟨_,_,_,h _ _ _ _ m⟩
def ae(w w':xv):Prop:=∀(b:Nat) c e f,w.heap[b]? =some (.cells c e f)->w'.heap[b]? =some (.cells c e f)
def ae.refl(w):ae w w:=λ_ _ _ _ h=>h
def ae.trans{a b c}(h:ae a b)(k:ae b c):ae a c:=λx _ _ _ d=>k x _ _ _ (h x _ _ _ d)
def ae.below{w w'}(h:jg w w'):ae w w':=λb c e f a=>(h.block b (WC.1 a).1).trans a
def aB.stays{d K a E w w'}(e:ae w w')(f:∀b c o x,b=c->E K w b o x->E K w' c o x){v}{l:List d}(h:aB K a E w v l):aB K a E w' v l:=h.carry f (TV.self e h.cv)
def IsTable.stays{K w w'}(a:ae w w'){v0 v1 v2 t}(h:IsTable K w v0 v1 v2 t):IsTable K w' v0 v1 v2 t:=h.carry (Carry.keep a) (TV.self a h.1.cv) (TV.self a h.2.1.cv) (TV.self a h.2.2.cv)
def bD.stays{K w w'}(a:ae w w'){sc c}(h:bD K w sc c):bD K w' sc c:=h.carry (Carry.keep a) rfl λi v V d b e=>by rw[d]at b;cases b;exact TV.self a e
def cj{w:xv}{N:Nat}{a a1 b c d e f g j k a10:x6}(h:∀i v,(#[a,a1,b,c,d,e,f,g,j,k,a10]:WZ)[i]? =some v->w.cell? ⟨N,i,none⟩=some v):w.cell? ⟨N,0,none⟩=some a/\w.cell? ⟨N,1,none⟩=some a1/\w.cell? ⟨N,2,none⟩=some b/\w.cell? ⟨N,3,none⟩=some c/\w.cell? ⟨N,4,none⟩=some d/\w.cell? ⟨N,5,none⟩=some e/\w.cell? ⟨N,6,none⟩=some f/\w.cell? ⟨N,7,none⟩=some g/\w.cell? ⟨N,8,none⟩=some j/\w.cell? ⟨N,9,none⟩=some k/\w.cell? ⟨N,10,none⟩=some a10:=
 ⟨h 0 _ rfl,h 1 _ rfl,h 2 _ rfl,h 3 _ rfl,h 4 _ rfl,h 5 _ rfl,h 6 _ rfl,h 7 _ rfl,h 8 _ rfl,h 9 _ rfl,h 10 _ rfl⟩
def TU{w:xv}{N:Nat}{a b c:x6}(h:∀i v,(#[a,b,c]:WZ)[i]? =some v->w.cell? ⟨N,i,none⟩=some v):w.cell? ⟨N,0,none⟩=some a/\w.cell? ⟨N,1,none⟩=some b/\w.cell? ⟨N,2,none⟩=some c:=⟨h 0 _ rfl,h 1 _ rfl,h 2 _ rfl⟩
def Nk{w:xv}{N:Nat}{a b c d e:x6}(h:∀i v,(#[a,b,c,d,e]:WZ)[i]? =some v->w.cell? ⟨N,i,none⟩=some v):w.cell? ⟨N,0,none⟩=some a/\w.cell? ⟨N,1,none⟩=some b/\w.cell? ⟨N,2,none⟩=some c/\w.cell? ⟨N,3,none⟩=some d/\w.cell? ⟨N,4,none⟩=some e:=⟨h 0 _ rfl,h 1 _ rfl,h 2 _ rfl,h 3 _ rfl,h 4 _ rfl⟩
end Go.Proofs
namespace Go.Proofs
open Go.Tm Go.Shelf
def iB:List Nat:=[3,4,5,6,7,8,9,10,11,12,13,14,15,16,17,18,19,20,21,22,23,24,25,26,27,28,29,30,31,32,33,34,35,36,37,38,39,40,41,42,43,44,45,46,47,48,49,50,51,52,53,54,55,56,57,58,59,60,61,62,63,64,65,66,67,68,69,70,71,72,73,75,76,77,78,79,80,81,82,83,84,85,86,87,88,89,90,91,92,93,94,95,96,97,98,99,100,101,102,103,104,105,106,107,108,109,110,111,112,113,114,115,116,117,118,119,120,121,125,128,129,130,131,132,133,134,135,136,137,138,139,140,141,142,143,162,163,164,165,166,167,173,174,175,176,177,178,179,180,181,182,183,184,185,186,187,188,189,190,191,192,193,194,195,196,197,198,199,200,201,202,203,204,205,206,207,208,209,210,211,212,230,231,232,233,234,235,236,237,238,239,240,241,242,243,244,245]
noncomputable def pA:Func:={Tryz.f95 with body:=some (.seq (.region 0 #[⟨some 2,.assign (.const (.string ⟨#[]⟩)),9,"builder.go:46",#[],none⟩] false) (.seq (.region 1 #[⟨some 3,.move (.tmp 0),151,"builder.go:47",#[],none⟩,⟨some 4,.nilCheck (.tmp 3),0,"builder.go:47",#[⟨0,.data⟩],none⟩,⟨some 5,.fieldAddr 153 (.tmp 4) 1,0,"builder.go:47",#[⟨1,.data⟩],none⟩,⟨some 6,.load 120 (.tmp 5),120,"builder.go:47",#[⟨2,.data⟩],none⟩,⟨some 7,.call ⟨.builtin .unsafeSliceData,#[.tmp 6],#[120]⟩,sG,"builder.go:47",#[⟨3,.data⟩],none⟩,⟨some 8,.move (.tmp 0),151,"builder.go:47",#[],none⟩,⟨some 9,.nilCheck (.tmp 8),0,"builder.go:47",#[⟨5,.data⟩],none⟩,⟨some 10,.fieldAddr 153 (.tmp 9) 1,0,"builder.go:47",#[⟨6,.data⟩],none⟩,⟨some 11,.load 120 (.tmp 10),120,"builder.go:47",#[⟨7,.data⟩],none⟩,⟨some 12,.call ⟨.builtin .len,#[.tmp 11],#[120]⟩,3,"builder.go:47",#[⟨8,.data⟩],none⟩,⟨some 13,.call ⟨.builtin .unsafeString,#[.tmp 7,.tmp 12],#[203,3]⟩,9,"builder.go:47",#[⟨4,.data⟩,⟨9,.data⟩],none⟩,⟨some 2,.assign (.tmp 13),9,"builder.go:47",#[⟨10,.data⟩,⟨0,.phase⟩,⟨1,.phase⟩,⟨2,.phase⟩,⟨3,.phase⟩,⟨4,.phase⟩,⟨5,.phase⟩,⟨6,.phase⟩,⟨7,.phase⟩,⟨8,.phase⟩,⟨9,.phase⟩,⟨10,.phase⟩],none⟩] true) .ret))}
def I3:Tryz.f95.body.map iK=pA.body:=by kernel_rfl
def bT(fs:Array Func):Prop:=(∀i∈iB,i≠95->(Qs fs).funcs[i]? =Tryz.prog.funcs[i]?)/\(Qs fs).funcs[95]? =some pA
section
variable {fs:Array Func} (L:bT fs)
def nOf(i:Nat)(h:i∈iB:=by decide)(k:i≠95:=by decide):=L.1 i h k
def n3:=(nOf L 3).trans Tryz.func3
def n4:=(nOf L 4).trans Tryz.func4
def n5:=(nOf L 5).trans Tryz.func5
def n6:=(nOf L 6).trans Tryz.func6
def n7:=(nOf L 7).trans Tryz.func7
def n8:=(nOf L 8).trans Tryz.func8
def n9:=(nOf L 9).trans Tryz.func9
def n10:=(nOf L 10).trans Tryz.func10
def n11:=(nOf L 11).trans Tryz.func11
def n12:=(nOf L 12).trans Tryz.func12
def n13:=(nOf L 13).trans Tryz.func13
def n14:=(nOf L 14).trans Tryz.func14
def n15:=(nOf L 15).trans Tryz.func15
def n16:=(nOf L 16).trans Tryz.func16
def n17:=(nOf L 17).trans Tryz.func17
def n18:=(nOf L 18).trans Tryz.func18
def n20:=(nOf L 20).trans Tryz.func20
def n21:=(nOf L 21).trans Tryz.func21
def n22:=(nOf L 22).trans Tryz.func22
def n24:=(nOf L 24).trans Tryz.func24
def n25:=(nOf L 25).trans Tryz.func25
def n29:=(nOf L 29).trans Tryz.func29
def n30:=(nOf L 30).trans Tryz.func30
def n31:=(nOf L 31).trans Tryz.func31
def n32:=(nOf L 32).trans Tryz.func32
def n33:=(nOf L 33).trans Tryz.func33
def n34:=(nOf L 34).trans Tryz.func34
def n36:=(nOf L 36).trans Tryz.func36
def n37:=(nOf L 37).trans Tryz.func37
def n38:=(nOf L 38).trans Tryz.func38
def n40:=(nOf L 40).trans Tryz.func40
def n41:=(nOf L 41).trans Tryz.func41
def n43:=(nOf L 43).trans Tryz.func43
def n44:=(nOf L 44).trans Tryz.func44
def n46:=(nOf L 46).trans Tryz.func46
def n50:=(nOf L 50).trans Tryz.func50
def n51:=(nOf L 51).trans Tryz.func51
def n52:=(nOf L 52).trans Tryz.func52
def n53:=(nOf L 53).trans Tryz.func53
def n54:=(nOf L 54).trans Tryz.func54
def n55:=(nOf L 55).trans Tryz.func55
def n56:=(nOf L 56).trans Tryz.func56
def n57:=(nOf L 57).trans Tryz.func57
def n58:=(nOf L 58).trans Tryz.func58
def n59:=(nOf L 59).trans Tryz.func59
def n60:=(nOf L 60).trans Tryz.func60
def n61:=(nOf L 61).trans Tryz.func61
def n62:=(nOf L 62).trans Tryz.func62
def n63:=(nOf L 63).trans Tryz.func63
def n64:=(nOf L 64).trans Tryz.func64
def n65:=(nOf L 65).trans Tryz.func65
def n66:=(nOf L 66).trans Tryz.func66
def n67:=(nOf L 67).trans Tryz.func67
def n68:=(nOf L 68).trans Tryz.func68
def n69:=(nOf L 69).trans Tryz.func69
def n70:=(nOf L 70).trans Tryz.func70
def n72:=(nOf L 72).trans Tryz.func72
def n73:=(nOf L 73).trans Tryz.func73
def n75:=(nOf L 75).trans Tryz.func75
def n76:=(nOf L 76).trans Tryz.func76
def n77:=(nOf L 77).trans Tryz.func77
def n78:=(nOf L 78).trans Tryz.func78
def n79:=(nOf L 79).trans Tryz.func79
def n80:=(nOf L 80).trans Tryz.func80
def n81:=(nOf L 81).trans Tryz.func81
def n82:=(nOf L 82).trans Tryz.func82
def n83:=(nOf L 83).trans Tryz.func83
def n84:=(nOf L 84).trans Tryz.func84
def n85:=(nOf L 85).trans Tryz.func85
def n86:=(nOf L 86).trans Tryz.func86
def n88:=(nOf L 88).trans Tryz.func88
def n89:=(nOf L 89).trans Tryz.func89
def n91:=(nOf L 91).trans Tryz.func91
def n93:=(nOf L 93).trans Tryz.func93
def n94:=(nOf L 94).trans Tryz.func94
def n95:=L.2
def n96:=(nOf L 96).trans Tryz.func96
def n97:=(nOf L 97).trans Tryz.func97
def n98:=(nOf L 98).trans Tryz.func98
def n99:=(nOf L 99).trans Tryz.func99
def n100:=(nOf L 100).trans Tryz.func100
def n101:=(nOf L 101).trans Tryz.func101
def n102:=(nOf L 102).trans Tryz.func102
def n103:=(nOf L 103).trans Tryz.func103
def n104:=(nOf L 104).trans Tryz.func104
def n105:=(nOf L 105).trans Tryz.func105
def n106:=(nOf L 106).trans Tryz.func106
def n107:=(nOf L 107).trans Tryz.func107
def n108:=(nOf L 108).trans Tryz.func108
def n109:=(nOf L 109).trans Tryz.func109
def n110:=(nOf L 110).trans Tryz.func110
def n111:=(nOf L 111).trans Tryz.func111
def n112:=(nOf L 112).trans Tryz.func112
def n113:=(nOf L 113).trans Tryz.func113
def n114:=(nOf L 114).trans Tryz.func114
def n115:=(nOf L 115).trans Tryz.func115
def n116:=(nOf L 116).trans Tryz.func116
def n117:=(nOf L 117).trans Tryz.func117
def n118:=(nOf L 118).trans Tryz.func118
def n119:=(nOf L 119).trans Tryz.func119
def n120:=(nOf L 120).trans Tryz.func120
def n121:=(nOf L 121).trans Tryz.func121
def n125:=(nOf L 125).trans Tryz.func125
def n128:=(nOf L 128).trans Tryz.func128
def n129:=(nOf L 129).trans Tryz.func129
def n130:=(nOf L 130).trans Tryz.func130
def n131:=(nOf L 131).trans Tryz.func131
def n132:=(nOf L 132).trans Tryz.func132
def n133:=(nOf L 133).trans Tryz.func133
def n134:=(nOf L 134).trans Tryz.func134
def n135:=(nOf L 135).trans Tryz.func135
def n136:=(nOf L 136).trans Tryz.func136
def n137:=(nOf L 137).trans Tryz.func137
def n138:=(nOf L 138).trans Tryz.func138
def n139:=(nOf L 139).trans Tryz.func139
def n140:=(nOf L 140).trans Tryz.func140
def n141:=(nOf L 141).trans Tryz.func141
def n142:=(nOf L 142).trans Tryz.func142
def n143:=(nOf L 143).trans Tryz.func143
def n162:=(nOf L 162).trans Tryz.func162
def n163:=(nOf L 163).trans Tryz.func163
def n165:=(nOf L 165).trans Tryz.func165
def n166:=(nOf L 166).trans Tryz.func166
def n167:=(nOf L 167).trans Tryz.func167
def n173:=(nOf L 173).trans Tryz.func173
def n174:=(nOf L 174).trans Tryz.func174
def n175:=(nOf L 175).trans Tryz.func175
def n176:=(nOf L 176).trans Tryz.func176
def n179:=(nOf L 179).trans Tryz.func179
def n180:=(nOf L 180).trans Tryz.func180
def n181:=(nOf L 181).trans Tryz.func181
def n183:=(nOf L 183).trans Tryz.func183
def n192:=(nOf L 192).trans Tryz.func192
def n193:=(nOf L 193).trans Tryz.func193
def n194:=(nOf L 194).trans Tryz.func194
def n230:=(nOf L 230).trans Tryz.func230
def n231:=(nOf L 231).trans Tryz.func231
def n232:=(nOf L 232).trans Tryz.func232
def n233:=(nOf L 233).trans Tryz.func233
def n234:=(nOf L 234).trans Tryz.func234
def n235:=(nOf L 235).trans Tryz.func235
def n236:=(nOf L 236).trans Tryz.func236
def n237:=(nOf L 237).trans Tryz.func237
def n238:=(nOf L 238).trans Tryz.func238
def n239:=(nOf L 239).trans Tryz.func239
def n240:=(nOf L 240).trans Tryz.func240
def n241:=(nOf L 241).trans Tryz.func241
def n242:=(nOf L 242).trans Tryz.func242
def n243:=(nOf L 243).trans Tryz.func243
def n244:=(nOf L 244).trans Tryz.func244
def n245:=(nOf L 245).trans Tryz.func245
def eOf{P:Program}{f:FuncId}{fn:Func}{c:Code}(b:P.funcs[f]? =some fn)(d:(fn.name== "runtime.NumGoroutine")=false:=by kernel_rfl)(e:fn.body=some c:=by rfl):=λa w=>enters_of b d e a w
def e3:=eOf (n3 L)
def e4:=eOf (n4 L)
def e5:=eOf (n5 L)
def e6:=eOf (n6 L)
def e7:=eOf (n7 L)
def e8:=eOf (n8 L)
def e9:=eOf (n9 L)
def e10:=eOf (n10 L)
def e11:=eOf (n11 L)
def e16:=eOf (n16 L)
def e17:=eOf (n17 L)
def e18:=eOf (n18 L)
def e20:=eOf (n20 L)
def e21:=eOf (n21 L)
def e22:=eOf (n22 L)
def e24:=eOf (n24 L)
def e25:=eOf (n25 L)
def e29:=eOf (n29 L)
def e30:=eOf (n30 L)
def e31:=eOf (n31 L)
def e32:=eOf (n32 L)
def e33:=eOf (n33 L)
def e34:=eOf (n34 L)
def e36:=eOf (n36 L)
def e37:=eOf (n37 L)
def e38:=eOf (n38 L)
def e40:=eOf (n40 L)
def e41:=eOf (n41 L)
def e43:=eOf (n43 L)
def e44:=eOf (n44 L)
def e46:=eOf (n46 L)
def e50:=eOf (n50 L)
def e51:=eOf (n51 L)
def e52:=eOf (n52 L)
def e53:=eOf (n53 L)
def e54:=eOf (n54 L)
def e55:=eOf (n55 L)
def e56:=eOf (n56 L)
def e57:=eOf (n57 L)
def e58:=eOf (n58 L)
def e59:=eOf (n59 L)
def e60:=eOf (n60 L)
def e61:=eOf (n61 L)
def e62:=eOf (n62 L)
def e63:=eOf (n63 L)
def e64:=eOf (n64 L)
def e65:=eOf (n65 L)
def e66:=eOf (n66 L)
def e67:=eOf (n67 L)
def e68:=eOf (n68 L)
def e69:=eOf (n69 L)
def e70:=eOf (n70 L)
def e72:=eOf (n72 L)
def e73:=eOf (n73 L)
def e75:=eOf (n75 L)
def e76:=eOf (n76 L)
def e78:=eOf (n78 L)
def e79:=eOf (n79 L)
def e80:=eOf (n80 L)
def e81:=eOf (n81 L)
def e82:=eOf (n82 L)
def e83:=eOf (n83 L)
def e84:=eOf (n84 L)
def e85:=eOf (n85 L)
def e86:=eOf (n86 L)
def e88:=eOf (n88 L)
def e91:=eOf (n91 L)
def e93:=eOf (n93 L)
def e94:=eOf (n94 L)
def e95:=eOf (n95 L)
def e96:=eOf (n96 L)
def e97:=eOf (n97 L)
def e98:=eOf (n98 L)
def e99:=eOf (n99 L)
def Un:=eOf (n100 L)
def VO:=eOf (n101 L)
def Q8:=eOf (n102 L)
def Uo:=eOf (n103 L)
def VP:=eOf (n104 L)
def Up:=eOf (n105 L)
def VR:=eOf (n106 L)
def Uq:=eOf (n107 L)
def VT:=eOf (n108 L)
def Q9:=eOf (n109 L)
def Ra:=eOf (n110 L)
def Rb:=eOf (n111 L)
def Ur:=eOf (n112 L)
def Us:=eOf (n113 L)
def VU:=eOf (n114 L)
def Ut:=eOf (n115 L)
def Uu:=eOf (n116 L)
def Uv:=eOf (n117 L)
def Rc:=eOf (n118 L)
def Uw:=eOf (n119 L)
def Re:=eOf (n120 L)
def VV:=eOf (n121 L)
def Ux:=eOf (n129 L)
def Uy:=eOf (n130 L)
def Uz:=eOf (n131 L)
def Th:=eOf (n132 L)
def Rf:=eOf (n133 L)
def Rg:=eOf (n134 L)
def UA:=eOf (n135 L)
def VX:=eOf (n136 L)
def UB:=eOf (n137 L)
def UC:=eOf (n138 L)
def UD:=eOf (n139 L)
def UE:=eOf (n140 L)
def UF:=eOf (n141 L)
def UG:=eOf (n142 L)
def UH:=eOf (n143 L)
def Rh:=eOf (n162 L)
def UI:=eOf (n163 L)
def UJ:=eOf (n165 L)
def UK:=eOf (n166 L)
def UL:=eOf (n167 L)
def Ri:=eOf (n173 L)
def Rj:=eOf (n174 L)
def UM:=eOf (n175 L)
def UN:=eOf (n176 L)
def Rl:=eOf (n179 L)
def UO:=eOf (n180 L)
def UP:=eOf (n181 L)
def Rm:=eOf (n183 L)
def UQ:=eOf (n192 L)
def UR:=eOf (n193 L)
def US:=eOf (n194 L)
def VY:=eOf (n230 L)
def LK:=eOf (n231 L)
def VZ:=eOf (n232 L)
def V5:=eOf (n233 L)
def UT:=eOf (n234 L)
def UU:=eOf (n235 L)
def V7:=eOf (n236 L)
def UW:=eOf (n237 L)
def V8:=eOf (n238 L)
def UX:=eOf (n239 L)
def V9:=eOf (n240 L)
def UY:=eOf (n241 L)
def UZ:=eOf (n242 L)
def U3:=eOf (n243 L)
def U4:=eOf (n244 L)
def U5:=eOf (n245 L)
end
end Go.Proofs
namespace Go.Proofs
abbrev Bs:=List UInt8
def bp(c:UInt8):Bool:=decide (97<=(c.toNat:Int))&&decide ((c.toNat:Int)<=122)
def j6(c:UInt8):Bool:=decide (48<=(c.toNat:Int))&&decide ((c.toNat:Int)<=57)
def av(n a b:Int):Bool:=decide (a<=n)&&decide (n<=b)
def bg(s:UV)(a b:Int):Bool:=av s.size a b&&s.data.toList.all bp
def j7(c:UInt8):Bool:=c==10||c==58||c==59||c==44
def bz(s:UV)(a:Int):Bool:=av s.size 1 a&& !s.data.toList.any j7
def dZ(s:UV):Bool:=av s.size 1 10&&(s.data.toList.head?.any bp)&&s.data.toList.all λc=>bp c||j6 c
def dq{a:Type}(chk:List a->a->Int)(seen:List a):List a->Int
 | []=>0
 |x::xs=>if chk seen x≠0 then chk seen x else dq chk (seen++[x]) xs
def aL{a:Type}(b c:Int)(chk:List a->a->Int)(l:List a):Int:=if av l.length b c then dq chk [] l else 2
def letterF(seen:List Pr2)(p:Pr2):Int:=if !bz p.1 4 then 3 else if seen.any (λq=>decide (q.1=p.1))then 5 else if !bg p.2 1 3 then 3 else 0
def eF(_:List Pr2)(p:Pr2):Int:=if !bg p.1 1 3|| !bg p.2 0 p.1.size then 3 else 0
def dJ(seen:List kE)(t:kE):Int:=if !dZ t.name then 4 else if seen.any (λq=>decide (q.name=t.name))then 5 else aL 0 5 eF t.bd
def j8(seen:List UV)(s:UV):Int:=if !bg s 1 48 then 3 else if seen.any (λq=>decide (q=s))then 5 else 0
def iC(_:List (List UV))(l:List UV):Int:=aL 2 4 j8 l
def du(t:Table):Int:=
 let a:=aL 0 12 letterF t.az
 if a≠0 then a else
 let b:=aL 0 3 dJ t.aI
 if b≠0 then b else aL 0 4 iC t.bG
def codeF(seen:List Int)(n:Int):Int:=if !av n 0 999 then 1 else if seen.getLast?.any (λq=>decide (n<=q))then 7 else 0
def bL(m:Mark):Int:=
 if !dZ m.name then 4 else if !m.word.data.toList.isEmpty&& !bz m.word 16 then 3 else
 let f:=aL 0 5 codeF m.aU
 if f≠0 then f else if !av m.day 0 99999 then 1 else 0
def eG(_:List jd)(r:jd):Int:=if !av r.kind 0 5|| !av r.least 1 100|| !av r.plain 0 9|| !av r.known 0 9 then 1 else 0
def mY(_:List Int)(n:Int):Int:=if !av n 0 9 then 1 else 0
def eK(new:UV)(seen:List Mark)(m:Mark):Int:=
 let f:=bL m
 if f≠0 then f else if decide (new=m.name)||seen.any (λq=>decide (q.name=m.name))then 5 else 0
def bO(c:Case):Int:=
 let a:=du c.table
 if a≠0 then a else
 let b:=aL 0 6 eG c.rules
 if b≠0 then b else
 let d:=bL c.new
 if d≠0 then d else
 let e:=aL 0 8 (eK c.new.name) c.marks
 if e≠0 then e else aL c.marks.length c.marks.length mY c.kin
def bV(b:List Pr2)(rest:Bs):Option Pr2:=b.foldl (λa p=>if p.1.data.toList.isPrefixOf rest&&decide ((a.elim 0 λq=>q.1.size)<p.1.size)then some p else a) none
def mH(a:List Pr2):Nat->Bs->Bs
 |0,_=>[]
 |_,[]=>[]
 |n+1,c::cs=>
  match bV a (c::cs)with
  |some p=>p.2.data.toList++mH a n ((c::cs).drop p.1.size)
  |none=>(if bp c then[c]else[])++mH a n cs
def aX(a:List Pr2)(w:Bs):Bs:=mH a w.length w
def fJ(a b:Bs):Nat->Bs->Bs
 |0,s=>s
 |_,[]=>[]
 |n+1,c::cs=>if a.isPrefixOf (c::cs)then b++fJ a b n ((c::cs).drop a.length)else c::fJ a b n cs
def cE(p:Pr2)(s:Bs):Bs:=fJ p.1.data.toList p.2.data.toList s.length s
def bS(t:Table)(k:Nat)(w:Bs):Bs:=((t.aI[k]?.map (·.bd)).getD []).foldl (λs r=>cE r s) (aX t.az w)
def pj:Nat->Bs->Bs->Nat
 |_,[],b=>b.length
 |_,_::a,[]=>a.length+1
 |0,_::_,_::_=>0
 |n+1,x::a,y::b=>if x=y then pj n a b else 1+min (pj n a b) (min (pj n a (y::b)) (pj n (x::a) b))
def aY(a b:Bs):Nat:=pj (a.length+b.length) a b
def uY(n b):pj n [] b=b.length:=by cases n<;>rfl
def sH(n a):pj n a []=a.length:=by cases n<;>cases a<;>rfl
theorem iD:∀(n m) (a b),a.length+b.length<=n->a.length+b.length<=m->pj n a b=pj m a b
 |n,m,[],b,_,_=>by rw[uY,uY]
 |n,m,x::a,[],_,_=>by rw[sH,sH]
 |0,_,x::a,y::b,h,_=>by simp at h
 |n+1,0,x::a,y::b,_,h=>by simp at h
 |n+1,m+1,x::a,y::b,c,d=>by simp only[WA]at c d;unfold pj;rw[iD n m a b (by omega) (by omega),iD n m a (y::b) (by simp only[WA];omega) (by simp only[WA];omega),iD n m (x::a) b (by simp only[WA];omega) (by simp only[WA];omega)]
def SU(b):aY [] b=b.length:=uY _ b
def Ou(a):aY a []=a.length:=sH _ a
def SV(x y)(a b:Bs):aY (x::a) (y::b)=if x=y then aY a b else 1+min (aY a b) (min (aY a (y::b)) (aY (x::a) b)):=by have e:aY (x::a) (y::b)=pj ((a.length+b.length+1)+1) (x::a) (y::b):=iD _ _ _ _ (Wv _) (by simp only[WA];omega);rw[e];unfold pj aY;rw[iD (a.length+b.length+1) (a.length+b.length) a b (by omega) (Wv _),iD (a.length+b.length+1) (a.length+(y::b).length) a (y::b) (by simp only[WA];omega) (Wv _),iD (a.length+b.length+1) ((x::a).length+b.length) (x::a) b (by simp only[WA];omega) (Wv _)]
def eu(a b:Bs):Int:=if a.isEmpty||b.isEmpty then 0 else(100*((max a.length b.length:Nat)-(aY a b:Int)))/(max a.length b.length:Nat)
def rB(a b:Bs):Int:=
 let(x,y):=if a.length>b.length then(b,a)else(a,b)
 if x.length<3|| !x.isPrefixOf y&& !x.isSuffixOf y then 0 else(100*x.length:Int)/(y.length:Int)
def iE(t:Table)(a b:Bs):Int:=if t.bG.any (λl=>l.any (λs=>s.data.toList==a)&&l.any (λs=>s.data.toList==b))||(a==b&& !a.isEmpty)then 100 else 0
def bH(l other:List Int):List Int:=l.filter λn=> !other.contains n
def aT(l:List Int)(n:Int):Nat:=(l.filter λx=>x/100==n).length
def cJ(a b:List Int):Int:=
 if a.isEmpty||b.isEmpty then 0 else
 let x:=bH a b;let y:=bH b a;let c:=((List.range 10).map λ(n:Nat)=>min (aT x n) (aT y n)).sum
 (100*(2*(a.length-x.length)+c:Nat):Int)/(a.length+b.length:Nat)
def bn(t:Table)(kind:Int)(one two:Mark):Int:=
 let a:=aX t.az one.word.data.toList;let b:=aX t.az two.word.data.toList
 if kind=0 then eu a b
 else if kind=1 then(List.range t.aI.length).foldl (λc k=>max c (eu (bS t k one.word.data.toList) (bS t k two.word.data.toList))) 0
 else if kind=2 then iE t a b
 else if kind=3 then eu a b.reverse
 else if kind=4 then rB a b
 else cJ one.aU two.aU
structure rC where
 days:Int
 level:Int
 kin:Int
deriving DecidableEq
def fK(c:Case)(m:Mark)(kin:Int)(r:jd):rC:=
 let a:=if m.known then min r.plain r.known else r.plain
 ⟨max 0 (m.day+1-c.new.day),max 0 (r.least-bn c.table r.kind c.new m),max 0 (a-kin)⟩
def cQ(c:Case)(m:Mark)(kin:Int):Nat->List jd->Option (Nat×Int)
 |_,[]=>none
 |i,r::a=>if fK c m kin r=⟨0,0,0⟩then some (i,bn c.table r.kind c.new m)else cQ c m kin (i+1) a
structure Hit where
 mark:Int
 di:Int
 level:Int
deriving DecidableEq
def en(c:Case)(i:Nat):Option Hit:=
 match c.marks[i]?,c.kin[i]? with
 |some m,some k=>(cQ c m k 0 c.rules).map λx=>⟨i,x.1,x.2⟩
 |_,_=>none
def iM(c:Case)(i:Int):Int:=(c.marks[i.toNat]?.map (·.day)).getD 0
def aV(c:Case)(a b:Hit):Bool:=
 if a.di≠b.di then decide (a.di<b.di)else if a.level≠b.level then decide (b.level<a.level)else
 if iM c a.mark≠iM c b.mark then decide (iM c a.mark<iM c b.mark)else decide (a.mark<b.mark)
def fA(c:Case)(h:Hit):List Hit->List Hit
 | []=>[h]
 |x::xs=>if aV c x h then x::fA c h xs else h::x::xs
def aA(c:Case):List Hit:=((List.range c.marks.length).filterMap (en c)).foldl (λl h=>fA c h l) []
def eD(b):aY [] b=b.length:=SU b
def dS(a):aY a []=a.length:=Ou a
def Ae(x y)(a b:Bs):aY (x::a) (y::b)=if x=y then aY a b else 1+min (aY a b) (min (aY a (y::b)) (aY (x::a) b)):=SV x y a b
theorem rn:∀(n) (a b),a.length+b.length<=n->aY a b=aY b a
 |n,[],b,_=>by rw[eD,dS]
 |n,x::a,[],_=>by rw[eD,dS]
 |0,x::a,y::b,h=>by simp at h
 |n+1,x::a,y::b,h=>by
  simp only[WA]at h;rw[Ae,Ae,rn n a b (by omega),rn n a (y::b) (by simp only[WA];omega),rn n (x::a) b (by simp only[WA];omega)];by_cases e:x=y
  .subst e;simp
  .rw[Wt e,Wt (WT e)];omega
def Td(a b):aY a b=aY b a:=rn _ a b (Wv _)
theorem Af:∀(n) (a b) (x),a.length+b.length<=n->aY a b<=aY (x::a) b+1/\aY (x::a) b<=aY a b+1
 |n,a,[],x,_=>by rw[dS,dS];simp only[WA];omega
 |0,a,y::b,x,h=>by simp only[WA]at h;omega
 |n+1,a,y::b,x,h=>by
  simp only[WA]at h;have c:=Af n b a y (by omega);have d:=Af n a b x (by omega);rw[Td b a,Td (y::b) a]at c;rw[Ae];by_cases e:x=y
  .rw[Wu e];omega
  .rw[Wt e];omega
def Wq(a b x):aY a b<=aY (x::a) b+1:=(Af _ a b x (Wv _)).1
def wJ(a b:Bs)(x):aY (x::a) (x::b)=aY a b:=by rw[Ae,Wu rfl]
def Nf(a b:Bs)(x y):aY (x::a) (y::b)<=aY a b+1:=by rw[Ae];split<;>omega
theorem xB:∀(a b),aY a b<=max a.length b.length
 | [],b=>by rw[eD];simp
 |x::a,[]=>by rw[dS];simp
 |x::a,y::b=>by have h:=Nf a b x y;have k:=xB a b;simp only[WA];omega
theorem C8:∀a,aY a a=0
 | []=>by rw[eD];rfl
 |x::a=>by rw[wJ];exact C8 a
theorem ti:∀(a b),aY a b=0->a=b
 | [],b,h=>by rw[eD]at h;exact(Yg.1 h).symm
 |x::a,[],h=>by rw[dS]at h;simp at h
 |x::a,y::b,h=>by
  rw[Ae]at h;by_cases e:x=y
  .rw[Wu e]at h
   rw[e,ti a b h]
  .rw[Wt e]at h;omega
abbrev Ed:=Int×Int×Int
def codeOf(c:UInt8):Int:=(c.toNat:Int)
def bj(i:Nat):Bs->Bs->List Ed
 | [],[]=>[]
 | [],y::b=>((i:Int),0,codeOf y)::bj i [] b
 |x::a,[]=>((i:Int),1,0)::bj (i+1) a []
 |x::a,y::b=>
  if aY (x::a) (y::b)=0 then[]
  else if aY (x::a) b+1=aY (x::a) (y::b)then((i:Int),0,codeOf y)::bj i (x::a) b
  else if aY a (y::b)+1=aY (x::a) (y::b)then((i:Int),1,0)::bj (i+1) a (y::b)
  else if x≠y then((i:Int),2,codeOf y)::bj (i+1) a b
  else bj (i+1) a b
termination_by a b=>a.length+b.length
inductive Run:Nat->Bs->List Ed->Bs->Prop
 |nil {i:Nat} {a:Bs}:Run i a [] a
 |keep {i:Nat} {a:Bs} {l:List Ed} {b:Bs} {e:Ed} (x:UInt8):(i:Int)<e.1->Run (i+1) a (e::l) b->Run i (x::a) (e::l) (x::b)
 |put {i:Nat} {a:Bs} {l:List Ed} {b:Bs} (y:UInt8):bp y=true->Run i a l b->Run i a (((i:Int),0,codeOf y)::l) (y::b)
 |drop {i:Nat} {a:Bs} {l:List Ed} {b:Bs} (x:UInt8):Run (i+1) a l b->Run i (x::a) (((i:Int),1,0)::l) b
 |swap {i:Nat} {a:Bs} {l:List Ed} {b:Bs} (x y:UInt8):bp y=true->Run (i+1) a l b->Run i (x::a) (((i:Int),2,codeOf y)::l) (y::b)
def Run.later{i a e l b}(h:Run i a (e::l) b):(i:Int)<=e.1:=by cases h with|keep x h _=>omega|put=>exact YG _|drop=>exact YG _|swap=>exact YG _
def Ng(i a):bj i a a=[]:=by cases a with|nil=>rw[bj]|cons x a=>rw[bj,Wu (C8 _)]
theorem lN:∀(n) (i) (a b),a.length+b.length<=n->b.all bp=true->Run i a (bj i a b) b/\(bj i a b).length=aY a b
 |n,i,[],[],_,_=>by rw[bj];exact⟨.nil,by rw[eD];rfl⟩
 |0,i,[],y::b,h,_=>by simp at h
 |n+1,i,[],y::b,h,c=>by simp only[YZ,WI]at c;simp only[WA,WQ]at h;obtain⟨d,f⟩:=lN n i [] b (by simp only[WQ];omega) c.2;rw[bj];exact⟨.put y c.1 d,by rw[WA,f,eD,eD];rfl⟩
 |0,i,x::a,b,h,_=>by simp at h
 |n+1,i,x::a,[],h,c=>by simp only[WA,WQ]at h;obtain⟨d,f⟩:=lN n (i+1) a [] (by simp only[WQ];omega) c;rw[bj];exact⟨.drop x d,by rw[WA,f,dS,dS];rfl⟩
 |n+1,i,x::a,y::b,h,c=>by
  have m:=c;simp only[YZ,WI]at c;simp only[WA]at h;rw[bj];by_cases k:aY (x::a) (y::b)=0
  .rw[Wu k,k,ti _ _ k]
   exact⟨.nil,rfl⟩
  .rw[Wt k]
   by_cases d:aY (x::a) b+1=aY (x::a) (y::b)
   .obtain⟨g,j⟩:=lN n i (x::a) b (by simp only[WA];omega) c.2
    rw[Wu d];exact⟨.put y c.1 g,by rw[WA,j,d]⟩
   .rw[Wt d]
    by_cases f:aY a (y::b)+1=aY (x::a) (y::b)
    .obtain⟨g,j⟩:=lN n (i+1) a (y::b) (by simp only[WA];omega) m
     rw[Wu f];exact⟨.drop x g,by rw[WA,j,f]⟩
    .rw[Wt f]
     obtain⟨g,j⟩:=lN n (i+1) a b (by omega) c.2;by_cases o:x=y
     .subst o
      rw[Wt (λh=>h rfl),wJ];rw[wJ]at k;refine⟨?_,j⟩;cases p:bj (i+1) a b with
      |nil=>rw[p]at j;exact absurd j.symm k
      |cons e l=>rw[p]at g;exact .keep x (by have:=g.later;omega) g
     .rw[Wu o]
      refine⟨.swap x y c.1 g,?_⟩;rw[WA,j];rw[Ae,Wt o]at d f⊢;have k1:=Wq a (y::b) x;omega
def Ag{b}(chk seen x)(xs:List b)(h:dq chk seen (x::xs)=0):chk seen x=0/\dq chk (seen++[x]) xs=0:=by unfold dq at h;by_cases a:chk seen x=0;rw[Wt (λh=>h a)]at h;exact⟨a,h⟩;rw[Wu a]at h;exact absurd h a
def si{a}(chk seen x)(xs:List a)(b:chk seen x=0)(c:dq chk (seen++[x]) xs=0):dq chk seen (x::xs)=0:=by unfold dq;rw[Wt (λh=>h b)];exact c
def kQ(a b:Bs):List Ed:=bj 0 a b
def BD(a b)(c:b.all bp=true):(kQ a b).length=aY a b:=(lN _ 0 a b (Wv _) c).2
def own:ownKnob Tryz.prog.godebug=none:=by kernel_rfl
noncomputable def Fo(os:Os):xv:=(World.doorLaid Tryz.prog 50 os).layVars Tryz.prog [("unicode/utf8.first",Go.Pinned.utf8First)]
def Fp(os:Os):(Fo os).os=os:=World.layVars_os _ _ _
def qQ(os:Os)(args:WZ):((Fo os).forCall (λ_ _=>0) ⟨#[],args,[]⟩).Shaped Tryz.prog:=World.shaped_of_ZipB (by kernel_rfl) (by kernel_rfl)
def AF(os:Os)(args:WZ):laidMetH Tryz.prog YtaglpcmhopjebaaGreatDoor.Rows.likeWordsRow.laid ((Fo os).forCall (λ_ _=>0) ⟨#[],args,[]⟩).memory:=laidMetH_of_parts3 (fuel:=8) (laidMet_of_run' 8 (by kernel_rfl) (by kernel_rfl)) (by kernel_rfl) (by kernel_rfl)
end Go.Proofs
namespace Go.Proofs
open Go.Tm Go.RowKit
@[go_sem] theorem Ws(P)(fs)(t)(w):(underlying t).run (ai P fs) w=(underlying t).run P w:=by simp only[underlying,program,bind,Sem.bind,Sem.run,aP];cases P.underlying t<;>rfl
variable {fs:Array Func} (L:bT fs)
def yl(c):bp c=true↔97<=(c.toNat:Int)/\(c.toNat:Int)<=122:=by simp[bp]
def pF{s:UV}{j}(a:j<s.size):s.data.toList[j]'(by simpa using a)=s[j]:=by rw[ZY];rfl
def Dx{p:UInt8->Bool}{s:UV}(h:∀j (h:j<s.size),p s[j]=true):s.data.toList.all p=true:=by (rw[Xe];intro x b;obtain⟨j,c,rfl⟩:=Yp.1 b;have a:j<s.size:=by simpa using c);rw[pF a];exact h j a
def tt{s:UV}{j}(a:j<s.size):s[j]∈s.data.toList:=by rw[<-pF a];exact WG _
def uZ{p}{s:UV}{j}(a:j<s.size)(h:p s[j]=false):s.data.toList.all p=false:=by rw[List.all_eq_false];exact⟨s[j],tt a,by simp[h]⟩
def Dy{p}{s:UV}{j}(a:j<s.size)(h:p s[j]=true):s.data.toList.any p=true:=by rw[Xv];exact⟨s[j],tt a,h⟩
def vc{p:UInt8->Bool}{s:UV}(h:∀j (h:j<s.size),p s[j]=false):s.data.toList.any p=false:=by (rw[YD];intro x b;obtain⟨j,c,rfl⟩:=Yp.1 b;have a:j<s.size:=by simpa using c);rw[pF a,h j a];exact Zb
def wW{s a b k}(c:k<s.size)(h:((s[k].toNat:Int))<97\/122<(s[k].toNat:Int)):bg s a b=false:=by (have:bp s[k]=false:=by cases d:bp s[k]with|false=>rfl|true=>have:=(yl _).1 d;omega);simp[bg,uZ c this]
def Dz{s:UV}{a hi:Int}(h:∀j (h:j<s.size),bp s[j]=true):bg s a hi=av s.size a hi:=by simp[bg,Dx h]
def I5{s:UV}{k:Nat}(b:∀j (h:j<k) (a:j<s.size),bp s[j]=true)(c:k<s.size)(h:bp s[k]=true):∀j (h:j<k+1) (a:j<s.size),bp s[j]=true:=by intro j d a;obtain h1|h1:=Wx j k;exact b j h1 a;(have:j=k:=by omega);subst this;exact h
def nG(c):j7 c=true↔(c.toNat:Int)=10\/(c.toNat:Int)=58\/(c.toNat:Int)=59\/(c.toNat:Int)=44:=by simp only[j7,X3,Xw,<-Zy,UInt8.reduceToNat,or_assoc];omega
def kY{s a k}(b:k<s.size)(h:j7 s[k]=true):bz s a=false:=by simp[bz,Dy b h]
def AM{s:UV}{hi:Int}(h:∀j (h:j<s.size),j7 s[j]=false):bz s hi=av s.size 1 hi:=by simp[bz,vc h]
def I6{s:UV}{k:Nat}(b:∀j (h:j<k) (a:j<s.size),j7 s[j]=false)(c:k<s.size)(h:j7 s[k]=false):∀j (h:j<k+1) (a:j<s.size),j7 s[j]=false:=by intro j d a;obtain h1|h1:=Wx j k;exact b j h1 a;(have:j=k:=by omega);subst this;exact h
def yB(n a b:Int)(w:xv):ap fs 60 #[.i n,.i a,.i b] w (.bool (av n a b)):=by go_enter (n60 L),Tryz.ntmps60;go_wp2;all_goals (go_ret;simp[av];try omega)
def oz(s:UV)(a b:Int)(w:xv)(d:s.size<=9223372036854775807):ap fs 61 #[.string s,.i a,.i b] w (.bool (bg s a b)):=by have e60:=e60 L;go_enter (n61 L),Tryz.ntmps61;go_wp2;(go_loop [7] (λi=>∃k:Nat,k<=s.size/\i=.i k/\∀j (h:j<k) (f:j<s.size),bp s[j]=true) (λi=>s.size-(intOf i).toNat));(case atStart=>exact⟨0,WB _,rfl,λj h=>absurd h (WM _)⟩);case round=>obtain⟨k,g,rfl,c⟩:=hrel;go_wp2_with (go_at_call 60;refine(yB L _ _ _ _).mono ?_;rintro e w' ⟨rfl,rfl⟩);go_ret;exact⟨by rw[wW (by assumption) (by assumption)];rfl,rfl⟩;refine⟨⟨k+1,by omega,by go_num,I5 c (by assumption) ((yl _).2 (by assumption))⟩,by simp[intOf];omega⟩;go_ret;exact⟨by rw[wW (by assumption) (.inl (by assumption))];rfl,rfl⟩;go_ret;exact⟨by rw[Dz λj h=>c j (by omega) h];rfl,rfl⟩
def kZ(a b:UV):(a.toList==b.toList)=decide (a=b):=by rw[XP,WR,Xw,Lib.toList_data,Lib.toList_data];exact⟨λh=>Go.WideShapes.bytes_inj h,λh=>h▸rfl⟩
def LM{a b:UV}(h:(a.toList==b.toList)=true):a=b:=by rw[kZ]at h;simpa using h
def LN{a b:UV}(h:(a.toList==b.toList)=false):a≠b:=by rw[kZ]at h;simpa using h
def wX(s:UV)(a:Int)(w:xv)(d:s.size<=9223372036854775807):ap fs 110 #[.string s,.i a] w (.bool (bz s a)):=by have e60:=e60 L;go_enter (n110 L),Tryz.ntmps110;go_wp2;(go_loop [5] (λi=>∃k:Nat,k<=s.size/\i=.i k/\∀j (h:j<k) (f:j<s.size),j7 s[j]=false) (λi=>s.size-(intOf i).toNat));(case atStart=>exact⟨0,WB _,rfl,λj h=>absurd h (WM _)⟩);case round=>obtain⟨k,g,rfl,b⟩:=hrel;go_wp2_with (go_at_call 60;refine(yB L _ _ _ _).mono ?_;rintro e w' ⟨rfl,rfl⟩);go_ret;exact⟨by rw[kY (by assumption) ((nG _).2 (by omega))];rfl,rfl⟩;go_ret;exact⟨by rw[kY (by assumption) ((nG _).2 (by omega))];rfl,rfl⟩;go_ret;exact⟨by rw[kY (by assumption) ((nG _).2 (by omega))];rfl,rfl⟩;have h:= ‹(((_\/_)\/_)\/_:Prop)›;go_ret;simp only[Xw]at h;exact⟨by rw[kY (by assumption) ((nG _).2 (by omega))];rfl,rfl⟩;have h:= ‹(((_/\_)/\_)/\_:Prop)›;simp only[W5]at h;refine⟨⟨k+1,by omega,by go_num,I6 b (by assumption) ?_⟩,by simp[intOf];omega⟩;rw[Zz];intro c;have:=(nG _).1 c;omega;go_ret;exact⟨by rw[AM λj h=>b j (by omega) h];rfl,rfl⟩
def tu(s r:UV)(k:Nat)(w:xv)(c:s.size<=1000000)(d:r.size<=1000000)(f:k<=s.size):ap fs 96 #[.string s,.i k,.string r] w (.bool (Lib.occAt s.data.toList r.data.toList k)):=by go_enter (n96 L),Tryz.ntmps96;go_wp2;go_ret;exact⟨by rw[Lib.occ_of_piece s r k (by omega)];rfl,rfl⟩;go_ret;(refine⟨?_,rfl⟩;have:Lib.occAt s.data.toList r.data.toList k=false:=by cases a:Lib.occAt s.data.toList r.data.toList k with|false=>rfl|true=>have b:=(X4.1 (show r.data.toList.isPrefixOf (s.data.toList.drop k)=true from a)).length_le;rw[WJ,<-Lib.size_eq,<-Lib.size_eq]at b;have g:= ‹(_:Int)<_+_›;by_cases h:r.size=0;omega;omega);rw[this];rfl
def kU(l:List UV)(s:UV):Int:=(l.findIdx? λq=>decide (q=s)).elim (-1) λk=>(k:Int)
def LP{l:List UV}{s:UV}{k:Nat}(a:k<l.length)(h:l[k]=s)(b:∀j (h:j<k) (d:j<l.length),l[j]≠s):kU l s=k:=by (unfold kU;have:(l.findIdx? λq=>decide (q=s))=some k:=by rw[aax];exact⟨a,by simp[h],λj c=>by simpa using b j c (by omega)⟩);rw[this];rfl
def I7{l:List UV}{s:UV}(a:∀j (d:j<l.length),l[j]≠s):kU l s= -1:=by (unfold kU;have:(l.findIdx? λq=>decide (q=s))=none:=by rw[ZZ];intro x b;obtain⟨j,c,rfl⟩:=Yp.1 b;simpa using a j c);rw[this];rfl
def tv(l s):decide (0<=kU l s)=l.any (λq=>decide (q=s)):=by
 unfold kU;cases h:(l.findIdx? λq=>decide (q=s))with
 |none=>(rw[ZZ]at h;have:l.any (λq=>decide (q=s))=false:=by rw[YD];intro x a;simpa using h x a);rw[this];rfl
 |some k=>rw[aax]at h;obtain⟨c,b,_⟩:=h;have:l.any (λq=>decide (q=s))=true:=Xv.2 ⟨l[k],WG _,b⟩;rw[this];simp
def K6{b:Type}{l:List b}{s:b}{k:Nat}(c:∀j (h:j<k) (a:j<l.length),l[j]≠s)(d:k<l.length)(h:l[k]≠s):∀j (h:j<k+1) (a:j<l.length),l[j]≠s:=by intro j e a;obtain h1|h1:=Wx j k;exact c j h1 a;(have:j=k:=by omega);subst this;exact h
def DC{K:Nat->Prop}{v:x6}{l:List UV}(s:UV)(w:xv)(f:aB K 1 kF w v l):ap fs 62 #[v,.string s] w (.i (kU l s)):=by
 obtain⟨o,c,rfl,n,p,_,a⟩:=f;go_enter (n62 L),Tryz.ntmps62;go_wp2
 go_loop [5] (λi=>∃k:Nat,k<=l.length/\i=.i k/\∀j (h:j<k) (q:j<l.length),l[j]≠s) (λi=>l.length-(intOf i).toNat)
 case atStart=>exact⟨0,WB _,rfl,λj h=>absurd h (WM _)⟩
 case round=>
  obtain⟨k,r,rfl,g⟩:=hrel;obtain d|hge:=Wx k l.length
  .obtain⟨b,off,rfl,m⟩:=a k d;(have m:w.cell? ⟨b,off+k,none⟩=some (.string l[k]):=by simpa[kF]using m);go_wp2;go_ret;exact⟨by rw[LP d (LM (by assumption)) g];rfl,rfl⟩;exact⟨⟨k+1,by omega,by go_num,K6 g d (LN (by assumption))⟩,by simp[intOf];omega⟩
  go_wp2;go_ret;exact⟨by rw[I7 λj h=>g j (by omega) h];rfl,rfl⟩
def Ov{K:Nat->Prop}{v:x6}{l:List Int}(s:Int)(w:xv)(d:aB K 1 dh w v l):ap fs 167 #[v,.i s] w (.bool (l.contains s)):=by
 obtain⟨q,c,rfl,o,r,_,a⟩:=d;go_enter (n167 L),Tryz.ntmps167;go_wp2
 go_loop [5] (λi=>∃k:Nat,k<=l.length/\i=.i k/\∀j (h:j<k) (t:j<l.length),l[j]≠s) (λi=>l.length-(intOf i).toNat)
 case atStart=>exact⟨0,WB _,rfl,λj h=>absurd h (WM _)⟩
 case round=>
  obtain⟨k,u,rfl,m⟩:=hrel;obtain f|hge:=Wx k l.length
  .obtain⟨b,off,rfl,n⟩:=a k f;(have n:w.cell? ⟨b,off+k,none⟩=some (.i l[k]):=by simpa[dh]using n);go_wp2;have h:= ‹(_==_)=true›;(go_ret;have g:s∈l:=by rw[<-(Xw.1 h)];exact WG _);exact⟨by simp[g],rfl⟩;have h:= ‹(_==_)=false›;exact⟨⟨k+1,by omega,by go_num,K6 m f (by simpa using h)⟩,by simp[intOf];omega⟩
  go_wp2;go_ret;have g:¬s∈l:=λg=>by obtain⟨j,p,rfl⟩:=Yp.1 g;exact m j (by omega) p rfl
  exact⟨by simp[g],rfl⟩
def pG{a:Type}(p)(l:List a)(k)(b:k<l.length):((l.take (k+1)).filter p)=(l.take k).filter p++(if p l[k]then[l[k]]else[]):=by rw[YE b,YQ];congr 1;simp[List.filter];split<;>simp_all
def yC{K:Nat->Prop}{v:x6}{l:List Int}(n:Int)(w:xv)(d:aB K 1 dh w v l)(o:∀x∈l,0<=x/\x<=999):ap fs 142 #[v,.i n] w (.i (aT l n)):=by
 obtain⟨q,c,rfl,p,r,_,a⟩:=d;go_enter (n142 L),Tryz.ntmps142;go_wp2
 go_loop [5,6] (λm i=>∃k:Nat,k<=l.length/\i=.i k/\m=.i (aT (l.take k) n)) (λm i=>l.length-(intOf i).toNat)
 case atStart=>exact⟨0,WB _,rfl,rfl⟩
 case round=>
  obtain⟨k,s,rfl,rfl⟩:=hrel;have t:aT (l.take k) n<=k:=by unfold aT;exact Ww (XI _ _) (by simp;omega)
  obtain f|hge:=Wx k l.length
  .obtain⟨b,off,rfl,j⟩:=a k f;(have j:w.cell? ⟨b,off+k,none⟩=some (.i l[k]):=by simpa[dh]using j);(obtain⟨u,y⟩:=o l[k] (WG _);have g:aT (l.take (k+1)) n=aT (l.take k) n+(if l[k]/100==n then 1 else 0):=by unfold aT;rw[pG _ _ _ f,WS];split<;>rfl);go_wp2;have h:= ‹(_==n)=true›;exact⟨⟨k+1,by omega,by go_num,by rw[g,Wu h];go_num⟩,by simp[intOf];omega⟩;have h:= ‹(_==n)=false›;exact⟨⟨k+1,by omega,by go_num,by rw[g,Wt (by rw[h];exact Zb)];go_num⟩,by simp[intOf];omega⟩
  go_wp2;go_ret;rw[YR hge];exact⟨rfl,rfl⟩
end Go.Proofs
namespace Go.Proofs
open Go.Tm Go.RowKit
variable {fs:Array Func} (L:bT fs)
def bs(l:Bs):UV:=⟨l.toArray⟩
def dM(l):(bs l).data.toList=l:=by simp[bs]
def dv(l):(bs l).size=l.length:=by rw[Lib.size_eq,dM]
def sI{a b:UV}(h:a.data.toList=b.data.toList):a=b:=Go.WideShapes.bytes_inj h
def FC(a b:UV):(a++b).data.toList=a.data.toList++b.data.toList:=by obtain⟨⟨a⟩⟩:=a;obtain⟨⟨b⟩⟩:=b;simp
def vd(x)(r:UV):bs x++r=bs (x++r.data.toList):=sI (by rw[FC,dM,dM])
def DI(x)(s:UV)(k)(b:k<s.size):bs x++s.extract k (k+1)=bs (x++[s[k]]):=by rw[vd,Lib.extract_data];congr 2;(have a:k<s.data.toList.length:=by rwa[<-Lib.size_eq]);rw[YT a,aay];simp only[Xi,Xf];rw[pF b]
def drop_cons(s:UV)(k)(b:k<s.size):s.data.toList.drop k=s[k]::s.data.toList.drop (k+1):=by (have a:k<s.data.toList.length:=by rwa[<-Lib.size_eq]);rw[YT a,pF b]
def AN(f t:Bs)(e:f≠[]):∀(n m) (s),s.length<=n->s.length<=m->fJ f t n s=fJ f t m s:=by have a:=XQ.2 e;intro n;induction n with|zero=>intro m s h _;have:s=[]:=Xp (by omega);subst this;cases m<;>rfl|succ n b=>intro m s h d;cases s with|nil=>cases m<;>rfl|cons c cs=>cases m with|zero=>simp at d|succ m=>(simp only[WA]at h d;unfold fJ;have g:((c::cs).drop f.length).length<=n:=by rw[WJ,WA];omega);(have i:((c::cs).drop f.length).length<=m:=by rw[WJ,WA];omega);rw[b m _ g i,b m cs (by omega) (by omega)]
def oD(p):cE p []=[]:=rfl
def oE{p s}(b:p.1.data.toList.isPrefixOf s=true)(a:p.1.data.toList≠[]):cE p s=p.2.data.toList++cE p (s.drop p.1.data.toList.length):=by cases s with|nil=>have:=(X4.1 b).length_le;exact absurd (Xp (Nat.le_zero.1 this)) a|cons c cs=>have d:=XQ.2 a;show fJ _ _ (cs.length+1) (c::cs)=_;unfold fJ;rw[Wu b];congr 1;exact AN _ _ a _ _ _ (by rw[WJ,WA];omega) (Wv _)
def mZ{p c}{s:Bs}(a:p.1.data.toList.isPrefixOf (c::s)=false):cE p (c::s)=c::cE p s:=by show fJ _ _ (s.length+1) (c::s)=_;unfold fJ;rw[a];rfl
def aC(w:xv)(c)(e i:Nat)(v)(h:c[i]? =some v):(w.alloc (.cells c e)).cell? ⟨w.heap.size,i,none⟩=some v:=by unfold World.cell? World.alloc;simp[h]
def aN(w o):jg w (w.alloc o):=(Below.refl _ w).alloc (Wv _) o
def FD(s:UV)(p:Pr2)(w:xv)(z:s.size<=1000)(A:1<=p.1.size)(B:p.1.size<=1000)(C:p.2.size<=1000):ac fs 113 #[.string s,.agg #[.string p.1,.string p.2]] w (.string (bs (cE p s.data.toList))):=by
 have e96:=e96 L;have n:p.1.data.toList≠[]:=by intro h;have l:=Lib.size_eq p.1;rw[h]at l;have D:p.1.size=0:=l;omega
 have q:=aC w #[.string p.1,.string p.2] 51 0 (.string p.1) rfl;have r:=aC w #[.string p.1,.string p.2] 51 1 (.string p.2) rfl;have t:Hid (jg w (w.alloc (.cells #[.string p.1,.string p.2] 51))):=aN w _;go_enter (n113 L),Tryz.ntmps113;go_wp2
 go_loop [5,6] (λo i=>∃(k:Nat) (x:Bs),k<=s.size/\i=.i k/\o=.string (bs x)/\(bs x).size<=1000*k/\x++cE p (s.data.toList.drop k)=cE p s.data.toList) (λo i=>s.size-(intOf i).toNat)
 case atStart=>exact⟨0,[],WB _,rfl,rfl,WB _,rfl⟩
 case round=>
  obtain⟨k,x,E,rfl,rfl,u,a⟩:=hrel;have g:=jj a;clear a;obtain b|hge:=Wx k s.size
  .have c:=drop_cons s k b;have m:=jj c;clear c;have v:=λy=>tu L s p.1 k y (by omega) (by omega) (by omega);go_wp2_with (go_at_call 96;refine(v _).mono ?_;rintro e w' ⟨rfl,rfl⟩);have f:= ‹Lib.occAt _ _ _=true›;have d:=(X4.1 (show p.1.data.toList.isPrefixOf (s.data.toList.drop k)=true from f)).length_le;rw[WJ,<-Lib.size_eq,<-Lib.size_eq]at d;refine⟨⟨k+p.1.size,x++p.2.data.toList,by omega,by go_num,by rw[vd],?_,?_⟩,by simp[intOf];omega⟩;rw[dv,WS,<-dv x,<-Lib.size_eq];have:1000*(k+p.1.size)=1000*k+1000*p.1.size:=Nat.mul_add _ _ _;omega;rw[<-g.o,oE f n,Zc,<-Lib.size_eq,XR];have f:= ‹Lib.occAt _ _ _=false›;refine⟨⟨k+1,x++[s[k]],by omega,by go_num,by rw[DI x s k b],?_,?_⟩,by simp[intOf];omega⟩;rw[dv,WS,<-dv x];simp only[WA,WQ];omega;rw[<-g.o,m.o];(have j:p.1.data.toList.isPrefixOf (s[k]::s.data.toList.drop (k+1))=false:=by rw[<-m.o];exact f);rw[mZ j,XR];rfl
  go_wp2;go_ret;have a:=g.o;rw[Xg (by rw[<-Lib.size_eq];exact hge),oD,XJ]at a;exact⟨by rw[a];rfl,t.o⟩
def Ow(s:UV)(w:xv)(d:s.size<=1000):ap fs 117 #[.string s] w (.string (bs s.data.toList.reverse)):=by
 go_enter (n117 L),Tryz.ntmps117;go_wp2
 go_loop [3,4] (λo i=>∃(k:Nat) (x:Bs),k<=s.size/\i=.i ((k:Int)-1)/\o=.string (bs x)/\(bs x).size<=1000/\x=(s.data.toList.drop k).reverse) (λo i=>(intOf i+1).toNat)
 case atStart=>exact⟨s.size,[],Wv _,by simp,rfl,by decide,by rw[Xg (by rw[<-Lib.size_eq];exact Wv _)];rfl⟩
 case round=>
  obtain⟨k,x,f,rfl,rfl,c,a⟩:=hrel;have b:=jj a;clear a;obtain rfl|hpos:=Xc k
  .go_wp2;go_ret;have a:=b.o;rw[Xl]at a;exact⟨by rw[a];rfl,rfl⟩
  obtain⟨j,rfl⟩:∃j,k=j+1:=⟨k-1,by omega⟩
  go_wp2;have a:=b.o;refine⟨⟨j,x++[s[j]],by omega,rfl,by rw[DI x s j (by omega)],?_,?_⟩,by simp[intOf]⟩;rw[dv,WS,a,ZA,WJ,<-Lib.size_eq];simp only[WA,WQ];omega;rw[a,drop_cons s j (by omega),List.reverse_cons]
def Rn{a b:UV}(d:a.size<=b.size):rB a.data.toList b.data.toList= if a.size<3\/(Lib.occAt b.data.toList a.data.toList 0=false/\Lib.occAt b.data.toList a.data.toList (b.size-a.size)=false)then 0 else(100*a.size:Int)/b.size:=by (have c:a.data.toList.isSuffixOf b.data.toList=Lib.occAt b.data.toList a.data.toList (b.size-a.size):=by (have h:=Lib.hasSuffix_of_drop b.data.toList a.data.toList;unfold Lib.hasSuffix at h;rw[<-h,<-Lib.size_eq,<-Lib.size_eq,WE d,Zd];unfold Lib.occAt;have e:(b.data.toList.drop (b.size-a.size)).length=a.data.toList.length:=by rw[WJ,<-Lib.size_eq,<-Lib.size_eq];omega);rw[XP,Xw,X4];exact⟨λh=>h▸List.prefix_refl _,λh=>(List.IsPrefix.eq_of_length h e.symm).symm⟩);unfold rB;rw[<-Lib.size_eq,<-Lib.size_eq,Wt (by omega)];simp only[];rw[<-Lib.size_eq,<-Lib.size_eq,c,show a.data.toList.isPrefixOf b.data.toList=Lib.occAt b.data.toList a.data.toList 0 from rfl];cases Lib.occAt b.data.toList a.data.toList 0<;>cases Lib.occAt b.data.toList a.data.toList (b.size-a.size)<;>simp
def Ox(a b:UV)(w:xv)(g:a.size<=1000)(i:b.size<=1000)(c:a.size<=b.size):ap fs 118 #[.string a,.string b] w (.i (rB a.data.toList b.data.toList)):=by
 have e96:=e96 L;have f:∀wx,ap fs 96 #[.string b,.i 0,.string a] wx (.bool (Lib.occAt b.data.toList a.data.toList 0)):=λwx=>tu L b a 0 wx (by omega) (by omega) (by omega);have d:∀wx,ap fs 96 #[.string b,.i ((b.size:Int)-a.size),.string a] wx (.bool (Lib.occAt b.data.toList a.data.toList (b.size-a.size))):=λwx=>by rw[show(b.size:Int)-a.size=((b.size-a.size:Nat):Int) by omega];exact tu L b a (b.size-a.size) wx (by omega) (by omega) (by omega)
 go_enter (n118 L),Tryz.ntmps118;go_wp2_with (first|(go_at_call 96;refine(f _).mono ?_;rintro e w' ⟨rfl,rfl⟩)|(go_at_call 96;refine(d _).mono ?_;rintro e w' ⟨rfl,rfl⟩));all_goals
  go_ret;refine⟨?_,rfl⟩;rw[Rn c];first
   |(rw[Wu (by first|(left;omega)|(right;simp_all;done)|(right;simp_all;rcases ‹_\/_› with h|h<;>first|omega|exact h))];rfl)
   |(rw[Wt (by simp_all;try omega)];rfl)
def BJ{a b:UV}(h:b.size<a.size):rB a.data.toList b.data.toList=rB b.data.toList a.data.toList:=by unfold rB;rw[<-Lib.size_eq,<-Lib.size_eq,Wu h,Wt (by omega)]
def U6(a b:UV)(w:xv)(d:a.size<=1000)(f:b.size<=1000):ap fs 118 #[.string a,.string b] w (.i (rB a.data.toList b.data.toList)):=by
 obtain c|hge:=Wx b.size a.size
 .have Rc:=Rc L;have g:=λh=>Ox L b a h f d (by omega);go_enter (n118 L),Tryz.ntmps118;go_wp2_with (go_at_call 118;refine(g _).mono ?_;rintro e w' ⟨rfl,rfl⟩);go_ret;exact⟨by rw[BJ c];rfl,rfl⟩
 exact Ox L a b w d f hge
end Go.Proofs

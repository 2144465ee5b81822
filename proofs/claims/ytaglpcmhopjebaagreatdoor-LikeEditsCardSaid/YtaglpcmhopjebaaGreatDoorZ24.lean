import Derived.Test.YtaglpcmhopjebaaGreatDoorRows
import Derived.LaidMore
import Derived.Lay
import Derived.LaidHandle
import Derived.ProofKit
import Derived.Test.YtaglpcmhopjebaaGreatDoorZ23
set_option linter.all false
set_option maxRecDepth 100000
set_option maxHeartbeats 20000000
namespace Go.Proofs
abbrev Bs:=List UInt8
def aU(c:UInt8):Bool:=decide (97<=(c.toNat:Int))&&decide ((c.toNat:Int)<=122)
def nA(c:UInt8):Bool:=decide (48<=(c.toNat:Int))&&decide ((c.toNat:Int)<=57)
def au(n a b:Int):Bool:=decide (a<=n)&&decide (n<=b)
def bp(s:ByteArray)(a b:Int):Bool:=au s.size a b&&s.data.toList.all aU
def qx(c:UInt8):Bool:=c==10||c==58||c==59||c==44
def dz(s:ByteArray)(a:Int):Bool:=au s.size 1 a&& !s.data.toList.any qx
def gX(s:ByteArray):Bool:=au s.size 1 10&&(s.data.toList.head?.any aU)&&s.data.toList.all λc=>aU c||nA c
def kL{b:Type}(a:List b->b->Int)(seen:List b):List b->Int
 | []=>0
 |x::xs=>if a seen x≠0 then a seen x else kL a (seen++[x]) xs
def bq{a:Type}(c d:Int)(b:List a->a->Int)(l:List a):Int:=if au l.length c d then kL b [] l else 2
def letterF(seen:List Pr2)(p:Pr2):Int:=if !dz p.1 4 then 3 else if seen.any (λq=>decide (q.1=p.1))then 5 else if !bp p.2 1 3 then 3 else 0
def jx(_:List Pr2)(p:Pr2):Int:=if !bp p.1 1 3|| !bp p.2 0 p.1.size then 3 else 0
def mz(seen:List lh)(t:lh):Int:=if !gX t.name then 4 else if seen.any (λq=>decide (q.name=t.name))then 5 else bq 0 5 jx t.aY
def uZ(seen:List ByteArray)(s:ByteArray):Int:=if !bp s 1 48 then 3 else if seen.any (λq=>decide (q=s))then 5 else 0
def su(_:List (List ByteArray))(l:List ByteArray):Int:=bq 2 4 uZ l
def km(t:Table):Int:=
 let a:=bq 0 12 letterF t.aC
 if a≠0 then a else
 let b:=bq 0 3 mz t.aO
 if b≠0 then b else bq 0 4 su t.iB
def codeF(seen:List Int)(n:Int):Int:=if !au n 0 999 then 1 else if seen.getLast?.any (λq=>decide (n<=q))then 7 else 0
def eY(m:Mark):Int:=
 if !gX m.name then 4 else if !m.word.data.toList.isEmpty&& !dz m.word 16 then 3 else
 let f:=bq 0 5 codeF m.aX
 if f≠0 then f else if !au m.day 0 99999 then 1 else 0
def jI(_:List uq)(r:uq):Int:=if !au r.kind 0 5|| !au r.least 1 100|| !au r.plain 0 9|| !au r.known 0 9 then 1 else 0
def Ey(_:List Int)(n:Int):Int:=if !au n 0 9 then 1 else 0
def pO(new:ByteArray)(seen:List Mark)(m:Mark):Int:=
 let f:=eY m
 if f≠0 then f else if decide (new=m.name)||seen.any (λq=>decide (q.name=m.name))then 5 else 0
def pa(c:Case):Int:=
 let a:=km c.table
 if a≠0 then a else
 let b:=bq 0 6 jI c.rules
 if b≠0 then b else
 let d:=eY c.new
 if d≠0 then d else
 let e:=bq 0 8 (pO c.new.name) c.marks
 if e≠0 then e else bq c.marks.length c.marks.length Ey c.kin
def bK(b:List Pr2)(rest:Bs):Option Pr2:=b.foldl (λa p=>if p.1.data.toList.isPrefixOf rest&&decide ((a.elim 0 λq=>q.1.size)<p.1.size)then some p else a) none
def kM(a:List Pr2):Nat->Bs->Bs
 |0,_=>[]
 |_,[]=>[]
 |n+1,c::cs=>
  match bK a (c::cs)with
  |some p=>p.2.data.toList++kM a n ((c::cs).drop p.1.size)
  |none=>(if aU c then[c]else[])++kM a n cs
def aS(a:List Pr2)(w:Bs):Bs:=kM a w.length w
def eQ(a b:Bs):Nat->Bs->Bs
 |0,s=>s
 |_,[]=>[]
 |n+1,c::cs=>if a.isPrefixOf (c::cs)then b++eQ a b n ((c::cs).drop a.length)else c::eQ a b n cs
def cP(p:Pr2)(s:Bs):Bs:=eQ p.1.data.toList p.2.data.toList s.length s
def bI(t:Table)(k:Nat)(w:Bs):Bs:=((t.aO[k]?.map (·.aY)).getD []).foldl (λs r=>cP r s) (aS t.aC w)
def m9:Nat->Bs->Bs->Nat
 |_,[],b=>b.length
 |_,_::a,[]=>a.length+1
 |0,_::_,_::_=>0
 |n+1,x::a,y::b=>if x=y then m9 n a b else 1+min (m9 n a b) (min (m9 n a (y::b)) (m9 n (x::a) b))
def aI(a b:Bs):Nat:=m9 (a.length+b.length) a b
def sx(n b):m9 n [] b=b.length:=by cases n<;>rfl
def pP(n a):m9 n a []=a.length:=by cases n<;>cases a<;>rfl
theorem gu:∀(n m) (a b),a.length+b.length<=n->a.length+b.length<=m->m9 n a b=m9 m a b
 |n,m,[],b,_,_=>by rw[sx,sx]
 |n,m,x::a,[],_,_=>by rw[pP,pP]
 |0,_,x::a,y::b,h,_=>by simp at h
 |n+1,0,x::a,y::b,_,h=>by simp at h
 |n+1,m+1,x::a,y::b,c,d=>by simp only[Rq]at c d;unfold m9;rw[gu n m a b (by omega) (by omega),gu n m a (y::b) (by simp only[Rq];omega) (by simp only[Rq];omega),gu n m (x::a) b (by simp only[Rq];omega) (by simp only[Rq];omega)]
def NT(b):aI [] b=b.length:=sx _ b
def JG(a):aI a []=a.length:=pP _ a
def NU(x y)(a b:Bs):aI (x::a) (y::b)=if x=y then aI a b else 1+min (aI a b) (min (aI a (y::b)) (aI (x::a) b)):=by have e:aI (x::a) (y::b)=m9 ((a.length+b.length+1)+1) (x::a) (y::b):=gu _ _ _ _ (Ro _) (by simp only[Rq];omega);rw[e];unfold m9 aI;rw[gu (a.length+b.length+1) (a.length+b.length) a b (by omega) (Ro _),gu (a.length+b.length+1) (a.length+(y::b).length) a (y::b) (by simp only[Rq];omega) (Ro _),gu (a.length+b.length+1) ((x::a).length+b.length) (x::a) b (by simp only[Rq];omega) (Ro _)]
def dL(a b:Bs):Int:=if a.isEmpty||b.isEmpty then 0 else(100*((max a.length b.length:Nat)-(aI a b:Int)))/(max a.length b.length:Nat)
def ur(a b:Bs):Int:=
 let(x,y):=if a.length>b.length then(b,a)else(a,b)
 if x.length<3|| !x.isPrefixOf y&& !x.isSuffixOf y then 0 else(100*x.length:Int)/(y.length:Int)
def gy(t:Table)(a b:Bs):Int:=if t.iB.any (λl=>l.any (λs=>s.data.toList==a)&&l.any (λs=>s.data.toList==b))||(a==b&& !a.isEmpty)then 100 else 0
def bt(l other:List Int):List Int:=l.filter λn=> !other.contains n
def aN(l:List Int)(n:Int):Nat:=(l.filter λx=>x/100==n).length
def bQ(a b:List Int):Int:=
 if a.isEmpty||b.isEmpty then 0 else
 let x:=bt a b;let y:=bt b a;let c:=((List.range 10).map λ(n:Nat)=>min (aN x n) (aN y n)).sum
 (100*(2*(a.length-x.length)+c:Nat):Int)/(a.length+b.length:Nat)
def bF(t:Table)(kind:Int)(one two:Mark):Int:=
 let a:=aS t.aC one.word.data.toList;let b:=aS t.aC two.word.data.toList
 if kind=0 then dL a b
 else if kind=1 then(List.range t.aO.length).foldl (λc k=>max c (dL (bI t k one.word.data.toList) (bI t k two.word.data.toList))) 0
 else if kind=2 then gy t a b
 else if kind=3 then dL a b.reverse
 else if kind=4 then ur a b
 else bQ one.aX two.aX
structure BK where
 days:Int
 level:Int
 kin:Int
deriving DecidableEq
def lR(c:Case)(m:Mark)(kin:Int)(r:uq):BK:=
 let a:=if m.known then min r.plain r.known else r.plain
 ⟨max 0 (m.day+1-c.new.day),max 0 (r.least-bF c.table r.kind c.new m),max 0 (a-kin)⟩
def eG(c:Case)(m:Mark)(kin:Int):Nat->List uq->Option (Nat×Int)
 |_,[]=>none
 |i,r::a=>if lR c m kin r=⟨0,0,0⟩then some (i,bF c.table r.kind c.new m)else eG c m kin (i+1) a
structure Hit where
 mark:Int
 eo:Int
 level:Int
deriving DecidableEq
def gY(c:Case)(i:Nat):Option Hit:=
 match c.marks[i]?,c.kin[i]? with
 |some m,some k=>(eG c m k 0 c.rules).map λx=>⟨i,x.1,x.2⟩
 |_,_=>none
def gG(c:Case)(i:Int):Int:=(c.marks[i.toNat]?.map (·.day)).getD 0
def aR(c:Case)(a b:Hit):Bool:=
 if a.eo≠b.eo then decide (a.eo<b.eo)else if a.level≠b.level then decide (b.level<a.level)else
 if gG c a.mark≠gG c b.mark then decide (gG c a.mark<gG c b.mark)else decide (a.mark<b.mark)
def eH(c:Case)(h:Hit):List Hit->List Hit
 | []=>[h]
 |x::xs=>if aR c x h then x::eH c h xs else h::x::xs
def bV(c:Case):List Hit:=((List.range c.marks.length).filterMap (gY c)).foldl (λl h=>eH c h l) []
def bT(b):aI [] b=b.length:=NT b
def bU(a):aI a []=a.length:=JG a
def uf(x y)(a b:Bs):aI (x::a) (y::b)=if x=y then aI a b else 1+min (aI a b) (min (aI a (y::b)) (aI (x::a) b)):=NU x y a b
theorem oQ:∀(n) (a b),a.length+b.length<=n->aI a b=aI b a
 |n,[],b,_=>by rw[bT,bU]
 |n,x::a,[],_=>by rw[bT,bU]
 |0,x::a,y::b,h=>by simp at h
 |n+1,x::a,y::b,h=>by
  simp only[Rq]at h;rw[uf,uf,oQ n a b (by omega),oQ n a (y::b) (by simp only[Rq];omega),oQ n (x::a) b (by simp only[Rq];omega)];by_cases e:x=y
  ·subst e;simp
  ·rw[Rm e,Rm (RJ e)];omega
def GZ(a b):aI a b=aI b a:=oQ _ a b (Ro _)
theorem rR:∀(n) (a b) (x),a.length+b.length<=n->aI a b<=aI (x::a) b+1/\aI (x::a) b<=aI a b+1
 |n,a,[],x,_=>by rw[bU,bU];simp only[Rq];omega
 |0,a,y::b,x,h=>by simp only[Rq]at h;omega
 |n+1,a,y::b,x,h=>by
  simp only[Rq]at h;have c:=rR n b a y (by omega);have d:=rR n a b x (by omega);rw[GZ b a,GZ (y::b) a]at c;rw[uf];by_cases e:x=y
  ·rw[Rn e];omega
  ·rw[Rm e];omega
def Rh(a b x):aI a b<=aI (x::a) b+1:=(rR _ a b x (Ro _)).1
def OM(a b:Bs)(x):aI (x::a) b<=aI a b+1:=(rR _ a b x (Ro _)).2
def QF(a b:Bs)(x):aI a (x::b)<=aI a b+1:=by rw[GZ a b,GZ a];exact OM b a x
def kg(a b:Bs)(x):aI (x::a) (x::b)=aI a b:=by rw[uf,Rn rfl]
def tB(a b:Bs)(x y):aI (x::a) (y::b)<=aI a b+1:=by rw[uf];split<;>omega
inductive Al:Nat->Bs->Bs->Prop
 |nil:Al 0 [] []
 |keep {n a b} (x:UInt8):Al n a b->Al n (x::a) (x::b)
 |put {n a b} (y:UInt8):Al n a b->Al (n+1) a (y::b)
 |drop {n a b} (x:UInt8):Al n a b->Al (n+1) (x::a) b
 |swap {n a b} (x y:UInt8):Al n a b->Al (n+1) (x::a) (y::b)
def Al.le{n a b}(h:Al n a b):aI a b<=n:=by
 induction h with
 |nil=>rw[bT];exact Ro _
 |keep x _ c=>rw[kg];exact c
 |put y _ c=>exact Rp (QF _ _ y) (by omega)
 |drop x _ c=>exact Rp (OM _ _ x) (by omega)
 |swap x y _ c=>exact Rp (tB _ _ x y) (by omega)
theorem Al.QG:∀b,Al b.length [] b
 | []=>.nil
 |y::b=>.put y (Al.QG b)
theorem Al.N9:∀a,Al a.length a []
 | []=>.nil
 |x::a=>.drop x (Al.N9 a)
theorem Al.aI:∀(n) (a b),a.length+b.length<=n->Al (aI a b) a b
 |n,[],b,_=>by rw[bT];exact Al.QG b
 |n,x::a,[],_=>by rw[bU];exact Al.N9 (x::a)
 |0,x::a,y::b,h=>by simp at h
 |n+1,x::a,y::b,h=>by
  simp only[Rq]at h;rw[uf];by_cases e:x=y
  ·subst e
   rw[Rn rfl];exact .keep x (Al.aI n a b (by omega))
  ·rw[Rm e]
   have c:=Al.aI n a b (by omega);have d:=Al.aI n a (y::b) (by simp only[Rq];omega);have f:=Al.aI n (x::a) b (by simp only[Rq];omega);rcases Ur (Go.Proofs.aI a b) (min (Go.Proofs.aI a (y::b)) (Go.Proofs.aI (x::a) b))with h|h
   ·rw[Uo h,Ts];exact .swap x y c
   ·rw[Nat.min_eq_right h]
    rcases Ur (Go.Proofs.aI a (y::b)) (Go.Proofs.aI (x::a) b)with h|h
    ·rw[Uo h,Ts];exact .drop x d
    ·rw[Nat.min_eq_right h,Ts];exact .put y f
def Al.qu{m}{x':Bs}(P:Nat->Bs->Prop){n b c}(h:Al n b c)(y)(d:Bs)(a:b=y::d)
 (e:∀n c',Al n d c'->∃k,k<=m+n/\P k (y::c')) (f:∀n c',Al n d c'->∃k,k<=m+n+1/\P k c') (g:∀n c' z,Al n d c'->∃k,k<=m+n+1/\P k (z::c')) (i:∀k c' z,P k c'->P (k+1) (z::c')):
 ∃k,k<=m+n/\P k c:=by
 induction h with
 |nil=>cases a
 |keep x h _=>injection a with h1 h2;subst h1 h2;exact e _ _ h
 |put z h j=>obtain⟨k,h1,h2⟩:=j a;exact⟨k+1,by omega,i _ _ _ h2⟩
 |drop x h _=>injection a with h1 h2;subst h1 h2;exact f _ _ h
 |swap x z h _=>injection a with h1 h2;subst h1 h2;exact g _ _ _ h
def Al.comp{m a b}(h:Al m a b):∀{n} {c},Al n b c->∃k,k<=m+n/\Al k a c:=by
 induction h with
 |nil=>exactλh=>⟨_,by omega,h⟩
 |drop x _ e=>intro n c h;obtain⟨k,f,d⟩:=e h;exact⟨k+1,by omega,.drop x d⟩
 | @keep m a b x _ e=>
  intro n c h;exact Al.qu (m:=m) (x':=a) (λk c=>Al k (x::a) c) h x b rfl (λn c' h=>by obtain⟨k,f,d⟩:=e h;exact⟨k,f,.keep x d⟩)
   (λn c' h=>by obtain⟨k,f,d⟩:=e h;exact⟨k+1,by omega,.drop x d⟩) (λn c' z h=>by obtain⟨k,f,d⟩:=e h;exact⟨k+1,by omega,.swap x z d⟩) (λk c' z h=>.put z h)
 | @put m a b y _ e=>
  intro n c h;exact Al.qu (m:=m+1) (x':=a) (λk c=>Al k a c) h y b rfl (λn c' h=>by obtain⟨k,f,d⟩:=e h;exact⟨k+1,by omega,.put y d⟩)
   (λn c' h=>by obtain⟨k,f,d⟩:=e h;exact⟨k,by omega,d⟩) (λn c' z h=>by obtain⟨k,f,d⟩:=e h;exact⟨k+1,by omega,.put z d⟩) (λk c' z h=>.put z h)
 | @swap m a b x y _ e=>
  intro n c h;exact Al.qu (m:=m+1) (x':=a) (λk c=>Al k (x::a) c) h y b rfl (λn c' h=>by obtain⟨k,f,d⟩:=e h;exact⟨k+1,by omega,.swap x y d⟩)
   (λn c' h=>by obtain⟨k,f,d⟩:=e h;exact⟨k+1,by omega,.drop x d⟩) (λn c' z h=>by obtain⟨k,f,d⟩:=e h;exact⟨k+1,by omega,.swap x z d⟩) (λk c' z h=>.put z h)
theorem ow:∀(a b),aI a b<=max a.length b.length
 | [],b=>by rw[bT];simp
 |x::a,[]=>by rw[bU];simp
 |x::a,y::b=>by have h:=tB a b x y;have k:=ow a b;simp only[Rq];omega
theorem zM:∀a,aI a a=0
 | []=>by rw[bT];rfl
 |x::a=>by rw[kg];exact zM a
theorem mY:∀(a b),aI a b=0->a=b
 | [],b,h=>by rw[bT]at h;exact(Ta.1 h).symm
 |x::a,[],h=>by rw[bU]at h;simp at h
 |x::a,y::b,h=>by
  rw[uf]at h;by_cases e:x=y
  ·rw[Rn e]at h
   rw[e,mY a b h]
  ·rw[Rm e]at h;omega
abbrev Ed:=Int×Int×Int
def codeOf(c:UInt8):Int:=(c.toNat:Int)
def ON{x y}(h:codeOf x=codeOf y):x=y:=by unfold codeOf at h;exact T4.1 (by omega)
def aP(i:Nat):Bs->Bs->List Ed
 | [],[]=>[]
 | [],y::b=>((i:Int),0,codeOf y)::aP i [] b
 |x::a,[]=>((i:Int),1,0)::aP (i+1) a []
 |x::a,y::b=>
  if aI (x::a) (y::b)=0 then[]
  else if aI (x::a) b+1=aI (x::a) (y::b)then((i:Int),0,codeOf y)::aP i (x::a) b
  else if aI a (y::b)+1=aI (x::a) (y::b)then((i:Int),1,0)::aP (i+1) a (y::b)
  else if x≠y then((i:Int),2,codeOf y)::aP (i+1) a b
  else aP (i+1) a b
termination_by a b=>a.length+b.length
inductive Run:Nat->Bs->List Ed->Bs->Prop
 |nil {i:Nat} {a:Bs}:Run i a [] a
 |keep {i:Nat} {a:Bs} {l:List Ed} {b:Bs} {e:Ed} (x:UInt8):(i:Int)<e.1->Run (i+1) a (e::l) b->Run i (x::a) (e::l) (x::b)
 |put {i:Nat} {a:Bs} {l:List Ed} {b:Bs} (y:UInt8):aU y=true->Run i a l b->Run i a (((i:Int),0,codeOf y)::l) (y::b)
 |drop {i:Nat} {a:Bs} {l:List Ed} {b:Bs} (x:UInt8):Run (i+1) a l b->Run i (x::a) (((i:Int),1,0)::l) b
 |swap {i:Nat} {a:Bs} {l:List Ed} {b:Bs} (x y:UInt8):aU y=true->Run (i+1) a l b->Run i (x::a) (((i:Int),2,codeOf y)::l) (y::b)
theorem Al.refl:∀a,Al 0 a a
 | []=>.nil
 |x::a=>.keep x (Al.refl a)
def Run.al{i a l b}(h:Run i a l b):Al l.length a b:=by
 induction h with
 |nil=>exact Al.refl _
 |keep x _ _ c=>exact .keep x c
 |put y _ _ c=>exact .put y c
 |drop x _ c=>exact .drop x c
 |swap x y _ _ c=>exact .swap x y c
def Run.le{i a l b}(h:Run i a l b):aI a b<=l.length:=h.al.le
def Run.aC{i a l b}(h:Run i a l b):a.all aU=true->b.all aU=true:=by
 induction h with
 |nil=>exact id
 |keep x _ _ c=>intro h;simp only[Tc,RD]at h⊢;exact⟨h.1,c h.2⟩
 |put y d _ c=>intro h;simp only[Tc,RD];exact⟨d,c h⟩
 |drop x _ c=>intro h;simp only[Tc,RD]at h;exact c h.2
 |swap x y d _ c=>intro h;simp only[Tc,RD]at h⊢;exact⟨d,c h.2⟩
def Run.later{i a e l b}(h:Run i a (e::l) b):(i:Int)<=e.1:=by
 cases h with
 |keep x h _=>omega
 |put=>exact TA _
 |drop=>exact TA _
 |swap=>exact TA _
def tC(i a):aP i a a=[]:=by
 cases a with
 |nil=>rw[aP]
 |cons x a=>rw[aP,Rn (zM _)]
theorem kh:∀(n) (i) (a b),a.length+b.length<=n->b.all aU=true->Run i a (aP i a b) b/\(aP i a b).length=aI a b
 |n,i,[],[],_,_=>by rw[aP];exact⟨.nil,by rw[bT];rfl⟩
 |0,i,[],y::b,h,_=>by simp at h
 |n+1,i,[],y::b,h,c=>by simp only[Tc,RD]at c;simp only[Rq,RE]at h;obtain⟨d,f⟩:=kh n i [] b (by simp only[RE];omega) c.2;rw[aP];exact⟨.put y c.1 d,by rw[Rq,f,bT,bT];rfl⟩
 |0,i,x::a,b,h,_=>by simp at h
 |n+1,i,x::a,[],h,c=>by simp only[Rq,RE]at h;obtain⟨d,f⟩:=kh n (i+1) a [] (by simp only[RE];omega) c;rw[aP];exact⟨.drop x d,by rw[Rq,f,bU,bU];rfl⟩
 |n+1,i,x::a,y::b,h,c=>by
  have m:=c;simp only[Tc,RD]at c;simp only[Rq]at h;rw[aP];by_cases k:aI (x::a) (y::b)=0
  ·rw[Rn k,k,mY _ _ k]
   exact⟨.nil,rfl⟩
  ·rw[Rm k]
   by_cases d:aI (x::a) b+1=aI (x::a) (y::b)
   ·obtain⟨g,j⟩:=kh n i (x::a) b (by simp only[Rq];omega) c.2
    rw[Rn d];exact⟨.put y c.1 g,by rw[Rq,j,d]⟩
   ·rw[Rm d]
    by_cases f:aI a (y::b)+1=aI (x::a) (y::b)
    ·obtain⟨g,j⟩:=kh n (i+1) a (y::b) (by simp only[Rq];omega) m
     rw[Rn f];exact⟨.drop x g,by rw[Rq,j,f]⟩
    ·rw[Rm f]
     obtain⟨g,j⟩:=kh n (i+1) a b (by omega) c.2;by_cases o:x=y
     ·subst o
      rw[Rm (λh=>h rfl),kg];rw[kg]at k;refine⟨?_,j⟩;cases p:aP (i+1) a b with
      |nil=>rw[p]at j;exact absurd j.symm k
      |cons e l=>rw[p]at g;exact .keep x (by have:=g.later;omega) g
     ·rw[Rn o]
      refine⟨.swap x y c.1 g,?_⟩;rw[Rq,j];rw[uf,Rm o]at d f⊢;have k1:=Rh a (y::b) x;omega
def fB:List Ed->List Ed->Bool
 | [],[]=>false
 | [],_::_=>true
 |_::_,[]=>false
 |x::a,y::b=>if x.1≠y.1 then decide (x.1<y.1)else if x.2.1≠y.2.1 then decide (x.2.1<y.2.1)else if x.2.2≠y.2.2 then decide (x.2.2<y.2.2)else fB a b
def iv(x a b):fB (x::a) (x::b)=fB a b:=by rw[fB];simp
theorem fC:∀(n) (i) (a b) (l),a.length+b.length<=n->Run i a l b->l.length=aI a b->fB l (aP i a b)=false
 |n,i,a,b,[],_,h,c=>by cases h;rw[tC];rfl
 |n,i,[],b,e::l,g,h,c=>by
  cases h with
  | @put _ _ _ p y m h=>simp only[Rq,RE]at g;rw[aP,iv];refine fC (n-1) i [] p l (by simp only[RE];omega) h ?_;rw[bT]at c⊢;simpa using c
 |n,i,x::a,[],e::l,g,h,c=>by
  simp only[Rq,RE]at g;cases h with
  |drop _ h=>rw[aP,iv];refine fC (n-1) (i+1) a [] l (by simp only[RE];omega) h ?_;rw[bU]at c⊢;simpa using c
 |n,i,x::a,y::b,e::l,g,h,c=>by
  simp only[Rq]at g c;have q:aI (x::a) (y::b)≠0:=by omega
  rw[aP,Rm q];cases h with
  |keep _ r h=>
   have d:=h.le;simp only[Rq]at d;rw[kg]at c;by_cases f:aI (x::a) b+1=aI (x::a) (x::b)
   ·rw[Rn f]
    unfold fB;rw[Rn (by show e.1≠(i:Int);omega)];exact Rr (by show ¬e.1<(i:Int);omega)
   ·rw[Rm f]
    by_cases j:aI a (x::b)+1=aI (x::a) (x::b)
    ·rw[Rn j]
     unfold fB;rw[Rn (by show e.1≠(i:Int);omega)];exact Rr (by show ¬e.1<(i:Int);omega)
    ·rw[Rm j,Rm (λh=>h rfl)]
     exact fC (n-1) (i+1) a b (e::l) (by omega) h (by simpa using c)
  |put _ m h=>have d:=h.le;have k:=QF (x::a) b y;rw[Rn (by omega),iv];exact fC (n-1) i (x::a) b l (by simp only[Rq];omega) h (by omega)
  |drop _ h=>
   have d:=h.le;have k:=OM a (y::b) x;by_cases f:aI (x::a) b+1=aI (x::a) (y::b)
   ·rw[Rn f]
    unfold fB;rw[Rm (λh=>h rfl),Rn (by show(1:Int)≠0;decide)];rfl
   ·rw[Rm f,Rn (by omega),iv]
    exact fC (n-1) (i+1) a (y::b) l (by simp only[Rq];omega) h (by omega)
  |swap _ _ m h=>
   have d:=h.le;by_cases f:aI (x::a) b+1=aI (x::a) (y::b)
   ·rw[Rn f]
    unfold fB;rw[Rm (λh=>h rfl),Rn (by show(2:Int)≠0;decide)];rfl
   ·rw[Rm f]
    by_cases j:aI a (y::b)+1=aI (x::a) (y::b)
    ·rw[Rn j]
     unfold fB;rw[Rm (λh=>h rfl),Rn (by show(2:Int)≠1;decide)];rfl
    ·rw[Rm j]
     by_cases o:x=y
     ·subst o
      rw[kg]at c;omega
     ·rw[Rn o,iv]
      exact fC (n-1) (i+1) a b l (by omega) h (by have:=tB a b x y;omega)
def iE(n:Nat)(seen:List Ed)(e:Ed):Int:=
 if !au e.2.1 0 2 then 1 else
 if !au e.1 0 (if e.2.1=0 then(n:Int)else n-1)then 6 else
 if(e.2.1=1&&e.2.2≠0)||(e.2.1≠1&& !au e.2.2 97 122)then 3 else
 if seen.getLast?.any (λq=>decide (e.1<q.1)||(decide (e.1=q.1)&&decide (q.2.1≠0)))then 7 else 0
def et(n:Nat)(l:List Ed):Int:=bq 0 96 (iE n) l
def byteOf(n:Int):UInt8:=UInt8.ofNat n.toNat
def db(a:Bs):Nat->List Ed->Bs
 |i,[]=>a.drop i
 |i,e::l=>(a.take e.1.toNat).drop i++(if e.2.1=1 then[]else[byteOf e.2.2])++db a (if e.2.1=0 then e.1.toNat else e.1.toNat+1) l
def iT(seen:List Ed):Int:=(seen.getLast?.map λq=>if q.2.1=0 then q.1 else q.1+1).getD 0
def jv(seen e):iT (seen++[e])=if e.2.1=0 then e.1 else e.1+1:=by simp[iT]
def Bh(n:Nat)(at_:Int)(e:Ed):Prop:=((e.2.1=0/\e.1<=n)\/(e.2.1=1/\e.1<n)\/(e.2.1=2/\e.1<n))/\at_<=e.1/\0<=e.1/\(if e.2.1=1 then e.2.2=0 else 97<=e.2.2/\e.2.2<=122)
def D8(n seen e)(h:iE n seen e=0):Bh n (iT seen) e:=by
 unfold iE at h;unfold au at h;obtain⟨p,k,c⟩:=e;simp only[]at h;by_cases f:(0<=k/\k<=2)
 ·simp only[f.1,f.2,decide_true,Bool.and_self,Tk]at h
  have b:k=0\/k=1\/k=2:=by omega
  have a:∀q:Ed,seen.getLast?=some q->¬(p<q.1\/(p=q.1/\q.2.1≠0))->iT seen<=p:=by
   intro q i j;unfold iT;rw[i];simp only[Sk,Td];split<;>rename_i l
   ·omega
   ·have:¬p=q.1:=λe=>j (Or.inr ⟨e,l⟩)
    omega
  cases d:seen.getLast? with
  |none=>
   have m:iT seen=0:=by unfold iT;rw[d];rfl
   rw[d]at h;rcases b with rfl|rfl|rfl<;>simp at h<;>(unfold Bh;simp only[];rw[m];simp;omega)
  |some q=>rw[d]at h;have a:=a q d;rcases b with rfl|rfl|rfl<;>simp at h<;>(have o:=a (by rintro(g|⟨g,g'⟩)<;>omega);unfold Bh;simp only[];simp;omega)
 ·exfalso
  have:(decide (0<=k)&&decide (k<=2))=false:=by rw[Vd,TJ,TJ];omega
  rw[this]at h;simp at h
def xi(n seen e)(h:Bh n (iT seen) e):iE n seen e=0:=by
 obtain⟨p,k,c⟩:=e;unfold Bh at h;simp only[]at h;obtain⟨b,d,j,f⟩:=h;have a:seen.getLast?.any (λq=>decide (p<q.1)||(decide (p=q.1)&&decide (q.2.1≠0)))=false:=by
  cases g:seen.getLast? with
  |none=>rfl
  |some q=>
   unfold iT at d;rw[g]at d;simp only[Sk,Td]at d;simp only[Vb,Bool.or_eq_false_iff,Vd,TJ];split at d<;>rename_i i
   ·exact⟨by omega,Or.inr (λh=>h i)⟩
   ·exact⟨by omega,Or.inl (by omega)⟩
 unfold iE au;simp only[];rw[a];rcases b with⟨rfl,b⟩|⟨rfl,b⟩|⟨rfl,b⟩<;>simp at f⊢<;>omega
def pK(c):byteOf (codeOf c)=c:=by unfold byteOf codeOf;rw[UP];exact UInt8.ofNat_toNat
def fW(n)(a:0<=n)(b:n<256):codeOf (byteOf n)=n:=by unfold byteOf codeOf;rw[UInt8.toNat_ofNat'];omega
def rS(n)(a:97<=n)(b:n<=122):aU (byteOf n)=true:=by have h:=fW n (by omega) (by omega);unfold codeOf at h;unfold aU;rw[h];simp[a,b]
def xj{c}(h:aU c=true):97<=codeOf c/\codeOf c<=122:=by unfold aU at h;simpa[codeOf]using h
theorem oR{e l}{b a:Bs}{p:Nat}(d:e.1=(p:Int))(f:p<=a.length)(h:Run p (a.drop p) (e::l) b):∀(k i),i+k=p->Run i (a.drop i) (e::l) ((a.take p).drop i++b)
 |0,i,g=>by
  obtain rfl:i=p:=by omega
  have e:(a.take i).drop i=[]:=RR (by rw[R5];omega);rw[e,Tb];exact h
 |k+1,i,g=>by
  have j:i<a.length:=by omega
  have c:i<(a.take p).length:=by rw[R5];omega
  rw[SD j,SD c,List.getElem_take,TQ];exact .keep _ (by omega) (oR d f h k (i+1) (by omega))
def xk{c}(a seen x)(xs:List c)(h:kL a seen (x::xs)=0):a seen x=0/\kL a (seen++[x]) xs=0:=by
 unfold kL at h;by_cases b:a seen x=0
 ·rw[Rm (λh=>h b)]at h
  exact⟨b,h⟩
 ·rw[Rn b]at h
  exact absurd h b
def lK{b}(a seen x)(xs:List b)(c:a seen x=0)(d:kL a (seen++[x]) xs=0):kL a seen (x::xs)=0:=by unfold kL;rw[Rm (λh=>h c)];exact d
theorem Bi:∀(l) (a) (i:Nat) (seen),iT seen=i->i<=a.length->kL (iE a.length) seen l=0->Run i (a.drop i) l (db a i l)
 | [],a,i,seen,_,_,_=>by rw[db];exact .nil
 |e::l,a,i,seen,r,u,h=>by
  obtain⟨s,o⟩:=xk _ _ _ _ h;have d:=D8 _ _ _ s;obtain⟨p,k,c⟩:=e;unfold Bh at d;simp only[]at d;rw[r]at d;obtain⟨n,v,w,f⟩:=d;have b:=jv seen (p,k,c);obtain⟨q,t⟩:∃q:Nat,p=q:=⟨p.toNat,by omega⟩
  subst t;simp only[]at b;have g:(q:Int).toNat=q:=rfl;obtain⟨rfl,n⟩|⟨rfl,n⟩|⟨rfl,n⟩:=n
  ·rw[Rn rfl]at b
   rw[Rm (by decide)]at f;have j:=Bi l a q _ b (by omega) o;have m:Run q (a.drop q) (((q:Int),0,c)::l) (byteOf c::db a q l):=by have h:=Run.put (i:=q) (byteOf c) (rS c f.1 f.2) j;rw[fW c (by omega) (by omega)]at h;exact h
   have h:=oR (p:=q) rfl (by omega) m (q-i) i (by omega);rw[db];simp only[g,R4];exact h
  ·rw[Rm (by decide)]at b
   rw[Rn rfl]at f;subst f;have j:=Bi l a (q+1) _ (by rw[b];rfl) (by omega) o;have m:Run q (a.drop q) (((q:Int),1,0)::l) (db a (q+1) l):=by rw[SD (by omega)];exact .drop _ j
   have h:=oR (p:=q) rfl (by omega) m (q-i) i (by omega);rw[db];simp only[g,R4];exact h
  ·rw[Rm (by decide)]at b
   rw[Rm (by decide)]at f;have j:=Bi l a (q+1) _ (by rw[b];rfl) (by omega) o;have m:Run q (a.drop q) (((q:Int),2,c)::l) (byteOf c::db a (q+1) l):=by rw[SD (by omega)];have h:=Run.swap (i:=q) (a[q]'(by omega)) (byteOf c) (rS c f.1 f.2) j;rw[fW c (by omega) (by omega)]at h;exact h
   have h:=oR (p:=q) rfl (by omega) m (q-i) i (by omega);rw[db];simp only[g,R4];exact h
def xm(a:Bs)(i i0)(h:i0<=i)(b:i<=a.length):(a.take i).drop i0++a.drop i=a.drop i0:=by
 conv=>rhs;rw[<-List.take_append_drop i a]
 rw[U8 (by rw[R5];omega)]
def drop_take_self(a:Bs)(i):(a.take i).drop i=[]:=RR (by rw[R5];omega)
def QH{n i:Nat}{t c:Int}(b:i<=n)(a:t<=i)(h:97<=c/\c<=122):Bh n t ((i:Int),0,c):=by refine⟨Or.inl ⟨rfl,by show(i:Int)<=n;omega⟩,a,by show(0:Int)<=i;omega,?_⟩;rw[Rm (by show ¬(0:Int)=1;decide)];exact h
def QI{n i:Nat}{t:Int}(b:i<n)(a:t<=i):Bh n t ((i:Int),1,0):=by refine⟨Or.inr (Or.inl ⟨rfl,by show(i:Int)<n;omega⟩),a,by show(0:Int)<=i;omega,?_⟩;rw[Rn rfl]
def QJ{n i:Nat}{t c:Int}(b:i<n)(a:t<=i)(h:97<=c/\c<=122):Bh n t ((i:Int),2,c):=by refine⟨Or.inr (Or.inr ⟨rfl,by show(i:Int)<n;omega⟩),a,by show(0:Int)<=i;omega,?_⟩;rw[Rm (by show ¬(2:Int)=1;decide)];exact h
def of_run{i r l b}(h:Run i r l b):∀(a) (seen) (f),r=a.drop i->i<=a.length->iT seen<=i->f<=i->kL (iE a.length) seen l=0/\db a f l=(a.take i).drop f++b:=by
 induction h with
 |nil=>intro a seen f c k m o;subst c;refine⟨by unfold kL;rfl,?_⟩;rw[db,xm a _ f o k]
 | @keep i r l b e x q h n=>
  intro a seen f c k m o;have d:i<a.length:=by
   obtain h|h:=Rv i a.length
   ·exact h
   ·rw[RR h]at c;cases c
  rw[SD d]at c;injection c with hx c;obtain⟨k1,j⟩:=n a seen f c (by omega) (by omega) (by omega);refine⟨k1,?_⟩;rw[j,Tn d,U8 (by rw[R5];omega),hx,R4];rfl
 | @put i r l b y p h n=>intro a seen f c k m o;have g:=jv seen ((i:Int),0,codeOf y);obtain⟨k1,j⟩:=n a (seen++[((i:Int),0,codeOf y)]) i c k (by rw[g];exact TA _) (Ro _);refine⟨lK _ _ _ _ (xi _ _ _ (QH k m (xj p))) k1,?_⟩;rw[drop_take_self,Tb]at j;rw[db];show(a.take i).drop f++[byteOf (codeOf y)]++db a i l=_;rw[pK,j,R4];rfl
 | @drop i r l b x h n=>
  intro a seen f c k m o;have d:i<a.length:=by
   obtain h|h:=Rv i a.length
   ·exact h
   ·rw[RR h]at c;cases c
  rw[SD d]at c;injection c with hx c;have g:=jv seen ((i:Int),1,0);obtain⟨k1,j⟩:=n a (seen++[((i:Int),1,0)]) (i+1) c (by omega) (by rw[g];exact TA _) (Ro _);refine⟨lK _ _ _ _ (xi _ _ _ (QI d m)) k1,?_⟩;rw[drop_take_self,Tb]at j;rw[db];show(a.take i).drop f++[]++db a (i+1) l=_;rw[j,S9]
 | @swap i r l b x y p h n=>
  intro a seen f c k m o;have d:i<a.length:=by
   obtain h|h:=Rv i a.length
   ·exact h
   ·rw[RR h]at c;cases c
  rw[SD d]at c;injection c with hx c;have g:=jv seen ((i:Int),2,codeOf y);obtain⟨k1,j⟩:=n a (seen++[((i:Int),2,codeOf y)]) (i+1) c (by omega) (by rw[g];exact TA _) (Ro _);refine⟨lK _ _ _ _ (xi _ _ _ (QJ d m (xj p))) k1,?_⟩;rw[drop_take_self,Tb]at j;rw[db];show(a.take i).drop f++[byteOf (codeOf y)]++db a (i+1) l=_;rw[pK,j,R4];rfl
def D9{a l}(h:et a.length l=0):Run 0 a l (db a 0 l)/\l.length<=96:=by
 unfold et bq at h;split at h
 ·rename_i b
  unfold au at b;simp only[RD,RI]at b;exact⟨by have:=Bi l a 0 [] rfl (Rz _) h;simpa using this,by omega⟩
 ·cases h
def Oa{a b l}(h:Run 0 a l b)(e:l.length<=96):et a.length l=0/\db a 0 l=b:=by obtain⟨c,d⟩:=of_run h a [] 0 (by simp) (Rz _) (by simp[iT]) (Ro _);refine⟨?_,by simpa using d⟩;unfold et bq au;rw[Rn (by simp;omega)];exact c
def eP(a b:Bs):List Ed:=aP 0 a b
def pL(a b)(c:b.all aU=true):(eP a b).length=aI a b:=(kh _ 0 a b (Ro _) c).2
def least{a b l}(h:et a.length l=0)(c:db a 0 l=b)(d:l.length=aI a b):fB l (eP a b)=false:=by have h:=(D9 h).1;rw[c]at h;exact fC _ 0 a b l (Ro _) h d
def own:ownKnob Tryz.prog.godebug=none:=by kernel_rfl
noncomputable def NN(os:Os):World:=(World.doorLaid Tryz.prog 50 os).layVars Tryz.prog [("unicode/utf8.first",Go.Pinned.utf8First)]
def NO(os:Os):(NN os).os=os:=World.layVars_os _ _ _
def Es(os:Os)(args:Array Value):((NN os).forCall (λ_ _=>0) ⟨#[],args,[]⟩).Shaped Tryz.prog:=World.shaped_of_ZipB (by kernel_rfl) (by kernel_rfl)
def Jx(os:Os)(args:Array Value):laidMetH Tryz.prog YtaglpcmhopjebaaGreatDoor.Rows.likeEditsRow.laid ((NN os).forCall (λ_ _=>0) ⟨#[],args,[]⟩).memory:=laidMetH_of_parts3 (fuel:=8) (laidMet_of_run' 8 (by kernel_rfl) (by kernel_rfl)) (by kernel_rfl) (by kernel_rfl)
end Go.Proofs

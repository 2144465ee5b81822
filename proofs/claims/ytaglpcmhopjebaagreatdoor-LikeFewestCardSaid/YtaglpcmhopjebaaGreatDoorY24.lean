import Derived.Test.YtaglpcmhopjebaaGreatDoorRows
import Derived.LaidMore
import Derived.Lay
import Derived.LaidHandle
import Derived.ProofKit
import Derived.Lib.IndexBytes
import Derived.Test.YtaglpcmhopjebaaGreatDoorY23
set_option linter.all false
set_option maxRecDepth 100000
set_option maxHeartbeats 20000000
namespace Go.Proofs
abbrev Bs:=List UInt8
def aX(c:UInt8):Bool:=decide (97<=(c.toNat:Int))&&decide ((c.toNat:Int)<=122)
def nw(c:UInt8):Bool:=decide (48<=(c.toNat:Int))&&decide ((c.toNat:Int)<=57)
def au(n a b:Int):Bool:=decide (a<=n)&&decide (n<=b)
def bR(s:ByteArray)(a b:Int):Bool:=au s.size a b&&s.data.toList.all aX
def qq(c:UInt8):Bool:=c==10||c==58||c==59||c==44
def dq(s:ByteArray)(a:Int):Bool:=au s.size 1 a&& !s.data.toList.any qq
def gS(s:ByteArray):Bool:=au s.size 1 10&&(s.data.toList.head?.any aX)&&s.data.toList.all λc=>aX c||nw c
def kH{b:Type}(a:List b->b->Int)(seen:List b):List b->Int
 | []=>0
 |x::xs=>if a seen x≠0 then a seen x else kH a (seen++[x]) xs
def bp{a:Type}(c d:Int)(b:List a->a->Int)(l:List a):Int:=if au l.length c d then kH b [] l else 2
def letterF(seen:List Pr2)(p:Pr2):Int:=if !dq p.1 4 then 3 else if seen.any (λq=>decide (q.1=p.1))then 5 else if !bR p.2 1 3 then 3 else 0
def ju(_:List Pr2)(p:Pr2):Int:=if !bR p.1 1 3|| !bR p.2 0 p.1.size then 3 else 0
def mr(seen:List kY)(t:kY):Int:=if !gS t.name then 4 else if seen.any (λq=>decide (q.name=t.name))then 5 else bp 0 5 ju t.aY
def uU(seen:List ByteArray)(s:ByteArray):Int:=if !bR s 1 48 then 3 else if seen.any (λq=>decide (q=s))then 5 else 0
def sj(_:List (List ByteArray))(l:List ByteArray):Int:=bp 2 4 uU l
def kg(t:Table):Int:=
 let a:=bp 0 12 letterF t.aC
 if a≠0 then a else
 let b:=bp 0 3 mr t.aO
 if b≠0 then b else bp 0 4 sj t.iy
def codeF(seen:List Int)(n:Int):Int:=if !au n 0 999 then 1 else if seen.getLast?.any (λq=>decide (n<=q))then 7 else 0
def eT(m:Mark):Int:=
 if !gS m.name then 4 else if !m.word.data.toList.isEmpty&& !dq m.word 16 then 3 else
 let f:=bp 0 5 codeF m.aW
 if f≠0 then f else if !au m.day 0 99999 then 1 else 0
def jF(_:List ug)(r:ug):Int:=if !au r.kind 0 5|| !au r.least 1 100|| !au r.plain 0 9|| !au r.known 0 9 then 1 else 0
def Eo(_:List Int)(n:Int):Int:=if !au n 0 9 then 1 else 0
def pK(new:ByteArray)(seen:List Mark)(m:Mark):Int:=
 let f:=eT m
 if f≠0 then f else if decide (new=m.name)||seen.any (λq=>decide (q.name=m.name))then 5 else 0
def o7(c:Case):Int:=
 let a:=kg c.table
 if a≠0 then a else
 let b:=bp 0 6 jF c.rules
 if b≠0 then b else
 let d:=eT c.new
 if d≠0 then d else
 let e:=bp 0 8 (pK c.new.name) c.marks
 if e≠0 then e else bp c.marks.length c.marks.length Eo c.kin
def bI(b:List Pr2)(rest:Bs):Option Pr2:=b.foldl (λa p=>if p.1.data.toList.isPrefixOf rest&&decide ((a.elim 0 λq=>q.1.size)<p.1.size)then some p else a) none
def kI(a:List Pr2):Nat->Bs->Bs
 |0,_=>[]
 |_,[]=>[]
 |n+1,c::cs=>
  match bI a (c::cs)with
  |some p=>p.2.data.toList++kI a n ((c::cs).drop p.1.size)
  |none=>(if aX c then[c]else[])++kI a n cs
def aR(a:List Pr2)(w:Bs):Bs:=kI a w.length w
def eJ(a b:Bs):Nat->Bs->Bs
 |0,s=>s
 |_,[]=>[]
 |n+1,c::cs=>if a.isPrefixOf (c::cs)then b++eJ a b n ((c::cs).drop a.length)else c::eJ a b n cs
def cQ(p:Pr2)(s:Bs):Bs:=eJ p.1.data.toList p.2.data.toList s.length s
def bH(t:Table)(k:Nat)(w:Bs):Bs:=((t.aO[k]?.map (·.aY)).getD []).foldl (λs r=>cQ r s) (aR t.aC w)
def m7:Nat->Bs->Bs->Nat
 |_,[],b=>b.length
 |_,_::a,[]=>a.length+1
 |0,_::_,_::_=>0
 |n+1,x::a,y::b=>if x=y then m7 n a b else 1+min (m7 n a b) (min (m7 n a (y::b)) (m7 n (x::a) b))
def aJ(a b:Bs):Nat:=m7 (a.length+b.length) a b
def sk(n b):m7 n [] b=b.length:=by cases n<;>rfl
def pL(n a):m7 n a []=a.length:=by cases n<;>cases a<;>rfl
theorem gn:∀(n m) (a b),a.length+b.length<=n->a.length+b.length<=m->m7 n a b=m7 m a b
 |n,m,[],b,_,_=>by rw[sk,sk]
 |n,m,x::a,[],_,_=>by rw[pL,pL]
 |0,_,x::a,y::b,h,_=>by simp at h
 |n+1,0,x::a,y::b,_,h=>by simp at h
 |n+1,m+1,x::a,y::b,c,d=>by simp only[Rs]at c d;unfold m7;rw[gn n m a b (by omega) (by omega),gn n m a (y::b) (by simp only[Rs];omega) (by simp only[Rs];omega),gn n m (x::a) b (by simp only[Rs];omega) (by simp only[Rs];omega)]
def NT(b):aJ [] b=b.length:=sk _ b
def JG(a):aJ a []=a.length:=pL _ a
def NU(x y)(a b:Bs):aJ (x::a) (y::b)=if x=y then aJ a b else 1+min (aJ a b) (min (aJ a (y::b)) (aJ (x::a) b)):=by have e:aJ (x::a) (y::b)=m7 ((a.length+b.length+1)+1) (x::a) (y::b):=gn _ _ _ _ (Rq _) (by simp only[Rs];omega);rw[e];unfold m7 aJ;rw[gn (a.length+b.length+1) (a.length+b.length) a b (by omega) (Rq _),gn (a.length+b.length+1) (a.length+(y::b).length) a (y::b) (by simp only[Rs];omega) (Rq _),gn (a.length+b.length+1) ((x::a).length+b.length) (x::a) b (by simp only[Rs];omega) (Rq _)]
def dF(a b:Bs):Int:=if a.isEmpty||b.isEmpty then 0 else(100*((max a.length b.length:Nat)-(aJ a b:Int)))/(max a.length b.length:Nat)
def uh(a b:Bs):Int:=
 let(x,y):=if a.length>b.length then(b,a)else(a,b)
 if x.length<3|| !x.isPrefixOf y&& !x.isSuffixOf y then 0 else(100*x.length:Int)/(y.length:Int)
def gp(t:Table)(a b:Bs):Int:=if t.iy.any (λl=>l.any (λs=>s.data.toList==a)&&l.any (λs=>s.data.toList==b))||(a==b&& !a.isEmpty)then 100 else 0
def bn(l other:List Int):List Int:=l.filter λn=> !other.contains n
def aN(l:List Int)(n:Int):Nat:=(l.filter λx=>x/100==n).length
def bS(a b:List Int):Int:=
 if a.isEmpty||b.isEmpty then 0 else
 let x:=bn a b;let y:=bn b a;let c:=((List.range 10).map λ(n:Nat)=>min (aN x n) (aN y n)).sum
 (100*(2*(a.length-x.length)+c:Nat):Int)/(a.length+b.length:Nat)
def bD(t:Table)(kind:Int)(one two:Mark):Int:=
 let a:=aR t.aC one.word.data.toList;let b:=aR t.aC two.word.data.toList
 if kind=0 then dF a b
 else if kind=1 then(List.range t.aO.length).foldl (λc k=>max c (dF (bH t k one.word.data.toList) (bH t k two.word.data.toList))) 0
 else if kind=2 then gp t a b
 else if kind=3 then dF a b.reverse
 else if kind=4 then uh a b
 else bS one.aW two.aW
structure Bl where
 days:Int
 level:Int
 kin:Int
deriving DecidableEq
def lP(c:Case)(m:Mark)(kin:Int)(r:ug):Bl:=
 let a:=if m.known then min r.plain r.known else r.plain
 ⟨max 0 (m.day+1-c.new.day),max 0 (r.least-bD c.table r.kind c.new m),max 0 (a-kin)⟩
def ey(c:Case)(m:Mark)(kin:Int):Nat->List ug->Option (Nat×Int)
 |_,[]=>none
 |i,r::a=>if lP c m kin r=⟨0,0,0⟩then some (i,bD c.table r.kind c.new m)else ey c m kin (i+1) a
structure Hit where
 mark:Int
 dZ:Int
 level:Int
deriving DecidableEq
def gU(c:Case)(i:Nat):Option Hit:=
 match c.marks[i]?,c.kin[i]? with
 |some m,some k=>(ey c m k 0 c.rules).map λx=>⟨i,x.1,x.2⟩
 |_,_=>none
def gF(c:Case)(i:Int):Int:=(c.marks[i.toNat]?.map (·.day)).getD 0
def aQ(c:Case)(a b:Hit):Bool:=
 if a.dZ≠b.dZ then decide (a.dZ<b.dZ)else if a.level≠b.level then decide (b.level<a.level)else
 if gF c a.mark≠gF c b.mark then decide (gF c a.mark<gF c b.mark)else decide (a.mark<b.mark)
def eA(c:Case)(h:Hit):List Hit->List Hit
 | []=>[h]
 |x::xs=>if aQ c x h then x::eA c h xs else h::x::xs
def bX(c:Case):List Hit:=((List.range c.marks.length).filterMap (gU c)).foldl (λl h=>eA c h l) []
def bV(b):aJ [] b=b.length:=NT b
def bW(a):aJ a []=a.length:=JG a
def tZ(x y)(a b:Bs):aJ (x::a) (y::b)=if x=y then aJ a b else 1+min (aJ a b) (min (aJ a (y::b)) (aJ (x::a) b)):=NU x y a b
theorem oQ:∀(n) (a b),a.length+b.length<=n->aJ a b=aJ b a
 |n,[],b,_=>by rw[bV,bW]
 |n,x::a,[],_=>by rw[bV,bW]
 |0,x::a,y::b,h=>by simp at h
 |n+1,x::a,y::b,h=>by
  simp only[Rs]at h;rw[tZ,tZ,oQ n a b (by omega),oQ n a (y::b) (by simp only[Rs];omega),oQ n (x::a) b (by simp only[Rs];omega)];by_cases e:x=y
  ·subst e;simp
  ·rw[Ro e,Ro (RN e)];omega
def DX(a b):aJ a b=aJ b a:=oQ _ a b (Rq _)
theorem rN:∀(n) (a b) (x),a.length+b.length<=n->aJ a b<=aJ (x::a) b+1/\aJ (x::a) b<=aJ a b+1
 |n,a,[],x,_=>by rw[bW,bW];simp only[Rs];omega
 |0,a,y::b,x,h=>by simp only[Rs]at h;omega
 |n+1,a,y::b,x,h=>by
  simp only[Rs]at h;have c:=rN n b a y (by omega);have d:=rN n a b x (by omega);rw[DX b a,DX (y::b) a]at c;rw[tZ];by_cases e:x=y
  ·rw[Rp e];omega
  ·rw[Ro e];omega
def Rj(a b x):aJ a b<=aJ (x::a) b+1:=(rN _ a b x (Rq _)).1
def OM(a b:Bs)(x):aJ (x::a) b<=aJ a b+1:=(rN _ a b x (Rq _)).2
def QI(a b:Bs)(x):aJ a (x::b)<=aJ a b+1:=by rw[DX a b,DX a];exact OM b a x
def j6(a b:Bs)(x):aJ (x::a) (x::b)=aJ a b:=by rw[tZ,Rp rfl]
def tv(a b:Bs)(x y):aJ (x::a) (y::b)<=aJ a b+1:=by rw[tZ];split<;>omega
inductive Al:Nat->Bs->Bs->Prop
 |nil:Al 0 [] []
 |keep {n a b} (x:UInt8):Al n a b->Al n (x::a) (x::b)
 |put {n a b} (y:UInt8):Al n a b->Al (n+1) a (y::b)
 |drop {n a b} (x:UInt8):Al n a b->Al (n+1) (x::a) b
 |swap {n a b} (x y:UInt8):Al n a b->Al (n+1) (x::a) (y::b)
def Al.le{n a b}(h:Al n a b):aJ a b<=n:=by
 induction h with
 |nil=>rw[bV];exact Rq _
 |keep x _ c=>rw[j6];exact c
 |put y _ c=>exact Rr (QI _ _ y) (by omega)
 |drop x _ c=>exact Rr (OM _ _ x) (by omega)
 |swap x y _ c=>exact Rr (tv _ _ x y) (by omega)
theorem Al.QJ:∀b,Al b.length [] b
 | []=>.nil
 |y::b=>.put y (Al.QJ b)
theorem Al.N9:∀a,Al a.length a []
 | []=>.nil
 |x::a=>.drop x (Al.N9 a)
theorem Al.aJ:∀(n) (a b),a.length+b.length<=n->Al (aJ a b) a b
 |n,[],b,_=>by rw[bV];exact Al.QJ b
 |n,x::a,[],_=>by rw[bW];exact Al.N9 (x::a)
 |0,x::a,y::b,h=>by simp at h
 |n+1,x::a,y::b,h=>by
  simp only[Rs]at h;rw[tZ];by_cases e:x=y
  ·subst e
   rw[Rp rfl];exact .keep x (Al.aJ n a b (by omega))
  ·rw[Ro e]
   have c:=Al.aJ n a b (by omega);have d:=Al.aJ n a (y::b) (by simp only[Rs];omega);have f:=Al.aJ n (x::a) b (by simp only[Rs];omega);rcases Us (Go.Proofs.aJ a b) (min (Go.Proofs.aJ a (y::b)) (Go.Proofs.aJ (x::a) b))with h|h
   ·rw[Up h,Tu];exact .swap x y c
   ·rw[Nat.min_eq_right h]
    rcases Us (Go.Proofs.aJ a (y::b)) (Go.Proofs.aJ (x::a) b)with h|h
    ·rw[Up h,Tu];exact .drop x d
    ·rw[Nat.min_eq_right h,Tu];exact .put y f
def GR(a b):Al (aJ a b) a b:=Al.aJ _ a b (Rq _)
def Al.qm{m}{x':Bs}(P:Nat->Bs->Prop){n b c}(h:Al n b c)(y)(d:Bs)(a:b=y::d)
 (e:∀n c',Al n d c'->∃k,k<=m+n/\P k (y::c')) (f:∀n c',Al n d c'->∃k,k<=m+n+1/\P k c') (g:∀n c' z,Al n d c'->∃k,k<=m+n+1/\P k (z::c')) (i:∀k c' z,P k c'->P (k+1) (z::c')):
 ∃k,k<=m+n/\P k c:=by
 induction h with
 |nil=>cases a
 |keep x h _=>injection a with h1 h2;subst h1 h2;exact e _ _ h
 |put z h j=>obtain⟨k,h1,h2⟩:=j a;exact⟨k+1,by omega,i _ _ _ h2⟩
 |drop x h _=>injection a with h1 h2;subst h1 h2;exact f _ _ h
 |swap x z h _=>injection a with h1 h2;subst h1 h2;exact g _ _ _ h
def Al.comp{m a b}(h:Al m a b):∀{n} {c},Al n b c->∃k,k<=m+n/\Al k a c:=by
 induction h with
 |nil=>exactλh=>⟨_,by omega,h⟩
 |drop x _ e=>intro n c h;obtain⟨k,f,d⟩:=e h;exact⟨k+1,by omega,.drop x d⟩
 | @keep m a b x _ e=>
  intro n c h;exact Al.qm (m:=m) (x':=a) (λk c=>Al k (x::a) c) h x b rfl (λn c' h=>by obtain⟨k,f,d⟩:=e h;exact⟨k,f,.keep x d⟩)
   (λn c' h=>by obtain⟨k,f,d⟩:=e h;exact⟨k+1,by omega,.drop x d⟩) (λn c' z h=>by obtain⟨k,f,d⟩:=e h;exact⟨k+1,by omega,.swap x z d⟩) (λk c' z h=>.put z h)
 | @put m a b y _ e=>
  intro n c h;exact Al.qm (m:=m+1) (x':=a) (λk c=>Al k a c) h y b rfl (λn c' h=>by obtain⟨k,f,d⟩:=e h;exact⟨k+1,by omega,.put y d⟩)
   (λn c' h=>by obtain⟨k,f,d⟩:=e h;exact⟨k,by omega,d⟩) (λn c' z h=>by obtain⟨k,f,d⟩:=e h;exact⟨k+1,by omega,.put z d⟩) (λk c' z h=>.put z h)
 | @swap m a b x y _ e=>
  intro n c h;exact Al.qm (m:=m+1) (x':=a) (λk c=>Al k (x::a) c) h y b rfl (λn c' h=>by obtain⟨k,f,d⟩:=e h;exact⟨k+1,by omega,.swap x y d⟩)
   (λn c' h=>by obtain⟨k,f,d⟩:=e h;exact⟨k+1,by omega,.drop x d⟩) (λn c' z h=>by obtain⟨k,f,d⟩:=e h;exact⟨k+1,by omega,.swap x z d⟩) (λk c' z h=>.put z h)
def pE(a b c):aJ a c<=aJ a b+aJ b c:=by obtain⟨k,d,e⟩:=(GR a b).comp (GR b c);exact Rr e.le d
theorem jq:∀(a b),aJ a b<=max a.length b.length
 | [],b=>by rw[bV];simp
 |x::a,[]=>by rw[bW];simp
 |x::a,y::b=>by have h:=tv a b x y;have k:=jq a b;simp only[Rs];omega
theorem zC:∀a,aJ a a=0
 | []=>by rw[bV];rfl
 |x::a=>by rw[j6];exact zC a
theorem qo:∀(a b),aJ a b=0->a=b
 | [],b,h=>by rw[bV]at h;exact(Tb.1 h).symm
 |x::a,[],h=>by rw[bW]at h;simp at h
 |x::a,y::b,h=>by
  rw[tZ]at h;by_cases e:x=y
  ·rw[Rp e]at h
   rw[e,qo a b h]
  ·rw[Ro e]at h;omega
abbrev Ed:=Int×Int×Int
def codeOf(c:UInt8):Int:=(c.toNat:Int)
def ON{x y}(h:codeOf x=codeOf y):x=y:=by unfold codeOf at h;exact Uk.1 (by omega)
def aV(i:Nat):Bs->Bs->List Ed
 | [],[]=>[]
 | [],y::b=>((i:Int),0,codeOf y)::aV i [] b
 |x::a,[]=>((i:Int),1,0)::aV (i+1) a []
 |x::a,y::b=>
  if aJ (x::a) (y::b)=0 then[]
  else if aJ (x::a) b+1=aJ (x::a) (y::b)then((i:Int),0,codeOf y)::aV i (x::a) b
  else if aJ a (y::b)+1=aJ (x::a) (y::b)then((i:Int),1,0)::aV (i+1) a (y::b)
  else if x≠y then((i:Int),2,codeOf y)::aV (i+1) a b
  else aV (i+1) a b
termination_by a b=>a.length+b.length
inductive Run:Nat->Bs->List Ed->Bs->Prop
 |nil {i:Nat} {a:Bs}:Run i a [] a
 |keep {i:Nat} {a:Bs} {l:List Ed} {b:Bs} {e:Ed} (x:UInt8):(i:Int)<e.1->Run (i+1) a (e::l) b->Run i (x::a) (e::l) (x::b)
 |put {i:Nat} {a:Bs} {l:List Ed} {b:Bs} (y:UInt8):aX y=true->Run i a l b->Run i a (((i:Int),0,codeOf y)::l) (y::b)
 |drop {i:Nat} {a:Bs} {l:List Ed} {b:Bs} (x:UInt8):Run (i+1) a l b->Run i (x::a) (((i:Int),1,0)::l) b
 |swap {i:Nat} {a:Bs} {l:List Ed} {b:Bs} (x y:UInt8):aX y=true->Run (i+1) a l b->Run i (x::a) (((i:Int),2,codeOf y)::l) (y::b)
theorem Al.refl:∀a,Al 0 a a
 | []=>.nil
 |x::a=>.keep x (Al.refl a)
def Run.al{i a l b}(h:Run i a l b):Al l.length a b:=by
 induction h with
 |nil=>exact Al.refl _
 |keep x _ _ c=>exact .keep x c
 |put y _ _ c=>exact .put y c
 |drop x _ c=>exact .drop x c
 |swap x y _ _ c=>exact .swap x y c
def Run.le{i a l b}(h:Run i a l b):aJ a b<=l.length:=h.al.le
def Run.aC{i a l b}(h:Run i a l b):a.all aX=true->b.all aX=true:=by
 induction h with
 |nil=>exact id
 |keep x _ _ c=>intro h;simp only[Td,RD]at h⊢;exact⟨h.1,c h.2⟩
 |put y d _ c=>intro h;simp only[Td,RD];exact⟨d,c h⟩
 |drop x _ c=>intro h;simp only[Td,RD]at h;exact c h.2
 |swap x y d _ c=>intro h;simp only[Td,RD]at h⊢;exact⟨d,c h.2⟩
def Run.later{i a e l b}(h:Run i a (e::l) b):(i:Int)<=e.1:=by
 cases h with
 |keep x h _=>omega
 |put=>exact TB _
 |drop=>exact TB _
 |swap=>exact TB _
def zD(i a):aV i a a=[]:=by
 cases a with
 |nil=>rw[aV]
 |cons x a=>rw[aV,Rp (zC _)]
theorem j7:∀(n) (i) (a b),a.length+b.length<=n->b.all aX=true->Run i a (aV i a b) b/\(aV i a b).length=aJ a b
 |n,i,[],[],_,_=>by rw[aV];exact⟨.nil,by rw[bV];rfl⟩
 |0,i,[],y::b,h,_=>by simp at h
 |n+1,i,[],y::b,h,c=>by simp only[Td,RD]at c;simp only[Rs,RF]at h;obtain⟨d,f⟩:=j7 n i [] b (by simp only[RF];omega) c.2;rw[aV];exact⟨.put y c.1 d,by rw[Rs,f,bV,bV];rfl⟩
 |0,i,x::a,b,h,_=>by simp at h
 |n+1,i,x::a,[],h,c=>by simp only[Rs,RF]at h;obtain⟨d,f⟩:=j7 n (i+1) a [] (by simp only[RF];omega) c;rw[aV];exact⟨.drop x d,by rw[Rs,f,bW,bW];rfl⟩
 |n+1,i,x::a,y::b,h,c=>by
  have m:=c;simp only[Td,RD]at c;simp only[Rs]at h;rw[aV];by_cases k:aJ (x::a) (y::b)=0
  ·rw[Rp k,k,qo _ _ k]
   exact⟨.nil,rfl⟩
  ·rw[Ro k]
   by_cases d:aJ (x::a) b+1=aJ (x::a) (y::b)
   ·obtain⟨g,j⟩:=j7 n i (x::a) b (by simp only[Rs];omega) c.2
    rw[Rp d];exact⟨.put y c.1 g,by rw[Rs,j,d]⟩
   ·rw[Ro d]
    by_cases f:aJ a (y::b)+1=aJ (x::a) (y::b)
    ·obtain⟨g,j⟩:=j7 n (i+1) a (y::b) (by simp only[Rs];omega) m
     rw[Rp f];exact⟨.drop x g,by rw[Rs,j,f]⟩
    ·rw[Ro f]
     obtain⟨g,j⟩:=j7 n (i+1) a b (by omega) c.2;by_cases o:x=y
     ·subst o
      rw[Ro (λh=>h rfl),j6];rw[j6]at k;refine⟨?_,j⟩;cases p:aV (i+1) a b with
      |nil=>rw[p]at j;exact absurd j.symm k
      |cons e l=>rw[p]at g;exact .keep x (by have:=g.later;omega) g
     ·rw[Rp o]
      refine⟨.swap x y c.1 g,?_⟩;rw[Rs,j];rw[tZ,Ro o]at d f⊢;have k1:=Rj a (y::b) x;omega
def fv:List Ed->List Ed->Bool
 | [],[]=>false
 | [],_::_=>true
 |_::_,[]=>false
 |x::a,y::b=>if x.1≠y.1 then decide (x.1<y.1)else if x.2.1≠y.2.1 then decide (x.2.1<y.2.1)else if x.2.2≠y.2.2 then decide (x.2.2<y.2.2)else fv a b
def iq(x a b):fv (x::a) (x::b)=fv a b:=by rw[fv];simp
theorem fw:∀(n) (i) (a b) (l),a.length+b.length<=n->Run i a l b->l.length=aJ a b->fv l (aV i a b)=false
 |n,i,a,b,[],_,h,c=>by cases h;rw[zD];rfl
 |n,i,[],b,e::l,g,h,c=>by
  cases h with
  | @put _ _ _ p y m h=>simp only[Rs,RF]at g;rw[aV,iq];refine fw (n-1) i [] p l (by simp only[RF];omega) h ?_;rw[bV]at c⊢;simpa using c
 |n,i,x::a,[],e::l,g,h,c=>by
  simp only[Rs,RF]at g;cases h with
  |drop _ h=>rw[aV,iq];refine fw (n-1) (i+1) a [] l (by simp only[RF];omega) h ?_;rw[bW]at c⊢;simpa using c
 |n,i,x::a,y::b,e::l,g,h,c=>by
  simp only[Rs]at g c;have q:aJ (x::a) (y::b)≠0:=by omega
  rw[aV,Ro q];cases h with
  |keep _ r h=>
   have d:=h.le;simp only[Rs]at d;rw[j6]at c;by_cases f:aJ (x::a) b+1=aJ (x::a) (x::b)
   ·rw[Rp f]
    unfold fv;rw[Rp (by show e.1≠(i:Int);omega)];exact Rz (by show ¬e.1<(i:Int);omega)
   ·rw[Ro f]
    by_cases j:aJ a (x::b)+1=aJ (x::a) (x::b)
    ·rw[Rp j]
     unfold fv;rw[Rp (by show e.1≠(i:Int);omega)];exact Rz (by show ¬e.1<(i:Int);omega)
    ·rw[Ro j,Ro (λh=>h rfl)]
     exact fw (n-1) (i+1) a b (e::l) (by omega) h (by simpa using c)
  |put _ m h=>have d:=h.le;have k:=QI (x::a) b y;rw[Rp (by omega),iq];exact fw (n-1) i (x::a) b l (by simp only[Rs];omega) h (by omega)
  |drop _ h=>
   have d:=h.le;have k:=OM a (y::b) x;by_cases f:aJ (x::a) b+1=aJ (x::a) (y::b)
   ·rw[Rp f]
    unfold fv;rw[Ro (λh=>h rfl),Rp (by show(1:Int)≠0;decide)];rfl
   ·rw[Ro f,Rp (by omega),iq]
    exact fw (n-1) (i+1) a (y::b) l (by simp only[Rs];omega) h (by omega)
  |swap _ _ m h=>
   have d:=h.le;by_cases f:aJ (x::a) b+1=aJ (x::a) (y::b)
   ·rw[Rp f]
    unfold fv;rw[Ro (λh=>h rfl),Rp (by show(2:Int)≠0;decide)];rfl
   ·rw[Ro f]
    by_cases j:aJ a (y::b)+1=aJ (x::a) (y::b)
    ·rw[Rp j]
     unfold fv;rw[Ro (λh=>h rfl),Rp (by show(2:Int)≠1;decide)];rfl
    ·rw[Ro j]
     by_cases o:x=y
     ·subst o
      rw[j6]at c;omega
     ·rw[Rp o,iq]
      exact fw (n-1) (i+1) a b l (by omega) h (by have:=tv a b x y;omega)
def np(n:Nat)(seen:List Ed)(e:Ed):Int:=
 if !au e.2.1 0 2 then 1 else
 if !au e.1 0 (if e.2.1=0 then(n:Int)else n-1)then 6 else
 if(e.2.1=1&&e.2.2≠0)||(e.2.1≠1&& !au e.2.2 97 122)then 3 else
 if seen.getLast?.any (λq=>decide (e.1<q.1)||(decide (e.1=q.1)&&decide (q.2.1≠0)))then 7 else 0
def eR(n:Nat)(l:List Ed):Int:=bp 0 96 (np n) l
def byteOf(n:Int):UInt8:=UInt8.ofNat n.toNat
def bP(a:Bs):Nat->List Ed->Bs
 |i,[]=>a.drop i
 |i,e::l=>(a.take e.1.toNat).drop i++(if e.2.1=1 then[]else[byteOf e.2.2])++bP a (if e.2.1=0 then e.1.toNat else e.1.toNat+1) l
def iO(seen:List Ed):Int:=(seen.getLast?.map λq=>if q.2.1=0 then q.1 else q.1+1).getD 0
def jr(seen e):iO (seen++[e])=if e.2.1=0 then e.1 else e.1+1:=by simp[iO]
def A2(n:Nat)(at_:Int)(e:Ed):Prop:=((e.2.1=0/\e.1<=n)\/(e.2.1=1/\e.1<n)\/(e.2.1=2/\e.1<n))/\at_<=e.1/\0<=e.1/\(if e.2.1=1 then e.2.2=0 else 97<=e.2.2/\e.2.2<=122)
def DY(n seen e)(h:np n seen e=0):A2 n (iO seen) e:=by
 unfold np at h;unfold au at h;obtain⟨p,k,c⟩:=e;simp only[]at h;by_cases f:(0<=k/\k<=2)
 ·simp only[f.1,f.2,decide_true,Bool.and_self,Tj]at h
  have b:k=0\/k=1\/k=2:=by omega
  have a:∀q:Ed,seen.getLast?=some q->¬(p<q.1\/(p=q.1/\q.2.1≠0))->iO seen<=p:=by
   intro q i j;unfold iO;rw[i];simp only[Sl,Te];split<;>rename_i l
   ·omega
   ·have:¬p=q.1:=λe=>j (Or.inr ⟨e,l⟩)
    omega
  cases d:seen.getLast? with
  |none=>
   have m:iO seen=0:=by unfold iO;rw[d];rfl
   rw[d]at h;rcases b with rfl|rfl|rfl<;>simp at h<;>(unfold A2;simp only[];rw[m];simp;omega)
  |some q=>rw[d]at h;have a:=a q d;rcases b with rfl|rfl|rfl<;>simp at h<;>(have o:=a (by rintro(g|⟨g,g'⟩)<;>omega);unfold A2;simp only[];simp;omega)
 ·exfalso
  have:(decide (0<=k)&&decide (k<=2))=false:=by rw[Vb,TM,TM];omega
  rw[this]at h;simp at h
def xb(n seen e)(h:A2 n (iO seen) e):np n seen e=0:=by
 obtain⟨p,k,c⟩:=e;unfold A2 at h;simp only[]at h;obtain⟨b,d,j,f⟩:=h;have a:seen.getLast?.any (λq=>decide (p<q.1)||(decide (p=q.1)&&decide (q.2.1≠0)))=false:=by
  cases g:seen.getLast? with
  |none=>rfl
  |some q=>
   unfold iO at d;rw[g]at d;simp only[Sl,Te]at d;simp only[Va,Bool.or_eq_false_iff,Vb,TM];split at d<;>rename_i i
   ·exact⟨by omega,Or.inr (λh=>h i)⟩
   ·exact⟨by omega,Or.inl (by omega)⟩
 unfold np au;simp only[];rw[a];rcases b with⟨rfl,b⟩|⟨rfl,b⟩|⟨rfl,b⟩<;>simp at f⊢<;>omega
def pF(c):byteOf (codeOf c)=c:=by unfold byteOf codeOf;rw[UP];exact UInt8.ofNat_toNat
def fS(n)(a:0<=n)(b:n<256):codeOf (byteOf n)=n:=by unfold byteOf codeOf;rw[UInt8.toNat_ofNat'];omega
def mV(n)(a:97<=n)(b:n<=122):aX (byteOf n)=true:=by have h:=fS n (by omega) (by omega);unfold codeOf at h;unfold aX;rw[h];simp[a,b]
def xc{c}(h:aX c=true):97<=codeOf c/\codeOf c<=122:=by unfold aX at h;simpa[codeOf]using h
theorem oR{e l}{b a:Bs}{p:Nat}(d:e.1=(p:Int))(f:p<=a.length)(h:Run p (a.drop p) (e::l) b):∀(k i),i+k=p->Run i (a.drop i) (e::l) ((a.take p).drop i++b)
 |0,i,g=>by
  obtain rfl:i=p:=by omega
  have e:(a.take i).drop i=[]:=RY (by rw[R9];omega);rw[e,Tc];exact h
 |k+1,i,g=>by
  have j:i<a.length:=by omega
  have c:i<(a.take p).length:=by rw[R9];omega
  rw[SE j,SE c,List.getElem_take,TU];exact .keep _ (by omega) (oR d f h k (i+1) (by omega))
def xd{c}(a seen x)(xs:List c)(h:kH a seen (x::xs)=0):a seen x=0/\kH a (seen++[x]) xs=0:=by
 unfold kH at h;by_cases b:a seen x=0
 ·rw[Ro (λh=>h b)]at h
  exact⟨b,h⟩
 ·rw[Rp b]at h
  exact absurd h b
def lJ{b}(a seen x)(xs:List b)(c:a seen x=0)(d:kH a (seen++[x]) xs=0):kH a seen (x::xs)=0:=by unfold kH;rw[Ro (λh=>h c)];exact d
theorem A3:∀(l) (a) (i:Nat) (seen),iO seen=i->i<=a.length->kH (np a.length) seen l=0->Run i (a.drop i) l (bP a i l)
 | [],a,i,seen,_,_,_=>by rw[bP];exact .nil
 |e::l,a,i,seen,r,u,h=>by
  obtain⟨s,o⟩:=xd _ _ _ _ h;have d:=DY _ _ _ s;obtain⟨p,k,c⟩:=e;unfold A2 at d;simp only[]at d;rw[r]at d;obtain⟨n,v,w,f⟩:=d;have b:=jr seen (p,k,c);obtain⟨q,t⟩:∃q:Nat,p=q:=⟨p.toNat,by omega⟩
  subst t;simp only[]at b;have g:(q:Int).toNat=q:=rfl;obtain⟨rfl,n⟩|⟨rfl,n⟩|⟨rfl,n⟩:=n
  ·rw[Rp rfl]at b
   rw[Ro (by decide)]at f;have j:=A3 l a q _ b (by omega) o;have m:Run q (a.drop q) (((q:Int),0,c)::l) (byteOf c::bP a q l):=by have h:=Run.put (i:=q) (byteOf c) (mV c f.1 f.2) j;rw[fS c (by omega) (by omega)]at h;exact h
   have h:=oR (p:=q) rfl (by omega) m (q-i) i (by omega);rw[bP];simp only[g,R8];exact h
  ·rw[Ro (by decide)]at b
   rw[Rp rfl]at f;subst f;have j:=A3 l a (q+1) _ (by rw[b];rfl) (by omega) o;have m:Run q (a.drop q) (((q:Int),1,0)::l) (bP a (q+1) l):=by rw[SE (by omega)];exact .drop _ j
   have h:=oR (p:=q) rfl (by omega) m (q-i) i (by omega);rw[bP];simp only[g,R8];exact h
  ·rw[Ro (by decide)]at b
   rw[Ro (by decide)]at f;have j:=A3 l a (q+1) _ (by rw[b];rfl) (by omega) o;have m:Run q (a.drop q) (((q:Int),2,c)::l) (byteOf c::bP a (q+1) l):=by rw[SE (by omega)];have h:=Run.swap (i:=q) (a[q]'(by omega)) (byteOf c) (mV c f.1 f.2) j;rw[fS c (by omega) (by omega)]at h;exact h
   have h:=oR (p:=q) rfl (by omega) m (q-i) i (by omega);rw[bP];simp only[g,R8];exact h
def xe(a:Bs)(i i0)(h:i0<=i)(b:i<=a.length):(a.take i).drop i0++a.drop i=a.drop i0:=by
 conv=>rhs;rw[<-List.take_append_drop i a]
 rw[U7 (by rw[R9];omega)]
def drop_take_self(a:Bs)(i):(a.take i).drop i=[]:=RY (by rw[R9];omega)
def QK{n i:Nat}{t c:Int}(b:i<=n)(a:t<=i)(h:97<=c/\c<=122):A2 n t ((i:Int),0,c):=by refine⟨Or.inl ⟨rfl,by show(i:Int)<=n;omega⟩,a,by show(0:Int)<=i;omega,?_⟩;rw[Ro (by show ¬(0:Int)=1;decide)];exact h
def QL{n i:Nat}{t:Int}(b:i<n)(a:t<=i):A2 n t ((i:Int),1,0):=by refine⟨Or.inr (Or.inl ⟨rfl,by show(i:Int)<n;omega⟩),a,by show(0:Int)<=i;omega,?_⟩;rw[Rp rfl]
def QM{n i:Nat}{t c:Int}(b:i<n)(a:t<=i)(h:97<=c/\c<=122):A2 n t ((i:Int),2,c):=by refine⟨Or.inr (Or.inr ⟨rfl,by show(i:Int)<n;omega⟩),a,by show(0:Int)<=i;omega,?_⟩;rw[Ro (by show ¬(2:Int)=1;decide)];exact h
def of_run{i r l b}(h:Run i r l b):∀(a) (seen) (f),r=a.drop i->i<=a.length->iO seen<=i->f<=i->kH (np a.length) seen l=0/\bP a f l=(a.take i).drop f++b:=by
 induction h with
 |nil=>intro a seen f c k m o;subst c;refine⟨by unfold kH;rfl,?_⟩;rw[bP,xe a _ f o k]
 | @keep i r l b e x q h n=>
  intro a seen f c k m o;have d:i<a.length:=by
   obtain h|h:=Ry i a.length
   ·exact h
   ·rw[RY h]at c;cases c
  rw[SE d]at c;injection c with hx c;obtain⟨k1,j⟩:=n a seen f c (by omega) (by omega) (by omega);refine⟨k1,?_⟩;rw[j,Tn d,U7 (by rw[R9];omega),hx,R8];rfl
 | @put i r l b y p h n=>intro a seen f c k m o;have g:=jr seen ((i:Int),0,codeOf y);obtain⟨k1,j⟩:=n a (seen++[((i:Int),0,codeOf y)]) i c k (by rw[g];exact TB _) (Rq _);refine⟨lJ _ _ _ _ (xb _ _ _ (QK k m (xc p))) k1,?_⟩;rw[drop_take_self,Tc]at j;rw[bP];show(a.take i).drop f++[byteOf (codeOf y)]++bP a i l=_;rw[pF,j,R8];rfl
 | @drop i r l b x h n=>
  intro a seen f c k m o;have d:i<a.length:=by
   obtain h|h:=Ry i a.length
   ·exact h
   ·rw[RY h]at c;cases c
  rw[SE d]at c;injection c with hx c;have g:=jr seen ((i:Int),1,0);obtain⟨k1,j⟩:=n a (seen++[((i:Int),1,0)]) (i+1) c (by omega) (by rw[g];exact TB _) (Rq _);refine⟨lJ _ _ _ _ (xb _ _ _ (QL d m)) k1,?_⟩;rw[drop_take_self,Tc]at j;rw[bP];show(a.take i).drop f++[]++bP a (i+1) l=_;rw[j,Th]
 | @swap i r l b x y p h n=>
  intro a seen f c k m o;have d:i<a.length:=by
   obtain h|h:=Ry i a.length
   ·exact h
   ·rw[RY h]at c;cases c
  rw[SE d]at c;injection c with hx c;have g:=jr seen ((i:Int),2,codeOf y);obtain⟨k1,j⟩:=n a (seen++[((i:Int),2,codeOf y)]) (i+1) c (by omega) (by rw[g];exact TB _) (Rq _);refine⟨lJ _ _ _ _ (xb _ _ _ (QM d m (xc p))) k1,?_⟩;rw[drop_take_self,Tc]at j;rw[bP];show(a.take i).drop f++[byteOf (codeOf y)]++bP a (i+1) l=_;rw[pF,j,R8];rfl
def ou{a l}(h:eR a.length l=0):Run 0 a l (bP a 0 l)/\l.length<=96:=by
 unfold eR bp at h;split at h
 ·rename_i b
  unfold au at b;simp only[RD,RJ]at b;exact⟨by have:=A3 l a 0 [] rfl (RA _) h;simpa using this,by omega⟩
 ·cases h
def Oa{a b l}(h:Run 0 a l b)(e:l.length<=96):eR a.length l=0/\bP a 0 l=b:=by obtain⟨c,d⟩:=of_run h a [] 0 (by simp) (RA _) (by simp[iO]) (Rq _);refine⟨?_,by simpa using d⟩;unfold eR bp au;rw[Rp (by simp;omega)];exact c
def gu(a b:Bs):List Ed:=aV 0 a b
def pG(a b)(c:b.all aX=true):(gu a b).length=aJ a b:=(j7 _ 0 a b (Rq _) c).2
def OO{a b l}(h:eR a.length l=0)(c:bP a 0 l=b):aJ a b<=l.length:=by have:=(ou h).1.le;rw[c]at this;exact this
def least{a b l}(h:eR a.length l=0)(c:bP a 0 l=b)(d:l.length=aJ a b):fv l (gu a b)=false:=by have h:=(ou h).1;rw[c]at h;exact fw _ 0 a b l (Rq _) h d
def tw{a l}(h:eR a.length l=0)(b:a.all aX=true):(bP a 0 l).all aX=true:=(ou h).1.aC b
def own:ownKnob Tryz.prog.godebug=none:=by kernel_rfl
noncomputable def NN(os:Os):World:=(World.doorLaid Tryz.prog 50 os).layVars Tryz.prog [("unicode/utf8.first",Go.Pinned.utf8First)]
def NO(os:Os):(NN os).os=os:=World.layVars_os _ _ _
def Ei(os:Os)(args:Array Value):((NN os).forCall (λ_ _=>0) ⟨#[],args,[]⟩).Shaped Tryz.prog:=World.shaped_of_ZipB (by kernel_rfl) (by kernel_rfl)
end Go.Proofs
namespace Go.Proofs
open Go.Tm Go.RowKit
@[go_sem] theorem Rm(P)(fs)(t)(w):(underlying t).run (ah P fs) w=(underlying t).run P w:=by simp only[underlying,program,bind,Sem.bind,Sem.run,aH];cases P.underlying t<;>rfl
variable {fs:Array Func} (L:bQ fs)
def Gp(c):aX c=true↔97<=(c.toNat:Int)/\(c.toNat:Int)<=122:=by simp[aX]
def Bm{s:ByteArray}{j}(a:j<s.size):s.data.toList[j]'(by simpa using a)=s[j]:=by rw[UH];rfl
def qu(a b:ByteArray):(a.toList==b.toList)=decide (a=b):=by rw[SV,RJ,Sq,Lib.toList_data,Lib.toList_data];exact⟨λh=>Go.WideShapes.bytes_inj h,λh=>h▸rfl⟩
def G8{a b:ByteArray}(h:(a.toList==b.toList)=true):a=b:=by rw[qu]at h;simpa using h
def G9{a b:ByteArray}(h:(a.toList==b.toList)=false):a≠b:=by rw[qu]at h;simpa using h
def qv(s r:ByteArray)(k:Nat)(w:World)(c:s.size<=1000000)(d:r.size<=1000000)(f:k<=s.size):Calls (Qs fs) 96 #[.string s,.int .i64 k,.string r] w λe w'=>e=.returned (.bool (Lib.occAt s.data.toList r.data.toList k))/\w'=w:=by
 go_enter (n96 L),Tryz.ntmps96;go_wp2
 ·go_ret
  exact⟨by rw[Lib.occ_of_piece s r k (by omega)];rfl,rfl⟩
 ·go_ret
  refine⟨?_,rfl⟩;have:Lib.occAt s.data.toList r.data.toList k=false:=by
   cases a:Lib.occAt s.data.toList r.data.toList k with
   |false=>rfl
   |true=>
    have b:=(S9.1 (show r.data.toList.isPrefixOf (s.data.toList.drop k)=true from a)).length_le;rw[RI,<-Lib.size_eq,<-Lib.size_eq]at b;have g:= ‹(_:Int)<_+_›;by_cases h:r.size=0
    ·omega
    ·omega
  rw[this];rfl
def m8(l:List ByteArray)(s:ByteArray):Int:=(l.findIdx? λq=>decide (q=s)).elim (-1) λk=>(k:Int)
def Ha{l:List ByteArray}{s:ByteArray}{k:Nat}(a:k<l.length)(h:l[k]=s)(b:∀j (h:j<k) (d:j<l.length),l[j]≠s):m8 l s=k:=by
 unfold m8;have:(l.findIdx? λq=>decide (q=s))=some k:=by rw[Vf];exact⟨a,by simp[h],λj c=>by simpa using b j c (by omega)⟩
 rw[this];rfl
def Ep{l:List ByteArray}{s:ByteArray}(a:∀j (d:j<l.length),l[j]≠s):m8 l s= -1:=by
 unfold m8;have:(l.findIdx? λq=>decide (q=s))=none:=by rw[Vg];intro x b;obtain⟨j,c,rfl⟩:=TK.1 b;simpa using a j c
 rw[this];rfl
def zN(l s):decide (0<=m8 l s)=l.any (λq=>decide (q=s)):=by
 unfold m8;cases h:(l.findIdx? λq=>decide (q=s))with
 |none=>
  rw[Vg]at h;have:l.any (λq=>decide (q=s))=false:=by rw[T2];intro x a;simpa using h x a
  rw[this];rfl
 |some k=>rw[Vf]at h;obtain⟨c,b,_⟩:=h;have:l.any (λq=>decide (q=s))=true:=Ta.2 ⟨l[k],RR _,b⟩;rw[this];simp
def Gq{b:Type}{l:List b}{s:b}{k:Nat}(c:∀j (h:j<k) (a:j<l.length),l[j]≠s)(d:k<l.length)(h:l[k]≠s):∀j (h:j<k+1) (a:j<l.length),l[j]≠s:=by
 intro j e a;obtain h1|h1:=Ry j k
 ·exact c j h1 a
 ·have:j=k:=by omega
  subst this;exact h
def JH{K:Nat->Prop}{v:Value}{l:List ByteArray}(s:ByteArray)(w:World)(f:aB K 1 kF w v l):Calls (Qs fs) 62 #[v,.string s] w λe w'=>e=.returned (.int .i64 (m8 l s))/\w'=w:=by
 obtain⟨ao,c,rfl,o,p,_,a⟩:=f;go_enter (n62 L),Tryz.ntmps62;go_wp2
 go_loop [5] (λi=>∃k:Nat,k<=l.length/\i=.int .i64 k/\∀j (h:j<k) (q:j<l.length),l[j]≠s) (λi=>l.length-(intOf i).toNat)
 case atStart=>exact⟨0,RA _,rfl,λj h=>absurd h (RZ _)⟩
 case round=>
  obtain⟨k,r,rfl,g⟩:=hrel;obtain d|hge:=Ry k l.length
  ·obtain⟨b,m,rfl,n⟩:=a k d
   have n:w.cell? ⟨b,m+k,none⟩=some (.string l[k]):=by simpa[kF]using n
   go_wp2
   ·go_ret
    exact⟨by rw[Ha d (G8 (by assumption)) g];rfl,rfl⟩
   ·exact⟨⟨k+1,by omega,by go_num,Gq g d (G9 (by assumption))⟩,by simp[intOf];omega⟩
  ·go_wp2
   go_ret;exact⟨by rw[Ep λj h=>g j (by omega) h];rfl,rfl⟩
def JI{K:Nat->Prop}{v:Value}{l:List Int}(s:Int)(w:World)(d:aB K 1 dn w v l):Calls (Qs fs) 167 #[v,.int .i64 s] w λe w'=>e=.returned (.bool (l.contains s))/\w'=w:=by
 obtain⟨ao,c,rfl,p,r,_,a⟩:=d;go_enter (n167 L),Tryz.ntmps167;go_wp2
 go_loop [5] (λi=>∃k:Nat,k<=l.length/\i=.int .i64 k/\∀j (h:j<k) (t:j<l.length),l[j]≠s) (λi=>l.length-(intOf i).toNat)
 case atStart=>exact⟨0,RA _,rfl,λj h=>absurd h (RZ _)⟩
 case round=>
  obtain⟨k,u,rfl,n⟩:=hrel;obtain f|hge:=Ry k l.length
  ·obtain⟨b,m,rfl,o⟩:=a k f
   have o:w.cell? ⟨b,m+k,none⟩=some (.int .i64 l[k]):=by simpa[dn]using o
   go_wp2
   ·have h:= ‹(_==_)=true›
    go_ret;have g:s∈l:=by rw[<-(Sq.1 h)];exact RR _
    exact⟨by simp[g],rfl⟩
   ·have h:= ‹(_==_)=false›
    exact⟨⟨k+1,by omega,by go_num,Gq n f (by simpa using h)⟩,by simp[intOf];omega⟩
  ·go_wp2
   go_ret;have g:¬s∈l:=λg=>by obtain⟨j,q,rfl⟩:=TK.1 g;exact n j (by omega) q rfl
   exact⟨by simp[g],rfl⟩
def nz{a:Type}(p)(l:List a)(k)(b:k<l.length):((l.take (k+1)).filter p)=(l.take k).filter p++(if p l[k]then[l[k]]else[]):=by
 rw[Tn b,TL]
 congr 1
 simp[List.filter];split<;>simp_all
def uV{K:Nat->Prop}{v:Value}{l:List Int}(n:Int)(w:World)(d:aB K 1 dn w v l)(p:∀x∈l,0<=x/\x<=999):Calls (Qs fs) 142 #[v,.int .i64 n] w λe w'=>e=.returned (.int .i64 (aN l n))/\w'=w:=by
 obtain⟨ao,c,rfl,q,r,_,a⟩:=d;go_enter (n142 L),Tryz.ntmps142;go_wp2
 go_loop [5,6] (λm i=>∃k:Nat,k<=l.length/\i=.int .i64 k/\m=.int .i64 (aN (l.take k) n)) (λm i=>l.length-(intOf i).toNat)
 case atStart=>exact⟨0,RA _,rfl,rfl⟩
 case round=>
  obtain⟨k,s,rfl,rfl⟩:=hrel;have t:aN (l.take k) n<=k:=by unfold aN;exact Rr (SL _ _) (by simp;omega)
  obtain f|hge:=Ry k l.length
  ·obtain⟨b,j,rfl,o⟩:=a k f
   have o:w.cell? ⟨b,j+k,none⟩=some (.int .i64 l[k]):=by simpa[dn]using o
   obtain⟨u,y⟩:=p l[k] (RR _);have g:aN (l.take (k+1)) n=aN (l.take k) n+(if l[k]/100==n then 1 else 0):=by unfold aN;rw[nz _ _ _ f,RM];split<;>rfl
   go_wp2
   ·have h:= ‹(_==n)=true›
    exact⟨⟨k+1,by omega,by go_num,by rw[g,Rp h];go_num⟩,by simp[intOf];omega⟩
   ·have h:= ‹(_==n)=false›
    exact⟨⟨k+1,by omega,by go_num,by rw[g,Ro (by rw[h];exact T3)];go_num⟩,by simp[intOf];omega⟩
  ·go_wp2
   go_ret;rw[Uh hge];exact⟨rfl,rfl⟩
end Go.Proofs

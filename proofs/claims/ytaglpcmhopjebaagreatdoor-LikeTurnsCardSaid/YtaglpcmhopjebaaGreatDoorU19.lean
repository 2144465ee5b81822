import Derived.Test.YtaglpcmhopjebaaGreatDoorRows
import Derived.LaidMore
import Derived.Lay
import Derived.LaidHandle
import Derived.ProofKit
import Derived.Lib.IndexBytes
import Derived.BigQuiet
import Derived.Test.YtaglpcmhopjebaaGreatDoorU18
set_option linter.all false
set_option maxRecDepth 100000
set_option maxHeartbeats 20000000
namespace Go.Proofs
def db(b):aK [] b=b.length:=Qx b
def dk(a):aK a []=a.length:=L8 a
def vh(x y)(a b:Bs):aK (x::a) (y::b)=if x=y then aK a b else 1+min (aK a b) (min (aK a (y::b)) (aK (x::a) b)):=Qy x y a b
theorem pE:∀(n) (a b),a.length+b.length<=n->aK a b=aK b a
 |n,[],b,_=>by rw[db,dk]
 |n,x::a,[],_=>by rw[db,dk]
 |0,x::a,y::b,h=>by simp at h
 |n+1,x::a,y::b,h=>by
  simp only[Ug]at h;rw[vh,vh,pE n a b (by omega),pE n a (y::b) (by simp only[Ug];omega),pE n (x::a) b (by simp only[Ug];omega)];by_cases e:x=y
  ·subst e;simp
  ·rw[Uc e,Uc (Ux e)];omega
def AU(a b):aK a b=aK b a:=pE _ a b (Ue _)
theorem sW:∀(n) (a b) (x),a.length+b.length<=n->aK a b<=aK (x::a) b+1/\aK (x::a) b<=aK a b+1
 |n,a,[],x,_=>by rw[dk,dk];simp only[Ug];omega
 |0,a,y::b,x,h=>by simp only[Ug]at h;omega
 |n+1,a,y::b,x,h=>by
  simp only[Ug]at h;have c:=sW n b a y (by omega);have d:=sW n a b x (by omega);rw[AU b a,AU (y::b) a]at c;rw[vh];by_cases e:x=y
  ·rw[Ud e];omega
  ·rw[Uc e];omega
def T8(a b x):aK a b<=aK (x::a) b+1:=(sW _ a b x (Ue _)).1
def Ty(a b:Bs)(x):aK (x::a) b<=aK a b+1:=(sW _ a b x (Ue _)).2
def T9(a b:Bs)(x):aK a (x::b)<=aK a b+1:=by rw[AU a b,AU a];exact Ty b a x
def mR(a b:Bs)(x):aK (x::a) (x::b)=aK a b:=by rw[vh,Ud rfl]
def ur(a b:Bs)(x y):aK (x::a) (y::b)<=aK a b+1:=by rw[vh];split<;>omega
inductive Al:Nat->Bs->Bs->Prop
 |nil:Al 0 [] []
 |keep {n a b} (x:UInt8):Al n a b->Al n (x::a) (x::b)
 |put {n a b} (y:UInt8):Al n a b->Al (n+1) a (y::b)
 |drop {n a b} (x:UInt8):Al n a b->Al (n+1) (x::a) b
 |swap {n a b} (x y:UInt8):Al n a b->Al (n+1) (x::a) (y::b)
def Al.le{n a b}(h:Al n a b):aK a b<=n:=by induction h with|nil=>rw[db];exact Ue _|keep x _ c=>rw[mR];exact c|put y _ c=>exact Uf (T9 _ _ y) (by omega)|drop x _ c=>exact Uf (Ty _ _ x) (by omega)|swap x y _ c=>exact Uf (ur _ _ x y) (by omega)
theorem Al.Tz:∀b,Al b.length [] b
 | []=>.nil
 |y::b=>.put y (Al.Tz b)
theorem Al.QH:∀a,Al a.length a []
 | []=>.nil
 |x::a=>.drop x (Al.QH a)
theorem Al.aK:∀(n) (a b),a.length+b.length<=n->Al (aK a b) a b
 |n,[],b,_=>by rw[db];exact Al.Tz b
 |n,x::a,[],_=>by rw[dk];exact Al.QH (x::a)
 |0,x::a,y::b,h=>by simp at h
 |n+1,x::a,y::b,h=>by
  simp only[Ug]at h;rw[vh];by_cases e:x=y
  ·subst e
   rw[Ud rfl];exact .keep x (Al.aK n a b (by omega))
  ·rw[Uc e]
   have c:=Al.aK n a b (by omega);have d:=Al.aK n a (y::b) (by simp only[Ug];omega);have f:=Al.aK n (x::a) b (by simp only[Ug];omega);rcases Xc (Go.Proofs.aK a b) (min (Go.Proofs.aK a (y::b)) (Go.Proofs.aK (x::a) b))with h|h
   ·rw[W9 h,VT];exact .swap x y c
   ·rw[Nat.min_eq_right h]
    rcases Xc (Go.Proofs.aK a (y::b)) (Go.Proofs.aK (x::a) b)with h|h
    ·rw[W9 h,VT];exact .drop x d
    ·rw[Nat.min_eq_right h,VT];exact .put y f
def Ju(a b):Al (aK a b) a b:=Al.aK _ a b (Ue _)
def Al.rn{m}{x':Bs}(P:Nat->Bs->Prop){n b c}(h:Al n b c)(y)(d:Bs)(a:b=y::d) (e:∀n c',Al n d c'->∃k,k<=m+n/\P k (y::c')) (f:∀n c',Al n d c'->∃k,k<=m+n+1/\P k c') (g:∀n c' z,Al n d c'->∃k,k<=m+n+1/\P k (z::c')) (i:∀k c' z,P k c'->P (k+1) (z::c')):∃k,k<=m+n/\P k c:=by
 induction h with
 |nil=>cases a
 |keep x h _=>injection a with h1 h2;subst h1 h2;exact e _ _ h
 |put z h j=>obtain⟨k,h1,h2⟩:=j a;exact⟨k+1,by omega,i _ _ _ h2⟩
 |drop x h _=>injection a with h1 h2;subst h1 h2;exact f _ _ h
 |swap x z h _=>injection a with h1 h2;subst h1 h2;exact g _ _ _ h
def Al.comp{m a b}(h:Al m a b):∀{n} {c},Al n b c->∃k,k<=m+n/\Al k a c:=by
 induction h with
 |nil=>exactλh=>⟨_,by omega,h⟩
 |drop x _ e=>intro n c h;obtain⟨k,f,d⟩:=e h;exact⟨k+1,by omega,.drop x d⟩
 | @keep m a b x _ e=>
  intro n c h;exact Al.rn (m:=m) (x':=a) (λk c=>Al k (x::a) c) h x b rfl (λn c' h=>by obtain⟨k,f,d⟩:=e h;exact⟨k,f,.keep x d⟩)
   (λn c' h=>by obtain⟨k,f,d⟩:=e h;exact⟨k+1,by omega,.drop x d⟩) (λn c' z h=>by obtain⟨k,f,d⟩:=e h;exact⟨k+1,by omega,.swap x z d⟩) (λk c' z h=>.put z h)
 | @put m a b y _ e=>
  intro n c h;exact Al.rn (m:=m+1) (x':=a) (λk c=>Al k a c) h y b rfl (λn c' h=>by obtain⟨k,f,d⟩:=e h;exact⟨k+1,by omega,.put y d⟩)
   (λn c' h=>by obtain⟨k,f,d⟩:=e h;exact⟨k,by omega,d⟩) (λn c' z h=>by obtain⟨k,f,d⟩:=e h;exact⟨k+1,by omega,.put z d⟩) (λk c' z h=>.put z h)
 | @swap m a b x y _ e=>
  intro n c h;exact Al.rn (m:=m+1) (x':=a) (λk c=>Al k (x::a) c) h y b rfl (λn c' h=>by obtain⟨k,f,d⟩:=e h;exact⟨k+1,by omega,.swap x y d⟩)
   (λn c' h=>by obtain⟨k,f,d⟩:=e h;exact⟨k+1,by omega,.drop x d⟩) (λn c' z h=>by obtain⟨k,f,d⟩:=e h;exact⟨k+1,by omega,.swap x z d⟩) (λk c' z h=>.put z h)
def qu(a b c):aK a c<=aK a b+aK b c:=by obtain⟨k,d,e⟩:=(Ju a b).comp (Ju b c);exact Uf e.le d
theorem oY:∀(a b),aK a b<=max a.length b.length
 | [],b=>by rw[db];simp
 |x::a,[]=>by rw[dk];simp
 |x::a,y::b=>by have h:=ur a b x y;have k:=oY a b;simp only[Ug];omega
theorem uu:∀a,aK a a=0
 | []=>by rw[db];rfl
 |x::a=>by rw[mR];exact uu a
theorem rp:∀(a b),aK a b=0->a=b
 | [],b,h=>by rw[db]at h;exact(VD.1 h).symm
 |x::a,[],h=>by rw[dk]at h;simp at h
 |x::a,y::b,h=>by
  rw[vh]at h;by_cases e:x=y
  ·rw[Ud e]at h
   rw[e,rp a b h]
  ·rw[Uc e]at h;omega
abbrev Ed:=Int×Int×Int
def codeOf(c:UInt8):Int:=(c.toNat:Int)
def bf(i:Nat):Bs->Bs->List Ed
 | [],[]=>[]
 | [],y::b=>((i:Int),0,codeOf y)::bf i [] b
 |x::a,[]=>((i:Int),1,0)::bf (i+1) a []
 |x::a,y::b=>
  if aK (x::a) (y::b)=0 then[]
  else if aK (x::a) b+1=aK (x::a) (y::b)then((i:Int),0,codeOf y)::bf i (x::a) b
  else if aK a (y::b)+1=aK (x::a) (y::b)then((i:Int),1,0)::bf (i+1) a (y::b)
  else if x≠y then((i:Int),2,codeOf y)::bf (i+1) a b
  else bf (i+1) a b
termination_by a b=>a.length+b.length
inductive Run:Nat->Bs->List Ed->Bs->Prop
 |nil {i:Nat} {a:Bs}:Run i a [] a
 |keep {i:Nat} {a:Bs} {l:List Ed} {b:Bs} {e:Ed} (x:UInt8):(i:Int)<e.1->Run (i+1) a (e::l) b->Run i (x::a) (e::l) (x::b)
 |put {i:Nat} {a:Bs} {l:List Ed} {b:Bs} (y:UInt8):aQ y=true->Run i a l b->Run i a (((i:Int),0,codeOf y)::l) (y::b)
 |drop {i:Nat} {a:Bs} {l:List Ed} {b:Bs} (x:UInt8):Run (i+1) a l b->Run i (x::a) (((i:Int),1,0)::l) b
 |swap {i:Nat} {a:Bs} {l:List Ed} {b:Bs} (x y:UInt8):aQ y=true->Run (i+1) a l b->Run i (x::a) (((i:Int),2,codeOf y)::l) (y::b)
def Run.later{i a e l b}(h:Run i a (e::l) b):(i:Int)<=e.1:=by cases h with|keep x h _=>omega|put=>exact W5 _|drop=>exact W5 _|swap=>exact W5 _
def Lb(i a):bf i a a=[]:=by cases a with|nil=>rw[bf]|cons x a=>rw[bf,Ud (uu _)]
theorem kC:∀(n) (i) (a b),a.length+b.length<=n->b.all aQ=true->Run i a (bf i a b) b/\(bf i a b).length=aK a b
 |n,i,[],[],_,_=>by rw[bf];exact⟨.nil,by rw[db];rfl⟩
 |0,i,[],y::b,h,_=>by simp at h
 |n+1,i,[],y::b,h,c=>by simp only[Wd,Un]at c;simp only[Ug,Uv]at h;obtain⟨d,f⟩:=kC n i [] b (by simp only[Uv];omega) c.2;rw[bf];exact⟨.put y c.1 d,by rw[Ug,f,db,db];rfl⟩
 |0,i,x::a,b,h,_=>by simp at h
 |n+1,i,x::a,[],h,c=>by simp only[Ug,Uv]at h;obtain⟨d,f⟩:=kC n (i+1) a [] (by simp only[Uv];omega) c;rw[bf];exact⟨.drop x d,by rw[Ug,f,dk,dk];rfl⟩
 |n+1,i,x::a,y::b,h,c=>by
  have m:=c;simp only[Wd,Un]at c;simp only[Ug]at h;rw[bf];by_cases k:aK (x::a) (y::b)=0
  ·rw[Ud k,k,rp _ _ k]
   exact⟨.nil,rfl⟩
  ·rw[Uc k]
   by_cases d:aK (x::a) b+1=aK (x::a) (y::b)
   ·obtain⟨g,j⟩:=kC n i (x::a) b (by simp only[Ug];omega) c.2
    rw[Ud d];exact⟨.put y c.1 g,by rw[Ug,j,d]⟩
   ·rw[Uc d]
    by_cases f:aK a (y::b)+1=aK (x::a) (y::b)
    ·obtain⟨g,j⟩:=kC n (i+1) a (y::b) (by simp only[Ug];omega) m
     rw[Ud f];exact⟨.drop x g,by rw[Ug,j,f]⟩
    ·rw[Uc f]
     obtain⟨g,j⟩:=kC n (i+1) a b (by omega) c.2;by_cases o:x=y
     ·subst o
      rw[Uc (λh=>h rfl),mR];rw[mR]at k;refine⟨?_,j⟩;cases p:bf (i+1) a b with
      |nil=>rw[p]at j;exact absurd j.symm k
      |cons e l=>rw[p]at g;exact .keep x (by have:=g.later;omega) g
     ·rw[Ud o]
      refine⟨.swap x y c.1 g,?_⟩;rw[Ug,j];rw[vh,Uc o]at d f⊢;have k1:=T8 a (y::b) x;omega
def byteOf(n:Int):UInt8:=UInt8.ofNat n.toNat
def qv(n)(a:0<=n)(b:n<256):codeOf (byteOf n)=n:=by unfold byteOf codeOf;rw[UInt8.toNat_ofNat'];omega
def CP(n)(a:97<=n)(b:n<=122):aQ (byteOf n)=true:=by have h:=qv n (by omega) (by omega);unfold codeOf at h;unfold aQ;rw[h];simp[a,b]
def iG(a b:Bs):List Ed:=bf 0 a b
def qw(a b)(c:b.all aQ=true):(iG a b).length=aK a b:=(kC _ 0 a b (Ue _) c).2
def own:ownKnob Tryz.prog.godebug=none:=by kernel_rfl
noncomputable def Dc(os:Os):World:=(World.doorLaid Tryz.prog 50 os).layVars Tryz.prog [("unicode/utf8.first",Go.Pinned.utf8First)]
def Dd(os:Os):(Dc os).os=os:=World.layVars_os _ _ _
def pg(os:Os)(args:Array Value):((Dc os).forCall (λ_ _=>0) ⟨#[],args,[]⟩).Shaped Tryz.prog:=World.shaped_of_ZipB (by kernel_rfl) (by kernel_rfl)
def yM(os:Os)(args:Array Value):laidMetH Tryz.prog YtaglpcmhopjebaaGreatDoor.Rows.likeWordsRow.laid ((Dc os).forCall (λ_ _=>0) ⟨#[],args,[]⟩).memory:=laidMetH_of_parts3 (fuel:=8) (laidMet_of_run' 8 (by kernel_rfl) (by kernel_rfl)) (by kernel_rfl) (by kernel_rfl)
end Go.Proofs
namespace Go.Proofs
open Go.Tm Go.RowKit
@[go_sem] theorem Ub(P)(fs)(t)(w):(underlying t).run (ah P fs) w=(underlying t).run P w:=by simp only[underlying,program,bind,Sem.bind,Sem.run,aI];cases P.underlying t<;>rfl
variable {fs:Array Func} (L:bT fs)
def vX(c):aQ c=true↔97<=(c.toNat:Int)/\(c.toNat:Int)<=122:=by simp[aQ]
def nX{s:ByteArray}{j}(a:j<s.size):s.data.toList[j]'(by simpa using a)=s[j]:=by rw[Xo];rfl
def Bd{p:UInt8->Bool}{s:ByteArray}(h:∀j (h:j<s.size),p s[j]=true):s.data.toList.all p=true:=by (rw[UJ];intro x b;obtain⟨j,c,rfl⟩:=VM.1 b;have a:j<s.size:=by simpa using c);rw[nX a];exact h j a
def rC{s:ByteArray}{j}(a:j<s.size):s[j]∈s.data.toList:=by rw[<-nX a];exact Up _
def tB{p}{s:ByteArray}{j}(a:j<s.size)(h:p s[j]=false):s.data.toList.all p=false:=by rw[List.all_eq_false];exact⟨s[j],rC a,by simp[h]⟩
def Be{p}{s:ByteArray}{j}(a:j<s.size)(h:p s[j]=true):s.data.toList.any p=true:=by rw[U9];exact⟨s[j],rC a,h⟩
def tC{p:UInt8->Bool}{s:ByteArray}(h:∀j (h:j<s.size),p s[j]=false):s.data.toList.any p=false:=by (rw[VN];intro x b;obtain⟨j,c,rfl⟩:=VM.1 b;have a:j<s.size:=by simpa using c);rw[nX a,h j a];exact WA
def uD{s lo hi k}(a:k<s.size)(h:((s[k].toNat:Int))<97\/122<(s[k].toNat:Int)):bc s lo hi=false:=by (have:aQ s[k]=false:=by cases b:aQ s[k]with|false=>rfl|true=>have:=(vX _).1 b;omega);simp[bc,tB a this]
def Bf{s:ByteArray}{lo hi:Int}(h:∀j (h:j<s.size),aQ s[j]=true):bc s lo hi=aw s.size lo hi:=by simp[bc,Bd h]
def Gi{s:ByteArray}{k:Nat}(b:∀j (h:j<k) (a:j<s.size),aQ s[j]=true)(c:k<s.size)(h:aQ s[k]=true):∀j (h:j<k+1) (a:j<s.size),aQ s[j]=true:=by intro j d a;obtain h1|h1:=Uh j k;exact b j h1 a;(have:j=k:=by omega);subst this;exact h
def kq(c):gV c=true↔(c.toNat:Int)=10\/(c.toNat:Int)=58\/(c.toNat:Int)=59\/(c.toNat:Int)=44:=by simp only[gV,VB,U3,<-WV,UInt8.reduceToNat,or_assoc];omega
def jZ{s hi k}(a:k<s.size)(h:gV s[k]=true):bd s hi=false:=by simp[bd,Be a h]
def yR{s:ByteArray}{hi:Int}(h:∀j (h:j<s.size),gV s[j]=false):bd s hi=aw s.size 1 hi:=by simp[bd,tC h]
def Gj{s:ByteArray}{k:Nat}(b:∀j (h:j<k) (a:j<s.size),gV s[j]=false)(c:k<s.size)(h:gV s[k]=false):∀j (h:j<k+1) (a:j<s.size),gV s[j]=false:=by intro j d a;obtain h1|h1:=Uh j k;exact b j h1 a;(have:j=k:=by omega);subst this;exact h
def L9(n lo hi:Int)(w:World):Calls (Qs fs) 60 #[.int .i64 n,.int .i64 lo,.int .i64 hi] w λe w'=>e=.returned (.bool (aw n lo hi))/\w'=w:=by go_enter (n60 L),Tryz.ntmps60;go_wp2;all_goals (go_ret;simp[aw];try omega)
def m8(s:ByteArray)(lo hi:Int)(w:World)(b:s.size<=9223372036854775807):Calls (Qs fs) 61 #[.string s,.int .i64 lo,.int .i64 hi] w λe w'=>e=.returned (.bool (bc s lo hi))/\w'=w:=by have e60:=e60 L;go_enter (n61 L),Tryz.ntmps61;go_wp2;(go_loop [7] (λi=>∃k:Nat,k<=s.size/\i=.int .i64 k/\∀j (h:j<k) (c:j<s.size),aQ s[j]=true) (λi=>s.size-(intOf i).toNat));(case atStart=>exact⟨0,Ul _,rfl,λj h=>absurd h (Ut _)⟩);case round=>obtain⟨k,d,rfl,a⟩:=hrel;go_wp2_with (first|(go_at_call 60;refine(L9 L _ _ _ _).mono ?_;rintro e w' ⟨rfl,rfl⟩));go_ret;exact⟨by rw[uD (by assumption) (by assumption)];rfl,rfl⟩;refine⟨⟨k+1,by omega,by go_num,Gi a (by assumption) ((vX _).2 (by assumption))⟩,by simp[intOf];omega⟩;go_ret;exact⟨by rw[uD (by assumption) (.inl (by assumption))];rfl,rfl⟩;go_ret;exact⟨by rw[Bf λj h=>a j (by omega) h];rfl,rfl⟩
def j5(a b:ByteArray):(a.toList==b.toList)=decide (a=b):=by rw[Vr,Uu,U3,Lib.toList_data,Lib.toList_data];exact⟨λh=>Go.WideShapes.bytes_inj h,λh=>h▸rfl⟩
def JL{a b:ByteArray}(h:(a.toList==b.toList)=true):a=b:=by rw[j5]at h;simpa using h
def JM{a b:ByteArray}(h:(a.toList==b.toList)=false):a≠b:=by rw[j5]at h;simpa using h
def Dk(s:ByteArray)(hi:Int)(w:World)(c:s.size<=9223372036854775807):Calls (Qs fs) 110 #[.string s,.int .i64 hi] w λe w'=>e=.returned (.bool (bd s hi))/\w'=w:=by have e60:=e60 L;go_enter (n110 L),Tryz.ntmps110;go_wp2;(go_loop [5] (λi=>∃k:Nat,k<=s.size/\i=.int .i64 k/\∀j (h:j<k) (d:j<s.size),gV s[j]=false) (λi=>s.size-(intOf i).toNat));(case atStart=>exact⟨0,Ul _,rfl,λj h=>absurd h (Ut _)⟩);case round=>obtain⟨k,f,rfl,a⟩:=hrel;go_wp2_with (first|(go_at_call 60;refine(L9 L _ _ _ _).mono ?_;rintro e w' ⟨rfl,rfl⟩));go_ret;exact⟨by rw[jZ (by assumption) ((kq _).2 (by omega))];rfl,rfl⟩;go_ret;exact⟨by rw[jZ (by assumption) ((kq _).2 (by omega))];rfl,rfl⟩;go_ret;exact⟨by rw[jZ (by assumption) ((kq _).2 (by omega))];rfl,rfl⟩;have h:= ‹(((_\/_)\/_)\/_:Prop)›;go_ret;simp only[U3]at h;exact⟨by rw[jZ (by assumption) ((kq _).2 (by omega))];rfl,rfl⟩;have h:= ‹(((_/\_)/\_)/\_:Prop)›;simp only[UE]at h;refine⟨⟨k+1,by omega,by go_num,Gj a (by assumption) ?_⟩,by simp[intOf];omega⟩;rw[WW];intro b;have:=(kq _).1 b;omega;go_ret;exact⟨by rw[yR λj h=>a j (by omega) h];rfl,rfl⟩
def rD(s r:ByteArray)(k:Nat)(w:World)(c:s.size<=1000000)(d:r.size<=1000000)(f:k<=s.size):Calls (Qs fs) 96 #[.string s,.int .i64 k,.string r] w λe w'=>e=.returned (.bool (Lib.occAt s.data.toList r.data.toList k))/\w'=w:=by go_enter (n96 L),Tryz.ntmps96;go_wp2;go_ret;exact⟨by rw[Lib.occ_of_piece s r k (by omega)];rfl,rfl⟩;go_ret;(refine⟨?_,rfl⟩;have:Lib.occAt s.data.toList r.data.toList k=false:=by cases a:Lib.occAt s.data.toList r.data.toList k with|false=>rfl|true=>have b:=(Va.1 (show r.data.toList.isPrefixOf (s.data.toList.drop k)=true from a)).length_le;rw[Uq,<-Lib.size_eq,<-Lib.size_eq]at b;have g:= ‹(_:Int)<_+_›;by_cases h:r.size=0;omega;omega);rw[this];rfl
def lA(l:List ByteArray)(s:ByteArray):Int:=(l.findIdx? λq=>decide (q=s)).elim (-1) λk=>(k:Int)
def JN{l:List ByteArray}{s:ByteArray}{k:Nat}(a:k<l.length)(h:l[k]=s)(b:∀j (h:j<k) (d:j<l.length),l[j]≠s):lA l s=k:=by (unfold lA;have:(l.findIdx? λq=>decide (q=s))=some k:=by rw[XU];exact⟨a,by simp[h],λj c=>by simpa using b j c (by omega)⟩);rw[this];rfl
def Gk{l:List ByteArray}{s:ByteArray}(a:∀j (d:j<l.length),l[j]≠s):lA l s= -1:=by (unfold lA;have:(l.findIdx? λq=>decide (q=s))=none:=by rw[XV];intro x b;obtain⟨j,c,rfl⟩:=VM.1 b;simpa using a j c);rw[this];rfl
def rE(l s):decide (0<=lA l s)=l.any (λq=>decide (q=s)):=by
 unfold lA;cases h:(l.findIdx? λq=>decide (q=s))with
 |none=>(rw[XV]at h;have:l.any (λq=>decide (q=s))=false:=by rw[VN];intro x a;simpa using h x a);rw[this];rfl
 |some k=>rw[XU]at h;obtain⟨c,b,_⟩:=h;have:l.any (λq=>decide (q=s))=true:=U9.2 ⟨l[k],Up _,b⟩;rw[this];simp
def I7{b:Type}{l:List b}{s:b}{k:Nat}(c:∀j (h:j<k) (a:j<l.length),l[j]≠s)(d:k<l.length)(h:l[k]≠s):∀j (h:j<k+1) (a:j<l.length),l[j]≠s:=by intro j e a;obtain h1|h1:=Uh j k;exact c j h1 a;(have:j=k:=by omega);subst this;exact h
def Gl{K:Nat->Prop}{v:Value}{l:List ByteArray}(s:ByteArray)(w:World)(f:aE K 1 kG w v l):Calls (Qs fs) 62 #[v,.string s] w λe w'=>e=.returned (.int .i64 (lA l s))/\w'=w:=by
 obtain⟨p,c,rfl,o,q,_,a⟩:=f;go_enter (n62 L),Tryz.ntmps62;go_wp2
 go_loop [5] (λi=>∃k:Nat,k<=l.length/\i=.int .i64 k/\∀j (h:j<k) (r:j<l.length),l[j]≠s) (λi=>l.length-(intOf i).toNat)
 case atStart=>exact⟨0,Ul _,rfl,λj h=>absurd h (Ut _)⟩
 case round=>
  obtain⟨k,t,rfl,g⟩:=hrel;obtain d|hge:=Uh k l.length
  ·obtain⟨b,m,rfl,n⟩:=a k d;(have n:w.cell? ⟨b,m+k,none⟩=some (.string l[k]):=by simpa[kG]using n);go_wp2;go_ret;exact⟨by rw[JN d (JL (by assumption)) g];rfl,rfl⟩;exact⟨⟨k+1,by omega,by go_num,I7 g d (JM (by assumption))⟩,by simp[intOf];omega⟩
  go_wp2;go_ret;exact⟨by rw[Gk λj h=>g j (by omega) h];rfl,rfl⟩
def Ma{K:Nat->Prop}{v:Value}{l:List Int}(s:Int)(w:World)(d:aE K 1 dG w v l):Calls (Qs fs) 167 #[v,.int .i64 s] w λe w'=>e=.returned (.bool (l.contains s))/\w'=w:=by
 obtain⟨r,c,rfl,p,t,_,a⟩:=d;go_enter (n167 L),Tryz.ntmps167;go_wp2
 go_loop [5] (λi=>∃k:Nat,k<=l.length/\i=.int .i64 k/\∀j (h:j<k) (u:j<l.length),l[j]≠s) (λi=>l.length-(intOf i).toNat)
 case atStart=>exact⟨0,Ul _,rfl,λj h=>absurd h (Ut _)⟩
 case round=>
  obtain⟨k,x,rfl,n⟩:=hrel;obtain f|hge:=Uh k l.length
  ·obtain⟨b,m,rfl,o⟩:=a k f;(have o:w.cell? ⟨b,m+k,none⟩=some (.int .i64 l[k]):=by simpa[dG]using o);go_wp2;have h:= ‹(_==_)=true›;(go_ret;have g:s∈l:=by rw[<-(U3.1 h)];exact Up _);exact⟨by simp[g],rfl⟩;have h:= ‹(_==_)=false›;exact⟨⟨k+1,by omega,by go_num,I7 n f (by simpa using h)⟩,by simp[intOf];omega⟩
  go_wp2;go_ret;have g:¬s∈l:=λg=>by obtain⟨j,q,rfl⟩:=VM.1 g;exact n j (by omega) q rfl
  exact⟨by simp[g],rfl⟩
def nY{a:Type}(p)(l:List a)(k)(b:k<l.length):((l.take (k+1)).filter p)=(l.take k).filter p++(if p l[k]then[l[k]]else[]):=by rw[Wl b,Wm];congr 1;simp[List.filter];split<;>simp_all
def wL{K:Nat->Prop}{v:Value}{l:List Int}(n:Int)(w:World)(d:aE K 1 dG w v l)(p:∀x∈l,0<=x/\x<=999):Calls (Qs fs) 142 #[v,.int .i64 n] w λe w'=>e=.returned (.int .i64 (aO l n))/\w'=w:=by
 obtain⟨r,c,rfl,q,s,_,a⟩:=d;go_enter (n142 L),Tryz.ntmps142;go_wp2
 go_loop [5,6] (λm i=>∃k:Nat,k<=l.length/\i=.int .i64 k/\m=.int .i64 (aO (l.take k) n)) (λm i=>l.length-(intOf i).toNat)
 case atStart=>exact⟨0,Ul _,rfl,rfl⟩
 case round=>
  obtain⟨k,t,rfl,rfl⟩:=hrel;have u:aO (l.take k) n<=k:=by unfold aO;exact Uf (Vj _ _) (by simp;omega)
  obtain f|hge:=Uh k l.length
  ·obtain⟨b,j,rfl,o⟩:=a k f;(have o:w.cell? ⟨b,j+k,none⟩=some (.int .i64 l[k]):=by simpa[dG]using o);(obtain⟨y,z⟩:=p l[k] (Up _);have g:aO (l.take (k+1)) n=aO (l.take k) n+(if l[k]/100==n then 1 else 0):=by unfold aO;rw[nY _ _ _ f,Uw];split<;>rfl);go_wp2;have h:= ‹(_==n)=true›;exact⟨⟨k+1,by omega,by go_num,by rw[g,Ud h];go_num⟩,by simp[intOf];omega⟩;have h:= ‹(_==n)=false›;exact⟨⟨k+1,by omega,by go_num,by rw[g,Uc (by rw[h];exact WA)];go_num⟩,by simp[intOf];omega⟩
  go_wp2;go_ret;rw[WX hge];exact⟨rfl,rfl⟩
end Go.Proofs
namespace Go.Proofs
open Go.Tm Go.RowKit
def FX(a b:Bs):bH a b=bH b a:=by unfold bH;rw[AU a b,Nat.max_comm a.length b.length,Bool.or_comm]
def FY(a:Bs):bH a []=0:=by rw[FX];rfl
end Go.Proofs
namespace Go.Proofs
open Go.Tm Go.RowKit
variable {fs:Array Func} (L:bT fs)
def bs(l:Bs):ByteArray:=⟨l.toArray⟩
def bu(l):(bs l).data.toList=l:=by simp[bs]
def O6(s):bs s.data.toList=s:=Lib.mk_data s
def aR(l):(bs l).size=l.length:=by rw[Lib.size_eq,bu]
def lP{a b:ByteArray}(h:a.data.toList=b.data.toList):a=b:=Go.WideShapes.bytes_inj h
def uE(a b:ByteArray):(a++b).data.toList=a.data.toList++b.data.toList:=by obtain⟨⟨a⟩⟩:=a;obtain⟨⟨b⟩⟩:=b;simp
def mB(x)(r:ByteArray):bs x++r=bs (x++r.data.toList):=lP (by rw[uE,bu,bu])
def Bg(x)(s:ByteArray)(k)(b:k<s.size):bs x++s.extract k (k+1)=bs (x++[s[k]]):=by rw[mB,Lib.extract_data];congr 2;(have a:k<s.data.toList.length:=by rwa[<-Lib.size_eq]);rw[VO a,Xp];simp only[UO,UL];rw[nX b]
def drop_cons(s:ByteArray)(k)(b:k<s.size):s.data.toList.drop k=s[k]::s.data.toList.drop (k+1):=by (have a:k<s.data.toList.length:=by rwa[<-Lib.size_eq]);rw[VO a,nX b]
def yS(f t:Bs)(e:f≠[]):∀(n m) (s),s.length<=n->s.length<=m->cN f t n s=cN f t m s:=by have a:=Vs.2 e;intro n;induction n with|zero=>intro m s h _;have:s=[]:=UH (by omega);subst this;cases m<;>rfl|succ n b=>intro m s h d;cases s with|nil=>cases m<;>rfl|cons c cs=>cases m with|zero=>simp at d|succ m=>(simp only[Ug]at h d;unfold cN;have g:((c::cs).drop f.length).length<=n:=by rw[Uq,Ug];omega);(have i:((c::cs).drop f.length).length<=m:=by rw[Uq,Ug];omega);rw[b m _ g i,b m cs (by omega) (by omega)]
def m9(p):bN p []=[]:=rfl
def nc{p s}(b:p.1.data.toList.isPrefixOf s=true)(a:p.1.data.toList≠[]):bN p s=p.2.data.toList++bN p (s.drop p.1.data.toList.length):=by cases s with|nil=>have:=(Va.1 b).length_le;exact absurd (UH (Nat.le_zero.1 this)) a|cons c cs=>have d:=Vs.2 a;show cN _ _ (cs.length+1) (c::cs)=_;unfold cN;rw[Ud b];congr 1;exact yS _ _ a _ _ _ (by rw[Uq,Ug];omega) (Ue _)
def lQ{p c}{s:Bs}(a:p.1.data.toList.isPrefixOf (c::s)=false):bN p (c::s)=c::bN p s:=by show cN _ _ (s.length+1) (c::s)=_;unfold cN;rw[a];rfl
def az(w:World)(c)(e i:Nat)(v)(h:c[i]? =some v):(w.alloc (.cells c e)).cell? ⟨w.heap.size,i,none⟩=some v:=by unfold World.cell? World.alloc;simp[h]
def aF(w o):Below w.heap.size w (w.alloc o):=(Below.refl _ w).alloc (Ue _) o
def Dl(s:ByteArray)(p:Pr2)(w:World)(z:s.size<=1000)(A:1<=p.1.size)(B:p.1.size<=1000)(C:p.2.size<=1000):Calls (Qs fs) 113 #[.string s,.agg #[.string p.1,.string p.2]] w λe w'=>e=.returned (.string (bs (bN p s.data.toList)))/\Below w.heap.size w w':=by
 have e96:=e96 L;have n:p.1.data.toList≠[]:=by intro h;have l:=Lib.size_eq p.1;rw[h]at l;have D:p.1.size=0:=l;omega
 have q:=az w #[.string p.1,.string p.2] 51 0 (.string p.1) rfl;have r:=az w #[.string p.1,.string p.2] 51 1 (.string p.2) rfl;have t:Hid (Below w.heap.size w (w.alloc (.cells #[.string p.1,.string p.2] 51))):=aF w _;go_enter (n113 L),Tryz.ntmps113;go_wp2
 go_loop [5,6] (λo i=>∃(k:Nat) (x:Bs),k<=s.size/\i=.int .i64 k/\o=.string (bs x)/\(bs x).size<=1000*k/\x++bN p (s.data.toList.drop k)=bN p s.data.toList) (λo i=>s.size-(intOf i).toNat)
 case atStart=>exact⟨0,[],Ul _,rfl,rfl,Ul _,rfl⟩
 case round=>
  obtain⟨k,x,E,rfl,rfl,u,a⟩:=hrel;have g:Hid _:=a;clear a;obtain b|hge:=Uh k s.size
  ·have c:=drop_cons s k b;have m:Hid _:=c;clear c;have v:=λy=>rD L s p.1 k y (by omega) (by omega) (by omega);go_wp2_with (first|(go_at_call 96;refine(v _).mono ?_;rintro e w' ⟨rfl,rfl⟩));have f:= ‹Lib.occAt _ _ _=true›;have d:=(Va.1 (show p.1.data.toList.isPrefixOf (s.data.toList.drop k)=true from f)).length_le;rw[Uq,<-Lib.size_eq,<-Lib.size_eq]at d;refine⟨⟨k+p.1.size,x++p.2.data.toList,by omega,by go_num,by rw[mB],?_,?_⟩,by simp[intOf];omega⟩;rw[aR,Uw,<-aR x,<-Lib.size_eq];have:1000*(k+p.1.size)=1000*k+1000*p.1.size:=Nat.mul_add _ _ _;omega;rw[<-g.out,nc f n,WB,<-Lib.size_eq,Vn];have f:= ‹Lib.occAt _ _ _=false›;refine⟨⟨k+1,x++[s[k]],by omega,by go_num,by rw[Bg x s k b],?_,?_⟩,by simp[intOf];omega⟩;rw[aR,Uw,<-aR x];simp only[Ug,Uv];omega;rw[<-g.out,m.out];(have j:p.1.data.toList.isPrefixOf (s[k]::s.data.toList.drop (k+1))=false:=by rw[<-m.out];exact f);rw[lQ j,Vn];rfl
  go_wp2;go_ret;have a:=g.out;rw[UP (by rw[<-Lib.size_eq];exact hge),m9,Vb]at a;exact⟨by rw[a];rfl,t.out⟩
def Mb(s:ByteArray)(w:World)(d:s.size<=1000):Calls (Qs fs) 117 #[.string s] w λe w'=>e=.returned (.string (bs s.data.toList.reverse))/\w'=w:=by
 go_enter (n117 L),Tryz.ntmps117;go_wp2
 go_loop [3,4] (λo i=>∃(k:Nat) (x:Bs),k<=s.size/\i=.int .i64 ((k:Int)-1)/\o=.string (bs x)/\(bs x).size<=1000/\x=(s.data.toList.drop k).reverse) (λo i=>(intOf i+1).toNat)
 case atStart=>exact⟨s.size,[],Ue _,by simp,rfl,by decide,by rw[UP (by rw[<-Lib.size_eq];exact Ue _)];rfl⟩
 case round=>
  obtain⟨k,x,f,rfl,rfl,c,a⟩:=hrel;have b:Hid _:=a;clear a;obtain rfl|hpos:=U4 k
  ·go_wp2;go_ret;have a:=b.out;rw[UM]at a;exact⟨by rw[a];rfl,rfl⟩
  obtain⟨j,rfl⟩:∃j,k=j+1:=⟨k-1,by omega⟩
  go_wp2;have a:=b.out;refine⟨⟨j,x++[s[j]],by omega,rfl,by rw[Bg x s j (by omega)],?_,?_⟩,by simp[intOf]⟩;rw[aR,Uw,a,Wn,Uq,<-Lib.size_eq];simp only[Ug,Uv];omega;rw[a,drop_cons s j (by omega),List.reverse_cons]
def O7{a b:ByteArray}(d:a.size<=b.size):pI a.data.toList b.data.toList= if a.size<3\/(Lib.occAt b.data.toList a.data.toList 0=false/\Lib.occAt b.data.toList a.data.toList (b.size-a.size)=false)then 0 else(100*a.size:Int)/b.size:=by (have c:a.data.toList.isSuffixOf b.data.toList=Lib.occAt b.data.toList a.data.toList (b.size-a.size):=by (have h:=Lib.hasSuffix_of_drop b.data.toList a.data.toList;unfold Lib.hasSuffix at h;rw[<-h,<-Lib.size_eq,<-Lib.size_eq,Um d,WC];unfold Lib.occAt;have e:(b.data.toList.drop (b.size-a.size)).length=a.data.toList.length:=by rw[Uq,<-Lib.size_eq,<-Lib.size_eq];omega);rw[Vr,U3,Va];exact⟨λh=>h▸List.prefix_refl _,λh=>(List.IsPrefix.eq_of_length h e.symm).symm⟩);unfold pI;rw[<-Lib.size_eq,<-Lib.size_eq,Uc (by omega)];simp only[];rw[<-Lib.size_eq,<-Lib.size_eq,c,show a.data.toList.isPrefixOf b.data.toList=Lib.occAt b.data.toList a.data.toList 0 from rfl];cases Lib.occAt b.data.toList a.data.toList 0<;>cases Lib.occAt b.data.toList a.data.toList (b.size-a.size)<;>simp
def Md(a b:ByteArray)(w:World)(g:a.size<=1000)(i:b.size<=1000)(c:a.size<=b.size):Calls (Qs fs) 118 #[.string a,.string b] w λe w'=>e=.returned (.int .i64 (pI a.data.toList b.data.toList))/\w'=w:=by
 have e96:=e96 L;have f:∀wx,Calls (Qs fs) 96 #[.string b,.int .i64 0,.string a] wx λe w'=>e=.returned (.bool (Lib.occAt b.data.toList a.data.toList 0))/\w'=wx:=λwx=>rD L b a 0 wx (by omega) (by omega) (by omega);have d:∀wx,Calls (Qs fs) 96 #[.string b,.int .i64 ((b.size:Int)-a.size),.string a] wx λe w'=>e=.returned (.bool (Lib.occAt b.data.toList a.data.toList (b.size-a.size)))/\w'=wx:=λwx=>by rw[show(b.size:Int)-a.size=((b.size-a.size:Nat):Int) by omega];exact rD L b a (b.size-a.size) wx (by omega) (by omega) (by omega)
 go_enter (n118 L),Tryz.ntmps118;go_wp2_with (first|(go_at_call 96;refine(f _).mono ?_;rintro e w' ⟨rfl,rfl⟩)|(go_at_call 96;refine(d _).mono ?_;rintro e w' ⟨rfl,rfl⟩));all_goals
  go_ret;refine⟨?_,rfl⟩;rw[O7 c];first
   |(rw[Ud (by first|(left;omega)|(right;simp_all;done)|(right;simp_all;rcases ‹_\/_› with h|h<;>first|omega|exact h))];rfl)
   |(rw[Uc (by simp_all;try omega)];rfl)
def zF{a b:ByteArray}(h:b.size<a.size):pI a.data.toList b.data.toList=pI b.data.toList a.data.toList:=by unfold pI;rw[<-Lib.size_eq,<-Lib.size_eq,Ud h,Uc (by omega)]
def SK(a b:ByteArray)(w:World)(d:a.size<=1000)(f:b.size<=1000):Calls (Qs fs) 118 #[.string a,.string b] w λe w'=>e=.returned (.int .i64 (pI a.data.toList b.data.toList))/\w'=w:=by
 obtain c|hge:=Uh b.size a.size
 ·have OW:=OW L;have g:=λh=>Md L b a h f d (by omega);go_enter (n118 L),Tryz.ntmps118;go_wp2_with (first|(go_at_call 118;refine(g _).mono ?_;rintro e w' ⟨rfl,rfl⟩));go_ret;exact⟨by rw[zF c];rfl,rfl⟩
 exact Md L a b w d f hge
structure OkT(t:Table):Prop where
 lets:∀p∈t.aq,1<=p.1.size/\p.1.size<=4/\p.2.size<=3
 SL:t.aq.length<=12
 aP:∀x∈t.au,∀p∈x.aP,1<=p.1.size/\p.1.size<=3/\p.2.size<=p.1.size
 Bh:∀x∈t.au,x.aP.length<=5
 wM:t.au.length<=3
 QM:t.bz.length<=4
def eh(rest:Bs)(a:Option Pr2)(p:Pr2):Option Pr2:=if p.1.data.toList.isPrefixOf rest&&decide ((a.elim 0 λq=>q.1.size)<p.1.size)then some p else a
def j6(a:List Pr2)(k)(b:k<a.length)(rest):bO (a.take (k+1)) rest=eh rest (bO (a.take k) rest) a[k]:=by unfold bO;rw[Wl b,WE];rfl
def iw(a:List Pr2)(rest:Bs)(k:Nat)(b:Int):Prop:=(b= -1/\bO (a.take k) rest=none)\/∃j,∃h:j<a.length,j<k/\b=j/\bO (a.take k) rest=some a[j]
def iw.start(a rest):iw a rest 0 (-1):=.inl ⟨rfl,rfl⟩
def Bi(rest):∀(a:List Pr2) (b) (p),a.foldl (eh rest) b=some p->p∈a\/b=some p:=by intro a;induction a with|nil=>exactλb p h=>.inr h|cons q a c=>intro b p h;obtain h|h:=c _ p h;exact .inl (.tail _ h);unfold eh at h;split at h;cases h;exact .inl (.head _);exact .inr h
def gY{ls rest p}(h:bO ls rest=some p):p∈ls:=by obtain h|h:=Bi rest ls none p h;exact h;cases h
def vv(rest:Bs):∀(c:List Pr2) (b),(∀p,b=some p->p.1.data.toList.isPrefixOf rest=true)->∀p,c.foldl (eh rest) b=some p->p.1.data.toList.isPrefixOf rest=true:=by intro c;induction c with|nil=>exactλb d p h=>d p h|cons q c f=>intro b d p h;refine f _ (λg a=>?_) p h;unfold eh at a;split at a;rename_i e;cases a;simp only[Un]at e;exact e.1;exact d g a
def nZ{a rest p}(h:bO a rest=some p):p.1.data.toList.isPrefixOf rest=true:=vv rest a none (λp h=>by cases h) p h
def Gm(a:List Pr2)(e:∀p∈a,1<=p.1.size):∀(n m) (s),s.length<=n->s.length<=m->iu a n s=iu a m s:=by intro n;induction n with|zero=>intro m s h _;have:s=[]:=UH (by omega);subst this;cases m<;>rfl|succ n b=>intro m s h d;cases s with|nil=>cases m<;>rfl|cons c cs=>cases m with|zero=>simp at d|succ m=>simp only[Ug]at h d;unfold iu;cases f:bO a (c::cs)with|none=>simp only[];rw[b m cs (by omega) (by omega)]|some p=>have g:=gY f;have:=e p g;simp only[];rw[b m _ (by rw[Uq,Ug];omega) (by rw[Uq,Ug];omega)]
def kr{w w':World}(h:w'.heap=w.heap)(a):w'.cell? a=w.cell? a:=by unfold World.cell?;rw[h]
def JO(a):aL a []=[]:=rfl
def JP{a:List Pr2}(b:∀p∈a,1<=p.1.size){c}{s:Bs}{p}(d:bO a (c::s)=some p):aL a (c::s)=p.2.data.toList++aL a ((c::s).drop p.1.size):=by have e:=b p (gY d);show iu a (s.length+1) (c::s)=_;unfold iu;rw[d];simp only[];congr 1;exact Gm _ b _ _ _ (by rw[Uq,Ug];omega) (Ue _)
def Gn{a c}{s:Bs}(b:bO a (c::s)=none):aL a (c::s)=(if aQ c then[c]else[])++aL a s:=by show iu a (s.length+1) (c::s)=_;unfold iu;rw[b];rfl
def iw.skip{a rest k b}(h:iw a rest k b)(d:k<a.length)(e:eh rest (bO (a.take k) rest) a[k]=bO (a.take k) rest):iw a rest (k+1) b:=by obtain⟨f,c⟩|⟨j,g,f,c,i⟩:=h;exact .inl ⟨f,by rw[j6 _ _ d,e,c]⟩;exact .inr ⟨j,g,by omega,c,by rw[j6 _ _ d,e,i]⟩
def iw.take{a rest k}(b:k<a.length)(c:eh rest (bO (a.take k) rest) a[k]=some a[k]):iw a rest (k+1) k:=.inr ⟨k,b,Vk _,rfl,by rw[j6 _ _ b,c]⟩
def Dm{K:Nat->Prop}{v0 v1 v2:Value}{t:Table}(s:ByteArray)(w:World)(ht:IsTable K w v0 v1 v2 t)(ok:OkT t)(hs:s.size<=1000):Calls (Qs fs) 54 #[.agg #[v0,v1,v2],.string s] w λe w'=>e=.returned (.string (bs (aL t.aq s.data.toList)))/\Below w.heap.size w w':=by
 have e96:=e96 L;obtain⟨⟨S,c,rfl,aa,hc,_,m⟩,_,_⟩:=ht;have n:=ok.lets;have ab:=ok.SL;clear ok;obtain⟨ls,T⟩:=ex (t.aq);rw[<-T]at aa m n ab⊢;clear T;have h1:∀p∈ls,1<=p.1.size:=λp hp=>(n p hp).1;have q:=az w #[.slice S ls.length c,v1,v2] 26 0 _ rfl;have U:=aF w (.cells #[.slice S ls.length c,v1,v2] 26);have r:∀(k:Nat) (h:k<ls.length),∃b v,S=some ⟨b,v,none⟩/\dA K (w.alloc (.cells #[.slice S ls.length c,v1,v2] 26)) b (v+k*2) ls[k]:=λk h=>by obtain⟨b,v,e,P⟩:=m k h;exact⟨b,v,e,dA.carry (Carry.keep (ae.below (aF w _))) b b _ _ rfl P⟩
 clear m;obtain⟨w1,V⟩:=ex (w.alloc (.cells #[.slice S ls.length c,v1,v2] 26));go_enter (n54 L),Tryz.ntmps54;go_wp2;rw[<-V]at q U r⊢;obtain⟨N,hN⟩:=ex (w.heap.size);rw[<-hN]at q⊢;clear V hN;go_loopw [5,6] (λo i wr=>∃(k:Nat) (x:Bs),k<=s.size/\i=.int .i64 k/\o=.string (bs x)/\(bs x).size<=1000*k/\wr.heap=w1.heap/\Below w.heap.size w wr/\x++aL ls (s.data.toList.drop k)=aL ls s.data.toList) (λo i _=>s.size-(intOf i).toNat);case atStart=>exact⟨0,[],Ul _,rfl,rfl,Ul _,rfl,U,rfl⟩
 case round=>
  obtain⟨k,x,hk,rfl,rfl,ar,A,l,W⟩:=hrel;have R:Hid _:=W;clear W;obtain X|hge:=Uh k s.size
  ·have B:=(kr A _).trans q;have Y:=drop_cons s k X;have HD:Hid _:=Y;clear Y;go_wp2;go_loopw [7,8] (λb i wr=>∃(j:Nat) (b0:Int),j<=ls.length/\i=.int .i64 j/\b=.int .i64 b0/\iw ls (s.data.toList.drop k) j b0/\wr.heap=w1.heap/\Below w.heap.size w wr) (λb i _=>ls.length-(intOf i).toNat);case atStart=>exact⟨0,-1,Ul _,rfl,rfl,iw.start _ _,A,l⟩
   case round=>
    (obtain⟨j,b0,hj,rfl,rfl,C,a,g⟩:=hrel;have ak:=(kr a _).trans q;have HW:Hid _:=(⟨a,g⟩:wr.heap=w1.heap/\Below w.heap.size w wr));obtain f|hjge:=Uh j ls.length
    ·obtain⟨b,v,rfl,D,H⟩:=r j f;have ad:=n ls[j] (Up _);obtain⟨z1,z2,z3⟩:=ad;have D:=(kr a _).trans D;have E:=r;clear a g A l q H h1 n R U B r;have I:=λwx=>rD L s ls[j].1 k wx (by omega) (by omega) (by omega);obtain⟨rfl,y⟩|⟨u,F,Q,rfl,d⟩:=C
     ·have G:Hid _:=y;clear y E;cases z:Lib.occAt s.data.toList ls[j].1.data.toList k with|false=>simp only[z]at I;have M:Hid _:=z;clear z;go_wp2;go_quiet (first|(go_at_call 96;exact Calls.quiet_of_same (I _)));go_wp2;refine⟨⟨j+1,-1,by omega,by go_num,rfl,iw.skip (.inl ⟨rfl,G.out⟩) f ?_,HW.out.1,Go.below_drewN HW.out.2 _⟩,by simp[intOf];omega⟩;unfold eh;rw[show ls[j].1.data.toList.isPrefixOf (s.data.toList.drop k)=false from M.out];rfl|true=>simp only[z]at I;have M:Hid _:=z;clear z;go_wp2;go_quiet (first|(go_at_call 96;exact Calls.quiet_of_same (I _)));go_wp2;refine⟨⟨j+1,j,by omega,by go_num,rfl,iw.take f ?_,HW.out.1,Go.below_drewN HW.out.2 _⟩,by simp[intOf];omega⟩;unfold eh;rw[show ls[j].1.data.toList.isPrefixOf (s.data.toList.drop k)=true from M.out,G.out,WC];exact Ud (Um (show(0:Nat)<ls[j].1.size by omega))
     obtain⟨b2,an,e2,Z,_⟩:=E u F
     cases e2;have Z:=(kr HW.out.1 _).trans Z;have G:Hid _:=d;clear d E;cases z:Lib.occAt s.data.toList ls[j].1.data.toList k with
     |false=>simp only[z]at I;have M:Hid _:=z;clear z;go_wp2;go_quiet (first|(go_at_call 96;exact Calls.quiet_of_same (I _)));go_wp2;refine⟨⟨j+1,u,by omega,by go_num,rfl,iw.skip (.inr ⟨u,F,Q,rfl,G.out⟩) f ?_,HW.out.1,Go.below_drewN HW.out.2 _⟩,by simp[intOf];omega⟩;unfold eh;rw[show ls[j].1.data.toList.isPrefixOf (s.data.toList.drop k)=false from M.out];rfl
     |true=>
      simp only[z]at I;have M:Hid _:=z;clear z;obtain hcmp|hcmp:=Uh ls[u].1.size ls[j].1.size
      ·go_wp2;go_quiet (first|(go_at_call 96;exact Calls.quiet_of_same (I _)));go_wp2;refine⟨⟨j+1,j,by omega,by go_num,rfl,iw.take f ?_,HW.out.1,Go.below_drewN HW.out.2 _⟩,by simp[intOf];omega⟩;unfold eh;rw[show ls[j].1.data.toList.isPrefixOf (s.data.toList.drop k)=true from M.out,G.out];simp[hcmp]
      go_wp2;go_quiet (first|(go_at_call 96;exact Calls.quiet_of_same (I _)));go_wp2;refine⟨⟨j+1,u,by omega,by go_num,rfl,iw.skip (.inr ⟨u,F,Q,rfl,G.out⟩) f ?_,HW.out.1,Go.below_drewN HW.out.2 _⟩,by simp[intOf];omega⟩;unfold eh;rw[show ls[j].1.data.toList.isPrefixOf (s.data.toList.drop k)=true from M.out,G.out,WC,Uc (by rw[Uu];show ¬ls[u].1.size<ls[j].1.size;omega)]
    (have af:j=ls.length:=by omega);subst af;obtain⟨rfl,y⟩|⟨u,F,Q,rfl,d⟩:=C
    ·rw[VC]at y;(have G:Hid _:=y;have J:=R;clear y r A l q h1 n R U B a g;have O:∀b:Bool,aQ s[k]=b->aL ls (s.data.toList.drop k)=(if b then[s[k]]else[])++aL ls (s.data.toList.drop (k+1)):=λb hb=>by have P:=G.out;rw[HD.out]at P⊢;rw[Gn P,hb]);have HL:Hid _:=O;clear O;go_wp2;refine⟨⟨k+1,x++[s[k]],by omega,by go_num,by rw[Bg x s k X],?_,HW.out.1,HW.out.2,?_⟩,by simp[intOf];omega⟩;rw[aR,Uw,<-aR x];simp only[Ug,Uv];omega;rw[<-J.out,HL.out true ((vX _).2 ⟨by assumption,by assumption⟩),Vn];rfl;all_goals
      refine⟨⟨k+1,x,by omega,by go_num,rfl,by omega,HW.out.1,HW.out.2,?_⟩,by simp[intOf];omega⟩;rw[<-J.out,HL.out false (by
       cases hl:aQ s[k]with
       |false=>rfl
       |true=>have:=(vX _).1 hl;omega)]
      rfl
    rw[VC]at d;obtain⟨b,v,rfl,D,H⟩:=r u F;obtain⟨z1,z2,z3⟩:=n ls[u] (Up _);have D:=(kr a _).trans D;have H:=(kr a _).trans H;have G:Hid _:=d;have J:=R;have H1:Hid _:=h1;have ag:=(Va.1 (nZ d)).length_le;rw[Uq,<-Lib.size_eq,<-Lib.size_eq]at ag;clear d r A l q n R U B a g h1;go_wp2;refine⟨⟨k+ls[u].1.size,x++ls[u].2.data.toList,by omega,by go_num,by rw[mB],?_,HW.out.1,HW.out.2,?_⟩,by simp[intOf];omega⟩;rw[aR,Uw,<-aR x,<-Lib.size_eq];have:1000*(k+ls[u].1.size)=1000*k+1000*ls[u].1.size:=Nat.mul_add _ _ _;omega;have P:=G.out;rw[<-J.out];rw[HD.out]at P⊢;rw[JP H1.out P,<-HD.out,WB,Vn]
  go_wp2;go_ret;have W:=R.out;rw[UP (by rw[<-Lib.size_eq];exact hge),JO,Vb]at W;exact⟨by rw[W];rfl,l⟩
end Go.Proofs

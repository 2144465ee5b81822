import Derived.Test.YtaglpcmhopjebaaGreatDoorRows
import Derived.LaidMore
import Derived.Lay
import Derived.LaidHandle
import Derived.ProofKit
import Derived.Lib.IndexBytes
import Derived.BigQuiet
import Derived.Test.YtaglpcmhopjebaaGreatDoorT18
set_option linter.all false
set_option maxRecDepth 100000
set_option maxHeartbeats 20000000
namespace Go.Proofs
def cN(b):aP [] b=b.length:=Pl b
def db(a):aP a []=a.length:=La a
def uk(x y)(a b:Bs):aP (x::a) (y::b)=if x=y then aP a b else 1+min (aP a b) (min (aP a (y::b)) (aP (x::a) b)):=Pm x y a b
theorem o6:∀(n) (a b),a.length+b.length<=n->aP a b=aP b a
 |n,[],b,_=>by rw[cN,db]
 |n,x::a,[],_=>by rw[cN,db]
 |0,x::a,y::b,h=>by simp at h
 |n+1,x::a,y::b,h=>by
  simp only[SY]at h;rw[uk,uk,o6 n a b (by omega),o6 n a (y::b) (by simp only[SY];omega),o6 n (x::a) b (by simp only[SY];omega)];by_cases e:x=y
  ·subst e;simp
  ·rw[SQ e,SQ (Tl e)];omega
def Ey(a b):aP a b=aP b a:=o6 _ a b (SU _)
theorem rU:∀(n) (a b) (x),a.length+b.length<=n->aP a b<=aP (x::a) b+1/\aP (x::a) b<=aP a b+1
 |n,a,[],x,_=>by rw[db,db];simp only[SY];omega
 |0,a,y::b,x,h=>by simp only[SY]at h;omega
 |n+1,a,y::b,x,h=>by
  simp only[SY]at h;have c:=rU n b a y (by omega);have d:=rU n a b x (by omega);rw[Ey b a,Ey (y::b) a]at c;rw[uk];by_cases e:x=y
  ·rw[SS e];omega
  ·rw[SQ e];omega
def SM(a b x):aP a b<=aP (x::a) b+1:=(rU _ a b x (SU _)).1
def R3(a b:Bs)(x):aP (x::a) b<=aP a b+1:=(rU _ a b x (SU _)).2
def SN(a b:Bs)(x):aP a (x::b)<=aP a b+1:=by rw[Ey a b,Ey a];exact R3 b a x
def o7(a b:Bs)(x):aP (x::a) (x::b)=aP a b:=by rw[uk,SS rfl]
def Ab(a b:Bs)(x y):aP (x::a) (y::b)<=aP a b+1:=by rw[uk];split<;>omega
inductive Al:Nat->Bs->Bs->Prop
 |nil:Al 0 [] []
 |keep {n a b} (x:UInt8):Al n a b->Al n (x::a) (x::b)
 |put {n a b} (y:UInt8):Al n a b->Al (n+1) a (y::b)
 |drop {n a b} (x:UInt8):Al n a b->Al (n+1) (x::a) b
 |swap {n a b} (x y:UInt8):Al n a b->Al (n+1) (x::a) (y::b)
def Al.le{n a b}(h:Al n a b):aP a b<=n:=by induction h with|nil=>rw[cN];exact SU _|keep x _ c=>rw[o7];exact c|put y _ c=>exact SV (SN _ _ y) (by omega)|drop x _ c=>exact SV (R3 _ _ x) (by omega)|swap x y _ c=>exact SV (Ab _ _ x y) (by omega)
theorem Al.R4:∀b,Al b.length [] b
 | []=>.nil
 |y::b=>.put y (Al.R4 b)
theorem Al.Px:∀a,Al a.length a []
 | []=>.nil
 |x::a=>.drop x (Al.Px a)
theorem Al.aP:∀(n) (a b),a.length+b.length<=n->Al (aP a b) a b
 |n,[],b,_=>by rw[cN];exact Al.R4 b
 |n,x::a,[],_=>by rw[db];exact Al.Px (x::a)
 |0,x::a,y::b,h=>by simp at h
 |n+1,x::a,y::b,h=>by
  simp only[SY]at h;rw[uk];by_cases e:x=y
  ·subst e
   rw[SS rfl];exact .keep x (Al.aP n a b (by omega))
  ·rw[SQ e]
   have c:=Al.aP n a b (by omega);have d:=Al.aP n a (y::b) (by simp only[SY];omega);have f:=Al.aP n (x::a) b (by simp only[SY];omega);rcases VJ (Go.Proofs.aP a b) (min (Go.Proofs.aP a (y::b)) (Go.Proofs.aP (x::a) b))with h|h
   ·rw[VH h,Us];exact .swap x y c
   ·rw[Nat.min_eq_right h]
    rcases VJ (Go.Proofs.aP a (y::b)) (Go.Proofs.aP (x::a) b)with h|h
    ·rw[VH h,Us];exact .drop x d
    ·rw[Nat.min_eq_right h,Us];exact .put y f
def Ix(a b):Al (aP a b) a b:=Al.aP _ a b (SU _)
theorem um:∀(a b),aP a b<=max a.length b.length
 | [],b=>by rw[cN];simp
 |x::a,[]=>by rw[db];simp
 |x::a,y::b=>by have h:=Ab a b x y;have k:=um a b;simp only[SY];omega
theorem tH:∀a,aP a a=0
 | []=>by rw[cN];rfl
 |x::a=>by rw[o7];exact tH a
theorem qx:∀(a b),aP a b=0->a=b
 | [],b,h=>by rw[cN]at h;exact(Up.1 h).symm
 |x::a,[],h=>by rw[db]at h;simp at h
 |x::a,y::b,h=>by
  rw[uk]at h;by_cases e:x=y
  ·rw[SS e]at h
   rw[e,qx a b h]
  ·rw[SQ e]at h;omega
abbrev Ed:=Int×Int×Int
def codeOf(c:UInt8):Int:=(c.toNat:Int)
def bd(i:Nat):Bs->Bs->List Ed
 | [],[]=>[]
 | [],y::b=>((i:Int),0,codeOf y)::bd i [] b
 |x::a,[]=>((i:Int),1,0)::bd (i+1) a []
 |x::a,y::b=>
  if aP (x::a) (y::b)=0 then[]
  else if aP (x::a) b+1=aP (x::a) (y::b)then((i:Int),0,codeOf y)::bd i (x::a) b
  else if aP a (y::b)+1=aP (x::a) (y::b)then((i:Int),1,0)::bd (i+1) a (y::b)
  else if x≠y then((i:Int),2,codeOf y)::bd (i+1) a b
  else bd (i+1) a b
termination_by a b=>a.length+b.length
inductive Run:Nat->Bs->List Ed->Bs->Prop
 |nil {i:Nat} {a:Bs}:Run i a [] a
 |keep {i:Nat} {a:Bs} {l:List Ed} {b:Bs} {e:Ed} (x:UInt8):(i:Int)<e.1->Run (i+1) a (e::l) b->Run i (x::a) (e::l) (x::b)
 |put {i:Nat} {a:Bs} {l:List Ed} {b:Bs} (y:UInt8):bG y=true->Run i a l b->Run i a (((i:Int),0,codeOf y)::l) (y::b)
 |drop {i:Nat} {a:Bs} {l:List Ed} {b:Bs} (x:UInt8):Run (i+1) a l b->Run i (x::a) (((i:Int),1,0)::l) b
 |swap {i:Nat} {a:Bs} {l:List Ed} {b:Bs} (x y:UInt8):bG y=true->Run (i+1) a l b->Run i (x::a) (((i:Int),2,codeOf y)::l) (y::b)
def Run.later{i a e l b}(h:Run i a (e::l) b):(i:Int)<=e.1:=by cases h with|keep x h _=>omega|put=>exact VC _|drop=>exact VC _|swap=>exact VC _
def J9(i a):bd i a a=[]:=by cases a with|nil=>rw[bd]|cons x a=>rw[bd,SS (tH _)]
theorem ko:∀(n) (i) (a b),a.length+b.length<=n->b.all bG=true->Run i a (bd i a b) b/\(bd i a b).length=aP a b
 |n,i,[],[],_,_=>by rw[bd];exact⟨.nil,by rw[cN];rfl⟩
 |0,i,[],y::b,h,_=>by simp at h
 |n+1,i,[],y::b,h,c=>by simp only[U7,Td]at c;simp only[SY,Th]at h;obtain⟨d,f⟩:=ko n i [] b (by simp only[Th];omega) c.2;rw[bd];exact⟨.put y c.1 d,by rw[SY,f,cN,cN];rfl⟩
 |0,i,x::a,b,h,_=>by simp at h
 |n+1,i,x::a,[],h,c=>by simp only[SY,Th]at h;obtain⟨d,f⟩:=ko n (i+1) a [] (by simp only[Th];omega) c;rw[bd];exact⟨.drop x d,by rw[SY,f,db,db];rfl⟩
 |n+1,i,x::a,y::b,h,c=>by
  have m:=c;simp only[U7,Td]at c;simp only[SY]at h;rw[bd];by_cases k:aP (x::a) (y::b)=0
  ·rw[SS k,k,qx _ _ k]
   exact⟨.nil,rfl⟩
  ·rw[SQ k]
   by_cases d:aP (x::a) b+1=aP (x::a) (y::b)
   ·obtain⟨g,j⟩:=ko n i (x::a) b (by simp only[SY];omega) c.2
    rw[SS d];exact⟨.put y c.1 g,by rw[SY,j,d]⟩
   ·rw[SQ d]
    by_cases f:aP a (y::b)+1=aP (x::a) (y::b)
    ·obtain⟨g,j⟩:=ko n (i+1) a (y::b) (by simp only[SY];omega) m
     rw[SS f];exact⟨.drop x g,by rw[SY,j,f]⟩
    ·rw[SQ f]
     obtain⟨g,j⟩:=ko n (i+1) a b (by omega) c.2;by_cases o:x=y
     ·subst o
      rw[SQ (λh=>h rfl),o7];rw[o7]at k;refine⟨?_,j⟩;cases p:bd (i+1) a b with
      |nil=>rw[p]at j;exact absurd j.symm k
      |cons e l=>rw[p]at g;exact .keep x (by have:=g.later;omega) g
     ·rw[SS o]
      refine⟨.swap x y c.1 g,?_⟩;rw[SY,j];rw[uk,SQ o]at d f⊢;have k1:=SM a (y::b) x;omega
def jC(a b:Bs):List Ed:=bd 0 a b
def yM(a b)(c:b.all bG=true):(jC a b).length=aP a b:=(ko _ 0 a b (SU _) c).2
def own:ownKnob Tryz.prog.godebug=none:=by kernel_rfl
noncomputable def NP(os:Os):World:=(World.doorLaid Tryz.prog 50 os).layVars Tryz.prog [("unicode/utf8.first",Go.Pinned.utf8First)]
def Pk(os:Os):(NP os).os=os:=World.layVars_os _ _ _
def E8(os:Os)(args:Array Value):((NP os).forCall (λ_ _=>0) ⟨#[],args,[]⟩).Shaped Tryz.prog:=World.shaped_of_ZipB (by kernel_rfl) (by kernel_rfl)
def NR(os:Os)(args:Array Value):laidMetH Tryz.prog YtaglpcmhopjebaaGreatDoor.Rows.likeWordsRow.laid ((NP os).forCall (λ_ _=>0) ⟨#[],args,[]⟩).memory:=laidMetH_of_parts3 (fuel:=8) (laidMet_of_run' 8 (by kernel_rfl) (by kernel_rfl)) (by kernel_rfl) (by kernel_rfl)
end Go.Proofs
namespace Go.Proofs
open Go.Tm Go.RowKit
@[go_sem] theorem SP(P)(fs)(t)(w):(underlying t).run (ah P fs) w=(underlying t).run P w:=by simp only[underlying,program,bind,Sem.bind,Sem.run,aL];cases P.underlying t<;>rfl
variable {fs:Array Func} (L:bQ fs)
def Hu(c):bG c=true↔97<=(c.toNat:Int)/\(c.toNat:Int)<=122:=by simp[bG]
def Cm{s:ByteArray}{j}(a:j<s.size):s.data.toList[j]'(by simpa using a)=s[j]:=by rw[VU];rfl
def mH(a b:ByteArray):(a.toList==b.toList)=decide (a=b):=by rw[T5,Tj,T6,Lib.toList_data,Lib.toList_data];exact⟨λh=>Go.WideShapes.bytes_inj h,λh=>h▸rfl⟩
def IP{a b:ByteArray}(h:(a.toList==b.toList)=true):a=b:=by rw[mH]at h;simpa using h
def IQ{a b:ByteArray}(h:(a.toList==b.toList)=false):a≠b:=by rw[mH]at h;simpa using h
def qI(s r:ByteArray)(k:Nat)(w:World)(c:s.size<=1000000)(d:r.size<=1000000)(f:k<=s.size):Calls (Qs fs) 96 #[.string s,.int .i64 k,.string r] w λe w'=>e=.returned (.bool (Lib.occAt s.data.toList r.data.toList k))/\w'=w:=by go_enter (n96 L),Tryz.ntmps96;go_wp2;go_ret;exact⟨by rw[Lib.occ_of_piece s r k (by omega)];rfl,rfl⟩;go_ret;(refine⟨?_,rfl⟩;have:Lib.occAt s.data.toList r.data.toList k=false:=by cases a:Lib.occAt s.data.toList r.data.toList k with|false=>rfl|true=>have b:=(T8.1 (show r.data.toList.isPrefixOf (s.data.toList.drop k)=true from a)).length_le;rw[Tg,<-Lib.size_eq,<-Lib.size_eq]at b;have g:= ‹(_:Int)<_+_›;by_cases h:r.size=0;omega;omega);rw[this];rfl
def nh(l:List ByteArray)(s:ByteArray):Int:=(l.findIdx? λq=>decide (q=s)).elim (-1) λk=>(k:Int)
def IS{l:List ByteArray}{s:ByteArray}{k:Nat}(a:k<l.length)(h:l[k]=s)(b:∀j (h:j<k) (d:j<l.length),l[j]≠s):nh l s=k:=by (unfold nh;have:(l.findIdx? λq=>decide (q=s))=some k:=by rw[WG];exact⟨a,by simp[h],λj c=>by simpa using b j c (by omega)⟩);rw[this];rfl
def Fi{l:List ByteArray}{s:ByteArray}(a:∀j (d:j<l.length),l[j]≠s):nh l s= -1:=by (unfold nh;have:(l.findIdx? λq=>decide (q=s))=none:=by rw[WH];intro x b;obtain⟨j,c,rfl⟩:=UT.1 b;simpa using a j c);rw[this];rfl
def At(l s):decide (0<=nh l s)=l.any (λq=>decide (q=s)):=by
 unfold nh;cases h:(l.findIdx? λq=>decide (q=s))with
 |none=>(rw[WH]at h;have:l.any (λq=>decide (q=s))=false:=by rw[Vf];intro x a;simpa using h x a);rw[this];rfl
 |some k=>rw[WG]at h;obtain⟨c,b,_⟩:=h;have:l.any (λq=>decide (q=s))=true:=T9.2 ⟨l[k],Ti _,b⟩;rw[this];simp
def Hv{b:Type}{l:List b}{s:b}{k:Nat}(c:∀j (h:j<k) (a:j<l.length),l[j]≠s)(d:k<l.length)(h:l[k]≠s):∀j (h:j<k+1) (a:j<l.length),l[j]≠s:=by intro j e a;obtain h1|h1:=S6 j k;exact c j h1 a;(have:j=k:=by omega);subst this;exact h
def Lb{K:Nat->Prop}{v:Value}{l:List ByteArray}(s:ByteArray)(w:World)(f:aE K 1 ks w v l):Calls (Qs fs) 62 #[v,.string s] w λe w'=>e=.returned (.int .i64 (nh l s))/\w'=w:=by
 obtain⟨p,c,rfl,o,q,_,a⟩:=f;go_enter (n62 L),Tryz.ntmps62;go_wp2
 go_loop [5] (λi=>∃k:Nat,k<=l.length/\i=.int .i64 k/\∀j (h:j<k) (r:j<l.length),l[j]≠s) (λi=>l.length-(intOf i).toNat)
 case atStart=>exact⟨0,Tb _,rfl,λj h=>absurd h (Tt _)⟩
 case round=>
  obtain⟨k,t,rfl,g⟩:=hrel;obtain d|hge:=S6 k l.length
  ·obtain⟨b,m,rfl,n⟩:=a k d;(have n:w.cell? ⟨b,m+k,none⟩=some (.string l[k]):=by simpa[ks]using n);go_wp2;go_ret;exact⟨by rw[IS d (IP (by assumption)) g];rfl,rfl⟩;exact⟨⟨k+1,by omega,by go_num,Hv g d (IQ (by assumption))⟩,by simp[intOf];omega⟩
  go_wp2;go_ret;exact⟨by rw[Fi λj h=>g j (by omega) h];rfl,rfl⟩
def Lc{K:Nat->Prop}{v:Value}{l:List Int}(s:Int)(w:World)(d:aE K 1 dj w v l):Calls (Qs fs) 167 #[v,.int .i64 s] w λe w'=>e=.returned (.bool (l.contains s))/\w'=w:=by
 obtain⟨r,c,rfl,p,t,_,a⟩:=d;go_enter (n167 L),Tryz.ntmps167;go_wp2
 go_loop [5] (λi=>∃k:Nat,k<=l.length/\i=.int .i64 k/\∀j (h:j<k) (u:j<l.length),l[j]≠s) (λi=>l.length-(intOf i).toNat)
 case atStart=>exact⟨0,Tb _,rfl,λj h=>absurd h (Tt _)⟩
 case round=>
  obtain⟨k,x,rfl,n⟩:=hrel;obtain f|hge:=S6 k l.length
  ·obtain⟨b,m,rfl,o⟩:=a k f;(have o:w.cell? ⟨b,m+k,none⟩=some (.int .i64 l[k]):=by simpa[dj]using o);go_wp2;have h:= ‹(_==_)=true›;(go_ret;have g:s∈l:=by rw[<-(T6.1 h)];exact Ti _);exact⟨by simp[g],rfl⟩;have h:= ‹(_==_)=false›;exact⟨⟨k+1,by omega,by go_num,Hv n f (by simpa using h)⟩,by simp[intOf];omega⟩
  go_wp2;go_ret;have g:¬s∈l:=λg=>by obtain⟨j,q,rfl⟩:=UT.1 g;exact n j (by omega) q rfl
  exact⟨by simp[g],rfl⟩
def nE{a:Type}(p)(l:List a)(k)(b:k<l.length):((l.take (k+1)).filter p)=(l.take k).filter p++(if p l[k]then[l[k]]else[]):=by rw[UL b,UU];congr 1;simp[List.filter];split<;>simp_all
def vu{K:Nat->Prop}{v:Value}{l:List Int}(n:Int)(w:World)(d:aE K 1 dj w v l)(p:∀x∈l,0<=x/\x<=999):Calls (Qs fs) 142 #[v,.int .i64 n] w λe w'=>e=.returned (.int .i64 (aF l n))/\w'=w:=by
 obtain⟨r,c,rfl,q,s,_,a⟩:=d;go_enter (n142 L),Tryz.ntmps142;go_wp2
 go_loop [5,6] (λm i=>∃k:Nat,k<=l.length/\i=.int .i64 k/\m=.int .i64 (aF (l.take k) n)) (λm i=>l.length-(intOf i).toNat)
 case atStart=>exact⟨0,Tb _,rfl,rfl⟩
 case round=>
  obtain⟨k,t,rfl,rfl⟩:=hrel;have u:aF (l.take k) n<=k:=by unfold aF;exact SV (TK _ _) (by simp;omega)
  obtain f|hge:=S6 k l.length
  ·obtain⟨b,j,rfl,o⟩:=a k f;(have o:w.cell? ⟨b,j+k,none⟩=some (.int .i64 l[k]):=by simpa[dj]using o);(obtain⟨y,z⟩:=p l[k] (Ti _);have g:aF (l.take (k+1)) n=aF (l.take k) n+(if l[k]/100==n then 1 else 0):=by unfold aF;rw[nE _ _ _ f,To];split<;>rfl);go_wp2;have h:= ‹(_==n)=true›;exact⟨⟨k+1,by omega,by go_num,by rw[g,SS h];go_num⟩,by simp[intOf];omega⟩;have h:= ‹(_==n)=false›;exact⟨⟨k+1,by omega,by go_num,by rw[g,SQ (by rw[h];exact Vx)];go_num⟩,by simp[intOf];omega⟩
  go_wp2;go_ret;rw[Vy hge];exact⟨rfl,rfl⟩
end Go.Proofs
namespace Go.Proofs
open Go.Tm Go.RowKit
def Al.append{n a b}(h:Al n a b):∀{m c d},Al m c d->Al (n+m) (a++c) (b++d):=by induction h with|nil=>intro m c d h;simpa using h|keep x _ e=>intro m c d h;exact .keep x (e h)|put y _ e=>intro m c d h;have:=Al.put y (e h);rw[show ∀n m:Nat,n+1+m=n+m+1 fromλn m=>by omega];exact this|drop x _ e=>intro m c d h;have:=Al.drop x (e h);rw[show ∀n m:Nat,n+1+m=n+m+1 fromλn m=>by omega];exact this|swap x y _ e=>intro m c d h;have:=Al.swap x y (e h);rw[show ∀n m:Nat,n+1+m=n+m+1 fromλn m=>by omega];exact this
def Al.rev{n a b}(h:Al n a b):Al n a.reverse b.reverse:=by induction h with|nil=>exact .nil|keep x _ c=>simpa using c.append (.keep x .nil)|put y _ c=>simpa using c.append (.put y .nil)|drop x _ c=>simpa using c.append (.drop x .nil)|swap x y _ c=>simpa using c.append (.swap x y .nil)
def NO(a b:Bs):aP a.reverse b.reverse=aP a b:=by have d:=(Ix a b).rev.le;have c:=(Ix a.reverse b.reverse).rev.le;rw[WE,WE]at c;omega
def lp(a b:Bs):bI a b=bI b a:=by unfold bI;rw[Ey a b,Nat.max_comm a.length b.length,Bool.or_comm]
def Ho(a b:Bs):bI a.reverse b.reverse=bI a b:=by unfold bI;rw[NO,UX,UX,List.isEmpty_reverse,List.isEmpty_reverse]
def EV(a b:Bs):bI a b.reverse=bI b a.reverse:=by rw[<-Ho a b.reverse,WE,lp]
def oK(a:Bs):bI a []=0:=by rw[lp];rfl
def uy{a:Bs}(h:a≠[]):bI a a=100:=by (unfold bI;have b:a.isEmpty=false:=by simpa using h);have c:0<a.length:=TW.2 h;rw[b,tH,Nat.max_self,Bool.or_self,SQ (by decide)];rw[show(100*((a.length:Int)-((0:Nat):Int)))=100*(a.length:Int) by simp];exact VB _ (by omega)
def Am(a b:Bs):jL a b=jL b a:=by unfold jL;obtain h|h|h:=Vw a.length b.length;rw[SQ (by omega),SS h];rw[SQ (by omega),SQ (by omega)];(have e:∀{x y:Bs},x.length=y.length->(x.isPrefixOf y=decide (x=y)/\x.isSuffixOf y=decide (x=y)):=λ{x y} c=>by constructor;rw[T5,T8,Tj];exact⟨λh=>h.eq_of_length c,λh=>h▸VV _⟩;rw[T5,WJ,Tj];exact⟨λh=>h.eq_of_length c,λh=>h▸List.suffix_refl _⟩);simp only[];rw[(e h).1,(e h).2,(e h.symm).1,(e h.symm).2,h];simp only[eq_comm];rw[SS h,SQ (by omega)]
def KR(a:Bs):jL a a=if a.length<3 then 0 else 100:=by unfold jL;rw[SQ (by omega)];simp only[];have b:a.isPrefixOf a=true:=T8.2 (VV _);rw[b];by_cases h:a.length<3;rw[SS h,Ta h];rfl;rw[SQ h,S9 h];simp only[Ud,Wv,Bool.or_false,Tn,Tk];exact VB _ (by omega)
def EW(b:Bs):jL [] b=0:=by unfold jL;rw[SQ (by simp)];rfl
def KS(a:Bs):jL a []=0:=by rw[Am,EW]
def uz(t:Table)(a b:Bs):dS t a b=dS t b a:=by (unfold dS;have c:(t.di.any λl=>l.any (λs=>s.data.toList==a)&&l.any (λs=>s.data.toList==b))=(t.di.any λl=>l.any (λs=>s.data.toList==b)&&l.any (λs=>s.data.toList==a)):=by congr 1;funext l;exact Bool.and_comm _ _);(have d:(a==b&& !a.isEmpty)=(b==a&& !b.isEmpty):=by by_cases h:a=b;rw[h];rw[show(a==b)=false by simpa using h,show(b==a)=false by simpa usingλe=>h e.symm];rfl);rw[c,d]
def EX(t:Table){a:Bs}(h:a≠[]):dS t a a=100:=by (unfold dS;have b:a.isEmpty=false:=by simpa using h);rw[b];simp
theorem uA{a}(p:a->Bool):∀l:List a,(l.filter p).length+(l.filter λx=> !p x).length=l.length
 | []=>rfl
 |x::l=>by have b:=uA p l;cases h:p x<;>simp[h]<;>omega
def lq(a b:List Int):(aY a b).length=a.length-(a.filter λn=>b.contains n).length:=by unfold aY;have h:=uA (λn=>b.contains n) a;have c:a.filter (λx=> !(λn=>b.contains n) x)=a.filter λn=> !b.contains n:=rfl;rw[c]at h;omega
def uB{a b:List Int}(c:a.Nodup)(d:b.Nodup):(a.filter λn=>b.contains n).length=(b.filter λn=>a.contains n).length:=by refine List.Perm.length_eq ?_;rw[Wy (c.filter _) (d.filter _)];intro x;simp[and_comm]
def yS{a b:List Int}(c:a.Nodup)(d:b.Nodup):bp a b=bp b a:=by unfold bp;have e:=lq a b;have f:=lq b a;have g:=uB c d;have h:(a.filter λn=>b.contains n).length<=a.length:=TK _ _;have i:(b.filter λn=>a.contains n).length<=b.length:=TK _ _;rw[Bool.or_comm];split;rfl;simp only[];rw[show a.length-(aY a b).length=b.length-(aY b a).length by omega,Us a.length b.length];simp only[Nat.min_comm]
def Hp(a:List Int):aY a a=[]:=by unfold aY;rw[List.filter_eq_nil_iff];intro x b;simp[b]
def yT{a:List Int}(h:a≠[]):bp a a=100:=by (unfold bp;have b:a.isEmpty=false:=by simpa using h);(have d:0<a.length:=TW.2 h;rw[b,Hp];simp only[Bool.or_self,Tn,Tk,Th,Nat.sub_zero];have c:((List.range 10).map λ(n:Nat)=>min (aF ([]:List Int) n) (aF [] n)).sum=0:=by decide);rw[c,show(100*(((2*a.length+0:Nat)):Int))=100*((a.length+a.length:Nat):Int) by push_cast;omega];exact VB _ (by omega)
def Cg(t:Table)(k:Int){one two:Mark}(b:one.aJ.Nodup)(c:two.aJ.Nodup):aS t k one two=aS t k two one:=by unfold aS;simp only[];split;exact lp _ _;split;congr 1;funext a k;rw[lp];split;exact uz _ _ _;split;exact EV _ _;split;exact Am _ _;exact yS b c
end Go.Proofs
namespace Go.Proofs
open Go.Tm Go.RowKit
variable {fs:Array Func} (L:bQ fs)
def bs(l:Bs):ByteArray:=⟨l.toArray⟩
def dh(l):(bs l).data.toList=l:=by simp[bs]
def bR(l):(bs l).size=l.length:=by rw[Lib.size_eq,dh]
def pU{a b:ByteArray}(h:a.data.toList=b.data.toList):a=b:=Go.WideShapes.bytes_inj h
def Cn(a b:ByteArray):(a++b).data.toList=a.data.toList++b.data.toList:=by obtain⟨⟨a⟩⟩:=a;obtain⟨⟨b⟩⟩:=b;simp
def sK(x)(r:ByteArray):bs x++r=bs (x++r.data.toList):=pU (by rw[Cn,dh,dh])
def Au(x)(s:ByteArray)(k)(b:k<s.size):bs x++s.extract k (k+1)=bs (x++[s[k]]):=by rw[sK,Lib.extract_data];congr 2;(have a:k<s.data.toList.length:=by rwa[<-Lib.size_eq]);rw[UW a,WI];simp only[TE,TL];rw[Cm b]
def drop_cons(s:ByteArray)(k)(b:k<s.size):s.data.toList.drop k=s[k]::s.data.toList.drop (k+1):=by (have a:k<s.data.toList.length:=by rwa[<-Lib.size_eq]);rw[UW a,Cm b]
def yd(f t:Bs)(e:f≠[]):∀(n m) (s),s.length<=n->s.length<=m->eJ f t n s=eJ f t m s:=by have a:=TW.2 e;intro n;induction n with|zero=>intro m s h _;have:s=[]:=TD (by omega);subst this;cases m<;>rfl|succ n b=>intro m s h d;cases s with|nil=>cases m<;>rfl|cons c cs=>cases m with|zero=>simp at d|succ m=>(simp only[SY]at h d;unfold eJ;have g:((c::cs).drop f.length).length<=n:=by rw[Tg,SY];omega);(have i:((c::cs).drop f.length).length<=m:=by rw[Tg,SY];omega);rw[b m _ g i,b m cs (by omega) (by omega)]
def jM(p):bT p []=[]:=rfl
def mI{p s}(b:p.1.data.toList.isPrefixOf s=true)(a:p.1.data.toList≠[]):bT p s=p.2.data.toList++bT p (s.drop p.1.data.toList.length):=by cases s with|nil=>have:=(T8.1 b).length_le;exact absurd (TD (Nat.le_zero.1 this)) a|cons c cs=>have d:=TW.2 a;show eJ _ _ (cs.length+1) (c::cs)=_;unfold eJ;rw[SS b];congr 1;exact yd _ _ a _ _ _ (by rw[Tg,SY];omega) (SU _)
def lz{p c}{s:Bs}(a:p.1.data.toList.isPrefixOf (c::s)=false):bT p (c::s)=c::bT p s:=by show eJ _ _ (s.length+1) (c::s)=_;unfold eJ;rw[a];rfl
def az(w:World)(c)(e i:Nat)(v)(h:c[i]? =some v):(w.alloc (.cells c e)).cell? ⟨w.heap.size,i,none⟩=some v:=by unfold World.cell? World.alloc;simp[h]
def aK(w o):Below w.heap.size w (w.alloc o):=(Below.refl _ w).alloc (SU _) o
def Co(s:ByteArray)(p:Pr2)(w:World)(z:s.size<=1000)(A:1<=p.1.size)(B:p.1.size<=1000)(C:p.2.size<=1000):Calls (Qs fs) 113 #[.string s,.agg #[.string p.1,.string p.2]] w λe w'=>e=.returned (.string (bs (bT p s.data.toList)))/\Below w.heap.size w w':=by
 have e96:=e96 L;have n:p.1.data.toList≠[]:=by intro h;have l:=Lib.size_eq p.1;rw[h]at l;have D:p.1.size=0:=l;omega
 have q:=az w #[.string p.1,.string p.2] 51 0 (.string p.1) rfl;have r:=az w #[.string p.1,.string p.2] 51 1 (.string p.2) rfl;have t:Hid (Below w.heap.size w (w.alloc (.cells #[.string p.1,.string p.2] 51))):=aK w _;go_enter (n113 L),Tryz.ntmps113;go_wp2
 go_loop [5,6] (λo i=>∃(k:Nat) (x:Bs),k<=s.size/\i=.int .i64 k/\o=.string (bs x)/\(bs x).size<=1000*k/\x++bT p (s.data.toList.drop k)=bT p s.data.toList) (λo i=>s.size-(intOf i).toNat)
 case atStart=>exact⟨0,[],Tb _,rfl,rfl,Tb _,rfl⟩
 case round=>
  obtain⟨k,x,E,rfl,rfl,u,a⟩:=hrel;have g:Hid _:=a;clear a;obtain b|hge:=S6 k s.size
  ·have c:=drop_cons s k b;have m:Hid _:=c;clear c;have v:=λy=>qI L s p.1 k y (by omega) (by omega) (by omega);go_wp2_with (first|(go_at_call 96;refine(v _).mono ?_;rintro e w' ⟨rfl,rfl⟩));have f:= ‹Lib.occAt _ _ _=true›;have d:=(T8.1 (show p.1.data.toList.isPrefixOf (s.data.toList.drop k)=true from f)).length_le;rw[Tg,<-Lib.size_eq,<-Lib.size_eq]at d;refine⟨⟨k+p.1.size,x++p.2.data.toList,by omega,by go_num,by rw[sK],?_,?_⟩,by simp[intOf];omega⟩;rw[bR,To,<-bR x,<-Lib.size_eq];have:1000*(k+p.1.size)=1000*k+1000*p.1.size:=Nat.mul_add _ _ _;omega;rw[<-g.out,mI f n,Vg,<-Lib.size_eq,Uj];have f:= ‹Lib.occAt _ _ _=false›;refine⟨⟨k+1,x++[s[k]],by omega,by go_num,by rw[Au x s k b],?_,?_⟩,by simp[intOf];omega⟩;rw[bR,To,<-bR x];simp only[SY,Th];omega;rw[<-g.out,m.out];(have j:p.1.data.toList.isPrefixOf (s[k]::s.data.toList.drop (k+1))=false:=by rw[<-m.out];exact f);rw[lz j,Uj];rfl
  go_wp2;go_ret;have a:=g.out;rw[Tz (by rw[<-Lib.size_eq];exact hge),jM,Ux]at a;exact⟨by rw[a];rfl,t.out⟩
def Ld(s:ByteArray)(w:World)(d:s.size<=1000):Calls (Qs fs) 117 #[.string s] w λe w'=>e=.returned (.string (bs s.data.toList.reverse))/\w'=w:=by
 go_enter (n117 L),Tryz.ntmps117;go_wp2
 go_loop [3,4] (λo i=>∃(k:Nat) (x:Bs),k<=s.size/\i=.int .i64 ((k:Int)-1)/\o=.string (bs x)/\(bs x).size<=1000/\x=(s.data.toList.drop k).reverse) (λo i=>(intOf i+1).toNat)
 case atStart=>exact⟨s.size,[],SU _,by simp,rfl,by decide,by rw[Tz (by rw[<-Lib.size_eq];exact SU _)];rfl⟩
 case round=>
  obtain⟨k,x,f,rfl,rfl,c,a⟩:=hrel;have b:Hid _:=a;clear a;obtain rfl|hpos:=TX k
  ·go_wp2;go_ret;have a:=b.out;rw[TF]at a;exact⟨by rw[a];rfl,rfl⟩
  obtain⟨j,rfl⟩:∃j,k=j+1:=⟨k-1,by omega⟩
  go_wp2;have a:=b.out;refine⟨⟨j,x++[s[j]],by omega,rfl,by rw[Au x s j (by omega)],?_,?_⟩,by simp[intOf]⟩;rw[bR,To,a,UX,Tg,<-Lib.size_eq];simp only[SY,Th];omega;rw[a,drop_cons s j (by omega),List.reverse_cons]
def N9{a b:ByteArray}(d:a.size<=b.size):jL a.data.toList b.data.toList= if a.size<3\/(Lib.occAt b.data.toList a.data.toList 0=false/\Lib.occAt b.data.toList a.data.toList (b.size-a.size)=false)then 0 else(100*a.size:Int)/b.size:=by (have c:a.data.toList.isSuffixOf b.data.toList=Lib.occAt b.data.toList a.data.toList (b.size-a.size):=by (have h:=Lib.hasSuffix_of_drop b.data.toList a.data.toList;unfold Lib.hasSuffix at h;rw[<-h,<-Lib.size_eq,<-Lib.size_eq,Ta d,Vh];unfold Lib.occAt;have e:(b.data.toList.drop (b.size-a.size)).length=a.data.toList.length:=by rw[Tg,<-Lib.size_eq,<-Lib.size_eq];omega);rw[T5,T6,T8];exact⟨λh=>h▸VV _,λh=>(List.IsPrefix.eq_of_length h e.symm).symm⟩);unfold jL;rw[<-Lib.size_eq,<-Lib.size_eq,SQ (by omega)];simp only[];rw[<-Lib.size_eq,<-Lib.size_eq,c,show a.data.toList.isPrefixOf b.data.toList=Lib.occAt b.data.toList a.data.toList 0 from rfl];cases Lib.occAt b.data.toList a.data.toList 0<;>cases Lib.occAt b.data.toList a.data.toList (b.size-a.size)<;>simp
def Le(a b:ByteArray)(w:World)(g:a.size<=1000)(i:b.size<=1000)(c:a.size<=b.size):Calls (Qs fs) 118 #[.string a,.string b] w λe w'=>e=.returned (.int .i64 (jL a.data.toList b.data.toList))/\w'=w:=by
 have e96:=e96 L;have f:∀wx,Calls (Qs fs) 96 #[.string b,.int .i64 0,.string a] wx λe w'=>e=.returned (.bool (Lib.occAt b.data.toList a.data.toList 0))/\w'=wx:=λwx=>qI L b a 0 wx (by omega) (by omega) (by omega);have d:∀wx,Calls (Qs fs) 96 #[.string b,.int .i64 ((b.size:Int)-a.size),.string a] wx λe w'=>e=.returned (.bool (Lib.occAt b.data.toList a.data.toList (b.size-a.size)))/\w'=wx:=λwx=>by rw[show(b.size:Int)-a.size=((b.size-a.size:Nat):Int) by omega];exact qI L b a (b.size-a.size) wx (by omega) (by omega) (by omega)
 go_enter (n118 L),Tryz.ntmps118;go_wp2_with (first|(go_at_call 96;refine(f _).mono ?_;rintro e w' ⟨rfl,rfl⟩)|(go_at_call 96;refine(d _).mono ?_;rintro e w' ⟨rfl,rfl⟩));all_goals
  go_ret;refine⟨?_,rfl⟩;rw[N9 c];first
   |(rw[SS (by first|(left;omega)|(right;simp_all;done)|(right;simp_all;rcases ‹_\/_› with h|h<;>first|omega|exact h))];rfl)
   |(rw[SQ (by simp_all;try omega)];rfl)
def yW{a b:ByteArray}(h:b.size<a.size):jL a.data.toList b.data.toList=jL b.data.toList a.data.toList:=by unfold jL;rw[<-Lib.size_eq,<-Lib.size_eq,SS h,SQ (by omega)]
def Rg(a b:ByteArray)(w:World)(d:a.size<=1000)(f:b.size<=1000):Calls (Qs fs) 118 #[.string a,.string b] w λe w'=>e=.returned (.int .i64 (jL a.data.toList b.data.toList))/\w'=w:=by
 obtain c|hge:=S6 b.size a.size
 ·have NU:=NU L;have g:=λh=>Le L b a h f d (by omega);go_enter (n118 L),Tryz.ntmps118;go_wp2_with (first|(go_at_call 118;refine(g _).mono ?_;rintro e w' ⟨rfl,rfl⟩));go_ret;exact⟨by rw[yW c];rfl,rfl⟩
 exact Le L a b w d f hge
structure OkT(t:Table):Prop where
 lets:∀p∈t.aq,1<=p.1.size/\p.1.size<=4/\p.2.size<=3
 Rh:t.aq.length<=12
 aU:∀x∈t.aw,∀p∈x.aU,1<=p.1.size/\p.1.size<=3/\p.2.size<=p.1.size
 Hw:∀x∈t.aw,x.aU.length<=5
 vv:t.aw.length<=3
 PD:t.di.length<=4
def dV(rest:Bs)(a:Option Pr2)(p:Pr2):Option Pr2:=if p.1.data.toList.isPrefixOf rest&&decide ((a.elim 0 λq=>q.1.size)<p.1.size)then some p else a
def jN(a:List Pr2)(k)(b:k<a.length)(rest):bJ (a.take (k+1)) rest=dV rest (bJ (a.take k) rest) a[k]:=by unfold bJ;rw[UL b,Vi];rfl
def hU(a:List Pr2)(rest:Bs)(k:Nat)(b:Int):Prop:=(b= -1/\bJ (a.take k) rest=none)\/∃j,∃h:j<a.length,j<k/\b=j/\bJ (a.take k) rest=some a[j]
def hU.start(a rest):hU a rest 0 (-1):=.inl ⟨rfl,rfl⟩
def Av(rest):∀(a:List Pr2) (b) (p),a.foldl (dV rest) b=some p->p∈a\/b=some p:=by intro a;induction a with|nil=>exactλb p h=>.inr h|cons q a c=>intro b p h;obtain h|h:=c _ p h;exact .inl (.tail _ h);unfold dV at h;split at h;cases h;exact .inl (.head _);exact .inr h
def gH{ls rest p}(h:bJ ls rest=some p):p∈ls:=by obtain h|h:=Av rest ls none p h;exact h;cases h
def uE(rest:Bs):∀(c:List Pr2) (b),(∀p,b=some p->p.1.data.toList.isPrefixOf rest=true)->∀p,c.foldl (dV rest) b=some p->p.1.data.toList.isPrefixOf rest=true:=by intro c;induction c with|nil=>exactλb d p h=>d p h|cons q c f=>intro b d p h;refine f _ (λg a=>?_) p h;unfold dV at a;split at a;rename_i e;cases a;simp only[Td]at e;exact e.1;exact d g a
def nF{a rest p}(h:bJ a rest=some p):p.1.data.toList.isPrefixOf rest=true:=uE rest a none (λp h=>by cases h) p h
def Fj(a:List Pr2)(e:∀p∈a,1<=p.1.size):∀(n m) (s),s.length<=n->s.length<=m->kR a n s=kR a m s:=by intro n;induction n with|zero=>intro m s h _;have:s=[]:=TD (by omega);subst this;cases m<;>rfl|succ n b=>intro m s h d;cases s with|nil=>cases m<;>rfl|cons c cs=>cases m with|zero=>simp at d|succ m=>simp only[SY]at h d;unfold kR;cases f:bJ a (c::cs)with|none=>simp only[];rw[b m cs (by omega) (by omega)]|some p=>have g:=gH f;have:=e p g;simp only[];rw[b m _ (by rw[Tg,SY];omega) (by rw[Tg,SY];omega)]
def jY{w w':World}(h:w'.heap=w.heap)(a):w'.cell? a=w.cell? a:=by unfold World.cell?;rw[h]
def IT(a):aI a []=[]:=rfl
def IU{a:List Pr2}(b:∀p∈a,1<=p.1.size){c}{s:Bs}{p}(d:bJ a (c::s)=some p):aI a (c::s)=p.2.data.toList++aI a ((c::s).drop p.1.size):=by have e:=b p (gH d);show kR a (s.length+1) (c::s)=_;unfold kR;rw[d];simp only[];congr 1;exact Fj _ b _ _ _ (by rw[Tg,SY];omega) (SU _)
def Fo{a c}{s:Bs}(b:bJ a (c::s)=none):aI a (c::s)=(if bG c then[c]else[])++aI a s:=by show kR a (s.length+1) (c::s)=_;unfold kR;rw[b];rfl
def hU.skip{a rest k b}(h:hU a rest k b)(d:k<a.length)(e:dV rest (bJ (a.take k) rest) a[k]=bJ (a.take k) rest):hU a rest (k+1) b:=by obtain⟨f,c⟩|⟨j,g,f,c,i⟩:=h;exact .inl ⟨f,by rw[jN _ _ d,e,c]⟩;exact .inr ⟨j,g,by omega,c,by rw[jN _ _ d,e,i]⟩
def hU.take{a rest k}(b:k<a.length)(c:dV rest (bJ (a.take k) rest) a[k]=some a[k]):hU a rest (k+1) k:=.inr ⟨k,b,T7 _,rfl,by rw[jN _ _ b,c]⟩
def Cq{K:Nat->Prop}{v0 v1 v2:Value}{t:Table}(s:ByteArray)(w:World)(ht:IsTable K w v0 v1 v2 t)(ok:OkT t)(hs:s.size<=1000):Calls (Qs fs) 54 #[.agg #[v0,v1,v2],.string s] w λe w'=>e=.returned (.string (bs (aI t.aq s.data.toList)))/\Below w.heap.size w w':=by
 have e96:=e96 L;obtain⟨⟨S,c,rfl,aa,hc,_,m⟩,_,_⟩:=ht;have n:=ok.lets;have ab:=ok.Rh;clear ok;obtain⟨ls,T⟩:=ex (t.aq);rw[<-T]at aa m n ab⊢;clear T;have h1:∀p∈ls,1<=p.1.size:=λp hp=>(n p hp).1;have q:=az w #[.slice S ls.length c,v1,v2] 26 0 _ rfl;have U:=aK w (.cells #[.slice S ls.length c,v1,v2] 26);have r:∀(k:Nat) (h:k<ls.length),∃b v,S=some ⟨b,v,none⟩/\dB K (w.alloc (.cells #[.slice S ls.length c,v1,v2] 26)) b (v+k*2) ls[k]:=λk h=>by obtain⟨b,v,e,P⟩:=m k h;exact⟨b,v,e,dB.carry (Carry.keep (ae.below (aK w _))) b b _ _ rfl P⟩
 clear m;obtain⟨w1,V⟩:=ex (w.alloc (.cells #[.slice S ls.length c,v1,v2] 26));go_enter (n54 L),Tryz.ntmps54;go_wp2;rw[<-V]at q U r⊢;obtain⟨N,hN⟩:=ex (w.heap.size);rw[<-hN]at q⊢;clear V hN;go_loopw [5,6] (λo i wr=>∃(k:Nat) (x:Bs),k<=s.size/\i=.int .i64 k/\o=.string (bs x)/\(bs x).size<=1000*k/\wr.heap=w1.heap/\Below w.heap.size w wr/\x++aI ls (s.data.toList.drop k)=aI ls s.data.toList) (λo i _=>s.size-(intOf i).toNat);case atStart=>exact⟨0,[],Tb _,rfl,rfl,Tb _,rfl,U,rfl⟩
 case round=>
  obtain⟨k,x,hk,rfl,rfl,ar,A,l,W⟩:=hrel;have R:Hid _:=W;clear W;obtain X|hge:=S6 k s.size
  ·have B:=(jY A _).trans q;have Y:=drop_cons s k X;have HD:Hid _:=Y;clear Y;go_wp2;go_loopw [7,8] (λb i wr=>∃(j:Nat) (b0:Int),j<=ls.length/\i=.int .i64 j/\b=.int .i64 b0/\hU ls (s.data.toList.drop k) j b0/\wr.heap=w1.heap/\Below w.heap.size w wr) (λb i _=>ls.length-(intOf i).toNat);case atStart=>exact⟨0,-1,Tb _,rfl,rfl,hU.start _ _,A,l⟩
   case round=>
    (obtain⟨j,b0,hj,rfl,rfl,C,a,g⟩:=hrel;have ak:=(jY a _).trans q;have HW:Hid _:=(⟨a,g⟩:wr.heap=w1.heap/\Below w.heap.size w wr));obtain f|hjge:=S6 j ls.length
    ·obtain⟨b,v,rfl,D,H⟩:=r j f;have ad:=n ls[j] (Ti _);obtain⟨z1,z2,z3⟩:=ad;have D:=(jY a _).trans D;have E:=r;clear a g A l q H h1 n R U B r;have I:=λwx=>qI L s ls[j].1 k wx (by omega) (by omega) (by omega);obtain⟨rfl,y⟩|⟨u,F,Q,rfl,d⟩:=C
     ·have G:Hid _:=y;clear y E;cases z:Lib.occAt s.data.toList ls[j].1.data.toList k with|false=>simp only[z]at I;have M:Hid _:=z;clear z;go_wp2;go_quiet (first|(go_at_call 96;exact Calls.quiet_of_same (I _)));go_wp2;refine⟨⟨j+1,-1,by omega,by go_num,rfl,hU.skip (.inl ⟨rfl,G.out⟩) f ?_,HW.out.1,Go.below_drewN HW.out.2 _⟩,by simp[intOf];omega⟩;unfold dV;rw[show ls[j].1.data.toList.isPrefixOf (s.data.toList.drop k)=false from M.out];rfl|true=>simp only[z]at I;have M:Hid _:=z;clear z;go_wp2;go_quiet (first|(go_at_call 96;exact Calls.quiet_of_same (I _)));go_wp2;refine⟨⟨j+1,j,by omega,by go_num,rfl,hU.take f ?_,HW.out.1,Go.below_drewN HW.out.2 _⟩,by simp[intOf];omega⟩;unfold dV;rw[show ls[j].1.data.toList.isPrefixOf (s.data.toList.drop k)=true from M.out,G.out,Vh];exact SS (Ta (show(0:Nat)<ls[j].1.size by omega))
     obtain⟨b2,an,e2,Z,_⟩:=E u F
     cases e2;have Z:=(jY HW.out.1 _).trans Z;have G:Hid _:=d;clear d E;cases z:Lib.occAt s.data.toList ls[j].1.data.toList k with
     |false=>simp only[z]at I;have M:Hid _:=z;clear z;go_wp2;go_quiet (first|(go_at_call 96;exact Calls.quiet_of_same (I _)));go_wp2;refine⟨⟨j+1,u,by omega,by go_num,rfl,hU.skip (.inr ⟨u,F,Q,rfl,G.out⟩) f ?_,HW.out.1,Go.below_drewN HW.out.2 _⟩,by simp[intOf];omega⟩;unfold dV;rw[show ls[j].1.data.toList.isPrefixOf (s.data.toList.drop k)=false from M.out];rfl
     |true=>
      simp only[z]at I;have M:Hid _:=z;clear z;obtain hcmp|hcmp:=S6 ls[u].1.size ls[j].1.size
      ·go_wp2;go_quiet (first|(go_at_call 96;exact Calls.quiet_of_same (I _)));go_wp2;refine⟨⟨j+1,j,by omega,by go_num,rfl,hU.take f ?_,HW.out.1,Go.below_drewN HW.out.2 _⟩,by simp[intOf];omega⟩;unfold dV;rw[show ls[j].1.data.toList.isPrefixOf (s.data.toList.drop k)=true from M.out,G.out];simp[hcmp]
      go_wp2;go_quiet (first|(go_at_call 96;exact Calls.quiet_of_same (I _)));go_wp2;refine⟨⟨j+1,u,by omega,by go_num,rfl,hU.skip (.inr ⟨u,F,Q,rfl,G.out⟩) f ?_,HW.out.1,Go.below_drewN HW.out.2 _⟩,by simp[intOf];omega⟩;unfold dV;rw[show ls[j].1.data.toList.isPrefixOf (s.data.toList.drop k)=true from M.out,G.out,Vh,SQ (by rw[Tj];show ¬ls[u].1.size<ls[j].1.size;omega)]
    (have af:j=ls.length:=by omega);subst af;obtain⟨rfl,y⟩|⟨u,F,Q,rfl,d⟩:=C
    ·rw[Uo]at y;(have G:Hid _:=y;have J:=R;clear y r A l q h1 n R U B a g;have O:∀b:Bool,bG s[k]=b->aI ls (s.data.toList.drop k)=(if b then[s[k]]else[])++aI ls (s.data.toList.drop (k+1)):=λb hb=>by have P:=G.out;rw[HD.out]at P⊢;rw[Fo P,hb]);have HL:Hid _:=O;clear O;go_wp2;refine⟨⟨k+1,x++[s[k]],by omega,by go_num,by rw[Au x s k X],?_,HW.out.1,HW.out.2,?_⟩,by simp[intOf];omega⟩;rw[bR,To,<-bR x];simp only[SY,Th];omega;rw[<-J.out,HL.out true ((Hu _).2 ⟨by assumption,by assumption⟩),Uj];rfl;all_goals
      refine⟨⟨k+1,x,by omega,by go_num,rfl,by omega,HW.out.1,HW.out.2,?_⟩,by simp[intOf];omega⟩;rw[<-J.out,HL.out false (by
       cases hl:bG s[k]with
       |false=>rfl
       |true=>have:=(Hu _).1 hl;omega)]
      rfl
    rw[Uo]at d;obtain⟨b,v,rfl,D,H⟩:=r u F;obtain⟨z1,z2,z3⟩:=n ls[u] (Ti _);have D:=(jY a _).trans D;have H:=(jY a _).trans H;have G:Hid _:=d;have J:=R;have H1:Hid _:=h1;have ag:=(T8.1 (nF d)).length_le;rw[Tg,<-Lib.size_eq,<-Lib.size_eq]at ag;clear d r A l q n R U B a g h1;go_wp2;refine⟨⟨k+ls[u].1.size,x++ls[u].2.data.toList,by omega,by go_num,by rw[sK],?_,HW.out.1,HW.out.2,?_⟩,by simp[intOf];omega⟩;rw[bR,To,<-bR x,<-Lib.size_eq];have:1000*(k+ls[u].1.size)=1000*k+1000*ls[u].1.size:=Nat.mul_add _ _ _;omega;have P:=G.out;rw[<-J.out];rw[HD.out]at P⊢;rw[IU H1.out P,<-HD.out,Vg,Uj]
  go_wp2;go_ret;have W:=R.out;rw[Tz (by rw[<-Lib.size_eq];exact hge),IT,Ux]at W;exact⟨by rw[W];rfl,l⟩
end Go.Proofs

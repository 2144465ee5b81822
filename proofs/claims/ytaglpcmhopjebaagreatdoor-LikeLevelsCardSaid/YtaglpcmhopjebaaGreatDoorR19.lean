import Derived.Test.YtaglpcmhopjebaaGreatDoorRows
import Derived.LaidMore
import Derived.Lay
import Derived.LaidHandle
import Derived.ProofKit
import Derived.Lib.IndexBytes
import Derived.BigQuiet
import Derived.Test.YtaglpcmhopjebaaGreatDoorR18
set_option linter.all false
set_option maxRecDepth 100000
set_option maxHeartbeats 20000000
namespace Go.Proofs
def dP(b):aS [] b=b.length:=OZ b
def dv(a):aS a []=a.length:=KL a
def xC(x y)(a b:Bs):aS (x::a) (y::b)=if x=y then aS a b else 1+min (aS a b) (min (aS a (y::b)) (aS (x::a) b)):=O0 x y a b
theorem oX:∀(n) (a b),a.length+b.length<=n->aS a b=aS b a
 |n,[],b,_=>by rw[dP,dv]
 |n,x::a,[],_=>by rw[dP,dv]
 |0,x::a,y::b,h=>by simp at h
 |n+1,x::a,y::b,h=>by
  simp only[Ss]at h;rw[xC,xC,oX n a b (by omega),oX n a (y::b) (by simp only[Ss];omega),oX n (x::a) b (by simp only[Ss];omega)];by_cases e:x=y
  ·subst e;simp
  ·rw[Sm e,Sm (SN e)];omega
def Pa(a b):aS a b=aS b a:=oX _ a b (Sp _)
theorem xD:∀(n) (a b) (x),a.length+b.length<=n->aS a b<=aS (x::a) b+1/\aS (x::a) b<=aS a b+1
 |n,a,[],x,_=>by rw[dv,dv];simp only[Ss];omega
 |0,a,y::b,x,h=>by simp only[Ss]at h;omega
 |n+1,a,y::b,x,h=>by
  simp only[Ss]at h;have c:=xD n b a y (by omega);have d:=xD n a b x (by omega);rw[Pa b a,Pa (y::b) a]at c;rw[xC];by_cases e:x=y
  ·rw[Sn e];omega
  ·rw[Sm e];omega
def Sj(a b x):aS a b<=aS (x::a) b+1:=(xD _ a b x (Sp _)).1
def tF(a b:Bs)(x):aS (x::a) (x::b)=aS a b:=by rw[xC,Sn rfl]
def JR(a b:Bs)(x y):aS (x::a) (y::b)<=aS a b+1:=by rw[xC];split<;>omega
theorem uk:∀(a b),aS a b<=max a.length b.length
 | [],b=>by rw[dP];simp
 |x::a,[]=>by rw[dv];simp
 |x::a,y::b=>by have h:=JR a b x y;have k:=uk a b;simp only[Ss];omega
theorem Aa:∀a,aS a a=0
 | []=>by rw[dP];rfl
 |x::a=>by rw[tF];exact Aa a
theorem qu:∀(a b),aS a b=0->a=b
 | [],b,h=>by rw[dP]at h;exact(T3.1 h).symm
 |x::a,[],h=>by rw[dv]at h;simp at h
 |x::a,y::b,h=>by
  rw[xC]at h;by_cases e:x=y
  ·rw[Sn e]at h
   rw[e,qu a b h]
  ·rw[Sm e]at h;omega
abbrev Ed:=Int×Int×Int
def codeOf(c:UInt8):Int:=(c.toNat:Int)
def aZ(i:Nat):Bs->Bs->List Ed
 | [],[]=>[]
 | [],y::b=>((i:Int),0,codeOf y)::aZ i [] b
 |x::a,[]=>((i:Int),1,0)::aZ (i+1) a []
 |x::a,y::b=>
  if aS (x::a) (y::b)=0 then[]
  else if aS (x::a) b+1=aS (x::a) (y::b)then((i:Int),0,codeOf y)::aZ i (x::a) b
  else if aS a (y::b)+1=aS (x::a) (y::b)then((i:Int),1,0)::aZ (i+1) a (y::b)
  else if x≠y then((i:Int),2,codeOf y)::aZ (i+1) a b
  else aZ (i+1) a b
termination_by a b=>a.length+b.length
inductive Run:Nat->Bs->List Ed->Bs->Prop
 |nil {i:Nat} {a:Bs}:Run i a [] a
 |keep {i:Nat} {a:Bs} {l:List Ed} {b:Bs} {e:Ed} (x:UInt8):(i:Int)<e.1->Run (i+1) a (e::l) b->Run i (x::a) (e::l) (x::b)
 |put {i:Nat} {a:Bs} {l:List Ed} {b:Bs} (y:UInt8):bd y=true->Run i a l b->Run i a (((i:Int),0,codeOf y)::l) (y::b)
 |drop {i:Nat} {a:Bs} {l:List Ed} {b:Bs} (x:UInt8):Run (i+1) a l b->Run i (x::a) (((i:Int),1,0)::l) b
 |swap {i:Nat} {a:Bs} {l:List Ed} {b:Bs} (x y:UInt8):bd y=true->Run (i+1) a l b->Run i (x::a) (((i:Int),2,codeOf y)::l) (y::b)
def Run.later{i a e l b}(h:Run i a (e::l) b):(i:Int)<=e.1:=by cases h with|keep x h _=>omega|put=>exact Vg _|drop=>exact Vg _|swap=>exact Vg _
def JS(i a):aZ i a a=[]:=by cases a with|nil=>rw[aZ]|cons x a=>rw[aZ,Sn (Aa _)]
theorem kp:∀(n) (i) (a b),a.length+b.length<=n->b.all bd=true->Run i a (aZ i a b) b/\(aZ i a b).length=aS a b
 |n,i,[],[],_,_=>by rw[aZ];exact⟨.nil,by rw[dP];rfl⟩
 |0,i,[],y::b,h,_=>by simp at h
 |n+1,i,[],y::b,h,c=>by simp only[UE,SG]at c;simp only[Ss,SM]at h;obtain⟨d,f⟩:=kp n i [] b (by simp only[SM];omega) c.2;rw[aZ];exact⟨.put y c.1 d,by rw[Ss,f,dP,dP];rfl⟩
 |0,i,x::a,b,h,_=>by simp at h
 |n+1,i,x::a,[],h,c=>by simp only[Ss,SM]at h;obtain⟨d,f⟩:=kp n (i+1) a [] (by simp only[SM];omega) c;rw[aZ];exact⟨.drop x d,by rw[Ss,f,dv,dv];rfl⟩
 |n+1,i,x::a,y::b,h,c=>by
  have m:=c;simp only[UE,SG]at c;simp only[Ss]at h;rw[aZ];by_cases k:aS (x::a) (y::b)=0
  ·rw[Sn k,k,qu _ _ k]
   exact⟨.nil,rfl⟩
  ·rw[Sm k]
   by_cases d:aS (x::a) b+1=aS (x::a) (y::b)
   ·obtain⟨g,j⟩:=kp n i (x::a) b (by simp only[Ss];omega) c.2
    rw[Sn d];exact⟨.put y c.1 g,by rw[Ss,j,d]⟩
   ·rw[Sm d]
    by_cases f:aS a (y::b)+1=aS (x::a) (y::b)
    ·obtain⟨g,j⟩:=kp n (i+1) a (y::b) (by simp only[Ss];omega) m
     rw[Sn f];exact⟨.drop x g,by rw[Ss,j,f]⟩
    ·rw[Sm f]
     obtain⟨g,j⟩:=kp n (i+1) a b (by omega) c.2;by_cases o:x=y
     ·subst o
      rw[Sm (λh=>h rfl),tF];rw[tF]at k;refine⟨?_,j⟩;cases p:aZ (i+1) a b with
      |nil=>rw[p]at j;exact absurd j.symm k
      |cons e l=>rw[p]at g;exact .keep x (by have:=g.later;omega) g
     ·rw[Sn o]
      refine⟨.swap x y c.1 g,?_⟩;rw[Ss,j];rw[xC,Sm o]at d f⊢;have k1:=Sj a (y::b) x;omega
def jJ(a b:Bs):List Ed:=aZ 0 a b
def yI(a b)(c:b.all bd=true):(jJ a b).length=aS a b:=(kp _ 0 a b (Sp _) c).2
def own:ownKnob Tryz.prog.godebug=none:=by kernel_rfl
noncomputable def Np(os:Os):World:=(World.doorLaid Tryz.prog 50 os).layVars Tryz.prog [("unicode/utf8.first",Go.Pinned.utf8First)]
def OY(os:Os):(Np os).os=os:=World.layVars_os _ _ _
def EP(os:Os)(args:Array Value):((Np os).forCall (λ_ _=>0) ⟨#[],args,[]⟩).Shaped Tryz.prog:=World.shaped_of_ZipB (by kernel_rfl) (by kernel_rfl)
def Nq(os:Os)(args:Array Value):laidMetH Tryz.prog YtaglpcmhopjebaaGreatDoor.Rows.likeWordsRow.laid ((Np os).forCall (λ_ _=>0) ⟨#[],args,[]⟩).memory:=laidMetH_of_parts3 (fuel:=8) (laidMet_of_run' 8 (by kernel_rfl) (by kernel_rfl)) (by kernel_rfl) (by kernel_rfl)
end Go.Proofs
namespace Go.Proofs
open Go.Tm Go.RowKit
@[go_sem] theorem Sl(P)(fs)(t)(w):(underlying t).run (ah P fs) w=(underlying t).run P w:=by simp only[underlying,program,bind,Sem.bind,Sem.run,aI];cases P.underlying t<;>rfl
variable {fs:Array Func} (L:bP fs)
def uT(c):bd c=true↔97<=(c.toNat:Int)/\(c.toNat:Int)<=122:=by simp[bd]
def nC{s:ByteArray}{j}(a:j<s.size):s.data.toList[j]'(by simpa using a)=s[j]:=by rw[Vy];rfl
def Ap{p:UInt8->Bool}{s:ByteArray}(h:∀j (h:j<s.size),p s[j]=true):s.data.toList.all p=true:=by (rw[Tg];intro x b;obtain⟨j,c,rfl⟩:=T9.1 b;have a:j<s.size:=by simpa using c);rw[nC a];exact h j a
def qy{s:ByteArray}{j}(a:j<s.size):s[j]∈s.data.toList:=by rw[<-nC a];exact SH _
def sG{p}{s:ByteArray}{j}(a:j<s.size)(h:p s[j]=false):s.data.toList.all p=false:=by rw[List.all_eq_false];exact⟨s[j],qy a,by simp[h]⟩
def Aq{p}{s:ByteArray}{j}(a:j<s.size)(h:p s[j]=true):s.data.toList.any p=true:=by rw[TE];exact⟨s[j],qy a,h⟩
def sH{p:UInt8->Bool}{s:ByteArray}(h:∀j (h:j<s.size),p s[j]=false):s.data.toList.any p=false:=by (rw[Un];intro x b;obtain⟨j,c,rfl⟩:=T9.1 b;have a:j<s.size:=by simpa using c);rw[nC a,h j a];exact UM
def tK{s a b k}(c:k<s.size)(h:((s[k].toNat:Int))<97\/122<(s[k].toNat:Int)):aY s a b=false:=by (have:bd s[k]=false:=by cases d:bd s[k]with|false=>rfl|true=>have:=(uT _).1 d;omega);simp[aY,sG c this]
def Ar{s:ByteArray}{a hi:Int}(h:∀j (h:j<s.size),bd s[j]=true):aY s a hi=aq s.size a hi:=by simp[aY,Ap h]
def E0{s:ByteArray}{k:Nat}(b:∀j (h:j<k) (a:j<s.size),bd s[j]=true)(c:k<s.size)(h:bd s[k]=true):∀j (h:j<k+1) (a:j<s.size),bd s[j]=true:=by intro j d a;obtain h1|h1:=Sr j k;exact b j h1 a;(have:j=k:=by omega);subst this;exact h
def lV(c):jg c=true↔(c.toNat:Int)=10\/(c.toNat:Int)=58\/(c.toNat:Int)=59\/(c.toNat:Int)=44:=by simp only[jg,Ua,Ts,<-U8,UInt8.reduceToNat,or_assoc];omega
def jQ{s a k}(b:k<s.size)(h:jg s[k]=true):bl s a=false:=by simp[bl,Aq b h]
def xY{s:ByteArray}{hi:Int}(h:∀j (h:j<s.size),jg s[j]=false):bl s hi=aq s.size 1 hi:=by simp[bl,sH h]
def E1{s:ByteArray}{k:Nat}(b:∀j (h:j<k) (a:j<s.size),jg s[j]=false)(c:k<s.size)(h:jg s[k]=false):∀j (h:j<k+1) (a:j<s.size),jg s[j]=false:=by intro j d a;obtain h1|h1:=Sr j k;exact b j h1 a;(have:j=k:=by omega);subst this;exact h
def E2(n a b:Int)(w:World):Calls (Qs fs) 60 #[.int .i64 n,.int .i64 a,.int .i64 b] w λe w'=>e=.returned (.bool (aq n a b))/\w'=w:=by go_enter (n60 L),Tryz.ntmps60;go_wp2;all_goals (go_ret;simp[aq];try omega)
def mF(s:ByteArray)(a b:Int)(w:World)(d:s.size<=9223372036854775807):Calls (Qs fs) 61 #[.string s,.int .i64 a,.int .i64 b] w λe w'=>e=.returned (.bool (aY s a b))/\w'=w:=by have e60:=e60 L;go_enter (n61 L),Tryz.ntmps61;go_wp2;(go_loop [7] (λi=>∃k:Nat,k<=s.size/\i=.int .i64 k/\∀j (h:j<k) (f:j<s.size),bd s[j]=true) (λi=>s.size-(intOf i).toNat));(case atStart=>exact⟨0,SE _,rfl,λj h=>absurd h (SL _)⟩);case round=>obtain⟨k,g,rfl,c⟩:=hrel;go_wp2_with (first|(go_at_call 60;refine(E2 L _ _ _ _).mono ?_;rintro e w' ⟨rfl,rfl⟩));go_ret;exact⟨by rw[tK (by assumption) (by assumption)];rfl,rfl⟩;refine⟨⟨k+1,by omega,by go_num,E0 c (by assumption) ((uT _).2 (by assumption))⟩,by simp[intOf];omega⟩;go_ret;exact⟨by rw[tK (by assumption) (.inl (by assumption))];rfl,rfl⟩;go_ret;exact⟨by rw[Ar λj h=>c j (by omega) h];rfl,rfl⟩
def mG(a b:ByteArray):(a.toList==b.toList)=decide (a=b):=by rw[TN,SP,Ts,Lib.toList_data,Lib.toList_data];exact⟨λh=>Go.WideShapes.bytes_inj h,λh=>h▸rfl⟩
def Ix{a b:ByteArray}(h:(a.toList==b.toList)=true):a=b:=by rw[mG]at h;simpa using h
def Iy{a b:ByteArray}(h:(a.toList==b.toList)=false):a≠b:=by rw[mG]at h;simpa using h
def tL(s:ByteArray)(a:Int)(w:World)(d:s.size<=9223372036854775807):Calls (Qs fs) 110 #[.string s,.int .i64 a] w λe w'=>e=.returned (.bool (bl s a))/\w'=w:=by have e60:=e60 L;go_enter (n110 L),Tryz.ntmps110;go_wp2;(go_loop [5] (λi=>∃k:Nat,k<=s.size/\i=.int .i64 k/\∀j (h:j<k) (f:j<s.size),jg s[j]=false) (λi=>s.size-(intOf i).toNat));(case atStart=>exact⟨0,SE _,rfl,λj h=>absurd h (SL _)⟩);case round=>obtain⟨k,g,rfl,b⟩:=hrel;go_wp2_with (first|(go_at_call 60;refine(E2 L _ _ _ _).mono ?_;rintro e w' ⟨rfl,rfl⟩));go_ret;exact⟨by rw[jQ (by assumption) ((lV _).2 (by omega))];rfl,rfl⟩;go_ret;exact⟨by rw[jQ (by assumption) ((lV _).2 (by omega))];rfl,rfl⟩;go_ret;exact⟨by rw[jQ (by assumption) ((lV _).2 (by omega))];rfl,rfl⟩;have h:= ‹(((_\/_)\/_)\/_:Prop)›;go_ret;simp only[Ts]at h;exact⟨by rw[jQ (by assumption) ((lV _).2 (by omega))];rfl,rfl⟩;have h:= ‹(((_/\_)/\_)/\_:Prop)›;simp only[SY]at h;refine⟨⟨k+1,by omega,by go_num,E1 b (by assumption) ?_⟩,by simp[intOf];omega⟩;rw[U9];intro c;have:=(lV _).1 c;omega;go_ret;exact⟨by rw[xY λj h=>b j (by omega) h];rfl,rfl⟩
def qz(s r:ByteArray)(k:Nat)(w:World)(c:s.size<=1000000)(d:r.size<=1000000)(f:k<=s.size):Calls (Qs fs) 96 #[.string s,.int .i64 k,.string r] w λe w'=>e=.returned (.bool (Lib.occAt s.data.toList r.data.toList k))/\w'=w:=by go_enter (n96 L),Tryz.ntmps96;go_wp2;go_ret;exact⟨by rw[Lib.occ_of_piece s r k (by omega)];rfl,rfl⟩;go_ret;(refine⟨?_,rfl⟩;have:Lib.occAt s.data.toList r.data.toList k=false:=by cases a:Lib.occAt s.data.toList r.data.toList k with|false=>rfl|true=>have b:=(TW.1 (show r.data.toList.isPrefixOf (s.data.toList.drop k)=true from a)).length_le;rw[SK,<-Lib.size_eq,<-Lib.size_eq]at b;have g:= ‹(_:Int)<_+_›;by_cases h:r.size=0;omega;omega);rw[this];rfl
def kT(l:List ByteArray)(s:ByteArray):Int:=(l.findIdx? λq=>decide (q=s)).elim (-1) λk=>(k:Int)
def Iz{l:List ByteArray}{s:ByteArray}{k:Nat}(a:k<l.length)(h:l[k]=s)(b:∀j (h:j<k) (d:j<l.length),l[j]≠s):kT l s=k:=by (unfold kT;have:(l.findIdx? λq=>decide (q=s))=some k:=by rw[V7];exact⟨a,by simp[h],λj c=>by simpa using b j c (by omega)⟩);rw[this];rfl
def E3{l:List ByteArray}{s:ByteArray}(a:∀j (d:j<l.length),l[j]≠s):kT l s= -1:=by (unfold kT;have:(l.findIdx? λq=>decide (q=s))=none:=by rw[V8];intro x b;obtain⟨j,c,rfl⟩:=T9.1 b;simpa using a j c);rw[this];rfl
def qC(l s):decide (0<=kT l s)=l.any (λq=>decide (q=s)):=by
 unfold kT;cases h:(l.findIdx? λq=>decide (q=s))with
 |none=>(rw[V8]at h;have:l.any (λq=>decide (q=s))=false:=by rw[Un];intro x a;simpa using h x a);rw[this];rfl
 |some k=>rw[V7]at h;obtain⟨c,b,_⟩:=h;have:l.any (λq=>decide (q=s))=true:=TE.2 ⟨l[k],SH _,b⟩;rw[this];simp
def Hf{b:Type}{l:List b}{s:b}{k:Nat}(c:∀j (h:j<k) (a:j<l.length),l[j]≠s)(d:k<l.length)(h:l[k]≠s):∀j (h:j<k+1) (a:j<l.length),l[j]≠s:=by intro j e a;obtain h1|h1:=Sr j k;exact c j h1 a;(have:j=k:=by omega);subst this;exact h
def E4{K:Nat->Prop}{v:Value}{l:List ByteArray}(s:ByteArray)(w:World)(f:aD K 1 ku w v l):Calls (Qs fs) 62 #[v,.string s] w λe w'=>e=.returned (.int .i64 (kT l s))/\w'=w:=by
 obtain⟨p,c,rfl,o,q,_,a⟩:=f;go_enter (n62 L),Tryz.ntmps62;go_wp2
 go_loop [5] (λi=>∃k:Nat,k<=l.length/\i=.int .i64 k/\∀j (h:j<k) (r:j<l.length),l[j]≠s) (λi=>l.length-(intOf i).toNat)
 case atStart=>exact⟨0,SE _,rfl,λj h=>absurd h (SL _)⟩
 case round=>
  obtain⟨k,t,rfl,g⟩:=hrel;obtain d|hge:=Sr k l.length
  ·obtain⟨b,m,rfl,n⟩:=a k d;(have n:w.cell? ⟨b,m+k,none⟩=some (.string l[k]):=by simpa[ku]using n);go_wp2;go_ret;exact⟨by rw[Iz d (Ix (by assumption)) g];rfl,rfl⟩;exact⟨⟨k+1,by omega,by go_num,Hf g d (Iy (by assumption))⟩,by simp[intOf];omega⟩
  go_wp2;go_ret;exact⟨by rw[E3 λj h=>g j (by omega) h];rfl,rfl⟩
def KM{K:Nat->Prop}{v:Value}{l:List Int}(s:Int)(w:World)(d:aD K 1 df w v l):Calls (Qs fs) 167 #[v,.int .i64 s] w λe w'=>e=.returned (.bool (l.contains s))/\w'=w:=by
 obtain⟨r,c,rfl,p,t,_,a⟩:=d;go_enter (n167 L),Tryz.ntmps167;go_wp2
 go_loop [5] (λi=>∃k:Nat,k<=l.length/\i=.int .i64 k/\∀j (h:j<k) (u:j<l.length),l[j]≠s) (λi=>l.length-(intOf i).toNat)
 case atStart=>exact⟨0,SE _,rfl,λj h=>absurd h (SL _)⟩
 case round=>
  obtain⟨k,x,rfl,n⟩:=hrel;obtain f|hge:=Sr k l.length
  ·obtain⟨b,m,rfl,o⟩:=a k f;(have o:w.cell? ⟨b,m+k,none⟩=some (.int .i64 l[k]):=by simpa[df]using o);go_wp2;have h:= ‹(_==_)=true›;(go_ret;have g:s∈l:=by rw[<-(Ts.1 h)];exact SH _);exact⟨by simp[g],rfl⟩;have h:= ‹(_==_)=false›;exact⟨⟨k+1,by omega,by go_num,Hf n f (by simpa using h)⟩,by simp[intOf];omega⟩
  go_wp2;go_ret;have g:¬s∈l:=λg=>by obtain⟨j,q,rfl⟩:=T9.1 g;exact n j (by omega) q rfl
  exact⟨by simp[g],rfl⟩
def nD{a:Type}(p)(l:List a)(k)(b:k<l.length):((l.take (k+1)).filter p)=(l.take k).filter p++(if p l[k]then[l[k]]else[]):=by rw[UN b,Uw];congr 1;simp[List.filter];split<;>simp_all
def vo{K:Nat->Prop}{v:Value}{l:List Int}(n:Int)(w:World)(d:aD K 1 df w v l)(p:∀x∈l,0<=x/\x<=999):Calls (Qs fs) 142 #[v,.int .i64 n] w λe w'=>e=.returned (.int .i64 (aL l n))/\w'=w:=by
 obtain⟨r,c,rfl,q,s,_,a⟩:=d;go_enter (n142 L),Tryz.ntmps142;go_wp2
 go_loop [5,6] (λm i=>∃k:Nat,k<=l.length/\i=.int .i64 k/\m=.int .i64 (aL (l.take k) n)) (λm i=>l.length-(intOf i).toNat)
 case atStart=>exact⟨0,SE _,rfl,rfl⟩
 case round=>
  obtain⟨k,t,rfl,rfl⟩:=hrel;have u:aL (l.take k) n<=k:=by unfold aL;exact Sq (TF _ _) (by simp;omega)
  obtain f|hge:=Sr k l.length
  ·obtain⟨b,j,rfl,o⟩:=a k f;(have o:w.cell? ⟨b,j+k,none⟩=some (.int .i64 l[k]):=by simpa[df]using o);(obtain⟨y,z⟩:=p l[k] (SH _);have g:aL (l.take (k+1)) n=aL (l.take k) n+(if l[k]/100==n then 1 else 0):=by unfold aL;rw[nD _ _ _ f,SQ];split<;>rfl);go_wp2;have h:= ‹(_==n)=true›;exact⟨⟨k+1,by omega,by go_num,by rw[g,Sn h];go_num⟩,by simp[intOf];omega⟩;have h:= ‹(_==n)=false›;exact⟨⟨k+1,by omega,by go_num,by rw[g,Sm (by rw[h];exact UM)];go_num⟩,by simp[intOf];omega⟩
  go_wp2;go_ret;rw[Va hge];exact⟨rfl,rfl⟩
end Go.Proofs
namespace Go.Proofs
open Go.Tm Go.RowKit
variable {fs:Array Func} (L:bP fs)
def bs(l:Bs):ByteArray:=⟨l.toArray⟩
def dj(l):(bs l).data.toList=l:=by simp[bs]
def cN(l):(bs l).size=l.length:=by rw[Lib.size_eq,dj]
def pR{a b:ByteArray}(h:a.data.toList=b.data.toList):a=b:=Go.WideShapes.bytes_inj h
def Cj(a b:ByteArray):(a++b).data.toList=a.data.toList++b.data.toList:=by obtain⟨⟨a⟩⟩:=a;obtain⟨⟨b⟩⟩:=b;simp
def sI(x)(r:ByteArray):bs x++r=bs (x++r.data.toList):=pR (by rw[Cj,dj,dj])
def As(x)(s:ByteArray)(k)(b:k<s.size):bs x++s.extract k (k+1)=bs (x++[s[k]]):=by rw[sI,Lib.extract_data];congr 2;(have a:k<s.data.toList.length:=by rwa[<-Lib.size_eq]);rw[Ux a,V9];simp only[Th,Tb];rw[nC b]
def drop_cons(s:ByteArray)(k)(b:k<s.size):s.data.toList.drop k=s[k]::s.data.toList.drop (k+1):=by (have a:k<s.data.toList.length:=by rwa[<-Lib.size_eq]);rw[Ux a,nC b]
def xZ(f t:Bs)(e:f≠[]):∀(n m) (s),s.length<=n->s.length<=m->eN f t n s=eN f t m s:=by have a:=TO.2 e;intro n;induction n with|zero=>intro m s h _;have:s=[]:=Tr (by omega);subst this;cases m<;>rfl|succ n b=>intro m s h d;cases s with|nil=>cases m<;>rfl|cons c cs=>cases m with|zero=>simp at d|succ m=>(simp only[Ss]at h d;unfold eN;have g:((c::cs).drop f.length).length<=n:=by rw[SK,Ss];omega);(have i:((c::cs).drop f.length).length<=m:=by rw[SK,Ss];omega);rw[b m _ g i,b m cs (by omega) (by omega)]
def mH(p):bR p []=[]:=rfl
def mI{p s}(b:p.1.data.toList.isPrefixOf s=true)(a:p.1.data.toList≠[]):bR p s=p.2.data.toList++bR p (s.drop p.1.data.toList.length):=by cases s with|nil=>have:=(TW.1 b).length_le;exact absurd (Tr (Nat.le_zero.1 this)) a|cons c cs=>have d:=TO.2 a;show eN _ _ (cs.length+1) (c::cs)=_;unfold eN;rw[Sn b];congr 1;exact xZ _ _ a _ _ _ (by rw[SK,Ss];omega) (Sp _)
def ly{p c}{s:Bs}(a:p.1.data.toList.isPrefixOf (c::s)=false):bR p (c::s)=c::bR p s:=by show eN _ _ (s.length+1) (c::s)=_;unfold eN;rw[a];rfl
def az(w:World)(c)(e i:Nat)(v)(h:c[i]? =some v):(w.alloc (.cells c e)).cell? ⟨w.heap.size,i,none⟩=some v:=by unfold World.cell? World.alloc;simp[h]
def aH(w o):Below w.heap.size w (w.alloc o):=(Below.refl _ w).alloc (Sp _) o
def Ck(s:ByteArray)(p:Pr2)(w:World)(z:s.size<=1000)(A:1<=p.1.size)(B:p.1.size<=1000)(C:p.2.size<=1000):Calls (Qs fs) 113 #[.string s,.agg #[.string p.1,.string p.2]] w λe w'=>e=.returned (.string (bs (bR p s.data.toList)))/\Below w.heap.size w w':=by
 have e96:=e96 L;have n:p.1.data.toList≠[]:=by intro h;have l:=Lib.size_eq p.1;rw[h]at l;have D:p.1.size=0:=l;omega
 have q:=az w #[.string p.1,.string p.2] 51 0 (.string p.1) rfl;have r:=az w #[.string p.1,.string p.2] 51 1 (.string p.2) rfl;have t:Hid (Below w.heap.size w (w.alloc (.cells #[.string p.1,.string p.2] 51))):=aH w _;go_enter (n113 L),Tryz.ntmps113;go_wp2
 go_loop [5,6] (λo i=>∃(k:Nat) (x:Bs),k<=s.size/\i=.int .i64 k/\o=.string (bs x)/\(bs x).size<=1000*k/\x++bR p (s.data.toList.drop k)=bR p s.data.toList) (λo i=>s.size-(intOf i).toNat)
 case atStart=>exact⟨0,[],SE _,rfl,rfl,SE _,rfl⟩
 case round=>
  obtain⟨k,x,E,rfl,rfl,u,a⟩:=hrel;have g:Hid _:=a;clear a;obtain b|hge:=Sr k s.size
  ·have c:=drop_cons s k b;have m:Hid _:=c;clear c;have v:=λy=>qz L s p.1 k y (by omega) (by omega) (by omega);go_wp2_with (first|(go_at_call 96;refine(v _).mono ?_;rintro e w' ⟨rfl,rfl⟩));have f:= ‹Lib.occAt _ _ _=true›;have d:=(TW.1 (show p.1.data.toList.isPrefixOf (s.data.toList.drop k)=true from f)).length_le;rw[SK,<-Lib.size_eq,<-Lib.size_eq]at d;refine⟨⟨k+p.1.size,x++p.2.data.toList,by omega,by go_num,by rw[sI],?_,?_⟩,by simp[intOf];omega⟩;rw[cN,SQ,<-cN x,<-Lib.size_eq];have:1000*(k+p.1.size)=1000*k+1000*p.1.size:=Nat.mul_add _ _ _;omega;rw[<-g.out,mI f n,UO,<-Lib.size_eq,TP];have f:= ‹Lib.occAt _ _ _=false›;refine⟨⟨k+1,x++[s[k]],by omega,by go_num,by rw[As x s k b],?_,?_⟩,by simp[intOf];omega⟩;rw[cN,SQ,<-cN x];simp only[Ss,SM];omega;rw[<-g.out,m.out];(have j:p.1.data.toList.isPrefixOf (s[k]::s.data.toList.drop (k+1))=false:=by rw[<-m.out];exact f);rw[ly j,TP];rfl
  go_wp2;go_ret;have a:=g.out;rw[Tc (by rw[<-Lib.size_eq];exact hge),mH,TQ]at a;exact⟨by rw[a];rfl,t.out⟩
def KN(s:ByteArray)(w:World)(d:s.size<=1000):Calls (Qs fs) 117 #[.string s] w λe w'=>e=.returned (.string (bs s.data.toList.reverse))/\w'=w:=by
 go_enter (n117 L),Tryz.ntmps117;go_wp2
 go_loop [3,4] (λo i=>∃(k:Nat) (x:Bs),k<=s.size/\i=.int .i64 ((k:Int)-1)/\o=.string (bs x)/\(bs x).size<=1000/\x=(s.data.toList.drop k).reverse) (λo i=>(intOf i+1).toNat)
 case atStart=>exact⟨s.size,[],Sp _,by simp,rfl,by decide,by rw[Tc (by rw[<-Lib.size_eq];exact Sp _)];rfl⟩
 case round=>
  obtain⟨k,x,f,rfl,rfl,c,a⟩:=hrel;have b:Hid _:=a;clear a;obtain rfl|hpos:=Ty k
  ·go_wp2;go_ret;have a:=b.out;rw[Tk]at a;exact⟨by rw[a];rfl,rfl⟩
  obtain⟨j,rfl⟩:∃j,k=j+1:=⟨k-1,by omega⟩
  go_wp2;have a:=b.out;refine⟨⟨j,x++[s[j]],by omega,rfl,by rw[As x s j (by omega)],?_,?_⟩,by simp[intOf]⟩;rw[cN,SQ,a,Vb,SK,<-Lib.size_eq];simp only[Ss,SM];omega;rw[a,drop_cons s j (by omega),List.reverse_cons]
def NG{a b:ByteArray}(d:a.size<=b.size):o6 a.data.toList b.data.toList= if a.size<3\/(Lib.occAt b.data.toList a.data.toList 0=false/\Lib.occAt b.data.toList a.data.toList (b.size-a.size)=false)then 0 else(100*a.size:Int)/b.size:=by (have c:a.data.toList.isSuffixOf b.data.toList=Lib.occAt b.data.toList a.data.toList (b.size-a.size):=by (have h:=Lib.hasSuffix_of_drop b.data.toList a.data.toList;unfold Lib.hasSuffix at h;rw[<-h,<-Lib.size_eq,<-Lib.size_eq,SD d,UP];unfold Lib.occAt;have e:(b.data.toList.drop (b.size-a.size)).length=a.data.toList.length:=by rw[SK,<-Lib.size_eq,<-Lib.size_eq];omega);rw[TN,Ts,TW];exact⟨λh=>h▸List.prefix_refl _,λh=>(List.IsPrefix.eq_of_length h e.symm).symm⟩);unfold o6;rw[<-Lib.size_eq,<-Lib.size_eq,Sm (by omega)];simp only[];rw[<-Lib.size_eq,<-Lib.size_eq,c,show a.data.toList.isPrefixOf b.data.toList=Lib.occAt b.data.toList a.data.toList 0 from rfl];cases Lib.occAt b.data.toList a.data.toList 0<;>cases Lib.occAt b.data.toList a.data.toList (b.size-a.size)<;>simp
def KO(a b:ByteArray)(w:World)(g:a.size<=1000)(i:b.size<=1000)(c:a.size<=b.size):Calls (Qs fs) 118 #[.string a,.string b] w λe w'=>e=.returned (.int .i64 (o6 a.data.toList b.data.toList))/\w'=w:=by
 have e96:=e96 L;have f:∀wx,Calls (Qs fs) 96 #[.string b,.int .i64 0,.string a] wx λe w'=>e=.returned (.bool (Lib.occAt b.data.toList a.data.toList 0))/\w'=wx:=λwx=>qz L b a 0 wx (by omega) (by omega) (by omega);have d:∀wx,Calls (Qs fs) 96 #[.string b,.int .i64 ((b.size:Int)-a.size),.string a] wx λe w'=>e=.returned (.bool (Lib.occAt b.data.toList a.data.toList (b.size-a.size)))/\w'=wx:=λwx=>by rw[show(b.size:Int)-a.size=((b.size-a.size:Nat):Int) by omega];exact qz L b a (b.size-a.size) wx (by omega) (by omega) (by omega)
 go_enter (n118 L),Tryz.ntmps118;go_wp2_with (first|(go_at_call 96;refine(f _).mono ?_;rintro e w' ⟨rfl,rfl⟩)|(go_at_call 96;refine(d _).mono ?_;rintro e w' ⟨rfl,rfl⟩));all_goals
  go_ret;refine⟨?_,rfl⟩;rw[NG c];first
   |(rw[Sn (by first|(left;omega)|(right;simp_all;done)|(right;simp_all;rcases ‹_\/_› with h|h<;>first|omega|exact h))];rfl)
   |(rw[Sm (by simp_all;try omega)];rfl)
def yQ{a b:ByteArray}(h:b.size<a.size):o6 a.data.toList b.data.toList=o6 b.data.toList a.data.toList:=by unfold o6;rw[<-Lib.size_eq,<-Lib.size_eq,Sn h,Sm (by omega)]
def QX(a b:ByteArray)(w:World)(d:a.size<=1000)(f:b.size<=1000):Calls (Qs fs) 118 #[.string a,.string b] w λe w'=>e=.returned (.int .i64 (o6 a.data.toList b.data.toList))/\w'=w:=by
 obtain c|hge:=Sr b.size a.size
 ·have Nv:=Nv L;have g:=λh=>KO L b a h f d (by omega);go_enter (n118 L),Tryz.ntmps118;go_wp2_with (first|(go_at_call 118;refine(g _).mono ?_;rintro e w' ⟨rfl,rfl⟩));go_ret;exact⟨by rw[yQ c];rfl,rfl⟩
 exact KO L a b w d f hge
structure OkT(t:Table):Prop where
 lets:∀p∈t.av,1<=p.1.size/\p.1.size<=4/\p.2.size<=3
 QY:t.av.length<=12
 aV:∀x∈t.aF,∀p∈x.aV,1<=p.1.size/\p.1.size<=3/\p.2.size<=p.1.size
 Hg:∀x∈t.aF,x.aV.length<=5
 vp:t.aF.length<=3
 Pe:t.bq.length<=4
def dX(rest:Bs)(a:Option Pr2)(p:Pr2):Option Pr2:=if p.1.data.toList.isPrefixOf rest&&decide ((a.elim 0 λq=>q.1.size)<p.1.size)then some p else a
def jR(a:List Pr2)(k)(b:k<a.length)(rest):bJ (a.take (k+1)) rest=dX rest (bJ (a.take k) rest) a[k]:=by unfold bJ;rw[UN b,Vd];rfl
def hU(a:List Pr2)(rest:Bs)(k:Nat)(b:Int):Prop:=(b= -1/\bJ (a.take k) rest=none)\/∃j,∃h:j<a.length,j<k/\b=j/\bJ (a.take k) rest=some a[j]
def hU.start(a rest):hU a rest 0 (-1):=.inl ⟨rfl,rfl⟩
def At(rest):∀(a:List Pr2) (b) (p),a.foldl (dX rest) b=some p->p∈a\/b=some p:=by intro a;induction a with|nil=>exactλb p h=>.inr h|cons q a c=>intro b p h;obtain h|h:=c _ p h;exact .inl (.tail _ h);unfold dX at h;split at h;cases h;exact .inl (.head _);exact .inr h
def gH{ls rest p}(h:bJ ls rest=some p):p∈ls:=by obtain h|h:=At rest ls none p h;exact h;cases h
def uz(rest:Bs):∀(c:List Pr2) (b),(∀p,b=some p->p.1.data.toList.isPrefixOf rest=true)->∀p,c.foldl (dX rest) b=some p->p.1.data.toList.isPrefixOf rest=true:=by intro c;induction c with|nil=>exactλb d p h=>d p h|cons q c f=>intro b d p h;refine f _ (λg a=>?_) p h;unfold dX at a;split at a;rename_i e;cases a;simp only[SG]at e;exact e.1;exact d g a
def nE{a rest p}(h:bJ a rest=some p):p.1.data.toList.isPrefixOf rest=true:=uz rest a none (λp h=>by cases h) p h
def E5(a:List Pr2)(e:∀p∈a,1<=p.1.size):∀(n m) (s),s.length<=n->s.length<=m->kS a n s=kS a m s:=by intro n;induction n with|zero=>intro m s h _;have:s=[]:=Tr (by omega);subst this;cases m<;>rfl|succ n b=>intro m s h d;cases s with|nil=>cases m<;>rfl|cons c cs=>cases m with|zero=>simp at d|succ m=>simp only[Ss]at h d;unfold kS;cases f:bJ a (c::cs)with|none=>simp only[];rw[b m cs (by omega) (by omega)]|some p=>have g:=gH f;have:=e p g;simp only[];rw[b m _ (by rw[SK,Ss];omega) (by rw[SK,Ss];omega)]
def j7{w w':World}(h:w'.heap=w.heap)(a):w'.cell? a=w.cell? a:=by unfold World.cell?;rw[h]
def IA(a):aQ a []=[]:=rfl
def IB{a:List Pr2}(b:∀p∈a,1<=p.1.size){c}{s:Bs}{p}(d:bJ a (c::s)=some p):aQ a (c::s)=p.2.data.toList++aQ a ((c::s).drop p.1.size):=by have e:=b p (gH d);show kS a (s.length+1) (c::s)=_;unfold kS;rw[d];simp only[];congr 1;exact E5 _ b _ _ _ (by rw[SK,Ss];omega) (Sp _)
def E6{a c}{s:Bs}(b:bJ a (c::s)=none):aQ a (c::s)=(if bd c then[c]else[])++aQ a s:=by show kS a (s.length+1) (c::s)=_;unfold kS;rw[b];rfl
def hU.skip{a rest k b}(h:hU a rest k b)(d:k<a.length)(e:dX rest (bJ (a.take k) rest) a[k]=bJ (a.take k) rest):hU a rest (k+1) b:=by obtain⟨f,c⟩|⟨j,g,f,c,i⟩:=h;exact .inl ⟨f,by rw[jR _ _ d,e,c]⟩;exact .inr ⟨j,g,by omega,c,by rw[jR _ _ d,e,i]⟩
def hU.take{a rest k}(b:k<a.length)(c:dX rest (bJ (a.take k) rest) a[k]=some a[k]):hU a rest (k+1) k:=.inr ⟨k,b,TG _,rfl,by rw[jR _ _ b,c]⟩
def Cl{K:Nat->Prop}{v0 v1 v2:Value}{t:Table}(s:ByteArray)(w:World)(ht:IsTable K w v0 v1 v2 t)(ok:OkT t)(hs:s.size<=1000):Calls (Qs fs) 54 #[.agg #[v0,v1,v2],.string s] w λe w'=>e=.returned (.string (bs (aQ t.av s.data.toList)))/\Below w.heap.size w w':=by
 have e96:=e96 L;obtain⟨⟨S,c,rfl,aa,hc,_,m⟩,_,_⟩:=ht;have n:=ok.lets;have ab:=ok.QY;clear ok;obtain⟨ls,T⟩:=ex (t.av);rw[<-T]at aa m n ab⊢;clear T;have h1:∀p∈ls,1<=p.1.size:=λp hp=>(n p hp).1;have q:=az w #[.slice S ls.length c,v1,v2] 26 0 _ rfl;have U:=aH w (.cells #[.slice S ls.length c,v1,v2] 26);have r:∀(k:Nat) (h:k<ls.length),∃b v,S=some ⟨b,v,none⟩/\dk K (w.alloc (.cells #[.slice S ls.length c,v1,v2] 26)) b (v+k*2) ls[k]:=λk h=>by obtain⟨b,v,e,P⟩:=m k h;exact⟨b,v,e,dk.carry (Carry.keep (ae.below (aH w _))) b b _ _ rfl P⟩
 clear m;obtain⟨w1,V⟩:=ex (w.alloc (.cells #[.slice S ls.length c,v1,v2] 26));go_enter (n54 L),Tryz.ntmps54;go_wp2;rw[<-V]at q U r⊢;obtain⟨N,hN⟩:=ex (w.heap.size);rw[<-hN]at q⊢;clear V hN;go_loopw [5,6] (λo i wr=>∃(k:Nat) (x:Bs),k<=s.size/\i=.int .i64 k/\o=.string (bs x)/\(bs x).size<=1000*k/\wr.heap=w1.heap/\Below w.heap.size w wr/\x++aQ ls (s.data.toList.drop k)=aQ ls s.data.toList) (λo i _=>s.size-(intOf i).toNat);case atStart=>exact⟨0,[],SE _,rfl,rfl,SE _,rfl,U,rfl⟩
 case round=>
  obtain⟨k,x,hk,rfl,rfl,ar,A,l,W⟩:=hrel;have R:Hid _:=W;clear W;obtain X|hge:=Sr k s.size
  ·have B:=(j7 A _).trans q;have Y:=drop_cons s k X;have HD:Hid _:=Y;clear Y;go_wp2;go_loopw [7,8] (λb i wr=>∃(j:Nat) (b0:Int),j<=ls.length/\i=.int .i64 j/\b=.int .i64 b0/\hU ls (s.data.toList.drop k) j b0/\wr.heap=w1.heap/\Below w.heap.size w wr) (λb i _=>ls.length-(intOf i).toNat);case atStart=>exact⟨0,-1,SE _,rfl,rfl,hU.start _ _,A,l⟩
   case round=>
    (obtain⟨j,b0,hj,rfl,rfl,C,a,g⟩:=hrel;have ak:=(j7 a _).trans q;have HW:Hid _:=(⟨a,g⟩:wr.heap=w1.heap/\Below w.heap.size w wr));obtain f|hjge:=Sr j ls.length
    ·obtain⟨b,v,rfl,D,H⟩:=r j f;have ad:=n ls[j] (SH _);obtain⟨z1,z2,z3⟩:=ad;have D:=(j7 a _).trans D;have E:=r;clear a g A l q H h1 n R U B r;have I:=λwx=>qz L s ls[j].1 k wx (by omega) (by omega) (by omega);obtain⟨rfl,y⟩|⟨u,F,Q,rfl,d⟩:=C
     ·have G:Hid _:=y;clear y E;cases z:Lib.occAt s.data.toList ls[j].1.data.toList k with|false=>simp only[z]at I;have M:Hid _:=z;clear z;go_wp2;go_quiet (first|(go_at_call 96;exact Calls.quiet_of_same (I _)));go_wp2;refine⟨⟨j+1,-1,by omega,by go_num,rfl,hU.skip (.inl ⟨rfl,G.out⟩) f ?_,HW.out.1,Go.below_drewN HW.out.2 _⟩,by simp[intOf];omega⟩;unfold dX;rw[show ls[j].1.data.toList.isPrefixOf (s.data.toList.drop k)=false from M.out];rfl|true=>simp only[z]at I;have M:Hid _:=z;clear z;go_wp2;go_quiet (first|(go_at_call 96;exact Calls.quiet_of_same (I _)));go_wp2;refine⟨⟨j+1,j,by omega,by go_num,rfl,hU.take f ?_,HW.out.1,Go.below_drewN HW.out.2 _⟩,by simp[intOf];omega⟩;unfold dX;rw[show ls[j].1.data.toList.isPrefixOf (s.data.toList.drop k)=true from M.out,G.out,UP];exact Sn (SD (show(0:Nat)<ls[j].1.size by omega))
     obtain⟨b2,an,e2,Z,_⟩:=E u F
     cases e2;have Z:=(j7 HW.out.1 _).trans Z;have G:Hid _:=d;clear d E;cases z:Lib.occAt s.data.toList ls[j].1.data.toList k with
     |false=>simp only[z]at I;have M:Hid _:=z;clear z;go_wp2;go_quiet (first|(go_at_call 96;exact Calls.quiet_of_same (I _)));go_wp2;refine⟨⟨j+1,u,by omega,by go_num,rfl,hU.skip (.inr ⟨u,F,Q,rfl,G.out⟩) f ?_,HW.out.1,Go.below_drewN HW.out.2 _⟩,by simp[intOf];omega⟩;unfold dX;rw[show ls[j].1.data.toList.isPrefixOf (s.data.toList.drop k)=false from M.out];rfl
     |true=>
      simp only[z]at I;have M:Hid _:=z;clear z;obtain hcmp|hcmp:=Sr ls[u].1.size ls[j].1.size
      ·go_wp2;go_quiet (first|(go_at_call 96;exact Calls.quiet_of_same (I _)));go_wp2;refine⟨⟨j+1,j,by omega,by go_num,rfl,hU.take f ?_,HW.out.1,Go.below_drewN HW.out.2 _⟩,by simp[intOf];omega⟩;unfold dX;rw[show ls[j].1.data.toList.isPrefixOf (s.data.toList.drop k)=true from M.out,G.out];simp[hcmp]
      go_wp2;go_quiet (first|(go_at_call 96;exact Calls.quiet_of_same (I _)));go_wp2;refine⟨⟨j+1,u,by omega,by go_num,rfl,hU.skip (.inr ⟨u,F,Q,rfl,G.out⟩) f ?_,HW.out.1,Go.below_drewN HW.out.2 _⟩,by simp[intOf];omega⟩;unfold dX;rw[show ls[j].1.data.toList.isPrefixOf (s.data.toList.drop k)=true from M.out,G.out,UP,Sm (by rw[SP];show ¬ls[u].1.size<ls[j].1.size;omega)]
    (have af:j=ls.length:=by omega);subst af;obtain⟨rfl,y⟩|⟨u,F,Q,rfl,d⟩:=C
    ·rw[Uo]at y;(have G:Hid _:=y;have J:=R;clear y r A l q h1 n R U B a g;have O:∀b:Bool,bd s[k]=b->aQ ls (s.data.toList.drop k)=(if b then[s[k]]else[])++aQ ls (s.data.toList.drop (k+1)):=λb hb=>by have P:=G.out;rw[HD.out]at P⊢;rw[E6 P,hb]);have HL:Hid _:=O;clear O;go_wp2;refine⟨⟨k+1,x++[s[k]],by omega,by go_num,by rw[As x s k X],?_,HW.out.1,HW.out.2,?_⟩,by simp[intOf];omega⟩;rw[cN,SQ,<-cN x];simp only[Ss,SM];omega;rw[<-J.out,HL.out true ((uT _).2 ⟨by assumption,by assumption⟩),TP];rfl;all_goals
      refine⟨⟨k+1,x,by omega,by go_num,rfl,by omega,HW.out.1,HW.out.2,?_⟩,by simp[intOf];omega⟩;rw[<-J.out,HL.out false (by
       cases hl:bd s[k]with
       |false=>rfl
       |true=>have:=(uT _).1 hl;omega)]
      rfl
    rw[Uo]at d;obtain⟨b,v,rfl,D,H⟩:=r u F;obtain⟨z1,z2,z3⟩:=n ls[u] (SH _);have D:=(j7 a _).trans D;have H:=(j7 a _).trans H;have G:Hid _:=d;have J:=R;have H1:Hid _:=h1;have ag:=(TW.1 (nE d)).length_le;rw[SK,<-Lib.size_eq,<-Lib.size_eq]at ag;clear d r A l q n R U B a g h1;go_wp2;refine⟨⟨k+ls[u].1.size,x++ls[u].2.data.toList,by omega,by go_num,by rw[sI],?_,HW.out.1,HW.out.2,?_⟩,by simp[intOf];omega⟩;rw[cN,SQ,<-cN x,<-Lib.size_eq];have:1000*(k+ls[u].1.size)=1000*k+1000*ls[u].1.size:=Nat.mul_add _ _ _;omega;have P:=G.out;rw[<-J.out];rw[HD.out]at P⊢;rw[IB H1.out P,<-HD.out,UO,TP]
  go_wp2;go_ret;have W:=R.out;rw[Tc (by rw[<-Lib.size_eq];exact hge),IA,TQ]at W;exact⟨by rw[W];rfl,l⟩
def ae.cell{w w'}(h:ae w w'){b o v}(a:w.cell? ⟨b,o,none⟩=some v):w'.cell? ⟨b,o,none⟩=some v:=by unfold World.cell? at a⊢;revert a;simp only[];cases c:w.heap[b]? with|none=>intro h;cases h|some o'=>cases o' with|cells d e F=>intro a;rw[h b d e F c];exact a|_=>intro h;cases h
def ae.alloc(w o):ae w (w.alloc o):=ae.below (aH w o)
def ae.drewN{w w'}(h:ae w w')(n):ae w (w'.drewN n):=h
def uA(f t)(b:t.length<=f.length):∀(n) (s),(eN f t n s).length<=s.length:=by intro n;induction n with|zero=>intro s;exact Sp _|succ n a=>intro s;cases s with|nil=>exact Sp _|cons c cs=>unfold eN;split;rename_i d;have g:=(TW.1 d).length_le;have e:=a ((c::cs).drop f.length);rw[SK]at e;rw[SQ];omega;have:=a cs;simp only[Ss];omega
def jC{p}(h:p.2.size<=p.1.size)(s):(bR p s).length<=s.length:=uA _ _ (by rw[<-Lib.size_eq,<-Lib.size_eq];exact h) _ _
def qE(a:List Pr2)(h:∀p∈a,1<=p.1.size/\p.1.size<=4/\p.2.size<=3):∀(n) (s),(kS a n s).length<=3*s.length:=by intro n;induction n with|zero=>intro s;exact SE _|succ n b=>intro s;cases s with|nil=>exact SE _|cons c cs=>unfold kS;cases e:bJ a (c::cs)with|none=>have:=b cs;simp only[SQ,Ss];split<;>simp only[Ss,SM]<;>omega|some p=>obtain⟨f,g,i⟩:=h p (gH e);have d:=b ((c::cs).drop p.1.size);rw[SK]at d;simp only[SQ,Ss]at d⊢;rw[<-Lib.size_eq];omega
def cO{t}(a:OkT t)(s):(aQ t.av s).length<=3*s.length:=qE _ a.lets _ _
def E7(aV:List Pr2)(y:Bs):Bs:=aV.foldl (λs r=>bR r s) y
def Cm{aV:List Pr2}(h:∀p∈aV,1<=p.1.size/\p.1.size<=3/\p.2.size<=p.1.size):∀(y),(E7 aV y).length<=y.length:=by induction aV with|nil=>exactλy=>Sp _|cons p aV a=>intro y;have b:=a (λq c=>h q (.tail _ c)) (bR p y);have d:=jC (h p (.head _)).2.2 y;exact Sq b d
def yR(aV:List Pr2)(j)(a:j<aV.length)(y):E7 (aV.drop j) y=E7 (aV.drop (j+1)) (bR aV[j] y):=by rw[Ux a];rfl
def sJ{t k}(a:k<t.aF.length)(s):bH t k s=E7 t.aF[k].aV (aQ t.av s):=by unfold bH;rw[Td a];rfl
def lz{t}(a:OkT t){k}(b:k<t.aF.length)(s):(bH t k s).length<=3*s.length:=by rw[sJ b];exact Sq (Cm (a.aV _ (SH _)) _) (cO a s)
def IC{K:Nat->Prop}{v0 v1 v2:Value}{t:Table}(k:Nat)(s:ByteArray)(w:World)(S:IsTable K w v0 v1 v2 t)(O:OkT t)(hs:s.size<=300)(T:k<t.aF.length):Calls (Qs fs) 65 #[.agg #[v0,v1,v2],.int .i64 k,.string s] w λe w'=>e=.returned (.string (bs (bH t k s.data.toList)))/\Below w.heap.size w w':=by
 have e54:=e54 L;have Qm:=Qm L;have n:=sJ T s.data.toList;have Q:=cO O s.data.toList;rw[<-Lib.size_eq]at Q;have p:=S.stays (ae.alloc w (.cells #[v0,v1,v2] 26));have x:=aH w (.cells #[v0,v1,v2] 26);have U:=Cl L s _ p O (by omega);have a:∀i v,(#[v0,v1,v2]:Array Value)[i]? =some v->(w.alloc (.cells #[v0,v1,v2] 26)).cell? ⟨w.heap.size,i,none⟩=some v:=λi v h=>az w _ 26 i v h;have q:=a 0 v0 rfl;have g:=a 1 v1 rfl;have r:=a 2 v2 rfl;go_enter (n65 L),Tryz.ntmps65;go_wp2_with (first|(go_at_call 54;refine U.mono ?_;rintro e w2 ⟨rfl,P⟩));obtain⟨w1,z⟩:=ex (w.alloc (.cells #[v0,v1,v2] 26));have hN:w.heap.size+1=w1.heap.size:=by rw[z];simp
 rw[<-z]at P p x q g r;have S2:=ae.below P;have B2:=x.trans (P.mono (by omega));obtain⟨N,D⟩:=ex (w.heap.size);rw[<-D]at q g r⊢;clear P x U a z hN D S;obtain⟨ao,c,rfl,ab,hc,_,l⟩:=p.2.1;clear p;have u:=O.aV t.aF[k] (SH _);clear O;obtain⟨B,E⟩:=ex (t.aF[k]);have F:=l k T;rw[<-E]at u n F;clear l E;obtain⟨b,ad,rfl,_,vs,A,G⟩:=F;obtain⟨af,c2,rfl,V,ag,W,d⟩:=G;go_loopw [7,8] (λo i wr=>∃(j:Nat) (y:Bs),j<=B.aV.length/\i=.int .i64 j/\o=.string (bs y)/\(bs y).size<=900/\ae w1 wr/\Below w.heap.size w wr/\E7 (B.aV.drop j) y=bH t k s.data.toList) (λo i _=>B.aV.length-(intOf i).toNat);case atStart=>exact⟨0,_,SE _,rfl,rfl,by rw[cN];omega,S2,B2,n.symm⟩
 case round=>
  obtain⟨j,y,hj,rfl,rfl,hy,f,m,C⟩:=hrel;have X:Hid _:=C;have Y:=f.cell g;have Z:=f.cell A;have HW:Hid _:=(⟨f,m⟩:ae w1 wr/\Below w.heap.size w wr)
  obtain H|hge:=Sr j B.aV.length
  ·obtain⟨b2,aa,rfl,I,J⟩:=d j H;have I:=f.cell I;have J:=f.cell J;obtain⟨z1,z2,z3⟩:=u B.aV[j] (SH _);have R:=jC z3 y;rw[<-cN,<-cN]at R;have cR:=Ck L (bs y) B.aV[j] wr (by omega) z1 (by omega) (by omega);rw[dj]at cR;clear C f m g A q r d u n;go_wp2_with (first|(go_at_call 113;refine cR.mono ?_;rintro e w3 ⟨rfl,M⟩));refine⟨⟨j+1,_,by omega,by go_num,rfl,by omega,HW.out.1.trans (ae.below M),HW.out.2.trans (M.mono HW.out.2.size),?_⟩,by simp[intOf];omega⟩;rw[<-X.out,yR _ _ H]
  clear C f m g A q r d u n;go_wp2;go_ret;have C:=X.out;rw[Tc hge]at C;exact⟨by rw[<-C];rfl,HW.out.2⟩
def qG(l a):l.any (λs=>s.data.toList==a.data.toList)=decide (0<=kT l a):=by rw[qC];congr 1;funext q;rw[TN,Ts,SP];exact⟨λh=>pR h,λh=>h▸rfl⟩
def fB(a:ByteArray):a.data.toList.isEmpty=decide (a.size=0):=by rw[Lib.size_eq,TN,List.isEmpty_iff,SP,T3]
def ID(t a b):gp t a.data.toList b.data.toList=if(∃q,∃h:q<t.bq.length,0<=kT t.bq[q] a/\0<=kT t.bq[q] b)\/(a=b/\0<a.size)then 100 else 0:=by unfold gp;congr 1;rw[eq_iff_iff,Ua,TE,fB];refine or_congr ⟨?_,?_⟩ ?_;rintro⟨l,d,h⟩;obtain⟨q,c,rfl⟩:=T9.1 d;rw[qG,qG,SG,SP,SP]at h;exact⟨q,c,h⟩;rintro⟨q,c,h⟩;refine⟨_,SH c,?_⟩;rw[qG,qG,SG,SP,SP];exact h;rw[SG,Ts,Bool.not_eq_true',decide_eq_false_iff_not];exact⟨λh=>⟨pR h.1,by omega⟩,λh=>⟨h.1▸rfl,by omega⟩⟩
def Hh{p:Nat->Prop}{k n}(a:∀q,q<k->q<n->¬p q)(h:¬p k):∀q,q<k+1->q<n->¬p q:=by intro q c b;obtain h1|h1:=Sr q k;exact a q h1 b;(have:q=k:=by omega);subst this;exact h
def NH{K:Nat->Prop}{v0 v1 v2:Value}{t:Table}(a b:ByteArray)(w:World)(E:IsTable K w v0 v1 v2 t)(z:t.bq.length<=4):Calls (Qs fs) 116 #[.agg #[v0,v1,v2],.string a,.string b] w λe w'=>e=.returned (.int .i64 (gp t a.data.toList b.data.toList))/\Below w.heap.size w w':=by
 have e62:=e62 L;have r:=E.stays (ae.alloc w (.cells #[v0,v1,v2] 26));have f:=aH w (.cells #[v0,v1,v2] 26);have n:=az w #[v0,v1,v2] 26 2 v2 rfl;have s:Hid _:=ID t a b;obtain⟨I,c,rfl,A,V,_,d⟩:=r.2.2;clear r E;obtain⟨m,u⟩:=ex (t.bq);rw[<-u]at A d z s f n⊢;clear u;obtain⟨w1,v⟩:=ex (w.alloc (.cells #[v0,v1,.slice I m.length c] 26));obtain⟨N,F⟩:=ex (w.heap.size);have o:∀(J:¬(a=b/\0<a.size)),True:=λ_=>trivial;by_cases k:a=b/\0<a.size
 ·obtain⟨rfl,x⟩:=k;have l:=s.out;rw[Sn (.inr ⟨rfl,x⟩)]at l;have B:Hid _:=l;clear l s d;go_enter (n116 L),Tryz.ntmps116;go_wp2;go_ret;exact⟨by rw[B.out];rfl,f⟩
 have p:(a.toList==b.toList)=false\/((a.toList==b.toList)=true/\a.size=0):=by rw[mG];by_cases h:a=b;right;by_cases M:a.size=0;exact⟨by simp[h],M⟩;exact absurd ⟨h,by omega⟩ k;left;simp[h]
 have O:Hid _:=k;clear k o;have key:∀(fr:Act->Prop),True:=λ_=>trivial;clear key;obtain p|⟨p,P⟩:=p;all_goals
  go_enter (n116 L),Tryz.ntmps116;go_wp2;rw[<-v]at n f d⊢;rw[<-F]at n⊢;clear v F
  go_loop [7] (λi=>∃j:Nat,j<=m.length/\i=.int .i64 j/\∀q,q<j->q<m.length->¬∃h:q<m.length,0<=kT m[q] a/\0<=kT m[q] b) (λi=>m.length-(intOf i).toNat)
  case atStart=>exact⟨0,SE _,rfl,λq h=>absurd h (SL _)⟩
  case round=>
   obtain⟨j,W,rfl,G⟩:=hrel;have C:Hid _:=G;clear G;obtain y|hge:=Sr j m.length
   ·obtain⟨X,H,rfl,Y,D,g⟩:=d j y
    rw[Tu]at D;have Q:=E4 L a w1 g;have R:=E4 L b w1 g;obtain⟨S,Z,rfl,_⟩:=g;clear d;go_wp2_with (first|(go_at_call 62;refine Q.mono ?_;rintro e w3 ⟨rfl,rfl⟩)|(go_at_call 62;refine R.mono ?_;rintro e w3 ⟨rfl,rfl⟩))
    ·go_ret
     have l:=s.out;rw[Sn (.inl ⟨j,y,by assumption,by assumption⟩)]at l;exact⟨by rw[l];rfl,f⟩
    ·exact⟨⟨j+1,by omega,by go_num,Hh C.out λ⟨_,T,U⟩=>by omega⟩,by simp[intOf];omega⟩
    ·exact⟨⟨j+1,by omega,by go_num,Hh C.out λ⟨_,T,U⟩=>by omega⟩,by simp[intOf];omega⟩
   ·clear d
    go_wp2;go_ret;have l:=s.out;rw[Sm]at l
    ·exact⟨by rw[l];rfl,f⟩
    ·rintro(⟨q,p,h⟩|h)
     ·exact C.out q (by omega) p ⟨p,h⟩
     ·exact O.out h
end Go.Proofs

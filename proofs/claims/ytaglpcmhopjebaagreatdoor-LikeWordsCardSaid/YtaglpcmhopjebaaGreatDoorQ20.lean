import Derived.Lib.IndexBytes
import Derived.BigQuiet
import Derived.Test.YtaglpcmhopjebaaGreatDoorQ19
set_option linter.all false
set_option maxRecDepth 100000
set_option maxHeartbeats 20000000
namespace Go.Proofs
open Go.Tm Go.RowKit
@[go_sem] theorem RX(P)(fs)(t)(w):(underlying t).run (ah P fs) w=(underlying t).run P w:=by simp only[underlying,program,bind,Sem.bind,Sem.run,aI];cases P.underlying t<;>rfl
variable {fs:Array Func} (L:bU fs)
def uK(c):bc c=true↔97<=(c.toNat:Int)/\(c.toNat:Int)<=122:=by simp[bc]
def nC{s:ByteArray}{j}(a:j<s.size):s.data.toList[j]'(by simpa using a)=s[j]:=by rw[Vf];rfl
def zW{p:UInt8->Bool}{s:ByteArray}(h:∀j (h:j<s.size),p s[j]=true):s.data.toList.all p=true:=by
 rw[SM];intro x b;obtain⟨j,c,rfl⟩:=TO.1 b;have a:j<s.size:=by simpa using c
 rw[nC a];exact h j a
def qu{s:ByteArray}{j}(a:j<s.size):s[j]∈s.data.toList:=by rw[<-nC a];exact Sg _
def se{p}{s:ByteArray}{j}(a:j<s.size)(h:p s[j]=false):s.data.toList.all p=false:=by rw[List.all_eq_false];exact⟨s[j],qu a,by simp[h]⟩
def zX{p}{s:ByteArray}{j}(a:j<s.size)(h:p s[j]=true):s.data.toList.any p=true:=by rw[Tj];exact⟨s[j],qu a,h⟩
def sf{p:UInt8->Bool}{s:ByteArray}(h:∀j (h:j<s.size),p s[j]=false):s.data.toList.any p=false:=by
 rw[T5];intro x b;obtain⟨j,c,rfl⟩:=TO.1 b;have a:j<s.size:=by simpa using c
 rw[nC a,h j a];exact Ut
def tA{s a b k}(c:k<s.size)(h:((s[k].toNat:Int))<97\/122<(s[k].toNat:Int)):aX s a b=false:=by
 have:bc s[k]=false:=by
  cases d:bc s[k]with
  |false=>rfl
  |true=>have:=(uK _).1 d;omega
 simp[aX,se c this]
def zY{s:ByteArray}{a hi:Int}(h:∀j (h:j<s.size),bc s[j]=true):aX s a hi=aD s.size a hi:=by simp[aX,zW h]
def EP{s:ByteArray}{k:Nat}(b:∀j (h:j<k) (a:j<s.size),bc s[j]=true)(c:k<s.size)(h:bc s[k]=true):∀j (h:j<k+1) (a:j<s.size),bc s[j]=true:=by
 intro j d a;obtain h1|h1:=R5 j k
 ·exact b j h1 a
 ·have:j=k:=by omega
  subst this;exact h
def lW(c):jd c=true↔(c.toNat:Int)=10\/(c.toNat:Int)=58\/(c.toNat:Int)=59\/(c.toNat:Int)=44:=by simp only[jd,TP,S9,<-UK,UInt8.reduceToNat,or_assoc];omega
def jM{s a k}(b:k<s.size)(h:jd s[k]=true):bD s a=false:=by simp[bD,zX b h]
def xK{s:ByteArray}{hi:Int}(h:∀j (h:j<s.size),jd s[j]=false):bD s hi=aD s.size 1 hi:=by simp[bD,sf h]
def ER{s:ByteArray}{k:Nat}(b:∀j (h:j<k) (a:j<s.size),jd s[j]=false)(c:k<s.size)(h:jd s[k]=false):∀j (h:j<k+1) (a:j<s.size),jd s[j]=false:=by
 intro j d a;obtain h1|h1:=R5 j k
 ·exact b j h1 a
 ·have:j=k:=by omega
  subst this;exact h
def Im(n a b:Int)(w:World):Calls (Qs fs) 60 #[.int .i64 n,.int .i64 a,.int .i64 b] w λe w'=>e=.returned (.bool (aD n a b))/\w'=w:=by go_enter (n60 L),Tryz.ntmps60;go_wp2;all_goals (go_ret;simp[aD];try omega)
def mH(s:ByteArray)(a b:Int)(w:World)(d:s.size<=9223372036854775807):Calls (Qs fs) 61 #[.string s,.int .i64 a,.int .i64 b] w λe w'=>e=.returned (.bool (aX s a b))/\w'=w:=by
 have e60:=e60 L;go_enter (n61 L),Tryz.ntmps61;go_wp2
 go_loop [7] (λi=>∃k:Nat,k<=s.size/\i=.int .i64 k/\∀j (h:j<k) (f:j<s.size),bc s[j]=true) (λi=>s.size-(intOf i).toNat)
 case atStart=>exact⟨0,R9 _,rfl,λj h=>absurd h (Sm _)⟩
 case round=>
  obtain⟨k,g,rfl,c⟩:=hrel;go_wp2_with (first|(go_at_call 60;refine(Im L _ _ _ _).mono ?_;rintro e w' ⟨rfl,rfl⟩))
  ·go_ret
   exact⟨by rw[tA (by assumption) (by assumption)];rfl,rfl⟩
  ·refine⟨⟨k+1,by omega,by go_num,EP c (by assumption) ((uK _).2 (by assumption))⟩,by simp[intOf];omega⟩
  ·go_ret
   exact⟨by rw[tA (by assumption) (.inl (by assumption))];rfl,rfl⟩
  ·go_ret
   exact⟨by rw[zY λj h=>c j (by omega) h];rfl,rfl⟩
def jN(a b:ByteArray):(a.toList==b.toList)=decide (a=b):=by rw[Tu,Sq,S9,Lib.toList_data,Lib.toList_data];exact⟨λh=>Go.WideShapes.bytes_inj h,λh=>h▸rfl⟩
def Io{a b:ByteArray}(h:(a.toList==b.toList)=true):a=b:=by rw[jN]at h;simpa using h
def Ip{a b:ByteArray}(h:(a.toList==b.toList)=false):a≠b:=by rw[jN]at h;simpa using h
def BS(s:ByteArray)(a:Int)(w:World)(d:s.size<=9223372036854775807):Calls (Qs fs) 110 #[.string s,.int .i64 a] w λe w'=>e=.returned (.bool (bD s a))/\w'=w:=by
 have e60:=e60 L;go_enter (n110 L),Tryz.ntmps110;go_wp2
 go_loop [5] (λi=>∃k:Nat,k<=s.size/\i=.int .i64 k/\∀j (h:j<k) (f:j<s.size),jd s[j]=false) (λi=>s.size-(intOf i).toNat)
 case atStart=>exact⟨0,R9 _,rfl,λj h=>absurd h (Sm _)⟩
 case round=>
  obtain⟨k,g,rfl,b⟩:=hrel;go_wp2_with (first|(go_at_call 60;refine(Im L _ _ _ _).mono ?_;rintro e w' ⟨rfl,rfl⟩))
  ·go_ret
   exact⟨by rw[jM (by assumption) ((lW _).2 (by omega))];rfl,rfl⟩
  ·go_ret
   exact⟨by rw[jM (by assumption) ((lW _).2 (by omega))];rfl,rfl⟩
  ·go_ret
   exact⟨by rw[jM (by assumption) ((lW _).2 (by omega))];rfl,rfl⟩
  ·have h:= ‹(((_\/_)\/_)\/_:Prop)›
   go_ret;simp only[S9]at h;exact⟨by rw[jM (by assumption) ((lW _).2 (by omega))];rfl,rfl⟩
  ·have h:= ‹(((_/\_)/\_)/\_:Prop)›
   simp only[Sw]at h;refine⟨⟨k+1,by omega,by go_num,ER b (by assumption) ?_⟩,by simp[intOf];omega⟩;rw[UL];intro c;have:=(lW _).1 c;omega
  ·go_ret
   exact⟨by rw[xK λj h=>b j (by omega) h];rfl,rfl⟩
def qv(s r:ByteArray)(k:Nat)(w:World)(c:s.size<=1000000)(d:r.size<=1000000)(f:k<=s.size):Calls (Qs fs) 96 #[.string s,.int .i64 k,.string r] w λe w'=>e=.returned (.bool (Lib.occAt s.data.toList r.data.toList k))/\w'=w:=by
 go_enter (n96 L),Tryz.ntmps96;go_wp2
 ·go_ret
  exact⟨by rw[Lib.occ_of_piece s r k (by omega)];rfl,rfl⟩
 ·go_ret
  refine⟨?_,rfl⟩;have:Lib.occAt s.data.toList r.data.toList k=false:=by
   cases a:Lib.occAt s.data.toList r.data.toList k with
   |false=>rfl
   |true=>
    have b:=(TB.1 (show r.data.toList.isPrefixOf (s.data.toList.drop k)=true from a)).length_le;rw[Sk,<-Lib.size_eq,<-Lib.size_eq]at b;have g:= ‹(_:Int)<_+_›;by_cases h:r.size=0
    ·omega
    ·omega
  rw[this];rfl
def kS(l:List ByteArray)(s:ByteArray):Int:=(l.findIdx? λq=>decide (q=s)).elim (-1) λk=>(k:Int)
def Iq{l:List ByteArray}{s:ByteArray}{k:Nat}(a:k<l.length)(h:l[k]=s)(b:∀j (h:j<k) (d:j<l.length),l[j]≠s):kS l s=k:=by
 unfold kS;have:(l.findIdx? λq=>decide (q=s))=some k:=by rw[VH];exact⟨a,by simp[h],λj c=>by simpa using b j c (by omega)⟩
 rw[this];rfl
def ET{l:List ByteArray}{s:ByteArray}(a:∀j (d:j<l.length),l[j]≠s):kS l s= -1:=by
 unfold kS;have:(l.findIdx? λq=>decide (q=s))=none:=by rw[VI];intro x b;obtain⟨j,c,rfl⟩:=TO.1 b;simpa using a j c
 rw[this];rfl
def qw(l s):decide (0<=kS l s)=l.any (λq=>decide (q=s)):=by
 unfold kS;cases h:(l.findIdx? λq=>decide (q=s))with
 |none=>
  rw[VI]at h;have:l.any (λq=>decide (q=s))=false:=by rw[T5];intro x a;simpa using h x a
  rw[this];rfl
 |some k=>rw[VH]at h;obtain⟨c,b,_⟩:=h;have:l.any (λq=>decide (q=s))=true:=Tj.2 ⟨l[k],Sg _,b⟩;rw[this];simp
def G5{b:Type}{l:List b}{s:b}{k:Nat}(c:∀j (h:j<k) (a:j<l.length),l[j]≠s)(d:k<l.length)(h:l[k]≠s):∀j (h:j<k+1) (a:j<l.length),l[j]≠s:=by
 intro j e a;obtain h1|h1:=R5 j k
 ·exact c j h1 a
 ·have:j=k:=by omega
  subst this;exact h
def EU{K:Nat->Prop}{v:Value}{l:List ByteArray}(s:ByteArray)(w:World)(f:aE K 1 kq w v l):Calls (Qs fs) 62 #[v,.string s] w λe w'=>e=.returned (.int .i64 (kS l s))/\w'=w:=by
 obtain⟨p,c,rfl,o,q,_,a⟩:=f;go_enter (n62 L),Tryz.ntmps62;go_wp2
 go_loop [5] (λi=>∃k:Nat,k<=l.length/\i=.int .i64 k/\∀j (h:j<k) (r:j<l.length),l[j]≠s) (λi=>l.length-(intOf i).toNat)
 case atStart=>exact⟨0,R9 _,rfl,λj h=>absurd h (Sm _)⟩
 case round=>
  obtain⟨k,t,rfl,g⟩:=hrel;obtain d|hge:=R5 k l.length
  ·obtain⟨b,m,rfl,n⟩:=a k d
   have n:w.cell? ⟨b,m+k,none⟩=some (.string l[k]):=by simpa[kq]using n
   go_wp2
   ·go_ret
    exact⟨by rw[Iq d (Io (by assumption)) g];rfl,rfl⟩
   ·exact⟨⟨k+1,by omega,by go_num,G5 g d (Ip (by assumption))⟩,by simp[intOf];omega⟩
  ·go_wp2
   go_ret;exact⟨by rw[ET λj h=>g j (by omega) h];rfl,rfl⟩
def Kx{K:Nat->Prop}{v:Value}{l:List Int}(s:Int)(w:World)(d:aE K 1 du w v l):Calls (Qs fs) 167 #[v,.int .i64 s] w λe w'=>e=.returned (.bool (l.contains s))/\w'=w:=by
 obtain⟨r,c,rfl,p,t,_,a⟩:=d;go_enter (n167 L),Tryz.ntmps167;go_wp2
 go_loop [5] (λi=>∃k:Nat,k<=l.length/\i=.int .i64 k/\∀j (h:j<k) (u:j<l.length),l[j]≠s) (λi=>l.length-(intOf i).toNat)
 case atStart=>exact⟨0,R9 _,rfl,λj h=>absurd h (Sm _)⟩
 case round=>
  obtain⟨k,x,rfl,n⟩:=hrel;obtain f|hge:=R5 k l.length
  ·obtain⟨b,m,rfl,o⟩:=a k f
   have o:w.cell? ⟨b,m+k,none⟩=some (.int .i64 l[k]):=by simpa[du]using o
   go_wp2
   ·have h:= ‹(_==_)=true›
    go_ret;have g:s∈l:=by rw[<-(S9.1 h)];exact Sg _
    exact⟨by simp[g],rfl⟩
   ·have h:= ‹(_==_)=false›
    exact⟨⟨k+1,by omega,by go_num,G5 n f (by simpa using h)⟩,by simp[intOf];omega⟩
  ·go_wp2
   go_ret;have g:¬s∈l:=λg=>by obtain⟨j,q,rfl⟩:=TO.1 g;exact n j (by omega) q rfl
   exact⟨by simp[g],rfl⟩
def nD{a:Type}(p)(l:List a)(k)(b:k<l.length):((l.take (k+1)).filter p)=(l.take k).filter p++(if p l[k]then[l[k]]else[]):=by
 rw[Uu b,Ue]
 congr 1
 simp[List.filter];split<;>simp_all
def uU{K:Nat->Prop}{v:Value}{l:List Int}(n:Int)(w:World)(d:aE K 1 du w v l)(p:∀x∈l,0<=x/\x<=999):Calls (Qs fs) 142 #[v,.int .i64 n] w λe w'=>e=.returned (.int .i64 (aL l n))/\w'=w:=by
 obtain⟨r,c,rfl,q,s,_,a⟩:=d;go_enter (n142 L),Tryz.ntmps142;go_wp2
 go_loop [5,6] (λm i=>∃k:Nat,k<=l.length/\i=.int .i64 k/\m=.int .i64 (aL (l.take k) n)) (λm i=>l.length-(intOf i).toNat)
 case atStart=>exact⟨0,R9 _,rfl,rfl⟩
 case round=>
  obtain⟨k,t,rfl,rfl⟩:=hrel;have u:aL (l.take k) n<=k:=by unfold aL;exact R3 (Tk _ _) (by simp;omega)
  obtain f|hge:=R5 k l.length
  ·obtain⟨b,j,rfl,o⟩:=a k f
   have o:w.cell? ⟨b,j+k,none⟩=some (.int .i64 l[k]):=by simpa[du]using o
   obtain⟨y,z⟩:=p l[k] (Sg _);have g:aL (l.take (k+1)) n=aL (l.take k) n+(if l[k]/100==n then 1 else 0):=by unfold aL;rw[nD _ _ _ f,Sr];split<;>rfl
   go_wp2
   ·have h:= ‹(_==n)=true›
    exact⟨⟨k+1,by omega,by go_num,by rw[g,RZ h];go_num⟩,by simp[intOf];omega⟩
   ·have h:= ‹(_==n)=false›
    exact⟨⟨k+1,by omega,by go_num,by rw[g,RY (by rw[h];exact Ut)];go_num⟩,by simp[intOf];omega⟩
  ·go_wp2
   go_ret;rw[UM hge];exact⟨rfl,rfl⟩
end Go.Proofs
namespace Go.Proofs
open Go.Tm Go.RowKit
variable {fs:Array Func} (L:bU fs)
def bs(l:Bs):ByteArray:=⟨l.toArray⟩
def dH(l):(bs l).data.toList=l:=by simp[bs]
def db(l):(bs l).size=l.length:=by rw[Lib.size_eq,dH]
def pQ{a b:ByteArray}(h:a.data.toList=b.data.toList):a=b:=Go.WideShapes.bytes_inj h
def BT(a b:ByteArray):(a++b).data.toList=a.data.toList++b.data.toList:=by obtain⟨⟨a⟩⟩:=a;obtain⟨⟨b⟩⟩:=b;simp
def sg(x)(r:ByteArray):bs x++r=bs (x++r.data.toList):=pQ (by rw[BT,dH,dH])
def zZ(x)(s:ByteArray)(k)(b:k<s.size):bs x++s.extract k (k+1)=bs (x++[s[k]]):=by
 rw[sg,Lib.extract_data]
 congr 2
 have a:k<s.data.toList.length:=by rwa[<-Lib.size_eq]
 rw[Uf a,VJ];simp only[SN,SI];rw[nC b]
def drop_cons(s:ByteArray)(k)(b:k<s.size):s.data.toList.drop k=s[k]::s.data.toList.drop (k+1):=by
 have a:k<s.data.toList.length:=by rwa[<-Lib.size_eq]
 rw[Uf a,nC b]
def xL(f t:Bs)(e:f≠[]):∀(n m) (s),s.length<=n->s.length<=m->eK f t n s=eK f t m s:=by
 have a:=Tv.2 e;intro n;induction n with
 |zero=>intro m s h _;have:s=[]:=S8 (by omega);subst this;cases m<;>rfl
 |succ n b=>
  intro m s h d;cases s with
  |nil=>cases m<;>rfl
  |cons c cs=>
   cases m with
   |zero=>simp at d
   |succ m=>
    simp only[R4]at h d;unfold eK;have g:((c::cs).drop f.length).length<=n:=by rw[Sk,R4];omega
    have i:((c::cs).drop f.length).length<=m:=by rw[Sk,R4];omega
    rw[b m _ g i,b m cs (by omega) (by omega)]
def mI(p):bP p []=[]:=rfl
def mJ{p s}(b:p.1.data.toList.isPrefixOf s=true)(a:p.1.data.toList≠[]):bP p s=p.2.data.toList++bP p (s.drop p.1.data.toList.length):=by
 cases s with
 |nil=>have:=(TB.1 b).length_le;exact absurd (S8 (Nat.le_zero.1 this)) a
 |cons c cs=>
  have d:=Tv.2 a;show eK _ _ (cs.length+1) (c::cs)=_;unfold eK;rw[RZ b]
  congr 1
  exact xL _ _ a _ _ _ (by rw[Sk,R4];omega) (R2 _)
def ly{p c}{s:Bs}(a:p.1.data.toList.isPrefixOf (c::s)=false):bP p (c::s)=c::bP p s:=by show eK _ _ (s.length+1) (c::s)=_;unfold eK;rw[a];rfl
def aw(w:World)(c)(e i:Nat)(v)(h:c[i]? =some v):(w.alloc (.cells c e)).cell? ⟨w.heap.size,i,none⟩=some v:=by unfold World.cell? World.alloc;simp[h]
def aG(w o):Below w.heap.size w (w.alloc o):=(Below.refl _ w).alloc (R2 _) o
def BU(s:ByteArray)(p:Pr2)(w:World)(z:s.size<=1000)(A:1<=p.1.size)(B:p.1.size<=1000)(C:p.2.size<=1000):Calls (Qs fs) 113 #[.string s,.agg #[.string p.1,.string p.2]] w λe w'=>e=.returned (.string (bs (bP p s.data.toList)))/\Below w.heap.size w w':=by
 have e96:=e96 L;have n:p.1.data.toList≠[]:=by intro h;have l:=Lib.size_eq p.1;rw[h]at l;have D:p.1.size=0:=l;omega
 have q:=aw w #[.string p.1,.string p.2] 51 0 (.string p.1) rfl;have r:=aw w #[.string p.1,.string p.2] 51 1 (.string p.2) rfl;have t:Hid (Below w.heap.size w (w.alloc (.cells #[.string p.1,.string p.2] 51))):=aG w _;go_enter (n113 L),Tryz.ntmps113;go_wp2
 go_loop [5,6] (λo i=>∃(k:Nat) (x:Bs),k<=s.size/\i=.int .i64 k/\o=.string (bs x)/\(bs x).size<=1000*k/\x++bP p (s.data.toList.drop k)=bP p s.data.toList) (λo i=>s.size-(intOf i).toNat)
 case atStart=>exact⟨0,[],R9 _,rfl,rfl,R9 _,rfl⟩
 case round=>
  obtain⟨k,x,E,rfl,rfl,u,a⟩:=hrel;have g:Hid _:=a;clear a;obtain b|hge:=R5 k s.size
  ·have c:=drop_cons s k b
   have m:Hid _:=c;clear c;have v:=λy=>qv L s p.1 k y (by omega) (by omega) (by omega);go_wp2_with (first|(go_at_call 96;refine(v _).mono ?_;rintro e w' ⟨rfl,rfl⟩))
   ·have f:= ‹Lib.occAt _ _ _=true›
    have d:=(TB.1 (show p.1.data.toList.isPrefixOf (s.data.toList.drop k)=true from f)).length_le;rw[Sk,<-Lib.size_eq,<-Lib.size_eq]at d;refine⟨⟨k+p.1.size,x++p.2.data.toList,by omega,by go_num,by rw[sg],?_,?_⟩,by simp[intOf];omega⟩
    ·rw[db,Sr,<-db x,<-Lib.size_eq]
     have:1000*(k+p.1.size)=1000*k+1000*p.1.size:=Nat.mul_add _ _ _;omega
    ·rw[<-g.out,mJ f n,Uv,<-Lib.size_eq,Tw]
   ·have f:= ‹Lib.occAt _ _ _=false›
    refine⟨⟨k+1,x++[s[k]],by omega,by go_num,by rw[zZ x s k b],?_,?_⟩,by simp[intOf];omega⟩
    ·rw[db,Sr,<-db x]
     simp only[R4,Sl];omega
    ·rw[<-g.out,m.out]
     have j:p.1.data.toList.isPrefixOf (s[k]::s.data.toList.drop (k+1))=false:=by rw[<-m.out];exact f
     rw[ly j,Tw];rfl
  ·go_wp2
   go_ret;have a:=g.out;rw[SJ (by rw[<-Lib.size_eq];exact hge),mI,Tx]at a;exact⟨by rw[a];rfl,t.out⟩
def Ky(s:ByteArray)(w:World)(d:s.size<=1000):Calls (Qs fs) 117 #[.string s] w λe w'=>e=.returned (.string (bs s.data.toList.reverse))/\w'=w:=by
 go_enter (n117 L),Tryz.ntmps117;go_wp2
 go_loop [3,4] (λo i=>∃(k:Nat) (x:Bs),k<=s.size/\i=.int .i64 ((k:Int)-1)/\o=.string (bs x)/\(bs x).size<=1000/\x=(s.data.toList.drop k).reverse) (λo i=>(intOf i+1).toNat)
 case atStart=>exact⟨s.size,[],R2 _,by simp,rfl,by decide,by rw[SJ (by rw[<-Lib.size_eq];exact R2 _)];rfl⟩
 case round=>
  obtain⟨k,x,f,rfl,rfl,c,a⟩:=hrel;have b:Hid _:=a;clear a;obtain rfl|hpos:=Te k
  ·go_wp2
   go_ret;have a:=b.out;rw[SP]at a;exact⟨by rw[a];rfl,rfl⟩
  ·obtain⟨j,rfl⟩:∃j,k=j+1:=⟨k-1,by omega⟩
   go_wp2;have a:=b.out;refine⟨⟨j,x++[s[j]],by omega,rfl,by rw[zZ x s j (by omega)],?_,?_⟩,by simp[intOf]⟩
   ·rw[db,Sr,a,UN,Sk,<-Lib.size_eq]
    simp only[R4,Sl];omega
   ·rw[a,drop_cons s j (by omega),List.reverse_cons]
def Ni{a b:ByteArray}(d:a.size<=b.size):uj a.data.toList b.data.toList=
 if a.size<3\/(Lib.occAt b.data.toList a.data.toList 0=false/\Lib.occAt b.data.toList a.data.toList (b.size-a.size)=false)then 0 else(100*a.size:Int)/b.size:=by
 have c:a.data.toList.isSuffixOf b.data.toList=Lib.occAt b.data.toList a.data.toList (b.size-a.size):=by
  have h:=Lib.hasSuffix_of_drop b.data.toList a.data.toList;unfold Lib.hasSuffix at h;rw[<-h,<-Lib.size_eq,<-Lib.size_eq,Sd d,UO];unfold Lib.occAt;have e:(b.data.toList.drop (b.size-a.size)).length=a.data.toList.length:=by rw[Sk,<-Lib.size_eq,<-Lib.size_eq];omega
  rw[Tu,S9,TB];exact⟨λh=>h▸List.prefix_refl _,λh=>(List.IsPrefix.eq_of_length h e.symm).symm⟩
 unfold uj;rw[<-Lib.size_eq,<-Lib.size_eq,RY (by omega)];simp only[];rw[<-Lib.size_eq,<-Lib.size_eq,c,show a.data.toList.isPrefixOf b.data.toList=Lib.occAt b.data.toList a.data.toList 0 from rfl];cases Lib.occAt b.data.toList a.data.toList 0<;>cases Lib.occAt b.data.toList a.data.toList (b.size-a.size)<;>simp
def Kz(a b:ByteArray)(w:World)(g:a.size<=1000)(i:b.size<=1000)(c:a.size<=b.size):Calls (Qs fs) 118 #[.string a,.string b] w λe w'=>e=.returned (.int .i64 (uj a.data.toList b.data.toList))/\w'=w:=by
 have e96:=e96 L;have f:∀wx,Calls (Qs fs) 96 #[.string b,.int .i64 0,.string a] wx λe w'=>e=.returned (.bool (Lib.occAt b.data.toList a.data.toList 0))/\w'=wx:=λwx=>qv L b a 0 wx (by omega) (by omega) (by omega);have d:∀wx,Calls (Qs fs) 96 #[.string b,.int .i64 ((b.size:Int)-a.size),.string a] wx λe w'=>e=.returned (.bool (Lib.occAt b.data.toList a.data.toList (b.size-a.size)))/\w'=wx:=λwx=>by rw[show(b.size:Int)-a.size=((b.size-a.size:Nat):Int) by omega];exact qv L b a (b.size-a.size) wx (by omega) (by omega) (by omega)
 go_enter (n118 L),Tryz.ntmps118;go_wp2_with (first|(go_at_call 96;refine(f _).mono ?_;rintro e w' ⟨rfl,rfl⟩)|(go_at_call 96;refine(d _).mono ?_;rintro e w' ⟨rfl,rfl⟩))
 all_goals
  go_ret;refine⟨?_,rfl⟩;rw[Ni c];first
   |(rw[RZ (by first|(left;omega)|(right;simp_all;done)|(right;simp_all;rcases ‹_\/_› with h|h<;>first|omega|exact h))];rfl)
   |(rw[RY (by simp_all;try omega)];rfl)
def Ir{a b:ByteArray}(h:b.size<a.size):uj a.data.toList b.data.toList=uj b.data.toList a.data.toList:=by unfold uj;rw[<-Lib.size_eq,<-Lib.size_eq,RZ h,RY (by omega)]
def QF(a b:ByteArray)(w:World)(d:a.size<=1000)(f:b.size<=1000):Calls (Qs fs) 118 #[.string a,.string b] w λe w'=>e=.returned (.int .i64 (uj a.data.toList b.data.toList))/\w'=w:=by
 obtain c|hge:=R5 b.size a.size
 ·have M9:=M9 L
  have g:=λh=>Kz L b a h f d (by omega);go_enter (n118 L),Tryz.ntmps118;go_wp2_with (first|(go_at_call 118;refine(g _).mono ?_;rintro e w' ⟨rfl,rfl⟩))
  go_ret;exact⟨by rw[Ir c];rfl,rfl⟩
 ·exact Kz L a b w d f hge
structure OkT(t:Table):Prop where
 lets:∀p∈t.au,1<=p.1.size/\p.1.size<=4/\p.2.size<=3
 QG:t.au.length<=12
 aT:∀x∈t.az,∀p∈x.aT,1<=p.1.size/\p.1.size<=3/\p.2.size<=p.1.size
 G6:∀x∈t.az,x.aT.length<=5
 uV:t.az.length<=3
 OU:t.bl.length<=4
def dX(rest:Bs)(a:Option Pr2)(p:Pr2):Option Pr2:=if p.1.data.toList.isPrefixOf rest&&decide ((a.elim 0 λq=>q.1.size)<p.1.size)then some p else a
def jO(a:List Pr2)(k)(b:k<a.length)(rest):bJ (a.take (k+1)) rest=dX rest (bJ (a.take k) rest) a[k]:=by unfold bJ;rw[Uu b,UP];rfl
def gU(a:List Pr2)(rest:Bs)(k:Nat)(b:Int):Prop:=(b= -1/\bJ (a.take k) rest=none)\/∃j,∃h:j<a.length,j<k/\b=j/\bJ (a.take k) rest=some a[j]
def gU.start(a rest):gU a rest 0 (-1):=.inl ⟨rfl,rfl⟩
def Aa(rest):∀(a:List Pr2) (b) (p),a.foldl (dX rest) b=some p->p∈a\/b=some p:=by
 intro a;induction a with
 |nil=>exactλb p h=>.inr h
 |cons q a c=>
  intro b p h;obtain h|h:=c _ p h
  ·exact .inl (.tail _ h)
  ·unfold dX at h
   split at h
   ·cases h;exact .inl (.head _)
   ·exact .inr h
def gy{ls rest p}(h:bJ ls rest=some p):p∈ls:=by
 obtain h|h:=Aa rest ls none p h
 ·exact h
 ·cases h
def uk(rest:Bs):∀(c:List Pr2) (b),(∀p,b=some p->p.1.data.toList.isPrefixOf rest=true)->∀p,c.foldl (dX rest) b=some p->p.1.data.toList.isPrefixOf rest=true:=by
 intro c;induction c with
 |nil=>exactλb d p h=>d p h
 |cons q c f=>
  intro b d p h;refine f _ (λg a=>?_) p h;unfold dX at a;split at a
  ·rename_i e
   cases a;simp only[Sf]at e;exact e.1
  ·exact d g a
def nE{a rest p}(h:bJ a rest=some p):p.1.data.toList.isPrefixOf rest=true:=uk rest a none (λp h=>by cases h) p h
def EV(a:List Pr2)(e:∀p∈a,1<=p.1.size):∀(n m) (s),s.length<=n->s.length<=m->kR a n s=kR a m s:=by
 intro n;induction n with
 |zero=>intro m s h _;have:s=[]:=S8 (by omega);subst this;cases m<;>rfl
 |succ n b=>
  intro m s h d;cases s with
  |nil=>cases m<;>rfl
  |cons c cs=>
   cases m with
   |zero=>simp at d
   |succ m=>
    simp only[R4]at h d;unfold kR;cases f:bJ a (c::cs)with
    |none=>simp only[];rw[b m cs (by omega) (by omega)]
    |some p=>have g:=gy f;have:=e p g;simp only[];rw[b m _ (by rw[Sk,R4];omega) (by rw[Sk,R4];omega)]
def jZ{w w':World}(h:w'.heap=w.heap)(a):w'.cell? a=w.cell? a:=by unfold World.cell?;rw[h]
def Is(a):aQ a []=[]:=rfl
def It{a:List Pr2}(b:∀p∈a,1<=p.1.size){c}{s:Bs}{p}(d:bJ a (c::s)=some p):aQ a (c::s)=p.2.data.toList++aQ a ((c::s).drop p.1.size):=by
 have e:=b p (gy d);show kR a (s.length+1) (c::s)=_;unfold kR;rw[d];simp only[]
 congr 1
 exact EV _ b _ _ _ (by rw[Sk,R4];omega) (R2 _)
def EW{a c}{s:Bs}(b:bJ a (c::s)=none):aQ a (c::s)=(if bc c then[c]else[])++aQ a s:=by show kR a (s.length+1) (c::s)=_;unfold kR;rw[b];rfl
def gU.skip{a rest k b}(h:gU a rest k b)(d:k<a.length)(e:dX rest (bJ (a.take k) rest) a[k]=bJ (a.take k) rest):gU a rest (k+1) b:=by
 obtain⟨f,c⟩|⟨j,g,f,c,i⟩:=h
 ·exact .inl ⟨f,by rw[jO _ _ d,e,c]⟩
 ·exact .inr ⟨j,g,by omega,c,by rw[jO _ _ d,e,i]⟩
def gU.take{a rest k}(b:k<a.length)(c:dX rest (bJ (a.take k) rest) a[k]=some a[k]):gU a rest (k+1) k:=.inr ⟨k,b,Tl _,rfl,by rw[jO _ _ b,c]⟩
def uW{K:Nat->Prop}{v0 v1 v2:Value}{t:Table}(s:ByteArray)(w:World)(ht:IsTable K w v0 v1 v2 t)(ok:OkT t)(hs:s.size<=1000):Calls (Qs fs) 54 #[.agg #[v0,v1,v2],.string s] w λe w'=>e=.returned (.string (bs (aQ t.au s.data.toList)))/\Below w.heap.size w w':=by
 have e96:=e96 L;obtain⟨⟨T,c,rfl,ab,hc,_,n⟩,_,_⟩:=ht;have q:=ok.lets;have ad:=ok.QG;clear ok;obtain⟨ls,U⟩:=ex (t.au);rw[<-U]at ab n q ad⊢;clear U;have h1:∀p∈ls,1<=p.1.size:=λp hp=>(q p hp).1;have r:=aw w #[.slice T ls.length c,v1,v2] 26 0 _ rfl;have V:=aG w (.cells #[.slice T ls.length c,v1,v2] 26);have u:∀(k:Nat) (h:k<ls.length),∃b y,T=some ⟨b,y,none⟩/\dh K (w.alloc (.cells #[.slice T ls.length c,v1,v2] 26)) b (y+k*2) ls[k]:=λk h=>by obtain⟨b,y,e,Q⟩:=n k h;exact⟨b,y,e,dh.carry (Carry.keep (ae.below (aG w _))) b b _ _ rfl Q⟩
 clear n;obtain⟨w1,W⟩:=ex (w.alloc (.cells #[.slice T ls.length c,v1,v2] 26));go_enter (n54 L),Tryz.ntmps54;go_wp2;rw[<-W]at r V u⊢;obtain⟨N,hN⟩:=ex (w.heap.size);rw[<-hN]at r⊢;clear W hN;go_loopw [5,6] (λo i wr=>∃(k:Nat) (x:Bs),k<=s.size/\i=.int .i64 k/\o=.string (bs x)/\(bs x).size<=1000*k/\wr.heap=w1.heap/\Below w.heap.size w wr/\x++aQ ls (s.data.toList.drop k)=aQ ls s.data.toList) (λo i _=>s.size-(intOf i).toNat)
 case atStart=>exact⟨0,[],R9 _,rfl,rfl,R9 _,rfl,V,rfl⟩
 case round=>
  obtain⟨k,x,hk,rfl,rfl,ax,B,l,X⟩:=hrel;have S:Hid _:=X;clear X;obtain Y|hge:=R5 k s.size
  ·have C:=(jZ B _).trans r
   have Z:=drop_cons s k Y;have HD:Hid _:=Z;clear Z;go_wp2;go_loopw [7,8] (λb i wr=>∃(j:Nat) (b0:Int),j<=ls.length/\i=.int .i64 j/\b=.int .i64 b0/\gU ls (s.data.toList.drop k) j b0/\wr.heap=w1.heap/\Below w.heap.size w wr) (λb i _=>ls.length-(intOf i).toNat)
   case atStart=>exact⟨0,-1,R9 _,rfl,rfl,gU.start _ _,B,l⟩
   case round=>
    obtain⟨j,b0,hj,rfl,rfl,D,a,g⟩:=hrel;have an:=(jZ a _).trans r;have m:Hid _:=(⟨a,g⟩:wr.heap=w1.heap/\Below w.heap.size w wr)
    obtain f|hjge:=R5 j ls.length
    ·obtain⟨b,y,rfl,E,I⟩:=u j f
     have af:=q ls[j] (Sg _);obtain⟨z1,z2,z3⟩:=af;have E:=(jZ a _).trans E;have F:=u;clear a g B l r I h1 q S V C u;have J:=λwx=>qv L s ls[j].1 k wx (by omega) (by omega) (by omega);obtain⟨rfl,z⟩|⟨v,G,R,rfl,d⟩:=D
     ·have H:Hid _:=z
      clear z F;cases A:Lib.occAt s.data.toList ls[j].1.data.toList k with
      |false=>simp only[A]at J;have O:Hid _:=A;clear A;go_wp2;go_quiet (first|(go_at_call 96;exact Calls.quiet_of_same (J _)));go_wp2;refine⟨⟨j+1,-1,by omega,by go_num,rfl,gU.skip (.inl ⟨rfl,H.out⟩) f ?_,m.out.1,Go.below_drewN m.out.2 _⟩,by simp[intOf];omega⟩;unfold dX;rw[show ls[j].1.data.toList.isPrefixOf (s.data.toList.drop k)=false from O.out];rfl
      |true=>simp only[A]at J;have O:Hid _:=A;clear A;go_wp2;go_quiet (first|(go_at_call 96;exact Calls.quiet_of_same (J _)));go_wp2;refine⟨⟨j+1,j,by omega,by go_num,rfl,gU.take f ?_,m.out.1,Go.below_drewN m.out.2 _⟩,by simp[intOf];omega⟩;unfold dX;rw[show ls[j].1.data.toList.isPrefixOf (s.data.toList.drop k)=true from O.out,H.out,UO];exact RZ (Sd (show(0:Nat)<ls[j].1.size by omega))
     ·obtain⟨b2,ar,e2,aa,_⟩:=F v G
      cases e2;have aa:=(jZ m.out.1 _).trans aa;have H:Hid _:=d;clear d F;cases A:Lib.occAt s.data.toList ls[j].1.data.toList k with
      |false=>simp only[A]at J;have O:Hid _:=A;clear A;go_wp2;go_quiet (first|(go_at_call 96;exact Calls.quiet_of_same (J _)));go_wp2;refine⟨⟨j+1,v,by omega,by go_num,rfl,gU.skip (.inr ⟨v,G,R,rfl,H.out⟩) f ?_,m.out.1,Go.below_drewN m.out.2 _⟩,by simp[intOf];omega⟩;unfold dX;rw[show ls[j].1.data.toList.isPrefixOf (s.data.toList.drop k)=false from O.out];rfl
      |true=>
       simp only[A]at J;have O:Hid _:=A;clear A;obtain hcmp|hcmp:=R5 ls[v].1.size ls[j].1.size
       ·go_wp2
        go_quiet (first|(go_at_call 96;exact Calls.quiet_of_same (J _)));go_wp2;refine⟨⟨j+1,j,by omega,by go_num,rfl,gU.take f ?_,m.out.1,Go.below_drewN m.out.2 _⟩,by simp[intOf];omega⟩;unfold dX;rw[show ls[j].1.data.toList.isPrefixOf (s.data.toList.drop k)=true from O.out,H.out];simp[hcmp]
       ·go_wp2
        go_quiet (first|(go_at_call 96;exact Calls.quiet_of_same (J _)));go_wp2;refine⟨⟨j+1,v,by omega,by go_num,rfl,gU.skip (.inr ⟨v,G,R,rfl,H.out⟩) f ?_,m.out.1,Go.below_drewN m.out.2 _⟩,by simp[intOf];omega⟩;unfold dX;rw[show ls[j].1.data.toList.isPrefixOf (s.data.toList.drop k)=true from O.out,H.out,UO,RY (by rw[Sq];show ¬ls[v].1.size<ls[j].1.size;omega)]
    ·have ag:j=ls.length:=by omega
     subst ag;obtain⟨rfl,z⟩|⟨v,G,R,rfl,d⟩:=D
     ·rw[T6]at z
      have H:Hid _:=z;have M:=S;clear z u B l r h1 q S V C a g;have P:∀b:Bool,bc s[k]=b->aQ ls (s.data.toList.drop k)=(if b then[s[k]]else[])++aQ ls (s.data.toList.drop (k+1)):=λb hb=>by have Q:=H.out;rw[HD.out]at Q⊢;rw[EW Q,hb]
      have HL:Hid _:=P;clear P;go_wp2
      ·refine⟨⟨k+1,x++[s[k]],by omega,by go_num,by rw[zZ x s k Y],?_,m.out.1,m.out.2,?_⟩,by simp[intOf];omega⟩
       ·rw[db,Sr,<-db x]
        simp only[R4,Sl];omega
       ·rw[<-M.out,HL.out true ((uK _).2 ⟨by assumption,by assumption⟩),Tw]
        rfl
      all_goals
       refine⟨⟨k+1,x,by omega,by go_num,rfl,by omega,m.out.1,m.out.2,?_⟩,by simp[intOf];omega⟩;rw[<-M.out,HL.out false (by
        cases hl:bc s[k]with
        |false=>rfl
        |true=>have:=(uK _).1 hl;omega)]
       rfl
     ·rw[T6]at d
      obtain⟨b,y,rfl,E,I⟩:=u v G;obtain⟨z1,z2,z3⟩:=q ls[v] (Sg _);have E:=(jZ a _).trans E;have I:=(jZ a _).trans I;have H:Hid _:=d;have M:=S;have H1:Hid _:=h1;have ak:=(TB.1 (nE d)).length_le;rw[Sk,<-Lib.size_eq,<-Lib.size_eq]at ak;clear d u B l r q S V C a g h1;go_wp2;refine⟨⟨k+ls[v].1.size,x++ls[v].2.data.toList,by omega,by go_num,by rw[sg],?_,m.out.1,m.out.2,?_⟩,by simp[intOf];omega⟩
      ·rw[db,Sr,<-db x,<-Lib.size_eq]
       have:1000*(k+ls[v].1.size)=1000*k+1000*ls[v].1.size:=Nat.mul_add _ _ _;omega
      ·have Q:=H.out
       rw[<-M.out];rw[HD.out]at Q⊢;rw[It H1.out Q,<-HD.out,Uv,Tw]
  ·go_wp2
   go_ret;have X:=S.out;rw[SJ (by rw[<-Lib.size_eq];exact hge),Is,Tx]at X;exact⟨by rw[X];rfl,l⟩
def ae.cell{w w'}(h:ae w w'){b o v}(a:w.cell? ⟨b,o,none⟩=some v):w'.cell? ⟨b,o,none⟩=some v:=by
 unfold World.cell? at a⊢
 revert a
 simp only[];cases c:w.heap[b]? with
 |none=>intro h;cases h
 |some o'=>
  cases o' with
  |cells d e F=>intro a;rw[h b d e F c];exact a
  |_=>intro h;cases h
def ae.alloc(w o):ae w (w.alloc o):=ae.below (aG w o)
def ae.drewN{w w'}(h:ae w w')(n):ae w (w'.drewN n):=h
def um(f t)(b:t.length<=f.length):∀(n) (s),(eK f t n s).length<=s.length:=by
 intro n;induction n with
 |zero=>intro s;exact R2 _
 |succ n a=>
  intro s;cases s with
  |nil=>exact R2 _
  |cons c cs=>
   unfold eK;split
   ·rename_i d
    have g:=(TB.1 d).length_le;have e:=a ((c::cs).drop f.length);rw[Sk]at e;rw[Sr];omega
   ·have:=a cs
    simp only[R4];omega
def jy{p}(h:p.2.size<=p.1.size)(s):(bP p s).length<=s.length:=um _ _ (by rw[<-Lib.size_eq,<-Lib.size_eq];exact h) _ _
def qx(a:List Pr2)(h:∀p∈a,1<=p.1.size/\p.1.size<=4/\p.2.size<=3):∀(n) (s),(kR a n s).length<=3*s.length:=by
 intro n;induction n with
 |zero=>intro s;exact R9 _
 |succ n b=>
  intro s;cases s with
  |nil=>exact R9 _
  |cons c cs=>
   unfold kR;cases e:bJ a (c::cs)with
   |none=>have:=b cs;simp only[Sr,R4];split<;>simp only[R4,Sl]<;>omega
   |some p=>obtain⟨f,g,i⟩:=h p (gy e);have d:=b ((c::cs).drop p.1.size);rw[Sk]at d;simp only[Sr,R4]at d⊢;rw[<-Lib.size_eq];omega
def dI{t}(a:OkT t)(s):(aQ t.au s).length<=3*s.length:=qx _ a.lets _ _
def EX(aT:List Pr2)(y:Bs):Bs:=aT.foldl (λs r=>bP r s) y
def BV{aT:List Pr2}(h:∀p∈aT,1<=p.1.size/\p.1.size<=3/\p.2.size<=p.1.size):∀(y),(EX aT y).length<=y.length:=by
 induction aT with
 |nil=>exactλy=>R2 _
 |cons p aT a=>intro y;have b:=a (λq c=>h q (.tail _ c)) (bP p y);have d:=jy (h p (.head _)).2.2 y;exact R3 b d
def yz(aT:List Pr2)(j)(a:j<aT.length)(y):EX (aT.drop j) y=EX (aT.drop (j+1)) (bP aT[j] y):=by rw[Uf a];rfl
def si{t k}(a:k<t.az.length)(s):bt t k s=EX t.az[k].aT (aQ t.au s):=by unfold bt;rw[SK a];rfl
def lz{t}(a:OkT t){k}(b:k<t.az.length)(s):(bt t k s).length<=3*s.length:=by rw[si b];exact R3 (BV (a.aT _ (Sg _)) _) (dI a s)
def yA{K:Nat->Prop}{v0 v1 v2:Value}{t:Table}(k:Nat)(s:ByteArray)(w:World)(T:IsTable K w v0 v1 v2 t)(O:OkT t)(hs:s.size<=300)(U:k<t.az.length):Calls (Qs fs) 65 #[.agg #[v0,v1,v2],.int .i64 k,.string s] w λe w'=>e=.returned (.string (bs (bt t k s.data.toList)))/\Below w.heap.size w w':=by
 have e54:=e54 L;have P5:=P5 L;have n:=si U s.data.toList;have R:=dI O s.data.toList;rw[<-Lib.size_eq]at R;have p:=T.stays (ae.alloc w (.cells #[v0,v1,v2] 26));have x:=aG w (.cells #[v0,v1,v2] 26);have V:=uW L s _ p O (by omega);have a:∀i v,(#[v0,v1,v2]:Array Value)[i]? =some v->(w.alloc (.cells #[v0,v1,v2] 26)).cell? ⟨w.heap.size,i,none⟩=some v:=λi v h=>aw w _ 26 i v h;have q:=a 0 v0 rfl;have g:=a 1 v1 rfl;have r:=a 2 v2 rfl;go_enter (n65 L),Tryz.ntmps65;go_wp2_with (first|(go_at_call 54;refine V.mono ?_;rintro e w2 ⟨rfl,P⟩))
 obtain⟨w1,z⟩:=ex (w.alloc (.cells #[v0,v1,v2] 26));have hN:w.heap.size+1=w1.heap.size:=by rw[z];simp
 rw[<-z]at P p x q g r;have S2:=ae.below P;have B2:=x.trans (P.mono (by omega));obtain⟨N,D⟩:=ex (w.heap.size);rw[<-D]at q g r⊢;clear P x V a z hN D T;obtain⟨ao,c,rfl,ad,hc,_,l⟩:=p.2.1;clear p;have u:=O.aT t.az[k] (Sg _);clear O;obtain⟨B,E⟩:=ex (t.az[k]);have F:=l k U;rw[<-E]at u n F;clear l E;obtain⟨b,af,rfl,_,vs,A,G⟩:=F;obtain⟨ag,c2,rfl,W,ak,X,d⟩:=G;go_loopw [7,8] (λo i wr=>∃(j:Nat) (y:Bs),j<=B.aT.length/\i=.int .i64 j/\o=.string (bs y)/\(bs y).size<=900/\ae w1 wr/\Below w.heap.size w wr/\EX (B.aT.drop j) y=bt t k s.data.toList) (λo i _=>B.aT.length-(intOf i).toNat)
 case atStart=>exact⟨0,_,R9 _,rfl,rfl,by rw[db];omega,S2,B2,n.symm⟩
 case round=>
  obtain⟨j,y,hj,rfl,rfl,hy,f,m,C⟩:=hrel;have Y:Hid _:=C;have Z:=f.cell g;have aa:=f.cell A;have Q:Hid _:=(⟨f,m⟩:ae w1 wr/\Below w.heap.size w wr)
  obtain H|hge:=R5 j B.aT.length
  ·obtain⟨b2,ab,rfl,I,J⟩:=d j H
   have I:=f.cell I;have J:=f.cell J;obtain⟨z1,z2,z3⟩:=u B.aT[j] (Sg _);have S:=jy z3 y;rw[<-db,<-db]at S;have cR:=BU L (bs y) B.aT[j] wr (by omega) z1 (by omega) (by omega);rw[dH]at cR;clear C f m g A q r d u n;go_wp2_with (first|(go_at_call 113;refine cR.mono ?_;rintro e w3 ⟨rfl,M⟩))
   refine⟨⟨j+1,_,by omega,by go_num,rfl,by omega,Q.out.1.trans (ae.below M),Q.out.2.trans (M.mono Q.out.2.size),?_⟩,by simp[intOf];omega⟩;rw[<-Y.out,yz _ _ H]
  ·clear C f m g A q r d u n
   go_wp2;go_ret;have C:=Y.out;rw[SJ hge]at C;exact⟨by rw[<-C];rfl,Q.out.2⟩
def qy(l a):l.any (λs=>s.data.toList==a.data.toList)=decide (0<=kS l a):=by
 rw[qw]
 congr 1
 funext q
 rw[Tu,S9,Sq];exact⟨λh=>pQ h,λh=>h▸rfl⟩
def fB(a:ByteArray):a.data.toList.isEmpty=decide (a.size=0):=by rw[Lib.size_eq,Tu,List.isEmpty_iff,Sq,TH]
def Iu(t a b):ga t a.data.toList b.data.toList=if(∃q,∃h:q<t.bl.length,0<=kS t.bl[q] a/\0<=kS t.bl[q] b)\/(a=b/\0<a.size)then 100 else 0:=by
 unfold ga
 congr 1
 rw[eq_iff_iff,TP,Tj,fB];refine or_congr ⟨?_,?_⟩ ?_
 ·rintro⟨l,d,h⟩
  obtain⟨q,c,rfl⟩:=TO.1 d;rw[qy,qy,Sf,Sq,Sq]at h;exact⟨q,c,h⟩
 ·rintro⟨q,c,h⟩
  refine⟨_,Sg c,?_⟩;rw[qy,qy,Sf,Sq,Sq];exact h
 ·rw[Sf,S9,Bool.not_eq_true',decide_eq_false_iff_not]
  exact⟨λh=>⟨pQ h.1,by omega⟩,λh=>⟨h.1▸rfl,by omega⟩⟩
def G7{p:Nat->Prop}{k n}(a:∀q,q<k->q<n->¬p q)(h:¬p k):∀q,q<k+1->q<n->¬p q:=by
 intro q c b;obtain h1|h1:=R5 q k
 ·exact a q h1 b
 ·have:q=k:=by omega
  subst this;exact h
def Nj{K:Nat->Prop}{v0 v1 v2:Value}{t:Table}(a b:ByteArray)(w:World)(E:IsTable K w v0 v1 v2 t)(z:t.bl.length<=4):Calls (Qs fs) 116 #[.agg #[v0,v1,v2],.string a,.string b] w λe w'=>e=.returned (.int .i64 (ga t a.data.toList b.data.toList))/\Below w.heap.size w w':=by
 have e62:=e62 L;have r:=E.stays (ae.alloc w (.cells #[v0,v1,v2] 26));have f:=aG w (.cells #[v0,v1,v2] 26);have n:=aw w #[v0,v1,v2] 26 2 v2 rfl;have s:Hid _:=Iu t a b;obtain⟨I,c,rfl,A,V,_,d⟩:=r.2.2;clear r E;obtain⟨m,u⟩:=ex (t.bl);rw[<-u]at A d z s f n⊢;clear u;obtain⟨w1,v⟩:=ex (w.alloc (.cells #[v0,v1,.slice I m.length c] 26));obtain⟨N,F⟩:=ex (w.heap.size);have o:∀(J:¬(a=b/\0<a.size)),True:=λ_=>trivial;by_cases k:a=b/\0<a.size
 ·obtain⟨rfl,x⟩:=k
  have l:=s.out;rw[RZ (.inr ⟨rfl,x⟩)]at l;have B:Hid _:=l;clear l s d;go_enter (n116 L),Tryz.ntmps116;go_wp2;go_ret;exact⟨by rw[B.out];rfl,f⟩
 ·have p:(a.toList==b.toList)=false\/((a.toList==b.toList)=true/\a.size=0):=by
   rw[jN];by_cases h:a=b
   ·right
    by_cases M:a.size=0
    ·exact⟨by simp[h],M⟩
    ·exact absurd ⟨h,by omega⟩ k
   ·left
    simp[h]
  have O:Hid _:=k;clear k o;have key:∀(fr:Act->Prop),True:=λ_=>trivial;clear key;obtain p|⟨p,P⟩:=p;all_goals
   go_enter (n116 L),Tryz.ntmps116;go_wp2;rw[<-v]at n f d⊢;rw[<-F]at n⊢;clear v F
   go_loop [7] (λi=>∃j:Nat,j<=m.length/\i=.int .i64 j/\∀q,q<j->q<m.length->¬∃h:q<m.length,0<=kS m[q] a/\0<=kS m[q] b) (λi=>m.length-(intOf i).toNat)
   case atStart=>exact⟨0,R9 _,rfl,λq h=>absurd h (Sm _)⟩
   case round=>
    obtain⟨j,W,rfl,G⟩:=hrel;have C:Hid _:=G;clear G;obtain y|hge:=R5 j m.length
    ·obtain⟨X,H,rfl,Y,D,g⟩:=d j y
     rw[Tn]at D;have Q:=EU L a w1 g;have R:=EU L b w1 g;obtain⟨S,Z,rfl,_⟩:=g;clear d;go_wp2_with (first|(go_at_call 62;refine Q.mono ?_;rintro e w3 ⟨rfl,rfl⟩)|(go_at_call 62;refine R.mono ?_;rintro e w3 ⟨rfl,rfl⟩))
     ·go_ret
      have l:=s.out;rw[RZ (.inl ⟨j,y,by assumption,by assumption⟩)]at l;exact⟨by rw[l];rfl,f⟩
     ·exact⟨⟨j+1,by omega,by go_num,G7 C.out λ⟨_,T,U⟩=>by omega⟩,by simp[intOf];omega⟩
     ·exact⟨⟨j+1,by omega,by go_num,G7 C.out λ⟨_,T,U⟩=>by omega⟩,by simp[intOf];omega⟩
    ·clear d
     go_wp2;go_ret;have l:=s.out;rw[RY]at l
     ·exact⟨by rw[l];rfl,f⟩
     ·rintro(⟨q,p,h⟩|h)
      ·exact C.out q (by omega) p ⟨p,h⟩
      ·exact O.out h
end Go.Proofs

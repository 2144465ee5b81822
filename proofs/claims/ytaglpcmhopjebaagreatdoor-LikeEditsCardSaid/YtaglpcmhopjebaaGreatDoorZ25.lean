import Derived.Lib.IndexBytes
import Derived.BigQuiet
import Derived.Test.YtaglpcmhopjebaaGreatDoorZ24
set_option linter.all false
set_option maxRecDepth 100000
set_option maxHeartbeats 20000000
namespace Go.Proofs
open Go.Tm Go.RowKit
@[go_sem] theorem Rj(P)(fs)(t)(w):(underlying t).run (ah P fs) w=(underlying t).run P w:=by simp only[underlying,program,bind,Sem.bind,Sem.run,aH];cases P.underlying t<;>rfl
variable {fs:Array Func} (L:bX fs)
def uO(c):aU c=true↔97<=(c.toNat:Int)/\(c.toNat:Int)<=122:=by simp[aU]
def qy{s:ByteArray}{j}(a:j<s.size):s.data.toList[j]'(by simpa using a)=s[j]:=by rw[UH];rfl
def zX{p:UInt8->Bool}{s:ByteArray}(h:∀j (h:j<s.size),p s[j]=true):s.data.toList.all p=true:=by
 rw[R6];intro x b;obtain⟨j,c,rfl⟩:=Ty.1 b;have a:j<s.size:=by simpa using c
 rw[qy a];exact h j a
def zY{s:ByteArray}{j}(a:j<s.size):s[j]∈s.data.toList:=by rw[<-qy a];exact RN _
def sC{p}{s:ByteArray}{j}(a:j<s.size)(h:p s[j]=false):s.data.toList.all p=false:=by rw[List.all_eq_false];exact⟨s[j],zY a,by simp[h]⟩
def tH{s a b k}(c:k<s.size)(h:((s[k].toNat:Int))<97\/122<(s[k].toNat:Int)):bp s a b=false:=by
 have:aU s[k]=false:=by
  cases d:aU s[k]with
  |false=>rfl
  |true=>have:=(uO _).1 d;omega
 simp[bp,sC c this]
def zZ{s:ByteArray}{a hi:Int}(h:∀j (h:j<s.size),aU s[j]=true):bp s a hi=au s.size a hi:=by simp[bp,zX h]
def Ez{s:ByteArray}{k:Nat}(b:∀j (h:j<k) (a:j<s.size),aU s[j]=true)(c:k<s.size)(h:aU s[k]=true):∀j (h:j<k+1) (a:j<s.size),aU s[j]=true:=by
 intro j d a;obtain h1|h1:=Rv j k
 ·exact b j h1 a
 ·have:j=k:=by omega
  subst this;exact h
def Mp(n a b:Int)(w:World):Calls (Qs fs) 60 #[.int .i64 n,.int .i64 a,.int .i64 b] w λe w'=>e=.returned (.bool (au n a b))/\w'=w:=by go_enter (n60 L),Tryz.ntmps60;go_wp2;all_goals (go_ret;simp[au];try omega)
def vc(s:ByteArray)(a b:Int)(w:World)(d:s.size<=9223372036854775807):Calls (Qs fs) 61 #[.string s,.int .i64 a,.int .i64 b] w λe w'=>e=.returned (.bool (bp s a b))/\w'=w:=by
 have e60:=e60 L;go_enter (n61 L),Tryz.ntmps61;go_wp2
 go_loop [7] (λi=>∃k:Nat,k<=s.size/\i=.int .i64 k/\∀j (h:j<k) (f:j<s.size),aU s[j]=true) (λi=>s.size-(intOf i).toNat)
 case atStart=>exact⟨0,Rz _,rfl,λj h=>absurd h (RY _)⟩
 case round=>
  obtain⟨k,g,rfl,c⟩:=hrel;go_wp2_with (first|(go_at_call 60;refine(Mp L _ _ _ _).mono ?_;rintro e w' ⟨rfl,rfl⟩))
  ·go_ret
   exact⟨by rw[tH (by assumption) (by assumption)];rfl,rfl⟩
  ·refine⟨⟨k+1,by omega,by go_num,Ez c (by assumption) ((uO _).2 (by assumption))⟩,by simp[intOf];omega⟩
  ·go_ret
   exact⟨by rw[tH (by assumption) (.inl (by assumption))];rfl,rfl⟩
  ·go_ret
   exact⟨by rw[zZ λj h=>c j (by omega) h];rfl,rfl⟩
def qz(a b:ByteArray):(a.toList==b.toList)=decide (a=b):=by rw[SS,RI,Sf,Lib.toList_data,Lib.toList_data];exact⟨λh=>Go.WideShapes.bytes_inj h,λh=>h▸rfl⟩
def He{a b:ByteArray}(h:(a.toList==b.toList)=true):a=b:=by rw[qz]at h;simpa using h
def Hf{a b:ByteArray}(h:(a.toList==b.toList)=false):a≠b:=by rw[qz]at h;simpa using h
def qC(s r:ByteArray)(k:Nat)(w:World)(c:s.size<=1000000)(d:r.size<=1000000)(f:k<=s.size):Calls (Qs fs) 96 #[.string s,.int .i64 k,.string r] w λe w'=>e=.returned (.bool (Lib.occAt s.data.toList r.data.toList k))/\w'=w:=by
 go_enter (n96 L),Tryz.ntmps96;go_wp2
 ·go_ret
  exact⟨by rw[Lib.occ_of_piece s r k (by omega)];rfl,rfl⟩
 ·go_ret
  refine⟨?_,rfl⟩;have:Lib.occAt s.data.toList r.data.toList k=false:=by
   cases a:Lib.occAt s.data.toList r.data.toList k with
   |false=>rfl
   |true=>
    have b:=(S6.1 (show r.data.toList.isPrefixOf (s.data.toList.drop k)=true from a)).length_le;rw[RB,<-Lib.size_eq,<-Lib.size_eq]at b;have g:= ‹(_:Int)<_+_›;by_cases h:r.size=0
    ·omega
    ·omega
  rw[this];rfl
def nc(l:List ByteArray)(s:ByteArray):Int:=(l.findIdx? λq=>decide (q=s)).elim (-1) λk=>(k:Int)
def Hg{l:List ByteArray}{s:ByteArray}{k:Nat}(a:k<l.length)(h:l[k]=s)(b:∀j (h:j<k) (d:j<l.length),l[j]≠s):nc l s=k:=by
 unfold nc;have:(l.findIdx? λq=>decide (q=s))=some k:=by rw[Vh];exact⟨a,by simp[h],λj c=>by simpa using b j c (by omega)⟩
 rw[this];rfl
def EA{l:List ByteArray}{s:ByteArray}(a:∀j (d:j<l.length),l[j]≠s):nc l s= -1:=by
 unfold nc;have:(l.findIdx? λq=>decide (q=s))=none:=by rw[Vi];intro x b;obtain⟨j,c,rfl⟩:=Ty.1 b;simpa using a j c
 rw[this];rfl
def Aa(l s):decide (0<=nc l s)=l.any (λq=>decide (q=s)):=by
 unfold nc;cases h:(l.findIdx? λq=>decide (q=s))with
 |none=>
  rw[Vi]at h;have:l.any (λq=>decide (q=s))=false:=by rw[TY];intro x a;simpa using h x a
  rw[this];rfl
 |some k=>rw[Vh]at h;obtain⟨c,b,_⟩:=h;have:l.any (λq=>decide (q=s))=true:=S8.2 ⟨l[k],RN _,b⟩;rw[this];simp
def Gu{b:Type}{l:List b}{s:b}{k:Nat}(c:∀j (h:j<k) (a:j<l.length),l[j]≠s)(d:k<l.length)(h:l[k]≠s):∀j (h:j<k+1) (a:j<l.length),l[j]≠s:=by
 intro j e a;obtain h1|h1:=Rv j k
 ·exact c j h1 a
 ·have:j=k:=by omega
  subst this;exact h
def JH{K:Nat->Prop}{v:Value}{l:List ByteArray}(s:ByteArray)(w:World)(f:aE K 1 kI w v l):Calls (Qs fs) 62 #[v,.string s] w λe w'=>e=.returned (.int .i64 (nc l s))/\w'=w:=by
 obtain⟨ao,c,rfl,o,p,_,a⟩:=f;go_enter (n62 L),Tryz.ntmps62;go_wp2
 go_loop [5] (λi=>∃k:Nat,k<=l.length/\i=.int .i64 k/\∀j (h:j<k) (q:j<l.length),l[j]≠s) (λi=>l.length-(intOf i).toNat)
 case atStart=>exact⟨0,Rz _,rfl,λj h=>absurd h (RY _)⟩
 case round=>
  obtain⟨k,r,rfl,g⟩:=hrel;obtain d|hge:=Rv k l.length
  ·obtain⟨b,m,rfl,n⟩:=a k d
   have n:w.cell? ⟨b,m+k,none⟩=some (.string l[k]):=by simpa[kI]using n
   go_wp2
   ·go_ret
    exact⟨by rw[Hg d (He (by assumption)) g];rfl,rfl⟩
   ·exact⟨⟨k+1,by omega,by go_num,Gu g d (Hf (by assumption))⟩,by simp[intOf];omega⟩
  ·go_wp2
   go_ret;exact⟨by rw[EA λj h=>g j (by omega) h];rfl,rfl⟩
def JI{K:Nat->Prop}{v:Value}{l:List Int}(s:Int)(w:World)(d:aE K 1 dx w v l):Calls (Qs fs) 167 #[v,.int .i64 s] w λe w'=>e=.returned (.bool (l.contains s))/\w'=w:=by
 obtain⟨ao,c,rfl,p,r,_,a⟩:=d;go_enter (n167 L),Tryz.ntmps167;go_wp2
 go_loop [5] (λi=>∃k:Nat,k<=l.length/\i=.int .i64 k/\∀j (h:j<k) (t:j<l.length),l[j]≠s) (λi=>l.length-(intOf i).toNat)
 case atStart=>exact⟨0,Rz _,rfl,λj h=>absurd h (RY _)⟩
 case round=>
  obtain⟨k,u,rfl,n⟩:=hrel;obtain f|hge:=Rv k l.length
  ·obtain⟨b,m,rfl,o⟩:=a k f
   have o:w.cell? ⟨b,m+k,none⟩=some (.int .i64 l[k]):=by simpa[dx]using o
   go_wp2
   ·have h:= ‹(_==_)=true›
    go_ret;have g:s∈l:=by rw[<-(Sf.1 h)];exact RN _
    exact⟨by simp[g],rfl⟩
   ·have h:= ‹(_==_)=false›
    exact⟨⟨k+1,by omega,by go_num,Gu n f (by simpa using h)⟩,by simp[intOf];omega⟩
  ·go_wp2
   go_ret;have g:¬s∈l:=λg=>by obtain⟨j,q,rfl⟩:=Ty.1 g;exact n j (by omega) q rfl
   exact⟨by simp[g],rfl⟩
def nB{a:Type}(p)(l:List a)(k)(b:k<l.length):((l.take (k+1)).filter p)=(l.take k).filter p++(if p l[k]then[l[k]]else[]):=by
 rw[Tn b,TH]
 congr 1
 simp[List.filter];split<;>simp_all
def vd{K:Nat->Prop}{v:Value}{l:List Int}(n:Int)(w:World)(d:aE K 1 dx w v l)(p:∀x∈l,0<=x/\x<=999):Calls (Qs fs) 142 #[v,.int .i64 n] w λe w'=>e=.returned (.int .i64 (aN l n))/\w'=w:=by
 obtain⟨ao,c,rfl,q,r,_,a⟩:=d;go_enter (n142 L),Tryz.ntmps142;go_wp2
 go_loop [5,6] (λm i=>∃k:Nat,k<=l.length/\i=.int .i64 k/\m=.int .i64 (aN (l.take k) n)) (λm i=>l.length-(intOf i).toNat)
 case atStart=>exact⟨0,Rz _,rfl,rfl⟩
 case round=>
  obtain⟨k,s,rfl,rfl⟩:=hrel;have t:aN (l.take k) n<=k:=by unfold aN;exact Rp (SJ _ _) (by simp;omega)
  obtain f|hge:=Rv k l.length
  ·obtain⟨b,j,rfl,o⟩:=a k f
   have o:w.cell? ⟨b,j+k,none⟩=some (.int .i64 l[k]):=by simpa[dx]using o
   obtain⟨u,y⟩:=p l[k] (RN _);have g:aN (l.take (k+1)) n=aN (l.take k) n+(if l[k]/100==n then 1 else 0):=by unfold aN;rw[nB _ _ _ f,RH];split<;>rfl
   go_wp2
   ·have h:= ‹(_==n)=true›
    exact⟨⟨k+1,by omega,by go_num,by rw[g,Rn h];go_num⟩,by simp[intOf];omega⟩
   ·have h:= ‹(_==n)=false›
    exact⟨⟨k+1,by omega,by go_num,by rw[g,Rm (by rw[h];exact TZ)];go_num⟩,by simp[intOf];omega⟩
  ·go_wp2
   go_ret;rw[Uh hge];exact⟨rfl,rfl⟩
end Go.Proofs
namespace Go.Proofs
open Go.Tm Go.RowKit
variable {fs:Array Func} (L:bX fs)
def bs(l:Bs):ByteArray:=⟨l.toArray⟩
def dA(l):(bs l).data.toList=l:=by simp[bs]
def bW(l):(bs l).size=l.length:=by rw[Lib.size_eq,dA]
def pQ{a b:ByteArray}(h:a.data.toList=b.data.toList):a=b:=Go.WideShapes.bytes_inj h
def BL(a b:ByteArray):(a++b).data.toList=a.data.toList++b.data.toList:=by obtain⟨⟨a⟩⟩:=a;obtain⟨⟨b⟩⟩:=b;simp
def lS(x)(r:ByteArray):bs x++r=bs (x++r.data.toList):=pQ (by rw[BL,dA,dA])
def Ab(x)(s:ByteArray)(k)(b:k<s.size):bs x++s.extract k (k+1)=bs (x++[s[k]]):=by
 rw[lS,Lib.extract_data]
 congr 2
 have a:k<s.data.toList.length:=by rwa[<-Lib.size_eq]
 rw[SD a,Nat.add_sub_cancel_left];simp only[R7,Sg];rw[qy b]
def drop_cons(s:ByteArray)(k)(b:k<s.size):s.data.toList.drop k=s[k]::s.data.toList.drop (k+1):=by
 have a:k<s.data.toList.length:=by rwa[<-Lib.size_eq]
 rw[SD a,qy b]
def xN(f t:Bs)(e:f≠[]):∀(n m) (s),s.length<=n->s.length<=m->eQ f t n s=eQ f t m s:=by
 have a:=SU.2 e;intro n;induction n with
 |zero=>intro m s h _;have:s=[]:=Ss (by omega);subst this;cases m<;>rfl
 |succ n b=>
  intro m s h d;cases s with
  |nil=>cases m<;>rfl
  |cons c cs=>
   cases m with
   |zero=>simp at d
   |succ m=>
    simp only[Rq]at h d;unfold eQ;have g:((c::cs).drop f.length).length<=n:=by rw[RB,Rq];omega
    have i:((c::cs).drop f.length).length<=m:=by rw[RB,Rq];omega
    rw[b m _ g i,b m cs (by omega) (by omega)]
def mA(p):cP p []=[]:=rfl
def mB{p s}(b:p.1.data.toList.isPrefixOf s=true)(a:p.1.data.toList≠[]):cP p s=p.2.data.toList++cP p (s.drop p.1.data.toList.length):=by
 cases s with
 |nil=>have:=(S6.1 b).length_le;exact absurd (Ss (Nat.le_zero.1 this)) a
 |cons c cs=>
  have d:=SU.2 a;show eQ _ _ (cs.length+1) (c::cs)=_;unfold eQ;rw[Rn b]
  congr 1
  exact xN _ _ a _ _ _ (by rw[RB,Rq];omega) (Ro _)
def lj{p c}{s:Bs}(a:p.1.data.toList.isPrefixOf (c::s)=false):cP p (c::s)=c::cP p s:=by show eQ _ _ (s.length+1) (c::s)=_;unfold eQ;rw[a];rfl
def av(w:World)(c)(e i:Nat)(v)(h:c[i]? =some v):(w.alloc (.cells c e)).cell? ⟨w.heap.size,i,none⟩=some v:=by unfold World.cell? World.alloc;simp[h]
def aF(w o):Below w.heap.size w (w.alloc o):=(Below.refl _ w).alloc (Ro _) o
def BM(s:ByteArray)(p:Pr2)(w:World)(z:s.size<=1000)(A:1<=p.1.size)(B:p.1.size<=1000)(C:p.2.size<=1000):Calls (Qs fs) 113 #[.string s,.agg #[.string p.1,.string p.2]] w λe w'=>e=.returned (.string (bs (cP p s.data.toList)))/\Below w.heap.size w w':=by
 have e96:=e96 L;have n:p.1.data.toList≠[]:=by intro h;have l:=Lib.size_eq p.1;rw[h]at l;have D:p.1.size=0:=l;omega
 have q:=av w #[.string p.1,.string p.2] 51 0 (.string p.1) rfl;have r:=av w #[.string p.1,.string p.2] 51 1 (.string p.2) rfl;have t:Hid (Below w.heap.size w (w.alloc (.cells #[.string p.1,.string p.2] 51))):=aF w _;go_enter (n113 L),Tryz.ntmps113;go_wp2
 go_loop [5,6] (λo i=>∃(k:Nat) (x:Bs),k<=s.size/\i=.int .i64 k/\o=.string (bs x)/\(bs x).size<=1000*k/\x++cP p (s.data.toList.drop k)=cP p s.data.toList) (λo i=>s.size-(intOf i).toNat)
 case atStart=>exact⟨0,[],Rz _,rfl,rfl,Rz _,rfl⟩
 case round=>
  obtain⟨k,x,E,rfl,rfl,u,a⟩:=hrel;have g:Hid _:=a;clear a;obtain b|hge:=Rv k s.size
  ·have c:=drop_cons s k b
   have m:Hid _:=c;clear c;have v:=λy=>qC L s p.1 k y (by omega) (by omega) (by omega);go_wp2_with (first|(go_at_call 96;refine(v _).mono ?_;rintro e w' ⟨rfl,rfl⟩))
   ·have f:= ‹Lib.occAt _ _ _=true›
    have d:=(S6.1 (show p.1.data.toList.isPrefixOf (s.data.toList.drop k)=true from f)).length_le;rw[RB,<-Lib.size_eq,<-Lib.size_eq]at d;refine⟨⟨k+p.1.size,x++p.2.data.toList,by omega,by go_num,by rw[lS],?_,?_⟩,by simp[intOf];omega⟩
    ·rw[bW,RH,<-bW x,<-Lib.size_eq]
     have:1000*(k+p.1.size)=1000*k+1000*p.1.size:=UI _ _ _;omega
    ·rw[<-g.out,mB f n,UJ,<-Lib.size_eq,R4]
   ·have f:= ‹Lib.occAt _ _ _=false›
    refine⟨⟨k+1,x++[s[k]],by omega,by go_num,by rw[Ab x s k b],?_,?_⟩,by simp[intOf];omega⟩
    ·rw[bW,RH,<-bW x]
     simp only[Rq,RE];omega
    ·rw[<-g.out,m.out]
     have j:p.1.data.toList.isPrefixOf (s[k]::s.data.toList.drop (k+1))=false:=by rw[<-m.out];exact f
     rw[lj j,R4];rfl
  ·go_wp2
   go_ret;have a:=g.out;rw[RR (by rw[<-Lib.size_eq];exact hge),mA,S9]at a;exact⟨by rw[a];rfl,t.out⟩
def JJ(s:ByteArray)(w:World)(d:s.size<=1000):Calls (Qs fs) 117 #[.string s] w λe w'=>e=.returned (.string (bs s.data.toList.reverse))/\w'=w:=by
 go_enter (n117 L),Tryz.ntmps117;go_wp2
 go_loop [3,4] (λo i=>∃(k:Nat) (x:Bs),k<=s.size/\i=.int .i64 ((k:Int)-1)/\o=.string (bs x)/\(bs x).size<=1000/\x=(s.data.toList.drop k).reverse) (λo i=>(intOf i+1).toNat)
 case atStart=>exact⟨s.size,[],Ro _,by simp,rfl,by decide,by rw[RR (by rw[<-Lib.size_eq];exact Ro _)];rfl⟩
 case round=>
  obtain⟨k,x,f,rfl,rfl,c,a⟩:=hrel;have b:Hid _:=a;clear a;obtain rfl|hpos:=SE k
  ·go_wp2
   go_ret;have a:=b.out;rw[Si]at a;exact⟨by rw[a];rfl,rfl⟩
  ·obtain⟨j,rfl⟩:∃j,k=j+1:=⟨k-1,by omega⟩
   go_wp2;have a:=b.out;refine⟨⟨j,x++[s[j]],by omega,rfl,by rw[Ab x s j (by omega)],?_,?_⟩,by simp[intOf]⟩
   ·rw[bW,RH,a,Ui,RB,<-Lib.size_eq]
    simp only[Rq,RE];omega
   ·rw[a,drop_cons s j (by omega),List.reverse_cons]
def Mq{a b:ByteArray}(d:a.size<=b.size):ur a.data.toList b.data.toList=
 if a.size<3\/(Lib.occAt b.data.toList a.data.toList 0=false/\Lib.occAt b.data.toList a.data.toList (b.size-a.size)=false)then 0 else(100*a.size:Int)/b.size:=by
 have c:a.data.toList.isSuffixOf b.data.toList=Lib.occAt b.data.toList a.data.toList (b.size-a.size):=by
  have h:=Lib.hasSuffix_of_drop b.data.toList a.data.toList;unfold Lib.hasSuffix at h;rw[<-h,<-Lib.size_eq,<-Lib.size_eq,Ry d,T1];unfold Lib.occAt;have e:(b.data.toList.drop (b.size-a.size)).length=a.data.toList.length:=by rw[RB,<-Lib.size_eq,<-Lib.size_eq];omega
  rw[SS,Sf,S6];exact⟨λh=>h▸List.prefix_refl _,λh=>(List.IsPrefix.eq_of_length h e.symm).symm⟩
 unfold ur;rw[<-Lib.size_eq,<-Lib.size_eq,Rm (by omega)];simp only[];rw[<-Lib.size_eq,<-Lib.size_eq,c,show a.data.toList.isPrefixOf b.data.toList=Lib.occAt b.data.toList a.data.toList 0 from rfl];cases Lib.occAt b.data.toList a.data.toList 0<;>cases Lib.occAt b.data.toList a.data.toList (b.size-a.size)<;>simp
def JK(a b:ByteArray)(w:World)(g:a.size<=1000)(i:b.size<=1000)(c:a.size<=b.size):Calls (Qs fs) 118 #[.string a,.string b] w λe w'=>e=.returned (.int .i64 (ur a.data.toList b.data.toList))/\w'=w:=by
 have e96:=e96 L;have f:∀wx,Calls (Qs fs) 96 #[.string b,.int .i64 0,.string a] wx λe w'=>e=.returned (.bool (Lib.occAt b.data.toList a.data.toList 0))/\w'=wx:=λwx=>qC L b a 0 wx (by omega) (by omega) (by omega);have d:∀wx,Calls (Qs fs) 96 #[.string b,.int .i64 ((b.size:Int)-a.size),.string a] wx λe w'=>e=.returned (.bool (Lib.occAt b.data.toList a.data.toList (b.size-a.size)))/\w'=wx:=λwx=>by rw[show(b.size:Int)-a.size=((b.size-a.size:Nat):Int) by omega];exact qC L b a (b.size-a.size) wx (by omega) (by omega) (by omega)
 go_enter (n118 L),Tryz.ntmps118;go_wp2_with (first|(go_at_call 96;refine(f _).mono ?_;rintro e w' ⟨rfl,rfl⟩)|(go_at_call 96;refine(d _).mono ?_;rintro e w' ⟨rfl,rfl⟩))
 all_goals
  go_ret;refine⟨?_,rfl⟩;rw[Mq c];first
   |(rw[Rn (by first|(left;omega)|(right;simp_all;done)|(right;simp_all;rcases ‹_\/_› with h|h<;>first|omega|exact h))];rfl)
   |(rw[Rm (by simp_all;try omega)];rfl)
def Hh{a b:ByteArray}(h:b.size<a.size):ur a.data.toList b.data.toList=ur b.data.toList a.data.toList:=by unfold ur;rw[<-Lib.size_eq,<-Lib.size_eq,Rn h,Rm (by omega)]
def P1(a b:ByteArray)(w:World)(d:a.size<=1000)(f:b.size<=1000):Calls (Qs fs) 118 #[.string a,.string b] w λe w'=>e=.returned (.int .i64 (ur a.data.toList b.data.toList))/\w'=w:=by
 obtain c|hge:=Rv b.size a.size
 ·have Mj:=Mj L
  have g:=λh=>JK L b a h f d (by omega);go_enter (n118 L),Tryz.ntmps118;go_wp2_with (first|(go_at_call 118;refine(g _).mono ?_;rintro e w' ⟨rfl,rfl⟩))
  go_ret;exact⟨by rw[Hh c];rfl,rfl⟩
 ·exact JK L a b w d f hge
structure OkT(t:Table):Prop where
 lets:∀p∈t.aC,1<=p.1.size/\p.1.size<=4/\p.2.size<=3
 P2:t.aC.length<=12
 aY:∀x∈t.aO,∀p∈x.aY,1<=p.1.size/\p.1.size<=3/\p.2.size<=p.1.size
 Gv:∀x∈t.aO,x.aY.length<=5
 ve:t.aO.length<=3
 Od:t.iB.length<=4
def dZ(rest:Bs)(a:Option Pr2)(p:Pr2):Option Pr2:=if p.1.data.toList.isPrefixOf rest&&decide ((a.elim 0 λq=>q.1.size)<p.1.size)then some p else a
def jL(a:List Pr2)(k)(b:k<a.length)(rest):bK (a.take (k+1)) rest=dZ rest (bK (a.take k) rest) a[k]:=by unfold bK;rw[Tn b,Uj];rfl
def gZ(a:List Pr2)(rest:Bs)(k:Nat)(b:Int):Prop:=(b= -1/\bK (a.take k) rest=none)\/∃j,∃h:j<a.length,j<k/\b=j/\bK (a.take k) rest=some a[j]
def gZ.start(a rest):gZ a rest 0 (-1):=.inl ⟨rfl,rfl⟩
def Ac(rest):∀(a:List Pr2) (b) (p),a.foldl (dZ rest) b=some p->p∈a\/b=some p:=by
 intro a;induction a with
 |nil=>exactλb p h=>.inr h
 |cons q a c=>
  intro b p h;obtain h|h:=c _ p h
  ·exact .inl (.tail _ h)
  ·unfold dZ at h
   split at h
   ·cases h;exact .inl (.head _)
   ·exact .inr h
def gH{ls rest p}(h:bK ls rest=some p):p∈ls:=by
 obtain h|h:=Ac rest ls none p h
 ·exact h
 ·cases h
def uu(rest:Bs):∀(c:List Pr2) (b),(∀p,b=some p->p.1.data.toList.isPrefixOf rest=true)->∀p,c.foldl (dZ rest) b=some p->p.1.data.toList.isPrefixOf rest=true:=by
 intro c;induction c with
 |nil=>exactλb d p h=>d p h
 |cons q c f=>
  intro b d p h;refine f _ (λg a=>?_) p h;unfold dZ at a;split at a
  ·rename_i e
   cases a;simp only[RD]at e;exact e.1
  ·exact d g a
def nC{a rest p}(h:bK a rest=some p):p.1.data.toList.isPrefixOf rest=true:=uu rest a none (λp h=>by cases h) p h
def EB(a:List Pr2)(e:∀p∈a,1<=p.1.size):∀(n m) (s),s.length<=n->s.length<=m->kM a n s=kM a m s:=by
 intro n;induction n with
 |zero=>intro m s h _;have:s=[]:=Ss (by omega);subst this;cases m<;>rfl
 |succ n b=>
  intro m s h d;cases s with
  |nil=>cases m<;>rfl
  |cons c cs=>
   cases m with
   |zero=>simp at d
   |succ m=>
    simp only[Rq]at h d;unfold kM;cases f:bK a (c::cs)with
    |none=>simp only[];rw[b m cs (by omega) (by omega)]
    |some p=>have g:=gH f;have:=e p g;simp only[];rw[b m _ (by rw[RB,Rq];omega) (by rw[RB,Rq];omega)]
def jY{w w':World}(h:w'.heap=w.heap)(a):w'.cell? a=w.cell? a:=by unfold World.cell?;rw[h]
def Hi(a):aS a []=[]:=rfl
def Hj{a:List Pr2}(b:∀p∈a,1<=p.1.size){c}{s:Bs}{p}(d:bK a (c::s)=some p):aS a (c::s)=p.2.data.toList++aS a ((c::s).drop p.1.size):=by
 have e:=b p (gH d);show kM a (s.length+1) (c::s)=_;unfold kM;rw[d];simp only[]
 congr 1
 exact EB _ b _ _ _ (by rw[RB,Rq];omega) (Ro _)
def EC{a c}{s:Bs}(b:bK a (c::s)=none):aS a (c::s)=(if aU c then[c]else[])++aS a s:=by show kM a (s.length+1) (c::s)=_;unfold kM;rw[b];rfl
def gZ.skip{a rest k b}(h:gZ a rest k b)(d:k<a.length)(e:dZ rest (bK (a.take k) rest) a[k]=bK (a.take k) rest):gZ a rest (k+1) b:=by
 obtain⟨f,c⟩|⟨j,g,f,c,i⟩:=h
 ·exact .inl ⟨f,by rw[jL _ _ d,e,c]⟩
 ·exact .inr ⟨j,g,by omega,c,by rw[jL _ _ d,e,i]⟩
def gZ.take{a rest k}(b:k<a.length)(c:dZ rest (bK (a.take k) rest) a[k]=some a[k]):gZ a rest (k+1) k:=.inr ⟨k,b,To _,rfl,by rw[jL _ _ b,c]⟩
def BN{K:Nat->Prop}{v0 v1 v2:Value}{t:Table}(s:ByteArray)(w:World)(ht:IsTable K w v0 v1 v2 t)(ok:OkT t)(hs:s.size<=1000):Calls (Qs fs) 54 #[.agg #[v0,v1,v2],.string s] w λe w'=>e=.returned (.string (bs (aS t.aC s.data.toList)))/\Below w.heap.size w w':=by
 have e96:=e96 L;obtain⟨⟨ao,c,rfl,aa,hc,_,n⟩,_,_⟩:=ht;have q:=ok.lets;have ab:=ok.P2;clear ok;obtain⟨ls,T⟩:=ex (t.aC);rw[<-T]at aa n q ab⊢;clear T;have h1:∀p∈ls,1<=p.1.size:=λp hp=>(q p hp).1;have r:=av w #[.slice ao ls.length c,v1,v2] 26 0 _ rfl;have U:=aF w (.cells #[.slice ao ls.length c,v1,v2] 26);have u:∀(k:Nat) (h:k<ls.length),∃b y,ao=some ⟨b,y,none⟩/\dH K (w.alloc (.cells #[.slice ao ls.length c,v1,v2] 26)) b (y+k*2) ls[k]:=λk h=>by obtain⟨b,y,e,Q⟩:=n k h;exact⟨b,y,e,dH.carry (Carry.keep (ae.below (aF w _))) b b _ _ rfl Q⟩
 clear n;obtain⟨w1,V⟩:=ex (w.alloc (.cells #[.slice ao ls.length c,v1,v2] 26));go_enter (n54 L),Tryz.ntmps54;go_wp2;rw[<-V]at r U u⊢;obtain⟨N,hN⟩:=ex (w.heap.size);rw[<-hN]at r⊢;clear V hN;go_loopw [5,6] (λo i wr=>∃(k:Nat) (x:Bs),k<=s.size/\i=.int .i64 k/\o=.string (bs x)/\(bs x).size<=1000*k/\wr.heap=w1.heap/\Below w.heap.size w wr/\x++aS ls (s.data.toList.drop k)=aS ls s.data.toList) (λo i _=>s.size-(intOf i).toNat)
 case atStart=>exact⟨0,[],Rz _,rfl,rfl,Rz _,rfl,U,rfl⟩
 case round=>
  obtain⟨k,x,hk,rfl,rfl,an,B,l,W⟩:=hrel;have S:Hid _:=W;clear W;obtain X|hge:=Rv k s.size
  ·have C:=(jY B _).trans r
   have Y:=drop_cons s k X;have HD:Hid _:=Y;clear Y;go_wp2;go_loopw [7,8] (λb i wr=>∃(j:Nat) (b0:Int),j<=ls.length/\i=.int .i64 j/\b=.int .i64 b0/\gZ ls (s.data.toList.drop k) j b0/\wr.heap=w1.heap/\Below w.heap.size w wr) (λb i _=>ls.length-(intOf i).toNat)
   case atStart=>exact⟨0,-1,Rz _,rfl,rfl,gZ.start _ _,B,l⟩
   case round=>
    obtain⟨j,b0,hj,rfl,rfl,D,a,g⟩:=hrel;have ak:=(jY a _).trans r;have m:Hid _:=(⟨a,g⟩:wr.heap=w1.heap/\Below w.heap.size w wr)
    obtain f|hjge:=Rv j ls.length
    ·obtain⟨b,y,rfl,E,I⟩:=u j f
     have ad:=q ls[j] (RN _);obtain⟨z1,z2,z3⟩:=ad;have E:=(jY a _).trans E;have F:=u;clear a g B l r I h1 q S U C u;have J:=λwx=>qC L s ls[j].1 k wx (by omega) (by omega) (by omega);obtain⟨rfl,z⟩|⟨v,G,R,rfl,d⟩:=D
     ·have H:Hid _:=z
      clear z F;cases A:Lib.occAt s.data.toList ls[j].1.data.toList k with
      |false=>simp only[A]at J;have O:Hid _:=A;clear A;go_wp2;go_quiet (first|(go_at_call 96;exact Calls.quiet_of_same (J _)));go_wp2;refine⟨⟨j+1,-1,by omega,by go_num,rfl,gZ.skip (.inl ⟨rfl,H.out⟩) f ?_,m.out.1,Go.below_drewN m.out.2 _⟩,by simp[intOf];omega⟩;unfold dZ;rw[show ls[j].1.data.toList.isPrefixOf (s.data.toList.drop k)=false from O.out];rfl
      |true=>simp only[A]at J;have O:Hid _:=A;clear A;go_wp2;go_quiet (first|(go_at_call 96;exact Calls.quiet_of_same (J _)));go_wp2;refine⟨⟨j+1,j,by omega,by go_num,rfl,gZ.take f ?_,m.out.1,Go.below_drewN m.out.2 _⟩,by simp[intOf];omega⟩;unfold dZ;rw[show ls[j].1.data.toList.isPrefixOf (s.data.toList.drop k)=true from O.out,H.out,T1];exact Rn (Ry (show(0:Nat)<ls[j].1.size by omega))
     ·obtain⟨b2,al,e2,Z,_⟩:=F v G
      cases e2;have Z:=(jY m.out.1 _).trans Z;have H:Hid _:=d;clear d F;cases A:Lib.occAt s.data.toList ls[j].1.data.toList k with
      |false=>simp only[A]at J;have O:Hid _:=A;clear A;go_wp2;go_quiet (first|(go_at_call 96;exact Calls.quiet_of_same (J _)));go_wp2;refine⟨⟨j+1,v,by omega,by go_num,rfl,gZ.skip (.inr ⟨v,G,R,rfl,H.out⟩) f ?_,m.out.1,Go.below_drewN m.out.2 _⟩,by simp[intOf];omega⟩;unfold dZ;rw[show ls[j].1.data.toList.isPrefixOf (s.data.toList.drop k)=false from O.out];rfl
      |true=>
       simp only[A]at J;have O:Hid _:=A;clear A;obtain hcmp|hcmp:=Rv ls[v].1.size ls[j].1.size
       ·go_wp2
        go_quiet (first|(go_at_call 96;exact Calls.quiet_of_same (J _)));go_wp2;refine⟨⟨j+1,j,by omega,by go_num,rfl,gZ.take f ?_,m.out.1,Go.below_drewN m.out.2 _⟩,by simp[intOf];omega⟩;unfold dZ;rw[show ls[j].1.data.toList.isPrefixOf (s.data.toList.drop k)=true from O.out,H.out];simp[hcmp]
       ·go_wp2
        go_quiet (first|(go_at_call 96;exact Calls.quiet_of_same (J _)));go_wp2;refine⟨⟨j+1,v,by omega,by go_num,rfl,gZ.skip (.inr ⟨v,G,R,rfl,H.out⟩) f ?_,m.out.1,Go.below_drewN m.out.2 _⟩,by simp[intOf];omega⟩;unfold dZ;rw[show ls[j].1.data.toList.isPrefixOf (s.data.toList.drop k)=true from O.out,H.out,T1,Rm (by rw[RI];show ¬ls[v].1.size<ls[j].1.size;omega)]
    ·have af:j=ls.length:=by omega
     subst af;obtain⟨rfl,z⟩|⟨v,G,R,rfl,d⟩:=D
     ·rw[Tg]at z
      have H:Hid _:=z;have M:=S;clear z u B l r h1 q S U C a g;have P:∀b:Bool,aU s[k]=b->aS ls (s.data.toList.drop k)=(if b then[s[k]]else[])++aS ls (s.data.toList.drop (k+1)):=λb hb=>by have Q:=H.out;rw[HD.out]at Q⊢;rw[EC Q,hb]
      have HL:Hid _:=P;clear P;go_wp2
      ·refine⟨⟨k+1,x++[s[k]],by omega,by go_num,by rw[Ab x s k X],?_,m.out.1,m.out.2,?_⟩,by simp[intOf];omega⟩
       ·rw[bW,RH,<-bW x]
        simp only[Rq,RE];omega
       ·rw[<-M.out,HL.out true ((uO _).2 ⟨by assumption,by assumption⟩),R4]
        rfl
      all_goals
       refine⟨⟨k+1,x,by omega,by go_num,rfl,by omega,m.out.1,m.out.2,?_⟩,by simp[intOf];omega⟩;rw[<-M.out,HL.out false (by
        cases hl:aU s[k]with
        |false=>rfl
        |true=>have:=(uO _).1 hl;omega)]
       rfl
     ·rw[Tg]at d
      obtain⟨b,y,rfl,E,I⟩:=u v G;obtain⟨z1,z2,z3⟩:=q ls[v] (RN _);have E:=(jY a _).trans E;have I:=(jY a _).trans I;have H:Hid _:=d;have M:=S;have H1:Hid _:=h1;have ag:=(S6.1 (nC d)).length_le;rw[RB,<-Lib.size_eq,<-Lib.size_eq]at ag;clear d u B l r q S U C a g h1;go_wp2;refine⟨⟨k+ls[v].1.size,x++ls[v].2.data.toList,by omega,by go_num,by rw[lS],?_,m.out.1,m.out.2,?_⟩,by simp[intOf];omega⟩
      ·rw[bW,RH,<-bW x,<-Lib.size_eq]
       have:1000*(k+ls[v].1.size)=1000*k+1000*ls[v].1.size:=UI _ _ _;omega
      ·have Q:=H.out
       rw[<-M.out];rw[HD.out]at Q⊢;rw[Hj H1.out Q,<-HD.out,UJ,R4]
  ·go_wp2
   go_ret;have W:=S.out;rw[RR (by rw[<-Lib.size_eq];exact hge),Hi,S9]at W;exact⟨by rw[W];rfl,l⟩
def ae.cell{w w'}(h:ae w w'){b o v}(a:w.cell? ⟨b,o,none⟩=some v):w'.cell? ⟨b,o,none⟩=some v:=by
 unfold World.cell? at a⊢
 revert a
 simp only[];cases c:w.heap[b]? with
 |none=>intro h;cases h
 |some o'=>
  cases o' with
  |cells d e F=>intro a;rw[h b d e F c];exact a
  |_=>intro h;cases h
def ae.alloc(w o):ae w (w.alloc o):=ae.below (aF w o)
def ae.drewN{w w'}(h:ae w w')(n):ae w (w'.drewN n):=h
def uv(f t)(b:t.length<=f.length):∀(n) (s),(eQ f t n s).length<=s.length:=by
 intro n;induction n with
 |zero=>intro s;exact Ro _
 |succ n a=>
  intro s;cases s with
  |nil=>exact Ro _
  |cons c cs=>
   unfold eQ;split
   ·rename_i d
    have g:=(S6.1 d).length_le;have e:=a ((c::cs).drop f.length);rw[RB]at e;rw[RH];omega
   ·have:=a cs
    simp only[Rq];omega
def jy{p}(h:p.2.size<=p.1.size)(s):(cP p s).length<=s.length:=uv _ _ (by rw[<-Lib.size_eq,<-Lib.size_eq];exact h) _ _
def qE(a:List Pr2)(h:∀p∈a,1<=p.1.size/\p.1.size<=4/\p.2.size<=3):∀(n) (s),(kM a n s).length<=3*s.length:=by
 intro n;induction n with
 |zero=>intro s;exact Rz _
 |succ n b=>
  intro s;cases s with
  |nil=>exact Rz _
  |cons c cs=>
   unfold kM;cases e:bK a (c::cs)with
   |none=>have:=b cs;simp only[RH,Rq];split<;>simp only[Rq,RE]<;>omega
   |some p=>obtain⟨f,g,i⟩:=h p (gH e);have d:=b ((c::cs).drop p.1.size);rw[RB]at d;simp only[RH,Rq]at d⊢;rw[<-Lib.size_eq];omega
def dM{t}(a:OkT t)(s):(aS t.aC s).length<=3*s.length:=qE _ a.lets _ _
def ED(aY:List Pr2)(y:Bs):Bs:=aY.foldl (λs r=>cP r s) y
def BO{aY:List Pr2}(h:∀p∈aY,1<=p.1.size/\p.1.size<=3/\p.2.size<=p.1.size):∀(y),(ED aY y).length<=y.length:=by
 induction aY with
 |nil=>exactλy=>Ro _
 |cons p aY a=>intro y;have b:=a (λq c=>h q (.tail _ c)) (cP p y);have d:=jy (h p (.head _)).2.2 y;exact Rp b d
def yA(aY:List Pr2)(j)(a:j<aY.length)(y):ED (aY.drop j) y=ED (aY.drop (j+1)) (cP aY[j] y):=by rw[SD a];rfl
def sG{t k}(a:k<t.aO.length)(s):bI t k s=ED t.aO[k].aY (aS t.aC s):=by unfold bI;rw[Sn a];rfl
def lp{t}(a:OkT t){k}(b:k<t.aO.length)(s):(bI t k s).length<=3*s.length:=by rw[sG b];exact Rp (BO (a.aY _ (RN _)) _) (dM a s)
def Hk{K:Nat->Prop}{v0 v1 v2:Value}{t:Table}(k:Nat)(s:ByteArray)(w:World)(T:IsTable K w v0 v1 v2 t)(O:OkT t)(hs:s.size<=300)(U:k<t.aO.length):Calls (Qs fs) 65 #[.agg #[v0,v1,v2],.int .i64 k,.string s] w λe w'=>e=.returned (.string (bs (bI t k s.data.toList)))/\Below w.heap.size w w':=by
 have e54:=e54 L;have Pl:=Pl L;have n:=sG U s.data.toList;have R:=dM O s.data.toList;rw[<-Lib.size_eq]at R;have p:=T.stays (ae.alloc w (.cells #[v0,v1,v2] 26));have x:=aF w (.cells #[v0,v1,v2] 26);have V:=BN L s _ p O (by omega);have a:∀i v,(#[v0,v1,v2]:Array Value)[i]? =some v->(w.alloc (.cells #[v0,v1,v2] 26)).cell? ⟨w.heap.size,i,none⟩=some v:=λi v h=>av w _ 26 i v h;have q:=a 0 v0 rfl;have g:=a 1 v1 rfl;have r:=a 2 v2 rfl;go_enter (n65 L),Tryz.ntmps65;go_wp2_with (first|(go_at_call 54;refine V.mono ?_;rintro e w2 ⟨rfl,P⟩))
 obtain⟨w1,z⟩:=ex (w.alloc (.cells #[v0,v1,v2] 26));have hN:w.heap.size+1=w1.heap.size:=by rw[z];simp
 rw[<-z]at P p x q g r;have S2:=ae.below P;have B2:=x.trans (P.mono (by omega));obtain⟨N,D⟩:=ex (w.heap.size);rw[<-D]at q g r⊢;clear P x V a z hN D T;obtain⟨ao,c,rfl,ad,hc,_,l⟩:=p.2.1;clear p;have u:=O.aY t.aO[k] (RN _);clear O;obtain⟨B,E⟩:=ex (t.aO[k]);have F:=l k U;rw[<-E]at u n F;clear l E;obtain⟨b,af,rfl,_,vs,A,G⟩:=F;obtain⟨ag,c2,rfl,W,ak,X,d⟩:=G;go_loopw [7,8] (λo i wr=>∃(j:Nat) (y:Bs),j<=B.aY.length/\i=.int .i64 j/\o=.string (bs y)/\(bs y).size<=900/\ae w1 wr/\Below w.heap.size w wr/\ED (B.aY.drop j) y=bI t k s.data.toList) (λo i _=>B.aY.length-(intOf i).toNat)
 case atStart=>exact⟨0,_,Rz _,rfl,rfl,by rw[bW];omega,S2,B2,n.symm⟩
 case round=>
  obtain⟨j,y,hj,rfl,rfl,hy,f,m,C⟩:=hrel;have Y:Hid _:=C;have Z:=f.cell g;have aa:=f.cell A;have Q:Hid _:=(⟨f,m⟩:ae w1 wr/\Below w.heap.size w wr)
  obtain H|hge:=Rv j B.aY.length
  ·obtain⟨b2,ab,rfl,I,J⟩:=d j H
   have I:=f.cell I;have J:=f.cell J;obtain⟨z1,z2,z3⟩:=u B.aY[j] (RN _);have S:=jy z3 y;rw[<-bW,<-bW]at S;have cR:=BM L (bs y) B.aY[j] wr (by omega) z1 (by omega) (by omega);rw[dA]at cR;clear C f m g A q r d u n;go_wp2_with (first|(go_at_call 113;refine cR.mono ?_;rintro e w3 ⟨rfl,M⟩))
   refine⟨⟨j+1,_,by omega,by go_num,rfl,by omega,Q.out.1.trans (ae.below M),Q.out.2.trans (M.mono Q.out.2.size),?_⟩,by simp[intOf];omega⟩;rw[<-Y.out,yA _ _ H]
  ·clear C f m g A q r d u n
   go_wp2;go_ret;have C:=Y.out;rw[RR hge]at C;exact⟨by rw[<-C];rfl,Q.out.2⟩
def qG(l a):l.any (λs=>s.data.toList==a.data.toList)=decide (0<=nc l a):=by
 rw[Aa]
 congr 1
 funext q
 rw[SS,Sf,RI];exact⟨λh=>pQ h,λh=>h▸rfl⟩
def fF(a:ByteArray):a.data.toList.isEmpty=decide (a.size=0):=by rw[Lib.size_eq,SS,List.isEmpty_iff,RI,Ta]
def Hl(t a b):gy t a.data.toList b.data.toList=if(∃q,∃h:q<t.iB.length,0<=nc t.iB[q] a/\0<=nc t.iB[q] b)\/(a=b/\0<a.size)then 100 else 0:=by
 unfold gy
 congr 1
 rw[eq_iff_iff,T2,S8,fF];refine or_congr ⟨?_,?_⟩ ?_
 ·rintro⟨l,d,h⟩
  obtain⟨q,c,rfl⟩:=Ty.1 d;rw[qG,qG,RD,RI,RI]at h;exact⟨q,c,h⟩
 ·rintro⟨q,c,h⟩
  refine⟨_,RN c,?_⟩;rw[qG,qG,RD,RI,RI];exact h
 ·rw[RD,Sf,Bool.not_eq_true',TJ]
  exact⟨λh=>⟨pQ h.1,by omega⟩,λh=>⟨h.1▸rfl,by omega⟩⟩
def Gw{p:Nat->Prop}{k n}(a:∀q,q<k->q<n->¬p q)(h:¬p k):∀q,q<k+1->q<n->¬p q:=by
 intro q c b;obtain h1|h1:=Rv q k
 ·exact a q h1 b
 ·have:q=k:=by omega
  subst this;exact h
def Mr{K:Nat->Prop}{v0 v1 v2:Value}{t:Table}(a b:ByteArray)(w:World)(E:IsTable K w v0 v1 v2 t)(z:t.iB.length<=4):Calls (Qs fs) 116 #[.agg #[v0,v1,v2],.string a,.string b] w λe w'=>e=.returned (.int .i64 (gy t a.data.toList b.data.toList))/\Below w.heap.size w w':=by
 have e62:=e62 L;have r:=E.stays (ae.alloc w (.cells #[v0,v1,v2] 26));have f:=aF w (.cells #[v0,v1,v2] 26);have n:=av w #[v0,v1,v2] 26 2 v2 rfl;have s:Hid _:=Hl t a b;obtain⟨ao,c,rfl,A,U,_,d⟩:=r.2.2;clear r E;obtain⟨m,u⟩:=ex (t.iB);rw[<-u]at A d z s f n⊢;clear u;obtain⟨w1,v⟩:=ex (w.alloc (.cells #[v0,v1,.slice ao m.length c] 26));obtain⟨N,F⟩:=ex (w.heap.size);have o:∀(I:¬(a=b/\0<a.size)),True:=λ_=>trivial;by_cases k:a=b/\0<a.size
 ·obtain⟨rfl,x⟩:=k
  have l:=s.out;rw[Rn (.inr ⟨rfl,x⟩)]at l;have B:Hid _:=l;clear l s d;go_enter (n116 L),Tryz.ntmps116;go_wp2;go_ret;exact⟨by rw[B.out];rfl,f⟩
 ·have p:(a.toList==b.toList)=false\/((a.toList==b.toList)=true/\a.size=0):=by
   rw[qz];by_cases h:a=b
   ·right
    by_cases J:a.size=0
    ·exact⟨by simp[h],J⟩
    ·exact absurd ⟨h,by omega⟩ k
   ·left
    simp[h]
  have M:Hid _:=k;clear k o;have key:∀(fr:Act->Prop),True:=λ_=>trivial;clear key;obtain p|⟨p,O⟩:=p;all_goals
   go_enter (n116 L),Tryz.ntmps116;go_wp2;rw[<-v]at n f d⊢;rw[<-F]at n⊢;clear v F
   go_loop [7] (λi=>∃j:Nat,j<=m.length/\i=.int .i64 j/\∀q,q<j->q<m.length->¬∃h:q<m.length,0<=nc m[q] a/\0<=nc m[q] b) (λi=>m.length-(intOf i).toNat)
   case atStart=>exact⟨0,Rz _,rfl,λq h=>absurd h (RY _)⟩
   case round=>
    obtain⟨j,V,rfl,G⟩:=hrel;have C:Hid _:=G;clear G;obtain y|hge:=Rv j m.length
    ·obtain⟨b1,H,rfl,W,D,g⟩:=d j y
     rw[SK]at D;have P:=JH L a w1 g;have Q:=JH L b w1 g;obtain⟨R,X,rfl,_⟩:=g;clear d;go_wp2_with (first|(go_at_call 62;refine P.mono ?_;rintro e w3 ⟨rfl,rfl⟩)|(go_at_call 62;refine Q.mono ?_;rintro e w3 ⟨rfl,rfl⟩))
     ·go_ret
      have l:=s.out;rw[Rn (.inl ⟨j,y,by assumption,by assumption⟩)]at l;exact⟨by rw[l];rfl,f⟩
     ·exact⟨⟨j+1,by omega,by go_num,Gw C.out λ⟨_,S,T⟩=>by omega⟩,by simp[intOf];omega⟩
     ·exact⟨⟨j+1,by omega,by go_num,Gw C.out λ⟨_,S,T⟩=>by omega⟩,by simp[intOf];omega⟩
    ·clear d
     go_wp2;go_ret;have l:=s.out;rw[Rm]at l
     ·exact⟨by rw[l];rfl,f⟩
     ·rintro(⟨q,p,h⟩|h)
      ·exact C.out q (by omega) p ⟨p,h⟩
      ·exact M.out h
end Go.Proofs

import Derived.BigQuiet
import Derived.OwnWalk
import Derived.Test.YtaglpcmhopjebaaGreatDoorY24
set_option linter.all false
set_option maxRecDepth 100000
set_option maxHeartbeats 20000000
namespace Go.Proofs
open Go.Tm Go.RowKit
variable {fs:Array Func} (L:bQ fs)
def bs(l:Bs):ByteArray:=⟨l.toArray⟩
def bY(l):(bs l).data.toList=l:=by simp[bs]
def bE(l):(bs l).size=l.length:=by rw[Lib.size_eq,bY]
def pM{a b:ByteArray}(h:a.data.toList=b.data.toList):a=b:=Go.WideShapes.bytes_inj h
def Bp(a b:ByteArray):(a++b).data.toList=a.data.toList++b.data.toList:=by obtain⟨⟨a⟩⟩:=a;obtain⟨⟨b⟩⟩:=b;simp
def oF(x)(r:ByteArray):bs x++r=bs (x++r.data.toList):=pM (by rw[Bp,bY,bY])
def zO(x)(s:ByteArray)(k)(b:k<s.size):bs x++s.extract k (k+1)=bs (x++[s[k]]):=by
 rw[oF,Lib.extract_data]
 congr 2
 have a:k<s.data.toList.length:=by rwa[<-Lib.size_eq]
 rw[SE a,Nat.add_sub_cancel_left];simp only[R7,Si];rw[Bm b]
def drop_cons(s:ByteArray)(k)(b:k<s.size):s.data.toList.drop k=s[k]::s.data.toList.drop (k+1):=by
 have a:k<s.data.toList.length:=by rwa[<-Lib.size_eq]
 rw[SE a,Bm b]
def xA(f t:Bs)(e:f≠[]):∀(n m) (s),s.length<=n->s.length<=m->eJ f t n s=eJ f t m s:=by
 have a:=SY.2 e;intro n;induction n with
 |zero=>intro m s h _;have:s=[]:=Ss (by omega);subst this;cases m<;>rfl
 |succ n b=>
  intro m s h d;cases s with
  |nil=>cases m<;>rfl
  |cons c cs=>
   cases m with
   |zero=>simp at d
   |succ m=>
    simp only[Rs]at h d;unfold eJ;have g:((c::cs).drop f.length).length<=n:=by rw[RI,Rs];omega
    have i:((c::cs).drop f.length).length<=m:=by rw[RI,Rs];omega
    rw[b m _ g i,b m cs (by omega) (by omega)]
def mv(p):cQ p []=[]:=rfl
def my{p s}(b:p.1.data.toList.isPrefixOf s=true)(a:p.1.data.toList≠[]):cQ p s=p.2.data.toList++cQ p (s.drop p.1.data.toList.length):=by
 cases s with
 |nil=>have:=(S9.1 b).length_le;exact absurd (Ss (Nat.le_zero.1 this)) a
 |cons c cs=>
  have d:=SY.2 a;show eJ _ _ (cs.length+1) (c::cs)=_;unfold eJ;rw[Rp b]
  congr 1
  exact xA _ _ a _ _ _ (by rw[RI,Rs];omega) (Rq _)
def kZ{p c}{s:Bs}(a:p.1.data.toList.isPrefixOf (c::s)=false):cQ p (c::s)=c::cQ p s:=by show eJ _ _ (s.length+1) (c::s)=_;unfold eJ;rw[a];rfl
def aw(w:World)(c)(e i:Nat)(v)(h:c[i]? =some v):(w.alloc (.cells c e)).cell? ⟨w.heap.size,i,none⟩=some v:=by unfold World.cell? World.alloc;simp[h]
def aF(w o):Below w.heap.size w (w.alloc o):=(Below.refl _ w).alloc (Rq _) o
def Br(s:ByteArray)(p:Pr2)(w:World)(z:s.size<=1000)(A:1<=p.1.size)(B:p.1.size<=1000)(C:p.2.size<=1000):Calls (Qs fs) 113 #[.string s,.agg #[.string p.1,.string p.2]] w λe w'=>e=.returned (.string (bs (cQ p s.data.toList)))/\Below w.heap.size w w':=by
 have e96:=e96 L;have n:p.1.data.toList≠[]:=by intro h;have l:=Lib.size_eq p.1;rw[h]at l;have D:p.1.size=0:=l;omega
 have q:=aw w #[.string p.1,.string p.2] 51 0 (.string p.1) rfl;have r:=aw w #[.string p.1,.string p.2] 51 1 (.string p.2) rfl;have t:Hid (Below w.heap.size w (w.alloc (.cells #[.string p.1,.string p.2] 51))):=aF w _;go_enter (n113 L),Tryz.ntmps113;go_wp2
 go_loop [5,6] (λo i=>∃(k:Nat) (x:Bs),k<=s.size/\i=.int .i64 k/\o=.string (bs x)/\(bs x).size<=1000*k/\x++cQ p (s.data.toList.drop k)=cQ p s.data.toList) (λo i=>s.size-(intOf i).toNat)
 case atStart=>exact⟨0,[],RA _,rfl,rfl,RA _,rfl⟩
 case round=>
  obtain⟨k,x,E,rfl,rfl,u,a⟩:=hrel;have g:Hid _:=a;clear a;obtain b|hge:=Ry k s.size
  ·have c:=drop_cons s k b
   have m:Hid _:=c;clear c;have v:=λy=>qv L s p.1 k y (by omega) (by omega) (by omega);go_wp2_with (first|(go_at_call 96;refine(v _).mono ?_;rintro e w' ⟨rfl,rfl⟩))
   ·have f:= ‹Lib.occAt _ _ _=true›
    have d:=(S9.1 (show p.1.data.toList.isPrefixOf (s.data.toList.drop k)=true from f)).length_le;rw[RI,<-Lib.size_eq,<-Lib.size_eq]at d;refine⟨⟨k+p.1.size,x++p.2.data.toList,by omega,by go_num,by rw[oF],?_,?_⟩,by simp[intOf];omega⟩
    ·rw[bE,RM,<-bE x,<-Lib.size_eq]
     have:1000*(k+p.1.size)=1000*k+1000*p.1.size:=UI _ _ _;omega
    ·rw[<-g.out,my f n,UJ,<-Lib.size_eq,R8]
   ·have f:= ‹Lib.occAt _ _ _=false›
    refine⟨⟨k+1,x++[s[k]],by omega,by go_num,by rw[zO x s k b],?_,?_⟩,by simp[intOf];omega⟩
    ·rw[bE,RM,<-bE x]
     simp only[Rs,RF];omega
    ·rw[<-g.out,m.out]
     have j:p.1.data.toList.isPrefixOf (s[k]::s.data.toList.drop (k+1))=false:=by rw[<-m.out];exact f
     rw[kZ j,R8];rfl
  ·go_wp2
   go_ret;have a:=g.out;rw[RY (by rw[<-Lib.size_eq];exact hge),mv,Th]at a;exact⟨by rw[a];rfl,t.out⟩
def JJ(s:ByteArray)(w:World)(d:s.size<=1000):Calls (Qs fs) 117 #[.string s] w λe w'=>e=.returned (.string (bs s.data.toList.reverse))/\w'=w:=by
 go_enter (n117 L),Tryz.ntmps117;go_wp2
 go_loop [3,4] (λo i=>∃(k:Nat) (x:Bs),k<=s.size/\i=.int .i64 ((k:Int)-1)/\o=.string (bs x)/\(bs x).size<=1000/\x=(s.data.toList.drop k).reverse) (λo i=>(intOf i+1).toNat)
 case atStart=>exact⟨s.size,[],Rq _,by simp,rfl,by decide,by rw[RY (by rw[<-Lib.size_eq];exact Rq _)];rfl⟩
 case round=>
  obtain⟨k,x,f,rfl,rfl,c,a⟩:=hrel;have b:Hid _:=a;clear a;obtain rfl|hpos:=SF k
  ·go_wp2
   go_ret;have a:=b.out;rw[Sj]at a;exact⟨by rw[a];rfl,rfl⟩
  ·obtain⟨j,rfl⟩:∃j,k=j+1:=⟨k-1,by omega⟩
   go_wp2;have a:=b.out;refine⟨⟨j,x++[s[j]],by omega,rfl,by rw[zO x s j (by omega)],?_,?_⟩,by simp[intOf]⟩
   ·rw[bE,RM,a,Ui,RI,<-Lib.size_eq]
    simp only[Rs,RF];omega
   ·rw[a,drop_cons s j (by omega),List.reverse_cons]
def Mr{a b:ByteArray}(d:a.size<=b.size):uh a.data.toList b.data.toList=
 if a.size<3\/(Lib.occAt b.data.toList a.data.toList 0=false/\Lib.occAt b.data.toList a.data.toList (b.size-a.size)=false)then 0 else(100*a.size:Int)/b.size:=by
 have c:a.data.toList.isSuffixOf b.data.toList=Lib.occAt b.data.toList a.data.toList (b.size-a.size):=by
  have h:=Lib.hasSuffix_of_drop b.data.toList a.data.toList;unfold Lib.hasSuffix at h;rw[<-h,<-Lib.size_eq,<-Lib.size_eq,RE d,T4];unfold Lib.occAt;have e:(b.data.toList.drop (b.size-a.size)).length=a.data.toList.length:=by rw[RI,<-Lib.size_eq,<-Lib.size_eq];omega
  rw[SV,Sq,S9];exact⟨λh=>h▸List.prefix_refl _,λh=>(List.IsPrefix.eq_of_length h e.symm).symm⟩
 unfold uh;rw[<-Lib.size_eq,<-Lib.size_eq,Ro (by omega)];simp only[];rw[<-Lib.size_eq,<-Lib.size_eq,c,show a.data.toList.isPrefixOf b.data.toList=Lib.occAt b.data.toList a.data.toList 0 from rfl];cases Lib.occAt b.data.toList a.data.toList 0<;>cases Lib.occAt b.data.toList a.data.toList (b.size-a.size)<;>simp
def JK(a b:ByteArray)(w:World)(g:a.size<=1000)(i:b.size<=1000)(c:a.size<=b.size):Calls (Qs fs) 118 #[.string a,.string b] w λe w'=>e=.returned (.int .i64 (uh a.data.toList b.data.toList))/\w'=w:=by
 have e96:=e96 L;have f:∀wx,Calls (Qs fs) 96 #[.string b,.int .i64 0,.string a] wx λe w'=>e=.returned (.bool (Lib.occAt b.data.toList a.data.toList 0))/\w'=wx:=λwx=>qv L b a 0 wx (by omega) (by omega) (by omega);have d:∀wx,Calls (Qs fs) 96 #[.string b,.int .i64 ((b.size:Int)-a.size),.string a] wx λe w'=>e=.returned (.bool (Lib.occAt b.data.toList a.data.toList (b.size-a.size)))/\w'=wx:=λwx=>by rw[show(b.size:Int)-a.size=((b.size-a.size:Nat):Int) by omega];exact qv L b a (b.size-a.size) wx (by omega) (by omega) (by omega)
 go_enter (n118 L),Tryz.ntmps118;go_wp2_with (first|(go_at_call 96;refine(f _).mono ?_;rintro e w' ⟨rfl,rfl⟩)|(go_at_call 96;refine(d _).mono ?_;rintro e w' ⟨rfl,rfl⟩))
 all_goals
  go_ret;refine⟨?_,rfl⟩;rw[Mr c];first
   |(rw[Rp (by first|(left;omega)|(right;simp_all;done)|(right;simp_all;rcases ‹_\/_› with h|h<;>first|omega|exact h))];rfl)
   |(rw[Ro (by simp_all;try omega)];rfl)
def Hb{a b:ByteArray}(h:b.size<a.size):uh a.data.toList b.data.toList=uh b.data.toList a.data.toList:=by unfold uh;rw[<-Lib.size_eq,<-Lib.size_eq,Rp h,Ro (by omega)]
def P4(a b:ByteArray)(w:World)(d:a.size<=1000)(f:b.size<=1000):Calls (Qs fs) 118 #[.string a,.string b] w λe w'=>e=.returned (.int .i64 (uh a.data.toList b.data.toList))/\w'=w:=by
 obtain c|hge:=Ry b.size a.size
 ·have Ml:=Ml L
  have g:=λh=>JK L b a h f d (by omega);go_enter (n118 L),Tryz.ntmps118;go_wp2_with (first|(go_at_call 118;refine(g _).mono ?_;rintro e w' ⟨rfl,rfl⟩))
  go_ret;exact⟨by rw[Hb c];rfl,rfl⟩
 ·exact JK L a b w d f hge
structure OkT(t:Table):Prop where
 lets:∀p∈t.aC,1<=p.1.size/\p.1.size<=4/\p.2.size<=3
 P5:t.aC.length<=12
 aY:∀x∈t.aO,∀p∈x.aY,1<=p.1.size/\p.1.size<=3/\p.2.size<=p.1.size
 Gr:∀x∈t.aO,x.aY.length<=5
 uW:t.aO.length<=3
 Od:t.iy.length<=4
def dV(rest:Bs)(a:Option Pr2)(p:Pr2):Option Pr2:=if p.1.data.toList.isPrefixOf rest&&decide ((a.elim 0 λq=>q.1.size)<p.1.size)then some p else a
def jI(a:List Pr2)(k)(b:k<a.length)(rest):bI (a.take (k+1)) rest=dV rest (bI (a.take k) rest) a[k]:=by unfold bI;rw[Tn b,Uj];rfl
def gV(a:List Pr2)(rest:Bs)(k:Nat)(b:Int):Prop:=(b= -1/\bI (a.take k) rest=none)\/∃j,∃h:j<a.length,j<k/\b=j/\bI (a.take k) rest=some a[j]
def gV.start(a rest):gV a rest 0 (-1):=.inl ⟨rfl,rfl⟩
def zP(rest):∀(a:List Pr2) (b) (p),a.foldl (dV rest) b=some p->p∈a\/b=some p:=by
 intro a;induction a with
 |nil=>exactλb p h=>.inr h
 |cons q a c=>
  intro b p h;obtain h|h:=c _ p h
  ·exact .inl (.tail _ h)
  ·unfold dV at h
   split at h
   ·cases h;exact .inl (.head _)
   ·exact .inr h
def gG{ls rest p}(h:bI ls rest=some p):p∈ls:=by
 obtain h|h:=zP rest ls none p h
 ·exact h
 ·cases h
def ui(rest:Bs):∀(c:List Pr2) (b),(∀p,b=some p->p.1.data.toList.isPrefixOf rest=true)->∀p,c.foldl (dV rest) b=some p->p.1.data.toList.isPrefixOf rest=true:=by
 intro c;induction c with
 |nil=>exactλb d p h=>d p h
 |cons q c f=>
  intro b d p h;refine f _ (λg a=>?_) p h;unfold dV at a;split at a
  ·rename_i e
   cases a;simp only[RD]at e;exact e.1
  ·exact d g a
def nA{a rest p}(h:bI a rest=some p):p.1.data.toList.isPrefixOf rest=true:=ui rest a none (λp h=>by cases h) p h
def Er(a:List Pr2)(e:∀p∈a,1<=p.1.size):∀(n m) (s),s.length<=n->s.length<=m->kI a n s=kI a m s:=by
 intro n;induction n with
 |zero=>intro m s h _;have:s=[]:=Ss (by omega);subst this;cases m<;>rfl
 |succ n b=>
  intro m s h d;cases s with
  |nil=>cases m<;>rfl
  |cons c cs=>
   cases m with
   |zero=>simp at d
   |succ m=>
    simp only[Rs]at h d;unfold kI;cases f:bI a (c::cs)with
    |none=>simp only[];rw[b m cs (by omega) (by omega)]
    |some p=>have g:=gG f;have:=e p g;simp only[];rw[b m _ (by rw[RI,Rs];omega) (by rw[RI,Rs];omega)]
def jU{w w':World}(h:w'.heap=w.heap)(a):w'.cell? a=w.cell? a:=by unfold World.cell?;rw[h]
def Hd(a):aR a []=[]:=rfl
def He{a:List Pr2}(b:∀p∈a,1<=p.1.size){c}{s:Bs}{p}(d:bI a (c::s)=some p):aR a (c::s)=p.2.data.toList++aR a ((c::s).drop p.1.size):=by
 have e:=b p (gG d);show kI a (s.length+1) (c::s)=_;unfold kI;rw[d];simp only[]
 congr 1
 exact Er _ b _ _ _ (by rw[RI,Rs];omega) (Rq _)
def Es{a c}{s:Bs}(b:bI a (c::s)=none):aR a (c::s)=(if aX c then[c]else[])++aR a s:=by show kI a (s.length+1) (c::s)=_;unfold kI;rw[b];rfl
def gV.skip{a rest k b}(h:gV a rest k b)(d:k<a.length)(e:dV rest (bI (a.take k) rest) a[k]=bI (a.take k) rest):gV a rest (k+1) b:=by
 obtain⟨f,c⟩|⟨j,g,f,c,i⟩:=h
 ·exact .inl ⟨f,by rw[jI _ _ d,e,c]⟩
 ·exact .inr ⟨j,g,by omega,c,by rw[jI _ _ d,e,i]⟩
def gV.take{a rest k}(b:k<a.length)(c:dV rest (bI (a.take k) rest) a[k]=some a[k]):gV a rest (k+1) k:=.inr ⟨k,b,To _,rfl,by rw[jI _ _ b,c]⟩
def Bu{K:Nat->Prop}{v0 v1 v2:Value}{t:Table}(s:ByteArray)(w:World)(ht:IsTable K w v0 v1 v2 t)(ok:OkT t)(hs:s.size<=1000):Calls (Qs fs) 54 #[.agg #[v0,v1,v2],.string s] w λe w'=>e=.returned (.string (bs (aR t.aC s.data.toList)))/\Below w.heap.size w w':=by
 have e96:=e96 L;obtain⟨⟨ao,c,rfl,aa,hc,_,n⟩,_,_⟩:=ht;have q:=ok.lets;have ab:=ok.P5;clear ok;obtain⟨ls,T⟩:=ex (t.aC);rw[<-T]at aa n q ab⊢;clear T;have h1:∀p∈ls,1<=p.1.size:=λp hp=>(q p hp).1;have r:=aw w #[.slice ao ls.length c,v1,v2] 26 0 _ rfl;have U:=aF w (.cells #[.slice ao ls.length c,v1,v2] 26);have u:∀(k:Nat) (h:k<ls.length),∃b y,ao=some ⟨b,y,none⟩/\dC K (w.alloc (.cells #[.slice ao ls.length c,v1,v2] 26)) b (y+k*2) ls[k]:=λk h=>by obtain⟨b,y,e,Q⟩:=n k h;exact⟨b,y,e,dC.carry (Carry.keep (ae.below (aF w _))) b b _ _ rfl Q⟩
 clear n;obtain⟨w1,V⟩:=ex (w.alloc (.cells #[.slice ao ls.length c,v1,v2] 26));go_enter (n54 L),Tryz.ntmps54;go_wp2;rw[<-V]at r U u⊢;obtain⟨N,hN⟩:=ex (w.heap.size);rw[<-hN]at r⊢;clear V hN;go_loopw [5,6] (λo i wr=>∃(k:Nat) (x:Bs),k<=s.size/\i=.int .i64 k/\o=.string (bs x)/\(bs x).size<=1000*k/\wr.heap=w1.heap/\Below w.heap.size w wr/\x++aR ls (s.data.toList.drop k)=aR ls s.data.toList) (λo i _=>s.size-(intOf i).toNat)
 case atStart=>exact⟨0,[],RA _,rfl,rfl,RA _,rfl,U,rfl⟩
 case round=>
  obtain⟨k,x,hk,rfl,rfl,an,B,l,W⟩:=hrel;have S:Hid _:=W;clear W;obtain X|hge:=Ry k s.size
  ·have C:=(jU B _).trans r
   have Y:=drop_cons s k X;have HD:Hid _:=Y;clear Y;go_wp2;go_loopw [7,8] (λb i wr=>∃(j:Nat) (b0:Int),j<=ls.length/\i=.int .i64 j/\b=.int .i64 b0/\gV ls (s.data.toList.drop k) j b0/\wr.heap=w1.heap/\Below w.heap.size w wr) (λb i _=>ls.length-(intOf i).toNat)
   case atStart=>exact⟨0,-1,RA _,rfl,rfl,gV.start _ _,B,l⟩
   case round=>
    obtain⟨j,b0,hj,rfl,rfl,D,a,g⟩:=hrel;have ak:=(jU a _).trans r;have m:Hid _:=(⟨a,g⟩:wr.heap=w1.heap/\Below w.heap.size w wr)
    obtain f|hjge:=Ry j ls.length
    ·obtain⟨b,y,rfl,E,I⟩:=u j f
     have ad:=q ls[j] (RR _);obtain⟨z1,z2,z3⟩:=ad;have E:=(jU a _).trans E;have F:=u;clear a g B l r I h1 q S U C u;have J:=λwx=>qv L s ls[j].1 k wx (by omega) (by omega) (by omega);obtain⟨rfl,z⟩|⟨v,G,R,rfl,d⟩:=D
     ·have H:Hid _:=z
      clear z F;cases A:Lib.occAt s.data.toList ls[j].1.data.toList k with
      |false=>simp only[A]at J;have O:Hid _:=A;clear A;go_wp2;go_quiet (first|(go_at_call 96;exact Calls.quiet_of_same (J _)));go_wp2;refine⟨⟨j+1,-1,by omega,by go_num,rfl,gV.skip (.inl ⟨rfl,H.out⟩) f ?_,m.out.1,Go.below_drewN m.out.2 _⟩,by simp[intOf];omega⟩;unfold dV;rw[show ls[j].1.data.toList.isPrefixOf (s.data.toList.drop k)=false from O.out];rfl
      |true=>simp only[A]at J;have O:Hid _:=A;clear A;go_wp2;go_quiet (first|(go_at_call 96;exact Calls.quiet_of_same (J _)));go_wp2;refine⟨⟨j+1,j,by omega,by go_num,rfl,gV.take f ?_,m.out.1,Go.below_drewN m.out.2 _⟩,by simp[intOf];omega⟩;unfold dV;rw[show ls[j].1.data.toList.isPrefixOf (s.data.toList.drop k)=true from O.out,H.out,T4];exact Rp (RE (show(0:Nat)<ls[j].1.size by omega))
     ·obtain⟨b2,al,e2,Z,_⟩:=F v G
      cases e2;have Z:=(jU m.out.1 _).trans Z;have H:Hid _:=d;clear d F;cases A:Lib.occAt s.data.toList ls[j].1.data.toList k with
      |false=>simp only[A]at J;have O:Hid _:=A;clear A;go_wp2;go_quiet (first|(go_at_call 96;exact Calls.quiet_of_same (J _)));go_wp2;refine⟨⟨j+1,v,by omega,by go_num,rfl,gV.skip (.inr ⟨v,G,R,rfl,H.out⟩) f ?_,m.out.1,Go.below_drewN m.out.2 _⟩,by simp[intOf];omega⟩;unfold dV;rw[show ls[j].1.data.toList.isPrefixOf (s.data.toList.drop k)=false from O.out];rfl
      |true=>
       simp only[A]at J;have O:Hid _:=A;clear A;obtain hcmp|hcmp:=Ry ls[v].1.size ls[j].1.size
       ·go_wp2
        go_quiet (first|(go_at_call 96;exact Calls.quiet_of_same (J _)));go_wp2;refine⟨⟨j+1,j,by omega,by go_num,rfl,gV.take f ?_,m.out.1,Go.below_drewN m.out.2 _⟩,by simp[intOf];omega⟩;unfold dV;rw[show ls[j].1.data.toList.isPrefixOf (s.data.toList.drop k)=true from O.out,H.out];simp[hcmp]
       ·go_wp2
        go_quiet (first|(go_at_call 96;exact Calls.quiet_of_same (J _)));go_wp2;refine⟨⟨j+1,v,by omega,by go_num,rfl,gV.skip (.inr ⟨v,G,R,rfl,H.out⟩) f ?_,m.out.1,Go.below_drewN m.out.2 _⟩,by simp[intOf];omega⟩;unfold dV;rw[show ls[j].1.data.toList.isPrefixOf (s.data.toList.drop k)=true from O.out,H.out,T4,Ro (by rw[RJ];show ¬ls[v].1.size<ls[j].1.size;omega)]
    ·have af:j=ls.length:=by omega
     subst af;obtain⟨rfl,z⟩|⟨v,G,R,rfl,d⟩:=D
     ·rw[Tp]at z
      have H:Hid _:=z;have M:=S;clear z u B l r h1 q S U C a g;have P:∀b:Bool,aX s[k]=b->aR ls (s.data.toList.drop k)=(if b then[s[k]]else[])++aR ls (s.data.toList.drop (k+1)):=λb hb=>by have Q:=H.out;rw[HD.out]at Q⊢;rw[Es Q,hb]
      have HL:Hid _:=P;clear P;go_wp2
      ·refine⟨⟨k+1,x++[s[k]],by omega,by go_num,by rw[zO x s k X],?_,m.out.1,m.out.2,?_⟩,by simp[intOf];omega⟩
       ·rw[bE,RM,<-bE x]
        simp only[Rs,RF];omega
       ·rw[<-M.out,HL.out true ((Gp _).2 ⟨by assumption,by assumption⟩),R8]
        rfl
      all_goals
       refine⟨⟨k+1,x,by omega,by go_num,rfl,by omega,m.out.1,m.out.2,?_⟩,by simp[intOf];omega⟩;rw[<-M.out,HL.out false (by
        cases hl:aX s[k]with
        |false=>rfl
        |true=>have:=(Gp _).1 hl;omega)]
       rfl
     ·rw[Tp]at d
      obtain⟨b,y,rfl,E,I⟩:=u v G;obtain⟨z1,z2,z3⟩:=q ls[v] (RR _);have E:=(jU a _).trans E;have I:=(jU a _).trans I;have H:Hid _:=d;have M:=S;have H1:Hid _:=h1;have ag:=(S9.1 (nA d)).length_le;rw[RI,<-Lib.size_eq,<-Lib.size_eq]at ag;clear d u B l r q S U C a g h1;go_wp2;refine⟨⟨k+ls[v].1.size,x++ls[v].2.data.toList,by omega,by go_num,by rw[oF],?_,m.out.1,m.out.2,?_⟩,by simp[intOf];omega⟩
      ·rw[bE,RM,<-bE x,<-Lib.size_eq]
       have:1000*(k+ls[v].1.size)=1000*k+1000*ls[v].1.size:=UI _ _ _;omega
      ·have Q:=H.out
       rw[<-M.out];rw[HD.out]at Q⊢;rw[He H1.out Q,<-HD.out,UJ,R8]
  ·go_wp2
   go_ret;have W:=S.out;rw[RY (by rw[<-Lib.size_eq];exact hge),Hd,Th]at W;exact⟨by rw[W];rfl,l⟩
def ae.cell{w w'}(h:ae w w'){b o v}(a:w.cell? ⟨b,o,none⟩=some v):w'.cell? ⟨b,o,none⟩=some v:=by
 unfold World.cell? at a⊢
 revert a
 simp only[];cases c:w.heap[b]? with
 |none=>intro h;cases h
 |some o'=>
  cases o' with
  |cells d e F=>intro a;rw[h b d e F c];exact a
  |_=>intro h;cases h
def ae.alloc(w o):ae w (w.alloc o):=ae.below (aF w o)
def ae.drewN{w w'}(h:ae w w')(n):ae w (w'.drewN n):=h
def uj(f t)(b:t.length<=f.length):∀(n) (s),(eJ f t n s).length<=s.length:=by
 intro n;induction n with
 |zero=>intro s;exact Rq _
 |succ n a=>
  intro s;cases s with
  |nil=>exact Rq _
  |cons c cs=>
   unfold eJ;split
   ·rename_i d
    have g:=(S9.1 d).length_le;have e:=a ((c::cs).drop f.length);rw[RI]at e;rw[RM];omega
   ·have:=a cs
    simp only[Rs];omega
def jv{p}(h:p.2.size<=p.1.size)(s):(cQ p s).length<=s.length:=uj _ _ (by rw[<-Lib.size_eq,<-Lib.size_eq];exact h) _ _
def qx(a:List Pr2)(h:∀p∈a,1<=p.1.size/\p.1.size<=4/\p.2.size<=3):∀(n) (s),(kI a n s).length<=3*s.length:=by
 intro n;induction n with
 |zero=>intro s;exact RA _
 |succ n b=>
  intro s;cases s with
  |nil=>exact RA _
  |cons c cs=>
   unfold kI;cases e:bI a (c::cs)with
   |none=>have:=b cs;simp only[RM,Rs];split<;>simp only[Rs,RF]<;>omega
   |some p=>obtain⟨f,g,i⟩:=h p (gG e);have d:=b ((c::cs).drop p.1.size);rw[RI]at d;simp only[RM,Rs]at d⊢;rw[<-Lib.size_eq];omega
def dG{t}(a:OkT t)(s):(aR t.aC s).length<=3*s.length:=qx _ a.lets _ _
def Et(aY:List Pr2)(y:Bs):Bs:=aY.foldl (λs r=>cQ r s) y
def Bv{aY:List Pr2}(h:∀p∈aY,1<=p.1.size/\p.1.size<=3/\p.2.size<=p.1.size):∀(y),(Et aY y).length<=y.length:=by
 induction aY with
 |nil=>exactλy=>Rq _
 |cons p aY a=>intro y;have b:=a (λq c=>h q (.tail _ c)) (cQ p y);have d:=jv (h p (.head _)).2.2 y;exact Rr b d
def yo(aY:List Pr2)(j)(a:j<aY.length)(y):Et (aY.drop j) y=Et (aY.drop (j+1)) (cQ aY[j] y):=by rw[SE a];rfl
def sq{t k}(a:k<t.aO.length)(s):bH t k s=Et t.aO[k].aY (aR t.aC s):=by unfold bH;rw[R5 a];rfl
def lg{t}(a:OkT t){k}(b:k<t.aO.length)(s):(bH t k s).length<=3*s.length:=by rw[sq b];exact Rr (Bv (a.aY _ (RR _)) _) (dG a s)
def Hf{K:Nat->Prop}{v0 v1 v2:Value}{t:Table}(k:Nat)(s:ByteArray)(w:World)(T:IsTable K w v0 v1 v2 t)(O:OkT t)(hs:s.size<=300)(U:k<t.aO.length):Calls (Qs fs) 65 #[.agg #[v0,v1,v2],.int .i64 k,.string s] w λe w'=>e=.returned (.string (bs (bH t k s.data.toList)))/\Below w.heap.size w w':=by
 have e54:=e54 L;have Po:=Po L;have n:=sq U s.data.toList;have R:=dG O s.data.toList;rw[<-Lib.size_eq]at R;have p:=T.stays (ae.alloc w (.cells #[v0,v1,v2] 26));have x:=aF w (.cells #[v0,v1,v2] 26);have V:=Bu L s _ p O (by omega);have a:∀i v,(#[v0,v1,v2]:Array Value)[i]? =some v->(w.alloc (.cells #[v0,v1,v2] 26)).cell? ⟨w.heap.size,i,none⟩=some v:=λi v h=>aw w _ 26 i v h;have q:=a 0 v0 rfl;have g:=a 1 v1 rfl;have r:=a 2 v2 rfl;go_enter (n65 L),Tryz.ntmps65;go_wp2_with (first|(go_at_call 54;refine V.mono ?_;rintro e w2 ⟨rfl,P⟩))
 obtain⟨w1,z⟩:=ex (w.alloc (.cells #[v0,v1,v2] 26));have hN:w.heap.size+1=w1.heap.size:=by rw[z];simp
 rw[<-z]at P p x q g r;have S2:=ae.below P;have B2:=x.trans (P.mono (by omega));obtain⟨N,D⟩:=ex (w.heap.size);rw[<-D]at q g r⊢;clear P x V a z hN D T;obtain⟨ao,c,rfl,ad,hc,_,l⟩:=p.2.1;clear p;have u:=O.aY t.aO[k] (RR _);clear O;obtain⟨B,E⟩:=ex (t.aO[k]);have F:=l k U;rw[<-E]at u n F;clear l E;obtain⟨b,af,rfl,_,vs,A,G⟩:=F;obtain⟨ag,c2,rfl,W,ak,X,d⟩:=G;go_loopw [7,8] (λo i wr=>∃(j:Nat) (y:Bs),j<=B.aY.length/\i=.int .i64 j/\o=.string (bs y)/\(bs y).size<=900/\ae w1 wr/\Below w.heap.size w wr/\Et (B.aY.drop j) y=bH t k s.data.toList) (λo i _=>B.aY.length-(intOf i).toNat)
 case atStart=>exact⟨0,_,RA _,rfl,rfl,by rw[bE];omega,S2,B2,n.symm⟩
 case round=>
  obtain⟨j,y,hj,rfl,rfl,hy,f,m,C⟩:=hrel;have Y:Hid _:=C;have Z:=f.cell g;have aa:=f.cell A;have Q:Hid _:=(⟨f,m⟩:ae w1 wr/\Below w.heap.size w wr)
  obtain H|hge:=Ry j B.aY.length
  ·obtain⟨b2,ab,rfl,I,J⟩:=d j H
   have I:=f.cell I;have J:=f.cell J;obtain⟨z1,z2,z3⟩:=u B.aY[j] (RR _);have S:=jv z3 y;rw[<-bE,<-bE]at S;have cR:=Br L (bs y) B.aY[j] wr (by omega) z1 (by omega) (by omega);rw[bY]at cR;clear C f m g A q r d u n;go_wp2_with (first|(go_at_call 113;refine cR.mono ?_;rintro e w3 ⟨rfl,M⟩))
   refine⟨⟨j+1,_,by omega,by go_num,rfl,by omega,Q.out.1.trans (ae.below M),Q.out.2.trans (M.mono Q.out.2.size),?_⟩,by simp[intOf];omega⟩;rw[<-Y.out,yo _ _ H]
  ·clear C f m g A q r d u n
   go_wp2;go_ret;have C:=Y.out;rw[RY hge]at C;exact⟨by rw[<-C];rfl,Q.out.2⟩
def qy(l a):l.any (λs=>s.data.toList==a.data.toList)=decide (0<=m8 l a):=by
 rw[zN]
 congr 1
 funext q
 rw[SV,Sq,RJ];exact⟨λh=>pM h,λh=>h▸rfl⟩
def fB(a:ByteArray):a.data.toList.isEmpty=decide (a.size=0):=by rw[Lib.size_eq,SV,List.isEmpty_iff,RJ,Tb]
def Hg(t a b):gp t a.data.toList b.data.toList=if(∃q,∃h:q<t.iy.length,0<=m8 t.iy[q] a/\0<=m8 t.iy[q] b)\/(a=b/\0<a.size)then 100 else 0:=by
 unfold gp
 congr 1
 rw[eq_iff_iff,T5,Ta,fB];refine or_congr ⟨?_,?_⟩ ?_
 ·rintro⟨l,d,h⟩
  obtain⟨q,c,rfl⟩:=TK.1 d;rw[qy,qy,RD,RJ,RJ]at h;exact⟨q,c,h⟩
 ·rintro⟨q,c,h⟩
  refine⟨_,RR c,?_⟩;rw[qy,qy,RD,RJ,RJ];exact h
 ·rw[RD,Sq,Bool.not_eq_true',TM]
  exact⟨λh=>⟨pM h.1,by omega⟩,λh=>⟨h.1▸rfl,by omega⟩⟩
def Gs{p:Nat->Prop}{k n}(a:∀q,q<k->q<n->¬p q)(h:¬p k):∀q,q<k+1->q<n->¬p q:=by
 intro q c b;obtain h1|h1:=Ry q k
 ·exact a q h1 b
 ·have:q=k:=by omega
  subst this;exact h
def Ms{K:Nat->Prop}{v0 v1 v2:Value}{t:Table}(a b:ByteArray)(w:World)(E:IsTable K w v0 v1 v2 t)(z:t.iy.length<=4):Calls (Qs fs) 116 #[.agg #[v0,v1,v2],.string a,.string b] w λe w'=>e=.returned (.int .i64 (gp t a.data.toList b.data.toList))/\Below w.heap.size w w':=by
 have e62:=e62 L;have r:=E.stays (ae.alloc w (.cells #[v0,v1,v2] 26));have f:=aF w (.cells #[v0,v1,v2] 26);have n:=aw w #[v0,v1,v2] 26 2 v2 rfl;have s:Hid _:=Hg t a b;obtain⟨ao,c,rfl,A,U,_,d⟩:=r.2.2;clear r E;obtain⟨m,u⟩:=ex (t.iy);rw[<-u]at A d z s f n⊢;clear u;obtain⟨w1,v⟩:=ex (w.alloc (.cells #[v0,v1,.slice ao m.length c] 26));obtain⟨N,F⟩:=ex (w.heap.size);have o:∀(I:¬(a=b/\0<a.size)),True:=λ_=>trivial;by_cases k:a=b/\0<a.size
 ·obtain⟨rfl,x⟩:=k
  have l:=s.out;rw[Rp (.inr ⟨rfl,x⟩)]at l;have B:Hid _:=l;clear l s d;go_enter (n116 L),Tryz.ntmps116;go_wp2;go_ret;exact⟨by rw[B.out];rfl,f⟩
 ·have p:(a.toList==b.toList)=false\/((a.toList==b.toList)=true/\a.size=0):=by
   rw[qu];by_cases h:a=b
   ·right
    by_cases J:a.size=0
    ·exact⟨by simp[h],J⟩
    ·exact absurd ⟨h,by omega⟩ k
   ·left
    simp[h]
  have M:Hid _:=k;clear k o;have key:∀(fr:Act->Prop),True:=λ_=>trivial;clear key;obtain p|⟨p,O⟩:=p;all_goals
   go_enter (n116 L),Tryz.ntmps116;go_wp2;rw[<-v]at n f d⊢;rw[<-F]at n⊢;clear v F
   go_loop [7] (λi=>∃j:Nat,j<=m.length/\i=.int .i64 j/\∀q,q<j->q<m.length->¬∃h:q<m.length,0<=m8 m[q] a/\0<=m8 m[q] b) (λi=>m.length-(intOf i).toNat)
   case atStart=>exact⟨0,RA _,rfl,λq h=>absurd h (RZ _)⟩
   case round=>
    obtain⟨j,V,rfl,G⟩:=hrel;have C:Hid _:=G;clear G;obtain y|hge:=Ry j m.length
    ·obtain⟨b1,H,rfl,W,D,g⟩:=d j y
     rw[SG]at D;have P:=JH L a w1 g;have Q:=JH L b w1 g;obtain⟨R,X,rfl,_⟩:=g;clear d;go_wp2_with (first|(go_at_call 62;refine P.mono ?_;rintro e w3 ⟨rfl,rfl⟩)|(go_at_call 62;refine Q.mono ?_;rintro e w3 ⟨rfl,rfl⟩))
     ·go_ret
      have l:=s.out;rw[Rp (.inl ⟨j,y,by assumption,by assumption⟩)]at l;exact⟨by rw[l];rfl,f⟩
     ·exact⟨⟨j+1,by omega,by go_num,Gs C.out λ⟨_,S,T⟩=>by omega⟩,by simp[intOf];omega⟩
     ·exact⟨⟨j+1,by omega,by go_num,Gs C.out λ⟨_,S,T⟩=>by omega⟩,by simp[intOf];omega⟩
    ·clear d
     go_wp2;go_ret;have l:=s.out;rw[Ro]at l
     ·exact⟨by rw[l];rfl,f⟩
     ·rintro(⟨q,p,h⟩|h)
      ·exact C.out q (by omega) p ⟨p,h⟩
      ·exact M.out h
def P6:((Tryz.prog).info? 3).map (λi=>(i.zero,i.size,i.bytes))=some (some (.int .i64 0),1,8):=by kernel_rfl
def Gt(fs):((Qs fs).info? 3).map (λi=>(i.zero,i.size,i.bytes))=some (some (.int .i64 0),1,8):=P6
def dP{base e b n:Nat}{w:World}{v xs}(h:w.ownsRow base e b v n xs):∀k,v.ownBlock=some k->base<=k:=by
 intro k a;obtain⟨rfl,_⟩|⟨g,cap,c,rfl,d,_⟩:=h.2
 ·cases a
 ·cases a;exact d
def Bw{d:Type}{base e b:Nat}{w:World}{v:Value}{l:List d}{xs:List Value}{E:(Nat->Prop)->World->Nat->Nat->d->Prop}(h:w.ownsRow base e b v l.length xs)
 (f:∀g:Nat,(∀i,i<l.length*b->w.cell? ⟨g,i,none⟩=xs[i]?)->∀k (c:k<l.length),E (λ_=>True) w g (k*b) l[k]):aB (λ_=>True) b E w v l:=by
 have j:=h;obtain⟨rfl,m⟩|⟨g,cap,n,rfl,s,o,p,q,t,u⟩:=h.2
 ·refine⟨none,0,by rw[m],by omega,by omega,?_,?_⟩
  ·intro a e;cases e
  ·intro k c;omega
 ·refine⟨_,_,rfl,p,q,?_,?_⟩
  ·intro a e;cases e;exact⟨rfl,trivial,_,_,_,o⟩
  ·intro k c
   refine⟨g,0,rfl,?_⟩;rw[RB];exact f g (λi r=>j.cellAt i r) k c
def uX{base w v l}(h:w.ownsRow base 3 1 v l.length (l.map (Value.int .i64))):aB (λ_=>True) 1 dn w v l:=Bw h λg a k b=>by show w.cell? ⟨g,k*1,none⟩=_;rw[a _ (by omega)];simp[b]
def JL{K:Nat->Prop}{v0 v1:Value}{l m:List Int}(w:World)(F:aB K 1 dn w v0 l)(E:aB K 1 dn w v1 m)(P:l.length<=40):Calls (Qs fs) 141 #[v0,v1] w λe w'=>∃v,e=.returned v/\w'.ownsRow w.heap.size 3 1 v (bn l m).length ((bn l m).map (Value.int .i64))/\Below w.heap.size w w':=by
 have PO:=PO L;obtain⟨G,H,A,B,C⟩:=info_parts (Gt fs);have D:=E;obtain⟨ao,c,rfl,I,Q,_,f⟩:=F;obtain⟨J,c1,rfl,_⟩:=E;go_enter (n141 L),Tryz.ntmps141;go_wp2;go_loopw [5,6] (λo i wr=>∃j:Nat,j<=l.length/\i=.int .i64 j/\wr.ownsRow w.heap.size 3 1 o (bn (l.take j) m).length ((bn (l.take j) m).map (Value.int .i64))/\Below w.heap.size w wr) (λo i _=>l.length-(intOf i).toNat)
 case atStart=>exact⟨0,RA _,rfl,World.ownsRow_nil _ _ _ _,Below.refl _ _⟩
 case round=>
  obtain⟨j,R,rfl,d,a⟩:=hrel;obtain n|hge:=Ry j l.length
  ·obtain⟨b,M,rfl,t⟩:=f j n
   rw[SG]at t;have g:=ae.below a;have N:=g.cell t;have y:=JI L l[j] wr (D.stays g (λb S o x e h=>by subst e;exact dn.carry (Carry.keep g) b b o x rfl h));have O:(bn (l.take j) m).length<=j:=Rr (SL _ _) (by rw[R9];omega);cases z:m.contains l[j]with
   |true=>
    rw[z]at y;clear f t g D;go_wp2_with (first|(go_at_call 167;refine y.mono ?_;rintro e w3 ⟨rfl,rfl⟩))
    have k:bn (l.take (j+1)) m=bn (l.take j) m:=by unfold bn;rw[nz _ _ _ n,z];simp
    exact⟨⟨j+1,by omega,by go_num,by rw[k];exact d,a⟩,by simp[intOf];omega⟩
   |false=>
    rw[z]at y;clear f t g D;go_wp2_with (first|(go_at_call 167;refine y.mono ?_;rintro e w3 ⟨rfl,rfl⟩)|(at_builtin;refine wpList_append_own _ rfl _ _ 36 rfl w.heap.size 3 G (.int .i64 0) 1 8 Tryz.underlying36 H A B C rfl (by decide) _ _ _ rfl (d.alloc _) ⟨_,0,none⟩ 1 1 [.int .i64 l[j]] rfl rfl ?c1 ?c2 ?c3 ?c4 ?c5 ?_))
    case c1=>
     intro i u p
     match i,p with
     |0,p=>simp at p;subst p;simp[Addr.add]
    case c2=>intro u p;simp at p;subst p;rfl
    case c3=>unfold maxLen;omega
    case c4=>omega
    case c5=>have:=a.size;simp;omega
    intro T w4 q r _;have k:bn (l.take (j+1)) m=bn (l.take j) m++[l[j]]:=by unfold bn;rw[nz _ _ _ n,z];simp
    have s:=(a.alloc a.size (.cells #[.int .i64 l[j]] 3)).grown r (by have:=a.size;simp;omega) (dP d);go_wp2;exact⟨⟨j+1,by omega,by go_num,by rw[k,RM,TA];exact q,s⟩,by simp[intOf];omega⟩
  ·go_wp2
   go_ret;rw[Uh hge]at d;exact⟨_,rfl,d,a⟩
def m9(x y:List Int)(k:Nat):Nat:=((List.range k).map λ(n:Nat)=>min (aN x n) (aN y n)).sum
def uY(x y k):m9 x y (k+1)=m9 x y k+min (aN x k) (aN y k):=by unfold m9;rw[T6,TA,List.sum_append];simp
def BD(x y k):m9 x y k<=k*x.length:=by
 induction k with
 |zero=>simp[m9]
 |succ k a=>rw[uY,Nat.succ_mul];have:aN x k<=x.length:=SL _ _;omega
def tD(a b)(c:a≠[])(d:b≠[]):bS a b=(100*(2*(a.length-(bn a b).length)+m9 (bn a b) (bn b a) 10:Nat):Int)/(a.length+b.length:Nat):=by unfold bS;rw[Ro (by simp[c,d])];rfl
def qz(a b)(h:a=[]\/b=[]):bS a b=0:=by unfold bS;rw[Rp (by rcases h with rfl|rfl<;>simp)]
def Hh{K:Nat->Prop}{v0 v1:Value}{l m:List Int}(w:World)(Q:aB K 1 dn w v0 l)(R:aB K 1 dn w v1 m)(I:l.length<=40)(hm:m.length<=40)(A:∀x∈l,0<=x/\x<=999)(B:∀x∈m,0<=x/\x<=999):Calls (Qs fs) 119 #[v0,v1] w λe w'=>e=.returned (.int .i64 (bS l m))/\Below w.heap.size w w':=by
 have PH:=PH L;have PI:=PI L;have G:=λJ f v=>JL L (K:=K) (v0:=v0) (v1:=v1) (l:=l) (m:=m) J f v I;have H:=λJ f v=>JL L (K:=K) (v0:=v1) (v1:=v0) (l:=m) (m:=l) J f v hm;have M:=Q;have N:=R;obtain⟨ao,c,rfl,aa,hc,_,j⟩:=Q;obtain⟨ab,O,rfl,S,ad,_,g⟩:=R;clear j g;obtain n|hlp:=SF l.length
 ·have n:=Tb.1 n
  subst n;clear G H;go_enter (n119 L),Tryz.ntmps119;go_wp2_with fail
  go_ret;exact⟨by rw[qz _ _ (.inl rfl)];rfl,Below.refl _ _⟩
 obtain p|hmp:=SF m.length
 ·have p:=Tb.1 p
  subst p;clear G H;go_enter (n119 L),Tryz.ntmps119;go_wp2_with fail
  all_goals
   go_ret;exact⟨by rw[qz _ _ (.inr rfl)];rfl,Below.refl _ _⟩
 have T:Hid _:=tD l m (SY.1 hlp) (SY.1 hmp);have U:∀x∈bn l m,0<=x/\x<=999:=λx f=>A x (TN.1 f).1;have V:∀x∈bn m l,0<=x/\x<=999:=λx f=>B x (TN.1 f).1;have q:(bn l m).length<=l.length:=SL _ _;have af:¬l=[]:=SY.1 hlp;have ag:((l.length:Int)==0)=false:=by rw[R2];omega
 have ak:¬m=[]:=SY.1 hmp;have al:((m.length:Int)==0)=false:=by rw[R2];omega
 clear A B;have O:=G w M N;go_enter (n119 L),Tryz.ntmps119;go_wp2_with (first|(go_at_call 141;refine O.mono ?_;clear O G;rintro e w2 ⟨x,rfl,f,a⟩;have W:=H w2 (N.stays (ae.below a) (λb X o x e h=>by subst e;exact dn.carry (Carry.keep (ae.below a)) b b o x rfl h)) (M.stays (ae.below a) (λb X o x e h=>by subst e;exact dn.carry (Carry.keep (ae.below a)) b b o x rfl h)))|(go_at_call 141;refine W.mono ?_;clear W H;rintro e w3 ⟨y,rfl,v,r⟩))
 have P:=ae.below r;have C:=(uX f).stays P (λb X o x e h=>by subst e;exact dn.carry (Carry.keep P) b b o x rfl h);have D:=uX v;have B3:=a.trans (r.mono a.size);clear f v a r M N P;obtain⟨xs,t⟩:=ex (bn l m);obtain⟨z,u⟩:=ex (bn m l);rw[<-t,<-u]at T;rw[<-t]at C U q;rw[<-u]at D V;clear t u;obtain⟨ax,cx,rfl,_⟩:=id C;obtain⟨ay,cy,rfl,_⟩:=id D
 go_loop [7,8] (λs i=>∃k:Nat,k<=10/\i=.int .i64 k/\s=.int .i64 (m9 xs z k)) (λs i=>10-(intOf i).toNat)
 case atStart=>exact⟨0,by omega,rfl,rfl⟩
 case round=>
  obtain⟨k,hk,rfl,rfl⟩:=hrel;have E:=BD xs z k;have Y:m9 xs z k<=400:=Rr E (Rr (Nat.mul_le_mul hk (Rr q I)) (by omega));obtain an|hge:=Ry k 10
  ·have Z:=uV L (k:Int) w3 C U
   have cY:=uV L (k:Int) w3 D V;have ar:aN xs k<=40:=Rr (SL _ _) (Rr q I);have d:=uY xs z k;have HS:Hid _:=d;clear d E C D;go_wp2_with (first|(go_at_call 142;refine Z.mono ?_;clear Z;rintro e w4 ⟨rfl,rfl⟩)|(go_at_call 142;refine cY.mono ?_;rintro e w4 ⟨rfl,rfl⟩))
   refine⟨⟨k+1,by omega,by go_num,?_⟩,by simp[intOf];omega⟩;rw[HS.out];refine R6 (Value.int .i64) ?_;split<;>omega
  ·have F:k=10:=by omega
   subst F;clear C D;go_wp2;go_ret;have e1:(2*((l.length:Int)-xs.length)+m9 xs z 10)=((2*(l.length-xs.length)+m9 xs z 10:Nat):Int):=by omega
   have e2:((l.length:Int)+m.length)=((l.length+m.length:Nat):Int):=by omega
   refine⟨?_,B3⟩;rw[T.out,<-e1,<-e2];rfl
end Go.Proofs

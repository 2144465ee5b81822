import Derived.Test.YtaglpcmhopjebaaGreatDoorZ34
import Derived.Test.YtaglpcmhopjebaaGreatDoorZ37
set_option linter.all false
set_option maxRecDepth 100000
set_option maxHeartbeats 20000000
namespace Go.Proofs
open Go.Tm Go.RowKit
variable {fs:Array Func} (L:bX fs)
def dv(k c:Int):Bool:=(k==1&&c !=0)||(k !=1&& !au c 97 122)
def fD(n:Nat)(k:Int):Int:=if k=0 then(n:Int)else n-1
def rU(p:Int)(q:Option Ed):Bool:=q.any λq=>decide (p<q.1)||(decide (p=q.1)&&decide (q.2.1≠0))
def Eb(n seen p k c):iE n seen (p,k,c)=if !au k 0 2 then 1 else if !au p 0 (fD n k)then 6 else if dv k c then 3 else if rU p seen.getLast? then 7 else 0:=by
 unfold iE dv fD rU;simp only[];have e1:decide (k≠1)=(k !=1):=by by_cases h:k=1<;>simp[h]
 have a:decide (c≠0)=(c !=0):=by by_cases h:c=0<;>simp[h]
 have h:(decide (k=1)&&decide (c≠0)||decide (k≠1)&& !au c 97 122)=(k==1&&c !=0||k !=1&& !au c 97 122):=by rw[e1,a];rfl
 rw[<-h]
def oS(p)(l:List Ed):rU p (l.take 0).getLast?=false:=rfl
def oT(p)(l:List Ed)(i)(a:i<l.length):rU p (l.take (i+1)).getLast?=(decide (p<l[i].1)||(decide (p=l[i].1)&&decide (l[i].2.1≠0))):=by rw[Tn a,VE];rfl
def QK(k:Int)(h:¬k<0)(a:¬2<k):k=0\/k=1\/k=2:=by omega
def Bl{K:Nat->Prop}{v:Value}{l:List (Int×Int×Int)}(a:ByteArray)(w:World)(ad:aE K 3 (dI .u8) w v l)(a8:a.size<1000000):
 Calls (Qs fs) 92 #[.string a,v] w λe w'=>e=.returned (.int .i64 (et a.size l))/\Below w.heap.size w w':=by
 have e60:=e60 L;have HV:Hid (et a.size l=nh 0 96 (nK (iE a.size) l) l.length):=(Cy 0 96 (λj hj=>fI _ l j hj)).symm;obtain⟨ao,cc,rfl,ba,bb,bd,P⟩:=ad;by_cases af:96<l.length
 ·have g1:(96:Int)<(l.length:Int):=by omega
  have C:Hid (nh 0 96 (nK (iE a.size) l) l.length=2):=by unfold Hid nh au;rw[Rr (show ¬(l.length:Int)<=96 by omega),UB];rfl
  clear P af;go_enter (n92 L),Tryz.ntmps92;go_wp2;go_ret;exact⟨by rw[HV.out,C.out];rfl,Below.refl _ _⟩
 ·have g1:decide ((96:Int)<(l.length:Int))=false:=Rr (by omega)
  have C:Hid (nh 0 96 (nK (iE a.size) l) l.length=df (nK (iE a.size) l) l.length 0):=by unfold Hid nh au;rw[Ry (show(l.length:Int)<=96 by omega),Ry (show(0:Int)<=(l.length:Int) by omega)];rfl
  have HC:Hid _:=P;have bk:IntKind.i64.wrap ((a.size:Int)-1)=(a.size:Int)-1:=wrap_i64 _ (by omega);obtain⟨r,aa⟩:=ex (nK (iE a.size) l);rw[<-aa]at C HV;have a1:Hid (∀j (hj:j<l.length),r j=iE a.size (l.take j) l[j]):=λj hj=>by rw[aa];exact fI _ l j hj
  clear P af aa;go_enter (n92 L),Tryz.ntmps92;go_wp2;go_loopw [5] (λs wr=>∃j:Nat,j<=l.length/\s=.int .i64 j/\Below w.heap.size w wr/\df r l.length 0=df r (l.length-j) j) (λs _=>l.length-(intOf s).toNat)
  case atStart=>exact⟨0,Rz _,rfl,Below.refl _ _,rfl⟩
  case round=>
   obtain⟨j,hj,rfl,z,x⟩:=hrel;have g:Hid _:=z;have a6:Hid _:=x;obtain ag|hge:=Rv j l.length
   ·obtain⟨b,bm,rfl,x0,x1,x2⟩:=HC.out j ag
    have d:=ae.below z;have x0:=d.cell x0;have x1:=d.cell x1;have x2:=d.cell x2;have bo:(j:Int)<(l.length:Int):=by omega
    obtain⟨⟨p,k,c⟩,he⟩:∃e,e=l[j]:=⟨_,rfl⟩
    have o:Hid (r j=if !au k 0 2 then 1 else if !au p 0 (fD a.size k)then 6 else if dv k c then 3 else if rU p (l.take j).getLast? then 7 else 0):=by rw[Hid,a1.out j ag,<-he];exact Eb _ _ _ _ _
    rw[<-he]at x0 x1 x2;simp only[]at x0 x1 x2;have O:Hid (r j≠0->df r l.length 0=r j):=λh=>x.trans (pq h (by omega));have V:Hid (r j=0->df r l.length 0=df r (l.length-(j+1)) (j+1)):=λh=>x.trans (pn h (by omega));by_cases S:k<0
    ·have A:au k 0 2=false:=by unfold au;rw[Rr (by omega:¬(0:Int)<=k)];rfl
     have m:Hid (r j=1):=by rw[Hid,o.out];rw[A];rfl
     clear x z d;go_wp2;go_ret;exact⟨by rw[HV.out,C.out,O.out (by rw[m.out];decide),m.out];rfl,by first|exact g.out.alloc g.out.size _|exact(g.out.alloc g.out.size _).bh _⟩
    ·by_cases W:2<k
     ·have A:au k 0 2=false:=by unfold au;rw[Rr (by omega:¬k<=(2:Int)),UB]
      have a7:decide (k<0)=false:=Rr S;have m:Hid (r j=1):=by rw[Hid,o.out];rw[A];rfl
      clear S A;clear x z d;go_wp2;go_ret;exact⟨by rw[HV.out,C.out,O.out (by rw[m.out];decide),m.out];rfl,by first|exact g.out.alloc g.out.size _|exact(g.out.alloc g.out.size _).bh _⟩
     ·obtain rfl|rfl|rfl:=QK k S W
      ·have A:au (0:Int) 0 2=true:=rfl
       have D:fD a.size 0=(a.size:Int):=rfl;have f:=λwx=>Mp L p 0 (a.size:Int) wx;rw[A,D]at o;clear S W A D;cases E:au p 0 (a.size:Int)with
       |false=>
        rw[E]at f o;have m:Hid (r j=6):=by rw[Hid,o.out];rfl
        clear x z d;go_wp2_with (first|(go_at_call 60;refine(f _).mono ?_;clear f;rintro e w3 ⟨rfl,rfl⟩))
        go_ret;exact⟨by rw[HV.out,C.out,O.out (by rw[m.out];decide),m.out];rfl,by first|exact g.out.alloc g.out.size _|exact(g.out.alloc g.out.size _).bh _⟩
       |true=>
        rw[E]at f o;by_cases Q:c<97
        ·have B:dv 0 c=true:=by unfold dv au;rw[Rr (by omega:¬(97:Int)<=c)];rfl
         have m:Hid (r j=3):=by rw[Hid,o.out];rw[B];rfl
         clear x z d;go_wp2_with (first|(go_at_call 60;refine(f _).mono ?_;clear f;rintro e w3 ⟨rfl,rfl⟩))
         go_ret;exact⟨by rw[HV.out,C.out,O.out (by rw[m.out];decide),m.out];rfl,by first|exact g.out.alloc g.out.size _|exact(g.out.alloc g.out.size _).bh _⟩
        ·have ak:decide (c<97)=false:=Rr Q
         by_cases T:122<c
         ·have B:dv 0 c=true:=by unfold dv au;rw[Rr (by omega:¬c<=(122:Int)),UB];rfl
          have m:Hid (r j=3):=by rw[Hid,o.out];rw[B];rfl
          clear Q;clear x z d;go_wp2_with (first|(go_at_call 60;refine(f _).mono ?_;clear f;rintro e w3 ⟨rfl,rfl⟩))
          go_ret;exact⟨by rw[HV.out,C.out,O.out (by rw[m.out];decide),m.out];rfl,by first|exact g.out.alloc g.out.size _|exact(g.out.alloc g.out.size _).bh _⟩
         ·have al:decide (122<c)=false:=Rr T
          have B:dv 0 c=false:=by unfold dv au;rw[Ry (by omega:(97:Int)<=c),Ry (by omega:c<=(122:Int))];rfl
          clear Q T;cases j with
          |zero=>
           have m:Hid (r 0=0):=by rw[Hid,o.out];rw[B,oS];rfl
           simp only[Ug,Sq]at x0 x1 x2;clear x z d B;go_wp2_with (first|(go_at_call 60;refine(f _).mono ?_;clear f;rintro e w3 ⟨rfl,rfl⟩))
           go_quiet (fail);go_wp2;exact⟨⟨0+1,by omega,by go_num,by first|exact g.out.alloc g.out.size _|exact(g.out.alloc g.out.size _).bh _,V.out m.out⟩,by simp[intOf];omega⟩
          |succ i=>
           have X:i<l.length:=by omega
           obtain⟨b',Y,U,F,G,R⟩:=HC.out i X;cases U;have F:=d.cell F;have G:=d.cell G;have R:=d.cell R;obtain⟨⟨H,I,c'⟩,J⟩:∃e,e=l[i]:=⟨_,rfl⟩
           have y:=oT p l i X;rw[<-J]at F G R y;simp only[]at F G R y;have an:(0:Int)<(i:Int)+1:=by omega
           have ar:(i:Int)<(l.length:Int):=by omega
           have ax:IntKind.i64.wrap ((i:Int)+1-1)=(i:Int):=by rw[Ve];exact wrap_i64 _ (by omega)
           have Z:IntKind.i64.wrap (i:Int)=(i:Int):=wrap_i64 _ (by omega);have ay:=λob=>(ae.alloc wr ob).cell F;have aM:=λob=>(ae.alloc wr ob).cell G;rw[B,y]at o;clear y J B;by_cases t:p<H
           ·rw[Ry t]at o
            have m:Hid (r (i+1)=7):=by rw[Hid,o.out];rfl
            clear x z d;go_wp2_with (first|(go_at_call 60;refine(f _).mono ?_;clear f;rintro e w3 ⟨rfl,rfl⟩))
            go_quiet (fail);go_wp2;go_ret;exact⟨by rw[HV.out,C.out,O.out (by rw[m.out];decide),m.out];rfl,by first|exact g.out.alloc g.out.size _|exact(g.out.alloc g.out.size _).bh _⟩
           ·have u:decide (p<H)=false:=Rr t
            by_cases n:p=H
            ·have M:(p==H)=true:=by simpa using n
             by_cases q:I=0
             ·have N:(I !=0)=false:=by simpa using q
              rw[u,Ry n,Rr (by simpa using q:¬I≠0)]at o;have m:Hid (r (i+1)=0):=by rw[Hid,o.out];rfl
              clear x z d t n q;go_wp2_with (first|(go_at_call 60;refine(f _).mono ?_;clear f;rintro e w3 ⟨rfl,rfl⟩))
              go_quiet (fail);go_wp2;exact⟨⟨i+1+1,by omega,by go_num,by first|exact g.out.alloc g.out.size _|exact(g.out.alloc g.out.size _).bh _,V.out m.out⟩,by simp[intOf];omega⟩
             ·have N:(I !=0)=true:=by simpa using q
              rw[u,Ry n,Ry (by simpa using q:I≠0)]at o;have m:Hid (r (i+1)=7):=by rw[Hid,o.out];rfl
              clear x z d t n q;go_wp2_with (first|(go_at_call 60;refine(f _).mono ?_;clear f;rintro e w3 ⟨rfl,rfl⟩))
              go_quiet (fail);go_wp2;go_ret;exact⟨by rw[HV.out,C.out,O.out (by rw[m.out];decide),m.out];rfl,by first|exact g.out.alloc g.out.size _|exact(g.out.alloc g.out.size _).bh _⟩
            ·have M:(p==H)=false:=by simpa using n
             rw[u,Rr n]at o;have m:Hid (r (i+1)=0):=by rw[Hid,o.out];rfl
             clear x z d t n;go_wp2_with (first|(go_at_call 60;refine(f _).mono ?_;clear f;rintro e w3 ⟨rfl,rfl⟩))
             go_quiet (fail);go_wp2;exact⟨⟨i+1+1,by omega,by go_num,by first|exact g.out.alloc g.out.size _|exact(g.out.alloc g.out.size _).bh _,V.out m.out⟩,by simp[intOf];omega⟩
      ·have A:au (1:Int) 0 2=true:=rfl
       have D:fD a.size 1=((a.size:Int)-1):=by unfold fD;rw[Rm (by decide)]
       have f:=λwx=>Mp L p 0 ((a.size:Int)-1) wx;rw[A,D]at o;clear S W A D;cases E:au p 0 ((a.size:Int)-1)with
       |false=>
        rw[E]at f o;have m:Hid (r j=6):=by rw[Hid,o.out];rfl
        clear x z d;go_wp2_with (first|(go_at_call 60;refine(f _).mono ?_;clear f;rintro e w3 ⟨rfl,rfl⟩))
        go_ret;exact⟨by rw[HV.out,C.out,O.out (by rw[m.out];decide),m.out];rfl,by first|exact g.out.alloc g.out.size _|exact(g.out.alloc g.out.size _).bh _⟩
       |true=>
        rw[E]at f o;by_cases hc:c=0
        ·have ab:(c !=0)=false:=by simpa using hc
         have B:dv 1 c=false:=by unfold dv;rw[ab];rfl
         clear hc;cases j with
         |zero=>
          have m:Hid (r 0=0):=by rw[Hid,o.out];rw[B,oS];rfl
          simp only[Ug,Sq]at x0 x1 x2;clear x z d B;go_wp2_with (first|(go_at_call 60;refine(f _).mono ?_;clear f;rintro e w3 ⟨rfl,rfl⟩))
          go_quiet (fail);go_wp2;exact⟨⟨0+1,by omega,by go_num,by first|exact g.out.alloc g.out.size _|exact(g.out.alloc g.out.size _).bh _,V.out m.out⟩,by simp[intOf];omega⟩
         |succ i=>
          have X:i<l.length:=by omega
          obtain⟨b',Y,U,F,G,R⟩:=HC.out i X;cases U;have F:=d.cell F;have G:=d.cell G;have R:=d.cell R;obtain⟨⟨H,I,c'⟩,J⟩:∃e,e=l[i]:=⟨_,rfl⟩
          have y:=oT p l i X;rw[<-J]at F G R y;simp only[]at F G R y;have an:(0:Int)<(i:Int)+1:=by omega
          have ar:(i:Int)<(l.length:Int):=by omega
          have ax:IntKind.i64.wrap ((i:Int)+1-1)=(i:Int):=by rw[Ve];exact wrap_i64 _ (by omega)
          have Z:IntKind.i64.wrap (i:Int)=(i:Int):=wrap_i64 _ (by omega);have ay:=λob=>(ae.alloc wr ob).cell F;have aM:=λob=>(ae.alloc wr ob).cell G;rw[B,y]at o;clear y J B;by_cases t:p<H
          ·rw[Ry t]at o
           have m:Hid (r (i+1)=7):=by rw[Hid,o.out];rfl
           clear x z d;go_wp2_with (first|(go_at_call 60;refine(f _).mono ?_;clear f;rintro e w3 ⟨rfl,rfl⟩))
           go_quiet (fail);go_wp2;go_ret;exact⟨by rw[HV.out,C.out,O.out (by rw[m.out];decide),m.out];rfl,by first|exact g.out.alloc g.out.size _|exact(g.out.alloc g.out.size _).bh _⟩
          ·have u:decide (p<H)=false:=Rr t
           by_cases n:p=H
           ·have M:(p==H)=true:=by simpa using n
            by_cases q:I=0
            ·have N:(I !=0)=false:=by simpa using q
             rw[u,Ry n,Rr (by simpa using q:¬I≠0)]at o;have m:Hid (r (i+1)=0):=by rw[Hid,o.out];rfl
             clear x z d t n q;go_wp2_with (first|(go_at_call 60;refine(f _).mono ?_;clear f;rintro e w3 ⟨rfl,rfl⟩))
             go_quiet (fail);go_wp2;exact⟨⟨i+1+1,by omega,by go_num,by first|exact g.out.alloc g.out.size _|exact(g.out.alloc g.out.size _).bh _,V.out m.out⟩,by simp[intOf];omega⟩
            ·have N:(I !=0)=true:=by simpa using q
             rw[u,Ry n,Ry (by simpa using q:I≠0)]at o;have m:Hid (r (i+1)=7):=by rw[Hid,o.out];rfl
             clear x z d t n q;go_wp2_with (first|(go_at_call 60;refine(f _).mono ?_;clear f;rintro e w3 ⟨rfl,rfl⟩))
             go_quiet (fail);go_wp2;go_ret;exact⟨by rw[HV.out,C.out,O.out (by rw[m.out];decide),m.out];rfl,by first|exact g.out.alloc g.out.size _|exact(g.out.alloc g.out.size _).bh _⟩
           ·have M:(p==H)=false:=by simpa using n
            rw[u,Rr n]at o;have m:Hid (r (i+1)=0):=by rw[Hid,o.out];rfl
            clear x z d t n;go_wp2_with (first|(go_at_call 60;refine(f _).mono ?_;clear f;rintro e w3 ⟨rfl,rfl⟩))
            go_quiet (fail);go_wp2;exact⟨⟨i+1+1,by omega,by go_num,by first|exact g.out.alloc g.out.size _|exact(g.out.alloc g.out.size _).bh _,V.out m.out⟩,by simp[intOf];omega⟩
        ·have ab:(c !=0)=true:=by simpa using hc
         have B:dv 1 c=true:=by unfold dv;rw[ab];rfl
         clear hc;have m:Hid (r j=3):=by rw[Hid,o.out];rw[B];rfl
         clear x z d;go_wp2_with (first|(go_at_call 60;refine(f _).mono ?_;clear f;rintro e w3 ⟨rfl,rfl⟩))
         go_ret;exact⟨by rw[HV.out,C.out,O.out (by rw[m.out];decide),m.out];rfl,by first|exact g.out.alloc g.out.size _|exact(g.out.alloc g.out.size _).bh _⟩
      ·have A:au (2:Int) 0 2=true:=rfl
       have D:fD a.size 2=((a.size:Int)-1):=by unfold fD;rw[Rm (by decide)]
       have f:=λwx=>Mp L p 0 ((a.size:Int)-1) wx;rw[A,D]at o;clear S W A D;cases E:au p 0 ((a.size:Int)-1)with
       |false=>
        rw[E]at f o;have m:Hid (r j=6):=by rw[Hid,o.out];rfl
        clear x z d;go_wp2_with (first|(go_at_call 60;refine(f _).mono ?_;clear f;rintro e w3 ⟨rfl,rfl⟩))
        go_ret;exact⟨by rw[HV.out,C.out,O.out (by rw[m.out];decide),m.out];rfl,by first|exact g.out.alloc g.out.size _|exact(g.out.alloc g.out.size _).bh _⟩
       |true=>
        rw[E]at f o;by_cases Q:c<97
        ·have B:dv 2 c=true:=by unfold dv au;rw[Rr (by omega:¬(97:Int)<=c)];rfl
         have m:Hid (r j=3):=by rw[Hid,o.out];rw[B];rfl
         clear x z d;go_wp2_with (first|(go_at_call 60;refine(f _).mono ?_;clear f;rintro e w3 ⟨rfl,rfl⟩))
         go_ret;exact⟨by rw[HV.out,C.out,O.out (by rw[m.out];decide),m.out];rfl,by first|exact g.out.alloc g.out.size _|exact(g.out.alloc g.out.size _).bh _⟩
        ·have ak:decide (c<97)=false:=Rr Q
         by_cases T:122<c
         ·have B:dv 2 c=true:=by unfold dv au;rw[Rr (by omega:¬c<=(122:Int)),UB];rfl
          have m:Hid (r j=3):=by rw[Hid,o.out];rw[B];rfl
          clear Q;clear x z d;go_wp2_with (first|(go_at_call 60;refine(f _).mono ?_;clear f;rintro e w3 ⟨rfl,rfl⟩))
          go_ret;exact⟨by rw[HV.out,C.out,O.out (by rw[m.out];decide),m.out];rfl,by first|exact g.out.alloc g.out.size _|exact(g.out.alloc g.out.size _).bh _⟩
         ·have al:decide (122<c)=false:=Rr T
          have B:dv 2 c=false:=by unfold dv au;rw[Ry (by omega:(97:Int)<=c),Ry (by omega:c<=(122:Int))];rfl
          clear Q T;cases j with
          |zero=>
           have m:Hid (r 0=0):=by rw[Hid,o.out];rw[B,oS];rfl
           simp only[Ug,Sq]at x0 x1 x2;clear x z d B;go_wp2_with (first|(go_at_call 60;refine(f _).mono ?_;clear f;rintro e w3 ⟨rfl,rfl⟩))
           go_quiet (fail);go_wp2;exact⟨⟨0+1,by omega,by go_num,by first|exact g.out.alloc g.out.size _|exact(g.out.alloc g.out.size _).bh _,V.out m.out⟩,by simp[intOf];omega⟩
          |succ i=>
           have X:i<l.length:=by omega
           obtain⟨b',Y,U,F,G,R⟩:=HC.out i X;cases U;have F:=d.cell F;have G:=d.cell G;have R:=d.cell R;obtain⟨⟨H,I,c'⟩,J⟩:∃e,e=l[i]:=⟨_,rfl⟩
           have y:=oT p l i X;rw[<-J]at F G R y;simp only[]at F G R y;have an:(0:Int)<(i:Int)+1:=by omega
           have ar:(i:Int)<(l.length:Int):=by omega
           have ax:IntKind.i64.wrap ((i:Int)+1-1)=(i:Int):=by rw[Ve];exact wrap_i64 _ (by omega)
           have Z:IntKind.i64.wrap (i:Int)=(i:Int):=wrap_i64 _ (by omega);have ay:=λob=>(ae.alloc wr ob).cell F;have aM:=λob=>(ae.alloc wr ob).cell G;rw[B,y]at o;clear y J B;by_cases t:p<H
           ·rw[Ry t]at o
            have m:Hid (r (i+1)=7):=by rw[Hid,o.out];rfl
            clear x z d;go_wp2_with (first|(go_at_call 60;refine(f _).mono ?_;clear f;rintro e w3 ⟨rfl,rfl⟩))
            go_quiet (fail);go_wp2;go_ret;exact⟨by rw[HV.out,C.out,O.out (by rw[m.out];decide),m.out];rfl,by first|exact g.out.alloc g.out.size _|exact(g.out.alloc g.out.size _).bh _⟩
           ·have u:decide (p<H)=false:=Rr t
            by_cases n:p=H
            ·have M:(p==H)=true:=by simpa using n
             by_cases q:I=0
             ·have N:(I !=0)=false:=by simpa using q
              rw[u,Ry n,Rr (by simpa using q:¬I≠0)]at o;have m:Hid (r (i+1)=0):=by rw[Hid,o.out];rfl
              clear x z d t n q;go_wp2_with (first|(go_at_call 60;refine(f _).mono ?_;clear f;rintro e w3 ⟨rfl,rfl⟩))
              go_quiet (fail);go_wp2;exact⟨⟨i+1+1,by omega,by go_num,by first|exact g.out.alloc g.out.size _|exact(g.out.alloc g.out.size _).bh _,V.out m.out⟩,by simp[intOf];omega⟩
             ·have N:(I !=0)=true:=by simpa using q
              rw[u,Ry n,Ry (by simpa using q:I≠0)]at o;have m:Hid (r (i+1)=7):=by rw[Hid,o.out];rfl
              clear x z d t n q;go_wp2_with (first|(go_at_call 60;refine(f _).mono ?_;clear f;rintro e w3 ⟨rfl,rfl⟩))
              go_quiet (fail);go_wp2;go_ret;exact⟨by rw[HV.out,C.out,O.out (by rw[m.out];decide),m.out];rfl,by first|exact g.out.alloc g.out.size _|exact(g.out.alloc g.out.size _).bh _⟩
            ·have M:(p==H)=false:=by simpa using n
             rw[u,Rr n]at o;have m:Hid (r (i+1)=0):=by rw[Hid,o.out];rfl
             clear x z d t n;go_wp2_with (first|(go_at_call 60;refine(f _).mono ?_;clear f;rintro e w3 ⟨rfl,rfl⟩))
             go_quiet (fail);go_wp2;exact⟨⟨i+1+1,by omega,by go_num,by first|exact g.out.alloc g.out.size _|exact(g.out.alloc g.out.size _).bh _,V.out m.out⟩,by simp[intOf];omega⟩
   ·clear x z
    go_wp2;go_ret;have hx:=a6.out;rw[show l.length-j=0 by omega]at hx;exact⟨by rw[HV.out,C.out,hx];rfl,g.out⟩
def dW(a:ByteArray)(l:List Ed):Int:=if dm a ⟨#[]⟩=0 then et a.size l else dm a ⟨#[]⟩
def lL(a:ByteArray)(l:List Ed):ByteArray:=if dW a l=0 then bs (db a.data.toList 0 l)else⟨#[]⟩
def xu(fs:Array Func)(w:World)(b a cap:Nat)(xs:List UInt8)(h:∀j (c:j<xs.length),w.cell? ⟨b,a+j,none⟩=some (Value.int .u8 (xs[j].toNat:Int))):
 (convert 120 9 (.slice (some ⟨b,a,none⟩) xs.length cap)).run (Qs fs) w=.ok (.string (bs xs)) w:=
 run_convert_bytes_back (P:=Qs fs) w 120 9 5 ⟨b,a,none⟩ cap xs (by rw[aH];exact Tryz.underlying120) (by rw[aH];exact Tryz.underlying5) (by rw[aH];exact Tryz.underlying9) (λj c=>by rw[de];exact h j c)
def Ln(fs)(w:World)(n)(a:0<=n)(b:n<256):(convert 120 9 (.slice (some ⟨w.heap.size,0,none⟩) 1 1)).run (Qs fs) (w.alloc (.cells #[.int .u8 n] 5))=.ok (.string (bs [byteOf n])) (w.alloc (.cells #[.int .u8 n] 5)):=
 xu fs _ w.heap.size 0 1 [byteOf n] (λj c=>by
  obtain rfl:j=0:=by simpa using c
  have e:((byteOf n).toNat:Int)=n:=fW n a b;show _=some (Value.int .u8 ((byteOf n).toNat:Int));rw[e];exact av w _ 5 0 _ rfl)
def xw(x)(a:ByteArray)(i j):bs x++a.extract i j=bs (x++(a.data.toList.take j).drop i):=by
 rw[lS]
 congr 2
 rw[Wj,UU,List.extract_eq_drop_take,List.drop_take]
def Lo(x y):bs x++bs y=bs (x++y):=by rw[lS,dA]
def Ec(A i p k c l):db A i ((p,k,c)::l)=(A.take p.toNat).drop i++(if k=1 then[]else[byteOf c])++db A (if k=0 then p.toNat else p.toNat+1) l:=rfl
structure qv(A:Bs)(n:Nat)(l:List Ed)(j cur:Nat)(x:Bs):Prop where
 le:cur<=n
 len:x.length<=cur+j
 cu:iT (l.take j)=cur
 rest:kL (iE n) (l.take j) (l.drop j)=0
 is:db A 0 l=x++db A cur (l.drop j)
def qv.start{A:Bs}{n:Nat}{l:List Ed}(h:et n l=0):qv A n l 0 0 [] where
 le:=Rz _
 len:=Rz _
 cu:=rfl
 rest:=by
  unfold et bq at h;split at h
  ·exact h
  ·cases h
 is:=rfl
def qv.step{A n l j cur x}(h:qv A n l j cur x)(m:j<l.length){p k c}(i:(p,k,c)=l[j]):
 ∃P:Nat,p=(P)/\cur<=P/\P<=n/\((k=0/\97<=c/\c<=122/\qv A n l (j+1) P (x++(A.take P).drop cur++[byteOf c]))\/(k=1/\P+1<=n/\qv A n l (j+1) (P+1) (x++(A.take P).drop cur))\/
  (k=2/\P+1<=n/\97<=c/\c<=122/\qv A n l (j+1) (P+1) (x++(A.take P).drop cur++[byteOf c]))):=by
 have o:l.drop j=l[j]::l.drop (j+1):=SD m;have q:l.take (j+1)=l.take j++[l[j]]:=Tn m;have r:=h.rest;rw[o]at r;obtain⟨t,g⟩:=xk _ _ _ _ r;have d:=D8 n _ _ t;rw[<-i]at d;rw[h.cu]at d;obtain⟨f,u,v,e⟩:=d;simp only[]at f u v e;obtain⟨P,rfl⟩:∃P:Nat,p=(P:Int):=⟨p.toNat,by omega⟩
 have b:=h.is;rw[o,<-i,Ec,UP]at b;have a:=jv (l.take j) l[j];rw[<-q,<-i]at a;simp only[]at a;rw[<-q]at g;have s:=h.len;have w:=h.le;have y:((A.take P).drop cur).length<=P-cur:=by rw[RB,R5];omega
 refine⟨P,rfl,by omega,by omega,?_⟩;obtain⟨rfl,f⟩|⟨rfl,f⟩|⟨rfl,f⟩:=f
 ·rw[Rm (by decide)]at e
  rw[Rn rfl]at a;rw[Rm (by decide),Rn rfl]at b;exact .inl ⟨rfl,e.1,e.2,by omega,by simp only[RH,Rq,RE];omega,a,g,by rw[b];simp[R4]⟩
 ·rw[Rm (by decide)]at a
  rw[Rn rfl,Rm (by decide)]at b;exact .inr (.inl ⟨rfl,by omega,by omega,by simp only[RH];omega,by rw[a];omega,g,by rw[b];simp[R4]⟩)
 ·rw[Rm (by decide)]at e
  rw[Rm (by decide)]at a;rw[Rm (by decide),Rm (by decide)]at b;exact .inr (.inr ⟨rfl,by omega,e.1,e.2,by omega,by simp only[RH,Rq,RE];omega,by rw[a];omega,g,by rw[b];simp[R4]⟩)
def qv.done{A n l cur x}(h:qv A n l l.length cur x):db A 0 l=x++A.drop cur:=by rw[h.is,List.drop_length];rfl
def Nt(x)(a:ByteArray)(i):bs x++a.extract i a.size=bs (x++a.data.toList.drop i):=by rw[xw,Lib.size_eq,Tg]
def Lp{K:Nat->Prop}{v:Value}{l:List (Int×Int×Int)}(a:ByteArray)(w:World)(G:aE K 3 (dI .u8) w v l)(Q:a.size<1000000):
 Calls (Qs fs) 48 #[.string a,v] w λe w'=>e=.returned (.tuple #[.string (lL a l),.int .i64 (dW a l)])/\Below w.heap.size w w':=by
 have e87:=e87 L;have e92:=e92 L;have n:=λH=>ug L a ⟨#[]⟩ H Q (by decide);by_cases y:dm a ⟨#[]⟩=0
 ·have u:=Bl L a w G Q
  have q:Hid (dW a l=et a.size l):=Rn y;rw[y]at n;by_cases B:et a.size l=0
  ·have C:Hid (dW a l=0/\lL a l=bs (db a.data.toList 0 l)):=⟨q.out.trans B,Rn (q.out.trans B)⟩
   have g:qv a.data.toList a.size l 0 0 []:=qv.start B;rw[B]at u;have ar:a.size<=48:=by
    unfold dm at y;split at y
    ·cases y
    ·omega
   have ak:l.length<=96:=by
    unfold et bq au at B;split at B
    ·rename_i h
     simp only[RD,RI]at h;omega
    ·cases B
   have Y:=Lib.size_eq a;obtain⟨A,R⟩:=ex (a.data.toList);have I:=λx i j=>xw x a i j;have J:=λx i=>Nt x a i;rw[<-R]at Y g C I J;have HA:Hid _:=Y;have HX:Hid _:=I;have Z:Hid _:=J;obtain⟨ao,cc,rfl,ax,ay,aM,D⟩:=G;have HC:Hid _:=D;have aa:Hid _:=g;clear y B Y R D g I J;go_enter (n48 L),Tryz.ntmps48;go_wp2_with (first|(go_at_call 87;refine(n _).mono ?_;clear n;rintro e w2 ⟨rfl,rfl⟩)|(go_at_call 92;refine u.mono ?_;clear u;rintro e w3 ⟨rfl,M⟩))
   go_loopw [8,9,10] (λo t s wr=>∃(j f:Nat) (x:Bs),j<=l.length/\s=.int .i64 j/\t=.int .i64 f/\o=.string (bs x)/\qv A a.size l j f x/\Below w2.heap.size w2 wr) (λo t s _=>l.length-(intOf s).toNat)
   case atStart=>exact⟨0,0,[],Rz _,rfl,rfl,rfl,aa.out,M⟩
   case round=>
    obtain⟨j,f,x,hj,rfl,rfl,rfl,g,W⟩:=hrel;have O:Hid _:=W;have a1:=g.le;have a6:(bs x).size<=200:=by rw[bW];have:=g.len;omega
    obtain S|hge:=Rv j l.length
    ·obtain⟨b,a7,rfl,X,T,U⟩:=HC.out j S
     have r:=ae.below W;have X:=r.cell X;have T:=r.cell T;have U:=r.cell U;have a8:(j:Int)<(l.length:Int):=by omega
     obtain⟨⟨p,k,c⟩,he⟩:∃e,e=l[j]:=⟨_,rfl⟩
     rw[<-he]at X T U;simp only[]at X T U;obtain⟨P,rfl,ba,bb,N⟩:=g.step S he;have bd:(f:Int)<=(P:Int):=by omega
     have bk:(P:Int)<=(a.size:Int):=by omega
     have V:(a.extract f P).size<=48:=by rw[Tj];omega
     have bm:=HX.out x f P;have al:(bs (x++(A.take P).drop f)).size<=300:=by rw[bW,RH,RB,R5];have:=g.len;omega
     have bo:=λob=>(ae.alloc wr ob).cell T;have br:=λob=>(ae.alloc wr ob).cell U;have bx:(bs [byteOf c]).size<=1:=by rw[bW];exact Ro _
     have m:=λ(H:World) (h0:0<=c) (h1:c<256)=>Ln fs H c h0 h1;clear he g r W;obtain⟨rfl,ab,ad,d⟩|⟨rfl,af,d⟩|⟨rfl,af,ab,ad,d⟩:=N
     ·have m:=λH=>m H (by omega) (by omega)
      have E:Hid _:=d;clear d;go_wp2;exact⟨⟨j+1,P,x++(A.take P).drop f++[byteOf c],by omega,by go_num,rfl,by rw[Lo],E.out,O.out.alloc O.out.size _⟩,by simp[intOf];omega⟩
     ·have E:Hid _:=d
      clear d m;go_wp2;exact⟨⟨j+1,P+1,x++(A.take P).drop f,by omega,by go_num,by go_num,rfl,E.out,O.out⟩,by simp[intOf];omega⟩
     ·have m:=λH=>m H (by omega) (by omega)
      have E:Hid _:=d;clear d;go_wp2;exact⟨⟨j+1,P+1,x++(A.take P).drop f++[byteOf c],by omega,by go_num,by go_num,by rw[Lo],E.out,O.out.alloc O.out.size _⟩,by simp[intOf];omega⟩
    ·obtain rfl:j=l.length:=by omega
     have HD:Hid _:=g.done;have an:(f:Int)<=(a.size:Int):=by omega
     have V:(a.extract f a.size).size<=48:=by rw[Tj];omega
     clear g W;go_wp2
     go_ret2
     exact⟨by rw[C.out.1,C.out.2,HD.out,Z.out];rfl,O.out⟩
  ·have C:Hid (dW a l=et a.size l/\lL a l=⟨#[]⟩):=⟨q.out,Rm (by rw[q.out];exact B)⟩
   obtain⟨z,F⟩:=ex (et a.size l);rw[<-F]at u B C;have ag:(z !=0)=true:=by simpa using B
   clear B F y;go_enter (n48 L),Tryz.ntmps48;go_wp2_with (first|(go_at_call 87;refine(n _).mono ?_;clear n;rintro e w2 ⟨rfl,rfl⟩)|(go_at_call 92;refine u.mono ?_;clear u;rintro e w3 ⟨rfl,M⟩))
   go_ret2
   exact⟨by rw[C.out.1,C.out.2];rfl,M⟩
 ·have q:Hid (dW a l=dm a ⟨#[]⟩):=Rm y
  have C:Hid (dW a l=dm a ⟨#[]⟩/\lL a l=⟨#[]⟩):=⟨q.out,Rm (by rw[q.out];exact y)⟩
  obtain⟨z,F⟩:=ex (dm a ⟨#[]⟩);rw[<-F]at n y C;have ag:(z !=0)=true:=by simpa using y
  clear y F q;go_enter (n48 L),Tryz.ntmps48;go_wp2_with (first|(go_at_call 87;refine(n _).mono ?_;clear n;rintro e w2 ⟨rfl,rfl⟩))
  go_ret2
  exact⟨by rw[C.out.1,C.out.2];rfl,Below.refl _ _⟩
def LG(j:Int)(r:uq)(w:World):Calls (Qs fs) 79 #[.int .i64 j,.agg #[.int .i64 r.kind,.int .i64 r.least,.int .i64 r.plain,.int .i64 r.known]] w λe w'=>e=.returned (.int .i64 (jI [] r))/\Below w.heap.size w w':=by
 have e66:=e66 L;have e63:=e63 L;have e52:=e52 L;have k:Hid (jI [] r=if !au r.kind 0 5|| !au r.least 1 100|| !au r.plain 0 9|| !au r.known 0 9 then 1 else 0):=rfl;obtain⟨w1,b⟩:=ex (w.alloc (.cells #[.int .i64 r.kind,.int .i64 r.least,.int .i64 r.plain,.int .i64 r.known] 69));have s:Below w.heap.size w w1:=by rw[b];exact aF _ _
 have ct:∀i v,(#[.int .i64 r.kind,.int .i64 r.least,.int .i64 r.plain,.int .i64 r.known]:Array Value)[i]? =some v->w1.cell? ⟨w.heap.size,i,none⟩=some v:=λi v h=>by rw[b];exact av w _ 69 i v h
 obtain⟨N,d⟩:=ex (w.heap.size);have t:=ct 0 _ rfl;have u:=ct 1 _ rfl;have x:=ct 2 _ rfl;have y:=ct 3 _ rfl;rw[<-d]at t u x y;have l:Hid _:=s;have c:=λwx=>CF L r.kind wx;have f:∀wx,Calls (Qs fs) 63 #[.int .i64 r.least,.int .i64 1,.int .i64 100] wx λe w'=>e=.returned (.bool (au r.least 1 100))/\w'=wx:=λwx=>b9 fs (n63 L) r.least 1 100 wx;have g:∀wx,Calls (Qs fs) 63 #[.int .i64 r.plain,.int .i64 0,.int .i64 9] wx λe w'=>e=.returned (.bool (au r.plain 0 9))/\w'=wx:=λwx=>b9 fs (n63 L) r.plain 0 9 wx;have m:∀wx,Calls (Qs fs) 63 #[.int .i64 r.known,.int .i64 0,.int .i64 9] wx λe w'=>e=.returned (.bool (au r.known 0 9))/\w'=wx:=λwx=>b9 fs (n63 L) r.known 0 9 wx;obtain⟨z,n⟩:=ex (au r.kind 0 5);obtain⟨A,o⟩:=ex (au r.least 1 100);obtain⟨B,p⟩:=ex (au r.plain 0 9);obtain⟨C,q⟩:=ex (au r.known 0 9);rw[<-n]at c;rw[<-o]at f;rw[<-p]at g;rw[<-q]at m;rw[<-n,<-o,<-p,<-q]at k;clear n o p q ct s;cases z with
 |false=>
  have HV:Hid (jI [] r=1):=by rw[Hid,k.out];rfl
  have a:=λwx=>du L true 1 wx;simp only[RF,RP,RM]at a;go_enter (n79 L),Tryz.ntmps79;go_upto_region 1 with fail;rw[<-b,<-d];clear b d;go_wp2_with (first|(go_at_call 66;refine(c _).mono ?_;clear c;rintro e w2 ⟨rfl,rfl⟩)|(go_at_call 52;refine(a _).mono ?_;rintro e w3 ⟨rfl,rfl⟩))
  go_ret;exact⟨by rw[HV.out];rfl,l.out⟩
 |true=>
  cases A with
  |false=>
   have HV:Hid (jI [] r=1):=by rw[Hid,k.out];rfl
   have a:=λwx=>du L true 1 wx;simp only[RF,RP,RM]at a;go_enter (n79 L),Tryz.ntmps79;go_upto_region 1 with fail;rw[<-b,<-d];clear b d;go_wp2_with (first|(go_at_call 66;refine(c _).mono ?_;clear c;rintro e w2 ⟨rfl,rfl⟩)|(go_at_call 63;refine(f _).mono ?_;clear f;rintro e w2 ⟨rfl,rfl⟩)|(go_at_call 52;refine(a _).mono ?_;rintro e w3 ⟨rfl,rfl⟩))
   go_ret;exact⟨by rw[HV.out];rfl,l.out⟩
  |true=>
   cases B with
   |false=>
    have HV:Hid (jI [] r=1):=by rw[Hid,k.out];rfl
    have a:=λwx=>du L true 1 wx;simp only[RF,RP,RM]at a;go_enter (n79 L),Tryz.ntmps79;go_upto_region 1 with fail;rw[<-b,<-d];clear b d;go_wp2_with (first|(go_at_call 66;refine(c _).mono ?_;clear c;rintro e w2 ⟨rfl,rfl⟩)|(go_at_call 63;refine(f _).mono ?_;clear f;rintro e w2 ⟨rfl,rfl⟩)|(go_at_call 63;refine(g _).mono ?_;clear g;rintro e w2 ⟨rfl,rfl⟩)|(go_at_call 52;refine(a _).mono ?_;rintro e w3 ⟨rfl,rfl⟩))
    go_ret;exact⟨by rw[HV.out];rfl,l.out⟩
   |true=>
    cases C with
    |false=>
     have HV:Hid (jI [] r=1):=by rw[Hid,k.out];rfl
     have a:=λwx=>du L true 1 wx;simp only[RF,RP,RM]at a;go_enter (n79 L),Tryz.ntmps79;go_upto_region 1 with fail;rw[<-b,<-d];clear b d;go_wp2_with (first|(go_at_call 66;refine(c _).mono ?_;clear c;rintro e w2 ⟨rfl,rfl⟩)|(go_at_call 63;refine(f _).mono ?_;clear f;rintro e w2 ⟨rfl,rfl⟩)|(go_at_call 63;refine(g _).mono ?_;clear g;rintro e w2 ⟨rfl,rfl⟩)|(go_at_call 63;refine(m _).mono ?_;clear m;rintro e w2 ⟨rfl,rfl⟩)|(go_at_call 52;refine(a _).mono ?_;rintro e w3 ⟨rfl,rfl⟩))
     go_ret;exact⟨by rw[HV.out];rfl,l.out⟩
    |true=>
     have HV:Hid (jI [] r=0):=by rw[Hid,k.out];rfl
     have a:=λwx=>du L false 1 wx;simp only[RF,RP,RM]at a;go_enter (n79 L),Tryz.ntmps79;go_upto_region 1 with fail;rw[<-b,<-d];clear b d;go_wp2_with (first|(go_at_call 66;refine(c _).mono ?_;clear c;rintro e w2 ⟨rfl,rfl⟩)|(go_at_call 63;refine(f _).mono ?_;clear f;rintro e w2 ⟨rfl,rfl⟩)|(go_at_call 63;refine(g _).mono ?_;clear g;rintro e w2 ⟨rfl,rfl⟩)|(go_at_call 63;refine(m _).mono ?_;clear m;rintro e w2 ⟨rfl,rfl⟩)|(go_at_call 52;refine(a _).mono ?_;rintro e w3 ⟨rfl,rfl⟩))
     go_ret;exact⟨by rw[HV.out];rfl,l.out⟩
def Nz(j n:Int)(w:World):Calls (Qs fs) 83 #[.int .i64 j,.int .i64 n] w λe w'=>e=.returned (.int .i64 (Ey [] n))/\w'=w:=by
 have e63:=e63 L;have e52:=e52 L;have c:Hid (Ey [] n=if !au n 0 9 then 1 else 0):=rfl;have b:∀wx,Calls (Qs fs) 63 #[.int .i64 n,.int .i64 0,.int .i64 9] wx λe w'=>e=.returned (.bool (au n 0 9))/\w'=wx:=λwx=>b9 fs (n63 L) n 0 9 wx;obtain⟨f,d⟩:=ex (au n 0 9);rw[<-d]at b c;clear d;cases f with
 |true=>
  have a:=λwx=>du L false 1 wx;go_enter (n83 L),Tryz.ntmps83;go_wp2_with (first|(go_at_call 63;refine(b _).mono ?_;clear b;rintro e w2 ⟨rfl,rfl⟩)|(go_at_call 52;refine(a _).mono ?_;rintro e w3 ⟨rfl,rfl⟩))
  go_ret;exact⟨by rw[c.out];rfl,rfl⟩
 |false=>
  have a:=λwx=>du L true 1 wx;go_enter (n83 L),Tryz.ntmps83;go_wp2_with (first|(go_at_call 63;refine(b _).mono ?_;clear b;rintro e w2 ⟨rfl,rfl⟩)|(go_at_call 52;refine(a _).mono ?_;rintro e w3 ⟨rfl,rfl⟩))
  go_ret;exact⟨by rw[c.out];rfl,rfl⟩
def Pa(a b):(if a≠0 then a else(if b=true then(5:Int)else 0))=if a≠0 then a else if b=true then 5 else 0:=rfl
def Gj(a:Bool)(m:Mark):Int:=if eY m≠0 then eY m else if a then 5 else 0
def LH{K:Nat->Prop}(j:Int)(m:Mark)(R:Value)(S k:Nat)(p:ByteArray->Bool)(w:World)(b:aE K 1 dx w R m.aX)(q:w.cell? ⟨S,0,none⟩=some (.map (some k)))(z:bN w k p):
 Calls (Qs fs) 81 #[.int .i64 j,.agg #[.string m.name,.string m.word,R,.int .i64 m.day,.bool m.known],.pointer (some ⟨S,0,none⟩)] w λe w'=>e=.returned (.int .i64 (Gj (p m.name) m))/\bN w' k (λt=>p t||decide (t=m.name))/\(∀B,B<=k->Below B w w')/\ae w w':=by
 have e67:=e67 L;have e52:=e52 L;have e51:=e51 L;obtain⟨ao,C,rfl,_⟩:=id b;obtain⟨w1,c⟩:=ex (w.alloc (.cells #[.string m.name,.string m.word,.slice ao m.aX.length C,.int .i64 m.day,.bool m.known] 38));have A:ae w w1:=by rw[c];exact ae.alloc _ _
 have D:Below w.heap.size w w1:=by rw[c];exact aF _ _
 have ct:∀i v,(#[.string m.name,.string m.word,.slice ao m.aX.length C,.int .i64 m.day,.bool m.known]:Array Value)[i]? =some v->w1.cell? ⟨w.heap.size,i,none⟩=some v:=λi v h=>by rw[c];exact av w _ 38 i v h
 obtain⟨N,E⟩:=ex (w.heap.size);have l:=z.keep (D.block k z.lt);have r:=sS fs l m.name;obtain⟨w2,F,s,u,a⟩:=kp fs l m.name;have b1:=A.cell q;have G:=ct 0 _ rfl;have H:=ct 1 _ rfl;have I:=ct 2 _ rfl;have J:=ct 3 _ rfl;have M:=ct 4 _ rfl;rw[<-E]at G H I J M;obtain⟨g,d⟩:=ex (p m.name);rw[<-d]at r;have T:Hid _:=d;have O:Hid ((∀B,B<=k->Below B w w2)/\ae w w2/\bN w2 k (λt=>p t||decide (t=m.name))):=⟨λB U=>(D.mono (by have:=z.lt;omega)).trans (u B U),A.trans a,s⟩
 have V:=a.cell G;have W:=a.cell H;have X:=a.cell I;have Y:=a.cell J;have Z:=a.cell M;have n:=kQ L (mc:=#[.string m.name,.string m.word,.slice ao m.aX.length C,.int .i64 m.day,.bool m.known]) w2 ⟨_,rfl,b.ints (A.trans a)⟩;have HV:Hid (Gj g m=if eY m≠0 then eY m else if g=true then 5 else 0):=rfl;obtain⟨fa,x⟩:=ex (eY m);rw[<-x]at n HV;have o:=λP=>du L g 5 P;obtain⟨fb,hfb⟩:∃f:Int,f=if g=true then 5 else 0:=⟨_,rfl⟩
 rw[<-hfb]at o HV;have Q:=λP=>dg L fa fb P;rw[<-HV.out]at Q;clear x hfb d HV;go_enter (n81 L),Tryz.ntmps81;go_upto_region 1 with fail;rw[<-c,<-E];clear c E ct A D l s u a z q b;go_upto_region 3 with fail;clear r F b1 G H I J M;go_wp2_with (first|(go_at_call 67;refine n.mono ?_;clear n;rintro e w3 ⟨rfl,y⟩)|(go_at_call 52;refine(o _).mono ?_;clear o;rintro e w4 ⟨rfl,rfl⟩)|(go_at_call 51;refine(Q _).mono ?_;clear Q;rintro e w5 ⟨rfl,rfl⟩))
 go_ret;refine⟨by rw[T.out];rfl,?_⟩;exact O.out.1|>λh=>kq h O.out.2.1 O.out.2.2 (y.alloc y.size _)
end Go.Proofs

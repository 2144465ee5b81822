import Derived.Deep.CutBlock
import Derived.Shelf.Lays
import Derived.Test.YtaglpcmhopjebaaGreatDoorQ22
set_option linter.all false
set_option maxRecDepth 100000
set_option maxHeartbeats 20000000
namespace Go.Proofs
open Go.Tm Go.RowKit
variable {fs:Array Func} (L:bU fs)
theorem EA{b}{chk:List b->b->Int}:∀{seen l:List b} {i:Nat} (h:i<l.length),(∀j (e:j<i),chk (seen++l.take j) (l[j]'(by omega))=0)->chk (seen++l.take i) l[i]≠0->eY chk seen l=chk (seen++l.take i) l[i]
 |seen,x::xs,0,h,_,a=>by simp only[SI,Tx,Uk]at a⊢;unfold eY;rw[RZ a]
 |seen,x::xs,i+1,h,c,a=>by have d:=c 0 (by omega);simp only[SI,Tx,Uk]at d;unfold eY;rw[RY (by rw[d];simp)];have:=EA (chk:=chk) (seen:=seen++[x]) (l:=xs) (i:=i) (by simpa using h) (λj e=>by simpa using c (j+1) (by omega)) (by simpa using a);simpa using this
theorem zR{a}{chk:List a->a->Int}:∀{seen l:List a},(∀j (b:j<l.length),chk (seen++l.take j) l[j]=0)->eY chk seen l=0
 |seen,[],_=>rfl
 |seen,x::xs,c=>by have d:=c 0 (by simp);simp only[SI,Tx,Uk]at d;unfold eY;rw[RY (by rw[d];simp)];refine zR λj b=>?_;have:=c (j+1) (by simpa using b);simpa only[SN,List.getElem_cons_succ,Tw,List.singleton_append]using this
def mD{a}{chk:List a->a->Int}{l:List a}{i:Nat}(h:i<l.length)(d:∀j (c:j<i) (g:j<l.length),chk (l.take j) l[j]=0){f:Int}(e:chk (l.take i) l[i]=f)(b:f≠0):eY chk [] l=f:=by subst e;have:=EA (chk:=chk) (seen:=[]) h (λj c=>by simpa using d j c (by omega)) (by simpa using b);simpa using this
def kN{a}{chk:List a->a->Int}{l:List a}(c:∀j (b:j<l.length),chk (l.take j) l[j]=0):eY chk [] l=0:=zR λj b=>by simpa using c j b
def mE{a}{chk:List a->a->Int}{l:List a}{k:Nat}(c:∀j (_:j<k) (b:j<l.length),chk (l.take j) l[j]=0)(d:k<l.length)(h:chk (l.take k) l[k]=0):∀j (_:j<k+1) (b:j<l.length),chk (l.take j) l[j]=0:=λj e b=>by
 obtain h2|h2:=R5 j k
 ·exact c j h2 b
 ·have:j=k:=by omega
  subst this;exact h
def EB{a}{l:List a}{p:a->Bool}{i:Nat}:(l.take i).any p=false↔∀j (_:j<i) (e:j<l.length),p l[j]=false:=by
 rw[T5];constructor
 ·intro h j b f
  have c:l[j]∈l.take i:=by rw[Vb];exact⟨j,by omega,rfl⟩
  simpa using h _ c
 ·intro h x d
  obtain⟨j,b,rfl⟩:=Vb.1 d;simp[h j (by omega) (by omega)]
def Kb{s:ByteArray}(h:s.size=0\/10<s.size):dP s=false:=by
 unfold dP aD;obtain h|h:=h
 ·rw[h];rfl
 ·rw[show decide ((s.size:Int)<=10)=false from R8 (by omega),UJ,VA,VA]
def head_data{s:ByteArray}(h:0<s.size):s.data.toList.head?=some s[0]:=by
 have a:0<s.data.toList.length:=by rw[<-Lib.size_eq];exact h
 rw[List.head?_eq_getElem?,SK a];rfl
def EC{s:ByteArray}{p:UInt8->Bool}:s.data.toList.all p=true↔∀j (h:j<s.size),p s[j]=true:=by
 rw[SM];constructor
 ·intro h j a
  exact h _ (Sg (l:=s.data.toList) (n:=j) (by rw[<-Lib.size_eq];exact a))
 ·intro h x b
  obtain⟨j,a,rfl⟩:=T3 b;exact h j (by rw[Lib.size_eq];exact a)
def GR{s:ByteArray}(b:s.size≠0)(c:s.size<=10)(a:bc (s[0]'(by omega))=true)(h:∀j (h:j<s.size),(bc s[j]||jc s[j])=true):dP s=true:=by unfold dP aD;rw[head_data (by omega),EC.2 h,Sd (by omega),Sd (by omega)];simpa using a
def xz{s:ByteArray}{k:Nat}(c:k<s.size)(h:bc s[k]=false)(a:jc s[k]=false\/k=0):dP s=false:=by
 rw[UL];intro b;unfold dP at b;simp only[Sf]at b;obtain⟨⟨_,d⟩,e⟩:=b;obtain a|rfl:=a
 ·have:=EC.1 e k c
  rw[h,a]at this;cases this
 ·rw[head_data c]at d
  simp[h]at d
def Oz(s:ByteArray)(w:World)(N:s.size<=9223372036854775807):Calls (Qs fs) 111 #[.string s] w λe w'=>e=.returned (.bool (dP s))/\Below w.heap.size w w':=by
 have e60:=e60 L;by_cases h0:s.size=0\/10<s.size
 ·rw[Kb h0]
  go_enter (n111 L),Tryz.ntmps111;obtain h0|h0:=h0
  ·have t:((s.size:Int)==0)=true:=by rw[S9];omega
   go_wp2;go_ret;exact⟨rfl,Below.refl _ _⟩
  ·have t:((s.size:Int)==0)=false:=by rw[Sw];omega
   have G:decide ((10:Int)<(s.size:Int))=true:=Sd (by omega);go_wp2;go_ret;exact⟨rfl,Below.refl _ _⟩
 have t:((s.size:Int)==0)=false:=by rw[Sw];omega
 have G:decide ((10:Int)<(s.size:Int))=false:=R8 (by omega);have h0:s.size≠0/\s.size<=10:=by omega
 go_enter (n111 L),Tryz.ntmps111;go_wp2;go_loopw [3] (λi wr=>∃k:Nat,k<=s.size/\i=.int .i64 k/\(∀j (h:j<k) (H:j<s.size),(bc s[j]||jc s[j])=true)/\(0<k->bc (s[0]'(by omega))=true)/\Below w.heap.size w wr) (λi _=>s.size-(intOf i).toNat)
 case atStart=>exact⟨0,R9 _,rfl,λj h=>absurd h (Sm _),λh=>absurd h (Nat.lt_irrefl _),Below.refl _ _⟩
 case round=>
  obtain⟨k,O,rfl,u,v,z⟩:=hrel;have A:Hid _:=u;have o:Hid _:=v;have p:Hid _:=z;clear u v z;obtain c|hge:=R5 k s.size
  ·have P:k<s.size:=c
   obtain⟨m,d⟩:=ex (bc s[k]);obtain⟨n,f⟩:=ex (jc s[k]);have g:wrap64 (s[k].toNat:Int)=s[k].toNat:=by have:=s[k].toNat_lt;unfold wrap64;omega
   have B:∀x:aj w wr,Calls (Qs fs) 60 #[.int .i64 (wrap64 (s[k].toNat:Int)),.int .i64 97,.int .i64 122] x.val λe w'=>e=.returned (.bool m)/\∃y:aj w wr,w'=y.val:=λx=>by rw[d,g];exact aj.same (Im L _ _ _ x.val)
   have C:∀x:aj w wr,Calls (Qs fs) 60 #[.int .i64 (wrap64 (s[k].toNat:Int)),.int .i64 48,.int .i64 57] x.val λe w'=>e=.returned (.bool n)/\∃y:aj w wr,w'=y.val:=λx=>by rw[f,g];exact aj.same (Im L _ _ _ x.val)
   have l:Hid _:=(⟨d,f⟩:m=bc s[k]/\n=jc s[k])
   clear d f g;go_upto_region 6 with fail;refine aU (w0:=w) (w1:=wr) 10 (by kernel_rfl) (by kernel_rfl) (ae.refl _) p.out ?_;simp only[SN,SI,SZ,SP];haveI q:Nonempty (aj w wr):=⟨⟨wr,ae.refl _,p.out⟩⟩
   repeat (go_big_quiet_step (first|(go_at_call 60;first|exact B _|exact C _)))
   refine wpQuiet_nil ?_;rintro Q ⟨⟨_,I,D⟩,rfl⟩;have a:Hid _:=D;clear B C q I D;by_cases r:k=0
   ·subst r
    cases m with
    |true=>
     go_wp2;refine⟨⟨1,by omega,by go_num,λj J E=>?_,λ_=>l.out.1.symm,a.out⟩,by simp[intOf];omega⟩;have:j=0:=by omega
     subst this;rw[<-l.out.1];rfl
    |false=>cases n<;>(go_wp2;go_ret;exact⟨by rw[xz c l.out.1.symm (.inr rfl)];rfl,a.out⟩)
   ·have K:((k:Int)==0)=false:=by rw[Sw];omega
    have b:(m||n)=true->∀j (h:j<k+1) (H:j<s.size),(bc s[j]||jc s[j])=true:=λM j J E=>by
     obtain h3|h3:=R5 j k
     ·exact A.out j h3 E
     ·have:j=k:=by omega
      subst this;rw[<-l.out.1,<-l.out.2];exact M
    have F:Hid _:=b;clear b;cases m with
    |true=>go_wp2;exact⟨⟨k+1,by omega,by go_num,F.out rfl,λ_=>o.out (by omega),a.out⟩,by simp[intOf];omega⟩
    |false=>
     cases n with
     |true=>go_wp2;exact⟨⟨k+1,by omega,by go_num,F.out rfl,λ_=>o.out (by omega),a.out⟩,by simp[intOf];omega⟩
     |false=>go_wp2;go_ret;exact⟨by rw[xz c l.out.1.symm (.inl l.out.2.symm)];rfl,a.out⟩
  ·go_wp2
   go_ret;exact⟨by rw[GR h0.1 h0.2 (o.out (by omega)) λj h=>A.out j (by omega) h];rfl,p.out⟩
def GU(l:List Pr2)(i:Nat)(a:i<l.length):letterF (l.take i) l[i]=if !bD l[i].1 4 then 3 else if(l.take i).any (λq=>decide (q.1=l[i].1))then 5 else if !aX l[i].2 1 3 then 3 else 0:=rfl
def xA{K:Nat->Prop}{v:Value}{l:List Pr2}(w:World)(M:aE K 2 dh w v l)(Y:∀p∈l,p.1.size<=1000/\p.2.size<=1000)(hn:l.length<=1000):
 Calls (Qs fs) 58 #[v] w λe w'=>e=.returned (.int .i64 (aP 0 12 letterF l))/\Below w.heap.size w w':=by
 have P2:=P2 L;have e61:=e61 L;obtain⟨ao,c,rfl,af,hc,_,n⟩:=M;by_cases ag:12<l.length
 ·have g:(12:Int)<(l.length:Int):=by omega
  have e:aP 0 12 letterF l=2:=by unfold aP aD;rw[R8 (p:=(l.length:Int)<=12) (by omega),UJ];rfl
  rw[e];clear Y n;go_enter (n58 L),Tryz.ntmps58;go_wp2;go_ret;exact⟨rfl,Below.refl _ _⟩
 have g:decide ((12:Int)<(l.length:Int))=false:=R8 (by omega);have e:aP 0 12 letterF l=eY letterF [] l:=by unfold aP aD;rw[Sd (by omega),Sd (by omega)];rfl
 rw[e];clear e;have HS:Hid _:=Y;have HC:Hid _:=n;clear Y n;go_enter (n58 L),Tryz.ntmps58;go_wp2;go_loopw [3] (λs wr=>∃k:Nat,k<=l.length/\s=.int .i64 k/\(∀j (_:j<k) (Z:j<l.length),letterF (l.take j) l[j]=0)/\Below w.heap.size w wr) (λs _=>l.length-(intOf s).toNat)
 case atStart=>exact⟨0,R9 _,rfl,λj h=>absurd h (Sm _),Below.refl _ _⟩
 case round=>
  obtain⟨k,hk,rfl,hf,hb⟩:=hrel;have HF:Hid _:=hf;have U:Hid _:=hb;clear hf hb;obtain t|hge:=R5 k l.length
  ·obtain⟨b,F,rfl,hx⟩:=HC.out k t
   obtain⟨G,C⟩:=HS.out l[k] (Sg t);obtain⟨u,y⟩:=hx;have a:=GU l k t;have V:=ae.below U.out;have HR:Hid (∀j (hj:j<l.length),wr.cell? ⟨b,F+j*2,none⟩=some (.string l[j].1)):=λj hj=>by obtain⟨b',o',e',hy⟩:=HC.out j hj;cases e';exact V.cell hy.1
   have u:=V.cell u;have y:=V.cell y;clear V;obtain⟨p,hp⟩:=ex (l[k]);rw[<-hp]at u y G C a;obtain⟨p0,W⟩:=p;simp only[]at u y G C a;have z:=λwx=>BS L p0 4 wx (by omega);have B:=λwx=>mH L W 1 3 wx (by omega);obtain⟨z1,N⟩:=ex (bD p0 4);obtain⟨z2,O⟩:=ex (aX W 1 3);simp only[<-N]at z a;simp only[<-O]at B a;have HP:Hid _:=hp;have X:Hid _:=a;clear N O hp a;have D:∀{f:Int},letterF (l.take k) (p0,W)=f->f≠0->eY letterF [] l=f:=λG C=>mD t HF.out (by rw[<-HP.out];exact G) C;have HG:Hid (letterF (l.take k) (p0,W)=0->∀j (_:j<k+1) (Z:j<l.length),letterF (l.take j) l[j]=0):=λh=>mE HF.out t (by rw[<-HP.out];exact h);have H:Hid _:=@D;clear D;cases z1 with
   |false=>
    have A:=H.out (X.out.trans rfl:_=(3:Int)) (by decide);have HV:Hid _:=A;clear A B;go_wp2_with (first|(go_at_call 110;refine(z _).mono ?_;rintro e w' ⟨rfl,rfl⟩))
    go_ret;exact⟨by rw[HV.out];rfl,U.out⟩
   |true=>
    go_upto_block 2 with(first|(go_at_call 110;refine(z _).mono ?_;rintro e w' ⟨rfl,m⟩;rw[m];clear m))
    go_wp2;go_loopw [4] (λs wi=>∃j:Nat,j<=k/\s=.int .i64 j/\(∀i (_:i<j) (Z:i<l.length),l[i].1≠p0)/\ae wr wi/\Below w.heap.size w wi) (λs _=>k-(intOf s).toNat)
    case atStart=>exact⟨0,R9 _,rfl,λj h=>absurd h (Sm _),ae.refl _,U.out⟩
    case round=>
     obtain⟨j,hj,rfl,P,o,I⟩:=hrel;have HN:Hid _:=P;have Q:Hid _:=(⟨o,I⟩:_/\Below w.heap.size w wr)
     have y1:=o.cell u;have y2:=o.cell y;clear P;obtain hjk|hjk:=R5 j k
     ·have y0:=o.cell (HR.out j (by omega))
      obtain⟨r,hr⟩:=ex (l[j].1);rw[<-hr]at y0;have l0:∀x:aj w wr,x.val.cell? ⟨b,F+j*2,none⟩=some (.string r):=λx=>x.st.cell y0;have l1:∀x:aj w wr,x.val.cell? ⟨b,F+k*2,none⟩=some (.string p0):=λx=>x.st.cell y1;obtain⟨d,hd⟩:=ex (decide (r=p0));have J:=jN r p0;rw[<-hd]at J;have HD:Hid _:=hd;have R:Hid _:=hr;clear hd;clear hr o I;go_upto_region 11 with fail;refine aY (w0:=w) (w1:=wr) (by kernel_rfl) (by kernel_rfl) (ae.refl _) Q.out.2 ?_;haveI aa:Nonempty (aj w wr):=⟨⟨wr,ae.refl _,Q.out.2⟩⟩
      repeat (go_big_quiet_step (fail))
      refine wpQuiet_nil ?_;rintro wz ⟨⟨_,Sz,Bz⟩,rfl⟩;have HZ:Hid _:=(⟨Q.out.1.trans Sz,Bz⟩:_/\_)
      clear l0 l1 aa Sz Bz y0 y1 y2;cases d with
      |true=>
       have S:r=p0:=SO HD.out.symm;have A:=H.out (X.out.trans (by rw[RY (by simp),RZ];rw[Tj];exact⟨l[j],Vb.2 ⟨j,by omega,rfl⟩,Sd (R.out▸S)⟩):_=(5:Int)) (by decide)
       have HV:Hid _:=A;clear J S A;go_wp2;go_ret;exact⟨by rw[HV.out];rfl,HZ.out.2⟩
      |false=>
       have S:r≠p0:=UX HD.out.symm;have T:∀i (_:i<j+1) (Z:i<l.length),l[i].1≠p0:=λi G C=>by
        obtain h3|h3:=R5 i j
        ·exact HN.out i h3 C
        ·have:i=j:=by omega
         subst this;exact R.out▸S
       have ab:Hid _:=T;clear J S T;go_wp2;exact⟨⟨j+1,by omega,by go_num,ab.out,HZ.out.1,HZ.out.2⟩,by simp[intOf];omega⟩
     ·have ad:j=k:=by omega
      subst ad;have E:(l.take j).any (λq=>decide (q.1=p0))=false:=EB.2 λi G C=>R8 (HN.out i G C);have HA:Hid _:=E;clear E o I;cases z2 with
      |false=>
       have A:=H.out (X.out.trans (by rw[HA.out];rfl):_=(3:Int)) (by decide);have HV:Hid _:=A;clear A;go_wp2_with (first|(go_at_call 61;refine(B _).mono ?_;rintro e w' ⟨rfl,m⟩;rw[m];clear m))
       go_ret;exact⟨by rw[HV.out];rfl,Q.out.2⟩
      |true=>
       have A:=HG.out (X.out.trans (by rw[HA.out];rfl));have HV:Hid _:=A;clear A;go_wp2_with (first|(go_at_call 61;refine(B _).mono ?_;rintro e w' ⟨rfl,m⟩;rw[m];clear m))
       exact⟨⟨j+1,by omega,by go_num,HV.out,Q.out.2⟩,by simp[intOf];omega⟩
  ·go_wp2
   go_ret;exact⟨by rw[kN λj h=>HF.out j (by omega) h];rfl,U.out⟩
def GV(l:List jw)(i:Nat)(a:i<l.length)(n:ByteArray)(ss:List Pr2):da (l.take i) ⟨n,ss⟩=if !dP n then 4 else if(l.take i).any (λq=>decide (q.name=n))then 5 else aP 0 5 dQ ss:=rfl
def xB{K:Nat->Prop}{v:Value}{l:List jw}(w:World)(ab:aE K 2 eT w v l)(hs:∀t∈l,t.name.size<=1000/\∀p∈t.aT,p.1.size<=1000/\p.2.size<=1000)(hn:l.length<=1000):
 Calls (Qs fs) 59 #[v] w λe w'=>e=.returned (.int .i64 (aP 0 3 da l))/\Below w.heap.size w w':=by
 have P3:=P3 L;have e61:=e61 L;obtain⟨ao,c,rfl,a7,hc,_,C⟩:=ab;by_cases a8:3<l.length
 ·have g:(3:Int)<(l.length:Int):=by omega
  have e:aP 0 3 da l=2:=by unfold aP aD;rw[R8 (p:=(l.length:Int)<=3) (by omega),UJ];rfl
  rw[e];clear hs C;go_enter (n59 L),Tryz.ntmps59;go_wp2;go_ret;exact⟨rfl,Below.refl _ _⟩
 have g:decide ((3:Int)<(l.length:Int))=false:=R8 (by omega);have e:aP 0 3 da l=eY da [] l:=by unfold aP aD;rw[Sd (by omega),Sd (by omega)];rfl
 rw[e];clear e;have HS:Hid _:=hs;have HC:Hid _:=C;clear hs C;go_enter (n59 L),Tryz.ntmps59;go_wp2;go_loopw [3] (λs wr=>∃k:Nat,k<=l.length/\s=.int .i64 k/\(∀j (_:j<k) (h':j<l.length),da (l.take j) l[j]=0)/\Below w.heap.size w wr) (λs _=>l.length-(intOf s).toNat)
 case atStart=>exact⟨0,R9 _,rfl,λj h=>absurd h (Sm _),Below.refl _ _⟩
 case round=>
  obtain⟨k,hk,rfl,hf,hb⟩:=hrel;have HF:Hid _:=hf;have HB:Hid _:=hb;clear hf hb;obtain G|hge:=R5 k l.length
  ·obtain⟨b,P,rfl,hx⟩:=HC.out k G
   obtain⟨Q,F⟩:=HS.out l[k] (Sg G);obtain⟨D,vs,R,H⟩:=hx;have HR:Hid (∀j (hj:j<l.length),w.cell? ⟨b,P+j*2,none⟩=some (.string l[j].name)):=λj hj=>by obtain⟨b',o',e',hy⟩:=HC.out j hj;cases e';exact hy.1
   have S0:=ae.below HB.out;have S:w.cell? ⟨b,P+k*2+1,none⟩=some vs:=R;have D:=S0.cell D;have R:=S0.cell R;clear S0;obtain⟨p,hp⟩:=ex (l[k]);rw[<-hp]at D Q F H;obtain⟨p0,p1⟩:=p;simp only[]at D R Q F H;have a:=GV l k G p0 p1;have I:=λwx=>Oz L p0 wx (by omega);obtain⟨z1,J⟩:=ex (dP p0);simp only[<-J]at I a;have HP:Hid _:=hp;have HL:Hid _:=a;clear J hp a;have U:∀{f:Int},da (l.take k) ⟨p0,p1⟩=f->f≠0->eY da [] l=f:=λQ F=>mD G HF.out (by rw[<-HP.out];exact Q) F;have HG:Hid (da (l.take k) ⟨p0,p1⟩=0->∀j (_:j<k+1) (h':j<l.length),da (l.take j) l[j]=0):=λh=>mE HF.out G (by rw[<-HP.out];exact h);have T:Hid _:=@U;clear U;have q1:=I wr;clear I;cases z1 with
   |false=>
    have B:=T.out (HL.out.trans rfl:_=(4:Int)) (by decide);have HV:Hid _:=B;clear B;go_wp2_with (first|(go_at_call 111;refine q1.mono ?_;rintro e w3 ⟨rfl,M⟩))
    go_ret;exact⟨by rw[HV.out];rfl,HB.out.trans (M.mono HB.out.size)⟩
   |true=>
    go_upto_block 2 with(first|(go_at_call 111;refine q1.mono ?_;rintro e w3 ⟨rfl,M⟩))
    have an:Hid (Below w.heap.size w w3):=HB.out.trans (M.mono HB.out.size);have D:=(ae.below M).cell D;clear M q1;go_wp2;go_loopw [4] (λs wi=>∃j:Nat,j<=k/\s=.int .i64 j/\(∀i (_:i<j) (h':i<l.length),l[i].name≠p0)/\ae w3 wi/\Below w.heap.size w wi) (λs _=>k-(intOf s).toNat)
    case atStart=>exact⟨0,R9 _,rfl,λj h=>absurd h (Sm _),ae.refl _,an.out⟩
    case round=>
     obtain⟨j,hj,rfl,N,A,n⟩:=hrel;have HN:Hid _:=N;have HI:Hid _:=(⟨A,n⟩:_/\Below w.heap.size w wr)
     have y1:=A.cell D;have y2:=(ae.below n).cell S;clear N;obtain hjk|hjk:=R5 j k
     ·have y0:=(ae.below n).cell (HR.out j (by omega))
      obtain⟨r,X⟩:=ex (l[j].name);rw[<-X]at y0;have l0:∀x:aj w wr,x.val.cell? ⟨b,P+j*2,none⟩=some (.string r):=λx=>x.st.cell y0;have l1:∀x:aj w wr,x.val.cell? ⟨b,P+k*2,none⟩=some (.string p0):=λx=>x.st.cell y1;obtain⟨d,hd⟩:=ex (decide (r=p0));have Y:=jN r p0;rw[<-hd]at Y;have HD:Hid _:=hd;have O:Hid _:=X;clear hd;clear X A n;go_upto_region 11 with fail;refine aY (w0:=w) (w1:=wr) (by kernel_rfl) (by kernel_rfl) (ae.refl _) HI.out.2 ?_;haveI ar:Nonempty (aj w wr):=⟨⟨wr,ae.refl _,HI.out.2⟩⟩
      repeat (go_big_quiet_step (fail))
      refine wpQuiet_nil ?_;rintro wz ⟨⟨_,Sz,Bz⟩,rfl⟩;have HZ:Hid _:=(⟨HI.out.1.trans Sz,Bz⟩:_/\_)
      clear l0 l1 ar Sz Bz y0 y1 y2;cases d with
      |true=>
       have he:r=p0:=SO HD.out.symm;have B:=T.out (HL.out.trans (by rw[RY (by simp),RZ];rw[Tj];exact⟨l[j],Vb.2 ⟨j,by omega,rfl⟩,Sd (O.out▸he)⟩):_=(5:Int)) (by decide)
       have HV:Hid _:=B;clear Y he B;go_wp2;go_ret;exact⟨by rw[HV.out];rfl,HZ.out.2⟩
      |false=>
       have he:r≠p0:=UX HD.out.symm;have ad:∀i (_:i<j+1) (h':i<l.length),l[i].name≠p0:=λi Q F=>by
        obtain h3|h3:=R5 i j
        ·exact HN.out i h3 F
        ·have:i=j:=by omega
         subst this;exact O.out▸he
       have ax:Hid _:=ad;clear Y he ad;go_wp2;exact⟨⟨j+1,by omega,by go_num,ax.out,HZ.out.1,HZ.out.2⟩,by simp[intOf];omega⟩
     ·have ay:j=k:=by omega
      subst ay;have V:(l.take j).any (λq=>decide (q.name=p0))=false:=EB.2 λi Q F=>R8 (HN.out i Q F);have HA:Hid (da (l.take j) ⟨p0,p1⟩=aP 0 5 dQ p1):=by rw[Hid,HL.out,V];rfl
      have H:=H.stays (ae.below n) λx y o z e h=>by subst e;exact⟨(ae.below n).cell h.1,(ae.below n).cell h.2⟩
      obtain⟨ba,cs,rfl,bb,bk,_,E⟩:=H;have aM:Hid _:=E;clear V A n E;by_cases h5:5<p1.length
      ·have g5:(5:Int)<(p1.length:Int):=by omega
       have B:=T.out (HA.out.trans (by unfold aP aD;rw[R8 (p:=(p1.length:Int)<=5) (by omega),UJ];rfl):_=(2:Int)) (by decide)
       have HV:Hid _:=B;clear B;go_wp2;go_ret;exact⟨by rw[HV.out];rfl,HI.out.2⟩
      ·have g5:decide ((5:Int)<(p1.length:Int))=false:=R8 (by omega)
       have e5:aP 0 5 dQ p1=eY dQ [] p1:=by unfold aP aD;rw[Sd (by omega),Sd (by omega)];rfl
       have af:Hid _:=HA.out.trans e5;clear e5
       go_upto_block 4 with fail
       go_wp2;go_loopw [5] (λs wi=>∃m:Nat,m<=p1.length/\s=.int .i64 m/\(∀i (_:i<m) (h':i<p1.length),dQ (p1.take i) p1[i]=0)/\ae wr wi/\Below w.heap.size w wi) (λs _=>p1.length-(intOf s).toNat)
       case atStart=>exact⟨0,R9 _,rfl,λj h=>absurd h (Sm _),ae.refl _,HI.out.2⟩
       case round=>
        obtain⟨m,hm,rfl,N,A,n⟩:=hrel;have Z:Hid _:=N;have ag:Hid _:=(⟨A,n⟩:_/\Below w.heap.size w wr)
        have y3:=A.cell y2;clear N;obtain hmk|hmk:=R5 m p1.length
        ·obtain⟨b2,o2,rfl,u1,u2⟩:=aM.out m hmk
         obtain⟨k1,k2⟩:=F p1[m] (Sg hmk);have u1:=A.cell u1;have u2:=A.cell u2;have a:dQ (p1.take m) p1[m]=if !aX p1[m].1 1 3|| !aX p1[m].2 0 p1[m].1.size then 3 else 0:=rfl
         obtain⟨r,X⟩:=ex (p1[m]);rw[<-X]at u1 u2 k1 k2 a;obtain⟨r0,r1⟩:=r;simp only[]at u1 u2 k1 k2 a;have qa:=λwx=>mH L r0 1 3 wx (by omega);have qb:=λwx=>mH L r1 0 r0.size wx (by omega);obtain⟨z1,J⟩:=ex (aX r0 1 3);obtain⟨z2,S⟩:=ex (aX r1 0 r0.size);simp only[<-J]at qa a;simp only[<-S]at qb a;have O:Hid _:=X;have aa:Hid _:=a;have S2:Hid _:=ae.alloc wr (.cells #[.string r0,.string r1] 51);have B2:Hid _:=n.alloc n.size (.cells #[.string r0,.string r1] 51);clear J S X a A n;have ak:∀{f:Int},dQ (p1.take m) (r0,r1)=f->f≠0->eY da [] l=f:=λQ F=>T.out (af.out.trans (mD hmk Z.out (by rw[<-O.out];exact Q) F)) F;have W:Hid _:=@ak;have a1:Hid (dQ (p1.take m) (r0,r1)=0->∀i (_:i<m+1) (h':i<p1.length),dQ (p1.take i) p1[i]=0):=λh=>mE Z.out hmk (by rw[<-O.out];exact h);clear ak;cases z1 with
         |false=>
          have B:=W.out (aa.out.trans rfl:_=(3:Int)) (by decide);have HV:Hid _:=B;clear B;go_wp2_with (first|(go_at_call 61;refine(qa _).mono ?_;rintro e w' ⟨rfl,u⟩;rw[u];clear u))
          go_ret;exact⟨by rw[HV.out];rfl,B2.out⟩
         |true=>
          cases z2 with
          |false=>
           have B:=W.out (aa.out.trans rfl:_=(3:Int)) (by decide);have HV:Hid _:=B;clear B;go_wp2_with (first|(go_at_call 61;first|(refine(qa _).mono ?_;rintro e w' ⟨rfl,u⟩;rw[u];clear u)|(refine(qb _).mono ?_;rintro e w' ⟨rfl,u⟩;rw[u];clear u)))
           go_ret;exact⟨by rw[HV.out];rfl,B2.out⟩
          |true=>
           have B:=a1.out (aa.out.trans rfl);have HV:Hid _:=B;clear B;go_wp2_with (first|(go_at_call 61;first|(refine(qa _).mono ?_;rintro e w' ⟨rfl,u⟩;rw[u];clear u)|(refine(qb _).mono ?_;rintro e w' ⟨rfl,u⟩;rw[u];clear u)))
           exact⟨⟨m+1,by omega,by go_num,HV.out,ag.out.1.trans S2.out,B2.out⟩,by simp[intOf];omega⟩
        ·have a6:m=p1.length:=by omega
         subst a6;have B:=HG.out (af.out.trans (kN λi h=>Z.out i h h));have HV:Hid _:=B;clear B A n;go_wp2;exact⟨⟨j+1,by omega,by go_num,HV.out,ag.out.2⟩,by simp[intOf];omega⟩
  ·go_wp2
   go_ret;exact⟨by rw[kN λj h=>HF.out j (by omega) h];rfl,HB.out⟩
end Go.Proofs
namespace Go.Proofs
open Go.Tm Go.RowKit
section
variable (fs:Array Func)
def iE(t):(Qs fs).fieldsOf t=Tryz.prog.fieldsOf t:=by unfold Program.fieldsOf;rw[aI]
def Np{t}(h:Tryz.prog.eqGuardType Tryz.prog.depth t=false):(Qs fs).eqGuardType (Qs fs).depth t=false:=by rw[ma,show(Qs fs).depth=Tryz.prog.depth from rfl];exact h
def qQ{t}(h:Tryz.prog.stoodInHeld t=false):(Qs fs).stoodInHeld t=false:=by rw[et];exact h
def nI{t l}(h:Tryz.prog.underlying t=some (.struct l)):(Qs fs).underlying t=some (.struct ((Qs fs).fieldsOf t)):=by rw[iE,aI];unfold Program.fieldsOf;rw[h]
def uM:Tryz.prog.eqGuardType Tryz.prog.depth 86=false:=by kernel_rfl
def Hb:Tryz.prog.stoodInHeld 86=false:=by kernel_rfl
def Nq:Tryz.prog.eqGuardType Tryz.prog.depth 66=false:=by kernel_rfl
def Nr:Tryz.prog.stoodInHeld 66=false:=by kernel_rfl
def Ns:Tryz.prog.eqGuardType Tryz.prog.depth 96=false:=by kernel_rfl
def Nt:Tryz.prog.stoodInHeld 96=false:=by kernel_rfl
def Co(a b c x y z w):(binOp .eql 86 (.agg #[.int .i64 a,.int .i64 b,.int .i64 c]) (.agg #[.int .i64 x,.int .i64 y,.int .i64 z])).run (Qs fs) w=.ok (.bool (decide (a=x/\b=y/\c=z))) w:=by rw[run_eql_struct,run_equalIn_struct w _ 86 _ _ (nI fs Tryz.underlying86) (qQ fs Hb),iE,Program.fieldsOf,Tryz.underlying86];simp[go_sem];by_cases d:a=x<;>by_cases e:b=y<;>by_cases f:c=z<;>simp[d,e,f]
def yO(a b c x y z w):(binOp .neq 86 (.agg #[.int .i64 a,.int .i64 b,.int .i64 c]) (.agg #[.int .i64 x,.int .i64 y,.int .i64 z])).run (Qs fs) w=.ok (.bool (!decide (a=x/\b=y/\c=z))) w:=by rw[run_neq_struct,run_equalIn_struct w _ 86 _ _ (nI fs Tryz.underlying86) (qQ fs Hb),iE,Program.fieldsOf,Tryz.underlying86];simp[go_sem];by_cases d:a=x<;>by_cases e:b=y<;>by_cases f:c=z<;>simp[d,e,f]
def IA(a b c x y z w):(binOp .neq 66 (.agg #[.int .i64 a,.int .i64 b,.int .i64 c]) (.agg #[.int .i64 x,.int .i64 y,.int .i64 z])).run (Qs fs) w=.ok (.bool (!decide (a=x/\b=y/\c=z))) w:=by rw[run_neq_struct,run_equalIn_struct w _ 66 _ _ (nI fs Tryz.underlying66) (qQ fs Nr),iE,Program.fieldsOf,Tryz.underlying66];simp[go_sem];by_cases d:a=x<;>by_cases e:b=y<;>by_cases f:c=z<;>simp[d,e,f]
def IB(a b c x y z w):(binOp .neq 96 (.agg #[.int .i64 a,.int .i64 b,.int .u8 c]) (.agg #[.int .i64 x,.int .i64 y,.int .u8 z])).run (Qs fs) w=.ok (.bool (!decide (a=x/\b=y/\c=z))) w:=by rw[run_neq_struct,run_equalIn_struct w _ 96 _ _ (nI fs Tryz.underlying96) (qQ fs Nt),iE,Program.fieldsOf,Tryz.underlying96];simp[go_sem];by_cases d:a=x<;>by_cases e:b=y<;>by_cases f:c=z<;>simp[d,e,f]
def iF{t}(h:Tryz.prog.eqGuardType Tryz.prog.depth t=false)(a x y xs b w):(eqGuard a t x y (.agg xs) (.agg b)).run (Qs fs) w=.ok () w:=run_eqGuard_agg w a t x y xs b (Np fs h)
end
def K9{s:Array Bool}{i k}(h:(s.setIfInBounds i true).getD k false=true):k=i\/s.getD k false=true:=by
 by_cases e:k=i
 ·exact .inl e
 ·right
  rw[Tc,Si (Sn e)]at h;rw[Tc];exact h
def aK{s:Array Bool}{i k}(h:(s.setIfInBounds i true).getD k false=true)(a:k≠i):s.getD k false=true:=(K9 h).resolve_left a
section
variable {P:Program} {md:Region.Mode} {ops:Array Oper} {Q:Exit->Act->World->Prop} {I:Array Bool->Act->World->Prop}
theorem j7(c:∀s a w i,I s a w->i∈Region.ready md ops s->wpOp P ops Q i (λl w'=>I (s.setIfInBounds i true) l w') a w)
 (d:∀s a w,I s a w->Region.ready md ops s=[]->Q .normal a w):
 ∀(f) (s) (a) (w),s.toList.count false<=f->I s a w->wpAny P md ops Q f s a w
 |0,s,a,w,r,h=>by
  have o:Region.ready md ops s=[]:=by
   rw[List.eq_nil_iff_forall_not_mem];intro i k;obtain⟨e,_⟩:=mem_ready.1 k;have:false∈s.toList:=by
    rw[Tc]at e;cases m:s[i]? with
    |none=>rw[m]at e;cases e
    |some b=>rw[m]at e;have n:b=false:=e;subst n;exact Ts (by rw[Tg];exact m)
   have:=List.count_pos_iff.2 this;omega
  exact⟨o,d s a w h o⟩
 |f+1,s,a,w,r,h=>by
  refine⟨d s a w h,λi k=>wpOp_mono (λl w' t=>j7 c d f _ l w' ?_ t) (c s a w i h k)⟩;obtain⟨e,_⟩:=mem_ready.1 k;rw[Tc]at e;have g:i<s.size:=by
   obtain h|h:=R5 i s.size
   ·exact h
   ·rw[TF h]at e;cases e
  rw[Sv g]at e;have n:s[i]=false:=e;have p:i<s.toList.length:=by simpa using g
  have j:s.toList[i]=false:=by rw[Vf];exact n
  rw[VM];have q:=List.count_set (a:=true) (b:=false) p;rw[j]at q;have u:0<s.toList.count false:=List.count_pos_iff.2 (j▸Sg p);simp only[beq_self_eq_true,Sj,Tr,show(true==false)=false from rfl,Ss,Sp]at q;omega
def QK(ops:Array Oper):Bool:=(List.range ops.size).all λk=>match ops[k]? with
 |some o=>o.after.all λe=>decide (e.on<k)
 |none=>true
theorem CO{s}(a:s.size=ops.size)(d:QK ops=true)(f:Region.ready md ops s=[]):∀(n k),k<n->k<ops.size->s.getD k false=true
 |0,k,h,_=>absurd h (Sm _)
 |n+1,k,h,b=>by
  cases g:s.getD k false with
  |true=>rfl
  |false=>
   exfalso;have c:k<s.size:=by omega
   have l:s.getD k true=false:=by rw[Tc,Sv c]at g⊢;exact g
   have i:k∈Region.ready md ops s:=mem_ready.2 ⟨l,ops[k],Sv b,λe m _=>by have j:=SM.1 d k (UZ.2 b);rw[Sv b]at j;have o:=T4.1 j e m;have p:e.on<k:=SO o;exact CO a d f n e.on (by omega) (by omega)⟩
   rw[f]at i;cases i
end
def bf{s:Array Bool}{i k}(h:s.getD k false=true):(s.setIfInBounds i true).getD k false=true:=by
 rw[Tc]at h⊢;by_cases e:k=i
 ·subst e
  have a:k<s.size:=by
   obtain h'|h':=R5 k s.size
   ·exact h'
   ·rw[TF h']at h;cases h
  rw[Vt a];rfl
 ·rw[Si (Sn e)]
  exact h
def fE{s:Array Bool}{k}(h:s.getD k true=false):s.getD k false≠true:=by
 rw[Tc]at h⊢;cases a:s[k]? with
 |none=>rw[a]at h;cases h
 |some b=>rw[a]at h;have:b=false:=h;subst this;simp
def fN(w1 W:World)(ty:TypeId)(X:Nat):Prop:=w1.heap.size<=X/\∃c,W.heap[X]? =some (.cells #[.string c] ty (0,0))
def fN.new{w1 W:World}{ty}(h:w1.heap.size<=W.heap.size)(c):fN w1 (W.alloc (.cells #[.string c] ty)) ty W.heap.size:=⟨h,c,SY⟩
def fN.stays{w1 W a ty X}(h:fN w1 W ty X)(b:ae W a):fN w1 a ty X:=⟨h.1,h.2.elim λc d=>⟨c,b _ _ _ _ d⟩⟩
def fN.lt{w1 W ty X}(h:fN w1 W ty X):X<W.heap.size:=h.2.elim λc a=>(R7.1 a).1
def fN.cell{w1 W ty X}(h:fN w1 W ty X):∃v,W.cell? ⟨X,0,none⟩=some (.string v):=h.2.elim λc a=>⟨c,cell_of_heap a 0 _ rfl⟩
def fN.frozen{w1 W ty X}(h:fN w1 W ty X):W.frozen? ⟨X,0,none⟩=false:=h.2.elim λc a=>frozen_of_heap a 0
def fN.set{w1 W ty X}(h:fN w1 W ty X){v}:fN w1 (W.setCell ⟨X,0,none⟩ (.string v)) ty X:=by
 obtain⟨a,c,b⟩:=h;refine⟨a,v,?_⟩;have d:(W.heap.modify X λo=>match o with| .cells c e F=>.cells (c.setIfInBounds 0 (.string v)) e F|o=>o)[X]? =some (.cells #[.string v] ty (0,0)):=by rw[Tb,b];simp
 exact d
def fN.other{w1 W ty X Y}(h:fN w1 W ty Y)(a:Y≠X){v}:fN w1 (W.setCell ⟨X,0,none⟩ v) ty Y:=⟨h.1,h.2.elim λc b=>⟨c,(Below.heap_setCell W ⟨X,0,none⟩ v Y a).trans b⟩⟩
end Go.Proofs
namespace Go.Proofs
open Go.Shelf Go.Tm
def sG:Go.Shelf.Ren:=⟨λ|150=>135|153=>165|152=>175|226=>176|227=>177|228=>178|137=>193|119=>194|224=>195|225=>196|217=>207|266=>211|155=>139|154=>166|138=>179|165=>180|143=>181|166=>94|197=>182|169=>95|195=>197|218=>198|240=>134|241=>199|219=>200|260=>201|276=>164|277=>208|267=>209|314=>212|n=>n,
 λ|117=>241|116=>240|46=>215|124=>257|72=>153|76=>158|105=>243|70=>151|37=>120|75=>157|127=>203|164=>210|119=>265|139=>268|138=>267|146=>272|51=>193|80=>160|n=>n,
 λ|1=>2|n=>n⟩
def iG{fs:Array Func}(L:bU fs):Lays.n150 (Qs fs) sG/\Lays.n138 (Qs fs) sG/\Lays.n165 (Qs fs) sG:=by
 refine⟨?_,?_,?_⟩<;>constructor;all_goals first
  |(intro w;first|with_reducible refine(zV _ _ _ w).trans ?_|with_reducible refine(uT _ _ _ w).trans ?_|with_reducible refine(jb _ _ _ w).trans ?_);rfl
  |(with_reducible refine(aI _ _ _).trans ?_);kernel_rfl
  |exact(L.1 _ (by decide) (by decide)).trans (by kernel_rfl)
  |kernel_rfl
end Go.Proofs
namespace Go.Proofs
open Go.Tm
variable {fs:Array Func} (L:bU fs)
def dz(b:Bool)(f:Int)(w:World):
 Calls (Qs fs) 52 #[.bool b,.int .i64 f] w λe w'=>e=.returned (.int .i64 (if b then f else 0))/\w'=w:=by
 go_enter (n52 L),Tryz.ntmps52;go_wp2;all_goals (go_ret;simp_all)
def gZ:List Int->Int
 | []=>0
 |f::l=>if f≠0 then f else gZ l
def qX(a:List Int)(k)(b:k<a.length):gZ (a.drop k)=if a.getD k 0≠0 then a.getD k 0 else gZ (a.drop (k+1)):=by rw[Uf b];simp[gZ,UB,SK b]
open Go.RowKit in
def Ap(b f c:Nat)(zs:List Int)(w:World)(n:zs.length<=9223372036854775807)(l:∀k,k<zs.length->w.cell? ⟨b,f+k,none⟩=some (.int .i64 (zs.getD k 0))):
 Calls (Qs fs) 51 #[.slice (some ⟨b,f,none⟩) zs.length c] w λe w'=>e=.returned (.int .i64 (gZ zs))/\w'=w:=by
 go_enter (n51 L),Tryz.ntmps51;go_wp2
 go_loop [7] (λi=>∃k:Nat,k<=zs.length/\i=.int .i64 k/\gZ zs=gZ (zs.drop k)) (λi=>zs.length-(intOf i).toNat)
 case atStart=>exact⟨0,R9 _,rfl,rfl⟩
 case round=>
  obtain⟨k,o,rfl,g⟩:=hrel;have j:k<zs.length->w.cell? ⟨b,f+k,none⟩=some (.int .i64 (zs.getD k 0)):=λh=>l k h;go_wp2
  ·have a:k<zs.length:=by assumption
   have d:(zs[k]!=0)=true:=by assumption
   go_ret;refine⟨?_,rfl⟩;try rw[g]
   rw[qX zs k a];simp only[TQ]at d;simp[UB,SK a,d]
  ·have a:k<zs.length:=by assumption
   have d:(zs[k]!=0)=false:=by assumption
   refine⟨⟨k+1,by omega,by go_num,?_⟩,by simp[intOf];omega⟩;rw[g,qX zs k a];simp only[bne_eq_false_iff_eq]at d;simp[UB,SK a,d]
  ·have m:¬k<zs.length:=by assumption
   go_ret;refine⟨?_,rfl⟩;try rw[g]
   rw[SJ (by omega)];rfl
end Go.Proofs
namespace Go.Proofs
def oE(X Y:Nat->Nat)(k:Nat):Nat:=((List.range k).map λn=>min (X n) (Y n)).sum
def kL(X Y k):oE X Y (k+1)=oE X Y k+min (X k) (Y k):=by unfold oE;rw[Uw,T7,List.sum_append];simp
theorem oF{X Y Z}:∀{k},(∀n,n<k->Y n=Z n)->oE X Y k=oE X Z k
 |0,_=>rfl
 |k+1,h=>by rw[kL,kL,oF λn a=>h n (by omega),h k (by omega)]
theorem xu(X Y h):∀k,h<k->oE X (λn=>if n=h then Y n+1 else Y n) k=oE X Y k+if Y h<X h then 1 else 0
 |0,a=>by omega
 |k+1,a=>by
  rw[kL,kL];by_cases e:h=k
  ·subst e
   rw[oF (Z:=Y) λn b=>RY (by omega)];simp only[Sj];split<;>omega
  ·rw[xu X Y h k (by omega),RY (Sn e)]
   omega
theorem xw(X):∀k,oE X (λ_=>0) k=0
 |0=>rfl
 |k+1=>by rw[kL,xw X k];simp
def GM(a b):(b.filter λn=>a.contains n).length+(bn b a).length=b.length:=by
 unfold bn;induction b with
 |nil=>rfl
 |cons x b c=>rw[Tz,Tz];cases a.contains x<;>simp only[TD,Ul,Sj,Ss,Sp,R4]<;>omega
def BG{a b:List Int}(c:a.Nodup)(d:b.Nodup):(a.filter λn=>b.contains n).length=(b.filter λn=>a.contains n).length:=by
 have h:(a.filter λn=>b.contains n).Perm (b.filter λn=>a.contains n):=(VU (c.filter _) (d.filter _)).2 λx=>by rw[Ug,Ug];simp[and_comm]
 exact h.length_eq
def Ib(x y k):ni x y k=oE (λn=>aL x n) (λn=>aL y n) k:=rfl
def oG(l x n):aL (l++[x]) n=aL l n+if x/100=n then 1 else 0:=by
 unfold aL;rw[Ue,Sr]
 congr 1
 by_cases h:x/100=n
 ·rw[RZ h,Tz]
  simp[h]
 ·rw[RY h,Tz]
  simp[h]
abbrev EK:=Bool×Int
def bump(f:EK->Nat)(p:EK):EK->Nat:=λq=>if q=p then f p+1 else f q
def kM(l:List Int)(n:Int):Nat:=(l.filter λx=>x==n).length
def ue(l x n):kM (l++[x]) n=kM l n+if x=n then 1 else 0:=by
 unfold kM;rw[Ue,Sr]
 congr 1
 by_cases h:x=n
 ·rw[RZ h,Tz]
  simp[h]
 ·rw[RY h,Tz]
  simp[h]
def xx(l n):0<kM l n↔l.contains n=true:=by unfold kM;rw[List.length_pos_iff_exists_mem];simp[Ug]
def zO(l n):kM l n<=l.length:=Tk _ _
def rQ(l n):aL l n<=l.length:=Tk _ _
def nc(l m x):bn (l++[x]) m=if m.contains x then bn l m else bn l m++[x]:=by unfold bn;rw[Ue,Tz,List.filter_nil];cases m.contains x<;>simp
def mC(a b:List Int)(j:Nat):EK->Nat:=λp=>if p.1 then kM (a.take j) p.2 else aL (bn (a.take j) b) p.2
def J5(a b):mC a b 0=λ_=>0:=by
 funext p
 unfold mC;rw[SI];split<;>rfl
def iR{a:Type}(l:List a)(j)(h:j<l.length):l.take (j+1)=l.take j++[l[j]]:=by rw[List.take_add_one,SK h];rfl
def Ot(a b j)(h:j<a.length)(c:b.contains a[j]=true):mC a b (j+1)=bump (mC a b j) (true,a[j]):=by
 funext p
 obtain⟨t,n⟩:=p;unfold bump mC;rw[iR a j h,nc,RZ c];cases t with
 |true=>
  simp only[Sj,ue];by_cases e:n=a[j]
  ·subst e;simp
  ·rw[RY (Sn e),RY (λh=>e (Up h).2)]
   rfl
 |false=>simp
def MF(a b j)(h:j<a.length)(c:b.contains a[j]=false):mC a b (j+1)=bump (bump (mC a b j) (true,a[j])) (false,a[j]/100):=by
 have d:bn (a.take (j+1)) b=bn (a.take j) b++[a[j]]:=by rw[iR a j h,nc,RY (by rw[c];exact Ut)]
 have f:∀n,kM (a.take (j+1)) n=kM (a.take j) n+if a[j]=n then 1 else 0:=λn=>by rw[iR a j h,ue]
 funext p
 obtain⟨t,n⟩:=p;unfold bump mC;rw[d];cases t with
 |true=>
  simp only[Sj,f];by_cases e:n=a[j]
  ·subst e;simp
  ·rw[RY (Sn e),RY (λh=>by cases h),RY (λh=>e (Up h).2)]
   rfl
 |false=>
  simp only[Ss,Sp,oG];by_cases e:n=a[j]/100
  ·subst e;simp
  ·rw[RY (Sn e),RY (λh=>e (Up h).2)]
   simp
def nz(a b:List Int)(j:Nat):EK->Nat:=λp=>if p.1 then kM a p.2 else aL (bn a b) p.2-min (aL (bn a b) p.2) (aL (bn (b.take j) a) p.2)
def dZ(a b:List Int)(j:Nat):Nat:=((b.take j).filter λn=>a.contains n).length
def il(a b:List Int)(j:Nat):Nat:=ni (bn a b) (bn (b.take j) a) 10
def J6(a b):nz a b 0=mC a b a.length:=by
 funext p
 unfold nz mC;rw[SI,T6];have:aL (bn [] a) p.2=0:=rfl;rw[this];simp
def Ou(a b j)(h:j<b.length)(e:0<nz a b j (true,b[j])):nz a b (j+1)=nz a b j/\dZ a b (j+1)=dZ a b j+1/\il a b (j+1)=il a b j:=by
 have c:=(xx a b[j]).1 e;have d:bn (b.take (j+1)) a=bn (b.take j) a:=by rw[iR b j h,nc,RZ c]
 refine⟨?_,?_,?_⟩
 ·unfold nz;rw[d]
 ·unfold dZ
  rw[iR b j h,Ue,Sr,Tz,RZ c];rfl
 ·unfold il;rw[d]
def zP(f:EK->Nat)(p:EK):EK->Nat:=λq=>if q=p then f p-1 else f q
def MG(a b j)(h:j<b.length)(d:nz a b j (true,b[j])=0)(l:0<=b[j]/\b[j]<=999):
 dZ a b (j+1)=dZ a b j/\nz a b (j+1)=zP (nz a b j) (false,b[j]/100)/\il a b (j+1)=il a b j+if 0<nz a b j (false,b[j]/100)then 1 else 0:=by
 have c:¬a.contains b[j]=true:=λh=>by have:=(xx a b[j]).2 h;have d:kM a b[j]=0:=d;omega
 have f:bn (b.take (j+1)) a=bn (b.take j) a++[b[j]]:=by rw[iR b j h,nc,RY c]
 have g:=λn=>oG (bn (b.take j) a) b[j] n;refine⟨?_,?_,?_⟩
 ·unfold dZ
  rw[iR b j h,Ue,Sr,Tz,RY c];rfl
 ·funext p
  obtain⟨t,n⟩:=p;unfold zP nz;rw[f];cases t with
  |true=>simp
  |false=>
   simp only[Ss,Sp,g];by_cases e:n=b[j]/100
   ·subst e
    simp only[Sj];omega
   ·rw[RY (Sn e),RY (λh=>e (Up h).2),Tr]
 ·unfold il
  rw[f,Ib,Ib];obtain⟨H,i⟩:∃H:Nat,(H:Int)=b[j]/100:=⟨(b[j]/100).toNat,by omega⟩
  have k:H<10:=by omega
  have e1:oE (λn=>aL (bn a b) n) (λn=>aL (bn (b.take j) a++[b[j]]) n) 10=oE (λn=>aL (bn a b) n) (λn=>if n=H then aL (bn (b.take j) a) n+1 else aL (bn (b.take j) a) n) 10:=by
   refine oF λn m=>?_;show aL _ _=_;rw[g,<-i];by_cases e:n=H
   ·subst e;simp
   ·rw[RY e,RY (by omega)];rfl
  rw[e1,xu _ (λn=>aL (bn (b.take j) a) n) H 10 k]
  congr 1
  unfold nz;simp only[Ss,Sp,<-i];by_cases e:aL (bn (b.take j) a) (H:Int)<aL (bn a b) (H:Int)
  ·rw[RZ e,RZ (by omega)]
  ·rw[RY e,RY (by omega)]
def Ev(a b)(c:a≠[])(d:b≠[])(e:a.Nodup)(f:b.Nodup):bQ a b=(100*(2*(dZ a b b.length:Int)+(il a b b.length:Int)))/((a.length:Int)+(b.length:Int)):=by
 rw[tB a b c d];have g:a.length-(bn a b).length=dZ a b b.length:=by unfold dZ;rw[T6];have h:=GM b a;have i:=BG e f;omega
 unfold il;rw[g,T6];simp
def xy(a b j):dZ a b j<=b.length:=R3 (Tk _ _) (by rw[Tp];omega)
def Ew(a b j):il a b j<=10*a.length:=R3 (B7 _ _ _) (Nat.mul_le_mul_left _ (Tk _ _))
def Ic(a b j p):mC a b j p<=a.length:=by
 unfold mC;split
 ·exact R3 (zO _ _) (by rw[Tp];omega)
 ·exact R3 (rQ _ _) (R3 (Tk _ _) (by rw[Tp];omega))
def Ie(a b j p):nz a b j p<=a.length:=by
 unfold nz;split
 ·exact zO _ _
 ·exact R3 (Nat.sub_le _ _) (R3 (rQ _ _) (Tk _ _))
end Go.Proofs

import Derived.Deep.CutBlock
import Derived.Shelf.Lays
import Derived.Test.YtaglpcmhopjebaaGreatDoorU2
import Derived.Test.YtaglpcmhopjebaaGreatDoorU21
set_option linter.all false
set_option maxRecDepth 100000
set_option maxHeartbeats 20000000
namespace Go.Proofs
open Go.Tm Go.RowKit
variable {fs:Array Func} (L:bT fs)
theorem FK{b}{chk:List b->b->Int}:∀{seen l:List b} {i:Nat} (h:i<l.length),(∀j (e:j<i),chk (seen++l.take j) (l[j]'(by omega))=0)->chk (seen++l.take i) l[i]≠0->fp chk seen l=chk (seen++l.take i) l[i]
 |seen,x::xs,0,h,_,a=>by simp only[UL,Vb,Ws]at a⊢;unfold fp;rw[Ud a]
 |seen,x::xs,i+1,h,c,a=>by have d:=c 0 (by omega);simp only[UL,Vb,Ws]at d;unfold fp;rw[Uc (by rw[d];simp)];have:=FK (chk:=chk) (seen:=seen++[x]) (l:=xs) (i:=i) (by simpa using h) (λj e=>by simpa using c (j+1) (by omega)) (by simpa using a);simpa using this
theorem A3{a}{chk:List a->a->Int}:∀{seen l:List a},(∀j (b:j<l.length),chk (seen++l.take j) l[j]=0)->fp chk seen l=0
 |seen,[],_=>rfl
 |seen,x::xs,c=>by have d:=c 0 (by simp);simp only[UL,Vb,Ws]at d;unfold fp;rw[Uc (by rw[d];simp)];refine A3 λj b=>?_;have:=c (j+1) (by simpa using b);simpa only[UO,List.getElem_cons_succ,Vn,List.singleton_append]using this
def mX{a}{chk:List a->a->Int}{l:List a}{i:Nat}(h:i<l.length)(d:∀j (c:j<i) (g:j<l.length),chk (l.take j) l[j]=0){f:Int}(e:chk (l.take i) l[i]=f)(b:f≠0):fp chk [] l=f:=by subst e;have:=FK (chk:=chk) (seen:=[]) h (λj c=>by simpa using d j c (by omega)) (by simpa using b);simpa using this
def lp{a}{chk:List a->a->Int}{l:List a}(c:∀j (b:j<l.length),chk (l.take j) l[j]=0):fp chk [] l=0:=A3 λj b=>by simpa using c j b
def mY{a}{chk:List a->a->Int}{l:List a}{k:Nat}(c:∀j (_:j<k) (b:j<l.length),chk (l.take j) l[j]=0)(d:k<l.length)(h:chk (l.take k) l[k]=0):∀j (_:j<k+1) (b:j<l.length),chk (l.take j) l[j]=0:=λj e b=>by obtain h2|h2:=Uh j k;exact c j h2 b;(have:j=k:=by omega);subst this;exact h
def FL{a}{l:List a}{p:a->Bool}{i:Nat}:(l.take i).any p=false↔∀j (_:j<i) (e:j<l.length),p l[j]=false:=by rw[VN];constructor;intro h j b f;(have c:l[j]∈l.take i:=by rw[Xl];exact⟨j,by omega,rfl⟩);simpa using h _ c;intro h x d;obtain⟨j,b,rfl⟩:=Xl.1 d;simp[h j (by omega) (by omega)]
def LD{s:ByteArray}(h:s.size=0\/10<s.size):cu s=false:=by unfold cu aw;obtain h|h:=h;rw[h];rfl;rw[show decide ((s.size:Int)<=10)=false from Uj (by omega),WT,Xe,Xe]
def head_data{s:ByteArray}(h:0<s.size):s.data.toList.head?=some s[0]:=by (have a:0<s.data.toList.length:=by rw[<-Lib.size_eq];exact h);rw[List.head?_eq_getElem?,UG a];rfl
def FO{s:ByteArray}{p:UInt8->Bool}:s.data.toList.all p=true↔∀j (h:j<s.size),p s[j]=true:=by rw[UJ];constructor;intro h j a;exact h _ (Up (l:=s.data.toList) (n:=j) (by rw[<-Lib.size_eq];exact a));intro h x b;obtain⟨j,a,rfl⟩:=V7 b;exact h j (by rw[Lib.size_eq];exact a)
def IP{s:ByteArray}(b:s.size≠0)(c:s.size<=10)(a:aQ (s[0]'(by omega))=true)(h:∀j (h:j<s.size),(aQ s[j]||js s[j])=true):cu s=true:=by unfold cu aw;rw[head_data (by omega),FO.2 h,Um (by omega),Um (by omega)];simpa using a
def yC{s:ByteArray}{k:Nat}(c:k<s.size)(h:aQ s[k]=false)(a:js s[k]=false\/k=0):cu s=false:=by rw[WW];intro b;unfold cu at b;simp only[Un]at b;obtain⟨⟨_,d⟩,e⟩:=b;obtain a|rfl:=a;have:=FO.1 e k c;rw[h,a]at this;cases this;rw[head_data c]at d;simp[h]at d
def Ql(s:ByteArray)(w:World)(M:s.size<=9223372036854775807):Calls (Qs fs) 111 #[.string s] w λe w'=>e=.returned (.bool (cu s))/\Below w.heap.size w w':=by
 have e60:=e60 L;by_cases h0:s.size=0\/10<s.size
 ·rw[LD h0];go_enter (n111 L),Tryz.ntmps111;obtain h0|h0:=h0
  ·(have t:((s.size:Int)==0)=true:=by rw[U3];omega);go_wp2;go_ret;exact⟨rfl,Below.refl _ _⟩
  have t:((s.size:Int)==0)=false:=by rw[UE];omega
  have F:decide ((10:Int)<(s.size:Int))=true:=Um (by omega);go_wp2;go_ret;exact⟨rfl,Below.refl _ _⟩
 have t:((s.size:Int)==0)=false:=by rw[UE];omega
 have F:decide ((10:Int)<(s.size:Int))=false:=Uj (by omega);have h0:s.size≠0/\s.size<=10:=by omega
 go_enter (n111 L),Tryz.ntmps111;go_wp2;go_loopw [3] (λi wr=>∃k:Nat,k<=s.size/\i=.int .i64 k/\(∀j (h:j<k) (G:j<s.size),(aQ s[j]||js s[j])=true)/\(0<k->aQ (s[0]'(by omega))=true)/\Below w.heap.size w wr) (λi _=>s.size-(intOf i).toNat);case atStart=>exact⟨0,Ul _,rfl,λj h=>absurd h (Ut _),λh=>absurd h (Nat.lt_irrefl _),Below.refl _ _⟩
 case round=>
  obtain⟨k,N,rfl,u,v,z⟩:=hrel;have A:Hid _:=u;have o:Hid _:=v;have p:Hid _:=z;clear u v z;obtain c|hge:=Uh k s.size
  ·have O:k<s.size:=c;(obtain⟨m,d⟩:=ex (aQ s[k]);obtain⟨n,f⟩:=ex (js s[k]);have g:wrap64 (s[k].toNat:Int)=s[k].toNat:=by have:=s[k].toNat_lt;unfold wrap64;omega);(have B:∀x:aj w wr,Calls (Qs fs) 60 #[.int .i64 (wrap64 (s[k].toNat:Int)),.int .i64 97,.int .i64 122] x.val λe w'=>e=.returned (.bool m)/\∃y:aj w wr,w'=y.val:=λx=>by rw[d,g];exact aj.same (L9 L _ _ _ x.val));(have C:∀x:aj w wr,Calls (Qs fs) 60 #[.int .i64 (wrap64 (s[k].toNat:Int)),.int .i64 48,.int .i64 57] x.val λe w'=>e=.returned (.bool n)/\∃y:aj w wr,w'=y.val:=λx=>by rw[f,g];exact aj.same (L9 L _ _ _ x.val));(have l:Hid _:=(⟨d,f⟩:m=aQ s[k]/\n=js s[k]));(clear d f g;go_upto_region 6 with fail;refine aV (w0:=w) (w1:=wr) 10 (by kernel_rfl) (by kernel_rfl) (ae.refl _) p.out ?_;simp only[UO,UL,UU,UM];haveI q:Nonempty (aj w wr):=⟨⟨wr,ae.refl _,p.out⟩⟩);(repeat (go_big_quiet_step (first|(go_at_call 60;first|exact B _|exact C _))));refine wpQuiet_nil ?_;rintro P ⟨⟨_,H,D⟩,rfl⟩;have a:Hid _:=D;clear B C q H D;by_cases r:k=0
   ·subst r
    cases m with
    |true=>(go_wp2;refine⟨⟨1,by omega,by go_num,λj I E=>?_,λ_=>l.out.1.symm,a.out⟩,by simp[intOf];omega⟩;have:j=0:=by omega);subst this;rw[<-l.out.1];rfl
    |false=>cases n<;>(go_wp2;go_ret;exact⟨by rw[yC c l.out.1.symm (.inr rfl)];rfl,a.out⟩)
   (have J:((k:Int)==0)=false:=by rw[UE];omega);(have b:(m||n)=true->∀j (h:j<k+1) (G:j<s.size),(aQ s[j]||js s[j])=true:=λK j I E=>by obtain h3|h3:=Uh j k;exact A.out j h3 E;(have:j=k:=by omega);subst this;rw[<-l.out.1,<-l.out.2];exact K);have HS:Hid _:=b;clear b;cases m with|true=>go_wp2;exact⟨⟨k+1,by omega,by go_num,HS.out rfl,λ_=>o.out (by omega),a.out⟩,by simp[intOf];omega⟩|false=>cases n with|true=>go_wp2;exact⟨⟨k+1,by omega,by go_num,HS.out rfl,λ_=>o.out (by omega),a.out⟩,by simp[intOf];omega⟩|false=>go_wp2;go_ret;exact⟨by rw[yC c l.out.1.symm (.inl l.out.2.symm)];rfl,a.out⟩
  go_wp2;go_ret;exact⟨by rw[IP h0.1 h0.2 (o.out (by omega)) λj h=>A.out j (by omega) h];rfl,p.out⟩
def IQ(l:List Pr2)(i:Nat)(hi:i<l.length):letterF (l.take i) l[i]=if !bd l[i].1 4 then 3 else if(l.take i).any (λq=>decide (q.1=l[i].1))then 5 else if !bc l[i].2 1 3 then 3 else 0:=rfl
def yD{K:Nat->Prop}{v:Value}{l:List Pr2}(w:World)(M:aE K 2 dA w v l)(Y:∀p∈l,p.1.size<=1000/\p.2.size<=1000)(hn:l.length<=1000):Calls (Qs fs) 58 #[v] w λe w'=>e=.returned (.int .i64 (aT 0 12 letterF l))/\Below w.heap.size w w':=by
 have RR:=RR L;have e61:=e61 L;obtain⟨ao,c,rfl,af,hc,_,n⟩:=M;by_cases ag:12<l.length
 ·have g:(12:Int)<(l.length:Int):=by omega
  have e:aT 0 12 letterF l=2:=by unfold aT aw;rw[Uj (p:=(l.length:Int)<=12) (by omega),WT];rfl
  rw[e];clear Y n;go_enter (n58 L),Tryz.ntmps58;go_wp2;go_ret;exact⟨rfl,Below.refl _ _⟩
 have g:decide ((12:Int)<(l.length:Int))=false:=Uj (by omega);have e:aT 0 12 letterF l=fp letterF [] l:=by unfold aT aw;rw[Um (by omega),Um (by omega)];rfl
 rw[e];clear e;have HS:Hid _:=Y;have HC:Hid _:=n;clear Y n;go_enter (n58 L),Tryz.ntmps58;go_wp2;go_loopw [3] (λs wr=>∃k:Nat,k<=l.length/\s=.int .i64 k/\(∀j (_:j<k) (Z:j<l.length),letterF (l.take j) l[j]=0)/\Below w.heap.size w wr) (λs _=>l.length-(intOf s).toNat);case atStart=>exact⟨0,Ul _,rfl,λj h=>absurd h (Ut _),Below.refl _ _⟩
 case round=>
  obtain⟨k,hk,rfl,hf,hb⟩:=hrel;have HF:Hid _:=hf;have U:Hid _:=hb;clear hf hb;obtain t|hge:=Uh k l.length
  ·obtain⟨b,F,rfl,hx⟩:=HC.out k t;obtain⟨G,C⟩:=HS.out l[k] (Up t);obtain⟨u,y⟩:=hx;have a:=IQ l k t;have V:=ae.below U.out;have HR:Hid (∀j (hj:j<l.length),wr.cell? ⟨b,F+j*2,none⟩=some (.string l[j].1)):=λj hj=>by obtain⟨b',o',e',hy⟩:=HC.out j hj;cases e';exact V.cell hy.1
   have u:=V.cell u;have y:=V.cell y;clear V;obtain⟨p,hp⟩:=ex (l[k]);rw[<-hp]at u y G C a;obtain⟨p0,W⟩:=p;simp only[]at u y G C a;have z:=λwx=>Dk L p0 4 wx (by omega);have B:=λwx=>m8 L W 1 3 wx (by omega);obtain⟨z1,N⟩:=ex (bd p0 4);obtain⟨z2,O⟩:=ex (bc W 1 3);simp only[<-N]at z a;simp only[<-O]at B a;have HP:Hid _:=hp;have X:Hid _:=a;clear N O hp a;have D:∀{f:Int},letterF (l.take k) (p0,W)=f->f≠0->fp letterF [] l=f:=λG C=>mX t HF.out (by rw[<-HP.out];exact G) C;have HG:Hid (letterF (l.take k) (p0,W)=0->∀j (_:j<k+1) (Z:j<l.length),letterF (l.take j) l[j]=0):=λh=>mY HF.out t (by rw[<-HP.out];exact h);have H:Hid _:=@D;clear D;cases z1 with
   |false=>have A:=H.out (X.out.trans rfl:_=(3:Int)) (by decide);have HV:Hid _:=A;clear A B;go_wp2_with (first|(go_at_call 110;refine(z _).mono ?_;rintro e w' ⟨rfl,rfl⟩));go_ret;exact⟨by rw[HV.out];rfl,U.out⟩
   |true=>
    (go_upto_block 2 with(first|(go_at_call 110;refine(z _).mono ?_;rintro e w' ⟨rfl,m⟩;rw[m];clear m)));go_wp2;go_loopw [4] (λs wi=>∃j:Nat,j<=k/\s=.int .i64 j/\(∀i (_:i<j) (Z:i<l.length),l[i].1≠p0)/\ae wr wi/\Below w.heap.size w wi) (λs _=>k-(intOf s).toNat);case atStart=>exact⟨0,Ul _,rfl,λj h=>absurd h (Ut _),ae.refl _,U.out⟩
    case round=>
     (obtain⟨j,hj,rfl,P,o,I⟩:=hrel;have HN:Hid _:=P;have Q:Hid _:=(⟨o,I⟩:_/\Below w.heap.size w wr));have y1:=o.cell u;have y2:=o.cell y;clear P;obtain hjk|hjk:=Uh j k
     ·have y0:=o.cell (HR.out j (by omega));(obtain⟨r,hr⟩:=ex (l[j].1);rw[<-hr]at y0;have l0:∀x:aj w wr,x.val.cell? ⟨b,F+j*2,none⟩=some (.string r):=λx=>x.st.cell y0;have l1:∀x:aj w wr,x.val.cell? ⟨b,F+k*2,none⟩=some (.string p0):=λx=>x.st.cell y1;obtain⟨d,hd⟩:=ex (decide (r=p0));have J:=j5 r p0;rw[<-hd]at J;have HD:Hid _:=hd;have R:Hid _:=hr;clear hd;clear hr o I;go_upto_region 11 with fail;refine aY (w0:=w) (w1:=wr) (by kernel_rfl) (by kernel_rfl) (ae.refl _) Q.out.2 ?_;haveI aa:Nonempty (aj w wr):=⟨⟨wr,ae.refl _,Q.out.2⟩⟩);(repeat (go_big_quiet_step (fail)));(refine wpQuiet_nil ?_;rintro wz ⟨⟨_,Sz,Bz⟩,rfl⟩;have HZ:Hid _:=(⟨Q.out.1.trans Sz,Bz⟩:_/\_));clear l0 l1 aa Sz Bz y0 y1 y2;cases d with|true=>have S:r=p0:=UF HD.out.symm;have A:=H.out (X.out.trans (by rw[Uc (by simp),Ud];rw[U9];exact⟨l[j],Xl.2 ⟨j,by omega,rfl⟩,Um (R.out▸S)⟩):_=(5:Int)) (by decide);have HV:Hid _:=A;clear J S A;go_wp2;go_ret;exact⟨by rw[HV.out];rfl,HZ.out.2⟩|false=>(have S:r≠p0:=Xa HD.out.symm;have T:∀i (_:i<j+1) (Z:i<l.length),l[i].1≠p0:=λi G C=>by obtain h3|h3:=Uh i j;exact HN.out i h3 C;(have:i=j:=by omega);subst this;exact R.out▸S);have ab:Hid _:=T;clear J S T;go_wp2;exact⟨⟨j+1,by omega,by go_num,ab.out,HZ.out.1,HZ.out.2⟩,by simp[intOf];omega⟩
     (have ad:j=k:=by omega);subst ad;have E:(l.take j).any (λq=>decide (q.1=p0))=false:=FL.2 λi G C=>Uj (HN.out i G C);have HA:Hid _:=E;clear E o I;cases z2 with|false=>have A:=H.out (X.out.trans (by rw[HA.out];rfl):_=(3:Int)) (by decide);have HV:Hid _:=A;clear A;go_wp2_with (first|(go_at_call 61;refine(B _).mono ?_;rintro e w' ⟨rfl,m⟩;rw[m];clear m));go_ret;exact⟨by rw[HV.out];rfl,Q.out.2⟩|true=>have A:=HG.out (X.out.trans (by rw[HA.out];rfl));have HV:Hid _:=A;clear A;go_wp2_with (first|(go_at_call 61;refine(B _).mono ?_;rintro e w' ⟨rfl,m⟩;rw[m];clear m));exact⟨⟨j+1,by omega,by go_num,HV.out,Q.out.2⟩,by simp[intOf];omega⟩
  go_wp2;go_ret;exact⟨by rw[lp λj h=>HF.out j (by omega) h];rfl,U.out⟩
def IS(l:List fT)(i:Nat)(hi:i<l.length)(n:ByteArray)(ss:List Pr2):de (l.take i) ⟨n,ss⟩=if !cu n then 4 else if(l.take i).any (λq=>decide (q.name=n))then 5 else aT 0 5 dQ ss:=rfl
def yE{K:Nat->Prop}{v:Value}{l:List fT}(w:World)(ab:aE K 2 eZ w v l)(hs:∀t∈l,t.name.size<=1000/\∀p∈t.aP,p.1.size<=1000/\p.2.size<=1000)(hn:l.length<=1000):Calls (Qs fs) 59 #[v] w λe w'=>e=.returned (.int .i64 (aT 0 3 de l))/\Below w.heap.size w w':=by
 have RS:=RS L;have e61:=e61 L;obtain⟨ao,c,rfl,a7,hc,_,C⟩:=ab;by_cases a8:3<l.length
 ·have g:(3:Int)<(l.length:Int):=by omega
  have e:aT 0 3 de l=2:=by unfold aT aw;rw[Uj (p:=(l.length:Int)<=3) (by omega),WT];rfl
  rw[e];clear hs C;go_enter (n59 L),Tryz.ntmps59;go_wp2;go_ret;exact⟨rfl,Below.refl _ _⟩
 have g:decide ((3:Int)<(l.length:Int))=false:=Uj (by omega);have e:aT 0 3 de l=fp de [] l:=by unfold aT aw;rw[Um (by omega),Um (by omega)];rfl
 rw[e];clear e;have HS:Hid _:=hs;have HC:Hid _:=C;clear hs C;go_enter (n59 L),Tryz.ntmps59;go_wp2;go_loopw [3] (λs wr=>∃k:Nat,k<=l.length/\s=.int .i64 k/\(∀j (_:j<k) (h':j<l.length),de (l.take j) l[j]=0)/\Below w.heap.size w wr) (λs _=>l.length-(intOf s).toNat);case atStart=>exact⟨0,Ul _,rfl,λj h=>absurd h (Ut _),Below.refl _ _⟩
 case round=>
  obtain⟨k,hk,rfl,hf,hb⟩:=hrel;have HF:Hid _:=hf;have HB:Hid _:=hb;clear hf hb;obtain G|hge:=Uh k l.length
  ·obtain⟨b,P,rfl,hx⟩:=HC.out k G;obtain⟨Q,F⟩:=HS.out l[k] (Up G);obtain⟨D,vs,R,H⟩:=hx;have HR:Hid (∀j (hj:j<l.length),w.cell? ⟨b,P+j*2,none⟩=some (.string l[j].name)):=λj hj=>by obtain⟨b',o',e',hy⟩:=HC.out j hj;cases e';exact hy.1
   have S0:=ae.below HB.out;have S:w.cell? ⟨b,P+k*2+1,none⟩=some vs:=R;have D:=S0.cell D;have R:=S0.cell R;clear S0;obtain⟨p,hp⟩:=ex (l[k]);rw[<-hp]at D Q F H;obtain⟨p0,p1⟩:=p;simp only[]at D R Q F H;have a:=IS l k G p0 p1;have I:=λwx=>Ql L p0 wx (by omega);obtain⟨z1,J⟩:=ex (cu p0);simp only[<-J]at I a;have HP:Hid _:=hp;have HL:Hid _:=a;clear J hp a;have U:∀{f:Int},de (l.take k) ⟨p0,p1⟩=f->f≠0->fp de [] l=f:=λQ F=>mX G HF.out (by rw[<-HP.out];exact Q) F;have HG:Hid (de (l.take k) ⟨p0,p1⟩=0->∀j (_:j<k+1) (h':j<l.length),de (l.take j) l[j]=0):=λh=>mY HF.out G (by rw[<-HP.out];exact h);have T:Hid _:=@U;clear U;have q1:=I wr;clear I;cases z1 with
   |false=>have B:=T.out (HL.out.trans rfl:_=(4:Int)) (by decide);have HV:Hid _:=B;clear B;go_wp2_with (first|(go_at_call 111;refine q1.mono ?_;rintro e w3 ⟨rfl,M⟩));go_ret;exact⟨by rw[HV.out];rfl,HB.out.trans (M.mono HB.out.size)⟩
   |true=>
    (go_upto_block 2 with(first|(go_at_call 111;refine q1.mono ?_;rintro e w3 ⟨rfl,M⟩)));have an:Hid (Below w.heap.size w w3):=HB.out.trans (M.mono HB.out.size);have D:=(ae.below M).cell D;clear M q1;go_wp2;go_loopw [4] (λs wi=>∃j:Nat,j<=k/\s=.int .i64 j/\(∀i (_:i<j) (h':i<l.length),l[i].name≠p0)/\ae w3 wi/\Below w.heap.size w wi) (λs _=>k-(intOf s).toNat);case atStart=>exact⟨0,Ul _,rfl,λj h=>absurd h (Ut _),ae.refl _,an.out⟩
    case round=>
     (obtain⟨j,hj,rfl,N,A,n⟩:=hrel;have HN:Hid _:=N;have HI:Hid _:=(⟨A,n⟩:_/\Below w.heap.size w wr));have y1:=A.cell D;have y2:=(ae.below n).cell S;clear N;obtain hjk|hjk:=Uh j k
     ·have y0:=(ae.below n).cell (HR.out j (by omega));(obtain⟨r,X⟩:=ex (l[j].name);rw[<-X]at y0;have l0:∀x:aj w wr,x.val.cell? ⟨b,P+j*2,none⟩=some (.string r):=λx=>x.st.cell y0;have l1:∀x:aj w wr,x.val.cell? ⟨b,P+k*2,none⟩=some (.string p0):=λx=>x.st.cell y1;obtain⟨d,hd⟩:=ex (decide (r=p0));have Y:=j5 r p0;rw[<-hd]at Y;have HD:Hid _:=hd;have O:Hid _:=X;clear hd;clear X A n;go_upto_region 11 with fail;refine aY (w0:=w) (w1:=wr) (by kernel_rfl) (by kernel_rfl) (ae.refl _) HI.out.2 ?_;haveI ar:Nonempty (aj w wr):=⟨⟨wr,ae.refl _,HI.out.2⟩⟩);(repeat (go_big_quiet_step (fail)));(refine wpQuiet_nil ?_;rintro wz ⟨⟨_,Sz,Bz⟩,rfl⟩;have HZ:Hid _:=(⟨HI.out.1.trans Sz,Bz⟩:_/\_));clear l0 l1 ar Sz Bz y0 y1 y2;cases d with|true=>have he:r=p0:=UF HD.out.symm;have B:=T.out (HL.out.trans (by rw[Uc (by simp),Ud];rw[U9];exact⟨l[j],Xl.2 ⟨j,by omega,rfl⟩,Um (O.out▸he)⟩):_=(5:Int)) (by decide);have HV:Hid _:=B;clear Y he B;go_wp2;go_ret;exact⟨by rw[HV.out];rfl,HZ.out.2⟩|false=>(have he:r≠p0:=Xa HD.out.symm;have ad:∀i (_:i<j+1) (h':i<l.length),l[i].name≠p0:=λi Q F=>by obtain h3|h3:=Uh i j;exact HN.out i h3 F;(have:i=j:=by omega);subst this;exact O.out▸he);have ax:Hid _:=ad;clear Y he ad;go_wp2;exact⟨⟨j+1,by omega,by go_num,ax.out,HZ.out.1,HZ.out.2⟩,by simp[intOf];omega⟩
     (have ay:j=k:=by omega);(subst ay;have V:(l.take j).any (λq=>decide (q.name=p0))=false:=FL.2 λi Q F=>Uj (HN.out i Q F);have HA:Hid (de (l.take j) ⟨p0,p1⟩=aT 0 5 dQ p1):=by rw[Hid,HL.out,V];rfl);(have H:=H.stays (ae.below n) λx y o z e h=>by subst e;exact⟨(ae.below n).cell h.1,(ae.below n).cell h.2⟩);obtain⟨ba,cs,rfl,bb,bk,_,E⟩:=H;have aM:Hid _:=E;clear V A n E;by_cases h5:5<p1.length
     ·(have g5:(5:Int)<(p1.length:Int):=by omega);have B:=T.out (HA.out.trans (by unfold aT aw;rw[Uj (p:=(p1.length:Int)<=5) (by omega),WT];rfl):_=(2:Int)) (by decide);have HV:Hid _:=B;clear B;go_wp2;go_ret;exact⟨by rw[HV.out];rfl,HI.out.2⟩
     have g5:decide ((5:Int)<(p1.length:Int))=false:=Uj (by omega);(have e5:aT 0 5 dQ p1=fp dQ [] p1:=by unfold aT aw;rw[Um (by omega),Um (by omega)];rfl);have af:Hid _:=HA.out.trans e5;clear e5
     (go_upto_block 4 with fail);go_wp2;go_loopw [5] (λs wi=>∃m:Nat,m<=p1.length/\s=.int .i64 m/\(∀i (_:i<m) (h':i<p1.length),dQ (p1.take i) p1[i]=0)/\ae wr wi/\Below w.heap.size w wi) (λs _=>p1.length-(intOf s).toNat);case atStart=>exact⟨0,Ul _,rfl,λj h=>absurd h (Ut _),ae.refl _,HI.out.2⟩
     case round=>
      (obtain⟨m,hm,rfl,N,A,n⟩:=hrel;have Z:Hid _:=N;have ag:Hid _:=(⟨A,n⟩:_/\Below w.heap.size w wr));have y3:=A.cell y2;clear N;obtain hmk|hmk:=Uh m p1.length
      ·obtain⟨b2,o2,rfl,u1,u2⟩:=aM.out m hmk;(obtain⟨k1,k2⟩:=F p1[m] (Up hmk);have u1:=A.cell u1;have u2:=A.cell u2;have a:dQ (p1.take m) p1[m]=if !bc p1[m].1 1 3|| !bc p1[m].2 0 p1[m].1.size then 3 else 0:=rfl);obtain⟨r,X⟩:=ex (p1[m]);rw[<-X]at u1 u2 k1 k2 a;obtain⟨r0,r1⟩:=r;simp only[]at u1 u2 k1 k2 a;have qa:=λwx=>m8 L r0 1 3 wx (by omega);have qb:=λwx=>m8 L r1 0 r0.size wx (by omega);obtain⟨z1,J⟩:=ex (bc r0 1 3);obtain⟨z2,S⟩:=ex (bc r1 0 r0.size);simp only[<-J]at qa a;simp only[<-S]at qb a;have O:Hid _:=X;have aa:Hid _:=a;have S2:Hid _:=ae.alloc wr (.cells #[.string r0,.string r1] 51);have B2:Hid _:=n.alloc n.size (.cells #[.string r0,.string r1] 51);clear J S X a A n;have ak:∀{f:Int},dQ (p1.take m) (r0,r1)=f->f≠0->fp de [] l=f:=λQ F=>T.out (af.out.trans (mX hmk Z.out (by rw[<-O.out];exact Q) F)) F;have W:Hid _:=@ak;have a1:Hid (dQ (p1.take m) (r0,r1)=0->∀i (_:i<m+1) (h':i<p1.length),dQ (p1.take i) p1[i]=0):=λh=>mY Z.out hmk (by rw[<-O.out];exact h);clear ak;cases z1 with|false=>have B:=W.out (aa.out.trans rfl:_=(3:Int)) (by decide);have HV:Hid _:=B;clear B;go_wp2_with (first|(go_at_call 61;refine(qa _).mono ?_;rintro e w' ⟨rfl,u⟩;rw[u];clear u));go_ret;exact⟨by rw[HV.out];rfl,B2.out⟩|true=>cases z2 with|false=>have B:=W.out (aa.out.trans rfl:_=(3:Int)) (by decide);have HV:Hid _:=B;clear B;go_wp2_with (first|(go_at_call 61;first|(refine(qa _).mono ?_;rintro e w' ⟨rfl,u⟩;rw[u];clear u)|(refine(qb _).mono ?_;rintro e w' ⟨rfl,u⟩;rw[u];clear u)));go_ret;exact⟨by rw[HV.out];rfl,B2.out⟩|true=>have B:=a1.out (aa.out.trans rfl);have HV:Hid _:=B;clear B;go_wp2_with (first|(go_at_call 61;first|(refine(qa _).mono ?_;rintro e w' ⟨rfl,u⟩;rw[u];clear u)|(refine(qb _).mono ?_;rintro e w' ⟨rfl,u⟩;rw[u];clear u)));exact⟨⟨m+1,by omega,by go_num,HV.out,ag.out.1.trans S2.out,B2.out⟩,by simp[intOf];omega⟩
      (have a6:m=p1.length:=by omega);subst a6;have B:=HG.out (af.out.trans (lp λi h=>Z.out i h h));have HV:Hid _:=B;clear B A n;go_wp2;exact⟨⟨j+1,by omega,by go_num,HV.out,ag.out.2⟩,by simp[intOf];omega⟩
  go_wp2;go_ret;exact⟨by rw[lp λj h=>HF.out j (by omega) h];rfl,HB.out⟩
end Go.Proofs
namespace Go.Proofs
open Go.Tm Go.RowKit
section
variable (fs:Array Func)
def iV(t):(Qs fs).fieldsOf t=Tryz.prog.fieldsOf t:=by unfold Program.fieldsOf;rw[aI]
def Pd{t}(h:Tryz.prog.eqGuardType Tryz.prog.depth t=false):(Qs fs).eqGuardType (Qs fs).depth t=false:=by rw[mF,show(Qs fs).depth=Tryz.prog.depth from rfl];exact h
def rR{t}(h:Tryz.prog.stoodInHeld t=false):(Qs fs).stoodInHeld t=false:=by rw[ey];exact h
def og{t l}(h:Tryz.prog.underlying t=some (.struct l)):(Qs fs).underlying t=some (.struct ((Qs fs).fieldsOf t)):=by rw[iV,aI];unfold Program.fieldsOf;rw[h]
def vZ:Tryz.prog.eqGuardType Tryz.prog.depth 86=false:=by kernel_rfl
def Jc:Tryz.prog.stoodInHeld 86=false:=by kernel_rfl
def Pe:Tryz.prog.eqGuardType Tryz.prog.depth 66=false:=by kernel_rfl
def Pf:Tryz.prog.stoodInHeld 66=false:=by kernel_rfl
def Pg:Tryz.prog.eqGuardType Tryz.prog.depth 96=false:=by kernel_rfl
def Ph:Tryz.prog.stoodInHeld 96=false:=by kernel_rfl
def DN(a b c x y z w):(binOp .eql 86 (.agg #[.int .i64 a,.int .i64 b,.int .i64 c]) (.agg #[.int .i64 x,.int .i64 y,.int .i64 z])).run (Qs fs) w=.ok (.bool (decide (a=x/\b=y/\c=z))) w:=by rw[run_eql_struct,run_equalIn_struct w _ 86 _ _ (og fs Tryz.underlying86) (rR fs Jc),iV,Program.fieldsOf,Tryz.underlying86];simp[go_sem];by_cases d:a=x<;>by_cases e:b=y<;>by_cases f:c=z<;>simp[d,e,f]
def zU(a b c x y z w):(binOp .neq 86 (.agg #[.int .i64 a,.int .i64 b,.int .i64 c]) (.agg #[.int .i64 x,.int .i64 y,.int .i64 z])).run (Qs fs) w=.ok (.bool (!decide (a=x/\b=y/\c=z))) w:=by rw[run_neq_struct,run_equalIn_struct w _ 86 _ _ (og fs Tryz.underlying86) (rR fs Jc),iV,Program.fieldsOf,Tryz.underlying86];simp[go_sem];by_cases d:a=x<;>by_cases e:b=y<;>by_cases f:c=z<;>simp[d,e,f]
def JY(a b c x y z w):(binOp .neq 66 (.agg #[.int .i64 a,.int .i64 b,.int .i64 c]) (.agg #[.int .i64 x,.int .i64 y,.int .i64 z])).run (Qs fs) w=.ok (.bool (!decide (a=x/\b=y/\c=z))) w:=by rw[run_neq_struct,run_equalIn_struct w _ 66 _ _ (og fs Tryz.underlying66) (rR fs Pf),iV,Program.fieldsOf,Tryz.underlying66];simp[go_sem];by_cases d:a=x<;>by_cases e:b=y<;>by_cases f:c=z<;>simp[d,e,f]
def JZ(a b c x y z w):(binOp .neq 96 (.agg #[.int .i64 a,.int .i64 b,.int .u8 c]) (.agg #[.int .i64 x,.int .i64 y,.int .u8 z])).run (Qs fs) w=.ok (.bool (!decide (a=x/\b=y/\c=z))) w:=by rw[run_neq_struct,run_equalIn_struct w _ 96 _ _ (og fs Tryz.underlying96) (rR fs Ph),iV,Program.fieldsOf,Tryz.underlying96];simp[go_sem];by_cases d:a=x<;>by_cases e:b=y<;>by_cases f:c=z<;>simp[d,e,f]
def iW{t}(h:Tryz.prog.eqGuardType Tryz.prog.depth t=false)(a x y xs b w):(eqGuard a t x y (.agg xs) (.agg b)).run (Qs fs) w=.ok () w:=run_eqGuard_agg w a t x y xs b (Pd fs h)
end
def MH{s:Array Bool}{i k}(h:(s.setIfInBounds i true).getD k false=true):k=i\/s.getD k false=true:=by by_cases e:k=i;exact .inl e;right;rw[U7,Ur (Ux e)]at h;rw[U7];exact h
def aN{s:Array Bool}{i k}(h:(s.setIfInBounds i true).getD k false=true)(a:k≠i):s.getD k false=true:=(MH h).resolve_left a
section
variable {P:Program} {md:Region.Mode} {ops:Array Oper} {Q:Exit->Act->World->Prop} {I:Array Bool->Act->World->Prop}
theorem kv(c:∀s a w i,I s a w->i∈Region.ready md ops s->wpOp P ops Q i (λk w'=>I (s.setIfInBounds i true) k w') a w) (d:∀s a w,I s a w->Region.ready md ops s=[]->Q .normal a w):∀(f) (s) (a) (w),s.toList.count false<=f->I s a w->wpAny P md ops Q f s a w
 |0,s,a,w,q,h=>by
  have n:Region.ready md ops s=[]:=by
   rw[List.eq_nil_iff_forall_not_mem];intro i hi;obtain⟨e,_⟩:=mem_ready.1 hi;have:false∈s.toList:=by
    rw[U7]at e;cases l:s[i]? with
    |none=>rw[l]at e;cases e
    |some b=>rw[l]at e;have m:b=false:=e;subst m;exact Vm (by rw[Vg];exact l)
   have:=List.count_pos_iff.2 this;omega
  exact⟨n,d s a w h n⟩
 |f+1,s,a,w,q,h=>by
  refine⟨d s a w h,λi hi=>wpOp_mono (λk w' r=>kv c d f _ k w' ?_ r) (c s a w i h hi)⟩;obtain⟨e,_⟩:=mem_ready.1 hi;rw[U7]at e;have g:i<s.size:=by
   obtain h|h:=Uh i s.size
   ·exact h
   ·rw[Vz h]at e;cases e
  rw[UD g]at e;have m:s[i]=false:=e;have o:i<s.toList.length:=by simpa using g
  have j:s.toList[i]=false:=by rw[Xo];exact m
  rw[XX];have p:=List.count_set (a:=true) (b:=false) o;rw[j]at p;have t:0<s.toList.count false:=List.count_pos_iff.2 (j▸Up o);simp only[beq_self_eq_true,Us,Vp,show(true==false)=false from rfl,Uz,Uy]at p;omega
def SP(ops:Array Oper):Bool:=(List.range ops.size).all λk=>match ops[k]? with
 |some o=>o.after.all λe=>decide (e.on<k)
 |none=>true
theorem Ee{s}(a:s.size=ops.size)(d:SP ops=true)(f:Region.ready md ops s=[]):∀(n k),k<n->k<ops.size->s.getD k false=true
 |0,k,h,_=>absurd h (Ut _)
 |n+1,k,h,b=>by
  cases g:s.getD k false with
  |true=>rfl
  |false=>
   exfalso;have c:k<s.size:=by omega
   have l:s.getD k true=false:=by rw[U7,UD c]at g⊢;exact g
   have i:k∈Region.ready md ops s:=mem_ready.2 ⟨l,ops[k],UD b,λe m _=>by have j:=UJ.1 d k (Xb.2 b);rw[UD b]at j;have o:=V8.1 j e m;have p:e.on<k:=UF o;exact Ee a d f n e.on (by omega) (by omega)⟩
   rw[f]at i;cases i
end
def bh{s:Array Bool}{i k}(h:s.getD k false=true):(s.setIfInBounds i true).getD k false=true:=by rw[U7]at h⊢;by_cases e:k=i;subst e;(have a:k<s.size:=by obtain h'|h':=Uh k s.size;exact h';rw[Vz h']at h;cases h);rw[XF a];rfl;rw[Ur (Ux e)];exact h
def fL{s:Array Bool}{k}(h:s.getD k true=false):s.getD k false≠true:=by rw[U7]at h⊢;cases a:s[k]? with|none=>rw[a]at h;cases h|some b=>rw[a]at h;have:b=false:=h;subst this;simp
def fY(w1 W:World)(ty:TypeId)(X:Nat):Prop:=w1.heap.size<=X/\∃c,W.heap[X]? =some (.cells #[.string c] ty (0,0))
def fY.new{w1 W:World}{ty}(h:w1.heap.size<=W.heap.size)(c):fY w1 (W.alloc (.cells #[.string c] ty)) ty W.heap.size:=⟨h,c,UT⟩
def fY.stays{w1 W a ty X}(h:fY w1 W ty X)(b:ae W a):fY w1 a ty X:=⟨h.1,h.2.elim λc d=>⟨c,b _ _ _ _ d⟩⟩
def fY.lt{w1 W ty X}(h:fY w1 W ty X):X<W.heap.size:=h.2.elim λc a=>(Uk.1 a).1
def fY.cell{w1 W ty X}(h:fY w1 W ty X):∃v,W.cell? ⟨X,0,none⟩=some (.string v):=h.2.elim λc a=>⟨c,cell_of_heap a 0 _ rfl⟩
def fY.frozen{w1 W ty X}(h:fY w1 W ty X):W.frozen? ⟨X,0,none⟩=false:=h.2.elim λc a=>frozen_of_heap a 0
def fY.set{w1 W ty X}(h:fY w1 W ty X){v}:fY w1 (W.setCell ⟨X,0,none⟩ (.string v)) ty X:=by (obtain⟨a,c,b⟩:=h;refine⟨a,v,?_⟩;have d:(W.heap.modify X λo=>match o with| .cells c e F=>.cells (c.setIfInBounds 0 (.string v)) e F|o=>o)[X]? =some (.cells #[.string v] ty (0,0)):=by rw[U5,b];simp);exact d
def fY.other{w1 W ty X Y}(h:fY w1 W ty Y)(a:Y≠X){v}:fY w1 (W.setCell ⟨X,0,none⟩ v) ty Y:=⟨h.1,h.2.elim λc b=>⟨c,(Below.heap_setCell W ⟨X,0,none⟩ v Y a).trans b⟩⟩
end Go.Proofs
namespace Go.Proofs
open Go.Shelf Go.Tm
def tK:Go.Shelf.Ren:=⟨λ|150=>135|153=>165|152=>175|226=>176|227=>177|228=>178|137=>193|119=>194|224=>195|225=>196|217=>207|266=>211|155=>139|154=>166|138=>179|165=>180|143=>181|166=>94|197=>182|169=>95|195=>197|218=>198|240=>134|241=>199|219=>200|260=>201|276=>164|277=>208|267=>209|314=>212|n=>n,λ|117=>241|116=>240|46=>215|124=>257|72=>153|76=>158|105=>243|70=>151|37=>120|75=>157|127=>203|164=>210|119=>265|139=>268|138=>267|146=>272|51=>193|80=>160|n=>n,λ|1=>2|n=>n⟩
def jL{fs:Array Func}(L:bT fs):Lays.n150 (Qs fs) tK/\Lays.n138 (Qs fs) tK/\Lays.n165 (Qs fs) tK:=by
 refine⟨?_,?_,?_⟩<;>constructor;all_goals first
  |(intro w;first|with_reducible refine(Bb _ _ _ w).trans ?_|with_reducible refine(wK _ _ _ w).trans ?_|with_reducible refine(jr _ _ _ w).trans ?_);rfl
  |(with_reducible refine(aI _ _ _).trans ?_);kernel_rfl
  |exact(L.1 _ (by decide) (by decide)).trans (by kernel_rfl)
  |kernel_rfl
end Go.Proofs
namespace Go.Proofs
open Go.Tm
variable {fs:Array Func} (L:bT fs)
def dE(b:Bool)(f:Int)(w:World):Calls (Qs fs) 52 #[.bool b,.int .i64 f] w λe w'=>e=.returned (.int .i64 (if b then f else 0))/\w'=w:=by go_enter (n52 L),Tryz.ntmps52;go_wp2;all_goals (go_ret;simp_all)
def fe:List Int->Int
 | []=>0
 |f::l=>if f≠0 then f else fe l
def rY(a:List Int)(k)(b:k<a.length):fe (a.drop k)=if a.getD k 0≠0 then a.getD k 0 else fe (a.drop (k+1)):=by rw[VO b];simp[fe,VU,UG b]
open Go.RowKit in
def wh(b f c:Nat)(zs:List Int)(w:World)(n:zs.length<=9223372036854775807)(l:∀k,k<zs.length->w.cell? ⟨b,f+k,none⟩=some (.int .i64 (zs.getD k 0))):Calls (Qs fs) 51 #[.slice (some ⟨b,f,none⟩) zs.length c] w λe w'=>e=.returned (.int .i64 (fe zs))/\w'=w:=by
 go_enter (n51 L),Tryz.ntmps51;go_wp2
 go_loop [7] (λi=>∃k:Nat,k<=zs.length/\i=.int .i64 k/\fe zs=fe (zs.drop k)) (λi=>zs.length-(intOf i).toNat)
 case atStart=>exact⟨0,Ul _,rfl,rfl⟩
 case round=>
  obtain⟨k,o,rfl,g⟩:=hrel;have j:k<zs.length->w.cell? ⟨b,f+k,none⟩=some (.int .i64 (zs.getD k 0)):=λh=>l k h;go_wp2
  ·(have a:k<zs.length:=by assumption);(have d:(zs[k]!=0)=true:=by assumption);(go_ret;refine⟨?_,rfl⟩;try rw[g]);rw[rY zs k a];simp only[VP]at d;simp[VU,UG a,d]
  have a:k<zs.length:=by assumption
  have d:(zs[k]!=0)=false:=by assumption
  refine⟨⟨k+1,by omega,by go_num,?_⟩,by simp[intOf];omega⟩;rw[g,rY zs k a];simp only[bne_eq_false_iff_eq]at d;simp[VU,UG a,d];have m:¬k<zs.length:=by assumption
  go_ret;refine⟨?_,rfl⟩;try rw[g]
  rw[UP (by omega)];rfl
end Go.Proofs
namespace Go.Proofs
def o6(X Y:Nat->Nat)(k:Nat):Nat:=((List.range k).map λn=>min (X n) (Y n)).sum
def lh(X Y k):o6 X Y (k+1)=o6 X Y k+min (X k) (Y k):=by unfold o6;rw[WG,V9,List.sum_append];simp
theorem o7{X Y Z}:∀{k},(∀n,n<k->Y n=Z n)->o6 X Y k=o6 X Z k
 |0,_=>rfl
 |k+1,h=>by rw[lh,lh,o7 λn a=>h n (by omega),h k (by omega)]
theorem yy(X Y h):∀k,h<k->o6 X (λn=>if n=h then Y n+1 else Y n) k=o6 X Y k+if Y h<X h then 1 else 0
 |0,a=>by omega
 |k+1,a=>by
  rw[lh,lh];by_cases e:h=k
  ·subst e
   rw[o7 (Z:=Y) λn b=>Uc (by omega)];simp only[Us];split<;>omega
  ·rw[yy X Y h k (by omega),Uc (Ux e)]
   omega
theorem yz(X):∀k,o6 X (λ_=>0) k=0
 |0=>rfl
 |k+1=>by rw[lh,yz X k];simp
def IJ(a b):(b.filter λn=>a.contains n).length+(bD b a).length=b.length:=by unfold bD;induction b with|nil=>rfl|cons x b c=>rw[Vv,Vv];cases a.contains x<;>simp only[Vu,Wt,Us,Uz,Uy,Ug]<;>omega
def C5{a b:List Int}(c:a.Nodup)(d:b.Nodup):(a.filter λn=>b.contains n).length=(b.filter λn=>a.contains n).length:=by (have h:(a.filter λn=>b.contains n).Perm (b.filter λn=>a.contains n):=(X4 (c.filter _) (d.filter _)).2 λx=>by rw[Wo,Wo];simp[and_comm]);exact h.length_eq
def Jz(x y k):nK x y k=o6 (λn=>aO x n) (λn=>aO y n) k:=rfl
def o8(l x n):aO (l++[x]) n=aO l n+if x/100=n then 1 else 0:=by unfold aO;rw[Wm,Uw];congr 1;by_cases h:x/100=n;rw[Ud h,Vv];simp[h];rw[Uc h,Vv];simp[h]
abbrev EK:=Bool×Int
def bump(f:EK->Nat)(p:EK):EK->Nat:=λq=>if q=p then f p+1 else f q
def lj(l:List Int)(n:Int):Nat:=(l.filter λx=>x==n).length
def vp(l x n):lj (l++[x]) n=lj l n+if x=n then 1 else 0:=by unfold lj;rw[Wm,Uw];congr 1;by_cases h:x=n;rw[Ud h,Vv];simp[h];rw[Uc h,Vv];simp[h]
def yA(l n):0<lj l n↔l.contains n=true:=by unfold lj;rw[List.length_pos_iff_exists_mem];simp[Wo]
def AY(l n):lj l n<=l.length:=Vj _ _
def td(l n):aO l n<=l.length:=Vj _ _
def nH(l m x):bD (l++[x]) m=if m.contains x then bD l m else bD l m++[x]:=by unfold bD;rw[Wm,Vv,List.filter_nil];cases m.contains x<;>simp
def mW(a b:List Int)(j:Nat):EK->Nat:=λp=>if p.1 then lj (a.take j) p.2 else aO (bD (a.take j) b) p.2
def Lx(a b):mW a b 0=λ_=>0:=by funext p;unfold mW;rw[UL];split<;>rfl
def jd{a:Type}(l:List a)(j)(h:j<l.length):l.take (j+1)=l.take j++[l[j]]:=by rw[List.take_add_one,UG h];rfl
def Qg(a b j)(h:j<a.length)(c:b.contains a[j]=true):mW a b (j+1)=bump (mW a b j) (true,a[j]):=by funext p;obtain⟨t,n⟩:=p;unfold bump mW;rw[jd a j h,nH,Ud c];cases t with|true=>simp only[Us,vp];by_cases e:n=a[j];subst e;simp;rw[Uc (Ux e),Uc (λh=>e (Ww h).2)];rfl|false=>simp
def Oo(a b j)(h:j<a.length)(c:b.contains a[j]=false):mW a b (j+1)=bump (bump (mW a b j) (true,a[j])) (false,a[j]/100):=by (have d:bD (a.take (j+1)) b=bD (a.take j) b++[a[j]]:=by rw[jd a j h,nH,Uc (by rw[c];exact WA)]);(have f:∀n,lj (a.take (j+1)) n=lj (a.take j) n+if a[j]=n then 1 else 0:=λn=>by rw[jd a j h,vp]);funext p;obtain⟨t,n⟩:=p;unfold bump mW;rw[d];cases t with|true=>simp only[Us,f];by_cases e:n=a[j];subst e;simp;rw[Uc (Ux e),Uc (λh=>by cases h),Uc (λh=>e (Ww h).2)];rfl|false=>simp only[Uz,Uy,o8];by_cases e:n=a[j]/100;subst e;simp;rw[Uc (Ux e),Uc (λh=>e (Ww h).2)];simp
def nU(a b:List Int)(j:Nat):EK->Nat:=λp=>if p.1 then lj a p.2 else aO (bD a b) p.2-min (aO (bD a b) p.2) (aO (bD (b.take j) a) p.2)
def en(a b:List Int)(j:Nat):Nat:=((b.take j).filter λn=>a.contains n).length
def iI(a b:List Int)(j:Nat):Nat:=nK (bD a b) (bD (b.take j) a) 10
def Ly(a b):nU a b 0=mW a b a.length:=by funext p;unfold nU mW;rw[UL,VC];have:aO (bD [] a) p.2=0:=rfl;rw[this];simp
def Qh(a b j)(h:j<b.length)(e:0<nU a b j (true,b[j])):nU a b (j+1)=nU a b j/\en a b (j+1)=en a b j+1/\iI a b (j+1)=iI a b j:=by (have c:=(yA a b[j]).1 e;have d:bD (b.take (j+1)) a=bD (b.take j) a:=by rw[jd b j h,nH,Ud c]);refine⟨?_,?_,?_⟩;unfold nU;rw[d];unfold en;rw[jd b j h,Wm,Uw,Vv,Ud c];rfl;unfold iI;rw[d]
def AZ(f:EK->Nat)(p:EK):EK->Nat:=λq=>if q=p then f p-1 else f q
def Oq(a b j)(h:j<b.length)(d:nU a b j (true,b[j])=0)(l:0<=b[j]/\b[j]<=999):en a b (j+1)=en a b j/\nU a b (j+1)=AZ (nU a b j) (false,b[j]/100)/\iI a b (j+1)=iI a b j+if 0<nU a b j (false,b[j]/100)then 1 else 0:=by (have c:¬a.contains b[j]=true:=λh=>by have:=(yA a b[j]).2 h;have d:lj a b[j]=0:=d;omega);(have f:bD (b.take (j+1)) a=bD (b.take j) a++[b[j]]:=by rw[jd b j h,nH,Uc c]);have g:=λn=>o8 (bD (b.take j) a) b[j] n;refine⟨?_,?_,?_⟩;unfold en;rw[jd b j h,Wm,Uw,Vv,Uc c];rfl;funext p;(obtain⟨t,n⟩:=p;unfold AZ nU;rw[f];cases t with|true=>simp|false=>simp only[Uz,Uy,g];by_cases e:n=b[j]/100;subst e;simp only[Us];omega;rw[Uc (Ux e),Uc (λh=>e (Ww h).2),Vp]);unfold iI;(rw[f,Jz,Jz];obtain⟨H,i⟩:∃H:Nat,(H:Int)=b[j]/100:=⟨(b[j]/100).toNat,by omega⟩);(have k:H<10:=by omega);(have e1:o6 (λn=>aO (bD a b) n) (λn=>aO (bD (b.take j) a++[b[j]]) n) 10=o6 (λn=>aO (bD a b) n) (λn=>if n=H then aO (bD (b.take j) a) n+1 else aO (bD (b.take j) a) n) 10:=by refine o7 λn m=>?_;show aO _ _=_;rw[g,<-i];by_cases e:n=H;subst e;simp;rw[Uc e,Uc (by omega)];rfl);rw[e1,yy _ (λn=>aO (bD (b.take j) a) n) H 10 k];congr 1;unfold nU;simp only[Uz,Uy,<-i];by_cases e:aO (bD (b.take j) a) (H:Int)<aO (bD a b) (H:Int);rw[Ud e,Ud (by omega)];rw[Uc e,Uc (by omega)]
def FF(a b)(c:a≠[])(d:b≠[])(e:a.Nodup)(f:b.Nodup):bX a b=(100*(2*(en a b b.length:Int)+(iI a b b.length:Int)))/((a.length:Int)+(b.length:Int)):=by (rw[uF a b c d];have g:a.length-(bD a b).length=en a b b.length:=by unfold en;rw[VC];have h:=IJ b a;have i:=C5 e f;omega);unfold iI;rw[g,VC];simp
def yB(a b j):en a b j<=b.length:=Uf (Vj _ _) (by rw[Ve];omega)
def FG(a b j):iI a b j<=10*a.length:=Uf (Dr _ _ _) (Nat.mul_le_mul_left _ (Vj _ _))
def JA(a b j p):mW a b j p<=a.length:=by unfold mW;split;exact Uf (AY _ _) (by rw[Ve];omega);exact Uf (td _ _) (Uf (Vj _ _) (by rw[Ve];omega))
def JB(a b j p):nU a b j p<=a.length:=by unfold nU;split;exact AY _ _;exact Uf (Nat.sub_le _ _) (Uf (td _ _) (Vj _ _))
end Go.Proofs

import Derived.Maps.RangeWalk
import Derived.Test.YtaglpcmhopjebaaGreatDoorU31
set_option linter.all false
set_option maxRecDepth 100000
set_option maxHeartbeats 20000000
namespace Go.Proofs
open Go.Tm Go.RowKit
variable {fs:Array Func} (L:bT fs)
structure o9(t:Table):Prop where
 lets:∀p∈t.aq,p.1.size<=140737488351232/\p.2.size<=140737488351232
 Qm:∀x∈t.au,x.name.size<=140737488351232/\∀p∈x.aP,p.1.size<=140737488351232/\p.2.size<=140737488351232
 bz:∀g∈t.bz,∀s∈g,s.size<=140737488351232
def wrap_add{a b:Nat}(h:a+b<=9223372036854775807):wrap64 ((a:Int)+b)=((a+b:Nat):Int):=by unfold wrap64;omega
def A4{a b c:Nat}(h:a+b+c<=9223372036854775807):wrap64 (wrap64 ((a:Int)+b)+c)=((a+b+c:Nat):Int):=by rw[wrap_add (by omega),wrap_add h]
def IT{K:Nat->Prop}{v0 v1 v2:Value}{t:Table}(w:World)(ht:IsTable K w v0 v1 v2 t)(hr:o9 t):Calls (Qs fs) 16 #[.agg #[v0,v1,v2]] w λe w'=>∃z,e=.returned (.bool z)/\(z=false->uz t)/\Below w.heap.size w w':=by
 obtain⟨w1,I⟩:=ex (w.alloc (.cells #[v0,v1,v2] 26));have S1:ae w w1:=by rw[I];exact ae.alloc _ _
 have B1:Below w.heap.size w w1:=by rw[I];exact aF _ _
 have ct:∀i v,(#[v0,v1,v2]:Array Value)[i]? =some v->w1.cell? ⟨w.heap.size,i,none⟩=some v:=λi v h=>by rw[I];exact az w _ 26 i v h
 obtain⟨N,hN⟩:=ex (w.heap.size);rw[<-hN]at ct;have u0:=ct 0 _ rfl;have u1:=ct 1 _ rfl;have u2:=ct 2 _ rfl;have HB:Hid _:=B1;have HR:Hid _:=hr;have ao:=ht.stays S1;obtain⟨⟨a8,c0,rfl,ba,bb,_,g0⟩,⟨bk,c1,rfl,bm,ak,_,g1⟩,⟨bo,Y,rfl,bp,an,_,g2⟩⟩:=ao;have G0:Hid _:=g0;have G1:Hid _:=g1;have G2:Hid _:=g2;clear ht hr ct S1 B1 g0 g1 g2;have dn:∀n:Nat,40<n->decide ((40:Int)<(n:Int))=true:=λn h=>Um (by omega);have dm:∀n:Nat,¬40<n->decide ((40:Int)<(n:Int))=false:=λn h=>Uj (by omega);go_enter (n16 L),Tryz.ntmps16;go_upto_region 1 with fail;rw[<-I,<-hN];clear I hN;by_cases a0:40<t.aq.length
 ·have d0:=dn _ a0;go_wp2;go_ret;exact⟨true,rfl,(λh=>by cases h),HB.out⟩
 have d0:=dm _ a0;by_cases a1:40<t.au.length
 ·have d1:=dn _ a1;go_wp2;go_ret;exact⟨true,rfl,(λh=>by cases h),HB.out⟩
 have d1:=dm _ a1;by_cases a2:40<t.bz.length
 ·have d2:=dn _ a2;go_wp2;go_ret;exact⟨true,rfl,(λh=>by cases h),HB.out⟩
 have d2:=dm _ a2;have A:t.aq.length<=40/\t.au.length<=40/\t.bz.length<=40:=by omega
 clear dn dm a0 a1 a2;go_wp2;have Z:=u0;have aa:=u1;have J:=u2;clear u0 u1 u2;go_loopw [3,4] (λT s wr=>∃j n:Nat,j<=t.aq.length/\s=.int .i64 j/\T=.int .i64 n/\n<=j*281474976702464/\(∀i (_:i<j) (h':i<t.aq.length),t.aq[i].1.size<=n/\t.aq[i].2.size<=n)/\ae w1 wr/\Below w.heap.size w wr) (λ_ s _=>t.aq.length-(intOf s).toNat);case atStart=>exact⟨0,0,Ul _,rfl,rfl,Ul _,λj h=>absurd h (Ut _),ae.refl _,HB.out⟩
 case round=>
  obtain⟨j,n,hj,rfl,rfl,hn,f,c,M⟩:=hrel;have S:Hid _:=f;have u:Hid _:=(⟨c,M⟩:ae w1 wr/\Below w.heap.size w wr)
  have y0:=c.cell Z;have y1:=c.cell aa;have y2:=c.cell J;clear f;obtain y|hge:=Uh j t.aq.length
  ·obtain⟨b,E,rfl,O,k⟩:=G0.out j y;(have X:=c.cell O;have U:=c.cell k;obtain⟨k1,V⟩:=HR.out.lets _ (Up y);obtain⟨p,l⟩:=ex (t.aq[j]);rw[<-l]at X U k1 V;obtain⟨p0,p1⟩:=p;simp only[]at X U k1 V;have l0:∀x:aj w wr,x.val.cell? ⟨N,0,none⟩=some _:=λx=>x.st.cell y0;have l1:∀x:aj w wr,x.val.cell? ⟨b,E+j*2,none⟩=some (.string p0):=λx=>x.st.cell X;have l2:∀x:aj w wr,x.val.cell? ⟨b,E+j*2+1,none⟩=some (.string p1):=λx=>x.st.cell U;have HP:Hid _:=l;clear l O k c M;go_upto_region 7 with fail;refine aV (w0:=w) (w1:=wr) 17 (by kernel_rfl) (by kernel_rfl) (ae.refl _) u.out.2 ?_;simp only[UO,UL,UU,UM];haveI ab:Nonempty (aj w wr):=⟨⟨wr,ae.refl _,u.out.2⟩⟩);(repeat (go_big_quiet_step (fail)));(refine wpQuiet_nil ?_;rintro wz ⟨⟨_,Sz,Bz⟩,rfl⟩;have HZ:Hid _:=(⟨ae.trans u.out.1 Sz,Bz⟩:_/\_));clear l0 l1 l2 ab Sz Bz X U y0 y1 y2;go_wp2;refine⟨⟨j+1,n+p0.size+p1.size,by omega,by go_num,by first|rw[A4 (by omega)]|exact UQ (Value.int .i64) (by omega),by omega,λi F W=>?_,HZ.out.1,HZ.out.2⟩,by simp[intOf];omega⟩;obtain h3|h3:=Uh i j;have:=S.out i h3 W;omega;(have:i=j:=by omega);subst this;rw[<-HP.out];show p0.size<=_/\p1.size<=_;omega
  have P:j=t.aq.length:=by omega
  subst P;have H0:Hid (n<=11258999068098560/\∀p∈t.aq,p.1.size<=n/\p.2.size<=n):=⟨by omega,λp l=>by obtain⟨i,F,rfl⟩:=V7 l;exact S.out i F F⟩
  have W1:=u;clear c M S u hge hn;go_wp2;clear y0 y1 y2;go_loopw [3,5] (λT s wr=>∃j C:Nat,j<=t.au.length/\s=.int .i64 j/\T=.int .i64 C/\n<=C/\C<=11258999068098560+j*11399736556449792/\(∀i (_:i<j) (h':i<t.au.length),t.au[i].name.size<=C/\t.au[i].aP.length<=40/\∀p∈t.au[i].aP,p.1.size<=C/\p.2.size<=C)/\ae w1 wr/\Below w.heap.size w wr) (λ_ s _=>t.au.length-(intOf s).toNat);case atStart=>exact⟨0,n,Ul _,rfl,rfl,Ue _,by have:=H0.out.1;omega,λj h=>absurd h (Ut _),W1.out.1,W1.out.2⟩
  case round=>
   (obtain⟨j,C,hj,rfl,rfl,bq,hn,f,c,M⟩:=hrel;have S:Hid _:=f;have u:Hid _:=(⟨c,M⟩:ae w1 wr/\Below w.heap.size w wr));have y0:=c.cell Z;have y1:=c.cell aa;have y2:=c.cell J;clear f;obtain y|hge:=Uh j t.au.length
   ·obtain⟨b,E,rfl,O,vs,k,G⟩:=G1.out j y;have X:=c.cell O;have U:=c.cell k;obtain⟨k1,V⟩:=HR.out.Qm _ (Up y);obtain⟨p,l⟩:=ex (t.au[j]);rw[<-l]at X k1 V G;obtain⟨p0,p1⟩:=p;simp only[]at X U k1 V G;obtain⟨ar,cs,rfl,ax,ay,_,d⟩:=G;have ad:Hid _:=d;have HP:Hid _:=l;have af:=k;clear l O k c M d;by_cases aM:40<p1.length
    ·(have g5:(40:Int)<(p1.length:Int):=by omega);go_wp2;go_ret;exact⟨true,rfl,(λh=>by cases h),u.out.2⟩
    have g5:decide ((40:Int)<(p1.length:Int))=false:=Uj (by omega)
    (go_upto_block 4 with fail);go_wp2;clear y0 y1 y2 X U;go_loopw [3,6] (λT s wi=>∃m n3:Nat,m<=p1.length/\s=.int .i64 m/\T=.int .i64 n3/\C+p0.size<=n3/\n3<=11258999068098560+j*11399736556449792+140737488351232+m*281474976702464/\(∀i (_:i<m) (h':i<p1.length),p1[i].1.size<=n3/\p1[i].2.size<=n3)/\ae w1 wi/\Below w.heap.size w wi) (λ_ s _=>p1.length-(intOf s).toNat);case atStart=>exact⟨0,C+p0.size,Ul _,rfl,by first|rw[wrap_add (by omega)]|exact UQ (Value.int .i64) (by omega),Ue _,by omega,λj h=>absurd h (Ut _),u.out.1,u.out.2⟩
    case round=>
     (obtain⟨m,n3,hm,rfl,rfl,ak,an,o,a,D⟩:=hrel;have Q:Hid _:=o;have r:Hid _:=(⟨a,D⟩:ae w1 wr/\Below w.heap.size w wr));have z0:=a.cell Z;have z1:=a.cell aa;have z2:=a.cell J;have z3:=a.cell af;clear o;obtain B|hge2:=Uh m p1.length
     ·obtain⟨b2,o2,rfl,H,r2⟩:=ad.out m B;(have H:=a.cell H;have r2:=a.cell r2;obtain⟨e1,e2⟩:=V p1[m] (Up B);obtain⟨q,hq⟩:=ex (p1[m]);rw[<-hq]at H r2 e1 e2;obtain⟨q0,q1⟩:=q;simp only[]at H r2 e1 e2;have l0:∀x:aj w wr,x.val.cell? ⟨N,1,none⟩=some _:=λx=>x.st.cell z1;have l3:∀x:aj w wr,x.val.cell? ⟨b,E+j*2+1,none⟩=some _:=λx=>x.st.cell z3;have l1:∀x:aj w wr,x.val.cell? ⟨b2,o2+m*2,none⟩=some (.string q0):=λx=>x.st.cell H;have l2:∀x:aj w wr,x.val.cell? ⟨b2,o2+m*2+1,none⟩=some (.string q1):=λx=>x.st.cell r2;have HQ:Hid _:=hq;clear hq a D;go_upto_region 17 with fail;refine aV (w0:=w) (w1:=wr) 25 (by kernel_rfl) (by kernel_rfl) (ae.refl _) r.out.2 ?_;simp only[UO,UL,UU,UM];haveI ab:Nonempty (aj w wr):=⟨⟨wr,ae.refl _,r.out.2⟩⟩);(repeat (go_big_quiet_step (fail)));(refine wpQuiet_nil ?_;rintro wz ⟨⟨_,Sz,Bz⟩,rfl⟩;have HZ:Hid _:=(⟨ae.trans r.out.1 Sz,Bz⟩:_/\_));clear l0 l1 l2 l3 ab Sz Bz H r2 z0 z1 z2 z3;go_wp2;refine⟨⟨m+1,n3+q0.size+q1.size,by omega,by go_num,by first|rw[A4 (by omega)]|exact UQ (Value.int .i64) (by omega),by omega,by omega,λi F W=>?_,HZ.out.1,HZ.out.2⟩,by simp[intOf];omega⟩;obtain h3|h3:=Uh i m;have:=Q.out i h3 W;omega;(have:i=m:=by omega);subst this;rw[<-HQ.out];show q0.size<=_/\q1.size<=_;omega
     (have ag:m=p1.length:=by omega);subst ag;clear a D;go_wp2;refine⟨⟨j+1,n3,by omega,by go_num,rfl,by omega,by omega,λi F W=>?_,r.out.1,r.out.2⟩,by simp[intOf];omega⟩;obtain h3|h3:=Uh i j;obtain⟨c1,Y,c3⟩:=S.out i h3 W;exact⟨by omega,Y,λp l=>by have:=c3 p l;omega⟩;(have:i=j:=by omega);subst this;rw[<-HP.out];refine⟨by show p0.size<=_;omega,by show p1.length<=_;omega,λp l=>?_⟩;obtain⟨i',R,rfl⟩:=V7 l;exact Q.out i' R R
   (have P:j=t.au.length:=by omega);(subst P;have H1:Hid (C<=467248461326090240/\∀x∈t.au,x.name.size<=C/\x.aP.length<=40/\∀p∈x.aP,p.1.size<=C/\p.2.size<=C):=⟨by omega,λp l=>by obtain⟨i,F,rfl⟩:=V7 l;exact S.out i F F⟩);have W2:=u;clear c M S u hge hn;go_wp2;clear y0 y1 y2;go_loopw [3,7] (λT s wr=>∃j n3:Nat,j<=t.bz.length/\s=.int .i64 j/\T=.int .i64 n3/\C<=n3/\n3<=467248461326090240+j*5629499534049280/\(∀i (_:i<j) (h':i<t.bz.length),t.bz[i].length<=40/\∀s∈t.bz[i],s.size<=n3)/\ae w1 wr/\Below w.heap.size w wr) (λ_ s _=>t.bz.length-(intOf s).toNat);case atStart=>exact⟨0,C,Ul _,rfl,rfl,Ue _,by have:=H1.out.1;omega,λj h=>absurd h (Ut _),W2.out.1,W2.out.2⟩
   case round=>
    (obtain⟨j,n3,hj,rfl,rfl,a6,hn,f,c,M⟩:=hrel;have S:Hid _:=f;have u:Hid _:=(⟨c,M⟩:ae w1 wr/\Below w.heap.size w wr));have y2:=c.cell J;clear f;obtain y|hge:=Uh j t.bz.length
    ·obtain⟨b,E,rfl,vs,k,G⟩:=G2.out j y;(have k:w1.cell? ⟨b,E+j,none⟩=some vs:=by simpa using k);have U:=c.cell k;have V:=HR.out.bz _ (Up y);obtain⟨g,hg⟩:=ex (t.bz[j]);rw[<-hg]at V G;obtain⟨ar,cs,rfl,ax,ay,_,d⟩:=G;have ad:Hid _:=d;have HP:Hid _:=hg;have af:=k;clear hg k c M d;by_cases aM:40<g.length
     ·(have g5:(40:Int)<(g.length:Int):=by omega);go_wp2;go_ret;exact⟨true,rfl,(λh=>by cases h),u.out.2⟩
     have g5:decide ((40:Int)<(g.length:Int))=false:=Uj (by omega)
     (go_upto_block 8 with fail);go_wp2;clear y2 U;go_loopw [3,8] (λT s wi=>∃m n4:Nat,m<=g.length/\s=.int .i64 m/\T=.int .i64 n4/\n3<=n4/\n4<=467248461326090240+j*5629499534049280+m*140737488351232/\(∀i (_:i<m) (h':i<g.length),g[i].size<=n4)/\ae w1 wi/\Below w.heap.size w wi) (λ_ s _=>g.length-(intOf s).toNat);case atStart=>exact⟨0,n3,Ul _,rfl,rfl,Ue _,Uf hn (XG _ _),λj h=>absurd h (Ut _),u.out.1,u.out.2⟩
     case round=>
      (obtain⟨m,n4,hm,rfl,rfl,ak,an,o,a,D⟩:=hrel;have Q:Hid _:=o;have r:Hid _:=(⟨a,D⟩:ae w1 wr/\Below w.heap.size w wr));have z2:=a.cell J;have z3:=a.cell af;clear o;obtain B|hge2:=Uh m g.length
      ·obtain⟨b2,o2,rfl,H⟩:=ad.out m B;(have H:=a.cell H;have H:wr.cell? ⟨b2,o2+m,none⟩=some (.string g[m]):=by simpa using H);have e1:=V g[m] (Up B);obtain⟨q,hq⟩:=ex (g[m]);rw[<-hq]at H e1;have HQ:Hid _:=hq;clear hq a D;go_wp2;refine⟨⟨m+1,n4+q.size,by omega,by go_num,by first|rw[wrap_add (by omega)]|exact UQ (Value.int .i64) (by omega),by omega,by omega,λi F W=>?_,r.out.1,r.out.2⟩,by simp[intOf];omega⟩;obtain h3|h3:=Uh i m;have:=Q.out i h3 W;omega;(have:i=m:=by omega);subst this;rw[<-HQ.out];omega
      (have ag:m=g.length:=by omega);subst ag;clear a D;go_wp2;refine⟨⟨j+1,n4,by omega,by go_num,rfl,by omega,by omega,λi F W=>?_,r.out.1,r.out.2⟩,by simp[intOf];omega⟩;obtain h3|h3:=Uh i j;obtain⟨c1,Y⟩:=S.out i h3 W;exact⟨c1,λp l=>by have:=Y p l;omega⟩;(have:i=j:=by omega);subst this;rw[<-HP.out];refine⟨by omega,λp l=>?_⟩;obtain⟨i',R,rfl⟩:=V7 l;exact Q.out i' R R
    (have P:j=t.bz.length:=by omega);subst P;clear c M;by_cases a7:1000<n3
    ·have d9:decide ((1000:Int)<(n3:Int))=true:=Um (by omega);go_wp2;go_ret;exact⟨true,rfl,(λh=>by cases h),u.out.2⟩
    have d9:decide ((1000:Int)<(n3:Int))=false:=Uj (by omega)
    have hT:uz t:=⟨⟨by omega,λp l=>by have:=H0.out.2 p l;omega⟩,⟨by omega,λx hx=>by
     obtain⟨c1,Y,c3⟩:=H1.out.2 x hx;exact⟨by omega,λp l=>by have:=c3 p l;omega⟩⟩,⟨by omega,λg hg=>by
     obtain⟨i,F,rfl⟩:=V7 hg;obtain⟨c1,Y⟩:=S.out i F F;exact⟨by omega,λs hs=>by have:=Y s hs;omega⟩⟩⟩
    have HT:Hid _:=hT;clear hT;go_wp2;go_ret;exact⟨false,rfl,λ_=>HT.out,u.out.2⟩
theorem yF{c}{chk:List c->c->Int}:∀{seen l:List c},fp chk seen l=0->∀j (b:j<l.length),chk (seen++l.take j) l[j]=0
 |seen,[],_,j,b=>absurd b (Ut _)
 |seen,x::xs,h,j,b=>by
  unfold fp at h;by_cases a:chk seen x≠0
  ·rw[Ud a]at h
   exact absurd h a
  ·rw[Uc a]at h
   have a:chk seen x=0:=by omega
   cases j with
   |zero=>simpa using a
   |succ j=>have:=yF h j (by simpa using b);simpa using this
def eN{a}{lo hi}{chk:List a->a->Int}{l:List a}(h:aT lo hi chk l=0):(lo<=l.length/\(l.length:Int)<=hi)/\∀j (b:j<l.length),chk (l.take j) l[j]=0:=by unfold aT aw at h;split at h;rename_i c;simp only[Un,Uu]at c;exact⟨c,λj b=>by simpa using yF h j b⟩;cases h
def pa{a}{lo hi}{chk:List a->a->Int}{l:List a}(h:aT lo hi chk l=0){x}(b:x∈l):∃seen,chk seen x=0:=by obtain⟨i,hi,rfl⟩:=V7 b;exact⟨_,(eN h).2 i hi⟩
def gn{s lo hi}(h:bc s lo hi=true):lo<=s.size/\(s.size:Int)<=hi:=by unfold bc aw at h;simp only[Un,Uu]at h;exact h.1
def kp{t}(h:bj t=0):aT 0 12 letterF t.aq=0/\aT 0 3 de t.au=0/\aT 0 4 gJ t.bz=0:=by unfold bj at h;simp only[]at h;split at h;rename_i a;exact absurd h a;rename_i b;split at h;rename_i a;exact absurd h a;rename_i c;exact⟨by simpa using b,by simpa using c,h⟩
def yG{t}(h:bj t=0):OkT t:=by (obtain⟨i,j,k⟩:=kp h;have l:=(eN i).1;have m:=(eN j).1;have n:=(eN k).1;have a:∀x∈t.au,aT 0 5 dQ x.aP=0:=λx b=>by obtain⟨seen,e⟩:=pa j b;unfold de at e;split at e;cases e;split at e;cases e;exact e);refine⟨λp d=>?_,by omega,λx b p d=>?_,λx b=>?_,by omega,by omega⟩;obtain⟨seen,e⟩:=pa i d;unfold letterF at e;split at e;cases e;rename_i c;split at e;cases e;split at e;cases e;rename_i f;(have f:=gn (by simpa using f);have c:bd p.1 4=true:=by simpa using c);unfold bd aw at c;simp only[Un,Uu]at c;omega;obtain⟨seen,e⟩:=pa (a x b) d;unfold dQ at e;split at e;cases e;rename_i g;simp only[XR,Vu,VB,not_or,WW,ne_eq,Decidable.not_not]at g;have c:=gn g.1;have f:=gn g.2;omega;have:=(eN (a x b)).1;omega
def jS(t:Table)(s:ByteArray):Int:=if bj t≠0 then bj t else if 16<s.size then 2 else 0
def FP(t:Table)(s:ByteArray):ByteArray:=if jS t s=0 then bs (aL t.aq s.data.toList)else⟨#[]⟩
def iJ(t:Table)(k:Int)(s:ByteArray):Int:=if bj t≠0 then bj t else if !aw k 0 ((t.au.length:Int)-1)then 6 else if 16<s.size then 2 else 0
def yH(t:Table)(k:Int)(s:ByteArray):ByteArray:=if iJ t k s=0 then bs (bl t k.toNat s.data.toList)else⟨#[]⟩
def FQ{t s}(h:jS t s=0):bj t=0/\s.size<=16:=by unfold jS at h;split at h;rename_i a;exact absurd h a;rename_i b;split at h;cases h;exact⟨by simpa using b,by omega⟩
def C8{t k s}(h:iJ t k s=0):bj t=0/\(0<=k/\k<t.au.length)/\s.size<=16:=by unfold iJ at h;split at h;rename_i b;exact absurd h b;rename_i c;split at h;cases h;rename_i a;split at h;cases h;unfold aw at a;simp only[XR,Vu,Xs,Un,Uu]at a;exact⟨by simpa using c,by omega,by omega⟩
def Qn{K:Nat->Prop}{v0 v1 v2:Value}{t:Table}(s:ByteArray)(w:World)(l:IsTable K w v0 v1 v2 t):Calls (Qs fs) 18 #[.agg #[v0,v1,v2],.string s] w λe w'=>e=.returned (.tuple #[.string (FP t s),.int .i64 (jS t s)])/\Below w.heap.size w w':=by
 by_cases c:jS t s=0;obtain⟨r,C⟩:=FQ c;have e:FP t s=bs (aL t.aq s.data.toList):=Ud c;rw[e,c];exact Og L s w l (yG r).lets r C;have e20:=e20 L;have e51:=e51 L;have e52:=e52 L;have u:FP t s=⟨#[]⟩:=Uc c;rw[u];obtain⟨w1,a⟩:=ex (w.alloc (.cells #[v0,v1,v2] 26));have x:ae w w1:=by rw[a];exact ae.alloc _ _
 have y:Below w.heap.size w w1:=by rw[a];exact aF _ _
 have ct:∀i v,(#[v0,v1,v2]:Array Value)[i]? =some v->w1.cell? ⟨w.heap.size,i,none⟩=some v:=λi v h=>by rw[a];exact az w _ 26 i v h
 have j:=eG L w1 (l.stays x);obtain⟨m,d⟩:=ex (bj t);obtain⟨z,f⟩:=ex (decide ((16:Int)<(s.size:Int)));have n:=λo=>dE L z 2 o;have g:=λo=>dg L m (if z=true then 2 else 0) o;have k:(if m≠0 then m else if z=true then 2 else 0)=jS t s:=by rw[f,d];unfold jS;by_cases h:16<s.size;rw[Um (by omega),Ud h];rfl;rw[Uj (by omega),Uc h];rfl
 simp only[k]at g;obtain⟨D,b⟩:=ex (jS t s);rw[<-d]at j;rw[<-b]at c⊢;simp only[<-b]at g;have E:(D !=0)=true:=by simpa using c
 obtain⟨N,p⟩:=ex (w.heap.size);rw[<-p]at ct;have F:=ct 0 _ rfl;have G:=ct 1 _ rfl;have H:=ct 2 _ rfl;have A:Hid _:=y;replace f:=f.symm;clear l x y ct d b c u k;go_enter (n18 L),Tryz.ntmps18;go_upto_region 1 with fail;rw[<-a,<-p];clear a p;go_wp2_with (first|(go_at_call 20;refine j.mono ?_;rintro e w2 ⟨rfl,q⟩)|(go_at_call 52;refine(n _).mono ?_;rintro e w3 ⟨rfl,rfl⟩)|(go_at_call 51;refine(g _).mono ?_;rintro e w4 ⟨rfl,rfl⟩));all_goals (
  go_ret2
  have B:=A.out.trans (q.mono A.out.size);exact⟨rfl,B.alloc B.size _⟩)
def OJ{K:Nat->Prop}{v0 v1 v2:Value}{t:Table}(k:Int)(s:ByteArray)(w:World)(u:IsTable K w v0 v1 v2 t)(G:fW w):Calls (Qs fs) 22 #[.agg #[v0,v1,v2],.int .i64 k,.string s] w λe w'=>e=.returned (.tuple #[.string (yH t k s),.int .i64 (iJ t k s)])/\Below w.heap.size w w':=by by_cases j:iJ t k s=0;obtain⟨H,⟨T,U⟩,V⟩:=C8 j;have e:yH t k s=bs (bl t k.toNat s.data.toList):=Ud j;rw[e,j];have h:=Jv L k.toNat s w u (yG H) H V (by omega) G;rw[show((k.toNat:Nat):Int)=k by omega]at h;exact h;(have e20:=e20 L;have e51:=e51 L;have e52:=e52 L;have e63:=e63 L;have I:yH t k s=⟨#[]⟩:=Uc j;rw[I];obtain⟨A,B,rfl,W,X,_⟩:=id u.2.1;obtain⟨w1,a⟩:=ex (w.alloc (.cells #[v0,.slice A t.au.length B,v2] 26));have J:ae w w1:=by rw[a];exact ae.alloc _ _);(have M:Below w.heap.size w w1:=by rw[a];exact aF _ _);(have ct:∀i v,(#[v0,.slice A t.au.length B,v2]:Array Value)[i]? =some v->w1.cell? ⟨w.heap.size,i,none⟩=some v:=λi v h=>by rw[a];exact az w _ 26 i v h);(have Y:IntKind.i64.wrap ((t.au.length:Int)-1)=(t.au.length:Int)-1:=wrap_i64 _ (by omega);obtain⟨o,l⟩:=ex (bj t);obtain⟨z,m⟩:=ex (decide ((16:Int)<(s.size:Int)));obtain⟨y,C⟩:=ex (aw k 0 ((t.au.length:Int)-1));have p:∀x:aj w w1,Calls (Qs fs) 20 #[.agg #[v0,.slice A t.au.length B,v2]] x.val λe w'=>e=.returned (.int .i64 o)/\∃y:aj w w1,w'=y.val:=λx=>by have h:=eG L x.val (u.stays (J.trans x.st));rw[<-l]at h;exact aj.calls h);(have q:∀x:aj w w1,Calls (Qs fs) 63 #[.int .i64 k,.int .i64 0,.int .i64 ((t.au.length:Int)-1)] x.val λe w'=>e=.returned (.bool y)/\∃y:aj w w1,w'=y.val:=λx=>by have h:=dI fs (n63 L) k 0 ((t.au.length:Int)-1) x.val;rw[C];exact aj.same h);(have b:∀x:aj w w1,Calls (Qs fs) 52 #[.bool (!y),.int .i64 6] x.val λe w'=>e=.returned (.int .i64 (if(!y)=true then 6 else 0))/\∃y:aj w w1,w'=y.val:=λx=>aj.same (dE L (!y) 6 x.val);have c:∀x:aj w w1,Calls (Qs fs) 52 #[.bool z,.int .i64 2] x.val λe w'=>e=.returned (.int .i64 (if z=true then 2 else 0))/\∃y:aj w w1,w'=y.val:=λx=>aj.same (dE L z 2 x.val);have d:(if o≠0 then o else if(if(!y)=true then 6 else 0)≠(0:Int)then(if(!y)=true then 6 else 0)else(if z=true then 2 else 0))=iJ t k s:=by rw[m,l,C];unfold iJ;by_cases h:16<s.size;rw[Um (by omega),Ud h];cases aw k 0 ((t.au.length:Int)-1)<;>rfl;rw[Uj (by omega),Uc h];cases aw k 0 ((t.au.length:Int)-1)<;>rfl);(obtain⟨O,n⟩:∃f:Int,f=if(!y)=true then 6 else 0:=⟨_,rfl⟩);(obtain⟨fb,hfb⟩:∃f:Int,f=if z=true then 2 else 0:=⟨_,rfl⟩);(have r:=λZ=>xp L o O fb Z;rw[<-n,<-hfb]at d;simp only[<-n]at b;simp only[<-hfb]at c;obtain⟨fl,g⟩:=ex (iJ t k s);rw[<-g]at j⊢d;simp only[d]at r;have aa:(fl !=0)=true:=by simpa using j);(obtain⟨N,D⟩:=ex (w.heap.size);rw[<-D]at ct;have P:=ct 0 _ rfl;have Q:=ct 1 _ rfl;have R:=ct 2 _ rfl;have l0:=λx:aj w w1=>x.cell P;have l1:=λx:aj w w1=>x.cell Q;have l2:=λx:aj w w1=>x.cell R;have S:Hid _:=M;replace m:=m.symm;clear u J M ct G l g j I d C n hfb;go_enter (n22 L),Tryz.ntmps22;go_upto_region 1 with fail;rw[<-a,<-D];clear a D P Q R;refine aV (w0:=w) (w1:=w1) 14 (by kernel_rfl) (by kernel_rfl) (ae.refl _) S.out ?_;simp only[UO,UL,UU,UM];haveI E:Nonempty (aj w w1):=⟨⟨w1,ae.refl _,S.out⟩⟩);(repeat (go_big_quiet_step (first|(go_at_call 20;exact p _)|(go_at_call 63;exact q _)|(go_at_call 52;first|exact b _|exact c _))));refine wpQuiet_nil ?_;rintro wy ⟨⟨_,Sy,F⟩,rfl⟩;have B4:Hid _:=F.alloc F.size (.cells #[.int .i64 o,.int .i64 O,.int .i64 fb] 29);clear p q b c Sy F l0 l1 l2 E;go_wp2_with (first|(go_at_call 51;refine(r _).mono ?_;rintro e w4 ⟨rfl,rfl⟩));(go_ret2);exact⟨rfl,B4.out⟩
def uA(K:Nat->Prop)(w:World)(b o:Nat)(n:Int):Prop:=w.cell? ⟨b,o,none⟩=some (.int .u16 n)/\0<=n/\n<65536
def eO(l:List Int)(k:Int):Int:=l.getD k.toNat 0
def th{K w v l}(h:aE K 1 uA w v l)(k:Int):0<=eO l k/\eO l k<65536:=by obtain⟨f,c,rfl,_,_,_,a⟩:=h;unfold eO;rw[VU];obtain hk|hk:=Uh k.toNat l.length;obtain⟨b,d,_,g,e⟩:=a _ hk;rw[UG hk];exact e;rw[List.getElem?_eq_none hk];exact⟨by decide,by decide⟩
def OL{K v l}(k:Int)(w)(d:aE K 1 uA w v l)(o:0<=k):Calls (Qs fs) 71 #[v,.int .i64 k] w λe w'=>e=.returned (.int .i64 (eO l k))/\w'=w:=by
 have g:=th d k;obtain⟨p,c,rfl,_,_,_,a⟩:=d;by_cases h:k<(l.length:Int)
 ·obtain⟨q,rfl⟩:∃q:Nat,k=q:=⟨k.toNat,by omega⟩
  have i:q<l.length:=by omega
  obtain⟨b,j,rfl,m,_,_⟩:=a q i;rw[Vd]at m;have f:eO l q=l[q]:=by unfold eO;rw[VU,show((q:Int)).toNat=q from rfl,UG i];rfl
  rw[f]at g⊢;clear a f;go_enter (n71 L),Tryz.ntmps71;go_wp2;go_ret;exact⟨rfl,rfl⟩
 have f:eO l k=0:=by unfold eO;rw[VU,List.getElem?_eq_none (by omega)];rfl
 rw[f];have n:decide (k<(l.length:Int))=false:=Uj h;clear a f h g;go_enter (n71 L),Tryz.ntmps71;go_wp2;go_ret;exact⟨rfl,rfl⟩
def IU{K v l}(m:Nat)(w)(a:aE K 1 uA w v l)(V:m<1000):Calls (Qs fs) 28 #[v,.int .i64 m,.int .i64 16] w λe w'=>∃x:Bs,e=.returned (.string (bs x))/\x.length<=16/\x.all aQ=true/\Below w.heap.size w w':=by
 have e71:=e71 L;have F:=λ(k:Int) (h:0<=k) (c:World) (A:Below w.heap.size w c)=>OL L k c (a.stays (ae.below A) λx y o z e h=>by subst e;exact⟨(ae.below A).cell h.1,h.2⟩) h;have G:=λk=>th a k;obtain⟨O,P,rfl,_,_,_,_⟩:=id a;have H:Hid (∀(k:Int) (h:0<=k) (c:World) (A:Below w.heap.size w c),Calls (Qs fs) 71 #[.slice O l.length P,.int .i64 k] c λe w'=>e=.returned (.int .i64 (eO l k))/\w'=c):=F;have r:Hid (∀k,0<=eO l k/\eO l k<65536):=G;obtain⟨n,I⟩:∃n:Nat,eO l m%17=n:=⟨(eO l m%17).toNat,by omega⟩
 have J:n<=16:=by omega
 have Q:Hid _:=I;clear F G a I;go_enter (n28 L),Tryz.ntmps28;go_wp2;go_loopw [7,8] (λR B wr=>∃(j:Nat) (x:Bs),R=.string (bs x)/\B=.int .i64 j/\x.length=j/\j<=n/\x.all aQ=true/\Below w.heap.size w wr) (λ_ B _=>n-(intOf B).toNat);case atStart=>exact⟨0,[],rfl,rfl,rfl,Ul _,rfl,Below.refl _ _⟩
 case round=>
  obtain⟨j,x,rfl,rfl,d,W,b,s⟩:=hrel;have t:=H.out m (by omega) wr s;obtain⟨u,f⟩:=ex (eO l m);have g:=Q.out;rw[<-f]at t g;have M:0<=u/\u<65536:=by rw[f];exact r.out _
  have i:Hid (x.length=j/\x.all aQ=true/\Below w.heap.size w wr):=⟨d,b,s⟩
  clear f;obtain S|hge:=Uh j n
  ·(have C:(j:Int)<u%17:=by omega);(have D:=H.out ((m:Int)+1+j) (by omega) wr s;obtain⟨q,p⟩:=ex (eO l ((m:Int)+1+j));rw[<-p]at D;have N:0<=q/\q<65536:=by rw[p];exact r.out _);(have T:(bs [byteOf (97+q%4)]).size<=1:=by rw[aR];exact Ue _);have U:(bs x).size<=16:=by rw[aR];omega
   have E:=λc:World=>NW fs c (97+q%4) (by omega) (by omega);clear p d b s g;go_wp2_with (first
    |(go_at_call 71;refine t.mono ?_;clear t;rintro e w3 ⟨rfl,rfl⟩)
    |(go_at_call 71;refine D.mono ?_;clear D;rintro e w4 ⟨rfl,rfl⟩))
   exact⟨⟨j+1,x++[byteOf (97+q%4)],by rw[NX],by go_num,by rw[Uw,i.out.1];rfl,by omega,by rw[List.all_append,i.out.2.1];simp[CP (97+q%4) (by omega) (by omega)],i.out.2.2.alloc i.out.2.2.size _⟩,by simp[intOf];omega⟩
  have C:decide ((j:Int)<u%17)=false:=Uj (by omega)
  clear d b s g;go_wp2_with (first
   |(go_at_call 71;refine t.mono ?_;clear t;rintro e w3 ⟨rfl,rfl⟩))
  go_ret;exact⟨x,rfl,by have:=i.out;omega,i.out.2.1,i.out.2.2⟩
def zB{w:World}{N:Nat}{a b c:Value}(h:∀i v,(#[a,b,c]:Array Value)[i]? =some v->w.cell? ⟨N,i,none⟩=some v):w.cell? ⟨N,0,none⟩=some a/\w.cell? ⟨N,1,none⟩=some b/\w.cell? ⟨N,2,none⟩=some c:=⟨h 0 _ rfl,h 1 _ rfl,h 2 _ rfl⟩
def Qo{w:World}{N:Nat}{a b c d e:Value}(h:∀i v,(#[a,b,c,d,e]:Array Value)[i]? =some v->w.cell? ⟨N,i,none⟩=some v):w.cell? ⟨N,0,none⟩=some a/\w.cell? ⟨N,1,none⟩=some b/\w.cell? ⟨N,2,none⟩=some c/\w.cell? ⟨N,3,none⟩=some d/\w.cell? ⟨N,4,none⟩=some e:=⟨h 0 _ rfl,h 1 _ rfl,h 2 _ rfl,h 3 _ rfl,h 4 _ rfl⟩
def OM(w:World){cs:Array Value}{ty}:∀w1,w1=w.alloc (.cells cs ty)->ae w w1/\Below w.heap.size w w1/\∀i v,cs[i]? =some v->w1.cell? ⟨w.heap.size,i,none⟩=some v:=λw1 h=>by subst h;exact⟨ae.alloc _ _,aF _ _,λi v h=>az w _ ty i v h⟩
def FU(m:Mark):dB m=if !cu m.name then 4 else if !m.word.data.toList.isEmpty&& !bd m.word 16 then 3 else if aT 0 5 codeF m.aW≠0 then aT 0 5 codeF m.aW else if !aw m.day 0 99999 then 1 else 0:=rfl
end Go.Proofs
namespace Go.Proofs
open Go.Tm Go.RowKit Go.MapKept
section
variable (fs:Array Func)
end
end Go.Proofs
namespace Go.Proofs
open Go.Tm Go.RowKit Go.MapKept
open Go.ChangeMaps (setBlock)
def Rng(w:World)(b r:Nat)(f:EK->Nat)(left:EK->Bool)(cnt:Nat):Prop:=∃es d c seen e,w.heap[b]? =some (.map es d)/\Cnt es.toList d f/\w.heap[r]? =some (.mapIter (some b) c seen e)/\(∀x∈es.toList,x.born<c)/\c<=e/\c<=d/\(leftOf es seen).size=cnt/\(∀x∈es.toList,∀p,x.key=er p->left p= !seen.contains x.born)/\∀p,left p=true->∃x∈es.toList,x.key=er p
variable {w:World} {b r cnt:Nat} {f:EK->Nat} {left:EK->Bool}
def Rng.FH(h:Rng w b r f left cnt):eU w b f:=by obtain⟨es,c,d,seen,i,e,g,_⟩:=h;exact⟨es,c,e,g⟩
def Rng.ne(h:Rng w b r f left cnt):r≠b:=by obtain⟨es,c,d,seen,i,g,j,e,_⟩:=h;rintro rfl;rw[g]at e;cases e
def Rng.lt(h:Rng w b r f left cnt):r<w.heap.size:=by obtain⟨es,c,d,seen,g,i,j,e,_⟩:=h;exact(Uk.1 e).1
def Rng.keep{w'}(h:Rng w b r f left cnt)(e:w'.heap[b]? =w.heap[b]?)(g:w'.heap[r]? =w.heap[r]?):Rng w' b r f left cnt:=by obtain⟨es,c,d,seen,i,j,k,l,m⟩:=h;exact⟨es,c,d,seen,i,e.trans j,k,g.trans l,m⟩
def Rng.left_eq(h:Rng w b r f left cnt):w.rangeLeft b r=cnt:=by obtain⟨es,c,d,seen,j,e,k,g,_,_,_,i,_⟩:=h;simp only[World.rangeLeft,e,g];exact i
def IM{es c}(h:Cnt es c f){x e}(d:x∈es)(g:e∈es){p q:EK}(i:x.key=er p)(j:e.key=er q):p=q↔x.born=e.born:=by constructor;rintro rfl;have:x=e:=entry_eq_of_key h.keys d g (i.trans j.symm);rw[this];intro k;have:x=e:=born_inj h.born d g k;subst this;exact FC (i.symm.trans j)
def A2(es seen):(leftOf es seen).size=((es.toList.map kb).filter λq=> !seen.contains q.2).length:=by unfold leftOf;rw[<-Array.length_toList,Array.toList_filter,List.filter_map,Vh];rfl
section
variable (fs:Array Func)
open Classical in
def Lz(h:eU w b f):∃w' left cnt,(Instr.range 291 (.map (some b))).run (Qs fs) w=.ok (.pointer (some ⟨w.heap.size,0,none⟩)) w'/\Rng w' b w.heap.size f left cnt/\(∀p,f p≠0->left p=true)/\Below w.heap.size w w'/\w'.heap.size=w.heap.size+1:=by obtain⟨es,c,k,i⟩:=id h;refine⟨_,λp=>es.toList.any λe=>decide (e.key=er p),_,run_range_map w 291 293 3 b es c (uy fs) k,⟨es,c,c,#[],c,((MapKept.heap_alloc w _).2 b h.lt).trans k,i,(MapKept.heap_alloc w _).1,λx d=>?_,Ue _,Ue _,rfl,λx d p g=>?_,λp g=>?_⟩,λp g=>?_,aF _ _,by simp⟩;obtain⟨q,_,_,_,h⟩:=i.ent x d;exact h;have:(es.toList.any λe=>decide (e.key=er p))=true:=U9.2 ⟨x,d,Um g⟩;simpa using this;obtain⟨x,d,j⟩:=U9.1 g;exact⟨x,d,UF j⟩;obtain⟨x,d,j⟩:=i.all p g;exact U9.2 ⟨x,d,Um j⟩
def Rng.next(h:Rng w b r f left cnt)(ty):((∀p,left p=false)/\(Instr.next (.pointer (some ⟨r,0,none⟩)) false ty).run (Qs fs) w=.ok (.tuple #[.bool false]) w)\/∃p w' t,wfE p/\left p=true/\(Instr.next (.pointer (some ⟨r,0,none⟩)) false ty).run (Qs fs) w=.ok (.tuple #[.bool true,er p,.int .i64 (f p)]) w'/\Rng w' b r f (λq=>left q&& !decide (q=p)) t/\t<cnt/\w'.os=w.os/\w'.tape=w.tape/\w'.output=w.output/\w'.heap.size=w.heap.size/\(∀k,k≠r->w'.heap[k]? =w.heap[k]?)/\(∀(k:Nat) c e F,w.heap[k]? =some (Obj.cells c e F)->w'.heap[k]? =some (Obj.cells c e F))/\(Instr.entry (.pointer (some ⟨r,0,none⟩))).run (Qs fs) w'=.ok (.tuple #[er p,.int .i64 (f p)]) w':=by (have G:=h.ne;obtain⟨es,d,g,seen,O,R,F,H,u,I,A,rfl,y,B⟩:=h;rcases run_next_at (P:=Qs fs) w ty r b g O seen es d H R u I with⟨T,l⟩|⟨e,S,w1,i,l⟩);refine .inl ⟨λp=>?_,l⟩;(cases m:left p with|false=>rfl|true=>obtain⟨x,C,J⟩:=B p m;rw[y x C p J,all_seen es seen T x C]at m;cases m);obtain⟨n,K⟩:=mem_left S;(obtain⟨p,U,m,V,W⟩:=F.ent e n;have L:w1.heap[r]? =some (.mapIter (some b) g seen O):=by rcases i with rfl|rfl<;>exact H);(have M:w1.heap[b]? =some (.map es d):=by rcases i with rfl|rfl<;>exact R);have j:=heap_set (o':=.mapIter (some b) g (seen.push e.born) d) L;have D:(setBlock w1 r (.mapIter (some b) g (seen.push e.born) d)).heap[b]? =some (.map es d):=(j.2 b (λe1=>G e1.symm)).trans M;have v:=run_entry_at (P:=Qs fs) _ r b g seen es d e j.1 D n F.born;rw[m,V]at l v;refine .inr ⟨p,_,_,U,by rw[y e n p m,K];rfl,l,⟨es,d,g,seen.push e.born,d,D,F,j.1,u,A,A,rfl,λx C q E=>?_,λq E=>B q (by simp at E;exact E.1)⟩,left_shrinks es seen e S,?_,?_,?_,?_,λk m=>?_,λk c e0 X m=>?_,v⟩;show(left q&& !decide (q=p))=_;rw[y x C q E,contains_push];have:=IM F C n E m;by_cases s:q=p;have z:=this.1 s;rw[Um s,z];simp;have z:¬x.born=e.born:=λh=>s (this.2 h);(rw[Uj s];have:(x.born==e.born)=false:=by simpa using z);rw[this];simp;rcases i with rfl|rfl<;>rfl;rcases i with rfl|rfl<;>rfl;rcases i with rfl|rfl<;>rfl;rcases i with rfl|rfl<;>simp[setBlock];exact(j.2 k m).trans (by rcases i with rfl|rfl<;>rfl);(have N:k≠r:=by rintro rfl;rw[H]at m;cases m);exact((j.2 k N).trans (by rcases i with rfl|rfl<;>rfl)).trans m
def Rng.entry(h:Rng w b r f left cnt){p:EK}(k:wfE p)(l:f p≠0):∃es c,∃st:Nat,(Instr.mapEntry 291 (.map (some b)) (er p)).run (Qs fs) w=.ok (.tuple #[.int .i64 (f p),.int .i64 st]) (dN w b es c)/\Rng (dN w b es c) b r f left cnt/\iH (dN w b es c) b p st:=by have i:=h.ne;obtain⟨es,c,d,seen,m,g,F,n,rest⟩:=h;obtain⟨j,e,q,s,t⟩:=IL fs g F k l;exact⟨es,c,e.born,q,⟨es,c,d,seen,m,(dq g).1,F,((dq g).2.1 r i).trans n,rest⟩,⟨es,c,(dq g).1,j,e,s,t,rfl⟩⟩
def Rng.store(h:Rng w b r f left cnt){p:EK}{st}(K:iH w b p st)(L:wfE p)(v:Nat):∃es c,(Instr.entryStore 291 (.map (some b)) (.int .i64 st) (.int .i64 v)).run (Qs fs) w=.ok () (dN w b es c)/\Rng (dN w b es c) b r (λq=>if q=p then v else f q) left cnt:=by have A:=h.ne;obtain⟨es,c,d,seen,M,s,F,N,g,B,C,i,D,E⟩:=h;obtain⟨O,t,k,j,e,P,R,G⟩:=K;rw[s]at k;cases k;subst G;obtain⟨l,a1,S,u⟩:=vo fs s F P R L v;refine⟨l,c,a1,l,c,d,seen,M,(dq s).1,S,((dq s).2.1 r A).trans N,λx m=>?_,B,C,?_,λx m q H=>?_,λq H=>?_⟩;obtain⟨y,n,_,z⟩:=Cnt.shape u x m;rw[<-z];exact g y n;rw[A2,u,<-A2];exact i;obtain⟨y,n,I,z⟩:=Cnt.shape u x m;rw[<-z];exact D y n q (I.trans H);obtain⟨x,m,J⟩:=E q H;obtain⟨y,n,I,z⟩:=Cnt.shape u.symm x m;exact⟨y,n,I.trans J⟩
end
section
variable {fs:Array Func} {ops:Array Oper} {rest:List Oper} {o:Oper} {a:Act} {Q:Exit->Act->World->Prop}
end
end Go.Proofs

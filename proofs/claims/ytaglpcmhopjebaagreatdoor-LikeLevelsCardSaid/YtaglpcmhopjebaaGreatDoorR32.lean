import Derived.Maps.RangeWalk
import Derived.Test.YtaglpcmhopjebaaGreatDoorR31
set_option linter.all false
set_option maxRecDepth 100000
set_option maxHeartbeats 20000000
namespace Go.Proofs
open Go.Tm Go.RowKit
variable {fs:Array Func} (L:bP fs)
structure B8(t:Table):Prop where
 lets:∀p∈t.av,p.1.size<=140737488351232/\p.2.size<=140737488351232
 OV:∀x∈t.aF,x.name.size<=140737488351232/\∀p∈x.aV,p.1.size<=140737488351232/\p.2.size<=140737488351232
 bq:∀g∈t.bq,∀s∈g,s.size<=140737488351232
def wrap_add{a b:Nat}(h:a+b<=9223372036854775807):wrap64 ((a:Int)+b)=((a+b:Nat):Int):=by unfold wrap64;omega
def Aj{a b c:Nat}(h:a+b+c<=9223372036854775807):wrap64 (wrap64 ((a:Int)+b)+c)=((a+b+c:Nat):Int):=by rw[wrap_add (by omega),wrap_add h]
def P5{K:Nat->Prop}{v0 v1 v2:Value}{t:Table}(w:World)(ht:IsTable K w v0 v1 v2 t)(hr:B8 t):Calls (Qs fs) 16 #[.agg #[v0,v1,v2]] w λe w'=>∃z,e=.returned (.bool z)/\(z=false->xR t)/\Below w.heap.size w w':=by
 obtain⟨w1,I⟩:=ex (w.alloc (.cells #[v0,v1,v2] 26));have S1:ae w w1:=by rw[I];exact ae.alloc _ _
 have B1:Below w.heap.size w w1:=by rw[I];exact aH _ _
 have ct:∀i v,(#[v0,v1,v2]:Array Value)[i]? =some v->w1.cell? ⟨w.heap.size,i,none⟩=some v:=λi v h=>by rw[I];exact az w _ 26 i v h
 obtain⟨N,hN⟩:=ex (w.heap.size);rw[<-hN]at ct;have u0:=ct 0 _ rfl;have u1:=ct 1 _ rfl;have u2:=ct 2 _ rfl;have HB:Hid _:=B1;have HR:Hid _:=hr;have ao:=ht.stays S1;obtain⟨⟨a8,c0,rfl,ba,bb,_,g0⟩,⟨bk,c1,rfl,bm,ak,_,g1⟩,⟨bo,Y,rfl,br,an,_,g2⟩⟩:=ao;have G0:Hid _:=g0;have G1:Hid _:=g1;have G2:Hid _:=g2;clear ht hr ct S1 B1 g0 g1 g2;have dn:∀n:Nat,40<n->decide ((40:Int)<(n:Int))=true:=λn h=>SD (by omega);have dm:∀n:Nat,¬40<n->decide ((40:Int)<(n:Int))=false:=λn h=>Sv (by omega);go_enter (n16 L),Tryz.ntmps16;go_upto_region 1 with fail;rw[<-I,<-hN];clear I hN;by_cases a0:40<t.av.length
 ·have d0:=dn _ a0;go_wp2;go_ret;exact⟨true,rfl,(λh=>by cases h),HB.out⟩
 have d0:=dm _ a0;by_cases a1:40<t.aF.length
 ·have d1:=dn _ a1;go_wp2;go_ret;exact⟨true,rfl,(λh=>by cases h),HB.out⟩
 have d1:=dm _ a1;by_cases a2:40<t.bq.length
 ·have d2:=dn _ a2;go_wp2;go_ret;exact⟨true,rfl,(λh=>by cases h),HB.out⟩
 have d2:=dm _ a2;have A:t.av.length<=40/\t.aF.length<=40/\t.bq.length<=40:=by omega
 clear dn dm a0 a1 a2;go_wp2;have Z:=u0;have aa:=u1;have J:=u2;clear u0 u1 u2;go_loopw [3,4] (λT s wr=>∃j n:Nat,j<=t.av.length/\s=.int .i64 j/\T=.int .i64 n/\n<=j*281474976702464/\(∀i (_:i<j) (h':i<t.av.length),t.av[i].1.size<=n/\t.av[i].2.size<=n)/\ae w1 wr/\Below w.heap.size w wr) (λ_ s _=>t.av.length-(intOf s).toNat);case atStart=>exact⟨0,0,SE _,rfl,rfl,SE _,λj h=>absurd h (SL _),ae.refl _,HB.out⟩
 case round=>
  obtain⟨j,n,hj,rfl,rfl,hn,f,c,M⟩:=hrel;have S:Hid _:=f;have u:Hid _:=(⟨c,M⟩:ae w1 wr/\Below w.heap.size w wr)
  have y0:=c.cell Z;have y1:=c.cell aa;have y2:=c.cell J;clear f;obtain y|hge:=Sr j t.av.length
  ·obtain⟨b,E,rfl,O,k⟩:=G0.out j y;(have X:=c.cell O;have U:=c.cell k;obtain⟨k1,V⟩:=HR.out.lets _ (SH y);obtain⟨p,l⟩:=ex (t.av[j]);rw[<-l]at X U k1 V;obtain⟨p0,p1⟩:=p;simp only[]at X U k1 V;have l0:∀x:aj w wr,x.val.cell? ⟨N,0,none⟩=some _:=λx=>x.st.cell y0;have l1:∀x:aj w wr,x.val.cell? ⟨b,E+j*2,none⟩=some (.string p0):=λx=>x.st.cell X;have l2:∀x:aj w wr,x.val.cell? ⟨b,E+j*2+1,none⟩=some (.string p1):=λx=>x.st.cell U;have HP:Hid _:=l;clear l O k c M;go_upto_region 7 with fail;refine aW (w0:=w) (w1:=wr) 17 (by kernel_rfl) (by kernel_rfl) (ae.refl _) u.out.2 ?_;simp only[Th,Tb,Tp,Tk];haveI ab:Nonempty (aj w wr):=⟨⟨wr,ae.refl _,u.out.2⟩⟩);(repeat (go_big_quiet_step (fail)));(refine wpQuiet_nil ?_;rintro wz ⟨⟨_,Sz,Bz⟩,rfl⟩;have HZ:Hid _:=(⟨ae.trans u.out.1 Sz,Bz⟩:_/\_));clear l0 l1 l2 ab Sz Bz X U y0 y1 y2;go_wp2;refine⟨⟨j+1,n+p0.size+p1.size,by omega,by go_num,by first|rw[Aj (by omega)]|exact Te (Value.int .i64) (by omega),by omega,λi F W=>?_,HZ.out.1,HZ.out.2⟩,by simp[intOf];omega⟩;obtain h3|h3:=Sr i j;have:=S.out i h3 W;omega;(have:i=j:=by omega);subst this;rw[<-HP.out];show p0.size<=_/\p1.size<=_;omega
  have P:j=t.av.length:=by omega
  subst P;have H0:Hid (n<=11258999068098560/\∀p∈t.av,p.1.size<=n/\p.2.size<=n):=⟨by omega,λp l=>by obtain⟨i,F,rfl⟩:=Ul l;exact S.out i F F⟩
  have W1:=u;clear c M S u hge hn;go_wp2;clear y0 y1 y2;go_loopw [3,5] (λT s wr=>∃j C:Nat,j<=t.aF.length/\s=.int .i64 j/\T=.int .i64 C/\n<=C/\C<=11258999068098560+j*11399736556449792/\(∀i (_:i<j) (h':i<t.aF.length),t.aF[i].name.size<=C/\t.aF[i].aV.length<=40/\∀p∈t.aF[i].aV,p.1.size<=C/\p.2.size<=C)/\ae w1 wr/\Below w.heap.size w wr) (λ_ s _=>t.aF.length-(intOf s).toNat);case atStart=>exact⟨0,n,SE _,rfl,rfl,Sp _,by have:=H0.out.1;omega,λj h=>absurd h (SL _),W1.out.1,W1.out.2⟩
  case round=>
   (obtain⟨j,C,hj,rfl,rfl,bs,hn,f,c,M⟩:=hrel;have S:Hid _:=f;have u:Hid _:=(⟨c,M⟩:ae w1 wr/\Below w.heap.size w wr));have y0:=c.cell Z;have y1:=c.cell aa;have y2:=c.cell J;clear f;obtain y|hge:=Sr j t.aF.length
   ·obtain⟨b,E,rfl,O,vs,k,G⟩:=G1.out j y;have X:=c.cell O;have U:=c.cell k;obtain⟨k1,V⟩:=HR.out.OV _ (SH y);obtain⟨p,l⟩:=ex (t.aF[j]);rw[<-l]at X k1 V G;obtain⟨p0,p1⟩:=p;simp only[]at X U k1 V G;obtain⟨ar,cs,rfl,ax,ay,_,d⟩:=G;have ad:Hid _:=d;have HP:Hid _:=l;have af:=k;clear l O k c M d;by_cases aM:40<p1.length
    ·(have g5:(40:Int)<(p1.length:Int):=by omega);go_wp2;go_ret;exact⟨true,rfl,(λh=>by cases h),u.out.2⟩
    have g5:decide ((40:Int)<(p1.length:Int))=false:=Sv (by omega)
    (go_upto_block 4 with fail);go_wp2;clear y0 y1 y2 X U;go_loopw [3,6] (λT s wi=>∃m n3:Nat,m<=p1.length/\s=.int .i64 m/\T=.int .i64 n3/\C+p0.size<=n3/\n3<=11258999068098560+j*11399736556449792+140737488351232+m*281474976702464/\(∀i (_:i<m) (h':i<p1.length),p1[i].1.size<=n3/\p1[i].2.size<=n3)/\ae w1 wi/\Below w.heap.size w wi) (λ_ s _=>p1.length-(intOf s).toNat);case atStart=>exact⟨0,C+p0.size,SE _,rfl,by first|rw[wrap_add (by omega)]|exact Te (Value.int .i64) (by omega),Sp _,by omega,λj h=>absurd h (SL _),u.out.1,u.out.2⟩
    case round=>
     (obtain⟨m,n3,hm,rfl,rfl,ak,an,o,a,D⟩:=hrel;have Q:Hid _:=o;have r:Hid _:=(⟨a,D⟩:ae w1 wr/\Below w.heap.size w wr));have z0:=a.cell Z;have z1:=a.cell aa;have z2:=a.cell J;have z3:=a.cell af;clear o;obtain B|hge2:=Sr m p1.length
     ·obtain⟨b2,o2,rfl,H,r2⟩:=ad.out m B;(have H:=a.cell H;have r2:=a.cell r2;obtain⟨e1,e2⟩:=V p1[m] (SH B);obtain⟨q,hq⟩:=ex (p1[m]);rw[<-hq]at H r2 e1 e2;obtain⟨q0,q1⟩:=q;simp only[]at H r2 e1 e2;have l0:∀x:aj w wr,x.val.cell? ⟨N,1,none⟩=some _:=λx=>x.st.cell z1;have l3:∀x:aj w wr,x.val.cell? ⟨b,E+j*2+1,none⟩=some _:=λx=>x.st.cell z3;have l1:∀x:aj w wr,x.val.cell? ⟨b2,o2+m*2,none⟩=some (.string q0):=λx=>x.st.cell H;have l2:∀x:aj w wr,x.val.cell? ⟨b2,o2+m*2+1,none⟩=some (.string q1):=λx=>x.st.cell r2;have HQ:Hid _:=hq;clear hq a D;go_upto_region 17 with fail;refine aW (w0:=w) (w1:=wr) 25 (by kernel_rfl) (by kernel_rfl) (ae.refl _) r.out.2 ?_;simp only[Th,Tb,Tp,Tk];haveI ab:Nonempty (aj w wr):=⟨⟨wr,ae.refl _,r.out.2⟩⟩);(repeat (go_big_quiet_step (fail)));(refine wpQuiet_nil ?_;rintro wz ⟨⟨_,Sz,Bz⟩,rfl⟩;have HZ:Hid _:=(⟨ae.trans r.out.1 Sz,Bz⟩:_/\_));clear l0 l1 l2 l3 ab Sz Bz H r2 z0 z1 z2 z3;go_wp2;refine⟨⟨m+1,n3+q0.size+q1.size,by omega,by go_num,by first|rw[Aj (by omega)]|exact Te (Value.int .i64) (by omega),by omega,by omega,λi F W=>?_,HZ.out.1,HZ.out.2⟩,by simp[intOf];omega⟩;obtain h3|h3:=Sr i m;have:=Q.out i h3 W;omega;(have:i=m:=by omega);subst this;rw[<-HQ.out];show q0.size<=_/\q1.size<=_;omega
     (have ag:m=p1.length:=by omega);subst ag;clear a D;go_wp2;refine⟨⟨j+1,n3,by omega,by go_num,rfl,by omega,by omega,λi F W=>?_,r.out.1,r.out.2⟩,by simp[intOf];omega⟩;obtain h3|h3:=Sr i j;obtain⟨c1,Y,c3⟩:=S.out i h3 W;exact⟨by omega,Y,λp l=>by have:=c3 p l;omega⟩;(have:i=j:=by omega);subst this;rw[<-HP.out];refine⟨by show p0.size<=_;omega,by show p1.length<=_;omega,λp l=>?_⟩;obtain⟨i',R,rfl⟩:=Ul l;exact Q.out i' R R
   (have P:j=t.aF.length:=by omega);(subst P;have H1:Hid (C<=467248461326090240/\∀x∈t.aF,x.name.size<=C/\x.aV.length<=40/\∀p∈x.aV,p.1.size<=C/\p.2.size<=C):=⟨by omega,λp l=>by obtain⟨i,F,rfl⟩:=Ul l;exact S.out i F F⟩);have W2:=u;clear c M S u hge hn;go_wp2;clear y0 y1 y2;go_loopw [3,7] (λT s wr=>∃j n3:Nat,j<=t.bq.length/\s=.int .i64 j/\T=.int .i64 n3/\C<=n3/\n3<=467248461326090240+j*5629499534049280/\(∀i (_:i<j) (h':i<t.bq.length),t.bq[i].length<=40/\∀s∈t.bq[i],s.size<=n3)/\ae w1 wr/\Below w.heap.size w wr) (λ_ s _=>t.bq.length-(intOf s).toNat);case atStart=>exact⟨0,C,SE _,rfl,rfl,Sp _,by have:=H1.out.1;omega,λj h=>absurd h (SL _),W2.out.1,W2.out.2⟩
   case round=>
    (obtain⟨j,n3,hj,rfl,rfl,a6,hn,f,c,M⟩:=hrel;have S:Hid _:=f;have u:Hid _:=(⟨c,M⟩:ae w1 wr/\Below w.heap.size w wr));have y2:=c.cell J;clear f;obtain y|hge:=Sr j t.bq.length
    ·obtain⟨b,E,rfl,vs,k,G⟩:=G2.out j y;(have k:w1.cell? ⟨b,E+j,none⟩=some vs:=by simpa using k);have U:=c.cell k;have V:=HR.out.bq _ (SH y);obtain⟨g,hg⟩:=ex (t.bq[j]);rw[<-hg]at V G;obtain⟨ar,cs,rfl,ax,ay,_,d⟩:=G;have ad:Hid _:=d;have HP:Hid _:=hg;have af:=k;clear hg k c M d;by_cases aM:40<g.length
     ·(have g5:(40:Int)<(g.length:Int):=by omega);go_wp2;go_ret;exact⟨true,rfl,(λh=>by cases h),u.out.2⟩
     have g5:decide ((40:Int)<(g.length:Int))=false:=Sv (by omega)
     (go_upto_block 8 with fail);go_wp2;clear y2 U;go_loopw [3,8] (λT s wi=>∃m n4:Nat,m<=g.length/\s=.int .i64 m/\T=.int .i64 n4/\n3<=n4/\n4<=467248461326090240+j*5629499534049280+m*140737488351232/\(∀i (_:i<m) (h':i<g.length),g[i].size<=n4)/\ae w1 wi/\Below w.heap.size w wi) (λ_ s _=>g.length-(intOf s).toNat);case atStart=>exact⟨0,n3,SE _,rfl,rfl,Sp _,Sq hn (VN _ _),λj h=>absurd h (SL _),u.out.1,u.out.2⟩
     case round=>
      (obtain⟨m,n4,hm,rfl,rfl,ak,an,o,a,D⟩:=hrel;have Q:Hid _:=o;have r:Hid _:=(⟨a,D⟩:ae w1 wr/\Below w.heap.size w wr));have z2:=a.cell J;have z3:=a.cell af;clear o;obtain B|hge2:=Sr m g.length
      ·obtain⟨b2,o2,rfl,H⟩:=ad.out m B;(have H:=a.cell H;have H:wr.cell? ⟨b2,o2+m,none⟩=some (.string g[m]):=by simpa using H);have e1:=V g[m] (SH B);obtain⟨q,hq⟩:=ex (g[m]);rw[<-hq]at H e1;have HQ:Hid _:=hq;clear hq a D;go_wp2;refine⟨⟨m+1,n4+q.size,by omega,by go_num,by first|rw[wrap_add (by omega)]|exact Te (Value.int .i64) (by omega),by omega,by omega,λi F W=>?_,r.out.1,r.out.2⟩,by simp[intOf];omega⟩;obtain h3|h3:=Sr i m;have:=Q.out i h3 W;omega;(have:i=m:=by omega);subst this;rw[<-HQ.out];omega
      (have ag:m=g.length:=by omega);subst ag;clear a D;go_wp2;refine⟨⟨j+1,n4,by omega,by go_num,rfl,by omega,by omega,λi F W=>?_,r.out.1,r.out.2⟩,by simp[intOf];omega⟩;obtain h3|h3:=Sr i j;obtain⟨c1,Y⟩:=S.out i h3 W;exact⟨c1,λp l=>by have:=Y p l;omega⟩;(have:i=j:=by omega);subst this;rw[<-HP.out];refine⟨by omega,λp l=>?_⟩;obtain⟨i',R,rfl⟩:=Ul l;exact Q.out i' R R
    (have P:j=t.bq.length:=by omega);subst P;clear c M;by_cases a7:1000<n3
    ·have d9:decide ((1000:Int)<(n3:Int))=true:=SD (by omega);go_wp2;go_ret;exact⟨true,rfl,(λh=>by cases h),u.out.2⟩
    have d9:decide ((1000:Int)<(n3:Int))=false:=Sv (by omega)
    have hT:xR t:=⟨⟨by omega,λp l=>by have:=H0.out.2 p l;omega⟩,⟨by omega,λx hx=>by
     obtain⟨c1,Y,c3⟩:=H1.out.2 x hx;exact⟨by omega,λp l=>by have:=c3 p l;omega⟩⟩,⟨by omega,λg hg=>by
     obtain⟨i,F,rfl⟩:=Ul hg;obtain⟨c1,Y⟩:=S.out i F F;exact⟨by omega,λs hs=>by have:=Y s hs;omega⟩⟩⟩
    have HT:Hid _:=hT;clear hT;go_wp2;go_ret;exact⟨false,rfl,λ_=>HT.out,u.out.2⟩
theorem xS{c}{chk:List c->c->Int}:∀{seen l:List c},ep chk seen l=0->∀j (b:j<l.length),chk (seen++l.take j) l[j]=0
 |seen,[],_,j,b=>absurd b (SL _)
 |seen,x::xs,h,j,b=>by
  unfold ep at h;by_cases a:chk seen x≠0
  ·rw[Sn a]at h
   exact absurd h a
  ·rw[Sm a]at h
   have a:chk seen x=0:=by omega
   cases j with
   |zero=>simpa using a
   |succ j=>have:=xS h j (by simpa using b);simpa using this
def gz{a}{b c}{chk:List a->a->Int}{l:List a}(h:aN b c chk l=0):(b<=l.length/\(l.length:Int)<=c)/\∀j (d:j<l.length),chk (l.take j) l[j]=0:=by unfold aN aq at h;split at h;rename_i e;simp only[SG,SP]at e;exact⟨e,λj d=>by simpa using xS h j d⟩;cases h
def rW{a}{c b}{chk:List a->a->Int}{l:List a}(h:aN c b chk l=0){x}(d:x∈l):∃seen,chk seen x=0:=by obtain⟨i,b,rfl⟩:=Ul d;exact⟨_,(gz h).2 i b⟩
def lR{s a hi}(h:aY s a hi=true):a<=s.size/\(s.size:Int)<=hi:=by unfold aY aq at h;simp only[SG,SP]at h;exact h.1
def B9{t}(h:dD t=0):aN 0 12 letterF t.av=0/\aN 0 3 de t.aF=0/\aN 0 4 gl t.bq=0:=by unfold dD at h;simp only[]at h;split at h;rename_i a;exact absurd h a;rename_i b;split at h;rename_i a;exact absurd h a;rename_i c;exact⟨by simpa using b,by simpa using c,h⟩
def Nh{t}(h:dD t=0):OkT t:=by (obtain⟨i,j,k⟩:=B9 h;have l:=(gz i).1;have m:=(gz j).1;have n:=(gz k).1;have a:∀x∈t.aF,aN 0 5 dR x.aV=0:=λx b=>by obtain⟨seen,e⟩:=rW j b;unfold de at e;split at e;cases e;split at e;cases e;exact e);refine⟨λp d=>?_,by omega,λx b p d=>?_,λx b=>?_,by omega,by omega⟩;obtain⟨seen,e⟩:=rW i d;unfold letterF at e;split at e;cases e;rename_i c;split at e;cases e;split at e;cases e;rename_i f;(have f:=lR (by simpa using f);have c:bl p.1 4=true:=by simpa using c);unfold bl aq at c;simp only[SG,SP]at c;omega;obtain⟨seen,e⟩:=rW (a x b) d;unfold dR at e;split at e;cases e;rename_i g;simp only[Bool.not_eq_eq_eq_not,TY,Ua,not_or,U9,ne_eq,Decidable.not_not]at g;have c:=lR g.1;have f:=lR g.2;omega;have:=(gz (a x b)).1;omega
def qw(m:Mark):Prop:=m.name.size<=100/\m.word.size<=100/\m.aP.length<=40
def P6{w:World}{N:Nat}{a b c:Value}(h:∀i v,(#[a,b,c]:Array Value)[i]? =some v->w.cell? ⟨N,i,none⟩=some v):w.cell? ⟨N,0,none⟩=some a/\w.cell? ⟨N,1,none⟩=some b/\w.cell? ⟨N,2,none⟩=some c:=⟨h 0 _ rfl,h 1 _ rfl,h 2 _ rfl⟩
def yN{w:World}{N:Nat}{a b c d e:Value}(h:∀i v,(#[a,b,c,d,e]:Array Value)[i]? =some v->w.cell? ⟨N,i,none⟩=some v):w.cell? ⟨N,0,none⟩=some a/\w.cell? ⟨N,1,none⟩=some b/\w.cell? ⟨N,2,none⟩=some c/\w.cell? ⟨N,3,none⟩=some d/\w.cell? ⟨N,4,none⟩=some e:=⟨h 0 _ rfl,h 1 _ rfl,h 2 _ rfl,h 3 _ rfl,h 4 _ rfl⟩
def EN(w:World){cs:Array Value}{ty}:∀w1,w1=w.alloc (.cells cs ty)->ae w w1/\Below w.heap.size w w1/\∀i v,cs[i]? =some v->w1.cell? ⟨w.heap.size,i,none⟩=some v:=λw1 h=>by subst h;exact⟨ae.alloc _ _,aH _ _,λi v h=>az w _ ty i v h⟩
def Nl{K:Nat->Prop}{mc:Array Value}{m:Mark}(w:World)(k:bc K w mc m):Calls (Qs fs) 24 #[.agg mc] w λe w'=>∃z,e=.returned (.bool z)/\(z=false->qw m)/\Below w.heap.size w w':=by
 obtain⟨p,rfl,a⟩:=k;obtain⟨l,c,rfl,_⟩:=id a;obtain⟨w1,b⟩:=ex (w.alloc (.cells #[.string m.name,.string m.word,.slice l m.aP.length c,.int .i64 m.day,.bool m.known] 38));obtain⟨n,i,ct⟩:=EN w w1 b;obtain⟨N,g⟩:=ex (w.heap.size);rw[<-g]at ct;have q:=ct 0 _ rfl;have r:=ct 1 _ rfl;have s:=ct 2 _ rfl;have d:Hid _:=i;clear n i ct a;go_enter (n24 L),Tryz.ntmps24;go_upto_region 1 with fail;rw[<-b,<-g];clear b g;by_cases f:100<m.name.size
 ·have d0:decide ((100:Int)<(m.name.size:Int))=true:=SD (by omega);clear f;go_wp2;go_ret;exact⟨true,rfl,(λh=>by cases h),d.out⟩
 have d0:decide ((100:Int)<(m.name.size:Int))=false:=Sv (by omega);by_cases a1:100<m.word.size
 ·have d1:decide ((100:Int)<(m.word.size:Int))=true:=SD (by omega);clear f a1;go_wp2;go_ret;exact⟨true,rfl,(λh=>by cases h),d.out⟩
 have d1:decide ((100:Int)<(m.word.size:Int))=false:=Sv (by omega);by_cases j:40<m.aP.length
 ·have d2:decide ((40:Int)<(m.aP.length:Int))=true:=SD (by omega);clear f a1 j;go_wp2;go_ret;exact⟨true,rfl,(λh=>by cases h),d.out⟩
 have d2:decide ((40:Int)<(m.aP.length:Int))=false:=Sv (by omega);have o:qw m:=⟨by omega,by omega,by omega⟩
 clear f a1 j;go_wp2;go_ret;exact⟨false,rfl,(λ_=>o),d.out⟩
def KB(k:Int)(w:World):Calls (Qs fs) 68 #[.int .i64 k] w λe w'=>e=.returned (.bool (aq k 0 5))/\w'=w:=by
 by_cases a:0<=k
 ·by_cases b:k<=5
  ·(have e:aq k 0 5=true:=by unfold aq;rw[SD a,SD b];rfl);have d0:decide (0<=k)=true:=SD a;have d1:decide (k<=5)=true:=SD b;rw[e];clear e a b;go_enter (n68 L),Tryz.ntmps68;go_wp2;go_ret;exact⟨rfl,rfl⟩
  have e:aq k 0 5=false:=by unfold aq;rw[SD a,Sv b];rfl
  have d0:decide (0<=k)=true:=SD a;have d1:decide (k<=5)=false:=Sv b;rw[e];clear e a b;go_enter (n68 L),Tryz.ntmps68;go_wp2;go_ret;exact⟨rfl,rfl⟩
 have e:aq k 0 5=false:=by unfold aq;rw[Sv a];rfl
 have d0:decide (0<=k)=false:=Sv a;rw[e];clear e a;go_enter (n68 L),Tryz.ntmps68;go_wp2;go_ret;exact⟨rfl,rfl⟩
def xU(m:Mark):bQ m=if !dC m.name then 4 else if !m.word.data.toList.isEmpty&& !bl m.word 16 then 3 else if aN 0 5 codeF m.aP≠0 then aN 0 5 codeF m.aP else if !aq m.day 0 99999 then 1 else 0:=rfl
def rZ{K:Nat->Prop}{mc:Array Value}{m:Mark}(w:World)(hm:bc K w mc m)(O:qw m):Calls (Qs fs) 69 #[.agg mc] w λe w'=>e=.returned (.int .i64 (bQ m))/\Below w.heap.size w w':=by
 obtain⟨vf,rfl,t⟩:=hm;have Nu:=Nu L;have Nt:=Nt L;have e60:=e60 L;obtain⟨ao,c,rfl,ax,hc,ay⟩:=id t;clear ay;obtain⟨w1,D⟩:=ex (w.alloc (.cells #[.string m.name,.string m.word,.slice ao m.aP.length c,.int .i64 m.day,.bool m.known] 38));obtain⟨S1,B1,ct⟩:=EN w w1 D;obtain⟨N,hN⟩:=ex (w.heap.size);rw[<-hN]at ct;obtain⟨nm,E⟩:=ex (m.name);obtain⟨wd,F⟩:=ex (m.word);obtain⟨l,hl⟩:=ex (m.aP);obtain⟨P,Q⟩:=ex (m.day);have hM:=xU m;obtain⟨s0,s1,s2⟩:=O;rw[<-E,<-F,<-hl,<-Q]at hM;rw[<-E]at s0;rw[<-F]at s1;rw[<-hl]at s2 t ax;rw[<-E,<-F,<-hl,<-Q]at ct D⊢;clear E F hl Q;have u0:=ct 0 _ rfl;have u1:=ct 1 _ rfl;have u2:=ct 2 _ rfl;have u3:=ct 3 _ rfl;have v:=Iq L nm w1 (by omega);obtain⟨z0,aa⟩:=ex (dC nm);rw[<-aa]at v hM;have HB:Hid _:=B1;have HR:Hid (aD K 1 df w1 (.slice ao l.length c) l):=t.ints S1;have d:Hid _:=hM;clear S1 B1 ct t hM aa;go_enter (n69 L),Tryz.ntmps69;go_upto_region 1 with fail;rw[<-D,<-hN];clear D hN;go_wp2_with fail
 refine v.mono ?_;clear v;rintro e w2 ⟨rfl,R⟩;have G:Hid (Below w.heap.size w w2):=HB.out.trans (R.mono HB.out.size);have S2:=ae.below R;have u0:=S2.cell u0;have u1:=S2.cell u1;have u2:=S2.cell u2;have u3:=S2.cell u3;have HR:Hid (aD K 1 df w2 (.slice ao l.length c) l):=HR.out.ints S2;clear R S2;cases z0 with
 |false=>have e:bQ m=4:=d.out.trans rfl;have H:Hid _:=e;clear e d;go_wp2;go_ret;exact⟨by rw[H.out];rfl,G.out⟩
 |true=>
 have hE:wd.toList.isEmpty=wd.data.toList.isEmpty:=wj wd;obtain⟨z1,S⟩:=ex (wd.data.toList.isEmpty);obtain⟨z2,T⟩:=ex (bl wd 16);have i:=λwx=>tL L wd 16 wx (by omega);rw[<-S]at hE;simp only[<-T]at i;have ab:bQ m=if !z1&& !z2 then 3 else if aN 0 5 codeF l≠0 then aN 0 5 codeF l else if !aq P 0 99999 then 1 else 0:=by rw[S,T];exact d.out.trans rfl
 clear d S T;have d:Hid _:=ab;clear ab;by_cases U:z1=false/\z2=false
 ·obtain⟨rfl,rfl⟩:=U;have e:bQ m=3:=d.out.trans rfl;have H:Hid _:=e;clear e d;go_wp2_with (first|(go_at_call 110;refine(i _).mono ?_;rintro e w' ⟨rfl,a⟩;rw[a];clear a));go_ret;exact⟨by rw[H.out];rfl,G.out⟩
 have ad:bQ m=if aN 0 5 codeF l≠0 then aN 0 5 codeF l else if !aq P 0 99999 then 1 else 0:=d.out.trans (Sm (by cases z1<;>cases z2<;>simp_all))
 clear d;have d:Hid _:=ad;clear ad;have af:z1=true\/z1=false/\z2=true:=by cases z1<;>cases z2<;>simp_all
 by_cases h5:5<l.length
 ·have g:(5:Int)<(l.length:Int):=by omega
  have e:bQ m=2:=by (have:aN 0 5 codeF l=2:=by unfold aN aq;rw[Sv (p:=(l.length:Int)<=5) (by omega),UI];rfl);rw[d.out,this];rfl
  have H:Hid _:=e;clear e d h5 U s0 s1 s2;obtain rfl|⟨rfl,rfl⟩:=af;all_goals (
   go_wp2_with (first|(go_at_call 110;refine(i _).mono ?_;rintro e w' ⟨rfl,a⟩;rw[a];clear a))
   go_ret;exact⟨by rw[H.out];rfl,G.out⟩)
 have g:decide ((5:Int)<(l.length:Int))=false:=Sv (by omega);have e:aN 0 5 codeF l=ep codeF [] l:=by unfold aN aq;rw[SD (by omega),SD (by omega)];rfl
 have ag:bQ m=if ep codeF [] l≠0 then ep codeF [] l else if !aq P 0 99999 then 1 else 0:=by rw[<-e];exact d.out
 clear d;have d:Hid _:=ag;have HU:Hid (w2.cell? ⟨N,2,none⟩=some (.slice ao l.length c)/\w2.cell? ⟨N,3,none⟩=some (.int .i64 P)):=⟨u2,u3⟩
 have HS:Hid (l.length<=5):=by rw[Hid];omega
 clear ag e h5 U s0 s1 s2;obtain rfl|⟨rfl,rfl⟩:=af;all_goals (
  go_upto_region 7 with(first|(go_at_call 110;refine(i _).mono ?_;rintro e w' ⟨rfl,a⟩;rw[a];clear a))
  clear i u0 u1 u2 u3;go_wp2;go_loopw [3] (λs wr=>∃k:Nat,k<=l.length/\s=.int .i64 k/\(∀j (_:j<k) (h':j<l.length),codeF (l.take j) l[j]=0)/\ae w2 wr/\Below w.heap.size w wr) (λs _=>l.length-(intOf s).toNat)
  case atStart=>exact⟨0,SE _,rfl,λj h=>absurd h (SL _),ae.refl _,G.out⟩
  case round=>
   obtain⟨k,hk,rfl,hf,q,hb⟩:=hrel;have HF:Hid _:=hf;have y:Hid _:=(⟨q,hb⟩:_/\Below w.heap.size w wr)
   have y2:=q.cell HU.out.1;have y3:=q.cell HU.out.2;clear hf hb;obtain z|hge:=Sr k l.length
   ·obtain⟨a6,c',e',_,_,_,r⟩:=HR.out
    cases e';obtain⟨b,u,rfl,C⟩:=r k z;rw[Tu]at C;have C:wr.cell? ⟨b,u+k,none⟩=some (.int .i64 l[k]):=q.cell C;have HC:Hid (∀j (hj:j<l.length),wr.cell? ⟨b,u+j,none⟩=some (.int .i64 l[j])):=λj hj=>by obtain⟨b',o',e',hy⟩:=r j hj;cases e';rw[Tu]at hy;exact q.cell hy
    clear r;obtain⟨n,hn⟩:=ex (l[k]);rw[<-hn]at C;have o:=λwx=>E2 L n 0 999 wx;obtain⟨z3,V⟩:=ex (aq n 0 999);simp only[<-V]at o;have HN:Hid _:=hn;have W:Hid _:=V;have a7:(k:Int)<(l.length:Int):=by omega
    clear hn V q;cases z3 with
    |false=>
     have e:bQ m=1:=by have:=iS (chk:=codeF) z HF.out (f:=1) (by unfold codeF;rw[<-HN.out,<-W.out];rfl) (by decide);rw[d.out,this];rfl
     have H:Hid _:=e;clear e d;go_wp2_with (first|(go_at_call 60;refine(o _).mono ?_;rintro e w' ⟨rfl,a⟩;rw[a];clear a))
     go_ret;exact⟨by rw[H.out];rfl,y.out.2⟩
    |true=>
    cases k with
    |zero=>
     have C:wr.cell? ⟨b,u,none⟩=some (.int .i64 n):=C;have O:∀j (_:j<0+1) (h':j<l.length),codeF (l.take j) l[j]=0:=iU HF.out z (by rw[Hq,<-HN.out,<-W.out];rfl);have X:Hid _:=O;clear O;go_upto_region 12 with(first|(go_at_call 60;refine(o _).mono ?_;rintro e w' ⟨rfl,a⟩;rw[a];clear a))
     refine aR (w0:=w) (w1:=wr) (by kernel_rfl) (by kernel_rfl) (ae.refl _) y.out.2 ?_;haveI A:Nonempty (aj w wr):=⟨⟨wr,ae.refl _,y.out.2⟩⟩
     repeat (go_big_quiet_step (fail))
     refine wpQuiet_nil ?_;rintro wz ⟨⟨_,J,M⟩,rfl⟩;have Y:Hid _:=(⟨y.out.1.trans J,M⟩:_/\_)
     clear A J M y2 y3 C;go_wp2;exact⟨⟨0+1,by omega,by go_num,X.out,Y.out.1,Y.out.2⟩,by simp[intOf];omega⟩
    |succ k=>
     have ak:k<l.length:=by omega
     have an:=HC.out k ak;obtain⟨p,hp⟩:=ex (l[k]);rw[<-hp]at an;have l0:∀x:aj w wr,x.val.cell? ⟨b,u+(k+1),none⟩=some (.int .i64 n):=λx=>x.st.cell C;have l1:∀x:aj w wr,x.val.cell? ⟨b,u+k,none⟩=some (.int .i64 p):=λx=>x.st.cell an;have l2:∀x:aj w wr,x.val.cell? ⟨N,2,none⟩=some (.slice (some ⟨b,u,none⟩) l.length c):=λx=>x.st.cell y2;have a8:(k:Int)<(l.length:Int):=by omega
     have ba:(k:Int)+1>0:=by omega
     have B:=uX l k ak n;rw[<-hp,<-W.out]at B;have HW:Hid _:=B;clear B hp;by_cases I:n<=p
     ·have e:bQ m=7:=by have:=iS (chk:=codeF) z HF.out (f:=7) (by rw[<-HN.out,HW.out,SD I];rfl) (by decide);rw[d.out,this];rfl
      have H:Hid _:=e;clear e d;go_upto_region 12 with(first|(go_at_call 60;refine(o _).mono ?_;rintro e w' ⟨rfl,a⟩;rw[a];clear a))
      refine aR (w0:=w) (w1:=wr) (by kernel_rfl) (by kernel_rfl) (ae.refl _) y.out.2 ?_;haveI A:Nonempty (aj w wr):=⟨⟨wr,ae.refl _,y.out.2⟩⟩
      repeat (go_big_quiet_step (fail))
      refine wpQuiet_nil ?_;rintro wz ⟨⟨_,J,M⟩,rfl⟩;have Y:Hid _:=(⟨y.out.1.trans J,M⟩:_/\_)
      clear A J M y2 y3 C;go_wp2;go_ret;exact⟨by rw[H.out];rfl,Y.out.2⟩
     ·have O:∀j (_:j<(k+1)+1) (h':j<l.length),codeF (l.take j) l[j]=0:=iU HF.out z (by rw[<-HN.out,HW.out,Sv I];rfl)
      have X:Hid _:=O;have bb:decide (n<=p)=false:=Sv I;clear O I;go_upto_region 12 with(first|(go_at_call 60;refine(o _).mono ?_;rintro e w' ⟨rfl,a⟩;rw[a];clear a))
      refine aR (w0:=w) (w1:=wr) (by kernel_rfl) (by kernel_rfl) (ae.refl _) y.out.2 ?_;haveI A:Nonempty (aj w wr):=⟨⟨wr,ae.refl _,y.out.2⟩⟩
      repeat (go_big_quiet_step (fail))
      refine wpQuiet_nil ?_;rintro wz ⟨⟨_,J,M⟩,rfl⟩;have Y:Hid _:=(⟨y.out.1.trans J,M⟩:_/\_)
      clear A J M y2 y3 C;go_wp2;exact⟨⟨(k+1)+1,by omega,by go_num,X.out,Y.out.1,Y.out.2⟩,by simp[intOf];omega⟩
   ·have aM:k=l.length:=by omega
    subst aM;have e0:ep codeF [] l=0:=iT λj hj=>HF.out j hj hj;have Z:bQ m=if !aq P 0 99999 then 1 else 0:=d.out.trans (by rw[e0];rfl)
    have o:=λwx=>E2 L P 0 99999 wx;obtain⟨z4,ar⟩:=ex (aq P 0 99999);simp only[<-ar]at o Z;have a1:Hid _:=Z;clear Z d ar q e0;cases z4;all_goals (
     go_wp2_with (first|(go_at_call 60;refine(o _).mono ?_;rintro e w' ⟨rfl,a⟩;rw[a];clear a))
     go_ret;exact⟨by rw[a1.out];rfl,y.out.2⟩))
end Go.Proofs
namespace Go.Proofs
open Go.Tm Go.RowKit Go.MapKept
section
variable (fs:Array Func)
end
end Go.Proofs
namespace Go.Proofs
open Go.Tm Go.RowKit Go.MapKept
open Go.ChangeMaps (setBlock)
def Rng(w:World)(b r:Nat)(f:EK->Nat)(left:EK->Bool)(cnt:Nat):Prop:=∃es d c seen e,w.heap[b]? =some (.map es d)/\Cnt es.toList d f/\w.heap[r]? =some (.mapIter (some b) c seen e)/\(∀x∈es.toList,x.born<c)/\c<=e/\c<=d/\(leftOf es seen).size=cnt/\(∀x∈es.toList,∀p,x.key=en p->left p= !seen.contains x.born)/\∀p,left p=true->∃x∈es.toList,x.key=en p
variable {w:World} {b r cnt:Nat} {f:EK->Nat} {left:EK->Bool}
def Rng.EE(h:Rng w b r f left cnt):eR w b f:=by obtain⟨es,c,d,seen,i,e,g,_⟩:=h;exact⟨es,c,e,g⟩
def Rng.ne(h:Rng w b r f left cnt):r≠b:=by obtain⟨es,c,d,seen,i,g,j,e,_⟩:=h;rintro rfl;rw[g]at e;cases e
def Rng.lt(h:Rng w b r f left cnt):r<w.heap.size:=by obtain⟨es,c,d,seen,g,i,j,e,_⟩:=h;exact(Sw.1 e).1
def Rng.keep{w'}(h:Rng w b r f left cnt)(e:w'.heap[b]? =w.heap[b]?)(g:w'.heap[r]? =w.heap[r]?):Rng w' b r f left cnt:=by obtain⟨es,c,d,seen,i,j,k,l,m⟩:=h;exact⟨es,c,d,seen,i,e.trans j,k,g.trans l,m⟩
def Rng.left_eq(h:Rng w b r f left cnt):w.rangeLeft b r=cnt:=by obtain⟨es,c,d,seen,j,e,k,g,_,_,_,i,_⟩:=h;simp only[World.rangeLeft,e,g];exact i
def G7{es c}(h:Cnt es c f){x e}(d:x∈es)(g:e∈es){p q:EK}(i:x.key=en p)(j:e.key=en q):p=q↔x.born=e.born:=by constructor;rintro rfl;have:x=e:=entry_eq_of_key h.keys d g (i.trans j.symm);rw[this];intro k;have:x=e:=born_inj h.born d g k;subst this;exact Ez (i.symm.trans j)
def Ah(es seen):(leftOf es seen).size=((es.toList.map kb).filter λq=> !seen.contains q.2).length:=by unfold leftOf;rw[<-Array.length_toList,Array.toList_filter,List.filter_map,TB];rfl
section
variable (fs:Array Func)
open Classical in
def Kh(h:eR w b f):∃w' left cnt,(Instr.range 291 (.map (some b))).run (Qs fs) w=.ok (.pointer (some ⟨w.heap.size,0,none⟩)) w'/\Rng w' b w.heap.size f left cnt/\(∀p,f p≠0->left p=true)/\Below w.heap.size w w'/\w'.heap.size=w.heap.size+1:=by obtain⟨es,c,k,i⟩:=id h;refine⟨_,λp=>es.toList.any λe=>decide (e.key=en p),_,run_range_map w 291 293 3 b es c (tI fs) k,⟨es,c,c,#[],c,((MapKept.heap_alloc w _).2 b h.lt).trans k,i,(MapKept.heap_alloc w _).1,λx d=>?_,Sp _,Sp _,rfl,λx d p g=>?_,λp g=>?_⟩,λp g=>?_,aH _ _,by simp⟩;obtain⟨q,_,_,_,h⟩:=i.ent x d;exact h;have:(es.toList.any λe=>decide (e.key=en p))=true:=TE.2 ⟨x,d,SD g⟩;simpa using this;obtain⟨x,d,j⟩:=TE.1 g;exact⟨x,d,Tf j⟩;obtain⟨x,d,j⟩:=i.all p g;exact TE.2 ⟨x,d,SD j⟩
def Rng.next(h:Rng w b r f left cnt)(ty):((∀p,left p=false)/\(Instr.next (.pointer (some ⟨r,0,none⟩)) false ty).run (Qs fs) w=.ok (.tuple #[.bool false]) w)\/∃p w' t,wfE p/\left p=true/\(Instr.next (.pointer (some ⟨r,0,none⟩)) false ty).run (Qs fs) w=.ok (.tuple #[.bool true,en p,.int .i64 (f p)]) w'/\Rng w' b r f (λq=>left q&& !decide (q=p)) t/\t<cnt/\w'.os=w.os/\w'.tape=w.tape/\w'.output=w.output/\w'.heap.size=w.heap.size/\(∀k,k≠r->w'.heap[k]? =w.heap[k]?)/\(∀(k:Nat) c e F,w.heap[k]? =some (Obj.cells c e F)->w'.heap[k]? =some (Obj.cells c e F))/\(Instr.entry (.pointer (some ⟨r,0,none⟩))).run (Qs fs) w'=.ok (.tuple #[en p,.int .i64 (f p)]) w':=by (have G:=h.ne;obtain⟨es,d,g,seen,O,R,F,H,u,I,A,rfl,y,B⟩:=h;rcases run_next_at (P:=Qs fs) w ty r b g O seen es d H R u I with⟨T,l⟩|⟨e,S,w1,i,l⟩);refine .inl ⟨λp=>?_,l⟩;(cases m:left p with|false=>rfl|true=>obtain⟨x,C,J⟩:=B p m;rw[y x C p J,all_seen es seen T x C]at m;cases m);obtain⟨n,K⟩:=mem_left S;(obtain⟨p,U,m,V,W⟩:=F.ent e n;have L:w1.heap[r]? =some (.mapIter (some b) g seen O):=by rcases i with rfl|rfl<;>exact H);(have M:w1.heap[b]? =some (.map es d):=by rcases i with rfl|rfl<;>exact R);have j:=heap_set (o':=.mapIter (some b) g (seen.push e.born) d) L;have D:(setBlock w1 r (.mapIter (some b) g (seen.push e.born) d)).heap[b]? =some (.map es d):=(j.2 b (λe1=>G e1.symm)).trans M;have v:=run_entry_at (P:=Qs fs) _ r b g seen es d e j.1 D n F.born;rw[m,V]at l v;refine .inr ⟨p,_,_,U,by rw[y e n p m,K];rfl,l,⟨es,d,g,seen.push e.born,d,D,F,j.1,u,A,A,rfl,λx C q E=>?_,λq E=>B q (by simp at E;exact E.1)⟩,left_shrinks es seen e S,?_,?_,?_,?_,λk m=>?_,λk c e0 X m=>?_,v⟩;show(left q&& !decide (q=p))=_;rw[y x C q E,contains_push];have:=G7 F C n E m;by_cases s:q=p;have z:=this.1 s;rw[SD s,z];simp;have z:¬x.born=e.born:=λh=>s (this.2 h);(rw[Sv s];have:(x.born==e.born)=false:=by simpa using z);rw[this];simp;rcases i with rfl|rfl<;>rfl;rcases i with rfl|rfl<;>rfl;rcases i with rfl|rfl<;>rfl;rcases i with rfl|rfl<;>simp[setBlock];exact(j.2 k m).trans (by rcases i with rfl|rfl<;>rfl);(have N:k≠r:=by rintro rfl;rw[H]at m;cases m);exact((j.2 k N).trans (by rcases i with rfl|rfl<;>rfl)).trans m
def Rng.entry(h:Rng w b r f left cnt){p:EK}(k:wfE p)(l:f p≠0):∃es c,∃st:Nat,(Instr.mapEntry 291 (.map (some b)) (en p)).run (Qs fs) w=.ok (.tuple #[.int .i64 (f p),.int .i64 st]) (dF w b es c)/\Rng (dF w b es c) b r f left cnt/\iq (dF w b es c) b p st:=by have i:=h.ne;obtain⟨es,c,d,seen,m,g,F,n,rest⟩:=h;obtain⟨j,e,q,s,t⟩:=G6 fs g F k l;exact⟨es,c,e.born,q,⟨es,c,d,seen,m,(cZ g).1,F,((cZ g).2.1 r i).trans n,rest⟩,⟨es,c,(cZ g).1,j,e,s,t,rfl⟩⟩
def Rng.store(h:Rng w b r f left cnt){p:EK}{st}(K:iq w b p st)(L:wfE p)(v:Nat):∃es c,(Instr.entryStore 291 (.map (some b)) (.int .i64 st) (.int .i64 v)).run (Qs fs) w=.ok () (dF w b es c)/\Rng (dF w b es c) b r (λq=>if q=p then v else f q) left cnt:=by have A:=h.ne;obtain⟨es,c,d,seen,M,s,F,N,g,B,C,i,D,E⟩:=h;obtain⟨O,t,k,j,e,P,R,G⟩:=K;rw[s]at k;cases k;subst G;obtain⟨l,a1,S,u⟩:=ur fs s F P R L v;refine⟨l,c,a1,l,c,d,seen,M,(cZ s).1,S,((cZ s).2.1 r A).trans N,λx m=>?_,B,C,?_,λx m q H=>?_,λq H=>?_⟩;obtain⟨y,n,_,z⟩:=Cnt.shape u x m;rw[<-z];exact g y n;rw[Ah,u,<-Ah];exact i;obtain⟨y,n,I,z⟩:=Cnt.shape u x m;rw[<-z];exact D y n q (I.trans H);obtain⟨x,m,J⟩:=E q H;obtain⟨y,n,I,z⟩:=Cnt.shape u.symm x m;exact⟨y,n,I.trans J⟩
end
section
variable {fs:Array Func} {ops:Array Oper} {rest:List Oper} {o:Oper} {a:Act} {Q:Exit->Act->World->Prop}
end
end Go.Proofs

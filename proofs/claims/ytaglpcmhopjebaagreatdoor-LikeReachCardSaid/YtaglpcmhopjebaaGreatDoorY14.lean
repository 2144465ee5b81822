import Derived.Maps.RangeWalk
import Derived.Test.YtaglpcmhopjebaaGreatDoorY13
set_option linter.all false
set_option maxRecDepth 100000
set_option maxHeartbeats 20000000
namespace Go.Proofs
open Go.Tm Go.RowKit
variable {fs:Array Func} (L:bR fs)
structure I2(t:Table):Prop where
 lets:∀p∈t.av,p.1.size<=140737488351232/\p.2.size<=140737488351232
 QG:∀x∈t.aF,x.name.size<=140737488351232/\∀p∈x.aX,p.1.size<=140737488351232/\p.2.size<=140737488351232
 bu:∀g∈t.bu,∀s∈g,s.size<=140737488351232
def wrap_add{a b:Nat}(h:a+b<=9223372036854775807):wrap64 ((a:Int)+b)=((a+b:Nat):Int):=by unfold wrap64;omega
def Bi{a b c:Nat}(h:a+b+c<=9223372036854775807):wrap64 (wrap64 ((a:Int)+b)+c)=((a+b+c:Nat):Int):=by rw[wrap_add (by omega),wrap_add h]
def RU{K:Nat->Prop}{v0 v1 v2:Zj}{t:Table}(w:x6)(ht:IsTable K w v0 v1 v2 t)(hr:I2 t):Calls (Qs fs) 16 #[.agg #[v0,v1,v2]] w λe w'=>∃z,e=.returned (.bool z)/\(z=false->Dn t)/\xv w w':=by
 obtain⟨w1,I⟩:=ex (w.alloc (.cells #[v0,v1,v2] 26));have S1:ae w w1:=by rw[I];exact ae.alloc _ _
 have B1:xv w w1:=by rw[I];exact aH _ _
 have ct:∀i v,(#[v0,v1,v2]:Zq)[i]? =some v->w1.cell? ⟨w.heap.size,i,none⟩=some v:=λi v h=>by rw[I];exact aC w _ 26 i v h
 obtain⟨N,hN⟩:=ex (w.heap.size);rw[<-hN]at ct;have u0:=ct 0 _ rfl;have u1:=ct 1 _ rfl;have u2:=ct 2 _ rfl;have HB:=jj B1;have HR:=jj hr;have ao:=ht.stays S1;obtain⟨⟨a6,c0,rfl,a7,a8,_,g0⟩,⟨ba,c1,rfl,bb,ak,_,g1⟩,⟨bk,Y,rfl,bm,an,_,g2⟩⟩:=ao;have G0:=jj g0;have G1:=jj g1;have G2:=jj g2;clear ht hr ct S1 B1 g0 g1 g2;have dn:∀n:Nat,40<n->decide ((40:Int)<(n:Int))=true:=λn h=>UQ (by omega);have dm:∀n:Nat,¬40<n->decide ((40:Int)<(n:Int))=false:=λn h=>UN (by omega);go_enter (n16 L),Tryz.ntmps16;go_upto_region 1 with fail;rw[<-I,<-hN];clear I hN;by_cases a0:40<t.av.length
 .have d0:=dn _ a0;go_wp2;go_ret;exact⟨true,rfl,(λh=>by cases h),HB.o⟩
 have d0:=dm _ a0;by_cases a1:40<t.aF.length
 .have d1:=dn _ a1;go_wp2;go_ret;exact⟨true,rfl,(λh=>by cases h),HB.o⟩
 have d1:=dm _ a1;by_cases a2:40<t.bu.length
 .have d2:=dn _ a2;go_wp2;go_ret;exact⟨true,rfl,(λh=>by cases h),HB.o⟩
 have d2:=dm _ a2;have A:t.av.length<=40/\t.aF.length<=40/\t.bu.length<=40:=by omega
 clear dn dm a0 a1 a2;go_wp2;have Z:=u0;have aa:=u1;have J:=u2;clear u0 u1 u2;go_loopw [3,4] (λT s wr=>∃j n:Nat,j<=t.av.length/\s=.i j/\T=.i n/\n<=j*281474976702464/\(∀i (_:i<j) (h':i<t.av.length),t.av[i].1.size<=n/\t.av[i].2.size<=n)/\ae w1 wr/\xv w wr) (λ_ s _=>t.av.length-(intOf s).toNat);case atStart=>exact⟨0,0,UP _,rfl,rfl,UP _,λj h=>absurd h (UX _),ae.refl _,HB.o⟩
 case round=>
  obtain⟨j,n,hj,rfl,rfl,hn,f,c,M⟩:=hrel;have S:=jj f;have u:Hid _:=(⟨c,M⟩:ae w1 wr/\xv w wr)
  have y0:=c.cell Z;have y1:=c.cell aa;have y2:=c.cell J;clear f;obtain y|hge:=UK j t.av.length
  .obtain⟨b,E,rfl,O,k⟩:=G0.o j y;(have X:=c.cell O;have U:=c.cell k;obtain⟨k1,V⟩:=HR.o.lets _ (US y);obtain⟨p,l⟩:=ex (t.av[j]);rw[<-l]at X U k1 V;obtain⟨p0,p1⟩:=p;simp only[]at X U k1 V;have l0:∀x:al w wr,x.val.cell? ⟨N,0,none⟩=some _:=λx=>x.st.cell y0;have l1:∀x:al w wr,x.val.cell? ⟨b,E+j*2,none⟩=some (.string p0):=λx=>x.st.cell X;have l2:∀x:al w wr,x.val.cell? ⟨b,E+j*2+1,none⟩=some (.string p1):=λx=>x.st.cell U;have HP:=jj l;clear l O k c M;go_upto_region 7 with fail;refine bd (w0:=w) (w1:=wr) 17 (by kernel_rfl) (by kernel_rfl) (ae.refl _) u.o.2 ?_;simp only[Vu,Vq,VB,Vy];haveI ab:Nonempty (al w wr):=⟨⟨wr,ae.refl _,u.o.2⟩⟩);(repeat (go_big_quiet_step (fail)));(refine wpQuiet_nil ?_;rintro wz ⟨⟨_,Sz,Bz⟩,rfl⟩;have HZ:Hid _:=(⟨ae.trans u.o.1 Sz,Bz⟩:_/\_));clear l0 l1 l2 ab Sz Bz X U y0 y1 y2;go_wp2;refine⟨⟨j+1,n+p0.size+p1.size,by omega,by go_num,by first|rw[Bi (by omega)]|exact Vj (Value.int .i64) (by omega),by omega,λi F W=>?_,HZ.o.1,HZ.o.2⟩,by simp[intOf];omega⟩;obtain h3|h3:=UK i j;have:=S.o i h3 W;omega;(have:i=j:=by omega);subst this;rw[<-HP.o];show p0.size<=_/\p1.size<=_;omega
  have P:j=t.av.length:=by omega
  subst P;have H0:Hid (n<=11258999068098560/\∀p∈t.av,p.1.size<=n/\p.2.size<=n):=⟨by omega,λp l=>by obtain⟨i,F,rfl⟩:=Wj l;exact S.o i F F⟩
  have W1:=u;clear c M S u hge hn;go_wp2;clear y0 y1 y2;go_loopw [3,5] (λT s wr=>∃j C:Nat,j<=t.aF.length/\s=.i j/\T=.i C/\n<=C/\C<=11258999068098560+j*11399736556449792/\(∀i (_:i<j) (h':i<t.aF.length),t.aF[i].name.size<=C/\t.aF[i].aX.length<=40/\∀p∈t.aF[i].aX,p.1.size<=C/\p.2.size<=C)/\ae w1 wr/\xv w wr) (λ_ s _=>t.aF.length-(intOf s).toNat);case atStart=>exact⟨0,n,UP _,rfl,rfl,UI _,by have:=H0.o.1;omega,λj h=>absurd h (UX _),W1.o.1,W1.o.2⟩
  case round=>
   (obtain⟨j,C,hj,rfl,rfl,bo,hn,f,c,M⟩:=hrel;have S:=jj f;have u:Hid _:=(⟨c,M⟩:ae w1 wr/\xv w wr));have y0:=c.cell Z;have y1:=c.cell aa;have y2:=c.cell J;clear f;obtain y|hge:=UK j t.aF.length
   .obtain⟨b,E,rfl,O,vs,k,G⟩:=G1.o j y;have X:=c.cell O;have U:=c.cell k;obtain⟨k1,V⟩:=HR.o.QG _ (US y);obtain⟨p,l⟩:=ex (t.aF[j]);rw[<-l]at X k1 V G;obtain⟨p0,p1⟩:=p;simp only[]at X U k1 V G;obtain⟨ar,cs,rfl,ax,ay,_,d⟩:=G;have ad:=jj d;have HP:=jj l;have af:=k;clear l O k c M d;by_cases aK:40<p1.length
    ·(have g5:(40:Int)<(p1.length:Int):=by omega);go_wp2;go_ret;exact⟨true,rfl,(λh=>by cases h),u.o.2⟩
    have g5:decide ((40:Int)<(p1.length:Int))=false:=UN (by omega)
    (go_upto_block 4 with fail);go_wp2;clear y0 y1 y2 X U;go_loopw [3,6] (λT s wi=>∃m n3:Nat,m<=p1.length/\s=.i m/\T=.i n3/\C+p0.size<=n3/\n3<=11258999068098560+j*11399736556449792+140737488351232+m*281474976702464/\(∀i (_:i<m) (h':i<p1.length),p1[i].1.size<=n3/\p1[i].2.size<=n3)/\ae w1 wi/\xv w wi) (λ_ s _=>p1.length-(intOf s).toNat);case atStart=>exact⟨0,C+p0.size,UP _,rfl,by first|rw[wrap_add (by omega)]|exact Vj (Value.int .i64) (by omega),UI _,by omega,λj h=>absurd h (UX _),u.o.1,u.o.2⟩
    case round=>
     (obtain⟨m,n3,hm,rfl,rfl,ak,an,o,a,D⟩:=hrel;have Q:=jj o;have r:Hid _:=(⟨a,D⟩:ae w1 wr/\xv w wr));have z0:=a.cell Z;have z1:=a.cell aa;have z2:=a.cell J;have z3:=a.cell af;clear o;obtain B|hge2:=UK m p1.length
     .obtain⟨b2,o2,rfl,H,r2⟩:=ad.o m B;(have H:=a.cell H;have r2:=a.cell r2;obtain⟨e1,e2⟩:=V p1[m] (US B);obtain⟨q,hq⟩:=ex (p1[m]);rw[<-hq]at H r2 e1 e2;obtain⟨q0,q1⟩:=q;simp only[]at H r2 e1 e2;have l0:∀x:al w wr,x.val.cell? ⟨N,1,none⟩=some _:=λx=>x.st.cell z1;have l3:∀x:al w wr,x.val.cell? ⟨b,E+j*2+1,none⟩=some _:=λx=>x.st.cell z3;have l1:∀x:al w wr,x.val.cell? ⟨b2,o2+m*2,none⟩=some (.string q0):=λx=>x.st.cell H;have l2:∀x:al w wr,x.val.cell? ⟨b2,o2+m*2+1,none⟩=some (.string q1):=λx=>x.st.cell r2;have HQ:=jj hq;clear hq a D;go_upto_region 17 with fail;refine bd (w0:=w) (w1:=wr) 25 (by kernel_rfl) (by kernel_rfl) (ae.refl _) r.o.2 ?_;simp only[Vu,Vq,VB,Vy];haveI ab:Nonempty (al w wr):=⟨⟨wr,ae.refl _,r.o.2⟩⟩);(repeat (go_big_quiet_step (fail)));(refine wpQuiet_nil ?_;rintro wz ⟨⟨_,Sz,Bz⟩,rfl⟩;have HZ:Hid _:=(⟨ae.trans r.o.1 Sz,Bz⟩:_/\_));clear l0 l1 l2 l3 ab Sz Bz H r2 z0 z1 z2 z3;go_wp2;refine⟨⟨m+1,n3+q0.size+q1.size,by omega,by go_num,by first|rw[Bi (by omega)]|exact Vj (Value.int .i64) (by omega),by omega,by omega,λi F W=>?_,HZ.o.1,HZ.o.2⟩,by simp[intOf];omega⟩;obtain h3|h3:=UK i m;have:=Q.o i h3 W;omega;(have:i=m:=by omega);subst this;rw[<-HQ.o];show q0.size<=_/\q1.size<=_;omega
     (have ag:m=p1.length:=by omega);subst ag;clear a D;go_wp2;refine⟨⟨j+1,n3,by omega,by go_num,rfl,by omega,by omega,λi F W=>?_,r.o.1,r.o.2⟩,by simp[intOf];omega⟩;obtain h3|h3:=UK i j;obtain⟨c1,Y,c3⟩:=S.o i h3 W;exact⟨by omega,Y,λp l=>by have:=c3 p l;omega⟩;(have:i=j:=by omega);subst this;rw[<-HP.o];refine⟨by show p0.size<=_;omega,by show p1.length<=_;omega,λp l=>?_⟩;obtain⟨i',R,rfl⟩:=Wj l;exact Q.o i' R R
   (have P:j=t.aF.length:=by omega);(subst P;have H1:Hid (C<=467248461326090240/\∀x∈t.aF,x.name.size<=C/\x.aX.length<=40/\∀p∈x.aX,p.1.size<=C/\p.2.size<=C):=⟨by omega,λp l=>by obtain⟨i,F,rfl⟩:=Wj l;exact S.o i F F⟩);have W2:=u;clear c M S u hge hn;go_wp2;clear y0 y1 y2;go_loopw [3,7] (λT s wr=>∃j n3:Nat,j<=t.bu.length/\s=.i j/\T=.i n3/\C<=n3/\n3<=467248461326090240+j*5629499534049280/\(∀i (_:i<j) (h':i<t.bu.length),t.bu[i].length<=40/\∀s∈t.bu[i],s.size<=n3)/\ae w1 wr/\xv w wr) (λ_ s _=>t.bu.length-(intOf s).toNat);case atStart=>exact⟨0,C,UP _,rfl,rfl,UI _,by have:=H1.o.1;omega,λj h=>absurd h (UX _),W2.o.1,W2.o.2⟩
   case round=>
    (obtain⟨j,n3,hj,rfl,rfl,aM,hn,f,c,M⟩:=hrel;have S:=jj f;have u:Hid _:=(⟨c,M⟩:ae w1 wr/\xv w wr));have y2:=c.cell J;clear f;obtain y|hge:=UK j t.bu.length
    .obtain⟨b,E,rfl,vs,k,G⟩:=G2.o j y;(have k:w1.cell? ⟨b,E+j,none⟩=some vs:=by simpa using k);have U:=c.cell k;have V:=HR.o.bu _ (US y);obtain⟨g,hg⟩:=ex (t.bu[j]);rw[<-hg]at V G;obtain⟨ar,cs,rfl,ax,ay,_,d⟩:=G;have ad:=jj d;have HP:=jj hg;have af:=k;clear hg k c M d;by_cases aK:40<g.length
     ·(have g5:(40:Int)<(g.length:Int):=by omega);go_wp2;go_ret;exact⟨true,rfl,(λh=>by cases h),u.o.2⟩
     have g5:decide ((40:Int)<(g.length:Int))=false:=UN (by omega)
     (go_upto_block 8 with fail);go_wp2;clear y2 U;go_loopw [3,8] (λT s wi=>∃m n4:Nat,m<=g.length/\s=.i m/\T=.i n4/\n3<=n4/\n4<=467248461326090240+j*5629499534049280+m*140737488351232/\(∀i (_:i<m) (h':i<g.length),g[i].size<=n4)/\ae w1 wi/\xv w wi) (λ_ s _=>g.length-(intOf s).toNat);case atStart=>exact⟨0,n3,UP _,rfl,rfl,UI _,UJ hn (Yq _ _),λj h=>absurd h (UX _),u.o.1,u.o.2⟩
     case round=>
      (obtain⟨m,n4,hm,rfl,rfl,ak,an,o,a,D⟩:=hrel;have Q:=jj o;have r:Hid _:=(⟨a,D⟩:ae w1 wr/\xv w wr));have z2:=a.cell J;have z3:=a.cell af;clear o;obtain B|hge2:=UK m g.length
      .obtain⟨b2,o2,rfl,H⟩:=ad.o m B;(have H:=a.cell H;have H:wr.cell? ⟨b2,o2+m,none⟩=some (.string g[m]):=by simpa using H);have e1:=V g[m] (US B);obtain⟨q,hq⟩:=ex (g[m]);rw[<-hq]at H e1;have HQ:=jj hq;clear hq a D;go_wp2;refine⟨⟨m+1,n4+q.size,by omega,by go_num,by first|rw[wrap_add (by omega)]|exact Vj (Value.int .i64) (by omega),by omega,by omega,λi F W=>?_,r.o.1,r.o.2⟩,by simp[intOf];omega⟩;obtain h3|h3:=UK i m;have:=Q.o i h3 W;omega;(have:i=m:=by omega);subst this;rw[<-HQ.o];omega
      (have ag:m=g.length:=by omega);subst ag;clear a D;go_wp2;refine⟨⟨j+1,n4,by omega,by go_num,rfl,by omega,by omega,λi F W=>?_,r.o.1,r.o.2⟩,by simp[intOf];omega⟩;obtain h3|h3:=UK i j;obtain⟨c1,Y⟩:=S.o i h3 W;exact⟨c1,λp l=>by have:=Y p l;omega⟩;(have:i=j:=by omega);subst this;rw[<-HP.o];refine⟨by omega,λp l=>?_⟩;obtain⟨i',R,rfl⟩:=Wj l;exact Q.o i' R R
    (have P:j=t.bu.length:=by omega);subst P;clear c M;by_cases aR:1000<n3
    .have d9:decide ((1000:Int)<(n3:Int))=true:=UQ (by omega);go_wp2;go_ret;exact⟨true,rfl,(λh=>by cases h),u.o.2⟩
    have d9:decide ((1000:Int)<(n3:Int))=false:=UN (by omega)
    have hT:Dn t:=⟨⟨by omega,λp l=>by have:=H0.o.2 p l;omega⟩,⟨by omega,λx hx=>by
     obtain⟨c1,Y,c3⟩:=H1.o.2 x hx;exact⟨by omega,λp l=>by have:=c3 p l;omega⟩⟩,⟨by omega,λg hg=>by
     obtain⟨i,F,rfl⟩:=Wj hg;obtain⟨c1,Y⟩:=S.o i F F;exact⟨by omega,λs hs=>by have:=Y s hs;omega⟩⟩⟩
    have HT:=jj hT;clear hT;go_wp2;go_ret;exact⟨false,rfl,λ_=>HT.o,u.o.2⟩
def RV{K:Nat->Prop}{v0 v1 v2:Zj}{t:Table}(s:Zk)(w:x6)(l:IsTable K w v0 v1 v2 t)(u:∀p∈t.av,1<=p.1.size/\p.1.size<=4/\p.2.size<=3)(x:dL t=0)(H:s.size<=16):ac fs 18 #[.agg #[v0,v1,v2],.string s] w (.tuple #[.string (bs (aT t.av s.data.toList)),.i 0]):=by (have e20:=e20 L;have e51:=e51 L;have e52:=e52 L;have e53:=e53 L;obtain⟨w1,a⟩:=ex (w.alloc (.cells #[v0,v1,v2] 26));have m:ae w w1:=by rw[a];exact ae.alloc _ _);(have y:xv w w1:=by rw[a];exact aH _ _);(have ct:∀i v,(#[v0,v1,v2]:Zq)[i]? =some v->w1.cell? ⟨w.heap.size,i,none⟩=some v:=λi v h=>by rw[a];exact aC w _ 26 i v h);(have b:=kE L w1 (l.stays m);rw[x]at b;have f:=λd=>en L false 2 d;have g:=λd=>du L 0 0 d;have j:=λd (h:ae w1 d)=>rq L (v0:=v0) (v1:=v1) (v2:=v2) s d ((l.stays (m.trans h)).1) u (by omega);obtain⟨N,n⟩:=ex (w.heap.size);rw[<-n]at ct;have z:=ct 0 _ rfl;have A:=ct 1 _ rfl;have B:=ct 2 _ rfl;have C:=jj y;have E:¬((s.size:Int)>16):=by omega);(have F:¬(16<s.size):=by omega);(have G:decide ((16:Int)<(s.size:Int))=false:=UN (by omega);clear l u x m y ct;go_enter (n18 L),Tryz.ntmps18;go_upto_region 1 with fail;rw[<-a,<-n];clear a n;go_upto_region 4 with(first|(go_at_call 20;refine b.mono ?_;rintro e w2 ⟨rfl,c⟩)|(go_at_call 52;refine(f _).mono ?_;rintro e w3 ⟨rfl,rfl⟩)|(go_at_call 51;refine(g _).mono ?_;rintro e w4 ⟨rfl,rfl⟩)));have k:=(ae.below c).trans (ae.alloc w3 (.cells #[.i 0,.i 0] 29));have z:=k.cell z;have A:=k.cell A;have B:=k.cell B;have q:=j _ k;have o:=C.o.trans (c.mono C.o.size);have D:Hid _:=o.alloc o.size (.cells #[.i 0,.i 0] 29);clear b f g j k c o;go_wp2_with (go_at_call 53;refine q.mono ?_;rintro e I ⟨rfl,r⟩);(go_ret2);exact⟨rfl,D.o.trans (r.mono D.o.size)⟩
def QH{K:Nat->Prop}{v0 v1 v2:Zj}{t:Table}(k:Nat)(s:Zk)(w:x6)(l:IsTable K w v0 v1 v2 t)(G:OkT t)(H:dL t=0)(hs:s.size<=16)(Q:k<t.aF.length)(I:iH w):ac fs 22 #[.agg #[v0,v1,v2],.i k,.string s] w (.tuple #[.string (bs (bL t k s.data.toList)),.i 0]):=by (have e20:=e20 L;have e51:=e51 L;have e52:=e52 L;have e63:=e63 L;have e64:=e64 L;obtain⟨u,z,rfl,R,S,_⟩:=id l.2.1;obtain⟨w1,a⟩:=ex (w.alloc (.cells #[v0,.slice u t.aF.length z,v2] 26));have m:ae w w1:=by rw[a];exact ae.alloc _ _);(have J:xv w w1:=by rw[a];exact aH _ _);(have ct:∀i v,(#[v0,.slice u t.aF.length z,v2]:Zq)[i]? =some v->w1.cell? ⟨w.heap.size,i,none⟩=some v:=λi v h=>by rw[a];exact aC w _ 26 i v h);(have A:(decide ((0:Int)<=(k:Int))&&decide ((k:Int)<=(t.aF.length:Int)-1))=true:=by rw[UQ (by omega),UQ (by omega)];rfl);(have T:IntKind.i64.wrap ((t.aF.length:Int)-1)=(t.aF.length:Int)-1:=wrap_i64 _ (by omega);have d:∀x:al w w1,Calls (Qs fs) 20 #[.agg #[v0,.slice u t.aF.length z,v2]] x.val λe w'=>e=.returned (.i 0)/\∃y:al w w1,w'=y.val:=λx=>by have h:=kE L x.val (l.stays (m.trans x.st));rw[H]at h;exact al.calls h);(have f:∀x:al w w1,Calls (Qs fs) 63 #[.i k,.i 0,.i ((t.aF.length:Int)-1)] x.val λe w'=>e=.returned (.bool true)/\∃y:al w w1,w'=y.val:=λx=>by have h:=dY fs (n63 L) k 0 ((t.aF.length:Int)-1) x.val;rw[A]at h;exact al.same h);(have b:∀x:al w w1,Calls (Qs fs) 52 #[.bool false,.int .i64 6] x.val λe w'=>e=.returned (.i 0)/\∃y:al w w1,w'=y.val:=λx=>al.same (en L false 6 x.val);have c:∀x:al w w1,Calls (Qs fs) 52 #[.bool false,.int .i64 2] x.val λe w'=>e=.returned (.i 0)/\∃y:al w w1,w'=y.val:=λx=>al.same (en L false 2 x.val);have B:=λn=>Ex L 0 0 0 n;have g:=λn (h:ae w1 n)=>Jw L k s n (l.stays (m.trans h)) G (by omega) Q (I.stays (m.trans h));obtain⟨N,C⟩:=ex (w.heap.size);rw[<-C]at ct;have o:=ct 0 _ rfl;have p:=ct 1 _ rfl;have r:=ct 2 _ rfl;have U:=λx:al w w1=>x.cell o;have V:=λx:al w w1=>x.cell p;have W:=λx:al w w1=>x.cell r;have M:=jj J;have X:¬((s.size:Int)>16):=by omega);(have Y:¬(16<s.size):=by omega);(have Z:decide ((16:Int)<(s.size:Int))=false:=UN (by omega);clear l G H m J ct I;go_enter (n22 L),Tryz.ntmps22;go_upto_region 1 with fail;rw[<-a,<-C];clear a C;have U0:=jj o;have U1:=jj p;have U2:=jj r;clear o p r;refine bd (w0:=w) (w1:=w1) 14 (by kernel_rfl) (by kernel_rfl) (ae.refl _) M.o ?_;simp only[Vu,Vq,VB,Vy];haveI D:Nonempty (al w w1):=⟨⟨w1,ae.refl _,M.o⟩⟩);(repeat (go_big_quiet_step (first|(go_at_call 20;exact d _)|(go_at_call 63;exact f _)|(go_at_call 52;first|exact b _|exact c _))));refine wpQuiet_nil ?_;rintro wy ⟨⟨_,O,E⟩,rfl⟩;have j:=O.trans (ae.alloc wy (.cells #[.i 0,.i 0,.i 0] 29));have o:=j.cell U0.o;have p:=j.cell U1.o;have r:=j.cell U2.o;have q:=g _ j;have P:Hid _:=E.alloc E.size (.cells #[.i 0,.i 0,.i 0] 29);clear d f b c g j O E U V W D;go_wp2_with (first|(go_at_call 51;refine(B _).mono ?_;rintro e w4 ⟨rfl,rfl⟩)|(go_at_call 64;refine q.mono ?_;rintro e w5 ⟨rfl,F⟩));(go_ret2);exact⟨rfl,P.o.trans (F.mono P.o.size)⟩
theorem yO{c}{chk:List c->c->Int}:∀{seen l:List c},dZ chk seen l=0->∀j (b:j<l.length),chk (seen++l.take j) l[j]=0
 |seen,[],_,j,b=>absurd b (UX _)
 |seen,x::xs,h,j,b=>by
  unfold dZ at h;by_cases a:chk seen x≠0
  .rw[UH a]at h
   exact absurd h a
  .rw[UG a]at h
   have a:chk seen x=0:=by omega
   cases j with
   |zero=>simpa using a
   |succ j=>have:=yO h j (by simpa using b);simpa using this
def eH{a}{b c}{chk:List a->a->Int}{l:List a}(h:aI b c chk l=0):(b<=l.length/\(l.length:Int)<=c)/\∀j (d:j<l.length),chk (l.take j) l[j]=0:=by unfold aI aq at h;split at h;rename_i e;simp only[UT,U3]at e;exact⟨e,λj d=>by simpa using yO h j d⟩;cases h
def lH{a}{c b}{chk:List a->a->Int}{l:List a}(h:aI c b chk l=0){x}(d:x∈l):∃seen,chk seen x=0:=by obtain⟨i,b,rfl⟩:=Wj d;exact⟨_,(eH h).2 i b⟩
def mO{s a hi}(h:aZ s a hi=true):a<=s.size/\(s.size:Int)<=hi:=by unfold aZ aq at h;simp only[UT,U3]at h;exact h.1
def Dq{t}(h:dL t=0):aI 0 12 letterF t.av=0/\aI 0 3 dq t.aF=0/\aI 0 4 gQ t.bu=0:=by unfold dL at h;simp only[]at h;split at h;rename_i a;exact absurd h a;rename_i b;split at h;rename_i a;exact absurd h a;rename_i c;exact⟨by simpa using b,by simpa using c,h⟩
def RX{t}(h:dL t=0):OkT t:=by (obtain⟨i,j,k⟩:=Dq h;have l:=(eH i).1;have m:=(eH j).1;have n:=(eH k).1;have a:∀x∈t.aF,aI 0 5 eh x.aX=0:=λx b=>by obtain⟨seen,e⟩:=lH j b;unfold dq at e;split at e;cases e;split at e;cases e;exact e);refine⟨λp d=>?_,by omega,λx b p d=>?_,λx b=>?_,by omega,by omega⟩;obtain⟨seen,e⟩:=lH i d;unfold letterF at e;split at e;cases e;rename_i c;split at e;cases e;split at e;cases e;rename_i f;(have f:=mO (by simpa using f);have c:bq p.1 4=true:=by simpa using c);unfold bq aq at c;simp only[UT,U3]at c;omega;obtain⟨seen,e⟩:=lH (a x b) d;unfold eh at e;split at e;cases e;rename_i g;simp only[Bool.not_eq_eq_eq_not,Wx,Wl,not_or,XH,ne_eq,Decidable.not_not]at g;have c:=mO g.1;have f:=mO g.2;omega;have:=(eH (a x b)).1;omega
def lI(m:Mark):Prop:=m.name.size<=100/\m.word.size<=100/\m.aP.length<=40
def jV{w1:x6}{N:Nat}{a:Zq}(ct:∀i v,a[i]? =some v->w1.cell? ⟨N,i,none⟩=some v):Hid (∀b,xv w1 b->∀i v,a[i]? =some v->b.cell? ⟨N,i,none⟩=some v):=λb c i v h=>(ae.below c).cell (ct i v h)
def fU(w:x6){cs:Zq}{ty}:∀w1,w1=w.alloc (.cells cs ty)->ae w w1/\xv w w1/\∀i v,cs[i]? =some v->w1.cell? ⟨w.heap.size,i,none⟩=some v:=λw1 h=>by subst h;exact⟨ae.alloc _ _,aH _ _,λi v h=>aC w _ ty i v h⟩
def OC{K:Nat->Prop}{mc:Zq}{m:Mark}(w:x6)(k:bM K w mc m):Calls (Qs fs) 24 #[.agg mc] w λe w'=>∃z,e=.returned (.bool z)/\(z=false->lI m)/\xv w w':=by
 obtain⟨p,rfl,a⟩:=k;obtain⟨l,c,rfl,_⟩:=id a;obtain⟨w1,b⟩:=ex (w.alloc (.cells #[.string m.name,.string m.word,.slice l m.aP.length c,.i m.day,.bool m.known] 38));obtain⟨n,i,ct⟩:=fU w w1 b;obtain⟨N,g⟩:=ex (w.heap.size);rw[<-g]at ct;have q:=ct 0 _ rfl;have r:=ct 1 _ rfl;have s:=ct 2 _ rfl;have d:=jj i;clear n i ct a;go_enter (n24 L),Tryz.ntmps24;go_upto_region 1 with fail;rw[<-b,<-g];clear b g;by_cases f:100<m.name.size
 .have d0:decide ((100:Int)<(m.name.size:Int))=true:=UQ (by omega);clear f;go_wp2;go_ret;exact⟨true,rfl,(λh=>by cases h),d.o⟩
 have d0:decide ((100:Int)<(m.name.size:Int))=false:=UN (by omega);by_cases a1:100<m.word.size
 .have d1:decide ((100:Int)<(m.word.size:Int))=true:=UQ (by omega);clear f a1;go_wp2;go_ret;exact⟨true,rfl,(λh=>by cases h),d.o⟩
 have d1:decide ((100:Int)<(m.word.size:Int))=false:=UN (by omega);by_cases j:40<m.aP.length
 .have d2:decide ((40:Int)<(m.aP.length:Int))=true:=UQ (by omega);clear f a1 j;go_wp2;go_ret;exact⟨true,rfl,(λh=>by cases h),d.o⟩
 have d2:decide ((40:Int)<(m.aP.length:Int))=false:=UN (by omega);have o:lI m:=⟨by omega,by omega,by omega⟩
 clear f a1 j;go_wp2;go_ret;exact⟨false,rfl,(λ_=>o),d.o⟩
def LA(k:Int)(w:x6):ap fs 68 #[.i k] w (.bool (aq k 0 5)):=by
 by_cases a:0<=k
 .by_cases b:k<=5
  ·(have e:aq k 0 5=true:=by unfold aq;rw[UQ a,UQ b];rfl);have d0:decide (0<=k)=true:=UQ a;have d1:decide (k<=5)=true:=UQ b;rw[e];clear e a b;go_enter (n68 L),Tryz.ntmps68;go_wp2;go_ret;exact⟨rfl,rfl⟩
  have e:aq k 0 5=false:=by unfold aq;rw[UQ a,UN b];rfl
  have d0:decide (0<=k)=true:=UQ a;have d1:decide (k<=5)=false:=UN b;rw[e];clear e a b;go_enter (n68 L),Tryz.ntmps68;go_wp2;go_ret;exact⟨rfl,rfl⟩
 have e:aq k 0 5=false:=by unfold aq;rw[UN a];rfl
 have d0:decide (0<=k)=false:=UN a;rw[e];clear e a;go_enter (n68 L),Tryz.ntmps68;go_wp2;go_ret;exact⟨rfl,rfl⟩
def yP(m:Mark):bV m=if !dK m.name then 4 else if !m.word.data.toList.isEmpty&& !bq m.word 16 then 3 else if aI 0 5 codeF m.aP≠0 then aI 0 5 codeF m.aP else if !aq m.day 0 99999 then 1 else 0:=rfl
def tt{K:Nat->Prop}{mc:Zq}{m:Mark}(w:x6)(hm:bM K w mc m)(O:lI m):Calls (Qs fs) 69 #[.agg mc] w λe w'=>e=.returned (.i (bV m))/\xv w w':=by
 obtain⟨vf,rfl,t⟩:=hm;have Pu:=Pu L;have Pt:=Pt L;have e60:=e60 L;obtain⟨ao,c,rfl,ax,hc,ay⟩:=id t;clear ay;obtain⟨w1,D⟩:=ex (w.alloc (.cells #[.string m.name,.string m.word,.slice ao m.aP.length c,.i m.day,.bool m.known] 38));obtain⟨S1,B1,ct⟩:=fU w w1 D;obtain⟨N,hN⟩:=ex (w.heap.size);rw[<-hN]at ct;obtain⟨nm,E⟩:=ex (m.name);obtain⟨wd,F⟩:=ex (m.word);obtain⟨l,hl⟩:=ex (m.aP);obtain⟨P,Q⟩:=ex (m.day);have hM:=yP m;obtain⟨s0,s1,s2⟩:=O;rw[<-E,<-F,<-hl,<-Q]at hM;rw[<-E]at s0;rw[<-F]at s1;rw[<-hl]at s2 t ax;rw[<-E,<-F,<-hl,<-Q]at ct D⊢;clear E F hl Q;have u0:=ct 0 _ rfl;have u1:=ct 1 _ rfl;have u2:=ct 2 _ rfl;have u3:=ct 3 _ rfl;have v:=JO L nm w1 (by omega);obtain⟨z0,aa⟩:=ex (dK nm);rw[<-aa]at v hM;have HB:=jj B1;have HR:Hid (az K 1 cT w1 (.slice ao l.length c) l):=t.ints S1;have d:=jj hM;clear S1 B1 ct t hM aa;go_enter (n69 L),Tryz.ntmps69;go_upto_region 1 with fail;rw[<-D,<-hN];clear D hN;go_wp2_with fail
 refine v.mono ?_;clear v;rintro e w2 ⟨rfl,R⟩;have G:Hid (xv w w2):=HB.o.trans (R.mono HB.o.size);have S2:=ae.below R;have u0:=S2.cell u0;have u1:=S2.cell u1;have u2:=S2.cell u2;have u3:=S2.cell u3;have HR:Hid (az K 1 cT w2 (.slice ao l.length c) l):=HR.o.ints S2;clear R S2;cases z0 with
 |false=>have e:bV m=4:=d.o.trans rfl;have H:=jj e;clear e d;go_wp2;go_ret;exact⟨by rw[H.o];rfl,G.o⟩
 |true=>
 have hE:wd.toList.isEmpty=wd.data.toList.isEmpty:=xK wd;obtain⟨z1,S⟩:=ex (wd.data.toList.isEmpty);obtain⟨z2,T⟩:=ex (bq wd 16);have i:=λwx=>uO L wd 16 wx (by omega);rw[<-S]at hE;simp only[<-T]at i;have ab:bV m=if !z1&& !z2 then 3 else if aI 0 5 codeF l≠0 then aI 0 5 codeF l else if !aq P 0 99999 then 1 else 0:=by rw[S,T];exact d.o.trans rfl
 clear d S T;have d:=jj ab;clear ab;by_cases U:z1=false/\z2=false
 .obtain⟨rfl,rfl⟩:=U;have e:bV m=3:=d.o.trans rfl;have H:=jj e;clear e d;go_wp2_with (go_at_call 110;refine(i _).mono ?_;rintro e w' ⟨rfl,a⟩;rw[a];clear a);go_ret;exact⟨by rw[H.o];rfl,G.o⟩
 have ad:bV m=if aI 0 5 codeF l≠0 then aI 0 5 codeF l else if !aq P 0 99999 then 1 else 0:=d.o.trans (UG (by cases z1<;>cases z2<;>simp_all))
 clear d;have d:=jj ad;clear ad;have af:z1=true\/z1=false/\z2=true:=by cases z1<;>cases z2<;>simp_all
 by_cases h5:5<l.length
 .have g:(5:Int)<(l.length:Int):=by omega
  have e:bV m=2:=by (have:aI 0 5 codeF l=2:=by unfold aI aq;rw[UN (p:=(l.length:Int)<=5) (by omega),WH];rfl);rw[d.o,this];rfl
  have H:=jj e;clear e d h5 U s0 s1 s2;obtain rfl|⟨rfl,rfl⟩:=af;all_goals (
   go_wp2_with (go_at_call 110;refine(i _).mono ?_;rintro e w' ⟨rfl,a⟩;rw[a];clear a)
   go_ret;exact⟨by rw[H.o];rfl,G.o⟩)
 have g:decide ((5:Int)<(l.length:Int))=false:=UN (by omega);have e:aI 0 5 codeF l=dZ codeF [] l:=by unfold aI aq;rw[UQ (by omega),UQ (by omega)];rfl
 have ag:bV m=if dZ codeF [] l≠0 then dZ codeF [] l else if !aq P 0 99999 then 1 else 0:=by rw[<-e];exact d.o
 clear d;have d:=jj ag;have HU:Hid (w2.cell? ⟨N,2,none⟩=some (.slice ao l.length c)/\w2.cell? ⟨N,3,none⟩=some (.i P)):=⟨u2,u3⟩
 have HS:Hid (l.length<=5):=by rw[Hid];omega
 clear ag e h5 U s0 s1 s2;obtain rfl|⟨rfl,rfl⟩:=af;all_goals (
  go_upto_region 7 with((go_at_call 110;refine(i _).mono ?_;rintro e w' ⟨rfl,a⟩;rw[a];clear a))
  clear i u0 u1 u2 u3;go_wp2;go_loopw [3] (λs wr=>∃k:Nat,k<=l.length/\s=.i k/\(∀j (_:j<k) (h':j<l.length),codeF (l.take j) l[j]=0)/\ae w2 wr/\xv w wr) (λs _=>l.length-(intOf s).toNat)
  case atStart=>exact⟨0,UP _,rfl,λj h=>absurd h (UX _),ae.refl _,G.o⟩
  case round=>
   obtain⟨k,hk,rfl,hf,q,hb⟩:=hrel;have HF:=jj hf;have y:Hid _:=(⟨q,hb⟩:_/\xv w wr)
   have y2:=q.cell HU.o.1;have y3:=q.cell HU.o.2;clear hf hb;obtain z|hge:=UK k l.length
   .obtain⟨aR,c',e',_,_,_,r⟩:=HR.o
    cases e';obtain⟨b,u,rfl,C⟩:=r k z;rw[Vs]at C;have C:wr.cell? ⟨b,u+k,none⟩=some (.i l[k]):=q.cell C;have HC:Hid (∀j (hj:j<l.length),wr.cell? ⟨b,u+j,none⟩=some (.i l[j])):=λj hj=>by obtain⟨b',o',e',hy⟩:=r j hj;cases e';rw[Vs]at hy;exact q.cell hy
    clear r;obtain⟨n,hn⟩:=ex (l[k]);rw[<-hn]at C;have o:=λwx=>xb L n 0 999 wx;obtain⟨z3,V⟩:=ex (aq n 0 999);simp only[<-V]at o;have HN:=jj hn;have W:=jj V;have a1:(k:Int)<(l.length:Int):=by omega
    clear hn V q;cases z3 with
    |false=>
     have e:bV m=1:=by have:=fB (chk:=codeF) z HF.o (f:=1) (by unfold codeF;rw[<-HN.o,<-W.o];rfl) (by decide);rw[d.o,this];rfl
     have H:=jj e;clear e d;go_wp2_with (go_at_call 60;refine(o _).mono ?_;rintro e w' ⟨rfl,a⟩;rw[a];clear a)
     go_ret;exact⟨by rw[H.o];rfl,y.o.2⟩
    |true=>
    cases k with
    |zero=>
     have C:wr.cell? ⟨b,u,none⟩=some (.i n):=C;have O:∀j (_:j<0+1) (h':j<l.length),codeF (l.take j) l[j]=0:=fC HF.o z (by rw[Jy,<-HN.o,<-W.o];rfl);have X:=jj O;clear O;go_upto_region 12 with((go_at_call 60;refine(o _).mono ?_;rintro e w' ⟨rfl,a⟩;rw[a];clear a))
     refine aQ (w0:=w) (w1:=wr) (by kernel_rfl) (by kernel_rfl) (ae.refl _) y.o.2 ?_;haveI A:Nonempty (al w wr):=⟨⟨wr,ae.refl _,y.o.2⟩⟩
     repeat (go_big_quiet_step (fail))
     refine wpQuiet_nil ?_;rintro wz ⟨⟨_,J,M⟩,rfl⟩;have Y:Hid _:=(⟨y.o.1.trans J,M⟩:_/\_)
     clear A J M y2 y3 C;go_wp2;exact⟨⟨0+1,by omega,by go_num,X.o,Y.o.1,Y.o.2⟩,by simp[intOf];omega⟩
    |succ k=>
     have ak:k<l.length:=by omega
     have an:=HC.o k ak;obtain⟨p,hp⟩:=ex (l[k]);rw[<-hp]at an;have l0:∀x:al w wr,x.val.cell? ⟨b,u+(k+1),none⟩=some (.i n):=λx=>x.st.cell C;have l1:∀x:al w wr,x.val.cell? ⟨b,u+k,none⟩=some (.i p):=λx=>x.st.cell an;have l2:∀x:al w wr,x.val.cell? ⟨N,2,none⟩=some (.slice (some ⟨b,u,none⟩) l.length c):=λx=>x.st.cell y2;have a6:(k:Int)<(l.length:Int):=by omega
     have a7:(k:Int)+1>0:=by omega
     have B:=wP l k ak n;rw[<-hp,<-W.o]at B;have HW:=jj B;clear B hp;by_cases I:n<=p
     .have e:bV m=7:=by have:=fB (chk:=codeF) z HF.o (f:=7) (by rw[<-HN.o,HW.o,UQ I];rfl) (by decide);rw[d.o,this];rfl
      have H:=jj e;clear e d;go_upto_region 12 with((go_at_call 60;refine(o _).mono ?_;rintro e w' ⟨rfl,a⟩;rw[a];clear a))
      refine aQ (w0:=w) (w1:=wr) (by kernel_rfl) (by kernel_rfl) (ae.refl _) y.o.2 ?_;haveI A:Nonempty (al w wr):=⟨⟨wr,ae.refl _,y.o.2⟩⟩
      repeat (go_big_quiet_step (fail))
      refine wpQuiet_nil ?_;rintro wz ⟨⟨_,J,M⟩,rfl⟩;have Y:Hid _:=(⟨y.o.1.trans J,M⟩:_/\_)
      clear A J M y2 y3 C;go_wp2;go_ret;exact⟨by rw[H.o];rfl,Y.o.2⟩
     .have O:∀j (_:j<(k+1)+1) (h':j<l.length),codeF (l.take j) l[j]=0:=fC HF.o z (by rw[<-HN.o,HW.o,UN I];rfl)
      have X:=jj O;have a8:decide (n<=p)=false:=UN I;clear O I;go_upto_region 12 with((go_at_call 60;refine(o _).mono ?_;rintro e w' ⟨rfl,a⟩;rw[a];clear a))
      refine aQ (w0:=w) (w1:=wr) (by kernel_rfl) (by kernel_rfl) (ae.refl _) y.o.2 ?_;haveI A:Nonempty (al w wr):=⟨⟨wr,ae.refl _,y.o.2⟩⟩
      repeat (go_big_quiet_step (fail))
      refine wpQuiet_nil ?_;rintro wz ⟨⟨_,J,M⟩,rfl⟩;have Y:Hid _:=(⟨y.o.1.trans J,M⟩:_/\_)
      clear A J M y2 y3 C;go_wp2;exact⟨⟨(k+1)+1,by omega,by go_num,X.o,Y.o.1,Y.o.2⟩,by simp[intOf];omega⟩
   .have aK:k=l.length:=by omega
    subst aK;have e0:dZ codeF [] l=0:=fj λj hj=>HF.o j hj hj;have Z:bV m=if !aq P 0 99999 then 1 else 0:=d.o.trans (by rw[e0];rfl)
    have o:=λwx=>xb L P 0 99999 wx;obtain⟨z4,ar⟩:=ex (aq P 0 99999);simp only[<-ar]at o Z;have aM:=jj Z;clear Z d ar q e0;cases z4;all_goals (
     go_wp2_with (go_at_call 60;refine(o _).mono ?_;rintro e w' ⟨rfl,a⟩;rw[a];clear a)
     go_ret;exact⟨by rw[aM.o];rfl,y.o.2⟩))
def OD(j:Int)(r:ja)(w:x6):ac fs 79 #[.i j,.agg #[.i r.kind,.i r.least,.i r.plain,.i r.known]] w (.i (et [] r)):=by
 have e66:=e66 L;have e63:=e63 L;have e52:=e52 L;have k:Hid (et [] r=if !aq r.kind 0 5|| !aq r.least 1 100|| !aq r.plain 0 9|| !aq r.known 0 9 then 1 else 0):=rfl;obtain⟨w1,b⟩:=ex (w.alloc (.cells #[.i r.kind,.i r.least,.i r.plain,.i r.known] 69));have s:xv w w1:=by rw[b];exact aH _ _
 have ct:∀i v,(#[.i r.kind,.i r.least,.i r.plain,.i r.known]:Zq)[i]? =some v->w1.cell? ⟨w.heap.size,i,none⟩=some v:=λi v h=>by rw[b];exact aC w _ 69 i v h
 obtain⟨N,d⟩:=ex (w.heap.size);have t:=ct 0 _ rfl;have u:=ct 1 _ rfl;have x:=ct 2 _ rfl;have y:=ct 3 _ rfl;rw[<-d]at t u x y;have l:=jj s;have c:=λwx=>EB L r.kind wx;have f:∀wx,ap fs 63 #[.i r.least,.i 1,.i 100] wx (.bool (aq r.least 1 100)):=λwx=>dY fs (n63 L) r.least 1 100 wx;have g:∀wx,ap fs 63 #[.i r.plain,.i 0,.i 9] wx (.bool (aq r.plain 0 9)):=λwx=>dY fs (n63 L) r.plain 0 9 wx;have m:∀wx,ap fs 63 #[.i r.known,.i 0,.i 9] wx (.bool (aq r.known 0 9)):=λwx=>dY fs (n63 L) r.known 0 9 wx;obtain⟨z,n⟩:=ex (aq r.kind 0 5);obtain⟨A,o⟩:=ex (aq r.least 1 100);obtain⟨B,p⟩:=ex (aq r.plain 0 9);obtain⟨C,q⟩:=ex (aq r.known 0 9);rw[<-n]at c;rw[<-o]at f;rw[<-p]at g;rw[<-q]at m;rw[<-n,<-o,<-p,<-q]at k;clear n o p q ct s;cases z with
 |false=>(have HV:Hid (et [] r=1):=by rw[Hid,k.o];rfl);have a:=λwx=>en L true 1 wx;simp only[UW,U7,U5]at a;go_enter (n79 L),Tryz.ntmps79;go_upto_region 1 with fail;rw[<-b,<-d];clear b d;go_wp2_with (first|(go_at_call 66;refine(c _).mono ?_;clear c;rintro e w2 ⟨rfl,rfl⟩)|(go_at_call 52;refine(a _).mono ?_;rintro e w3 ⟨rfl,rfl⟩));go_ret;exact⟨by rw[HV.o];rfl,l.o⟩
 |true=>
  cases A with
  |false=>(have HV:Hid (et [] r=1):=by rw[Hid,k.o];rfl);have a:=λwx=>en L true 1 wx;simp only[UW,U7,U5]at a;go_enter (n79 L),Tryz.ntmps79;go_upto_region 1 with fail;rw[<-b,<-d];clear b d;go_wp2_with (first|(go_at_call 66;refine(c _).mono ?_;clear c;rintro e w2 ⟨rfl,rfl⟩)|(go_at_call 63;refine(f _).mono ?_;clear f;rintro e w2 ⟨rfl,rfl⟩)|(go_at_call 52;refine(a _).mono ?_;rintro e w3 ⟨rfl,rfl⟩));go_ret;exact⟨by rw[HV.o];rfl,l.o⟩
  |true=>
   cases B with
   |false=>(have HV:Hid (et [] r=1):=by rw[Hid,k.o];rfl);have a:=λwx=>en L true 1 wx;simp only[UW,U7,U5]at a;go_enter (n79 L),Tryz.ntmps79;go_upto_region 1 with fail;rw[<-b,<-d];clear b d;go_wp2_with (first|(go_at_call 66;refine(c _).mono ?_;clear c;rintro e w2 ⟨rfl,rfl⟩)|(go_at_call 63;refine(f _).mono ?_;clear f;rintro e w2 ⟨rfl,rfl⟩)|(go_at_call 63;refine(g _).mono ?_;clear g;rintro e w2 ⟨rfl,rfl⟩)|(go_at_call 52;refine(a _).mono ?_;rintro e w3 ⟨rfl,rfl⟩));go_ret;exact⟨by rw[HV.o];rfl,l.o⟩
   |true=>
    cases C with
    |false=>(have HV:Hid (et [] r=1):=by rw[Hid,k.o];rfl);have a:=λwx=>en L true 1 wx;simp only[UW,U7,U5]at a;go_enter (n79 L),Tryz.ntmps79;go_upto_region 1 with fail;rw[<-b,<-d];clear b d;go_wp2_with (first|(go_at_call 66;refine(c _).mono ?_;clear c;rintro e w2 ⟨rfl,rfl⟩)|(go_at_call 63;refine(f _).mono ?_;clear f;rintro e w2 ⟨rfl,rfl⟩)|(go_at_call 63;refine(g _).mono ?_;clear g;rintro e w2 ⟨rfl,rfl⟩)|(go_at_call 63;refine(m _).mono ?_;clear m;rintro e w2 ⟨rfl,rfl⟩)|(go_at_call 52;refine(a _).mono ?_;rintro e w3 ⟨rfl,rfl⟩));go_ret;exact⟨by rw[HV.o];rfl,l.o⟩
    |true=>(have HV:Hid (et [] r=0):=by rw[Hid,k.o];rfl);have a:=λwx=>en L false 1 wx;simp only[UW,U7,U5]at a;go_enter (n79 L),Tryz.ntmps79;go_upto_region 1 with fail;rw[<-b,<-d];clear b d;go_wp2_with (first|(go_at_call 66;refine(c _).mono ?_;clear c;rintro e w2 ⟨rfl,rfl⟩)|(go_at_call 63;refine(f _).mono ?_;clear f;rintro e w2 ⟨rfl,rfl⟩)|(go_at_call 63;refine(g _).mono ?_;clear g;rintro e w2 ⟨rfl,rfl⟩)|(go_at_call 63;refine(m _).mono ?_;clear m;rintro e w2 ⟨rfl,rfl⟩)|(go_at_call 52;refine(a _).mono ?_;rintro e w3 ⟨rfl,rfl⟩));go_ret;exact⟨by rw[HV.o];rfl,l.o⟩
def QJ(j n:Int)(w:x6):ap fs 83 #[.i j,.i n] w (.i (oF [] n)):=by have e63:=e63 L;have e52:=e52 L;have c:Hid (oF [] n=if !aq n 0 9 then 1 else 0):=rfl;have b:∀wx,ap fs 63 #[.i n,.i 0,.i 9] wx (.bool (aq n 0 9)):=λwx=>dY fs (n63 L) n 0 9 wx;obtain⟨f,d⟩:=ex (aq n 0 9);rw[<-d]at b c;clear d;cases f with|true=>have a:=λwx=>en L false 1 wx;go_enter (n83 L),Tryz.ntmps83;go_wp2_with (first|(go_at_call 63;refine(b _).mono ?_;clear b;rintro e w2 ⟨rfl,rfl⟩)|(go_at_call 52;refine(a _).mono ?_;rintro e w3 ⟨rfl,rfl⟩));go_ret;exact⟨by rw[c.o];rfl,rfl⟩|false=>have a:=λwx=>en L true 1 wx;go_enter (n83 L),Tryz.ntmps83;go_wp2_with (first|(go_at_call 63;refine(b _).mono ?_;clear b;rintro e w2 ⟨rfl,rfl⟩)|(go_at_call 52;refine(a _).mono ?_;rintro e w3 ⟨rfl,rfl⟩));go_ret;exact⟨by rw[c.o];rfl,rfl⟩
def I3(a:Bool)(m:Mark):Int:=if bV m≠0 then bV m else if a then 5 else 0
def OE{K:Nat->Prop}(j:Int)(m:Mark)(S:Zj)(T k:Nat)(p:Zk->Bool)(w:x6)(b:az K 1 cT w S m.aP)(q:w.cell? ⟨T,0,none⟩=some (.map (some k)))(z:bS w k p):Calls (Qs fs) 81 #[.i j,.agg #[.string m.name,.string m.word,S,.i m.day,.bool m.known],.pointer (some ⟨T,0,none⟩)] w λe w'=>e=.returned (.i (I3 (p m.name) m))/\bS w' k (λt=>p t||decide (t=m.name))/\(∀B,B<=k->Below B w w')/\ae w w':=by (have e67:=e67 L;have e52:=e52 L;have e51:=e51 L;obtain⟨C,D,rfl,_⟩:=id b;obtain⟨w1,c⟩:=ex (w.alloc (.cells #[.string m.name,.string m.word,.slice C m.aP.length D,.i m.day,.bool m.known] 38));have A:ae w w1:=by rw[c];exact ae.alloc _ _);(have E:xv w w1:=by rw[c];exact aH _ _);(have ct:∀i v,(#[.string m.name,.string m.word,.slice C m.aP.length D,.i m.day,.bool m.known]:Zq)[i]? =some v->w1.cell? ⟨w.heap.size,i,none⟩=some v:=λi v h=>by rw[c];exact aC w _ 38 i v h);(obtain⟨N,F⟩:=ex (w.heap.size);have l:=z.keep (E.block k z.lt);have r:=ua fs l m.name;obtain⟨w2,G,s,u,a⟩:=lh fs l m.name;have U:=A.cell q;have H:=ct 0 _ rfl;have I:=ct 1 _ rfl;have J:=ct 2 _ rfl;have M:=ct 3 _ rfl;have O:=ct 4 _ rfl;rw[<-F]at H I J M O;obtain⟨g,d⟩:=ex (p m.name);rw[<-d]at r;have V:=jj d;have P:Hid ((∀B,B<=k->Below B w w2)/\ae w w2/\bS w2 k (λt=>p t||decide (t=m.name))):=⟨λB W=>(E.mono (by have:=z.lt;omega)).trans (u B W),A.trans a,s⟩);(have X:=a.cell H;have Y:=a.cell I;have Z:=a.cell J;have aa:=a.cell M;have ab:=a.cell O;have n:=lV L (mc:=#[.string m.name,.string m.word,.slice C m.aP.length D,.i m.day,.bool m.known]) w2 ⟨_,rfl,b.ints (A.trans a)⟩;have HV:Hid (I3 g m=if bV m≠0 then bV m else if g=true then 5 else 0):=rfl;obtain⟨fa,x⟩:=ex (bV m);rw[<-x]at n HV;have o:=λQ=>en L g 5 Q;obtain⟨fb,hfb⟩:∃f:Int,f=if g=true then 5 else 0:=⟨_,rfl⟩);rw[<-hfb]at o HV;have R:=λQ=>du L fa fb Q;rw[<-HV.o]at R;clear x hfb d HV;go_enter (n81 L),Tryz.ntmps81;go_upto_region 1 with fail;rw[<-c,<-F];clear c F ct A E l s u a z q b;go_upto_region 3 with fail;clear r G U H I J M O;go_wp2_with (first|(go_at_call 67;refine n.mono ?_;clear n;rintro e w3 ⟨rfl,y⟩)|(go_at_call 52;refine(o _).mono ?_;clear o;rintro e w4 ⟨rfl,rfl⟩)|(go_at_call 51;refine(R _).mono ?_;clear R;rintro e w5 ⟨rfl,rfl⟩));go_ret;refine⟨by rw[V.o];rfl,?_⟩;exact P.o.1|>λh=>lj h P.o.2.1 P.o.2.2 (y.alloc y.size _)
def LB{K:Nat->Prop}{v:Zj}{l:List ja}(w:x6)(a:az K 4 iX w v l):ac fs 78 #[v,.i 0,.i 6,.func (.func 79) #[] #[]] w (.i (aI 0 6 et l)):=by
 have b:=(kD L 79 #[] 0 6 w (λ_ wr=>xv w wr) (xI et l) (e79 L) (Below.refl _ _) (λj wr h=>ae.below h) (λj wr o h=>h.alloc h.size _)).2.2.1 _ a
  (λj d wr h=>(OD L j l[j] wr).mono λe w' c=>⟨by rw[jx _ _ _ d];exact c.1,h.trans (c.2.mono h.size)⟩)
 have b:=b.p;exact b.mono λe w' h=>by obtain⟨f,j,g⟩:=h;exact⟨f,g⟩
def QK{K:Nat->Prop}{v:Zj}{l:List Int}(n:Int)(w:x6)(a:az K 1 cT w v l):ac fs 82 #[v,.i n,.i n,.func (.func 83) #[] #[]] w (.i (aI n n oF l)):=by
 have b:=(kD L 83 #[] n n w (λ_ wr=>xv w wr) (xI oF l) (e83 L) (Below.refl _ _) (λj wr h=>ae.below h) (λj wr o h=>h.alloc h.size _)).2.2.2.2.1 _ a
  (λj d wr h=>(QJ L j l[j] wr).mono λe w' c=>⟨by rw[jx _ _ _ d];exact c.1,by rw[c.2];exact h⟩)
 have b:=b.p;exact b.mono λe w' h=>by obtain⟨f,j,g⟩:=h;exact⟨f,g⟩
def LC(new)(l:List Mark)(j)(a:j<l.length):I3 (decide (new=l[j].name)||(l.take j).any (λq=>decide (q.name=l[j].name))) l[j]=fE new (l.take j) l[j]:=rfl
def LD{K:Nat->Prop}{v:Zj}{l:List Mark}(new:Zk)(c a:Nat)(w:x6)(b:az K 5 lQ w v l)(f:w.cell? ⟨c,0,none⟩=some (.map (some a)))(m:bS w a (λt=>decide (t=new))):Calls (Qs fs) 80 #[v,.i 0,.i 8,.func (.func 81) #[] #[.pointer (some ⟨c,0,none⟩)]] w λe w'=>e=.returned (.i (aI 0 8 (fE new) l))/\Below a w w'/\ae w w':=by
 have g:=(kD L 81 #[.pointer (some ⟨c,0,none⟩)] 0 8 w (λj wr=>ae w wr/\Below a w wr/\bS wr a (λt=>decide (new=t)||(l.take j).any (λq=>decide (q.name=t)))) (xI (fE new) l) (e81 L)
  ⟨ae.refl _,Below.refl _ _,m.iff λt=>by rw[lU];simp⟩ (λj wr h=>h.1) (λj wr o h=>⟨h.1.trans (ae.alloc _ _),h.2.1.alloc (by have:=h.2.2.lt;omega) _,h.2.2.keep (Below.heap_alloc wr o _ h.2.2.lt)⟩)).2.2.2.2.2.2.1 _ b
  (λj i wr h n r=>(OE L j l[j] n c a _ wr r (h.1.cell f) h.2.2).mono λe w' d=>⟨by rw[jx _ _ _ i,<-LC];exact d.1,h.1.trans d.2.2.2,h.2.1.trans (d.2.2.1 a (UI _)),d.2.1.iff λt=>by rw[mE l _ j i,lU t,Yn]⟩)
 have g:=g.p;exact g.mono λe w' h=>by obtain⟨s,j,k⟩:=h;exact⟨s,k.2.1,k.1⟩
def OF(c):dB c=if dL c.table≠0 then dL c.table else if(if aI 0 6 et c.rules≠0 then aI 0 6 et c.rules else bV c.new)≠0 then(if aI 0 6 et c.rules≠0 then aI 0 6 et c.rules else bV c.new)else if aI 0 8 (fE c.new.name) c.marks≠0 then aI 0 8 (fE c.new.name) c.marks else aI c.marks.length c.marks.length oF c.kin:=by unfold dB;by_cases a:dL c.table=0;by_cases b:aI 0 6 et c.rules=0;simp[a,b];simp[a,b];simp[a]
def pG{K:Nat->Prop}{sc:Zq}{c:Case}(w:x6)(hc:bF K w sc c):Calls (Qs fs) 37 #[.agg sc] w λe w'=>e=.returned (.i (dB c))/\xv w w':=by
 have e20:=e20 L;have e78:=e78 L;have e67:=e67 L;have e51:=e51 L;have e80:=e80 L;have e82:=e82 L;have ax:∀(fn:Fn) (first cap:Zq) (w:x6),(Instr.makeFunc fn first cap).run (Qs fs) w=.ok (.func fn first cap) w:=λ_ _ _ _=>rfl;have ay:∀(t:TypeId) (w:x6),(Instr.makeMap t none).run (Qs fs) w=.ok (.map (some w.heap.size)) (w.alloc (.map #[] 0)):=λ_ _=>rfl;obtain⟨v0,v1,v2,vr,vf,vm,vk,rfl,ht,hr,hf,hm,hk⟩:=hc;obtain⟨am,cm,rfl,_⟩:=id hm;obtain⟨w1,p⟩:=ex (w.alloc (.cells #[v0,v1,v2,vr,.string c.new.name,.string c.new.word,vf,.i c.new.day,.bool c.new.known,.slice am c.marks.length cm,vk] 60));have S1:ae w w1:=by rw[p];exact ae.alloc _ _
 have B1:xv w w1:=by rw[p];exact aH _ _
 have ct:∀i v,(#[v0,v1,v2,vr,.string c.new.name,.string c.new.word,vf,.i c.new.day,.bool c.new.known,.slice am c.marks.length cm,vk]:Zq)[i]? =some v->w1.cell? ⟨w.heap.size,i,none⟩=some v:=λi v h=>by rw[p];exact aC w _ 60 i v h
 obtain⟨N,Z⟩:=ex (w.heap.size);rw[<-Z]at ct;have f0:=eI ct;have hU:=λO (h:ae w1 O)=>eI λi v e=>h.cell (ct i v e);have M:=jj hU;have aa:w.heap.size<=w1.heap.size:=B1.size;have C:=kE L w1 (ht.stays S1);have D:=λO (h:ae w1 O)=>LB L O (hr.stays (S1.trans h) λb b' o x e h'=>by subst e;exact iX.carry (Carry.keep (S1.trans h)) b b o x rfl h');have E:=λO (h:ae w1 O)=>lV L (mc:=#[.string c.new.name,.string c.new.word,vf,.i c.new.day,.bool c.new.known]) (m:=c.new) O ⟨vf,rfl,hf.ints (S1.trans h)⟩;have Q:=λbv bm O (h:ae w1 O)=>LD L c.new.name bv bm O (hm.stays (S1.trans h) λb b' o x e h'=>by subst e;exact lQ.carry (Carry.keep (S1.trans h)) b b o x rfl h');have R:=λO (h:ae w1 O)=>QK L (c.marks.length:Int) O (hk.ints (S1.trans h));have X:Hid _:=OF c;obtain⟨x1,h1⟩:=ex (dL c.table);obtain⟨l,h2⟩:=ex (aI 0 6 et c.rules);obtain⟨u,h3⟩:=ex (bV c.new);obtain⟨x4,h4⟩:=ex (aI 0 8 (fE c.new.name) c.marks);obtain⟨x5,h5⟩:=ex (aI c.marks.length c.marks.length oF c.kin);rw[<-h1]at C;rw[<-h2]at D;rw[<-h3]at E;rw[<-h4]at Q;rw[<-h5]at R;rw[<-h1,<-h2,<-h3,<-h4,<-h5]at X;have HB:=jj B1;have HZ:=jj aa;clear h1 h2 h3 h4 h5 ht hr hf hm hk S1 B1 ct aa hU;have BB:∀w2 w3 w4:x6,xv w1 w2->xv w2 w3->xv w3 w4->xv w (w4.alloc (.cells #[.i l,.i u] 29)):=λw2 w3 w4 a b d=>by have s2:=a.size;have s3:=b.size;have s4:=d.size;have s1:=HZ.o;exact(((HB.o.trans (a.mono s1)).trans (b.mono (by omega))).trans (d.mono (by omega))).alloc (by omega) _
 have ag:∀f z w7 w8:x6,xv w f->(∀B,B<=f.heap.size->Below B (f.alloc (.map #[] 0)) z)->Below f.heap.size (z.alloc (.cells #[.map (some f.heap.size)] 133)) w7->xv w7 w8->xv w w8:=λf z w7 w8 a b d e=>by have s5:=a.size;have b6:=b w.heap.size s5;have s6:=b6.size;have s7:=d.size;simp at s6 s7;exact((((a.alloc s5 (.map #[] 0)).trans b6).alloc (by omega) _).trans (d.mono s5)).trans (e.mono (by omega))
 by_cases A:x1=0
 .have an:(x1 !=0)=false:=by rw[A];rfl
  obtain⟨y,hy⟩:=ex (if l≠0 then l else u);rw[<-hy]at X;by_cases F:y=0
  ·(have ao:((if l≠0 then l else u)!=0)=false:=by rw[<-hy,F];rfl);by_cases P:x4=0
   ·(have ak:(x4 !=0)=false:=by rw[P];rfl);(have HV:Hid (dB c=x5):=by rw[Hid,X.o,UG (λh=>h A),UG (λh=>h F),UG (λh=>h P)]);clear X A hy F P;go_enter (n37 L),Tryz.ntmps37;go_upto_region 1 with fail;rw[<-p,<-Z];clear p Z;go_wp2_with (first|(go_at_call 20;refine C.mono ?_;clear C;rintro e w2 ⟨rfl,n⟩;have G:ae w1 w2:=ae.below n;have g0:=M.o w2 G;have g:=D w2 G;clear D)|(go_at_call 78;refine g.mono ?_;clear g;rintro e w3 ⟨rfl,q⟩;have H:ae w1 w3:=G.trans (ae.below q);have k3:=M.o w3 H;have j:=E w3 H;clear E)|(go_at_call 67;refine j.mono ?_;clear j;rintro e w4 ⟨rfl,r⟩;have S4:ae w1 w4:=H.trans (ae.below r);have S:=du L l u w4)|(go_at_call 51;refine S.mono ?_;clear S;rintro e f ⟨rfl,rfl⟩;have I:ae w1 (w4.alloc (.cells #[.i l,.i u] 29)):=S4.trans (ae.alloc _ _);have Y:xv w (w4.alloc (.cells #[.i l,.i u] 29)):=BB w2 w3 w4 n q r;obtain⟨f,s⟩:=ex (w4.alloc (.cells #[.i l,.i u] 29));rw[<-s]at I Y⊢;clear s;have T:=M.o f I;have ab:=(ae.alloc f (.map #[] 0)).cell T.2.2.2.2.1;obtain⟨z,ad,J,U,k⟩:=lh fs (bS.new f) c.new.name;have z9:=(ae.alloc z (.cells #[.map (some f.heap.size)] 133)).cell (k.cell ((ae.alloc f (.map #[] 0)).cell T.2.2.2.2.2.2.2.2.2.1)))|(go_at_call 80;refine(Q _ _ _ (I.trans ((ae.alloc f (.map #[] 0)).trans (k.trans (ae.alloc z (.cells #[.map (some f.heap.size)] 133))))) (aC z _ 133 0 _ rfl) ((J.keep (Below.heap_alloc z _ _ J.lt)).iff λt=>by simp)).mono ?_;clear Q;rintro e w7 ⟨rfl,af,V⟩;have S7:ae w1 w7:=(I.trans ((ae.alloc f (.map #[] 0)).trans (k.trans (ae.alloc z (.cells #[.map (some f.heap.size)] 133))))).trans V;have r9:=M.o w7 S7;have W:=R w7 S7;clear R)|(go_at_call 82;refine W.mono ?_;clear W;rintro e w8 ⟨rfl,ar⟩));all_goals (go_ret;exact⟨by rw[HV.o];rfl,ag f z w7 w8 Y U af ar⟩)
   (have ak:(x4 !=0)=true:=by simpa using P);(have HV:Hid (dB c=x4):=by rw[Hid,X.o,UG (λh=>h A),UG (λh=>h F),UH P]);clear X A hy F P;go_enter (n37 L),Tryz.ntmps37;go_upto_region 1 with fail;rw[<-p,<-Z];clear p Z;go_wp2_with (first|(go_at_call 20;refine C.mono ?_;clear C;rintro e w2 ⟨rfl,n⟩;have G:ae w1 w2:=ae.below n;have g0:=M.o w2 G;have g:=D w2 G;clear D)|(go_at_call 78;refine g.mono ?_;clear g;rintro e w3 ⟨rfl,q⟩;have H:ae w1 w3:=G.trans (ae.below q);have k3:=M.o w3 H;have j:=E w3 H;clear E)|(go_at_call 67;refine j.mono ?_;clear j;rintro e w4 ⟨rfl,r⟩;have S4:ae w1 w4:=H.trans (ae.below r);have S:=du L l u w4)|(go_at_call 51;refine S.mono ?_;clear S;rintro e f ⟨rfl,rfl⟩;have I:ae w1 (w4.alloc (.cells #[.i l,.i u] 29)):=S4.trans (ae.alloc _ _);have Y:xv w (w4.alloc (.cells #[.i l,.i u] 29)):=BB w2 w3 w4 n q r;obtain⟨f,s⟩:=ex (w4.alloc (.cells #[.i l,.i u] 29));rw[<-s]at I Y⊢;clear s;have T:=M.o f I;have ab:=(ae.alloc f (.map #[] 0)).cell T.2.2.2.2.1;obtain⟨z,ad,J,U,k⟩:=lh fs (bS.new f) c.new.name;have z9:=(ae.alloc z (.cells #[.map (some f.heap.size)] 133)).cell (k.cell ((ae.alloc f (.map #[] 0)).cell T.2.2.2.2.2.2.2.2.2.1)))|(go_at_call 80;refine(Q _ _ _ (I.trans ((ae.alloc f (.map #[] 0)).trans (k.trans (ae.alloc z (.cells #[.map (some f.heap.size)] 133))))) (aC z _ 133 0 _ rfl) ((J.keep (Below.heap_alloc z _ _ J.lt)).iff λt=>by simp)).mono ?_;clear Q;rintro e w7 ⟨rfl,af,V⟩;have S7:ae w1 w7:=(I.trans ((ae.alloc f (.map #[] 0)).trans (k.trans (ae.alloc z (.cells #[.map (some f.heap.size)] 133))))).trans V;have r9:=M.o w7 S7;have W:=R w7 S7;clear R));all_goals (go_ret;exact⟨by rw[HV.o];rfl,ag f z w7 w7 Y U af (Below.refl _ _)⟩)
  have ao:((if l≠0 then l else u)!=0)=true:=by rw[<-hy];simpa using F
  have HV:Hid (dB c=if l≠0 then l else u):=by rw[Hid,X.o,UG (λh=>h A),UH F,hy]
  clear X A hy F;go_enter (n37 L),Tryz.ntmps37;go_upto_region 1 with fail;rw[<-p,<-Z];clear p Z;go_wp2_with (first|(go_at_call 20;refine C.mono ?_;clear C;rintro e w2 ⟨rfl,n⟩;have G:ae w1 w2:=ae.below n;have g0:=M.o w2 G;have g:=D w2 G;clear D)|(go_at_call 78;refine g.mono ?_;clear g;rintro e w3 ⟨rfl,q⟩;have H:ae w1 w3:=G.trans (ae.below q);have k3:=M.o w3 H;have j:=E w3 H;clear E)|(go_at_call 67;refine j.mono ?_;clear j;rintro e w4 ⟨rfl,r⟩;have S4:ae w1 w4:=H.trans (ae.below r);have S:=du L l u w4)|(go_at_call 51;refine S.mono ?_;clear S;rintro e f ⟨rfl,rfl⟩;have I:ae w1 (w4.alloc (.cells #[.i l,.i u] 29)):=S4.trans (ae.alloc _ _);have Y:xv w (w4.alloc (.cells #[.i l,.i u] 29)):=BB w2 w3 w4 n q r;obtain⟨f,s⟩:=ex (w4.alloc (.cells #[.i l,.i u] 29));rw[<-s]at I Y⊢;clear s;have T:=M.o f I;have ab:=(ae.alloc f (.map #[] 0)).cell T.2.2.2.2.1;obtain⟨z,ad,J,U,k⟩:=lh fs (bS.new f) c.new.name;have z9:=(ae.alloc z (.cells #[.map (some f.heap.size)] 133)).cell (k.cell ((ae.alloc f (.map #[] 0)).cell T.2.2.2.2.2.2.2.2.2.1))));all_goals (go_ret;exact⟨by rw[HV.o];first|rfl|simp[*],Y⟩)
 have an:(x1 !=0)=true:=by simpa using A
 have HV:Hid (dB c=x1):=by rw[Hid,X.o,UH A]
 clear X A;go_enter (n37 L),Tryz.ntmps37;go_upto_region 1 with fail;rw[<-p,<-Z];clear p Z;go_wp2_with (first|(go_at_call 20;refine C.mono ?_;clear C;rintro e w2 ⟨rfl,n⟩;have G:ae w1 w2:=ae.below n;have g0:=M.o w2 G;have g:=D w2 G;clear D)|(go_at_call 78;refine g.mono ?_;clear g;rintro e w3 ⟨rfl,q⟩;have H:ae w1 w3:=G.trans (ae.below q);have k3:=M.o w3 H;have j:=E w3 H;clear E)|(go_at_call 67;refine j.mono ?_;clear j;rintro e w4 ⟨rfl,r⟩;have S4:ae w1 w4:=H.trans (ae.below r);have S:=du L l u w4)|(go_at_call 51;refine S.mono ?_;clear S;rintro e f ⟨rfl,rfl⟩;have I:ae w1 (w4.alloc (.cells #[.i l,.i u] 29)):=S4.trans (ae.alloc _ _);have Y:xv w (w4.alloc (.cells #[.i l,.i u] 29)):=BB w2 w3 w4 n q r;obtain⟨f,s⟩:=ex (w4.alloc (.cells #[.i l,.i u] 29));rw[<-s]at I Y⊢;clear s;have T:=M.o f I;have ab:=(ae.alloc f (.map #[] 0)).cell T.2.2.2.2.1;obtain⟨z,ad,J,U,k⟩:=lh fs (bS.new f) c.new.name;have z9:=(ae.alloc z (.cells #[.map (some f.heap.size)] 133)).cell (k.cell ((ae.alloc f (.map #[] 0)).cell T.2.2.2.2.2.2.2.2.2.1))));go_ret;exact⟨by rw[HV.o];rfl,HB.o.trans (n.mono HZ.o)⟩
def OK{K:Nat->Prop}{v:Zj}{l:List Int}(s:Int)(w:x6)(k:az K 1 cT w v l):Calls (Qs fs) 245 #[v,.i s] w λe w'=>(∃z:Int,e=.returned (.i z)/\decide (0<=z)=l.any (λt=>decide (t=s)))/\w'=w:=by
 obtain⟨G,c,rfl,A,H,B,d⟩:=k;have C:=jj d;clear d;go_enter (n245 L),Tryz.ntmps245;go_wp2;go_loopw [8] (λz wr=>∃j:Nat,j<=l.length/\z=.i j/\wr=w/\∀i (m:i<l.length),i<j->l[i]≠s) (λz _=>l.length-(intOf z).toNat);case atStart=>exact⟨0,UP _,rfl,rfl,λi m h=>by omega⟩
 case round=>
  obtain⟨j,I,rfl,rfl,n⟩:=hrel;have u:=jj n;clear n;obtain o|hge:=UK j l.length
  .obtain⟨b,q,rfl,p⟩:=C.o j o;(rw[Vs]at p;have r:wr.cell? ⟨b,q+j,none⟩=some (.i l[j]):=p;have D:(j:Int)<(l.length:Int):=by omega);obtain⟨x,f⟩:=ex (l[j]);rw[<-f]at r;have y:=jj f;clear p f;by_cases a:s=x
   ·(have E:(s==x)=true:=by simpa using a);have g:=jj a;clear a;go_wp2;go_ret;refine⟨⟨(j:Int),rfl,?_⟩,rfl⟩;rw[UQ (by omega),Wy,VO];exact⟨l[j],US o,UQ (by rw[g.o,y.o])⟩
   (have E:(s==x)=false:=by simpa using a);have g:=jj a;clear a;go_wp2;refine⟨⟨j+1,by omega,by go_num,trivial,λi m F=>?_⟩,by simp[intOf];omega⟩;by_cases h:i<j;exact u.o i m h;(obtain rfl:i=j:=by omega);rw[<-y.o];exactλh=>g.o h.symm
  go_wp2;go_ret;refine⟨⟨-1,rfl,?_⟩,rfl⟩;rw[UN (by decide),Wy,WK];intro x p;obtain⟨i,m,rfl⟩:=Wt.1 p;simpa using u.o i m (by omega)
def Ga{K:Nat->Prop}{v:Zj}{l:List Int}(s:Int)(w:x6)(a:az K 1 cT w v l):ap fs 244 #[v,.i s] w (.bool (l.any (λt=>decide (t=s)))):=by have Tp:=Tp L;have b:=OK L s w a;clear a;go_enter (n244 L),Tryz.ntmps244;go_wp2_with (go_at_call 245;refine b.mono ?_;clear b;rintro e w2 ⟨⟨z,rfl,c⟩,rfl⟩;have d:=jj c;clear c);go_ret;exact⟨by rw[<-d.o];rfl,rfl⟩

def mQ(c:Case):Prop:=Dn c.table/\lI c.new/\c.rules.length<=40/\c.marks.length<=40/\c.kin.length<=40/\∀m∈c.marks,lI m
def y5(c:Case):Prop:=I2 c.table
def DJ{K w v l}(h:az K 5 lQ w v l)(k:Nat)(f:k<l.length):∃b o,∃d c,v=.slice (some ⟨b,o,none⟩) l.length c/\bM K w #[.string l[k].name,.string l[k].word,d,.i l[k].day,.bool l[k].known] l[k]/\∀a,ae w a->a.cell? ⟨b,o+k*5,none⟩=some (.string l[k].name)/\a.cell? ⟨b,o+k*5+1,none⟩=some (.string l[k].word)/\a.cell? ⟨b,o+k*5+2,none⟩=some d/\a.cell? ⟨b,o+k*5+3,none⟩=some (.i l[k].day)/\a.cell? ⟨b,o+k*5+4,none⟩=some (.bool l[k].known):=by obtain⟨r,c,rfl,_,_,_,g⟩:=h;obtain⟨b,o,rfl,i,j,⟨d,m,n⟩,p,q⟩:=g k f;exact⟨b,o,d,c,rfl,⟨d,rfl,n⟩,λa e=>⟨e.cell i,e.cell j,e.cell m,e.cell p,e.cell q⟩⟩
def bM.stays{K w w' m mk}(a:ae w w')(h:bM K w m mk):bM K w' m mk:=by obtain⟨y,rfl,i⟩:=h;exact⟨y,rfl,i.ints a⟩
def QU{K:Nat->Prop}{sc:Zq}{c:Case}(w:x6)(hc:bF K w sc c)(hr:y5 c):Calls (Qs fs) 34 #[.agg sc] w λe w'=>∃z,e=.returned (.bool z)/\(z=false->mQ c)/\xv w w':=by
 have e16:=e16 L;have e24:=e24 L;obtain⟨v0,v1,v2,vr,vf,vm,vk,rfl,ht,H,hf,p,I⟩:=hc;obtain⟨ar,cr,rfl,_⟩:=H;obtain⟨am,cm,rfl,m1,m2,m3,m4⟩:=id p;obtain⟨ak,ck,rfl,_⟩:=I;obtain⟨w1,s⟩:=ex (w.alloc (.cells #[v0,v1,v2,.slice ar c.rules.length cr,.string c.new.name,.string c.new.word,vf,.i c.new.day,.bool c.new.known,.slice am c.marks.length cm,.slice ak c.kin.length ck] 60));obtain⟨G,B1,ct⟩:=fU w w1 s;obtain⟨N,J⟩:=ex (w.heap.size);rw[<-J]at ct;have v:=RU L w1 (ht.stays G) hr;have a:=λwx (hb:xv w1 wx)=>OC L wx (m:=c.new) ⟨vf,rfl,hf.ints (G.trans (ae.below hb))⟩;have q:=λk (I:k<c.marks.length)=>DJ p k I;have d:=jj B1;have M:=jj a;have x:=jj q;have O:=jj G;have P:=jV ct;obtain⟨a0,a1,a2,_⟩:=eI ct;clear ht hf p hr G B1 ct a q m3 m4;go_enter (n34 L),Tryz.ntmps34;go_upto_region 1 with fail;rw[<-s,<-J];clear s J;go_wp2_with fail
 refine v.mono ?_;clear v;rintro e w2 ⟨z,rfl,j,y⟩;have l:=jj y;clear y a0 a1 a2;cases z with
 |true=>clear j;go_wp2;go_ret;exact⟨_,rfl,(λh=>by cases h),d.o.trans (l.o.mono d.o.size)⟩
 |false=>
 have HZ:Hid _:=j rfl;clear j;obtain⟨_,_,_,_,a4,a5,a6,a7,a8,_⟩:=eI (P.o w2 l.o);have a:=M.o w2 l.o;go_wp2_with fail
 refine a.mono ?_;clear a;rintro e w3 ⟨z,rfl,j,A⟩;have g:Hid (xv w1 w3):=l.o.trans (A.mono l.o.size);clear A a4 a5 a6 a7 a8;cases z with
 |true=>clear j;go_wp2;go_ret;exact⟨_,rfl,(λh=>by cases h),d.o.trans (g.o.mono d.o.size)⟩
 |false=>
 have Q:Hid _:=j rfl;clear j;obtain⟨_,_,_,a3,_,_,_,_,_,R,S⟩:=eI (P.o w3 g.o);by_cases T:c.rules.length<=40;case neg=>
  have k:(40:Int)<(c.rules.length:Int):=by omega
  clear T;go_wp2;go_ret;exact⟨_,rfl,(λh=>by cases h),d.o.trans (g.o.mono d.o.size)⟩
 have U:decide ((40:Int)<(c.rules.length:Int))=false:=UN (by omega);by_cases g2:c.marks.length<=40;case neg=>
  have k:(40:Int)<(c.marks.length:Int):=by omega
  clear g2;go_wp2;go_ret;exact⟨_,rfl,(λh=>by cases h),d.o.trans (g.o.mono d.o.size)⟩
 have V:decide ((40:Int)<(c.marks.length:Int))=false:=UN (by omega);by_cases W:c.kin.length<=40;case neg=>
  have k:(40:Int)<(c.kin.length:Int):=by omega
  clear W;go_wp2;go_ret;exact⟨_,rfl,(λh=>by cases h),d.o.trans (g.o.mono d.o.size)⟩
 have X:decide ((40:Int)<(c.kin.length:Int))=false:=UN (by omega);have Y:Hid _:=(⟨T,g2,W⟩:c.rules.length<=40/\c.marks.length<=40/\c.kin.length<=40)
 go_wp2;clear U V X a3 R S T W;go_loopw [3] (λZ wr=>∃i:Nat,i<=c.marks.length/\Z=.i i/\(∀m∈c.marks.take i,lI m)/\xv w1 wr) (λZ _=>c.marks.length-(intOf Z).toNat);case atStart=>exact⟨0,UP _,rfl,by simp,g.o⟩
 case round=>
  obtain⟨i,hi,rfl,B,hC⟩:=hrel;have n:=jj hC;have C:=jj B;obtain⟨_,_,_,_,_,_,_,_,_,R,_⟩:=eI (P.o wr n.o);clear hC B;obtain t|hge:=UK i c.marks.length
  ·(have ad:(i:Int)<(c.marks.length:Int):=by omega);(have HL:=jj t;obtain⟨b,o,yf,cy,e,D,f⟩:=x.o i t;cases e;have u:=ae.trans O.o (ae.below n.o);obtain⟨y0,y1,y2,y3,y4⟩:=f wr u;have a:=OC L wr (D.stays u);have HM:Hid (i+1<=c.marks.length/\c.marks.length-(i+1)<c.marks.length-i):=⟨t,by omega⟩);clear D f u;go_wp2_with fail;refine a.mono ?_;clear a;rintro e w4 ⟨z,rfl,j,E⟩;have F:Hid (xv w1 w4):=n.o.trans (E.mono n.o.size);clear E y0 y1 y2 y3 y4 R;cases z with|true=>clear j;go_wp2;go_ret;exact⟨_,rfl,(λh=>by cases h),d.o.trans (F.o.mono d.o.size)⟩|false=>have aa:Hid _:=j rfl;clear j;go_wp2;refine⟨⟨i+1,HM.o.1,by go_num,λm p=>?_,F.o⟩,by simpa[intOf]using HM.o.2⟩;rw[WL HL.o,Wn,Wd]at p;obtain p|rfl:=p;exact C.o m p;exact aa.o
  have hx:decide ((i:Int)<(c.marks.length:Int))=false:=UN (by omega);have r:∀m∈c.marks,lI m:=λm p=>C.o m (by rw[WV hge];exact p);have ab:=jj r;have af:¬i<c.marks.length:=by omega
  clear r hge;go_wp2;go_ret;exact⟨_,rfl,(λ_=>⟨HZ.o,Q.o,Y.o.1,Y.o.2.1,Y.o.2.2,ab.o⟩),d.o.trans (n.o.mono d.o.size)⟩
def tB{a}{b c:Int}{chk:List a->a->Int}{l:List a}(h:b<=l.length/\(l.length:Int)<=c):aI b c chk l=dZ chk [] l:=by unfold aI aq;rw[UQ h.1,UQ h.2];rfl
def BI{a}{c b:Int}{chk:List a->a->Int}{l:List a}(h:b<(l.length:Int)):aI c b chk l=2:=by unfold aI aq;rw[UN (p:=(l.length:Int)<=b) (by omega),WH];rfl
def DL{K:Nat->Prop}{v:Zj}{l:List ja}(w:x6)(F:az K 4 iX w v l)(T:l.length<=40):ap fs 75 #[v] w (.i (aI 0 6 et l)):=by
 have e68:=e68 L;have e60:=e60 L;obtain⟨U,c,rfl,V,W,_,u⟩:=F;by_cases B:6<l.length
 .have k:(6:Int)<(l.length:Int):=by omega
  rw[BI k];clear u B;go_enter (n75 L),Tryz.ntmps75;go_wp2;go_ret;exact⟨rfl,rfl⟩
 have k:decide ((6:Int)<(l.length:Int))=false:=UN (by omega);rw[tB (by omega)];have G:=jj u;have X:Hid (l.length<=6):=by rw[Hid];omega
 clear u B;go_enter (n75 L),Tryz.ntmps75;go_wp2;go_loopw [3] (λx wr=>∃i:Nat,i<=l.length/\x=.i i/\(∀j (_:j<i) (H:j<l.length),et (l.take j) l[j]=0)/\w=wr) (λx _=>l.length-(intOf x).toNat);case atStart=>exact⟨0,UP _,rfl,λj h=>absurd h (UX _),rfl⟩
 case round=>
  obtain⟨i,Y,rfl,n,rfl⟩:=hrel;have d:=jj n;clear n;obtain a|hge:=UK i l.length
  ·(have I:(i:Int)<(l.length:Int):=by omega);(have C:Hid (i+1<=l.length/\l.length-(i+1)<l.length-i):=⟨a,by omega⟩);have Z:=jj a;obtain⟨b,o,rfl,y0,y1,y2,y3⟩:=G.o i a;have g:et (l.take i) l[i]=if !aq l[i].kind 0 5|| !aq l[i].least 1 100|| !aq l[i].plain 0 9|| !aq l[i].known 0 9 then 1 else 0:=rfl
   have D:Hid (et (l.take i) l[i]=0->∀j (_:j<i+1) (H:j<l.length),et (l.take j) l[j]=0):=λh=>fC d.o a h;have E:Hid (et (l.take i) l[i]=1->dZ et [] l=1):=λh=>fB a d.o h (by decide);obtain⟨f,p⟩:=ex (et (l.take i) l[i]);rw[<-p]at g D E;have m:=LA L l[i].kind w;have y:=xb L l[i].least 1 100 w;have z:=xb L l[i].plain 0 9 w;have A:=xb L l[i].known 0 9 w;obtain⟨J,q⟩:=ex (aq l[i].kind 0 5);obtain⟨M,r⟩:=ex (aq l[i].least 1 100);obtain⟨N,s⟩:=ex (aq l[i].plain 0 9);obtain⟨O,t⟩:=ex (aq l[i].known 0 9);rw[<-q]at g m;rw[<-r]at g y;rw[<-s]at g z;rw[<-t]at g A;have P:=jj g;clear g p q r s t;cases J<;>cases M<;>cases N<;>cases O;all_goals (
    have p:Hid (f=_):=P.o;go_wp2_with (first|(go_at_call 68;refine m.mono ?_;clear m;rintro e w2 ⟨rfl,rfl⟩)|(go_at_call 60;refine y.mono ?_;clear y;rintro e w2 ⟨rfl,rfl⟩)|(go_at_call 60;refine z.mono ?_;clear z;rintro e w2 ⟨rfl,rfl⟩)|(go_at_call 60;refine A.mono ?_;clear A;rintro e w2 ⟨rfl,rfl⟩))
    first
     |(go_ret;exact⟨by rw[E.o p.o];rfl,rfl⟩)
     |exact⟨⟨i+1,C.o.1,by go_num,D.o p.o,trivial⟩,by simpa[intOf]using C.o.2⟩)
  have u:decide ((i:Int)<(l.length:Int))=false:=UN (by omega);have Q:¬i<l.length:=by omega
  have R:Hid (dZ et [] l=0):=fj λj S=>d.o j (by omega) S;clear hge;go_wp2;go_ret;exact⟨by rw[R.o];rfl,rfl⟩
def Gq(c:Case):dB c=if dL c.table≠0 then dL c.table else if aI 0 6 et c.rules≠0 then aI 0 6 et c.rules else if bV c.new≠0 then bV c.new else if aI 0 8 (fE c.new.name) c.marks≠0 then aI 0 8 (fE c.new.name) c.marks else aI c.marks.length c.marks.length oF c.kin:=rfl
def tC{K:Nat->Prop}{sc:Zq}{c:Case}(w:x6)(hc:bF K w sc c)(hs:mQ c):Calls (Qs fs) 32 #[.agg sc] w λe w'=>e=.returned (.i (dB c))/\xv w w':=by
 have e21:=e21 L;have e60:=e60 L;have e69:=e69 L;have e75:=e75 L;have hF:=Gq c;obtain⟨s1,s2,s3,s4,s5,s6⟩:=hs;obtain⟨v0,v1,v2,vr,vf,vm,vk,rfl,ht,ao,u,hm,hk⟩:=hc;obtain⟨am,cm,rfl,m1,m2,_,_⟩:=id hm;obtain⟨ak,ck,rfl,n1,n2,_,n4⟩:=id hk;obtain⟨w1,T⟩:=ex (w.alloc (.cells #[v0,v1,v2,vr,.string c.new.name,.string c.new.word,vf,.i c.new.day,.bool c.new.known,.slice am c.marks.length cm,.slice ak c.kin.length ck] 60));obtain⟨U,B1,ct⟩:=fU w w1 T;obtain⟨N,hN⟩:=ex (w.heap.size);rw[<-hN]at ct;have V:=zU L w1 (ht.stays U) s1;have C:=λD (R:xv w1 D)=>DL L D (ao.stays (U.trans (ae.below R)) λb b' o x e h=>by subst e;exact iX.carry (Carry.keep (U.trans (ae.below R))) b b o x rfl h) s3;have n:=λD (R:xv w1 D)=>tt L D (m:=c.new) ⟨vf,rfl,u.ints (U.trans (ae.below R))⟩ s2;have qm:=λk (hk:k<c.marks.length)=>DJ hm k hk;have E:∀k (h:k<c.kin.length),∃b I,ak=some ⟨b,I,none⟩/\∀D,xv w1 D->D.cell? ⟨b,I+k,none⟩=some (.i c.kin[k]):=λk h=>by obtain⟨b,I,e,g⟩:=n4 k h;refine⟨b,I,e,λD R=>?_⟩;have:=(U.trans (ae.below R)).cell g;rwa[Vs]at this
 obtain⟨f1,ar⟩:=ex (dL c.table);obtain⟨f2,ax⟩:=ex (aI 0 6 et c.rules);obtain⟨f3,ay⟩:=ex (bV c.new);rw[<-ar]at V hF;simp only[<-ax]at C hF;simp only[<-ay]at n hF;have t:=jj B1;have W:=jj U;have bo:=jj C;have br:=jj n;have Hm:=jj qm;have Hk:=jj E;have B:=jj hF;have bs:Hid (∀m∈c.marks,lI m):=s6;have X:=jV ct;obtain⟨a0,a1,a2,_⟩:=eI ct;clear ht ao u hm hk U B1 ct C n qm E n4 hF ar ax ay s1 s2 s6;go_enter (n32 L),Tryz.ntmps32;go_upto_region 1 with fail;rw[<-T,<-hN];clear T hN;go_wp2_with fail
 refine V.mono ?_;clear V;rintro e w2 ⟨rfl,aK⟩;have v:=jj aK;clear aK a0 a1 a2;by_cases g:f1=0;case neg=>
  have k1:(f1 !=0)=true:=by simpa using g
  have u:Hid (dB c=f1):=B.o.trans (UH g);clear g;go_wp2;go_ret;exact⟨by rw[u.o];rfl,t.o.trans (v.o.mono t.o.size)⟩
 have B:Hid _:=B.o.trans (UG (by simpa using g));subst g;obtain⟨_,_,_,a3,_⟩:=eI (X.o w2 v.o);have C:=bo.o w2 v.o;go_wp2_with fail
 refine C.mono ?_;clear C;rintro e w3 ⟨rfl,rfl⟩;by_cases g:f2=0;case neg=>
  have k1:(f2 !=0)=true:=by simpa using g
  have u:Hid (dB c=f2):=B.o.trans (UH g);clear g;go_wp2;go_ret;exact⟨by rw[u.o];rfl,t.o.trans (v.o.mono t.o.size)⟩
 have B:Hid _:=B.o.trans (UG (by simpa using g));subst g;obtain⟨_,_,_,_,a4,a5,a6,a7,a8,_⟩:=eI (X.o _ v.o);have n:=br.o _ v.o;go_wp2_with fail
 refine n.mono ?_;clear n;rintro e w4 ⟨rfl,aM⟩;have J:Hid (xv w1 w4):=v.o.trans (aM.mono v.o.size);clear aM a3 a4 a5 a6 a7 a8;by_cases g:f3=0;case neg=>
  have k1:(f3 !=0)=true:=by simpa using g
  have u:Hid (dB c=f3):=B.o.trans (UH g);clear g;go_wp2;go_ret;exact⟨by rw[u.o];rfl,t.o.trans (J.o.mono t.o.size)⟩
 have B:Hid _:=B.o.trans (UG (by simpa using g));subst g;obtain⟨_,_,_,_,_,_,_,_,_,a9,_⟩:=eI (X.o w4 J.o);by_cases h8:8<c.marks.length;case pos=>
  have k1:(8:Int)<(c.marks.length:Int):=by omega
  have u:Hid (dB c=2):=B.o.trans (by rw[BI k1];rfl);clear h8;go_wp2;go_ret;exact⟨by rw[u.o];rfl,t.o.trans (J.o.mono t.o.size)⟩
 have k8:decide ((8:Int)<(c.marks.length:Int))=false:=UN (by omega);have B:=jj B.o;have H8:Hid (c.marks.length<=8):=by rw[Hid];omega
 clear h8;go_wp2;clear k8;go_loopw [6,7,8,9] (λs6 s7 s8 s9 wr=>∃i:Nat,i<=c.marks.length/\s6=.i i/\(∀j (_:j<i) (h':j<c.marks.length),fE c.new.name (c.marks.take j) c.marks[j]=0)/\xv w1 wr) (λs6 _ _ _ _=>c.marks.length-(intOf s6).toNat);case atStart=>exact⟨0,UP _,rfl,λj h=>absurd h (UX _),J.o⟩
 case round=>
  obtain⟨i,hi,rfl,F,hC⟩:=hrel;have s:=jj hC;have Y:=jj F;obtain⟨_,_,_,_,b4,_,_,_,_,b9,bx⟩:=eI (X.o wr s.o);clear hC F;obtain G|hge:=UK i c.marks.length
  .obtain⟨b,o,yf,cy,e,aR,a⟩:=Hm.o i G;(cases e;have A:=ae.trans W.o (ae.below s.o);have hG:fE c.new.name (c.marks.take i) c.marks[i]=0->∀j (_:j<i+1) (h':j<c.marks.length),fE c.new.name (c.marks.take j) c.marks[j]=0:=λh=>fC Y.o G h;have hE:∀f,fE c.new.name (c.marks.take i) c.marks[i]=f->f≠0->dB c=f:=λf h h0=>by have:=fB G Y.o h h0;exact B.o.trans (by rw[tB ⟨by omega,by have:=H8.o;omega⟩,this];exact UH h0));(have y:fE c.new.name (c.marks.take i) c.marks[i]=if bV c.marks[i]≠0 then bV c.marks[i]else if decide (c.new.name=c.marks[i].name)||(c.marks.take i).any (λq=>decide (q.name=c.marks[i].name))then 5 else 0:=rfl);(have n:=tt L wr (aR.stays A) (bs.o _ (US G));obtain⟨M,hM⟩:=ex (c.marks[i]);rw[<-hM]at a hG y n;simp only[<-hM]at hE;obtain⟨f,u⟩:=ex (bV M);rw[<-u]at n y;have HG:=jj hG;have HE:=jj hE;have S:=jj y;have HC:Hid (∀D,xv w1 D->_):=λD R=>a D (ae.trans W.o (ae.below R));have HM:Hid (i+1<=c.marks.length/\c.marks.length-(i+1)<c.marks.length-i):=⟨G,by omega⟩);(have b2:(i:Int)<(c.marks.length:Int):=by omega);have h8:=H8.o;obtain⟨y0,y1,y2,y3,y4⟩:=HC.o wr s.o;clear aR a A hG hE y hM u b4 bx;go_wp2_with fail
   refine n.mono ?_;clear n;rintro e Z ⟨rfl,ba⟩;have aa:Hid (xv w1 Z):=s.o.trans (ba.mono s.o.size);clear ba y0 y1 y2 y3 y4 b9;by_cases g:f=0;case neg=>
    have k1:(f !=0)=true:=by simpa using g
    have u:Hid (dB c=f):=HE.o f (S.o.trans (UH g)) g;clear g;go_wp2;go_ret;exact⟨by rw[u.o];rfl,t.o.trans (aa.o.mono t.o.size)⟩
   (have S:Hid _:=S.o.trans (UG (by simpa using g));subst g;have l4:∀z:al w1 Z,z.val.cell? ⟨N,4,none⟩=some (.string c.new.name):=λz=>X.o z.val z.be 4 _ rfl;have l9:∀z:al w1 Z,z.val.cell? ⟨N,9,none⟩=some (.slice (some ⟨b,o,none⟩) c.marks.length cm):=λz=>X.o z.val z.be 9 _ rfl;have l0:∀z:al w1 Z,z.val.cell? ⟨b,o+i*5,none⟩=some (.string M.name):=λz=>(HC.o z.val z.be).1;go_upto_region 18 with fail;refine aQ (w0:=w1) (w1:=Z) (by kernel_rfl) (by kernel_rfl) (ae.refl _) aa.o ?_;haveI ab:Nonempty (al w1 Z):=⟨⟨Z,ae.refl _,aa.o⟩⟩);(repeat (go_big_quiet_step (fail)));refine wpQuiet_nil ?_;rintro w6 ⟨⟨_,Sz,Bz⟩,rfl⟩;have bA:Hid (xv w1 w6):=Bz;clear ab Sz Bz l4 l9 l0;rw[ky];obtain⟨t0,ad⟩:=ex (decide (M.name=c.new.name));have y:=S.o;rw[show decide (c.new.name=M.name)=t0 by rw[ad];exact decide_eq_decide.2 eq_comm]at y;rw[<-ad];have bB:=jj y;clear ad y S;go_wp2;go_loopw [8,9] (λs8 s9 wq=>∃k:Nat,k<=i/\s9=.i k/\s8=.bool (t0||(c.marks.take k).any (λq=>decide (q.name=M.name)))/\xv w1 wq) (λ_ s9 _=>i-(intOf s9).toNat);case atStart=>exact⟨0,UP _,rfl,by simp,bA.o⟩
   case round=>
    obtain⟨k,hk,rfl,rfl,hC⟩:=hrel;have O:=jj hC;clear hC;obtain⟨p,hp⟩:=ex ((t0||(c.marks.take k).any (λq=>decide (q.name=M.name))));obtain r|hge2:=UK k i
    ·(have HI:Hid (k+1<=i/\i-(k+1)<i-k):=⟨r,by omega⟩);(have E:k<c.marks.length:=by have:=HM.o;omega);(have bb:(k:Int)<(i:Int):=by omega);(have b3:(k:Int)<(c.marks.length:Int):=by omega);(have A:(p||decide (c.marks[k].name=M.name))=(t0||(c.marks.take (k+1)).any (λq=>decide (q.name=M.name))):=by rw[hp,WL E,List.any_append,Yn];simp);obtain⟨b',o',_,_,e,bk,a⟩:=Hm.o k E;cases e;obtain⟨P,hP⟩:=ex (c.marks[k]);rw[<-hP]at a A;obtain⟨d,hd⟩:=ex (decide (P.name=M.name));have b5:(P.name.toList==M.name.toList)=d:=by rw[ky,hd]
     rw[<-hd]at A;rw[<-hp];have bC:=jj A;have l9:∀z:al w1 wr,z.val.cell? ⟨N,9,none⟩=some (.slice (some ⟨b,o,none⟩) c.marks.length cm):=λz=>X.o z.val z.be 9 _ rfl;have l0:∀z:al w1 wr,z.val.cell? ⟨b,o+i*5,none⟩=some (.string M.name):=λz=>(HC.o z.val z.be).1;have l1:∀z:al w1 wr,z.val.cell? ⟨b,o+k*5,none⟩=some (.string P.name):=λz=>(a z.val (ae.trans W.o (ae.below z.be))).1;clear hp bk a hP hd A E r;cases p<;>cases d;all_goals (
      go_upto_region 22 with fail;refine aQ (w0:=w1) (w1:=wr) (by kernel_rfl) (by kernel_rfl) (ae.refl _) O.o ?_;haveI ab:Nonempty (al w1 wr):=⟨⟨wr,ae.refl _,O.o⟩⟩
      repeat (go_big_quiet_step (fail))
      refine wpQuiet_nil ?_;rintro w7 ⟨⟨_,Sz,Bz⟩,rfl⟩;have b0:Hid (xv w1 w7):=Bz;clear ab Sz Bz l9 l0 l1;go_wp2;exact⟨⟨k+1,HI.o.1,by go_num,by rw[<-bC.o];rfl,b0.o⟩,by simpa[intOf]using HI.o.2⟩)
    (have bb:k=i:=by omega);subst bb;have hx:decide ((k:Int)<(k:Int))=false:=UN (by omega);have y:=bB.o;rw[<-hp]at y⊢;have bm:=jj y;clear y hp hge2;cases p
    .go_wp2;exact⟨⟨k+1,HM.o.1,by go_num,HG.o bm.o,O.o⟩,by simpa[intOf]using HM.o.2⟩
    go_wp2;go_ret;exact⟨by rw[HE.o 5 bm.o (by decide)];rfl,t.o.trans (O.o.mono t.o.size)⟩
  have hx:decide ((i:Int)<(c.marks.length:Int))=false:=UN (by omega);have b1:¬i<c.marks.length:=by omega
  have hN:=fj (chk:=fE c.new.name) (l:=c.marks) λj hj=>Y.o j (by omega) hj;have HK:Hid (dB c=aI c.marks.length c.marks.length oF c.kin):=B.o.trans (by rw[tB ⟨by omega,by have:=H8.o;omega⟩,hN];exact UG (by decide));have h8:=H8.o;have b6:=s5;clear hge hN b4;by_cases Q:c.kin.length=c.marks.length;case neg=>
   have k1:((c.kin.length:Int)!=(c.marks.length:Int))=true:=WO.2 λe=>Q (by omega);have u:Hid (dB c=2):=HK.o.trans (by
    unfold aI aq;obtain h|h:=UK c.kin.length c.marks.length
    .rw[UN (p:=(c.marks.length:Int)<=(c.kin.length:Int)) (by omega)];rfl
    .rw[UN (p:=(c.kin.length:Int)<=(c.marks.length:Int)) (by omega),WH];rfl)
   clear Q;go_wp2;go_ret;exact⟨by rw[u.o];rfl,t.o.trans (s.o.mono t.o.size)⟩
  have k1:((c.kin.length:Int)!=(c.marks.length:Int))=false:=by rw[Q];exact bne_self_eq_false _
  have HK:Hid (dB c=dZ oF [] c.kin):=HK.o.trans (tB ⟨by omega,by omega⟩);clear Q;go_wp2;go_loopw [10] (λaf wq=>∃k:Nat,k<=c.kin.length/\af=.i k/\(∀j (_:j<k) (h':j<c.kin.length),oF (c.kin.take j) c.kin[j]=0)/\wr=wq) (λaf _=>c.kin.length-(intOf af).toNat);case atStart=>exact⟨0,UP _,rfl,λj h=>absurd h (UX _),rfl⟩
  case round=>
   obtain⟨k,hk,rfl,F,rfl⟩:=hrel;have ag:=jj F;clear F;obtain r|hge2:=UK k c.kin.length
   ·(have b7:(k:Int)<(c.kin.length:Int):=by omega);(have HM:Hid (k+1<=c.kin.length/\c.kin.length-(k+1)<c.kin.length-k):=⟨r,by omega⟩);obtain⟨b,o,e,H⟩:=Hk.o k r;have y0:=H _ s.o;have HG:Hid (oF (c.kin.take k) c.kin[k]=0->∀j (_:j<k+1) (h':j<c.kin.length),oF (c.kin.take j) c.kin[j]=0):=λh=>fC ag.o r h;have HE:Hid (oF (c.kin.take k) c.kin[k]=1->dB c=1):=λh=>HK.o.trans (fB r ag.o h (by decide));have y:oF (c.kin.take k) c.kin[k]=if !aq c.kin[k] 0 9 then 1 else 0:=rfl
    have an:=xb L c.kin[k] 0 9 wr;obtain⟨z,hz⟩:=ex (aq c.kin[k] 0 9);rw[<-hz]at y an;have S:=jj y;clear H y hz;subst e;cases z;all_goals (
     go_wp2_with (go_at_call 60;refine an.mono ?_;clear an;rintro e w7 ⟨rfl,rfl⟩)
     first
      |(go_ret;exact⟨by rw[HE.o S.o];rfl,t.o.trans (s.o.mono t.o.size)⟩)
      |exact⟨⟨k+1,HM.o.1,by go_num,HG.o S.o,trivial⟩,by simpa[intOf]using HM.o.2⟩)
   have hx:decide ((k:Int)<(c.kin.length:Int))=false:=UN (by omega);(have b1:¬k<c.kin.length:=by omega);have HN:Hid (dB c=0):=HK.o.trans (fj λj hj=>ag.o j (by omega) hj);clear hge2;go_wp2;go_ret;exact⟨by rw[HN.o];rfl,t.o.trans (s.o.mono t.o.size)⟩
end Go.Proofs
namespace Go.Proofs
open Go.Tm Go.RowKit Go.MapKept
section
variable (fs:Array Func)
end
end Go.Proofs
namespace Go.Proofs
open Go.Tm Go.RowKit Go.MapKept
open Go.ChangeMaps (setBlock)
def Rng(w:x6)(b r:Nat)(f:EK->Nat)(left:EK->Bool)(cnt:Nat):Prop:=∃es d c seen e,w.heap[b]? =some (.map es d)/\Cnt es.toList d f/\w.heap[r]? =some (.mapIter (some b) c seen e)/\(∀x∈es.toList,x.born<c)/\c<=e/\c<=d/\(leftOf es seen).size=cnt/\(∀x∈es.toList,∀p,x.key=eJ p->left p= !seen.contains x.born)/\∀p,left p=true->∃x∈es.toList,x.key=eJ p
variable {w:x6} {b r cnt:Nat} {f:EK->Nat} {left:EK->Bool}
def Rng.Ge(h:Rng w b r f left cnt):fw w b f:=by obtain⟨es,c,d,seen,i,e,g,_⟩:=h;exact⟨es,c,e,g⟩
def Rng.ne(h:Rng w b r f left cnt):r≠b:=by obtain⟨es,c,d,seen,i,g,j,e,_⟩:=h;rintro rfl;rw[g]at e;cases e
def Rng.lt(h:Rng w b r f left cnt):r<w.heap.size:=by obtain⟨es,c,d,seen,g,i,j,e,_⟩:=h;exact(UO.1 e).1
def Rng.keep{w'}(h:Rng w b r f left cnt)(e:w'.heap[b]? =w.heap[b]?)(g:w'.heap[r]? =w.heap[r]?):Rng w' b r f left cnt:=by obtain⟨es,c,d,seen,i,j,k,l,m⟩:=h;exact⟨es,c,d,seen,i,e.trans j,k,g.trans l,m⟩
def Rng.left_eq(h:Rng w b r f left cnt):w.rangeLeft b r=cnt:=by obtain⟨es,c,d,seen,j,e,k,g,_,_,_,i,_⟩:=h;simp only[World.rangeLeft,e,g];exact i
def I7{es c}(h:Cnt es c f){x e}(d:x∈es)(g:e∈es){p q:EK}(i:x.key=eJ p)(j:e.key=eJ q):p=q↔x.born=e.born:=by constructor;rintro rfl;have:x=e:=entry_eq_of_key h.keys d g (i.trans j.symm);rw[this];intro k;have:x=e:=born_inj h.born d g k;subst this;exact F8 (i.symm.trans j)
def Bm(es seen):(leftOf es seen).size=((es.toList.map kb).filter λq=> !seen.contains q.2).length:=by unfold leftOf;rw[<-Array.length_toList,Array.toList_filter,List.filter_map,Vo];rfl
section
variable (fs:Array Func)
open Classical in
def LJ(h:fw w b f):∃w' left cnt,(Instr.range 291 (.map (some b))).run (Qs fs) w=.ok (.pointer (some ⟨w.heap.size,0,none⟩)) w'/\Rng w' b w.heap.size f left cnt/\(∀p,f p≠0->left p=true)/\xv w w'/\w'.heap.size=w.heap.size+1:=by obtain⟨es,c,k,i⟩:=id h;refine⟨_,λp=>es.toList.any λe=>decide (e.key=eJ p),_,run_range_map w 291 293 3 b es c (uI fs) k,⟨es,c,c,#[],c,((MapKept.heap_alloc w _).2 b h.lt).trans k,i,(MapKept.heap_alloc w _).1,λx d=>?_,UI _,UI _,rfl,λx d p g=>?_,λp g=>?_⟩,λp g=>?_,aH _ _,by simp⟩;obtain⟨q,_,_,_,h⟩:=i.ent x d;exact h;have:(es.toList.any λe=>decide (e.key=eJ p))=true:=VO.2 ⟨x,d,UQ g⟩;simpa using this;obtain⟨x,d,j⟩:=VO.1 g;exact⟨x,d,Vl j⟩;obtain⟨x,d,j⟩:=i.all p g;exact VO.2 ⟨x,d,UQ j⟩
def Rng.next(h:Rng w b r f left cnt)(ty):((∀p,left p=false)/\(Instr.next (.pointer (some ⟨r,0,none⟩)) false ty).run (Qs fs) w=.ok (.tuple #[.bool false]) w)\/∃p w' t,wfE p/\left p=true/\(Instr.next (.pointer (some ⟨r,0,none⟩)) false ty).run (Qs fs) w=.ok (.tuple #[.bool true,eJ p,.i (f p)]) w'/\Rng w' b r f (λq=>left q&& !decide (q=p)) t/\t<cnt/\w'.os=w.os/\w'.tape=w.tape/\w'.output=w.output/\w'.heap.size=w.heap.size/\(∀k,k≠r->w'.heap[k]? =w.heap[k]?)/\(∀(k:Nat) c e F,w.heap[k]? =some (Obj.cells c e F)->w'.heap[k]? =some (Obj.cells c e F))/\(Instr.entry (.pointer (some ⟨r,0,none⟩))).run (Qs fs) w'=.ok (.tuple #[eJ p,.i (f p)]) w':=by (have G:=h.ne;obtain⟨es,d,g,seen,O,R,F,H,u,I,A,rfl,y,B⟩:=h;rcases run_next_at (P:=Qs fs) w ty r b g O seen es d H R u I with⟨T,l⟩|⟨e,S,w1,i,l⟩);refine .inl ⟨λp=>?_,l⟩;(cases m:left p with|false=>rfl|true=>obtain⟨x,C,J⟩:=B p m;rw[y x C p J,all_seen es seen T x C]at m;cases m);obtain⟨n,K⟩:=mem_left S;(obtain⟨p,U,m,V,W⟩:=F.ent e n;have L:w1.heap[r]? =some (.mapIter (some b) g seen O):=by rcases i with rfl|rfl<;>exact H);(have M:w1.heap[b]? =some (.map es d):=by rcases i with rfl|rfl<;>exact R);have j:=heap_set (o':=.mapIter (some b) g (seen.push e.born) d) L;have D:(setBlock w1 r (.mapIter (some b) g (seen.push e.born) d)).heap[b]? =some (.map es d):=(j.2 b (λe1=>G e1.symm)).trans M;have v:=run_entry_at (P:=Qs fs) _ r b g seen es d e j.1 D n F.born;rw[m,V]at l v;refine .inr ⟨p,_,_,U,by rw[y e n p m,K];rfl,l,⟨es,d,g,seen.push e.born,d,D,F,j.1,u,A,A,rfl,λx C q E=>?_,λq E=>B q (by simp at E;exact E.1)⟩,left_shrinks es seen e S,?_,?_,?_,?_,λk m=>?_,λk c e0 X m=>?_,v⟩;show(left q&& !decide (q=p))=_;rw[y x C q E,contains_push];have:=I7 F C n E m;by_cases s:q=p;have z:=this.1 s;rw[UQ s,z];simp;have z:¬x.born=e.born:=λh=>s (this.2 h);(rw[UN s];have:(x.born==e.born)=false:=by simpa using z);rw[this];simp;rcases i with rfl|rfl<;>rfl;rcases i with rfl|rfl<;>rfl;rcases i with rfl|rfl<;>rfl;rcases i with rfl|rfl<;>simp[setBlock];exact(j.2 k m).trans (by rcases i with rfl|rfl<;>rfl);(have N:k≠r:=by rintro rfl;rw[H]at m;cases m);exact((j.2 k N).trans (by rcases i with rfl|rfl<;>rfl)).trans m
def Rng.entry(h:Rng w b r f left cnt){p:EK}(k:wfE p)(l:f p≠0):∃es c,∃st:Nat,(Instr.mapEntry 291 (.map (some b)) (eJ p)).run (Qs fs) w=.ok (.tuple #[.i (f p),.i st]) (dN w b es c)/\Rng (dN w b es c) b r f left cnt/\iQ (dN w b es c) b p st:=by have i:=h.ne;obtain⟨es,c,d,seen,m,g,F,n,rest⟩:=h;obtain⟨j,e,q,s,t⟩:=I6 fs g F k l;exact⟨es,c,e.born,q,⟨es,c,d,seen,m,(di g).1,F,((di g).2.1 r i).trans n,rest⟩,⟨es,c,(di g).1,j,e,s,t,rfl⟩⟩
def Rng.store(h:Rng w b r f left cnt){p:EK}{st}(K:iQ w b p st)(L:wfE p)(v:Nat):∃es c,(Instr.entryStore 291 (.map (some b)) (.i st) (.i v)).run (Qs fs) w=.ok () (dN w b es c)/\Rng (dN w b es c) b r (λq=>if q=p then v else f q) left cnt:=by have A:=h.ne;obtain⟨es,c,d,seen,M,s,F,N,g,B,C,i,D,E⟩:=h;obtain⟨O,t,k,j,e,P,R,G⟩:=K;rw[s]at k;cases k;subst G;obtain⟨l,a1,S,u⟩:=vz fs s F P R L v;refine⟨l,c,a1,l,c,d,seen,M,(di s).1,S,((di s).2.1 r A).trans N,λx m=>?_,B,C,?_,λx m q H=>?_,λq H=>?_⟩;obtain⟨y,n,_,z⟩:=Cnt.shape u x m;rw[<-z];exact g y n;rw[Bm,u,<-Bm];exact i;obtain⟨y,n,I,z⟩:=Cnt.shape u x m;rw[<-z];exact D y n q (I.trans H);obtain⟨x,m,J⟩:=E q H;obtain⟨y,n,I,z⟩:=Cnt.shape u.symm x m;exact⟨y,n,I.trans J⟩
end
section
variable {fs:Array Func} {ops:Array Oper} {rest:List Oper} {o:Oper} {a:Act} {Q:Exit->Act->x6->Prop}
end
end Go.Proofs

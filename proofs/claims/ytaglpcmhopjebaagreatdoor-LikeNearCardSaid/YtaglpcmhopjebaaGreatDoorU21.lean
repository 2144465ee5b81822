import Derived.Deep.CutRange
import Derived.Deep.RegionHeld3
import Derived.Test.YtaglpcmhopjebaaGreatDoorU20
set_option linter.all false
set_option maxRecDepth 100000
set_option maxHeartbeats 20000000
namespace Go.Proofs
open Go.Tm Go.RowKit
variable {fs:Array Func} (L:bT fs)
def bW(K:Nat->Prop)(w:World)(mc:Array Value)(m:Mark):Prop:=∃a,mc=#[.string m.name,.string m.word,a,.int .i64 m.day,.bool m.known]/\aE K 1 dG w a m.aW
structure OkM(m:Mark):Prop where
 word:m.word.size<=16
 fig:m.aW.length<=5
 code:∀x∈m.aW,0<=x/\x<=999
 day:0<=m.day/\m.day<=99999
def aE.ints{K w w'}(a:ae w w'){v l}(h:aE K 1 dG w v l):aE K 1 dG w' v l:=h.stays a λb c o x e h=>by subst e;exact dG.carry (Carry.keep a) b b o x rfl h
def zI(t one two):bE t 0 one two=bH (aL t.aq one.word.data.toList) (aL t.aq two.word.data.toList):=rfl
def eV(t:Table)(one two:Bs)(k:Nat):Int:=(List.range k).foldl (λa k=>max a (bH (bl t k one) (bl t k two))) 0
def kH(t one two k):eV t one two (k+1)=max (eV t one two k) (bH (bl t k one) (bl t k two)):=by unfold eV;rw[WG,WE];rfl
def zJ(t one two):bE t 1 one two=eV t one.word.data.toList two.word.data.toList t.au.length:=rfl
def zK(t one two):bE t 2 one two=gL t (aL t.aq one.word.data.toList) (aL t.aq two.word.data.toList):=rfl
def zL(t one two):bE t 3 one two=bH (aL t.aq one.word.data.toList) (aL t.aq two.word.data.toList).reverse:=rfl
def zM(t one two):bE t 4 one two=pI (aL t.aq one.word.data.toList) (aL t.aq two.word.data.toList):=rfl
def zN(t k one two)(h:k≠0/\k≠1/\k≠2/\k≠3/\k≠4):bE t k one two=bX one.aW two.aW:=by unfold bE;simp only[Uc h.1,Uc h.2.1,Uc h.2.2.1,Uc h.2.2.2.1,Uc h.2.2.2.2]
def zO{K:Nat->Prop}{v0 v1 v2:Value}{t:Table}{m1 m2:Array Value}{one two:Mark}(kd:Int)(w:World)(ht:IsTable K w v0 v1 v2 t)(u:OkT t)(h1:bW K w m1 one)(h2:bW K w m2 two)(o1:OkM one)(o2:OkM two):Calls (Qs fs) 70 #[.agg #[v0,v1,v2],.int .i64 kd,.agg m1,.agg m2] w λe w'=>e=.returned (.int .i64 (bE t kd one two))/\Below w.heap.size w w':=by
 have e54:=e54 L;have e65:=e65 L;have RX:=RX L;have RY:=RY L;have RZ:=RZ L;have OW:=OW L;have R2:=R2 L;obtain⟨f1,rfl,r1⟩:=h1;obtain⟨f2,rfl,r2⟩:=h2;obtain⟨N,f⟩:=ex (w.alloc (.cells #[v0,v1,v2] 26));obtain⟨wb,g⟩:=ex (N.alloc (.cells #[.string one.name,.string one.word,f1,.int .i64 one.day,.bool one.known] 38));obtain⟨w1,j⟩:=ex (wb.alloc (.cells #[.string two.name,.string two.word,f2,.int .i64 two.day,.bool two.known] 38));have Sa:ae N w1:=by rw[j,g];exact(ae.alloc _ _).trans (ae.alloc _ _)
 have Sb:ae wb w1:=by rw[j];exact ae.alloc _ _
 have S1:ae w w1:=(by rw[f];exact ae.alloc _ _:ae w N).trans Sa;have B1:Below w.heap.size w w1:=by rw[j,g,f];exact(((Below.refl _ w).alloc (Ue _) _).alloc (by simp) _).alloc (by simp;omega) _
 have z:N.heap.size=w.heap.size+1:=by rw[f];simp
 have hsb:wb.heap.size=w.heap.size+1+1:=by rw[g,<-z];simp
 have ct:∀i v,(#[v0,v1,v2]:Array Value)[i]? =some v->w1.cell? ⟨w.heap.size,i,none⟩=some v:=λi v h=>Sa.cell (by rw[f];exact az w _ 26 i v h);have c1:∀i v,(#[.string one.name,.string one.word,f1,.int .i64 one.day,.bool one.known]:Array Value)[i]? =some v->w1.cell? ⟨w.heap.size+1,i,none⟩=some v:=λi v h=>Sb.cell (by rw[g,<-z];exact az N _ 38 i v h);have c2:∀i v,(#[.string two.name,.string two.word,f2,.int .i64 two.day,.bool two.known]:Array Value)[i]? =some v->w1.cell? ⟨w.heap.size+1+1,i,none⟩=some v:=λi v h=>by rw[j,<-hsb];exact az wb _ 38 i v h
 have t0:=ct 0 _ rfl;have t1:=ct 1 _ rfl;have t2:=ct 2 _ rfl;have a1:=c1 1 _ rfl;have a2:=c1 2 _ rfl;have b1:=c2 1 _ rfl;have b2:=c2 2 _ rfl;have hT:=ht.stays S1;have O:=r1.ints S1;have P:=r2.ints S1;go_enter (n70 L),Tryz.ntmps70;go_upto_region 1 with fail;rw[<-f,<-g,<-j];obtain⟨N0,h0⟩:=ex (w.heap.size);obtain⟨N1,h1⟩:=ex (w.heap.size+1);obtain⟨N2,h2⟩:=ex (w.heap.size+1+1);rw[<-h2]at b1 b2⊢;rw[<-h1]at a1 a2⊢;rw[<-h0]at t0 t1 t2⊢;have BW:Hid (Below w.heap.size w w1):=B1;clear f g j Sa Sb S1 B1 z hsb ct c1 c2 ht r1 r2 h0 h1 h2;have HT:Hid _:=hT;have Q:=df u one.word.data.toList;have R:=df u two.word.data.toList;rw[<-Lib.size_eq,<-aR]at Q R;obtain⟨z1,z2,z3,z4⟩:=o1;obtain⟨y1,y2,y3,y4⟩:=o2;have cB:∀(s:ByteArray),s.size<=16->∀x:aj w w1,Calls (Qs fs) 54 #[.agg #[v0,v1,v2],.string s] x.val λe w'=>e=.returned (.string (bs (aL t.aq s.data.toList)))/\∃y:aj w w1,w'=y.val:=λs hs x=>aj.calls (Dm L s x.val (hT.stays x.st) u (by omega));have J:=cB one.word z1;have M:=cB two.word y1;have C:=λx:aj w w1=>x.cell t0;have D:=λx:aj w w1=>x.cell t1;have E:=λx:aj w w1=>x.cell t2;have F:=λx:aj w w1=>x.cell a1;have a6:=λx:aj w w1=>x.cell a2;have G:=λx:aj w w1=>x.cell b1;have a7:=λx:aj w w1=>x.cell b2;refine aY (w0:=w) (w1:=w1) (by kernel_rfl) (by kernel_rfl) (ae.refl _) BW.out ?_;haveI H:Nonempty (aj w w1):=⟨⟨w1,ae.refl _,BW.out⟩⟩
 repeat (go_big_quiet_step (first|(go_at_call 54;exact J _)|(go_at_call 54;exact M _)))
 refine wpQuiet_nil ?_;rintro l ⟨⟨_,p,Bx⟩,rfl⟩;have r:=hT.stays p;have S:=O.ints p;have T:=P.ints p;have U:=p.cell t0;have V:=p.cell t1;have W:=p.cell t2;have X:=p.cell a1;have ba:=p.cell a2;have Y:=p.cell b1;have bb:=p.cell b2;clear J M cB C D E F a6 G a7 hT O P t0 t1 t2 a1 a2 b1 b2 HT H;obtain⟨A,hA⟩:=ex (bs (aL t.aq one.word.data.toList));obtain⟨B,hB⟩:=ex (bs (aL t.aq two.word.data.toList));have Z:A.data.toList=aL t.aq one.word.data.toList:=by rw[hA,bu]
 have aa:B.data.toList=aL t.aq two.word.data.toList:=by rw[hB,bu]
 rw[<-hA]at Q⊢;rw[<-hB]at R⊢;have b:Hid _:=(⟨Z,aa⟩:A.data.toList=aL t.aq one.word.data.toList/\B.data.toList=aL t.aq two.word.data.toList)
 clear hA hB Z aa;have q:Hid _:=Bx;by_cases k0:kd=0
 ·subst k0;have c:=tF L A B l (by omega) (by omega);go_wp2_with (first|(go_at_call 115;refine c.mono ?_;clear c;rintro e w2 ⟨rfl,d⟩));go_ret;exact⟨by rw[zI,<-b.out.1,<-b.out.2];rfl,q.out.trans (d.mono q.out.size)⟩
 have j0:(kd==0)=false:=by rw[UE];exact k0
 by_cases k2:kd=2
 ·subst k2;have c:=O8 L A B l r u.QM;go_wp2_with (first|(go_at_call 116;refine c.mono ?_;clear c;rintro e w2 ⟨rfl,d⟩));go_ret;exact⟨by rw[zK,<-b.out.1,<-b.out.2];rfl,q.out.trans (d.mono q.out.size)⟩
 have j2:(kd==2)=false:=by rw[UE];exact k2
 by_cases k3:kd=3
 ·subst k3;have c:=Mb L B l (by omega);have c':=λwy=>tF L A (bs B.data.toList.reverse) wy (by omega) (by rw[aR,Wn,<-Lib.size_eq];omega);go_wp2_with (first|(go_at_call 117;refine c.mono ?_;clear c;rintro e w2 ⟨rfl,rfl⟩)|(go_at_call 115;refine(c' _).mono ?_;clear c';rintro e w2 ⟨rfl,d⟩));go_ret;exact⟨by rw[zL,<-b.out.1,<-b.out.2,bu];rfl,q.out.trans (d.mono q.out.size)⟩
 have j3:(kd==3)=false:=by rw[UE];exact k3
 by_cases k4:kd=4
 ·subst k4;have c:=SK L A B l (by omega) (by omega);go_wp2_with (first|(go_at_call 118;refine c.mono ?_;clear c;rintro e w2 ⟨rfl,rfl⟩));go_ret;exact⟨by rw[zM,<-b.out.1,<-b.out.2];rfl,q.out⟩
 have j4:(kd==4)=false:=by rw[UE];exact k4
 by_cases k1:kd=1
 ·subst k1;have HR:Hid ((l.cell? ⟨N0,0,none⟩=some v0/\l.cell? ⟨N0,2,none⟩=some v2)/\l.cell? ⟨N1,1,none⟩=some (.string one.word)/\l.cell? ⟨N2,1,none⟩=some (.string two.word)):=⟨⟨U,W⟩,X,Y⟩
  clear X Y;have n1:∀k,k<t.au.length->∀s,(bl t k s).length<=3*s.length:=λk hk s=>lR u hk s;have ln:t.au.length<=3:=u.wM;obtain⟨ao,c,rfl,bk,hc,a8,m⟩:=r.2.1;have HC:Hid _:=m;clear m a8;have HT:Hid _:=r;clear r S T W U;go_wp2;go_loopw [11,12] (λo i wr=>∃k:Nat,k<=t.au.length/\i=.int .i64 k/\o=.int .i64 (eV t one.word.data.toList two.word.data.toList k)/\ae l wr/\Below w.heap.size w wr) (λo i _=>t.au.length-(intOf i).toNat);case atStart=>exact⟨0,Ul _,rfl,rfl,ae.refl _,q.out⟩
  case round=>
   (obtain⟨k,hk,rfl,rfl,a,n⟩:=hrel;have ab:=a.cell V;have HW:Hid _:=(⟨a,n⟩:ae l wr/\Below w.heap.size w wr));obtain I|hge:=Uh k t.au.length
   ·have ad:=IsTable.stays a HT.out;have af:=a.cell HR.out.1.1;have ag:=a.cell HR.out.1.2;have ak:=a.cell HR.out.2.1;have an:=a.cell HR.out.2.2;clear a n V;have x1:=n1 k I one.word.data.toList;have x2:=n1 k I two.word.data.toList;rw[<-Lib.size_eq,<-aR]at x1 x2;have cS:∀(s:ByteArray),s.size<=16->∀x:aj w wr,Calls (Qs fs) 65 #[.agg #[v0,.slice ao t.au.length c,v2],.int .i64 k,.string s] x.val λe w'=>e=.returned (.string (bs (bl t k s.data.toList)))/\∃y:aj w wr,w'=y.val:=λs hs x=>aj.calls (JQ L k s x.val (ad.stays x.st) u (by omega) I);(have J:=cS one.word z1;have M:=cS two.word y1;have q3:∀x:aj w wr,Calls (Qs fs) 115 #[.string (bs (bl t k one.word.data.toList)),.string (bs (bl t k two.word.data.toList))] x.val λe w'=>e=.returned (.int .i64 (bH (bl t k one.word.data.toList) (bl t k two.word.data.toList)))/\∃y:aj w wr,w'=y.val:=λx=>by have h:=aj.calls (x:=x) (tF L (bs (bl t k one.word.data.toList)) (bs (bl t k two.word.data.toList)) x.val (by omega) (by omega));rw[bu,bu]at h;exact h);(obtain⟨sA,ar⟩:=ex (bs (bl t k one.word.data.toList));obtain⟨sB,ax⟩:=ex (bs (bl t k two.word.data.toList));obtain⟨lv,ay⟩:=ex (bH (bl t k one.word.data.toList) (bl t k two.word.data.toList));have aM:Hid _:=kH t one.word.data.toList two.word.data.toList k;rw[<-ar]at J q3;rw[<-ax]at M q3;rw[<-ay]at q3 aM;have C:=λx:aj w wr=>x.cell af;have D:=λx:aj w wr=>x.cell ab;have E:=λx:aj w wr=>x.cell ag;have F:=λx:aj w wr=>x.cell ak;have G:=λx:aj w wr=>x.cell an;clear cS ar ax ay x1 x2 n1 ad;go_wp2;clear af ab ag ak an;refine aY (w0:=w) (w1:=wr) (by kernel_rfl) (by kernel_rfl) (ae.refl _) HW.out.2 ?_;haveI H:Nonempty (aj w wr):=⟨⟨wr,ae.refl _,HW.out.2⟩⟩);(repeat (go_big_quiet_step (first|(go_at_call 65;exact J _)|(go_at_call 65;exact M _)|(go_at_call 115;exact q3 _))));(refine wpQuiet_nil ?_;rintro wz ⟨⟨_,Sz,Bz⟩,rfl⟩;have SB:Hid _:=(⟨Sz,Bz⟩:ae wr wz/\Below w.heap.size w wz));clear J M q3 C D E F G H Sz Bz;go_wp2;refine⟨⟨k+1,by omega,by go_num,by rw[aM.out];go_num,HW.out.1.trans SB.out.1,SB.out.2⟩,by simp[intOf];omega⟩
   clear a n;(go_wp2;obtain rfl:k=t.au.length:=by omega);go_ret;exact⟨by rw[zJ];rfl,HW.out.2⟩
 have j1:(kd==1)=false:=by rw[UE];exact k1
 have c:=JS L l S T (by omega) (by omega) z3 y3;go_wp2_with (first|(go_at_call 119;refine c.mono ?_;clear c;rintro e w2 ⟨rfl,d⟩));go_ret;exact⟨by rw[zN _ _ _ _ ⟨k0,k1,k2,k3,k4⟩];rfl,q.out.trans (d.mono q.out.size)⟩
structure OkC(c:Case):Prop where
 table:OkT c.table
 new:OkM c.new
 marks:∀m∈c.marks,OkM m
 tG:c.marks.length<=8
 Gr:c.rules.length<=6
 QO:c.kin.length=c.marks.length
 rules:∀r∈c.rules,0<=r.kind/\r.kind<=5/\1<=r.least/\r.least<=100/\0<=r.plain/\r.plain<=9/\0<=r.known/\r.known<=9
 kin:∀n∈c.kin,0<=n/\n<=9
def Dt(x:Dj):Value:=.agg #[.int .i64 x.days,.int .i64 x.level,.int .i64 x.kin]
def Ja{w w1}(a:Below w.heap.size w w1)(x y)(p q:Nat):(∀i v,x[i]? =some v->(((w1.alloc (.cells x p)).alloc (.cells y q)).drew).cell? ⟨w1.heap.size,i,none⟩=some v)/\(∀i v,y[i]? =some v->(((w1.alloc (.cells x p)).alloc (.cells y q)).drew).cell? ⟨w1.heap.size+1,i,none⟩=some v)/\ae w1 (((w1.alloc (.cells x p)).alloc (.cells y q)).drew)/\Below w.heap.size w (((w1.alloc (.cells x p)).alloc (.cells y q)).drew):=by (have b:(w1.alloc (.cells x p)).heap.size=w1.heap.size+1:=by simp);refine⟨λi v h=>(ae.alloc _ (.cells y q)).cell (az w1 x p i v h),λi v h=>?_,(ae.alloc w1 (.cells x p)).trans (ae.alloc _ (.cells y q)),((a.alloc a.size _).alloc (by have:=a.size;omega) _).drew⟩;have:=az (w1.alloc (.cells x p)) y q i v h;rw[b]at this;exact this
def cell_of_heap{w:World}{b c e f}(h:w.heap[b]? =some (.cells c e f))(i v)(a:c[i]? =some v):w.cell? ⟨b,i,none⟩=some v:=by unfold World.cell?;simp only[h];exact a
def frozen_of_heap{w:World}{b c e}(h:w.heap[b]? =some (.cells c e))(i):w.frozen? ⟨b,i,none⟩=false:=by unfold World.frozen?;simp only[h];simp
def qM{a n M:Int}(b:0<n)(c:0<=a)(d:a<=M*n):0<=a/n/\a/n<=M:=⟨Xr c (by omega),by have:=Int.ediv_le_ediv b d;rwa[Int.mul_ediv_cancel _ (by omega)]at this⟩
def fI(a b):0<=bH a b/\bH a b<=100:=by unfold bH;split;exact⟨by decide,by decide⟩;rename_i h;(have c:=wP _ a b (Ue _);have d:0<max a.length b.length:=by cases a with|nil=>simp at h|cons x a=>simp only[Ug];omega);refine qM (by omega) (by omega) (by omega)
theorem iy(t a b):∀k,0<=eV t a b k/\eV t a b k<=100
 |0=>⟨W5 _,(by decide:(0:Int)<=100)⟩
 |k+1=>by have c:=iy t a b k;have d:=fI (bl t k a) (bl t k b);rw[kH];omega
def Gs(a b):0<=pI a b/\pI a b<=100:=by (unfold pI;have key:∀x y:Bs,0<=(if x.length<3|| !x.isPrefixOf y&& !x.isSuffixOf y then 0 else(100*x.length:Int)/(y.length:Int))/\(if x.length<3|| !x.isPrefixOf y&& !x.isSuffixOf y then 0 else(100*x.length:Int)/(y.length:Int))<=100:=by intro x y;split;exact⟨by decide,by decide⟩;rename_i h;(simp only[VB,Uu,Un,Bool.not_eq_true',not_or,not_and,Xs]at h;obtain⟨e,d⟩:=h;have f:x.length<=y.length:=by by_cases c:x.isPrefixOf y=true;exact(Va.1 c).length_le;exact(List.isSuffixOf_iff_suffix.1 (d (WW.2 c))).length_le);exact qM (by omega) (by omega) (by omega));exact key _ _
def JU{l:List Nat}{M}(h:∀x∈l,x<=M):l.sum<=M*l.length:=by induction l with|nil=>simp|cons x l a=>have c:=h x (Xt ..);have d:=a λy b=>h y (W6 _ b);simp only[List.sum_cons,Ug,Nat.mul_add];omega
def wQ(a b)(c:a.length<=5)(f:b.length<=5):0<=bX a b/\bX a b<=100000:=by unfold bX;split;exact⟨by decide,by decide⟩;rename_i h;(have g:0<a.length:=by cases a with|nil=>simp at h|cons x a=>simp);(have d:((List.range 10).map λ(n:Nat)=>min (aO (bD a b) n) (aO (bD b a) n)).sum<=5*10:=by have:=JU (l:=(List.range 10).map λ(n:Nat)=>min (aO (bD a b) n) (aO (bD b a) n)) (M:=5) (by (intro x e;obtain⟨n,_,rfl⟩:=VA.1 e;have i:aO (bD a b) n<=5:=by unfold aO bD;exact Uf (Vj _ _) (Uf (Vj _ _) c));omega);simpa using this);simp only[];generalize ((List.range 10).map λ(n:Nat)=>min (aO (bD a b) n) (aO (bD b a) n)).sum=z at d;exact qM (by omega) (by omega) (by omega)
def Bj(t a b):0<=gL t a b/\gL t a b<=100:=by unfold gL;split<;>exact⟨by decide,by decide⟩
def lS(t k one two)(d:one.aW.length<=5)(e:two.aW.length<=5):0<=bE t k one two/\bE t k one two<=100000:=by by_cases k0:k=0;subst k0;rw[zI];have:=fI (aL t.aq one.word.data.toList) (aL t.aq two.word.data.toList);omega;by_cases k1:k=1;subst k1;rw[zJ];have:=iy t one.word.data.toList two.word.data.toList t.au.length;omega;by_cases a:k=2;subst a;rw[zK];have:=Bj t (aL t.aq one.word.data.toList) (aL t.aq two.word.data.toList);omega;by_cases b:k=3;subst b;rw[zL];have:=fI (aL t.aq one.word.data.toList) (aL t.aq two.word.data.toList).reverse;omega;by_cases c:k=4;subst c;rw[zM];have:=Gs (aL t.aq one.word.data.toList) (aL t.aq two.word.data.toList);omega;rw[zN t k one two ⟨k0,k1,a,b,c⟩];exact wQ _ _ d e
def wrap_i64(n)(h: -9223372036854775808<=n/\n<=9223372036854775807):IntKind.i64.wrap n=n:=by simp only[IntKind.wrap,IntKind.signed,IntKind.bits,WC];split;rename_i a;have:=UF a;omega;rename_i a;have:¬(n%2 ^ 64>=2 ^ (64-1)):=λh=>a (Um h);omega
def jW(m:Mark)(r:vu):Int:=if m.known then min r.plain r.known else r.plain
def Du(c m kin r):mA c m kin r=⟨max 0 (m.day+1-c.new.day),max 0 (r.least-bE c.table r.kind c.new m),max 0 (jW m r-kin)⟩:=rfl
def Pa{K:Nat->Prop}{sc:Array Value}{c:Case}(i k:Nat)(w:World)(hc:bP K w sc c)(E:OkC c)(hi:i<c.marks.length)(hk:k<c.rules.length)(P:i<c.kin.length):Calls (Qs fs) 85 #[.agg sc,.int .i64 i,.int .i64 k] w λe w'=>e=.returned (Dt (mA c c.marks[i] c.kin[i] c.rules[k]))/\Below w.heap.size w w':=by
 have e70:=e70 L;obtain⟨v0,v1,v2,vr,Q,vm,vk,rfl,ht,hr,hf,hm,R⟩:=hc;obtain⟨wa,g⟩:=ex (w.alloc (.cells #[v0,v1,v2,vr,.string c.new.name,.string c.new.word,Q,.int .i64 c.new.day,.bool c.new.known,vm,vk] 60));obtain⟨w1,j⟩:=ex (wa.alloc (.cells #[.int .i64 0,.int .i64 0,.int .i64 0] 86));have Sa:ae wa w1:=by rw[j];exact ae.alloc _ _
 have t:ae w w1:=(by rw[g];exact ae.alloc _ _:ae w wa).trans Sa;have B1:Below w.heap.size w w1:=by rw[j,g];exact((Below.refl _ w).alloc (Ue _) _).alloc (by simp) _
 have u:wa.heap.size=w.heap.size+1:=by rw[g];simp
 have S:w1.heap.size=w.heap.size+1+1:=by rw[j,<-u];simp
 have ct:∀i v,(#[v0,v1,v2,vr,.string c.new.name,.string c.new.word,Q,.int .i64 c.new.day,.bool c.new.known,vm,vk]:Array Value)[i]? =some v->w1.cell? ⟨w.heap.size,i,none⟩=some v:=λi v h=>Sa.cell (by rw[g];exact az w _ 60 i v h);obtain⟨N,T⟩:=ex (w.heap.size);obtain⟨N1,z⟩:=ex (w.heap.size+1);have n:w1.heap[N1]? =some (.cells #[.int .i64 0,.int .i64 0,.int .i64 0] 86):=by rw[j,z,<-u];exact UT
 have an:=hm.stays t λb b' o x e h=>by subst e;exact pO.carry (Carry.keep t) b b o x rfl h
 have ao:=hr.stays t λb b' o x e h=>by subst e;exact pP.carry (Carry.keep t) b b o x rfl h
 have ar:=R.ints t;have F:=ht.stays t;obtain⟨bs,cm,rfl,lm,bx,_,gm⟩:=an;obtain⟨bA,cr,rfl,lr,bB,_,gr⟩:=ao;obtain⟨bC,ck,rfl,lk,b4,_,gk⟩:=ar;obtain⟨I,J,rfl,x0,x1,⟨fm,x2,U⟩,x3,x4⟩:=gm i hi;obtain⟨V,W,rfl,y0,y1,y2,y3⟩:=gr k hk;obtain⟨bk,ax,rfl,z0⟩:=gk i P;clear gm gr gk ht hr hm R;have C:=E.marks _ (Up hi);obtain⟨r1,r2,r3,r4,r5,r6,r7,r8⟩:=E.rules _ (Up hk);obtain⟨k1,k2⟩:=E.kin _ (Up P);obtain⟨m,X⟩:=ex (c.marks[i]);obtain⟨r,Y⟩:=ex (c.rules[k]);obtain⟨q,Z⟩:=ex (c.kin[i]);rw[<-X]at x0 x1 U x3 x4 C⊢;rw[<-Y]at y0 y1 y2 y3 r1 r2 r3 r4 r5 r6 r7 r8⊢;rw[<-Z]at z0 k1 k2⊢;clear X Y Z;obtain⟨a,D,rfl,lf,ay,kf,gf⟩:=U;have U:aE K 1 dG w1 (.slice a m.aW.length D) m.aW:=⟨a,D,rfl,lf,ay,kf,gf⟩
 have aM:Hid _:=U;clear U gf kf;have t9:=ct 9 _ rfl;have t3:=ct 3 _ rfl;rw[<-T]at t9 t3;go_enter (n85 L),Tryz.ntmps85;go_upto_region 1 with fail;rw[<-g,<-j,<-z,<-T];go_cut [7,8]from 10 (λs7 s8 M=>∃A B,s7=.pointer (some ⟨A,0,none⟩)/\s8=.pointer (some ⟨B,0,none⟩)/\(∀i v,(#[.string m.name,.string m.word,.slice a m.aW.length D,.int .i64 m.day,.bool m.known]:Array Value)[i]? =some v->M.cell? ⟨A,i,none⟩=some v)/\(∀i v,(#[.int .i64 r.kind,.int .i64 r.least,.int .i64 r.plain,.int .i64 r.known]:Array Value)[i]? =some v->M.cell? ⟨B,i,none⟩=some v)/\ae w1 M/\Below w.heap.size w M)
 case first=>
  have HB:Hid _:=B1;clear g j T z ct S u n F Sa t B1;have n9:=World.new_ne w1 _ t9;have n3:=World.new_ne w1 _ t3;have m0:=World.new_ne w1 _ x0;have m1:=World.new_ne w1 _ x1;have m2:=World.new_ne w1 _ x2;have m3:=World.new_ne w1 _ x3;have m4:=World.new_ne w1 _ x4;have q0:=World.new_ne w1 _ y0;have q1:=World.new_ne w1 _ y1;have q2:=World.new_ne w1 _ y2;have q3:=World.new_ne w1 _ y3
  go_region_held3 (λw'=>w'.cell? ⟨N,9,none⟩=some (.slice (some ⟨I,J,none⟩) c.marks.length cm)/\w'.cell? ⟨N,3,none⟩=some (.slice (some ⟨V,W,none⟩) c.rules.length cr)/\
   w'.cell? ⟨I,J+i*5,none⟩=some (.string m.name)/\w'.cell? ⟨I,J+i*5+1,none⟩=some (.string m.word)/\w'.cell? ⟨I,J+i*5+2,none⟩=some (.slice a m.aW.length D)/\w'.cell? ⟨I,J+i*5+3,none⟩=some (.int .i64 m.day)/\w'.cell? ⟨I,J+i*5+4,none⟩=some (.bool m.known)/\
   w'.cell? ⟨V,W+k*4,none⟩=some (.int .i64 r.kind)/\w'.cell? ⟨V,W+k*4+1,none⟩=some (.int .i64 r.least)/\w'.cell? ⟨V,W+k*4+2,none⟩=some (.int .i64 r.plain)/\w'.cell? ⟨V,W+k*4+3,none⟩=some (.int .i64 r.known)) (go_keep) (fail)
  all_goals (go_wp2_with fail;go_meet)
  obtain⟨h1,h2,h3,h4⟩:=Ja HB.out #[.string m.name,.string m.word,.slice a m.aW.length D,.int .i64 m.day,.bool m.known] #[.int .i64 r.kind,.int .i64 r.least,.int .i64 r.plain,.int .i64 r.known] 38 69;exact⟨_,_,rfl,rfl,h1,h2,h3,h4⟩;obtain⟨h1,h2,h3,h4⟩:=Ja HB.out #[.int .i64 r.kind,.int .i64 r.least,.int .i64 r.plain,.int .i64 r.known] #[.string m.name,.string m.word,.slice a m.aW.length D,.int .i64 m.day,.bool m.known] 69 38;exact⟨_,_,rfl,rfl,h2,h1,h3,h4⟩
 case rest=>
  obtain⟨A,B,rfl,rfl,O,hb,f,Bx⟩:=hcut;have G:Hid (jW m r=if m.known then min r.plain r.known else r.plain):=rfl;have HS:Hid _:=(⟨f,Bx⟩:ae w1 wc/\Below w.heap.size w wc)
  have a3:=O 3 _ rfl;have a4:=O 4 _ rfl;have b0:=hb 0 _ rfl;have b1:=hb 1 _ rfl;have b2:=hb 2 _ rfl;have b3:=hb 3 _ rfl;have a1:=t;have s:w.heap.size<=N1:=by omega
  have t0:=ct 0 _ rfl;have t1:=ct 1 _ rfl;have t2:=ct 2 _ rfl;have t4:=ct 4 _ rfl;have t5:=ct 5 _ rfl;have t6:=ct 6 _ rfl;have t7:=ct 7 _ rfl;have t8:=ct 8 _ rfl;have H:=ct 10 _ rfl;rw[<-T]at t0 t1 t2 t4 t5 t6 t7 t8 H;clear g j T z S u Sa t B1 ct;go_upto_if 23 with fail;go_cut [9]from 10 (λs9 M=>s9=.int .i64 (jW m r)/\M=wc)
  case first=>(go_wp2_with fail);(all_goals (go_meet;refine⟨?_,rfl⟩;rw[G.out]));all_goals first|(rw[Ud (by assumption)];congr 1;omega)|(rw[Uc (by simp[*])])
  case rest=>
   (obtain⟨rfl,rfl⟩:=hcut;have lb:=lS c.table r.kind c.new m E.new.fig C.fig;have nb: -1000<=jW m r/\jW m r<=1000:=by unfold jW;split<;>omega);(have aa:=F.stays f;have ab:aE K 1 dG wc Q c.new.aW:=(hf.ints a1).ints f;have ad:aE K 1 dG wc (.slice a m.aW.length D) m.aW:=aE.ints f aM.out;have cL:=λwy (hs:ae wc wy)=>zO L (m1:=#[.string c.new.name,.string c.new.word,Q,.int .i64 c.new.day,.bool c.new.known]) (m2:=#[.string m.name,.string m.word,.slice a m.aW.length D,.int .i64 m.day,.bool m.known]) (one:=c.new) (two:=m) r.kind wy (aa.stays hs) E.table ⟨Q,rfl,ab.ints hs⟩ ⟨_,rfl,ad.ints hs⟩ E.new C;obtain⟨lv,af⟩:=ex (bE c.table r.kind c.new m);obtain⟨nd,ag⟩:=ex (jW m r);have HV:Hid _:=Du c m q r;rw[<-af]at lb cL HV;rw[<-ag]at nb HV⊢;clear af ag;have d:=f _ _ _ _ n;have n0:=cell_of_heap d 0 _ rfl;have n1:=cell_of_heap d 1 _ rfl;have n2:=cell_of_heap d 2 _ rfl;have g0:=frozen_of_heap d 0;have g1:=frozen_of_heap d 1;have g2:=frozen_of_heap d 2;have ak:wc.cell? ⟨bk,ax+i,none⟩=some (.int .i64 q):=by have:=f.cell z0;rwa[Vd]at this);(have b5:∀x y:Int,(if x<y then y else x)=max x y:=λx y=>by split<;>omega);(have b6:=C.day;have b7:=E.new.day;have b8:IntKind.i64.wrap (m.day+1)=m.day+1:=wrap_i64 _ (by omega);have ca:IntKind.i64.wrap (m.day+1-c.new.day)=m.day+1-c.new.day:=wrap_i64 _ (by omega);have cb:IntKind.i64.wrap (r.least-lv)=r.least-lv:=wrap_i64 _ (by omega);have cc:IntKind.i64.wrap (nd-q)=nd-q:=wrap_i64 _ (by omega);have bq:(0:Int)<=(i:Int)/\(i:Int)<(c.kin.length:Int):=⟨by omega,by omega⟩);(have qL:∀x:aj w wc,Calls (Qs fs) 70 _ x.val λe w'=>e=.returned (.int .i64 lv)/\∃y:aj w wc,w'=y.val:=λx=>aj.calls (cL x.val x.st);have l0:=λx:aj w wc=>x.cell (a3);have l1:=λx:aj w wc=>x.cell (f.cell t7);have l2:=λx:aj w wc=>x.cell (b1);have l3:=λx:aj w wc=>x.cell (f.cell t0);have l4:=λx:aj w wc=>x.cell (f.cell t1);have l5:=λx:aj w wc=>x.cell (f.cell t2);have l6:=λx:aj w wc=>x.cell (b0);have l7:=λx:aj w wc=>x.cell (f.cell t4);have l8:=λx:aj w wc=>x.cell (f.cell t5);have l9:=λx:aj w wc=>x.cell (f.cell t6);have a6:=λx:aj w wc=>x.cell (f.cell t8);have a7:=λx:aj w wc=>x.cell (O 0 _ rfl);have a8:=λx:aj w wc=>x.cell (O 1 _ rfl);have ba:=λx:aj w wc=>x.cell (O 2 _ rfl);have bb:=λx:aj w wc=>x.cell (a4);have bo:=λx:aj w wc=>x.cell (f.cell H);have bp:=λx:aj w wc=>x.cell (ak);clear a3 a4 b0 b1 b2 b3 t0 t1 t2 t4 t5 t6 t7 t8 H z0 ak x0 x1 x2 x3 x4 y0 y1 y2 y3 t9 t3 O hb n0 n1 n2 g0 g1 g2 n ab ad aa F f Bx cL;go_upto_region 5 with fail;refine aV (w0:=w) (w1:=wc) 29 (by kernel_rfl) (by kernel_rfl) (ae.refl _) HS.out.2 ?_;simp only[UO,UL,UU,UM];haveI cd:Nonempty (aj w wc):=⟨⟨wc,ae.refl _,HS.out.2⟩⟩);repeat (go_big_quiet_step (first|(go_at_call 70;exact qL _)))
   refine wpQuiet_nil ?_;rintro wz ⟨⟨_,Sz,Bz⟩,rfl⟩;have l:=Sz _ _ _ _ d;have n0:=cell_of_heap l 0 _ rfl;have n1:=cell_of_heap l 1 _ rfl;have n2:=cell_of_heap l 2 _ rfl;have g0:=frozen_of_heap l 0;have g1:=frozen_of_heap l 1;have g2:=frozen_of_heap l 2;have BZ:Hid _:=Bz;clear qL Sz Bz d l l0 l1 l2 l3 l4 l5 l6 l7 l8 l9 a6 a7 a8 ba bb bo bp;go_wp2;all_goals
    refine bodyPost_ret (v:=.agg #[.int .i64 (max 0 (m.day+1-c.new.day)),.int .i64 (max 0 (r.least-lv)),.int .i64 (max 0 (nd-q))]) ?_ rfl ⟨by rw[HV.out];rfl,((BZ.out.setCell (p:=⟨N1,0,none⟩) s _).setCell (p:=⟨N1,1,none⟩) s _).setCell (p:=⟨N1,2,none⟩) s _⟩;simp[results,Tryz.results85,go_sem, *];try omega
def jv:Array Value:=Array.replicate 2401 (.int .i64 0)
def SN:Tryz.zeroCells184=jv:=by kernel_rfl
def yU(i)(h:i<jv.size):jv[i]? =some (.int .i64 0):=by unfold jv at h⊢;rw[Array.size_replicate]at h;rw[Xu,Ud h]
def yV:jv.size=2401:=by unfold jv;rw[Array.size_replicate]
def zP(a b:Bs)(q p:Nat)(i:Nat):Value:=if(q<i/49\/(i/49=q/\p<=i%49))/\i/49<=a.length/\i%49<=b.length then .int .i64 (aK (a.drop (i/49)) (b.drop (i%49)))else .int .i64 0
structure jw(w wr:World)(a b:Bs)(q p:Nat):Prop where
 row:wr.rowIs w.heap.size 184 2401 (zP a b q p)
 below:Below w.heap.size w wr
def Mg(q p)(a:p<49):(q*49+p)/49=q/\(q*49+p)%49=p:=by omega
def jw.cell{w wr a b q p r k}(h:jw w wr a b q p)(i:a.length<=48)(j:b.length<=48)(c:r<=a.length)(d:k<=b.length)(e:q<r\/(r=q/\p<=k)):wr.cell? ⟨w.heap.size,r*49+k,none⟩=some (.int .i64 (aK (a.drop r) (b.drop k))):=by obtain⟨f,g⟩:=Mg r k (by omega);rw[h.row.cell (by omega)];unfold zP;rw[f,g,Ud ⟨e,c,d⟩]
def jw.cell0{w wr a b q p}(h:jw w wr a b q (p+1))(e:a.length<=48)(f:b.length<=48)(g:q<=a.length)(i:p<=b.length):wr.cell? ⟨w.heap.size,q*49+p,none⟩=some (.int .i64 0):=by obtain⟨c,d⟩:=Mg q p (by omega);rw[h.row.cell (by omega)];unfold zP;rw[c,d,Uc (by omega)]
def jw.step{w wr:World}{a b:Bs}{q p:Nat}(h:jw w wr a b q (p+1))(k:a.length<=48)(l:b.length<=48)(d:q<=a.length)(f:p<=b.length):jw w (wr.setCell ⟨w.heap.size,q*49+p,none⟩ (.int .i64 (aK (a.drop q) (b.drop p)))) a b q p where
 row:=(h.row.set (q*49+p) _).congr λi hi=>by
  obtain⟨g,j⟩:=Mg q p (by omega);unfold zP;by_cases e:i=q*49+p
  ·subst e
   rw[Ud rfl,g,j,Ud ⟨.inr ⟨rfl,Ue _⟩,d,f⟩]
  ·rw[Uc e]
   by_cases c:(q<i/49\/(i/49=q/\p+1<=i%49))/\i/49<=a.length/\i%49<=b.length
   ·rw[Ud c,Ud ⟨by omega,c.2⟩]
   ·rw[Uc c,Uc (by omega)]
 below:=h.below.setCell (Ue _) _
def jw.drewN{w wr a b q p}(h:jw w wr a b q p)(n):jw w (wr.drewN n) a b q p:=⟨h.row,Go.below_drewN h.below n⟩
def jw.next{w wr a b q}(h:jw w wr a b (q+1) 0)(d:b.length<=48):jw w wr a b q (b.length+1):=
 ⟨h.row.congr λi hi=>by
  unfold zP;by_cases c:(q+1<i/49\/(i/49=q+1/\0<=i%49))/\i/49<=a.length/\i%49<=b.length
  ·rw[Ud c,Ud ⟨by omega,c.2⟩]
  ·rw[Uc c,Uc (by omega)],h.below⟩
def jw.first(w a b):jw w (w.alloc (.cells jv 184)) a b (a.length+1) 0:=⟨by have h:=World.rowIs_alloc w jv 184 (λ_=>.int .i64 0) λi hi=>yU i hi;rw[yV]at h;refine h.congr λi hi=>?_;unfold zP;rw[Uc (by omega)],aF w _⟩
def Jb(a b:ByteArray)(w:World)(ha:a.size<=48)(hb:b.size<=48):Calls (Qs fs) 73 #[.string a,.string b] w λe w'=>e=.returned (.pointer (some ⟨w.heap.size,0,none⟩))/\jw w w' a.data.toList b.data.toList 0 0:=by
 have P:=Lib.size_eq a;have Q:=Lib.size_eq b;obtain⟨A,u⟩:=ex (a.data.toList);obtain⟨B,x⟩:=ex (b.data.toList);rw[<-u]at P;rw[<-x]at Q;rw[<-u,<-x];have d:Hid (a.size=A.length/\b.size=B.length):=⟨P,Q⟩
 have HG:Hid ((∀q (h:q<a.size),A.drop q=a[q]::A.drop (q+1))/\(∀q (h:q<b.size),B.drop q=b[q]::B.drop (q+1))):=⟨λq h=>by rw[u];exact drop_cons a q h,λq h=>by rw[x];exact drop_cons b q h⟩
 have J:=jw.first w A B;rw[<-SN]at J;obtain⟨w1,z⟩:=ex (w.alloc (.cells Tryz.zeroCells184 184));rw[<-z]at J;obtain⟨N,K⟩:=ex (w.heap.size);have HN:Hid _:=K;have R:Hid _:=J;rw[<-K];clear P Q u x J;go_enter (n73 L),Tryz.ntmps73;go_upto_region 2 with fail;rw[<-z,<-K];clear z K;go_wp2;go_loopw [6] (λi wr=>∃(p:Nat) (j:Int),p<=a.size+1/\j=(p:Int)-1/\i=.int .i64 j/\jw w wr A B p 0) (λi _=>(intOf i+1).toNat);case atStart=>refine⟨a.size+1,_,Ue _,rfl,by go_num,?_⟩;rw[d.out.1];exact R.out
 case round=>
  obtain⟨p,D,hp,n,rfl,M⟩:=hrel;obtain rfl|hpos:=U4 p
  ·(obtain rfl:D= -1:=by omega);clear n;have HR:Hid _:=M;clear M;go_wp2;go_ret;exact⟨rfl,HR.out⟩
  obtain⟨q,rfl⟩:∃q,p=q+1:=⟨p-1,by omega⟩
  obtain rfl:D=(q:Int):=by omega
  clear n;have O:Hid _:=M.next (by have:=d.out.2;omega);clear M;go_wp2;go_loopw [7] (λi wi=>∃(C:Nat) (j:Int),C<=b.size+1/\j=(C:Int)-1/\i=.int .i64 j/\jw w wi A B q C) (λi _=>(intOf i+1).toNat);case atStart=>exact⟨b.size+1,_,Ue _,rfl,by go_num,by rw[d.out.2];exact O.out⟩
  case round=>
   clear O;obtain⟨C,D,ag,n,rfl,o⟩:=hrel;obtain rfl|hpos2:=U4 C
   ·(obtain rfl:D= -1:=by omega);clear n;have O:Hid _:=o;clear o;go_wp2;refine⟨⟨q,_,by omega,rfl,by go_num,O.out⟩,by simp[intOf]⟩
   (obtain⟨c,rfl⟩:∃c,C=c+1:=⟨C-1,by omega⟩);(obtain rfl:D=(c:Int):=by omega);(clear n;have s:q<=A.length:=by have:=d.out.1;omega);(have t:c<=B.length:=by have:=d.out.2;omega);(have f:A.length<=48:=by have:=d.out.1;omega);(have g:B.length<=48:=by have:=d.out.2;omega);(have E:=o.cell0 f g s t;have S:wr.frozen? ⟨w.heap.size,q*49+c,none⟩=false:=o.row.frozen _;have l:=o.step f g s t;rw[<-HN.out]at E S l;have HS:Hid _:=l;clear l;have ab:(q:Int)<49:=by omega);(have ad:(c:Int)<49:=by omega);obtain hqa|hqa:=Uh q a.size
   ·obtain hcb|hcb:=Uh c b.size
    ·have e11:=o.cell f g (r:=q+1) (k:=c+1) (by have:=d.out;omega) (by have:=d.out;omega) (by omega);(have e10:=o.cell f g (r:=q+1) (k:=c) (by have:=d.out;omega) (by have:=d.out;omega) (by omega);have F:=o.cell f g (r:=q) (k:=c+1) (by have:=d.out;omega) (by have:=d.out;omega) (by omega);have y:aK (A.drop q) (B.drop c)=if a[q]=b[c]then aK (A.drop (q+1)) (B.drop (c+1))else 1+min (aK (A.drop (q+1)) (B.drop (c+1))) (min (aK (A.drop (q+1)) (B.drop c)) (aK (A.drop q) (B.drop (c+1)))):=by have g1:=HG.out.1 q hqa;have g2:=HG.out.2 c hcb;rw[g1,g2,mC]);(have T:aK (A.drop (q+1)) (B.drop (c+1))<=2000:=Uf (nf _ _) (by rw[Uq,Uq];have:=d.out;omega);have U:aK (A.drop (q+1)) (B.drop c)<=2000:=Uf (nf _ _) (by rw[Uq,Uq];have:=d.out;omega);have V:aK (A.drop q) (B.drop (c+1))<=2000:=Uf (nf _ _) (by rw[Uq,Uq];have:=d.out;omega);rw[y]at HS;obtain⟨ak,G⟩:=ex (aK (A.drop (q+1)) (B.drop (c+1)));obtain⟨an,H⟩:=ex (aK (A.drop (q+1)) (B.drop c));obtain⟨ao,I⟩:=ex (aK (A.drop q) (B.drop (c+1)));rw[<-G]at e11 T HS;rw[<-H]at e10 U HS;rw[<-I]at F V HS;rw[<-HN.out]at e11 e10 F;have ar:((q:Int)==a.size)=false:=by rw[UE];omega);(have ax:((c:Int)==b.size)=false:=by rw[UE];omega);(have af:¬(q:Int)=a.size:=by omega);(have W:(q:Int)+1<49:=by omega);(have X:(c:Int)+1<49:=by omega);clear o y s t G H I;by_cases m:a[q]=b[c]
     ·rw[Ud m]at HS;(have Y:((a[q].toNat:Int)==(b[c].toNat:Int))=true:=by rw[m];simp);clear m;go_wp2;go_quiet (fail);go_wp2
      (go_region);go_wp2;exact⟨⟨c,_,by omega,rfl,by go_num,HS.out.drewN (nq+1)⟩,by simp[intOf]⟩
     rw[Uc m]at HS;(have Y:((a[q].toNat:Int)==(b[c].toNat:Int))=false:=by rw[UE];intro h;exact m (WV.1 (by omega)));clear m;go_wp2;go_quiet (fail);go_wp2
     (go_big_region);go_wp2;refine⟨⟨c,_,by omega,rfl,by go_num,?_⟩,by simp[intOf]⟩;refine(UQ (λv=>jw w ((wr.drewN _).setCell ⟨N,q*49+c,none⟩ (Value.int .i64 v)) A B q c) ?_).mp (HS.out.drewN (nq+1));split<;>split<;>omega
    (have Z:c=b.size:=by omega);(have y:aK (A.drop q) (B.drop c)=a.size-q:=by rw[UP (by have:=d.out.2;omega:B.length<=c),gZ,Uq,d.out.1]);rw[y,show((a.size-q:Nat):Int)=(a.size:Int)-q by omega]at HS;subst Z;clear o y s t;go_wp2;refine⟨⟨b.size,_,by omega,rfl,by go_num,HS.out⟩,by simp[intOf]⟩
   (have aa:q=a.size:=by omega);(have y:aK (A.drop q) (B.drop c)=b.size-c:=by rw[UP (by have:=d.out.1;omega:A.length<=q),eP,Uq,d.out.2]);rw[y,show((b.size-c:Nat):Int)=(b.size:Int)-c by omega]at HS;subst aa;clear o y s t;go_wp2;refine⟨⟨c,_,by omega,rfl,by go_num,HS.out⟩,by simp[intOf]⟩
def mD(a:ByteArray):a=⟨#[]⟩↔a.size=0:=by constructor;rintro rfl;rfl;intro h;refine lP ?_;have:a.data.toList=[]:=VD.1 (by rw[<-Lib.size_eq];exact h);rw[this]
def Dv{a:ByteArray}(h:a≠⟨#[]⟩):a.toList.isEmpty=false:=by rw[Lib.toList_data,fH];exact Uj λb=>h ((mD a).2 b)
def Bl(a b:ByteArray)(w:World)(u:a.size<=48)(v:b.size<=48):Calls (Qs fs) 231 #[.string a,.string b] w λe w'=>e=.returned (.int .i64 (bH a.data.toList b.data.toList))/\Below w.heap.size w w':=by
 have e73:=e73 L;have s:=λg=>Jb L a b g u v;have l:Hid _:=zH a b;have i:=wP _ a.data.toList b.data.toList (Ue _);rw[<-Lib.size_eq,<-Lib.size_eq]at i;by_cases m:a=⟨#[]⟩
 ·have f:=l.out;rw[Ud (.inl ((mD a).1 m))]at f;have c:Hid _:=f;have x:a.toList.isEmpty=true:=by rw[Lib.toList_data];subst m;rfl
  clear f l i m;go_enter (n231 L),Tryz.ntmps231;go_wp2_with fail;go_ret;exact⟨by rw[c.out];rfl,Below.refl _ _⟩
 have y:a.toList.isEmpty=false:=Dv m;by_cases n:b=⟨#[]⟩
 ·have f:=l.out;rw[Ud (.inr ((mD b).1 n))]at f;have c:Hid _:=f;have x:b.toList.isEmpty=true:=by rw[Lib.toList_data];subst n;rfl
  clear f l i n;go_enter (n231 L),Tryz.ntmps231;go_wp2_with fail;go_ret;exact⟨by rw[c.out];rfl,Below.refl _ _⟩
 have z:b.toList.isEmpty=false:=Dv n;have A:0<a.size:=Xv λh=>m ((mD a).2 h);have B:0<b.size:=Xv λh=>n ((mD b).2 h);have f:=l.out;rw[Uc (by omega)]at f;have p:=Lib.size_eq a;have q:=Lib.size_eq b;have j:∀g,Calls (Qs fs) 73 #[.string a,.string b] g λe w'=>e=.returned (.pointer (some ⟨g.heap.size,0,none⟩))/\w'.cell? ⟨g.heap.size,0,none⟩=some (.int .i64 (aK a.data.toList b.data.toList))/\Below g.heap.size g w':=λg=>(s g).mono λe w' h=>⟨h.1,by have:=h.2.cell (r:=0) (k:=0) (by omega) (by omega) (Ul _) (Ul _) (by omega);simpa using this,h.2.below⟩
 obtain⟨d,t⟩:=ex (aK a.data.toList b.data.toList);rw[<-t]at j f i;have c:Hid _:=f;clear f l m n s t p q;go_enter (n231 L),Tryz.ntmps231;go_wp2_with (first|(go_at_call 73;refine(j _).mono ?_;clear j;rintro e w2 ⟨rfl,C,o⟩));go_ret;exact⟨by rw[c.out,show max a.size b.size=b.size by omega];rfl,o⟩;go_ret;exact⟨by rw[c.out,show max a.size b.size=a.size by omega];rfl,o⟩
def Mh(s r):Lib.occAt s r 0=r.isPrefixOf s:=rfl
def yW(s r:ByteArray)(w:World):Calls (Qs fs) 163 #[.string s,.string r] w λe w'=>e=.returned (.bool (r.data.toList.isPrefixOf s.data.toList))/\w'=w:=by
 obtain h|h:=Uh s.size r.size
 ·have c:decide ((r.size:Int)<=(s.size:Int))=false:=Uj (by omega);have a:decide (r.size<=s.size)=false:=Uj (by omega);have b:Hid (r.data.toList.isPrefixOf s.data.toList=false):=by rw[Hid];cases d:r.data.toList.isPrefixOf s.data.toList with|false=>rfl|true=>have f:=(Va.1 d).length_le;rw[<-Lib.size_eq,<-Lib.size_eq]at f;omega
  clear h;go_enter (n163 L),Tryz.ntmps163;go_wp2;go_ret;exact⟨by rw[b.out];rfl,rfl⟩
 have c:(r.size:Int)<=(s.size:Int):=by omega
 have a:r.size<=s.size:=h;have b:Hid _:=Lib.occ_of_piece s r 0 (by omega);clear h;go_enter (n163 L),Tryz.ntmps163;go_wp2;go_ret;refine⟨?_,rfl⟩;rw[<-Mh,b.out,Uo];rfl
def od(s r:ByteArray)(w:World):Calls (Qs fs) 133 #[.string s,.string r] w λe w'=>e=.returned (.bool (r.data.toList.isPrefixOf s.data.toList))/\w'=w:=by have Si:=Si L;have c:=yW L s r w;obtain⟨z,a⟩:=ex (r.data.toList.isPrefixOf s.data.toList);rw[<-a]at c⊢;clear a;go_enter (n133 L),Tryz.ntmps133;go_wp2_with (first|(go_at_call 163;refine c.mono ?_;clear c;rintro e w2 ⟨rfl,rfl⟩));go_ret;exact⟨rfl,rfl⟩
def lT(a:List Pr2):Nat->Bs->List ByteArray
 |0,_=>[]
 |_,[]=>[]
 |n+1,c::cs=>
  match bO a (c::cs)with
  |some p=>p.2::lT a n ((c::cs).drop p.1.size)
  |none=>(if aQ c then⟨#[c]⟩else⟨#[]⟩)::lT a n cs
def ep(a:List Pr2)(w:Bs):List ByteArray:=lT a w.length w
theorem qN(a):∀(n) (s),(lT a n s).flatMap (λx=>x.data.toList)=iu a n s
 |0,s=>rfl
 |n+1,[]=>rfl
 |n+1,c::cs=>by
  unfold lT iu;cases bO a (c::cs)with
  |some p=>simp only[VR];rw[qN a n]
  |none=>
   simp only[VR];rw[qN a n]
   congr 1
   cases aQ c<;>rfl
def wR(a s):(ep a s).flatMap (λx=>x.data.toList)=aL a s:=qN a _ s
theorem oe(a:List Pr2)(b:∀p∈a,1<=p.1.size):∀(n m) (s),s.length<=n->s.length<=m->lT a n s=lT a m s
 |n,m,[],_,_=>by cases n<;>cases m<;>rfl
 |0,m,c::cs,h,_=>by simp at h
 |n,0,c::cs,_,h=>by simp at h
 |n+1,m+1,c::cs,d,e=>by
  simp only[Ug]at d e;unfold lT;cases f:bO a (c::cs)with
  |some p=>have g:=b p (gY f);simp only[];rw[oe a b n m _ (by rw[Uq,Ug];omega) (by rw[Uq,Ug];omega)]
  |none=>simp only[];rw[oe a b n m cs (by omega) (by omega)]
def Gt{a:List Pr2}(b:∀p∈a,1<=p.1.size){c}{s:Bs}{p}(d:bO a (c::s)=some p):ep a (c::s)=p.2::ep a ((c::s).drop p.1.size):=by have h:=b p (gY d);unfold ep;rw[Ug];(conv=>lhs;unfold lT);rw[d];simp only[];rw[oe a b _ ((c::s).drop p.1.size).length _ (by rw[Uq,Ug];omega) (Ue _)]
def Dw{a c}{s:Bs}(b:bO a (c::s)=none):ep a (c::s)=(if aQ c then⟨#[c]⟩else⟨#[]⟩)::ep a s:=by unfold ep;rw[Ug];(conv=>lhs;unfold lT);rw[b]
def aE.blocks{K}{w w':World}{v l}(h:aE K 2 dA w v l)(j:∀b,K b->w'.heap[b]? =w.heap[b]?):aE K 2 dA w' v l:=by (obtain⟨n,c,rfl,p,q,f,r⟩:=h;have m:∀b o,K b->w'.cell? ⟨b,o,none⟩=w.cell? ⟨b,o,none⟩:=λb o d=>by unfold World.cell?;rw[show w'.heap[(⟨b,o,none⟩:Addr).block]? =w.heap[(⟨b,o,none⟩:Addr).block]? from j b d]);refine⟨n,c,rfl,p,q,f.imp id λf a s=>?_,λk d=>?_⟩;obtain⟨k1,g,t⟩:=f a s;exact⟨k1,g,by rw[j _ g];exact t⟩;obtain⟨b,i,e,k1,g⟩:=r k d;have d:=((f.resolve_left (by omega)) _ e).2.1;exact⟨b,i,e,(m b _ d).trans k1,(m b _ d).trans g⟩
def aE.below{K w v l}(h:aE K 2 dA w v l):aE (λb=>b<w.heap.size) 2 dA w v l:=by obtain⟨j,c,rfl,m,n,d,o⟩:=h;refine⟨j,c,rfl,m,n,d.imp id λd a p=>?_,λk q=>?_⟩;obtain⟨k1,g,cs,e,F,i⟩:=d a p;exact⟨k1,(Uk.1 i).1,cs,e,F,i⟩;obtain⟨b,f,e,k1,g⟩:=o k q;exact⟨b,f,e,k1,g⟩
def hU(rest:ByteArray):Option Pr2->ByteArray×ByteArray×Int
 |some p=>(p.1,p.2,p.1.size)
 |none=>(rest.extract 0 1,if(rest.data.toList.head?.any aQ)then rest.extract 0 1 else⟨#[]⟩,0)
end Go.Proofs

import Derived.Deep.RegionHeld3
import Derived.Deep.CutBlock
import Derived.Shelf.Lays
import Derived.Test.YtaglpcmhopjebaaGreatDoorW1
import Derived.Test.YtaglpcmhopjebaaGreatDoorW11
set_option linter.all false
set_option maxRecDepth 100000
set_option maxHeartbeats 20000000
namespace Go.Proofs
open Go.Tm Go.RowKit
variable {fs:Array Func} (L:bT fs)
structure OkC(c:Case):Prop where
 table:OkT c.table
 new:OkM c.new
 marks:∀m∈c.marks,OkM m
 lT:c.marks.length<=8
 vo:c.rules.length<=6
 Jc:c.kin.length=c.marks.length
 rules:∀r∈c.rules,0<=r.kind/\r.kind<=5/\1<=r.least/\r.least<=100/\0<=r.plain/\r.plain<=9/\0<=r.known/\r.known<=9
 kin:∀n∈c.kin,0<=n/\n<=9
def FI(x:rC):x6:=.agg #[.i x.days,.i x.level,.i x.kin]
def K9{w w1}(a:jg w w1)(x y)(p q:Nat):(∀i v,x[i]? =some v->(((w1.alloc (.cells x p)).alloc (.cells y q)).drew).cell? ⟨w1.heap.size,i,none⟩=some v)/\(∀i v,y[i]? =some v->(((w1.alloc (.cells x p)).alloc (.cells y q)).drew).cell? ⟨w1.heap.size+1,i,none⟩=some v)/\ae w1 (((w1.alloc (.cells x p)).alloc (.cells y q)).drew)/\jg w (((w1.alloc (.cells x p)).alloc (.cells y q)).drew):=by (have b:(w1.alloc (.cells x p)).heap.size=w1.heap.size+1:=by simp);refine⟨λi v h=>(ae.alloc _ (.cells y q)).cell (aC w1 x p i v h),λi v h=>?_,(ae.alloc w1 (.cells x p)).trans (ae.alloc _ (.cells y q)),((a.alloc a.size _).alloc (by have:=a.size;omega) _).drew⟩;have:=aC (w1.alloc (.cells x p)) y q i v h;rw[b]at this;exact this
def cell_of_heap{w:xv}{b c e f}(h:w.heap[b]? =some (.cells c e f))(i v)(a:c[i]? =some v):w.cell? ⟨b,i,none⟩=some v:=by unfold World.cell?;simp only[h];exact a
def frozen_of_heap{w:xv}{b c e}(h:w.heap[b]? =some (.cells c e))(i):w.frozen? ⟨b,i,none⟩=false:=by unfold World.frozen?;simp only[h];simp
def sJ{a n M:Int}(b:0<n)(c:0<=a)(d:a<=M*n):0<=a/n/\a/n<=M:=⟨Int.ediv_nonneg c (by omega),by have:=Int.ediv_le_ediv b d;rwa[Int.mul_ediv_cancel _ (by omega)]at this⟩
def lh(a b):0<=eu a b/\eu a b<=100:=by unfold eu;split;exact⟨by decide,by decide⟩;rename_i h;(have c:=yG _ a b (Wv _);have d:0<max a.length b.length:=by cases a with|nil=>simp at h|cons x a=>simp only[WA];omega);refine sJ (by omega) (by omega) (by omega)
theorem jf(t a b):∀k,0<=fP t a b k/\fP t a b k<=100
 |0=>⟨YG _,(by decide:(0:Int)<=100)⟩
 |k+1=>by have c:=jf t a b k;have d:=lh (bS t k a) (bS t k b);rw[lS];omega
def Jd(a b):0<=rB a b/\rB a b<=100:=by (unfold rB;have key:∀x y:Bs,0<=(if x.length<3|| !x.isPrefixOf y&& !x.isSuffixOf y then 0 else(100*x.length:Int)/(y.length:Int))/\(if x.length<3|| !x.isPrefixOf y&& !x.isSuffixOf y then 0 else(100*x.length:Int)/(y.length:Int))<=100:=by intro x y;split;exact⟨by decide,by decide⟩;rename_i h;(simp only[X3,WR,WI,Z0,not_or,not_and,Bool.not_eq_false]at h;obtain⟨e,d⟩:=h;have f:x.length<=y.length:=by by_cases c:x.isPrefixOf y=true;exact(X4.1 c).length_le;exact(List.isSuffixOf_iff_suffix.1 (d (Zz.2 c))).length_le);exact sJ (by omega) (by omega) (by omega));exact key _ _
def LX{l:List Nat}{M}(h:∀x∈l,x<=M):l.sum<=M*l.length:=by induction l with|nil=>simp|cons x l a=>have c:=h x (Z5 ..);have d:=a λy b=>h y (ZD _ b);simp only[List.sum_cons,WA,Nat.mul_add];omega
def yH(a b)(c:a.length<=5)(f:b.length<=5):0<=cJ a b/\cJ a b<=100000:=by unfold cJ;split;exact⟨by decide,by decide⟩;rename_i h;(have g:0<a.length:=by cases a with|nil=>simp at h|cons x a=>simp);(have d:((List.range 10).map λ(n:Nat)=>min (aT (bH a b) n) (aT (bH b a) n)).sum<=5*10:=by have:=LX (l:=(List.range 10).map λ(n:Nat)=>min (aT (bH a b) n) (aT (bH b a) n)) (M:=5) (by (intro x e;obtain⟨n,_,rfl⟩:=XH.1 e;have i:aT (bH a b) n<=5:=by unfold aT bH;exact Ww (XI _ _) (Ww (XI _ _) c));omega);simpa using this);simp only[];generalize ((List.range 10).map λ(n:Nat)=>min (aT (bH a b) n) (aT (bH b a) n)).sum=z at d;exact sJ (by omega) (by omega) (by omega)
def DK(t a b):0<=iE t a b/\iE t a b<=100:=by unfold iE;split<;>exact⟨by decide,by decide⟩
def m7(t k one two)(d:one.aU.length<=5)(e:two.aU.length<=5):0<=bn t k one two/\bn t k one two<=100000:=by by_cases k0:k=0;subst k0;rw[BM];have:=lh (aX t.az one.word.data.toList) (aX t.az two.word.data.toList);omega;by_cases k1:k=1;subst k1;rw[BN];have:=jf t one.word.data.toList two.word.data.toList t.aI.length;omega;by_cases a:k=2;subst a;rw[BO];have:=DK t (aX t.az one.word.data.toList) (aX t.az two.word.data.toList);omega;by_cases b:k=3;subst b;rw[BP];have:=lh (aX t.az one.word.data.toList) (aX t.az two.word.data.toList).reverse;omega;by_cases c:k=4;subst c;rw[BQ];have:=Jd (aX t.az one.word.data.toList) (aX t.az two.word.data.toList);omega;rw[BR t k one two ⟨k0,k1,a,b,c⟩];exact yH _ _ d e
def wrap_i64(n)(h: -9223372036854775808<=n/\n<=9223372036854775807):IntKind.i64.wrap n=n:=by simp only[IntKind.wrap,IntKind.signed,IntKind.bits,Zd];split;rename_i a;have:=W6 a;omega;rename_i a;have:¬(n%2 ^ 64>=2 ^ (64-1)):=λh=>a (WE h);omega
def kV(m:Mark)(r:jd):Int:=if m.known then min r.plain r.known else r.plain
def FJ(c m kin r):fK c m kin r=⟨max 0 (m.day+1-c.new.day),max 0 (r.least-bn c.table r.kind c.new m),max 0 (kV m r-kin)⟩:=rfl
def Rq{K:Nat->Prop}{sc:WZ}{c:Case}(i k:Nat)(w:xv)(hc:bD K w sc c)(E:OkC c)(hi:i<c.marks.length)(hk:k<c.rules.length)(P:i<c.kin.length):Calls (Qs fs) 85 #[.agg sc,.i i,.i k] w λe w'=>e=.returned (FI (fK c c.marks[i] c.kin[i] c.rules[k]))/\jg w w':=by
 have e70:=e70 L;obtain⟨v0,v1,v2,vr,Q,vm,vk,rfl,ht,hr,hf,hm,R⟩:=hc;obtain⟨wa,g⟩:=ex (w.alloc (.cells #[v0,v1,v2,vr,.string c.new.name,.string c.new.word,Q,.i c.new.day,.bool c.new.known,vm,vk] 60));obtain⟨w1,j⟩:=ex (wa.alloc (.cells #[.i 0,.i 0,.i 0] 86));have Sa:ae wa w1:=by rw[j];exact ae.alloc _ _
 have t:ae w w1:=(by rw[g];exact ae.alloc _ _:ae w wa).trans Sa;have B1:jg w w1:=by rw[j,g];exact((Below.refl _ w).alloc (Wv _) _).alloc (by simp) _
 have u:wa.heap.size=w.heap.size+1:=by rw[g];simp
 have S:w1.heap.size=w.heap.size+1+1:=by rw[j,<-u];simp
 have ct:∀i v,(#[v0,v1,v2,vr,.string c.new.name,.string c.new.word,Q,.i c.new.day,.bool c.new.known,vm,vk]:WZ)[i]? =some v->w1.cell? ⟨w.heap.size,i,none⟩=some v:=λi v h=>Sa.cell (by rw[g];exact aC w _ 60 i v h);obtain⟨N,T⟩:=ex (w.heap.size);obtain⟨N1,z⟩:=ex (w.heap.size+1);have n:w1.heap[N1]? =some (.cells #[.i 0,.i 0,.i 0] 86):=by rw[j,z,<-u];exact Xh
 have ak:=hm.stays t λb b' o x e h=>by subst e;exact mG.carry (Carry.keep t) b b o x rfl h
 have al:=hr.stays t λb b' o x e h=>by subst e;exact j5.carry (Carry.keep t) b b o x rfl h
 have an:=R.ints t;have F:=ht.stays t;obtain⟨aM,cm,rfl,lm,aR,_,gm⟩:=ak;obtain⟨a1,cr,rfl,lr,a6,_,gr⟩:=al;obtain⟨a7,ck,rfl,lk,a8,_,gk⟩:=an;obtain⟨I,J,rfl,x0,x1,⟨fm,x2,U⟩,x3,x4⟩:=gm i hi;obtain⟨V,W,rfl,y0,y1,y2,y3⟩:=gr k hk;obtain⟨bk,ao,rfl,z0⟩:=gk i P;clear gm gr gk ht hr hm R;have C:=E.marks _ (WG hi);obtain⟨r1,r2,r3,r4,r5,r6,r7,r8⟩:=E.rules _ (WG hk);obtain⟨k1,k2⟩:=E.kin _ (WG P);obtain⟨m,X⟩:=ex (c.marks[i]);obtain⟨r,Y⟩:=ex (c.rules[k]);obtain⟨q,Z⟩:=ex (c.kin[i]);rw[<-X]at x0 x1 U x3 x4 C⊢;rw[<-Y]at y0 y1 y2 y3 r1 r2 r3 r4 r5 r6 r7 r8⊢;rw[<-Z]at z0 k1 k2⊢;clear X Y Z;obtain⟨a,D,rfl,lf,ar,kf,gf⟩:=U;have U:aB K 1 dh w1 (.slice a m.aU.length D) m.aU:=⟨a,D,rfl,lf,ar,kf,gf⟩
 have ax:Hid _:=U;clear U gf kf;have t9:=ct 9 _ rfl;have t3:=ct 3 _ rfl;rw[<-T]at t9 t3;go_enter (n85 L),Tryz.ntmps85;go_upto_region 1 with fail;rw[<-g,<-j,<-z,<-T];go_cut [7,8]from 10 (λs7 s8 M=>∃A B,s7=.pointer (some ⟨A,0,none⟩)/\s8=.pointer (some ⟨B,0,none⟩)/\(∀i v,(#[.string m.name,.string m.word,.slice a m.aU.length D,.i m.day,.bool m.known]:WZ)[i]? =some v->M.cell? ⟨A,i,none⟩=some v)/\(∀i v,(#[.i r.kind,.i r.least,.i r.plain,.i r.known]:WZ)[i]? =some v->M.cell? ⟨B,i,none⟩=some v)/\ae w1 M/\jg w M)
 case first=>
  have HB:Hid _:=B1;clear g j T z ct S u n F Sa t B1;have n9:=World.new_ne w1 _ t9;have n3:=World.new_ne w1 _ t3;have m0:=World.new_ne w1 _ x0;have m1:=World.new_ne w1 _ x1;have m2:=World.new_ne w1 _ x2;have m3:=World.new_ne w1 _ x3;have m4:=World.new_ne w1 _ x4;have q0:=World.new_ne w1 _ y0;have q1:=World.new_ne w1 _ y1;have q2:=World.new_ne w1 _ y2;have q3:=World.new_ne w1 _ y3
  go_region_held3 (λw'=>w'.cell? ⟨N,9,none⟩=some (.slice (some ⟨I,J,none⟩) c.marks.length cm)/\w'.cell? ⟨N,3,none⟩=some (.slice (some ⟨V,W,none⟩) c.rules.length cr)/\
   w'.cell? ⟨I,J+i*5,none⟩=some (.string m.name)/\w'.cell? ⟨I,J+i*5+1,none⟩=some (.string m.word)/\w'.cell? ⟨I,J+i*5+2,none⟩=some (.slice a m.aU.length D)/\w'.cell? ⟨I,J+i*5+3,none⟩=some (.i m.day)/\w'.cell? ⟨I,J+i*5+4,none⟩=some (.bool m.known)/\
   w'.cell? ⟨V,W+k*4,none⟩=some (.i r.kind)/\w'.cell? ⟨V,W+k*4+1,none⟩=some (.i r.least)/\w'.cell? ⟨V,W+k*4+2,none⟩=some (.i r.plain)/\w'.cell? ⟨V,W+k*4+3,none⟩=some (.i r.known)) (go_keep) (fail)
  all_goals (go_wp2_with fail;go_meet)
  obtain⟨h1,h2,h3,h4⟩:=K9 HB.o #[.string m.name,.string m.word,.slice a m.aU.length D,.i m.day,.bool m.known] #[.i r.kind,.i r.least,.i r.plain,.i r.known] 38 69;exact⟨_,_,rfl,rfl,h1,h2,h3,h4⟩;obtain⟨h1,h2,h3,h4⟩:=K9 HB.o #[.i r.kind,.i r.least,.i r.plain,.i r.known] #[.string m.name,.string m.word,.slice a m.aU.length D,.i m.day,.bool m.known] 69 38;exact⟨_,_,rfl,rfl,h2,h1,h3,h4⟩
 case rest=>
  obtain⟨A,B,rfl,rfl,O,hb,f,Bx⟩:=hcut;have G:Hid (kV m r=if m.known then min r.plain r.known else r.plain):=rfl;have HS:Hid _:=(⟨f,Bx⟩:ae w1 wc/\jg w wc)
  have a3:=O 3 _ rfl;have a4:=O 4 _ rfl;have b0:=hb 0 _ rfl;have b1:=hb 1 _ rfl;have b2:=hb 2 _ rfl;have b3:=hb 3 _ rfl;have ay:=t;have s:w.heap.size<=N1:=by omega
  have t0:=ct 0 _ rfl;have t1:=ct 1 _ rfl;have t2:=ct 2 _ rfl;have t4:=ct 4 _ rfl;have t5:=ct 5 _ rfl;have t6:=ct 6 _ rfl;have t7:=ct 7 _ rfl;have t8:=ct 8 _ rfl;have H:=ct 10 _ rfl;rw[<-T]at t0 t1 t2 t4 t5 t6 t7 t8 H;clear g j T z S u Sa t B1 ct;go_upto_if 23 with fail;go_cut [9]from 10 (λs9 M=>s9=.i (kV m r)/\M=wc)
  case first=>(go_wp2_with fail);(all_goals (go_meet;refine⟨?_,rfl⟩;rw[G.o]));all_goals first|(rw[Wu (by assumption)];congr 1;omega)|(rw[Wt (by simp[*])])
  case rest=>
   (obtain⟨rfl,rfl⟩:=hcut;have lb:=m7 c.table r.kind c.new m E.new.fig C.fig;have nb: -1000<=kV m r/\kV m r<=1000:=by unfold kV;split<;>omega);(have aa:=F.stays f;have ab:aB K 1 dh wc Q c.new.aU:=(hf.ints ay).ints f;have ad:aB K 1 dh wc (.slice a m.aU.length D) m.aU:=aB.ints f ax.o;have cL:=λwy (hs:ae wc wy)=>BS L (m1:=#[.string c.new.name,.string c.new.word,Q,.i c.new.day,.bool c.new.known]) (m2:=#[.string m.name,.string m.word,.slice a m.aU.length D,.i m.day,.bool m.known]) (one:=c.new) (two:=m) r.kind wy (aa.stays hs) E.table ⟨Q,rfl,ab.ints hs⟩ ⟨_,rfl,ad.ints hs⟩ E.new C;obtain⟨lv,af⟩:=ex (bn c.table r.kind c.new m);obtain⟨nd,ag⟩:=ex (kV m r);have HV:Hid _:=FJ c m q r;rw[<-af]at lb cL HV;rw[<-ag]at nb HV⊢;clear af ag;have d:=f _ _ _ _ n;have n0:=cell_of_heap d 0 _ rfl;have n1:=cell_of_heap d 1 _ rfl;have n2:=cell_of_heap d 2 _ rfl;have g0:=frozen_of_heap d 0;have g1:=frozen_of_heap d 1;have g2:=frozen_of_heap d 2;have ah:wc.cell? ⟨bk,ao+i,none⟩=some (.i q):=by have:=f.cell z0;rwa[Xj]at this);(have ba:∀x y:Int,(if x<y then y else x)=max x y:=λx y=>by split<;>omega);(have bb:=C.day;have bo:=E.new.day;have bs:IntKind.i64.wrap (m.day+1)=m.day+1:=wrap_i64 _ (by omega);have bx:IntKind.i64.wrap (m.day+1-c.new.day)=m.day+1-c.new.day:=wrap_i64 _ (by omega);have bA:IntKind.i64.wrap (r.least-lv)=r.least-lv:=wrap_i64 _ (by omega);have bB:IntKind.i64.wrap (nd-q)=nd-q:=wrap_i64 _ (by omega);have aK:(0:Int)<=(i:Int)/\(i:Int)<(c.kin.length:Int):=⟨by omega,by omega⟩);(have qL:∀x:au w wc,Calls (Qs fs) 70 _ x.val λe w'=>e=.returned (.i lv)/\∃y:au w wc,w'=y.val:=λx=>au.calls (cL x.val x.st);have l0:=λx:au w wc=>And.intro (x.cell (a3))<|And.intro (x.cell (f.cell t7))<|And.intro (x.cell (b1))<|And.intro (x.cell (f.cell t0))<|And.intro (x.cell (f.cell t1))<|And.intro (x.cell (f.cell t2))<|And.intro (x.cell (b0))<|And.intro (x.cell (f.cell t4))<|And.intro (x.cell (f.cell t5))<|And.intro (x.cell (f.cell t6))<|And.intro (x.cell (f.cell t8))<|And.intro (x.cell (O 0 _ rfl))<|And.intro (x.cell (O 1 _ rfl))<|And.intro (x.cell (O 2 _ rfl))<|And.intro (x.cell (a4))<|And.intro (x.cell (f.cell H))<|x.cell (ah);clear a3 a4 b0 b1 b2 b3 t0 t1 t2 t4 t5 t6 t7 t8 H z0 ah x0 x1 x2 x3 x4 y0 y1 y2 y3 t9 t3 O hb n0 n1 n2 g0 g1 g2 n ab ad aa F f Bx cL;go_upto_region 5 with fail;refine aZ (w0:=w) (w1:=wc) 29 (by kernel_rfl) (by kernel_rfl) (ae.refl _) HS.o.2 ?_;simp only[Xi,Xf,Xn,Xl];haveI bC:Nonempty (au w wc):=⟨⟨wc,ae.refl _,HS.o.2⟩⟩);repeat (go_big_quiet_step ((go_at_call 70;exact qL _)))
   refine wpQuiet_nil ?_;rintro wz ⟨⟨_,Sz,Bz⟩,rfl⟩;have l:=Sz _ _ _ _ d;have n0:=cell_of_heap l 0 _ rfl;have n1:=cell_of_heap l 1 _ rfl;have n2:=cell_of_heap l 2 _ rfl;have g0:=frozen_of_heap l 0;have g1:=frozen_of_heap l 1;have g2:=frozen_of_heap l 2;have BZ:Hid _:=Bz;clear qL Sz Bz d l l0;go_wp2;all_goals
    refine bodyPost_ret (v:=.agg #[.i (max 0 (m.day+1-c.new.day)),.i (max 0 (r.least-lv)),.i (max 0 (nd-q))]) ?_ rfl ⟨by rw[HV.o];rfl,((BZ.o.setCell (p:=⟨N1,0,none⟩) s _).setCell (p:=⟨N1,1,none⟩) s _).setCell (p:=⟨N1,2,none⟩) s _⟩;simp[results,Tryz.results85,go_sem, *];try omega
def j9:WZ:=Array.replicate 2401 (.i 0)
def U9:Tryz.zeroCells184=j9:=by kernel_rfl
def AP(i)(h:i<j9.size):j9[i]? =some (.i 0):=by unfold j9 at h⊢;rw[Array.size_replicate]at h;rw[Z6,Wu h]
def AS:j9.size=2401:=by unfold j9;rw[Array.size_replicate]
def BT(a b:Bs)(q p:Nat)(i:Nat):x6:=if(q<i/49\/(i/49=q/\p<=i%49))/\i/49<=a.length/\i%49<=b.length then .i (aY (a.drop (i/49)) (b.drop (i%49)))else .i 0
structure kg(w wr:xv)(a b:Bs)(q p:Nat):Prop where
 row:wr.rowIs w.heap.size 184 2401 (BT a b q p)
 below:jg w wr
def OA(q p)(a:p<49):(q*49+p)/49=q/\(q*49+p)%49=p:=by omega
def kg.cell{w wr a b q p r k}(h:kg w wr a b q p)(i:a.length<=48)(j:b.length<=48)(c:r<=a.length)(d:k<=b.length)(e:q<r\/(r=q/\p<=k)):wr.cell? ⟨w.heap.size,r*49+k,none⟩=some (.i (aY (a.drop r) (b.drop k))):=by obtain⟨f,g⟩:=OA r k (by omega);rw[h.row.cell (by omega)];unfold BT;rw[f,g,Wu ⟨e,c,d⟩]
def kg.cell0{w wr a b q p}(h:kg w wr a b q (p+1))(e:a.length<=48)(f:b.length<=48)(g:q<=a.length)(i:p<=b.length):wr.cell? ⟨w.heap.size,q*49+p,none⟩=some (.i 0):=by obtain⟨c,d⟩:=OA q p (by omega);rw[h.row.cell (by omega)];unfold BT;rw[c,d,Wt (by omega)]
def kg.step{w wr:xv}{a b:Bs}{q p:Nat}(h:kg w wr a b q (p+1))(k:a.length<=48)(l:b.length<=48)(d:q<=a.length)(f:p<=b.length):kg w (wr.setCell ⟨w.heap.size,q*49+p,none⟩ (.i (aY (a.drop q) (b.drop p)))) a b q p where
 row:=(h.row.set (q*49+p) _).congr λi m=>by
  obtain⟨g,j⟩:=OA q p (by omega);unfold BT;by_cases e:i=q*49+p
  .subst e
   rw[Wu rfl,g,j,Wu ⟨.inr ⟨rfl,Wv _⟩,d,f⟩]
  .rw[Wt e]
   by_cases c:(q<i/49\/(i/49=q/\p+1<=i%49))/\i/49<=a.length/\i%49<=b.length
   .rw[Wu c,Wu ⟨by omega,c.2⟩]
   .rw[Wt c,Wt (by omega)]
 below:=h.below.setCell (Wv _) _
def kg.drewN{w wr a b q p}(h:kg w wr a b q p)(n):kg w (wr.drewN n) a b q p:=⟨h.row,Go.below_drewN h.below n⟩
def kg.next{w wr a b q}(h:kg w wr a b (q+1) 0)(d:b.length<=48):kg w wr a b q (b.length+1):=
 ⟨h.row.congr λi e=>by
  unfold BT;by_cases c:(q+1<i/49\/(i/49=q+1/\0<=i%49))/\i/49<=a.length/\i%49<=b.length
  .rw[Wu c,Wu ⟨by omega,c.2⟩]
  .rw[Wt c,Wt (by omega)],h.below⟩
def kg.first(w a b):kg w (w.alloc (.cells j9 184)) a b (a.length+1) 0:=⟨by have h:=World.rowIs_alloc w j9 184 (λ_=>.i 0) λi c=>AP i c;rw[AS]at h;refine h.congr λi c=>?_;unfold BT;rw[Wt (by omega)],aN w _⟩
def La(a b:UV)(w:xv)(ha:a.size<=48)(hb:b.size<=48):Calls (Qs fs) 73 #[.string a,.string b] w λe w'=>e=.returned (.pointer (some ⟨w.heap.size,0,none⟩))/\kg w w' a.data.toList b.data.toList 0 0:=by
 have P:=Lib.size_eq a;have Q:=Lib.size_eq b;obtain⟨A,u⟩:=ex (a.data.toList);obtain⟨B,x⟩:=ex (b.data.toList);rw[<-u]at P;rw[<-x]at Q;rw[<-u,<-x];have d:Hid (a.size=A.length/\b.size=B.length):=⟨P,Q⟩
 have HG:Hid ((∀q (h:q<a.size),A.drop q=a[q]::A.drop (q+1))/\(∀q (h:q<b.size),B.drop q=b[q]::B.drop (q+1))):=⟨λq h=>by rw[u];exact drop_cons a q h,λq h=>by rw[x];exact drop_cons b q h⟩
 have J:=kg.first w A B;rw[<-U9]at J;obtain⟨w1,z⟩:=ex (w.alloc (.cells Tryz.zeroCells184 184));rw[<-z]at J;obtain⟨N,K⟩:=ex (w.heap.size);have HN:Hid _:=K;have R:Hid _:=J;rw[<-K];clear P Q u x J;go_enter (n73 L),Tryz.ntmps73;go_upto_region 2 with fail;rw[<-z,<-K];clear z K;go_wp2;go_loopw [6] (λi wr=>∃(p:Nat) (j:Int),p<=a.size+1/\j=(p:Int)-1/\i=.i j/\kg w wr A B p 0) (λi _=>(intOf i+1).toNat);case atStart=>refine⟨a.size+1,_,Wv _,rfl,by go_num,?_⟩;rw[d.o.1];exact R.o
 case round=>
  obtain⟨p,D,hp,n,rfl,M⟩:=hrel;obtain rfl|hpos:=Xc p
  ·(obtain rfl:D= -1:=by omega);clear n;have HR:Hid _:=M;clear M;go_wp2;go_ret;exact⟨rfl,HR.o⟩
  obtain⟨q,rfl⟩:∃q,p=q+1:=⟨p-1,by omega⟩
  obtain rfl:D=(q:Int):=by omega
  clear n;have O:Hid _:=M.next (by have:=d.o.2;omega);clear M;go_wp2;go_loopw [7] (λi wi=>∃(C:Nat) (j:Int),C<=b.size+1/\j=(C:Int)-1/\i=.i j/\kg w wi A B q C) (λi _=>(intOf i+1).toNat);case atStart=>exact⟨b.size+1,_,Wv _,rfl,by go_num,by rw[d.o.2];exact O.o⟩
  case round=>
   clear O;obtain⟨C,D,ag,n,rfl,o⟩:=hrel;obtain rfl|hpos2:=Xc C
   ·(obtain rfl:D= -1:=by omega);clear n;have O:Hid _:=o;clear o;go_wp2;refine⟨⟨q,_,by omega,rfl,by go_num,O.o⟩,by simp[intOf]⟩
   (obtain⟨c,rfl⟩:∃c,C=c+1:=⟨C-1,by omega⟩);(obtain rfl:D=(c:Int):=by omega);(clear n;have s:q<=A.length:=by have:=d.o.1;omega);(have t:c<=B.length:=by have:=d.o.2;omega);(have f:A.length<=48:=by have:=d.o.1;omega);(have g:B.length<=48:=by have:=d.o.2;omega);(have E:=o.cell0 f g s t;have S:wr.frozen? ⟨w.heap.size,q*49+c,none⟩=false:=o.row.frozen _;have l:=o.step f g s t;rw[<-HN.o]at E S l;have HS:Hid _:=l;clear l;have ab:(q:Int)<49:=by omega);(have ad:(c:Int)<49:=by omega);obtain hqa|hqa:=Wx q a.size
   .obtain hcb|hcb:=Wx c b.size
    .have e11:=o.cell f g (r:=q+1) (k:=c+1) (by have:=d.o;omega) (by have:=d.o;omega) (by omega);(have e10:=o.cell f g (r:=q+1) (k:=c) (by have:=d.o;omega) (by have:=d.o;omega) (by omega);have F:=o.cell f g (r:=q) (k:=c+1) (by have:=d.o;omega) (by have:=d.o;omega) (by omega);have y:aY (A.drop q) (B.drop c)=if a[q]=b[c]then aY (A.drop (q+1)) (B.drop (c+1))else 1+min (aY (A.drop (q+1)) (B.drop (c+1))) (min (aY (A.drop (q+1)) (B.drop c)) (aY (A.drop q) (B.drop (c+1)))):=by have g1:=HG.o.1 q hqa;have g2:=HG.o.2 c hcb;rw[g1,g2,nH]);(have T:aY (A.drop (q+1)) (B.drop (c+1))<=2000:=Ww (oF _ _) (by rw[WJ,WJ];have:=d.o;omega);have U:aY (A.drop (q+1)) (B.drop c)<=2000:=Ww (oF _ _) (by rw[WJ,WJ];have:=d.o;omega);have V:aY (A.drop q) (B.drop (c+1))<=2000:=Ww (oF _ _) (by rw[WJ,WJ];have:=d.o;omega);rw[y]at HS;obtain⟨ah,G⟩:=ex (aY (A.drop (q+1)) (B.drop (c+1)));obtain⟨ak,H⟩:=ex (aY (A.drop (q+1)) (B.drop c));obtain⟨al,I⟩:=ex (aY (A.drop q) (B.drop (c+1)));rw[<-G]at e11 T HS;rw[<-H]at e10 U HS;rw[<-I]at F V HS;rw[<-HN.o]at e11 e10 F;have an:((q:Int)==a.size)=false:=by rw[W5];omega);(have ao:((c:Int)==b.size)=false:=by rw[W5];omega);(have af:¬(q:Int)=a.size:=by omega);(have W:(q:Int)+1<49:=by omega);(have X:(c:Int)+1<49:=by omega);clear o y s t G H I;by_cases m:a[q]=b[c]
     .rw[Wu m]at HS;(have Y:((a[q].toNat:Int)==(b[c].toNat:Int))=true:=by rw[m];simp);clear m;go_wp2;go_quiet (fail);go_wp2
      (go_region);go_wp2;exact⟨⟨c,_,by omega,rfl,by go_num,HS.o.drewN (nq+1)⟩,by simp[intOf]⟩
     rw[Wt m]at HS;(have Y:((a[q].toNat:Int)==(b[c].toNat:Int))=false:=by rw[W5];intro h;exact m (Zy.1 (by omega)));clear m;go_wp2;go_quiet (fail);go_wp2
     (go_big_region);go_wp2;refine⟨⟨c,_,by omega,rfl,by go_num,?_⟩,by simp[intOf]⟩;refine(W8 (λv=>kg w ((wr.drewN _).setCell ⟨N,q*49+c,none⟩ (Value.int .i64 v)) A B q c) ?_).mp (HS.o.drewN (nq+1));split<;>split<;>omega
    (have Z:c=b.size:=by omega);(have y:aY (A.drop q) (B.drop c)=a.size-q:=by rw[Xg (by have:=d.o.2;omega:B.length<=c),iO,WJ,d.o.1]);rw[y,show((a.size-q:Nat):Int)=(a.size:Int)-q by omega]at HS;subst Z;clear o y s t;go_wp2;refine⟨⟨b.size,_,by omega,rfl,by go_num,HS.o⟩,by simp[intOf]⟩
   (have aa:q=a.size:=by omega);(have y:aY (A.drop q) (B.drop c)=b.size-c:=by rw[Xg (by have:=d.o.1;omega:A.length<=q),fL,WJ,d.o.2]);rw[y,show((b.size-c:Nat):Int)=(b.size:Int)-c by omega]at HS;subst aa;clear o y s t;go_wp2;refine⟨⟨c,_,by omega,rfl,by go_num,HS.o⟩,by simp[intOf]⟩
def nI(a:UV):a=⟨#[]⟩↔a.size=0:=by constructor;rintro rfl;rfl;intro h;refine sI ?_;have:a.data.toList=[]:=Yg.1 (by rw[<-Lib.size_eq];exact h);rw[this]
def FK{a:UV}(h:a≠⟨#[]⟩):a.toList.isEmpty=false:=by rw[Lib.toList_data,gO];exact Wz λb=>h ((nI a).2 b)
def DL(a b:UV)(w:xv)(u:a.size<=48)(v:b.size<=48):ac fs 231 #[.string a,.string b] w (.i (eu a.data.toList b.data.toList)):=by
 have e73:=e73 L;have s:=λg=>La L a b g u v;have l:Hid _:=BL a b;have i:=yG _ a.data.toList b.data.toList (Wv _);rw[<-Lib.size_eq,<-Lib.size_eq]at i;by_cases m:a=⟨#[]⟩
 .have f:=l.o;rw[Wu (.inl ((nI a).1 m))]at f;have c:Hid _:=f;have x:a.toList.isEmpty=true:=by rw[Lib.toList_data];subst m;rfl
  clear f l i m;go_enter (n231 L),Tryz.ntmps231;go_wp2_with fail;go_ret;exact⟨by rw[c.o];rfl,Below.refl _ _⟩
 have y:a.toList.isEmpty=false:=FK m;by_cases n:b=⟨#[]⟩
 .have f:=l.o;rw[Wu (.inr ((nI b).1 n))]at f;have c:Hid _:=f;have x:b.toList.isEmpty=true:=by rw[Lib.toList_data];subst n;rfl
  clear f l i n;go_enter (n231 L),Tryz.ntmps231;go_wp2_with fail;go_ret;exact⟨by rw[c.o];rfl,Below.refl _ _⟩
 have z:b.toList.isEmpty=false:=FK n;have A:0<a.size:=Z7 λh=>m ((nI a).2 h);have B:0<b.size:=Z7 λh=>n ((nI b).2 h);have f:=l.o;rw[Wt (by omega)]at f;have p:=Lib.size_eq a;have q:=Lib.size_eq b;have j:∀g,Calls (Qs fs) 73 #[.string a,.string b] g λe w'=>e=.returned (.pointer (some ⟨g.heap.size,0,none⟩))/\w'.cell? ⟨g.heap.size,0,none⟩=some (.i (aY a.data.toList b.data.toList))/\jg g w':=λg=>(s g).mono λe w' h=>⟨h.1,by have:=h.2.cell (r:=0) (k:=0) (by omega) (by omega) (WB _) (WB _) (by omega);simpa using this,h.2.below⟩
 obtain⟨d,t⟩:=ex (aY a.data.toList b.data.toList);rw[<-t]at j f i;have c:Hid _:=f;clear f l m n s t p q;go_enter (n231 L),Tryz.ntmps231;go_wp2_with (go_at_call 73;refine(j _).mono ?_;clear j;rintro e w2 ⟨rfl,C,o⟩);go_ret;exact⟨by rw[c.o,show max a.size b.size=b.size by omega];rfl,o⟩;go_ret;exact⟨by rw[c.o,show max a.size b.size=a.size by omega];rfl,o⟩
def OC(s r):Lib.occAt s r 0=r.isPrefixOf s:=rfl
def AT(s r:UV)(w:xv):ap fs 163 #[.string s,.string r] w (.bool (r.data.toList.isPrefixOf s.data.toList)):=by
 obtain h|h:=Wx s.size r.size
 .have c:decide ((r.size:Int)<=(s.size:Int))=false:=Wz (by omega);have a:decide (r.size<=s.size)=false:=Wz (by omega);have b:Hid (r.data.toList.isPrefixOf s.data.toList=false):=by rw[Hid];cases d:r.data.toList.isPrefixOf s.data.toList with|false=>rfl|true=>have f:=(X4.1 d).length_le;rw[<-Lib.size_eq,<-Lib.size_eq]at f;omega
  clear h;go_enter (n163 L),Tryz.ntmps163;go_wp2;go_ret;exact⟨by rw[b.o];rfl,rfl⟩
 have c:(r.size:Int)<=(s.size:Int):=by omega
 have a:r.size<=s.size:=h;have b:Hid _:=Lib.occ_of_piece s r 0 (by omega);clear h;go_enter (n163 L),Tryz.ntmps163;go_wp2;go_ret;refine⟨?_,rfl⟩;rw[<-OC,b.o,WH];rfl
def pK(s r:UV)(w:xv):Calls (Qs fs) 133 #[.string s,.string r] w λe w'=>e=.returned (.bool (r.data.toList.isPrefixOf s.data.toList))/\w'=w:=by have UI:=UI L;have c:=AT L s r w;obtain⟨z,a⟩:=ex (r.data.toList.isPrefixOf s.data.toList);rw[<-a]at c⊢;clear a;go_enter (n133 L),Tryz.ntmps133;go_wp2_with (go_at_call 163;refine c.mono ?_;clear c;rintro e w2 ⟨rfl,rfl⟩);go_ret;exact⟨rfl,rfl⟩
def m9(a:List Pr2):Nat->Bs->List UV
 |0,_=>[]
 |_,[]=>[]
 |n+1,c::cs=>
  match bV a (c::cs)with
  |some p=>p.2::m9 a n ((c::cs).drop p.1.size)
  |none=>(if bp c then⟨#[c]⟩else⟨#[]⟩)::m9 a n cs
def eU(a:List Pr2)(w:Bs):List UV:=m9 a w.length w
theorem sK(a):∀(n) (s),(m9 a n s).flatMap (λx=>x.data.toList)=mH a n s
 |0,s=>rfl
 |n+1,[]=>rfl
 |n+1,c::cs=>by
  unfold m9 mH;cases bV a (c::cs)with
  |some p=>simp only[Xz];rw[sK a n]
  |none=>
   simp only[Xz];rw[sK a n]
   congr 1
   cases bp c<;>rfl
def yI(a s):(eU a s).flatMap (λx=>x.data.toList)=aX a s:=sK a _ s
theorem pL(a:List Pr2)(b:∀p∈a,1<=p.1.size):∀(n m) (s),s.length<=n->s.length<=m->m9 a n s=m9 a m s
 |n,m,[],_,_=>by cases n<;>cases m<;>rfl
 |0,m,c::cs,h,_=>by simp at h
 |n,0,c::cs,_,h=>by simp at h
 |n+1,m+1,c::cs,d,e=>by
  simp only[WA]at d e;unfold m9;cases f:bV a (c::cs)with
  |some p=>have g:=b p (iN f);simp only[];rw[pL a b n m _ (by rw[WJ,WA];omega) (by rw[WJ,WA];omega)]
  |none=>simp only[];rw[pL a b n m cs (by omega) (by omega)]
def Je{a:List Pr2}(b:∀p∈a,1<=p.1.size){c}{s:Bs}{p}(d:bV a (c::s)=some p):eU a (c::s)=p.2::eU a ((c::s).drop p.1.size):=by have h:=b p (iN d);unfold eU;rw[WA];(conv=>lhs;unfold m9);rw[d];simp only[];rw[pL a b _ ((c::s).drop p.1.size).length _ (by rw[WJ,WA];omega) (Wv _)]
def FL{a c}{s:Bs}(b:bV a (c::s)=none):eU a (c::s)=(if bp c then⟨#[c]⟩else⟨#[]⟩)::eU a s:=by unfold eU;rw[WA];(conv=>lhs;unfold m9);rw[b]
def aB.blocks{K}{w w':xv}{v l}(h:aB K 2 dO w v l)(i:∀b,K b->w'.heap[b]? =w.heap[b]?):aB K 2 dO w' v l:=by (obtain⟨m,c,rfl,n,p,f,q⟩:=h;have j:∀b o,K b->w'.cell? ⟨b,o,none⟩=w.cell? ⟨b,o,none⟩:=λb o d=>by unfold World.cell?;rw[show w'.heap[(⟨b,o,none⟩:Addr).block]? =w.heap[(⟨b,o,none⟩:Addr).block]? from i b d]);refine⟨m,c,rfl,n,p,f.imp id λf a r=>?_,λk d=>?_⟩;obtain⟨k1,g,s⟩:=f a r;exact⟨k1,g,by rw[i _ g];exact s⟩;obtain⟨b,off,e,k1,g⟩:=q k d;have d:=((f.resolve_left (by omega)) _ e).2.1;exact⟨b,off,e,(j b _ d).trans k1,(j b _ d).trans g⟩
def aB.below{K w v l}(h:aB K 2 dO w v l):aB (λb=>b<w.heap.size) 2 dO w v l:=by obtain⟨i,c,rfl,j,m,d,n⟩:=h;refine⟨i,c,rfl,j,m,d.imp id λd a o=>?_,λk p=>?_⟩;obtain⟨k1,f,cs,e,F,g⟩:=d a o;exact⟨k1,(WC.1 g).1,cs,e,F,g⟩;obtain⟨b,off,e,k1,f⟩:=n k p;exact⟨b,off,e,k1,f⟩
def iP(rest:UV):Option Pr2->UV×UV×Int
 |some p=>(p.1,p.2,p.1.size)
 |none=>(rest.extract 0 1,if(rest.data.toList.head?.any bp)then rest.extract 0 1 else⟨#[]⟩,0)
theorem Im{b}{chk:List b->b->Int}:∀{seen l:List b} {i:Nat} (h:i<l.length),(∀j (e:j<i),chk (seen++l.take j) (l[j]'(by omega))=0)->chk (seen++l.take i) l[i]≠0->dq chk seen l=chk (seen++l.take i) l[i]
 |seen,x::xs,0,h,_,a=>by simp only[Xf,XJ,YW]at a⊢;unfold dq;rw[Wu a]
 |seen,x::xs,i+1,h,c,a=>by have d:=c 0 (by omega);simp only[Xf,XJ,YW]at d;unfold dq;rw[Wt (by rw[d];simp)];have:=Im (chk:=chk) (seen:=seen++[x]) (l:=xs) (i:=i) (by simpa using h) (λj e=>by simpa using c (j+1) (by omega)) (by simpa using a);simpa using this
theorem C9{a}{chk:List a->a->Int}:∀{seen l:List a},(∀j (b:j<l.length),chk (seen++l.take j) l[j]=0)->dq chk seen l=0
 |seen,[],_=>rfl
 |seen,x::xs,c=>by have d:=c 0 (by simp);simp only[Xf,XJ,YW]at d;unfold dq;rw[Wt (by rw[d];simp)];refine C9 λj b=>?_;have:=c (j+1) (by simpa using b);simpa only[Xi,List.getElem_cons_succ,XR,List.singleton_append]using this
def fR{a}{chk:List a->a->Int}{l:List a}{i:Nat}(h:i<l.length)(d:∀j (c:j<i) (g:j<l.length),chk (l.take j) l[j]=0){f:Int}(e:chk (l.take i) l[i]=f)(b:f≠0):dq chk [] l=f:=by subst e;have:=Im (chk:=chk) (seen:=[]) h (λj c=>by simpa using d j c (by omega)) (by simpa using b);simpa using this
def fI{a}{chk:List a->a->Int}{l:List a}(c:∀j (b:j<l.length),chk (l.take j) l[j]=0):dq chk [] l=0:=C9 λj b=>by simpa using c j b
def fS{a}{chk:List a->a->Int}{l:List a}{k:Nat}(c:∀j (_:j<k) (b:j<l.length),chk (l.take j) l[j]=0)(d:k<l.length)(h:chk (l.take k) l[k]=0):∀j (_:j<k+1) (b:j<l.length),chk (l.take j) l[j]=0:=λj e b=>by obtain h2|h2:=Wx j k;exact c j h2 b;(have:j=k:=by omega);subst this;exact h
def Io{a}{l:List a}{p:a->Bool}{i:Nat}:(l.take i).any p=false↔∀j (_:j<i) (e:j<l.length),p l[j]=false:=by rw[YD];constructor;intro h j b f;(have c:l[j]∈l.take i:=by rw[ZR];exact⟨j,by omega,rfl⟩);simpa using h _ c;intro h x d;obtain⟨j,b,rfl⟩:=ZR.1 d;simp[h j (by omega) (by omega)]
def Nj{s:UV}(h:s.size=0\/10<s.size):dZ s=false:=by unfold dZ av;obtain h|h:=h;rw[h];rfl;rw[show decide ((s.size:Int)<=10)=false from Wz (by omega),YA,ZN,ZN]
def head_data{s:UV}(h:0<s.size):s.data.toList.head?=some s[0]:=by (have a:0<s.data.toList.length:=by rw[<-Lib.size_eq];exact h);rw[List.head?_eq_getElem?,WN a];rfl
def Ip{s:UV}{p:UInt8->Bool}:s.data.toList.all p=true↔∀j (h:j<s.size),p s[j]=true:=by rw[Xe];constructor;intro h j a;exact h _ (WG (l:=s.data.toList) (n:=j) (by rw[<-Lib.size_eq];exact a));intro h x b;obtain⟨j,a,rfl⟩:=XO b;exact h j (by rw[Lib.size_eq];exact a)
def Kz{s:UV}(b:s.size≠0)(c:s.size<=10)(a:bp (s[0]'(by omega))=true)(h:∀j (h:j<s.size),(bp s[j]||j6 s[j])=true):dZ s=true:=by unfold dZ av;rw[head_data (by omega),Ip.2 h,WE (by omega),WE (by omega)];simpa using a
def Ah{s:UV}{k:Nat}(c:k<s.size)(h:bp s[k]=false)(a:j6 s[k]=false\/k=0):dZ s=false:=by rw[Zz];intro b;unfold dZ at b;simp only[WI]at b;obtain⟨⟨_,d⟩,e⟩:=b;obtain a|rfl:=a;have:=Ip.1 e k c;rw[h,a]at this;cases this;rw[head_data c]at d;simp[h]at d
def Lx(s:UV)(w:xv)(M:s.size<=9223372036854775807):ac fs 111 #[.string s] w (.bool (dZ s)):=by
 have e60:=e60 L;by_cases h0:s.size=0\/10<s.size
 .rw[Nj h0];go_enter (n111 L),Tryz.ntmps111;obtain h0|h0:=h0
  ·(have t:((s.size:Int)==0)=true:=by rw[Xw];omega);go_wp2;go_ret;exact⟨rfl,Below.refl _ _⟩
  have t:((s.size:Int)==0)=false:=by rw[W5];omega
  have F:decide ((10:Int)<(s.size:Int))=true:=WE (by omega);go_wp2;go_ret;exact⟨rfl,Below.refl _ _⟩
 have t:((s.size:Int)==0)=false:=by rw[W5];omega
 have F:decide ((10:Int)<(s.size:Int))=false:=Wz (by omega);have h0:s.size≠0/\s.size<=10:=by omega
 go_enter (n111 L),Tryz.ntmps111;go_wp2;go_loopw [3] (λi wr=>∃k:Nat,k<=s.size/\i=.i k/\(∀j (h:j<k) (G:j<s.size),(bp s[j]||j6 s[j])=true)/\(0<k->bp (s[0]'(by omega))=true)/\jg w wr) (λi _=>s.size-(intOf i).toNat);case atStart=>exact⟨0,WB _,rfl,λj h=>absurd h (WM _),λh=>absurd h (Zv _),Below.refl _ _⟩
 case round=>
  obtain⟨k,N,rfl,u,v,z⟩:=hrel;have A:Hid _:=u;have o:Hid _:=v;have p:Hid _:=z;clear u v z;obtain c|hge:=Wx k s.size
  .have O:k<s.size:=c;(obtain⟨m,d⟩:=ex (bp s[k]);obtain⟨n,f⟩:=ex (j6 s[k]);have g:wrap64 (s[k].toNat:Int)=s[k].toNat:=by have:=s[k].toNat_lt;unfold wrap64;omega);(have B:∀x:au w wr,Calls (Qs fs) 60 #[.i (wrap64 (s[k].toNat:Int)),.i 97,.i 122] x.val λe w'=>e=.returned (.bool m)/\∃y:au w wr,w'=y.val:=λx=>by rw[d,g];exact au.same (yB L _ _ _ x.val));(have C:∀x:au w wr,Calls (Qs fs) 60 #[.i (wrap64 (s[k].toNat:Int)),.i 48,.i 57] x.val λe w'=>e=.returned (.bool n)/\∃y:au w wr,w'=y.val:=λx=>by rw[f,g];exact au.same (yB L _ _ _ x.val));(have l:Hid _:=(⟨d,f⟩:m=bp s[k]/\n=j6 s[k]));(clear d f g;go_upto_region 6 with fail;refine aZ (w0:=w) (w1:=wr) 10 (by kernel_rfl) (by kernel_rfl) (ae.refl _) p.o ?_;simp only[Xi,Xf,Xn,Xl];haveI q:Nonempty (au w wr):=⟨⟨wr,ae.refl _,p.o⟩⟩);(repeat (go_big_quiet_step ((go_at_call 60;first|exact B _|exact C _))));refine wpQuiet_nil ?_;rintro P ⟨⟨_,H,D⟩,rfl⟩;have a:Hid _:=D;clear B C q H D;by_cases r:k=0
   .subst r
    cases m with
    |true=>(go_wp2;refine⟨⟨1,by omega,by go_num,λj I E=>?_,λ_=>l.o.1.symm,a.o⟩,by simp[intOf];omega⟩;have:j=0:=by omega);subst this;rw[<-l.o.1];rfl
    |false=>cases n<;>(go_wp2;go_ret;exact⟨by rw[Ah c l.o.1.symm (.inr rfl)];rfl,a.o⟩)
   (have J:((k:Int)==0)=false:=by rw[W5];omega);(have b:(m||n)=true->∀j (h:j<k+1) (G:j<s.size),(bp s[j]||j6 s[j])=true:=λK j I E=>by obtain h3|h3:=Wx j k;exact A.o j h3 E;(have:j=k:=by omega);subst this;rw[<-l.o.1,<-l.o.2];exact K);have HS:Hid _:=b;clear b;cases m with|true=>go_wp2;exact⟨⟨k+1,by omega,by go_num,HS.o rfl,λ_=>o.o (by omega),a.o⟩,by simp[intOf];omega⟩|false=>cases n with|true=>go_wp2;exact⟨⟨k+1,by omega,by go_num,HS.o rfl,λ_=>o.o (by omega),a.o⟩,by simp[intOf];omega⟩|false=>go_wp2;go_ret;exact⟨by rw[Ah c l.o.1.symm (.inl l.o.2.symm)];rfl,a.o⟩
  go_wp2;go_ret;exact⟨by rw[Kz h0.1 h0.2 (o.o (by omega)) λj h=>A.o j (by omega) h];rfl,p.o⟩
def KA(l:List Pr2)(i:Nat)(a:i<l.length):letterF (l.take i) l[i]=if !bz l[i].1 4 then 3 else if(l.take i).any (λq=>decide (q.1=l[i].1))then 5 else if !bg l[i].2 1 3 then 3 else 0:=rfl
def Ai{K:Nat->Prop}{v:x6}{l:List Pr2}(w:xv)(J:aB K 2 dO w v l)(X:∀p∈l,p.1.size<=1000/\p.2.size<=1000)(hn:l.length<=1000):ac fs 58 #[v] w (.i (aL 0 12 letterF l)):=by
 have Ra:=Ra L;have e61:=e61 L;obtain⟨ao,c,rfl,af,hc,_,n⟩:=J;by_cases ag:12<l.length
 .have g:(12:Int)<(l.length:Int):=by omega
  have e:aL 0 12 letterF l=2:=by unfold aL av;rw[Wz (p:=(l.length:Int)<=12) (by omega),YA];rfl
  rw[e];clear X n;go_enter (n58 L),Tryz.ntmps58;go_wp2;go_ret;exact⟨rfl,Below.refl _ _⟩
 have g:decide ((12:Int)<(l.length:Int))=false:=Wz (by omega);have e:aL 0 12 letterF l=dq letterF [] l:=by unfold aL av;rw[WE (by omega),WE (by omega)];rfl
 rw[e];clear e;have HS:Hid _:=X;have HC:Hid _:=n;clear X n;go_enter (n58 L),Tryz.ntmps58;go_wp2;go_loopw [3] (λs wr=>∃k:Nat,k<=l.length/\s=.i k/\(∀j (_:j<k) (Y:j<l.length),letterF (l.take j) l[j]=0)/\jg w wr) (λs _=>l.length-(intOf s).toNat);case atStart=>exact⟨0,WB _,rfl,λj h=>absurd h (WM _),Below.refl _ _⟩
 case round=>
  obtain⟨k,hk,rfl,hf,hb⟩:=hrel;have Z:Hid _:=hf;have T:Hid _:=hb;clear hf hb;obtain t|hge:=Wx k l.length
  .obtain⟨b,off,rfl,hx⟩:=HC.o k t;obtain⟨F,C⟩:=HS.o l[k] (WG t);obtain⟨u,y⟩:=hx;have a:=KA l k t;have U:=ae.below T.o;have HR:Hid (∀j (hj:j<l.length),wr.cell? ⟨b,off+j*2,none⟩=some (.string l[j].1)):=λj hj=>by obtain⟨b',o',e',hy⟩:=HC.o j hj;cases e';exact U.cell hy.1
   have u:=U.cell u;have y:=U.cell y;clear U;obtain⟨p,hp⟩:=ex (l[k]);rw[<-hp]at u y F C a;obtain⟨p0,V⟩:=p;simp only[]at u y F C a;have z:=λwx=>wX L p0 4 wx (by omega);have B:=λwx=>oz L V 1 3 wx (by omega);obtain⟨z1,M⟩:=ex (bz p0 4);obtain⟨z2,N⟩:=ex (bg V 1 3);simp only[<-M]at z a;simp only[<-N]at B a;have HP:Hid _:=hp;have W:Hid _:=a;clear M N hp a;have D:∀{f:Int},letterF (l.take k) (p0,V)=f->f≠0->dq letterF [] l=f:=λF C=>fR t Z.o (by rw[<-HP.o];exact F) C;have HG:Hid (letterF (l.take k) (p0,V)=0->∀j (_:j<k+1) (Y:j<l.length),letterF (l.take j) l[j]=0):=λh=>fS Z.o t (by rw[<-HP.o];exact h);have G:Hid _:=@D;clear D;cases z1 with
   |false=>have A:=G.o (W.o.trans rfl:_=(3:Int)) (by decide);have HV:Hid _:=A;clear A B;go_wp2_with (go_at_call 110;refine(z _).mono ?_;rintro e w' ⟨rfl,rfl⟩);go_ret;exact⟨by rw[HV.o];rfl,T.o⟩
   |true=>
    (go_upto_block 2 with((go_at_call 110;refine(z _).mono ?_;rintro e w' ⟨rfl,m⟩;rw[m];clear m)));go_wp2;go_loopw [4] (λs wi=>∃j:Nat,j<=k/\s=.i j/\(∀i (_:i<j) (Y:i<l.length),l[i].1≠p0)/\ae wr wi/\jg w wi) (λs _=>k-(intOf s).toNat);case atStart=>exact⟨0,WB _,rfl,λj h=>absurd h (WM _),ae.refl _,T.o⟩
    case round=>
     (obtain⟨j,hj,rfl,O,o,H⟩:=hrel;have HN:Hid _:=O;have P:Hid _:=(⟨o,H⟩:_/\jg w wr));have y1:=o.cell u;have y2:=o.cell y;clear O;obtain hjk|hjk:=Wx j k
     .have y0:=o.cell (HR.o j (by omega));(obtain⟨r,hr⟩:=ex (l[j].1);rw[<-hr]at y0;have l0:∀x:au w wr,x.val.cell? ⟨b,off+j*2,none⟩=some (.string r):=λx=>x.st.cell y0;have l1:∀x:au w wr,x.val.cell? ⟨b,off+k*2,none⟩=some (.string p0):=λx=>x.st.cell y1;obtain⟨d,hd⟩:=ex (decide (r=p0));have I:=kZ r p0;rw[<-hd]at I;have HD:Hid _:=hd;have Q:Hid _:=hr;clear hd;clear hr o H;go_upto_region 11 with fail;refine aO (w0:=w) (w1:=wr) (by kernel_rfl) (by kernel_rfl) (ae.refl _) P.o.2 ?_;haveI aa:Nonempty (au w wr):=⟨⟨wr,ae.refl _,P.o.2⟩⟩);(repeat (go_big_quiet_step (fail)));(refine wpQuiet_nil ?_;rintro wz ⟨⟨_,Sz,Bz⟩,rfl⟩;have HZ:Hid _:=(⟨P.o.1.trans Sz,Bz⟩:_/\_));clear l0 l1 aa Sz Bz y0 y1 y2;cases d with|true=>have R:r=p0:=W6 HD.o.symm;have A:=G.o (W.o.trans (by rw[Wt (by simp),Wu];rw[Xv];exact⟨l[j],ZR.2 ⟨j,by omega,rfl⟩,WE (Q.o▸R)⟩):_=(5:Int)) (by decide);have HV:Hid _:=A;clear I R A;go_wp2;go_ret;exact⟨by rw[HV.o];rfl,HZ.o.2⟩|false=>(have R:r≠p0:=ZI HD.o.symm;have S:∀i (_:i<j+1) (Y:i<l.length),l[i].1≠p0:=λi F C=>by obtain h3|h3:=Wx i j;exact HN.o i h3 C;(have:i=j:=by omega);subst this;exact Q.o▸R);have ab:Hid _:=S;clear I R S;go_wp2;exact⟨⟨j+1,by omega,by go_num,ab.o,HZ.o.1,HZ.o.2⟩,by simp[intOf];omega⟩
     (have ad:j=k:=by omega);subst ad;have E:(l.take j).any (λq=>decide (q.1=p0))=false:=Io.2 λi F C=>Wz (HN.o i F C);have HA:Hid _:=E;clear E o H;cases z2 with|false=>have A:=G.o (W.o.trans (by rw[HA.o];rfl):_=(3:Int)) (by decide);have HV:Hid _:=A;clear A;go_wp2_with (go_at_call 61;refine(B _).mono ?_;rintro e w' ⟨rfl,m⟩;rw[m];clear m);go_ret;exact⟨by rw[HV.o];rfl,P.o.2⟩|true=>have A:=HG.o (W.o.trans (by rw[HA.o];rfl));have HV:Hid _:=A;clear A;go_wp2_with (go_at_call 61;refine(B _).mono ?_;rintro e w' ⟨rfl,m⟩;rw[m];clear m);exact⟨⟨j+1,by omega,by go_num,HV.o,P.o.2⟩,by simp[intOf];omega⟩
  go_wp2;go_ret;exact⟨by rw[fI λj h=>Z.o j (by omega) h];rfl,T.o⟩
def KB(l:List kE)(i:Nat)(a:i<l.length)(n:UV)(ss:List Pr2):dJ (l.take i) ⟨n,ss⟩=if !dZ n then 4 else if(l.take i).any (λq=>decide (q.name=n))then 5 else aL 0 5 eF ss:=rfl
def Aj{K:Nat->Prop}{v:x6}{l:List kE}(w:xv)(aa:aB K 2 fW w v l)(hs:∀t∈l,t.name.size<=1000/\∀p∈t.bd,p.1.size<=1000/\p.2.size<=1000)(hn:l.length<=1000):ac fs 59 #[v] w (.i (aL 0 3 dJ l)):=by
 have Rb:=Rb L;have e61:=e61 L;obtain⟨ao,c,rfl,aK,hc,_,C⟩:=aa;by_cases aM:3<l.length
 .have g:(3:Int)<(l.length:Int):=by omega
  have e:aL 0 3 dJ l=2:=by unfold aL av;rw[Wz (p:=(l.length:Int)<=3) (by omega),YA];rfl
  rw[e];clear hs C;go_enter (n59 L),Tryz.ntmps59;go_wp2;go_ret;exact⟨rfl,Below.refl _ _⟩
 have g:decide ((3:Int)<(l.length:Int))=false:=Wz (by omega);have e:aL 0 3 dJ l=dq dJ [] l:=by unfold aL av;rw[WE (by omega),WE (by omega)];rfl
 rw[e];clear e;have HS:Hid _:=hs;have HC:Hid _:=C;clear hs C;go_enter (n59 L),Tryz.ntmps59;go_wp2;go_loopw [3] (λs wr=>∃k:Nat,k<=l.length/\s=.i k/\(∀j (_:j<k) (h':j<l.length),dJ (l.take j) l[j]=0)/\jg w wr) (λs _=>l.length-(intOf s).toNat);case atStart=>exact⟨0,WB _,rfl,λj h=>absurd h (WM _),Below.refl _ _⟩
 case round=>
  obtain⟨k,hk,rfl,hf,hb⟩:=hrel;have HF:Hid _:=hf;have HB:Hid _:=hb;clear hf hb;obtain G|hge:=Wx k l.length
  .obtain⟨b,off,rfl,hx⟩:=HC.o k G;obtain⟨P,F⟩:=HS.o l[k] (WG G);obtain⟨D,vs,Q,H⟩:=hx;have HR:Hid (∀j (hj:j<l.length),w.cell? ⟨b,off+j*2,none⟩=some (.string l[j].name)):=λj hj=>by obtain⟨b',o',e',hy⟩:=HC.o j hj;cases e';exact hy.1
   have S0:=ae.below HB.o;have R:w.cell? ⟨b,off+k*2+1,none⟩=some vs:=Q;have D:=S0.cell D;have Q:=S0.cell Q;clear S0;obtain⟨p,hp⟩:=ex (l[k]);rw[<-hp]at D P F H;obtain⟨p0,p1⟩:=p;simp only[]at D Q P F H;have a:=KB l k G p0 p1;have I:=λwx=>Lx L p0 wx (by omega);obtain⟨z1,J⟩:=ex (dZ p0);simp only[<-J]at I a;have HP:Hid _:=hp;have HL:Hid _:=a;clear J hp a;have T:∀{f:Int},dJ (l.take k) ⟨p0,p1⟩=f->f≠0->dq dJ [] l=f:=λP F=>fR G HF.o (by rw[<-HP.o];exact P) F;have HG:Hid (dJ (l.take k) ⟨p0,p1⟩=0->∀j (_:j<k+1) (h':j<l.length),dJ (l.take j) l[j]=0):=λh=>fS HF.o G (by rw[<-HP.o];exact h);have S:Hid _:=@T;clear T;have q1:=I wr;clear I;cases z1 with
   |false=>have B:=S.o (HL.o.trans rfl:_=(4:Int)) (by decide);have HV:Hid _:=B;clear B;go_wp2_with (go_at_call 111;refine q1.mono ?_;rintro e w3 ⟨rfl,M⟩);go_ret;exact⟨by rw[HV.o];rfl,HB.o.trans (M.mono HB.o.size)⟩
   |true=>
    (go_upto_block 2 with((go_at_call 111;refine q1.mono ?_;rintro e w3 ⟨rfl,M⟩)));have ah:Hid (jg w w3):=HB.o.trans (M.mono HB.o.size);have D:=(ae.below M).cell D;clear M q1;go_wp2;go_loopw [4] (λs wi=>∃j:Nat,j<=k/\s=.i j/\(∀i (_:i<j) (h':i<l.length),l[i].name≠p0)/\ae w3 wi/\jg w wi) (λs _=>k-(intOf s).toNat);case atStart=>exact⟨0,WB _,rfl,λj h=>absurd h (WM _),ae.refl _,ah.o⟩
    case round=>
     (obtain⟨j,hj,rfl,N,A,n⟩:=hrel;have HN:Hid _:=N;have HI:Hid _:=(⟨A,n⟩:_/\jg w wr));have y1:=A.cell D;have y2:=(ae.below n).cell R;clear N;obtain hjk|hjk:=Wx j k
     .have y0:=(ae.below n).cell (HR.o j (by omega));(obtain⟨r,W⟩:=ex (l[j].name);rw[<-W]at y0;have l0:∀x:au w wr,x.val.cell? ⟨b,off+j*2,none⟩=some (.string r):=λx=>x.st.cell y0;have l1:∀x:au w wr,x.val.cell? ⟨b,off+k*2,none⟩=some (.string p0):=λx=>x.st.cell y1;obtain⟨d,hd⟩:=ex (decide (r=p0));have X:=kZ r p0;rw[<-hd]at X;have HD:Hid _:=hd;have O:Hid _:=W;clear hd;clear W A n;go_upto_region 11 with fail;refine aO (w0:=w) (w1:=wr) (by kernel_rfl) (by kernel_rfl) (ae.refl _) HI.o.2 ?_;haveI ak:Nonempty (au w wr):=⟨⟨wr,ae.refl _,HI.o.2⟩⟩);(repeat (go_big_quiet_step (fail)));(refine wpQuiet_nil ?_;rintro wz ⟨⟨_,Sz,Bz⟩,rfl⟩;have HZ:Hid _:=(⟨HI.o.1.trans Sz,Bz⟩:_/\_));clear l0 l1 ak Sz Bz y0 y1 y2;cases d with|true=>have he:r=p0:=W6 HD.o.symm;have B:=S.o (HL.o.trans (by rw[Wt (by simp),Wu];rw[Xv];exact⟨l[j],ZR.2 ⟨j,by omega,rfl⟩,WE (O.o▸he)⟩):_=(5:Int)) (by decide);have HV:Hid _:=B;clear X he B;go_wp2;go_ret;exact⟨by rw[HV.o];rfl,HZ.o.2⟩|false=>(have he:r≠p0:=ZI HD.o.symm;have ab:∀i (_:i<j+1) (h':i<l.length),l[i].name≠p0:=λi P F=>by obtain h3|h3:=Wx i j;exact HN.o i h3 F;(have:i=j:=by omega);subst this;exact O.o▸he);have al:Hid _:=ab;clear X he ab;go_wp2;exact⟨⟨j+1,by omega,by go_num,al.o,HZ.o.1,HZ.o.2⟩,by simp[intOf];omega⟩
     (have an:j=k:=by omega);(subst an;have U:(l.take j).any (λq=>decide (q.name=p0))=false:=Io.2 λi P F=>Wz (HN.o i P F);have HA:Hid (dJ (l.take j) ⟨p0,p1⟩=aL 0 5 eF p1):=by rw[Hid,HL.o,U];rfl);(have H:=H.stays (ae.below n) λx y o z e h=>by subst e;exact⟨(ae.below n).cell h.1,(ae.below n).cell h.2⟩);obtain⟨aR,cs,rfl,a1,a6,_,E⟩:=H;have ar:Hid _:=E;clear U A n E;by_cases h5:5<p1.length
     ·(have g5:(5:Int)<(p1.length:Int):=by omega);have B:=S.o (HA.o.trans (by unfold aL av;rw[Wz (p:=(p1.length:Int)<=5) (by omega),YA];rfl):_=(2:Int)) (by decide);have HV:Hid _:=B;clear B;go_wp2;go_ret;exact⟨by rw[HV.o];rfl,HI.o.2⟩
     have g5:decide ((5:Int)<(p1.length:Int))=false:=Wz (by omega);(have e5:aL 0 5 eF p1=dq eF [] p1:=by unfold aL av;rw[WE (by omega),WE (by omega)];rfl);have ad:Hid _:=HA.o.trans e5;clear e5
     (go_upto_block 4 with fail);go_wp2;go_loopw [5] (λs wi=>∃m:Nat,m<=p1.length/\s=.i m/\(∀i (_:i<m) (h':i<p1.length),eF (p1.take i) p1[i]=0)/\ae wr wi/\jg w wi) (λs _=>p1.length-(intOf s).toNat);case atStart=>exact⟨0,WB _,rfl,λj h=>absurd h (WM _),ae.refl _,HI.o.2⟩
     case round=>
      (obtain⟨m,hm,rfl,N,A,n⟩:=hrel;have Y:Hid _:=N;have af:Hid _:=(⟨A,n⟩:_/\jg w wr));have y3:=A.cell y2;clear N;obtain hmk|hmk:=Wx m p1.length
      .obtain⟨b2,o2,rfl,u1,u2⟩:=ar.o m hmk;(obtain⟨k1,k2⟩:=F p1[m] (WG hmk);have u1:=A.cell u1;have u2:=A.cell u2;have a:eF (p1.take m) p1[m]=if !bg p1[m].1 1 3|| !bg p1[m].2 0 p1[m].1.size then 3 else 0:=rfl);obtain⟨r,W⟩:=ex (p1[m]);rw[<-W]at u1 u2 k1 k2 a;obtain⟨r0,r1⟩:=r;simp only[]at u1 u2 k1 k2 a;have qa:=λwx=>oz L r0 1 3 wx (by omega);have qb:=λwx=>oz L r1 0 r0.size wx (by omega);obtain⟨z1,J⟩:=ex (bg r0 1 3);obtain⟨z2,R⟩:=ex (bg r1 0 r0.size);simp only[<-J]at qa a;simp only[<-R]at qb a;have O:Hid _:=W;have Z:Hid _:=a;have S2:Hid _:=ae.alloc wr (.cells #[.string r0,.string r1] 51);have B2:Hid _:=n.alloc n.size (.cells #[.string r0,.string r1] 51);clear J R W a A n;have ag:∀{f:Int},eF (p1.take m) (r0,r1)=f->f≠0->dq dJ [] l=f:=λP F=>S.o (ad.o.trans (fR hmk Y.o (by rw[<-O.o];exact P) F)) F;have V:Hid _:=@ag;have ax:Hid (eF (p1.take m) (r0,r1)=0->∀i (_:i<m+1) (h':i<p1.length),eF (p1.take i) p1[i]=0):=λh=>fS Y.o hmk (by rw[<-O.o];exact h);clear ag;cases z1 with|false=>have B:=V.o (Z.o.trans rfl:_=(3:Int)) (by decide);have HV:Hid _:=B;clear B;go_wp2_with (go_at_call 61;refine(qa _).mono ?_;rintro e w' ⟨rfl,u⟩;rw[u];clear u);go_ret;exact⟨by rw[HV.o];rfl,B2.o⟩|true=>cases z2 with|false=>have B:=V.o (Z.o.trans rfl:_=(3:Int)) (by decide);have HV:Hid _:=B;clear B;go_wp2_with (go_at_call 61;first|(refine(qa _).mono ?_;rintro e w' ⟨rfl,u⟩;rw[u];clear u)|(refine(qb _).mono ?_;rintro e w' ⟨rfl,u⟩;rw[u];clear u));go_ret;exact⟨by rw[HV.o];rfl,B2.o⟩|true=>have B:=ax.o (Z.o.trans rfl);have HV:Hid _:=B;clear B;go_wp2_with (go_at_call 61;first|(refine(qa _).mono ?_;rintro e w' ⟨rfl,u⟩;rw[u];clear u)|(refine(qb _).mono ?_;rintro e w' ⟨rfl,u⟩;rw[u];clear u));exact⟨⟨m+1,by omega,by go_num,HV.o,af.o.1.trans S2.o,B2.o⟩,by simp[intOf];omega⟩
      (have ay:m=p1.length:=by omega);subst ay;have B:=HG.o (ad.o.trans (fI λi h=>Y.o i h h));have HV:Hid _:=B;clear B A n;go_wp2;exact⟨⟨j+1,by omega,by go_num,HV.o,af.o.2⟩,by simp[intOf];omega⟩
  go_wp2;go_ret;exact⟨by rw[fI λj h=>HF.o j (by omega) h];rfl,HB.o⟩
end Go.Proofs
namespace Go.Proofs
open Go.Tm Go.RowKit
section
variable (fs:Array Func)
def iG(t):(Qs fs).fieldsOf t=Tryz.prog.fieldsOf t:=by unfold Program.fieldsOf;rw[aP]
def Ru{t}(h:Tryz.prog.eqGuardType Tryz.prog.depth t=false):(Qs fs).eqGuardType (Qs fs).depth t=false:=by rw[nK,show(Qs fs).depth=Tryz.prog.depth from rfl];exact h
def qW{t}(h:Tryz.prog.stoodInHeld t=false):(Qs fs).stoodInHeld t=false:=by rw[fp];exact h
def nL{t l}(h:Tryz.prog.underlying t=some (.struct l)):(Qs fs).underlying t=some (.struct ((Qs fs).fieldsOf t)):=by rw[iG,aP];unfold Program.fieldsOf;rw[h]
def tK:Tryz.prog.eqGuardType Tryz.prog.depth 86=false:=by kernel_rfl
def Lb:Tryz.prog.stoodInHeld 86=false:=by kernel_rfl
def DT:Tryz.prog.eqGuardType Tryz.prog.depth 66=false:=by kernel_rfl
def Lc:Tryz.prog.stoodInHeld 66=false:=by kernel_rfl
def Rv:Tryz.prog.eqGuardType Tryz.prog.depth 96=false:=by kernel_rfl
def Rx:Tryz.prog.stoodInHeld 96=false:=by kernel_rfl
def yT(a b c x y z w):(binOp .eql 86 (.agg #[.i a,.i b,.i c]) (.agg #[.i x,.i y,.i z])).run (Qs fs) w=.ok (.bool (decide (a=x/\b=y/\c=z))) w:=by rw[run_eql_struct,run_equalIn_struct w _ 86 _ _ (nL fs Tryz.underlying86) (qW fs Lb),iG,Program.fieldsOf,Tryz.underlying86];simp[go_sem];by_cases d:a=x<;>by_cases e:b=y<;>by_cases f:c=z<;>simp[d,e,f]
def Ca(a b c x y z w):(binOp .neq 86 (.agg #[.i a,.i b,.i c]) (.agg #[.i x,.i y,.i z])).run (Qs fs) w=.ok (.bool (!decide (a=x/\b=y/\c=z))) w:=by rw[run_neq_struct,run_equalIn_struct w _ 86 _ _ (nL fs Tryz.underlying86) (qW fs Lb),iG,Program.fieldsOf,Tryz.underlying86];simp[go_sem];by_cases d:a=x<;>by_cases e:b=y<;>by_cases f:c=z<;>simp[d,e,f]
def Cb(a b c x y z w):(binOp .neq 66 (.agg #[.i a,.i b,.i c]) (.agg #[.i x,.i y,.i z])).run (Qs fs) w=.ok (.bool (!decide (a=x/\b=y/\c=z))) w:=by rw[run_neq_struct,run_equalIn_struct w _ 66 _ _ (nL fs Tryz.underlying66) (qW fs Lc),iG,Program.fieldsOf,Tryz.underlying66];simp[go_sem];by_cases d:a=x<;>by_cases e:b=y<;>by_cases f:c=z<;>simp[d,e,f]
def L1(a b c x y z w):(binOp .neq 96 (.agg #[.i a,.i b,.int .u8 c]) (.agg #[.i x,.i y,.int .u8 z])).run (Qs fs) w=.ok (.bool (!decide (a=x/\b=y/\c=z))) w:=by rw[run_neq_struct,run_equalIn_struct w _ 96 _ _ (nL fs Tryz.underlying96) (qW fs Rx),iG,Program.fieldsOf,Tryz.underlying96];simp[go_sem];by_cases d:a=x<;>by_cases e:b=y<;>by_cases f:c=z<;>simp[d,e,f]
def fQ{t}(h:Tryz.prog.eqGuardType Tryz.prog.depth t=false)(a x y xs b w):(eqGuard a t x y (.agg xs) (.agg b)).run (Qs fs) w=.ok () w:=run_eqGuard_agg w a t x y xs b (Ru fs h)
end
def O3{s:Array Bool}{i k}(h:(s.setIfInBounds i true).getD k false=true):k=i\/s.getD k false=true:=by by_cases e:k=i;exact .inl e;right;rw[XC,WK (WT e)]at h;rw[XC];exact h
def aS{s:Array Bool}{i k}(h:(s.setIfInBounds i true).getD k false=true)(a:k≠i):s.getD k false=true:=(O3 h).resolve_left a
section
variable {P:Program} {md:Region.Mode} {ops:Array Oper} {Q:Exit->Act->xv->Prop} {I:Array Bool->Act->xv->Prop}
theorem lH(c:∀s a w i,I s a w->i∈Region.ready md ops s->wpOp P ops Q i (λl w'=>I (s.setIfInBounds i true) l w') a w) (d:∀s a w,I s a w->Region.ready md ops s=[]->Q .normal a w):∀(f) (s) (a) (w),s.toList.count false<=f->I s a w->wpAny P md ops Q f s a w
 |0,s,a,w,r,h=>by
  have o:Region.ready md ops s=[]:=by
   rw[List.eq_nil_iff_forall_not_mem];intro i k;obtain⟨e,_⟩:=mem_ready.1 k;have:false∈s.toList:=by
    rw[XC]at e;cases m:s[i]? with
    |none=>rw[m]at e;cases e
    |some b=>rw[m]at e;have n:b=false:=e;subst n;exact Xr (by rw[XF];exact m)
   have:=List.count_pos_iff.2 this;omega
  exact⟨o,d s a w h o⟩
 |f+1,s,a,w,r,h=>by
  refine⟨d s a w h,λi k=>wpOp_mono (λl w' t=>lH c d f _ l w' ?_ t) (c s a w i h k)⟩;obtain⟨e,_⟩:=mem_ready.1 k;rw[XC]at e;have g:i<s.size:=by
   obtain h|h:=Wx i s.size
   .exact h
   .rw[Yf h]at e;cases e
  rw[W4 g]at e;have n:s[i]=false:=e;have p:i<s.toList.length:=by simpa using g
  have j:s.toList[i]=false:=by rw[ZY];exact n
  rw[aaB];have q:=List.count_set (a:=true) (b:=false) p;rw[j]at q;have u:0<s.toList.count false:=List.count_pos_iff.2 (j▸WG p);simp only[beq_self_eq_true,WL,XE,show(true==false)=false from rfl,WW,WU]at q;omega
def Vb(ops:Array Oper):Bool:=(List.range ops.size).all λk=>match ops[k]? with
 |some o=>o.after.all λe=>decide (e.on<k)
 |none=>true
theorem Gn{s}(a:s.size=ops.size)(d:Vb ops=true)(f:Region.ready md ops s=[]):∀(n k),k<n->k<ops.size->s.getD k false=true
 |0,k,h,_=>absurd h (WM _)
 |n+1,k,h,b=>by
  cases g:s.getD k false with
  |true=>rfl
  |false=>
   exfalso;have c:k<s.size:=by omega
   have l:s.getD k true=false:=by rw[XC,W4 c]at g⊢;exact g
   have i:k∈Region.ready md ops s:=mem_ready.2 ⟨l,ops[k],W4 b,λe m _=>by have j:=Xe.1 d k (Y0.2 b);rw[W4 b]at j;have o:=YC.1 j e m;have p:e.on<k:=W6 o;exact Gn a d f n e.on (by omega) (by omega)⟩
   rw[f]at i;cases i
end
def bt{s:Array Bool}{i k}(h:s.getD k false=true):(s.setIfInBounds i true).getD k false=true:=by rw[XC]at h⊢;by_cases e:k=i;subst e;(have a:k<s.size:=by obtain h'|h':=Wx k s.size;exact h';rw[Yf h']at h;cases h);rw[ZK a];rfl;rw[WK (WT e)];exact h
def gU{s:Array Bool}{k}(h:s.getD k true=false):s.getD k false≠true:=by rw[XC]at h⊢;cases a:s[k]? with|none=>rw[a]at h;cases h|some b=>rw[a]at h;have:b=false:=h;subst this;simp
def ij(w1 W:xv)(ty:TypeId)(X:Nat):Prop:=w1.heap.size<=X/\∃c,W.heap[X]? =some (.cells #[.string c] ty (0,0))
def ij.new{w1 W:xv}{ty}(h:w1.heap.size<=W.heap.size)(c):ij w1 (W.alloc (.cells #[.string c] ty)) ty W.heap.size:=⟨h,c,Xh⟩
def ij.stays{w1 W a ty X}(h:ij w1 W ty X)(b:ae W a):ij w1 a ty X:=⟨h.1,h.2.elim λc d=>⟨c,b _ _ _ _ d⟩⟩
def ij.lt{w1 W ty X}(h:ij w1 W ty X):X<W.heap.size:=h.2.elim λc a=>(WC.1 a).1
def ij.cell{w1 W ty X}(h:ij w1 W ty X):∃v,W.cell? ⟨X,0,none⟩=some (.string v):=h.2.elim λc a=>⟨c,cell_of_heap a 0 _ rfl⟩
def ij.frozen{w1 W ty X}(h:ij w1 W ty X):W.frozen? ⟨X,0,none⟩=false:=h.2.elim λc a=>frozen_of_heap a 0
def ij.set{w1 W ty X}(h:ij w1 W ty X){v}:ij w1 (W.setCell ⟨X,0,none⟩ (.string v)) ty X:=by (obtain⟨a,c,b⟩:=h;refine⟨a,v,?_⟩;have d:(W.heap.modify X λo=>match o with| .cells c e F=>.cells (c.setIfInBounds 0 (.string v)) e F|o=>o)[X]? =some (.cells #[.string v] ty (0,0)):=by rw[XB,b];simp);exact d
def ij.other{w1 W ty X Y}(h:ij w1 W ty Y)(a:Y≠X){v}:ij w1 (W.setCell ⟨X,0,none⟩ v) ty Y:=⟨h.1,h.2.elim λc b=>⟨c,(Below.heap_setCell W ⟨X,0,none⟩ v Y a).trans b⟩⟩
end Go.Proofs
namespace Go.Proofs
open Go.Shelf Go.Tm
def vu:Go.Shelf.Ren:=⟨λ|150=>135|153=>165|152=>175|226=>176|227=>177|228=>178|137=>193|119=>194|224=>195|225=>196|217=>207|266=>211|155=>139|154=>166|138=>179|165=>180|143=>181|166=>94|197=>182|169=>95|195=>197|218=>198|240=>134|241=>199|219=>200|260=>201|276=>164|277=>208|267=>209|314=>212|n=>n,λ|117=>241|116=>240|46=>215|124=>257|72=>153|76=>158|105=>243|70=>151|37=>120|75=>157|127=>203|164=>210|119=>265|139=>268|138=>267|146=>272|51=>193|80=>160|n=>n,λ|1=>2|n=>n⟩
def kI{fs:Array Func}(L:bT fs):Lays.n150 (Qs fs) vu/\Lays.n138 (Qs fs) vu/\Lays.n165 (Qs fs) vu:=by
 refine⟨?_,?_,?_⟩<;>constructor;all_goals first
  |(intro w;first|with_reducible refine(Dw _ _ _ w).trans ?_|with_reducible refine(yA _ _ _ w).trans ?_|with_reducible refine(jZ _ _ _ w).trans ?_);rfl
  |(with_reducible refine(aP _ _ _).trans ?_);kernel_rfl
  |exact(L.1 _ (by decide) (by decide)).trans (by kernel_rfl)
  |kernel_rfl
end Go.Proofs
namespace Go.Proofs
open Go.Tm
variable {fs:Array Func} (L:bT fs)
def ep(b:Bool)(f:Int)(w:xv):ap fs 52 #[.bool b,.i f] w (.i (if b then f else 0)):=by go_enter (n52 L),Tryz.ntmps52;go_wp2;all_goals (go_ret;simp_all)
def fh:List Int->Int
 | []=>0
 |f::l=>if f≠0 then f else fh l
def tS(a:List Int)(k)(b:k<a.length):fh (a.drop k)=if a.getD k 0≠0 then a.getD k 0 else fh (a.drop (k+1)):=by rw[YT b];simp[fh,Zl,WN b]
open Go.RowKit in
def yn(b off c:Nat)(zs:List Int)(w:xv)(m:zs.length<=9223372036854775807)(j:∀k,k<zs.length->w.cell? ⟨b,off+k,none⟩=some (.i (zs.getD k 0))):ap fs 51 #[.slice (some ⟨b,off,none⟩) zs.length c] w (.i (fh zs)):=by
 go_enter (n51 L),Tryz.ntmps51;go_wp2
 go_loop [7] (λi=>∃k:Nat,k<=zs.length/\i=.i k/\fh zs=fh (zs.drop k)) (λi=>zs.length-(intOf i).toNat)
 case atStart=>exact⟨0,WB _,rfl,rfl⟩
 case round=>
  obtain⟨k,n,rfl,f⟩:=hrel;have g:k<zs.length->w.cell? ⟨b,off+k,none⟩=some (.i (zs.getD k 0)):=λh=>j k h;go_wp2
  ·(have a:k<zs.length:=by assumption);(have d:(zs[k]!=0)=true:=by assumption);(go_ret;refine⟨?_,rfl⟩;try rw[f]);rw[tS zs k a];simp only[X7]at d;simp[Zl,WN a,d]
  have a:k<zs.length:=by assumption
  have d:(zs[k]!=0)=false:=by assumption
  refine⟨⟨k+1,by omega,by go_num,?_⟩,by simp[intOf];omega⟩;rw[f,tS zs k a];simp only[bne_eq_false_iff_eq]at d;simp[Zl,WN a,d];have l:¬k<zs.length:=by assumption
  go_ret;refine⟨?_,rfl⟩;try rw[f]
  rw[Xg (by omega)];rfl
end Go.Proofs
namespace Go.Proofs
def qE(X Y:Nat->Nat)(k:Nat):Nat:=((List.range k).map λn=>min (X n) (Y n)).sum
def mz(X Y k):qE X Y (k+1)=qE X Y k+min (X k) (Y k):=by unfold qE;rw[Ze,Yr,List.sum_append];simp
theorem qG{X Y Z}:∀{k},(∀n,n<k->Y n=Z n)->qE X Y k=qE X Z k
 |0,_=>rfl
 |k+1,h=>by rw[mz,mz,qG λn a=>h n (by omega),h k (by omega)]
theorem Am(X Y h):∀k,h<k->qE X (λn=>if n=h then Y n+1 else Y n) k=qE X Y k+if Y h<X h then 1 else 0
 |0,a=>by omega
 |k+1,a=>by
  rw[mz,mz];by_cases e:h=k
  .subst e
   rw[qG (Z:=Y) λn b=>Wt (by omega)];simp only[WL];split<;>omega
  .rw[Am X Y h k (by omega),Wt (WT e)]
   omega
theorem Ao(X):∀k,qE X (λ_=>0) k=0
 |0=>rfl
 |k+1=>by rw[mz,Ao X k];simp
def KE(a b):(b.filter λn=>a.contains n).length+(bH b a).length=b.length:=by unfold bH;induction b with|nil=>rfl|cons x b c=>rw[XX,XX];cases a.contains x<;>simp only[XW,YJ,WL,WW,WU,WA]<;>omega
def E4{a b:List Int}(c:a.Nodup)(d:b.Nodup):(a.filter λn=>b.contains n).length=(b.filter λn=>a.contains n).length:=by (have h:(a.filter λn=>b.contains n).Perm (b.filter λn=>a.contains n):=(aaG (c.filter _) (d.filter _)).2 λx=>by rw[YU,YU];simp[and_comm]);exact h.length_eq
def Ly(x y k):pk x y k=qE (λn=>aT x n) (λn=>aT y n) k:=rfl
def qI(l x n):aT (l++[x]) n=aT l n+if x/100=n then 1 else 0:=by unfold aT;rw[YQ,WS];congr 1;by_cases h:x/100=n;rw[Wu h,XX];simp[h];rw[Wt h,XX];simp[h]
abbrev EK:=Bool×Int
def bump(f:EK->Nat)(p:EK):EK->Nat:=λq=>if q=p then f p+1 else f q
def mA(l:List Int)(n:Int):Nat:=(l.filter λx=>x==n).length
def xE(l x n):mA (l++[x]) n=mA l n+if x=n then 1 else 0:=by unfold mA;rw[YQ,WS];congr 1;by_cases h:x=n;rw[Wu h,XX];simp[h];rw[Wt h,XX];simp[h]
def Ap(l n):0<mA l n↔l.contains n=true:=by unfold mA;rw[List.length_pos_iff_exists_mem];simp[YU]
def Db(l n):mA l n<=l.length:=XI _ _
def uF(l n):aT l n<=l.length:=XI _ _
def o8(l m x):bH (l++[x]) m=if m.contains x then bH l m else bH l m++[x]:=by unfold bH;rw[YQ,XX,List.filter_nil];cases m.contains x<;>simp
def nZ(a b:List Int)(j:Nat):EK->Nat:=λp=>if p.1 then mA (a.take j) p.2 else aT (bH (a.take j) b) p.2
def Ns(a b):nZ a b 0=λ_=>0:=by funext p;unfold nZ;rw[Xf];split<;>rfl
def jN{a:Type}(l:List a)(j)(h:j<l.length):l.take (j+1)=l.take j++[l[j]]:=by rw[ZS,WN h];rfl
def SH(a b j)(h:j<a.length)(c:b.contains a[j]=true):nZ a b (j+1)=bump (nZ a b j) (true,a[j]):=by funext p;obtain⟨t,n⟩:=p;unfold bump nZ;rw[jN a j h,o8,Wu c];cases t with|true=>simp only[WL,xE];by_cases e:n=a[j];subst e;simp;rw[Wt (WT e),Wt (λh=>e (Y4 h).2)];rfl|false=>simp
def Qu(a b j)(h:j<a.length)(c:b.contains a[j]=false):nZ a b (j+1)=bump (bump (nZ a b j) (true,a[j])) (false,a[j]/100):=by (have d:bH (a.take (j+1)) b=bH (a.take j) b++[a[j]]:=by rw[jN a j h,o8,Wt (by rw[c];exact Zb)]);(have f:∀n,mA (a.take (j+1)) n=mA (a.take j) n+if a[j]=n then 1 else 0:=λn=>by rw[jN a j h,xE]);funext p;obtain⟨t,n⟩:=p;unfold bump nZ;rw[d];cases t with|true=>simp only[WL,f];by_cases e:n=a[j];subst e;simp;rw[Wt (WT e),Wt (λh=>by cases h),Wt (λh=>e (Y4 h).2)];rfl|false=>simp only[WW,WU,qI];by_cases e:n=a[j]/100;subst e;simp;rw[Wt (WT e),Wt (λh=>e (Y4 h).2)];simp
def pC(a b:List Int)(j:Nat):EK->Nat:=λp=>if p.1 then mA a p.2 else aT (bH a b) p.2-min (aT (bH a b) p.2) (aT (bH (b.take j) a) p.2)
def eT(a b:List Int)(j:Nat):Nat:=((b.take j).filter λn=>a.contains n).length
def js(a b:List Int)(j:Nat):Nat:=pk (bH a b) (bH (b.take j) a) 10
def Nt(a b):pC a b 0=nZ a b a.length:=by funext p;unfold pC nZ;rw[Xf,Yq];have:aT (bH [] a) p.2=0:=rfl;rw[this];simp
def SI(a b j)(h:j<b.length)(e:0<pC a b j (true,b[j])):pC a b (j+1)=pC a b j/\eT a b (j+1)=eT a b j+1/\js a b (j+1)=js a b j:=by (have c:=(Ap a b[j]).1 e;have d:bH (b.take (j+1)) a=bH (b.take j) a:=by rw[jN b j h,o8,Wu c]);refine⟨?_,?_,?_⟩;unfold pC;rw[d];unfold eT;rw[jN b j h,YQ,WS,XX,Wu c];rfl;unfold js;rw[d]
def Dc(f:EK->Nat)(p:EK):EK->Nat:=λq=>if q=p then f p-1 else f q
def Qv(a b j)(h:j<b.length)(d:pC a b j (true,b[j])=0)(l:0<=b[j]/\b[j]<=999):eT a b (j+1)=eT a b j/\pC a b (j+1)=Dc (pC a b j) (false,b[j]/100)/\js a b (j+1)=js a b j+if 0<pC a b j (false,b[j]/100)then 1 else 0:=by (have c:¬a.contains b[j]=true:=λh=>by have:=(Ap a b[j]).2 h;have d:mA a b[j]=0:=d;omega);(have f:bH (b.take (j+1)) a=bH (b.take j) a++[b[j]]:=by rw[jN b j h,o8,Wt c]);have g:=λn=>qI (bH (b.take j) a) b[j] n;refine⟨?_,?_,?_⟩;unfold eT;rw[jN b j h,YQ,WS,XX,Wt c];rfl;funext p;(obtain⟨t,n⟩:=p;unfold Dc pC;rw[f];cases t with|true=>simp|false=>simp only[WW,WU,g];by_cases e:n=b[j]/100;subst e;simp only[WL];omega;rw[Wt (WT e),Wt (λh=>e (Y4 h).2),XE]);unfold js;(rw[f,Ly,Ly];obtain⟨H,i⟩:∃H:Nat,(H:Int)=b[j]/100:=⟨(b[j]/100).toNat,by omega⟩);(have k:H<10:=by omega);(have e1:qE (λn=>aT (bH a b) n) (λn=>aT (bH (b.take j) a++[b[j]]) n) 10=qE (λn=>aT (bH a b) n) (λn=>if n=H then aT (bH (b.take j) a) n+1 else aT (bH (b.take j) a) n) 10:=by refine qG λn m=>?_;show aT _ _=_;rw[g,<-i];by_cases e:n=H;subst e;simp;rw[Wt e,Wt (by omega)];rfl);rw[e1,Am _ (λn=>aT (bH (b.take j) a) n) H 10 k];congr 1;unfold pC;simp only[WW,WU,<-i];by_cases e:aT (bH (b.take j) a) (H:Int)<aT (bH a b) (H:Int);rw[Wu e,Wu (by omega)];rw[Wt e,Wt (by omega)]
def Iv(a b)(c:a≠[])(d:b≠[])(e:a.Nodup)(f:b.Nodup):cJ a b=(100*(2*(eT a b b.length:Int)+(js a b b.length:Int)))/((a.length:Int)+(b.length:Int)):=by (rw[wZ a b c d];have g:a.length-(bH a b).length=eT a b b.length:=by unfold eT;rw[Yq];have h:=KE b a;have i:=E4 e f;omega);unfold js;rw[g,Yq];simp
def Aq(a b j):eT a b j<=b.length:=Ww (XI _ _) (by rw[Xy];omega)
def Iw(a b j):js a b j<=10*a.length:=Ww (FG _ _ _) (Nat.mul_le_mul_left _ (XI _ _))
def Lz(a b j p):nZ a b j p<=a.length:=by unfold nZ;split;exact Ww (Db _ _) (by rw[Xy];omega);exact Ww (uF _ _) (Ww (XI _ _) (by rw[Xy];omega))
def LA(a b j p):pC a b j p<=a.length:=by unfold pC;split;exact Db _ _;exact Ww (Nat.sub_le _ _) (Ww (uF _ _) (XI _ _))
end Go.Proofs

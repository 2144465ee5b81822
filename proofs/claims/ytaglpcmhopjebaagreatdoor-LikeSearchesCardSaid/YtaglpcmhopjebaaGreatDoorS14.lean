import Derived.Deep.RegionHeld3
import Derived.Deep.CutBlock
import Derived.Shelf.Lays
import Derived.Test.YtaglpcmhopjebaaGreatDoorS2
import Derived.Test.YtaglpcmhopjebaaGreatDoorS13
set_option linter.all false
set_option maxRecDepth 100000
set_option maxHeartbeats 20000000
namespace Go.Proofs
open Go.Tm Go.RowKit
variable {fs:Array Func} (L:bM fs)
structure OkC(c:Case):Prop where
 table:OkT c.table
 new:OkM c.new
 marks:∀m∈c.marks,OkM m
 tD:c.marks.length<=8
 FY:c.rules.length<=6
 yI:c.kin.length=c.marks.length
 rules:∀r∈c.rules,0<=r.kind/\r.kind<=5/\1<=r.least/\r.least<=100/\0<=r.plain/\r.plain<=9/\0<=r.known/\r.known<=9
 kin:∀n∈c.kin,0<=n/\n<=9
def zG(x:A4):Value:=.agg #[.int .i64 x.days,.int .i64 x.level,.int .i64 x.kin]
def IF{w w1}(a:Below w.heap.size w w1)(x y)(p q:Nat):(∀i v,x[i]? =some v->(((w1.alloc (.cells x p)).alloc (.cells y q)).drew).cell? ⟨w1.heap.size,i,none⟩=some v)/\(∀i v,y[i]? =some v->(((w1.alloc (.cells x p)).alloc (.cells y q)).drew).cell? ⟨w1.heap.size+1,i,none⟩=some v)/\ae w1 (((w1.alloc (.cells x p)).alloc (.cells y q)).drew)/\Below w.heap.size w (((w1.alloc (.cells x p)).alloc (.cells y q)).drew):=by (have b:(w1.alloc (.cells x p)).heap.size=w1.heap.size+1:=by simp);refine⟨λi v h=>(ae.alloc _ (.cells y q)).cell (aE w1 x p i v h),λi v h=>?_,(ae.alloc w1 (.cells x p)).trans (ae.alloc _ (.cells y q)),((a.alloc a.size _).alloc (by have:=a.size;omega) _).drew⟩;have:=aE (w1.alloc (.cells x p)) y q i v h;rw[b]at this;exact this
def cell_of_heap{w:World}{b c e f}(h:w.heap[b]? =some (.cells c e f))(i v)(a:c[i]? =some v):w.cell? ⟨b,i,none⟩=some v:=by unfold World.cell?;simp only[h];exact a
def frozen_of_heap{w:World}{b c e}(h:w.heap[b]? =some (.cells c e))(i):w.frozen? ⟨b,i,none⟩=false:=by unfold World.frozen?;simp only[h];simp
def qP{a n M:Int}(b:0<n)(c:0<=a)(d:a<=M*n):0<=a/n/\a/n<=M:=⟨Int.ediv_nonneg c (by omega),by have:=Int.ediv_le_ediv b d;rwa[Int.mul_ediv_cancel _ (by omega)]at this⟩
def j8(a b):0<=dN a b/\dN a b<=100:=by unfold dN;split;exact⟨by decide,by decide⟩;rename_i h;(have c:=wu _ a b (Tw _);have d:0<max a.length b.length:=by cases a with|nil=>simp at h|cons x a=>simp only[TA];omega);refine qP (by omega) (by omega) (by omega)
theorem iz(t a b):∀k,0<=fj t a b k/\fj t a b k<=100
 |0=>⟨Wd _,(by decide:(0:Int)<=100)⟩
 |k+1=>by have c:=iz t a b k;have d:=j8 (bK t k a) (bK t k b);rw[kL];omega
def FZ(a b):0<=pP a b/\pP a b<=100:=by (unfold pP;have key:∀x y:Bs,0<=(if x.length<3|| !x.isPrefixOf y&& !x.isSuffixOf y then 0 else(100*x.length:Int)/(y.length:Int))/\(if x.length<3|| !x.isPrefixOf y&& !x.isSuffixOf y then 0 else(100*x.length:Int)/(y.length:Int))<=100:=by intro x y;split;exact⟨by decide,by decide⟩;rename_i h;(simp only[US,TQ,TH,Bool.not_eq_true',not_or,not_and,Bool.not_eq_false]at h;obtain⟨e,d⟩:=h;have f:x.length<=y.length:=by by_cases c:x.isPrefixOf y=true;exact(UM.1 c).length_le;exact(List.isSuffixOf_iff_suffix.1 (d (V8.2 c))).length_le);exact qP (by omega) (by omega) (by omega));exact key _ _
def Jr{l:List Nat}{M}(h:∀x∈l,x<=M):l.sum<=M*l.length:=by induction l with|nil=>simp|cons x l a=>have c:=h x (WB ..);have d:=a λy b=>h y (Wh _ b);simp only[List.sum_cons,TA,Nat.mul_add];omega
def wv(a b)(c:a.length<=5)(f:b.length<=5):0<=bV a b/\bV a b<=100000:=by unfold bV;split;exact⟨by decide,by decide⟩;rename_i h;(have g:0<a.length:=by cases a with|nil=>simp at h|cons x a=>simp);(have d:((List.range 10).map λ(n:Nat)=>min (aP (bu a b) n) (aP (bu b a) n)).sum<=5*10:=by have:=Jr (l:=(List.range 10).map λ(n:Nat)=>min (aP (bu a b) n) (aP (bu b a) n)) (M:=5) (by (intro x e;obtain⟨n,_,rfl⟩:=UR.1 e;have i:aP (bu a b) n<=5:=by unfold aP bu;exact Tx (Uw _ _) (Tx (Uw _ _) c));omega);simpa using this);simp only[];generalize ((List.range 10).map λ(n:Nat)=>min (aP (bu a b) n) (aP (bu b a) n)).sum=z at d;exact qP (by omega) (by omega) (by omega)
def Bb(t a b):0<=gM t a b/\gM t a b<=100:=by unfold gM;split<;>exact⟨by decide,by decide⟩
def lR(t k one two)(d:one.aQ.length<=5)(e:two.aQ.length<=5):0<=bI t k one two/\bI t k one two<=100000:=by by_cases k0:k=0;subst k0;rw[zy];have:=j8 (aS t.aw one.word.data.toList) (aS t.aw two.word.data.toList);omega;by_cases k1:k=1;subst k1;rw[zA];have:=iz t one.word.data.toList two.word.data.toList t.aG.length;omega;by_cases a:k=2;subst a;rw[zB];have:=Bb t (aS t.aw one.word.data.toList) (aS t.aw two.word.data.toList);omega;by_cases b:k=3;subst b;rw[zC];have:=j8 (aS t.aw one.word.data.toList) (aS t.aw two.word.data.toList).reverse;omega;by_cases c:k=4;subst c;rw[zD];have:=FZ (aS t.aw one.word.data.toList) (aS t.aw two.word.data.toList);omega;rw[zE t k one two ⟨k0,k1,a,b,c⟩];exact wv _ _ d e
def wrap_i64(n)(h: -9223372036854775808<=n/\n<=9223372036854775807):IntKind.i64.wrap n=n:=by simp only[IntKind.wrap,IntKind.signed,IntKind.bits,VJ];split;rename_i a;have:=Ua a;omega;rename_i a;have:¬(n%2 ^ 64>=2 ^ (64-1)):=λh=>a (TD h);omega
def jX(m:Mark)(r:tu):Int:=if m.known then min r.plain r.known else r.plain
def De(c m kin r):kJ c m kin r=⟨max 0 (m.day+1-c.new.day),max 0 (r.least-bI c.table r.kind c.new m),max 0 (jX m r-kin)⟩:=rfl
def IG{K:Nat->Prop}{sc:Array Value}{c:Case}(i k:Nat)(w:World)(hc:bp K w sc c)(E:OkC c)(hi:i<c.marks.length)(hk:k<c.rules.length)(P:i<c.kin.length):Calls (Qs fs) 85 #[.agg sc,.int .i64 i,.int .i64 k] w λe w'=>e=.returned (zG (kJ c c.marks[i] c.kin[i] c.rules[k]))/\Below w.heap.size w w':=by
 have e70:=e70 L;obtain⟨v0,v1,v2,vr,Q,vm,vk,rfl,ht,hr,hf,hm,R⟩:=hc;obtain⟨wa,g⟩:=ex (w.alloc (.cells #[v0,v1,v2,vr,.string c.new.name,.string c.new.word,Q,.int .i64 c.new.day,.bool c.new.known,vm,vk] 60));obtain⟨w1,j⟩:=ex (wa.alloc (.cells #[.int .i64 0,.int .i64 0,.int .i64 0] 86));have Sa:ae wa w1:=by rw[j];exact ae.alloc _ _
 have t:ae w w1:=(by rw[g];exact ae.alloc _ _:ae w wa).trans Sa;have B1:Below w.heap.size w w1:=by rw[j,g];exact((Below.refl _ w).alloc (Tw _) _).alloc (by simp) _
 have u:wa.heap.size=w.heap.size+1:=by rw[g];simp
 have S:w1.heap.size=w.heap.size+1+1:=by rw[j,<-u];simp
 have ct:∀i v,(#[v0,v1,v2,vr,.string c.new.name,.string c.new.word,Q,.int .i64 c.new.day,.bool c.new.known,vm,vk]:Array Value)[i]? =some v->w1.cell? ⟨w.heap.size,i,none⟩=some v:=λi v h=>Sa.cell (by rw[g];exact aE w _ 60 i v h);obtain⟨N,T⟩:=ex (w.heap.size);obtain⟨N1,z⟩:=ex (w.heap.size+1);have n:w1.heap[N1]? =some (.cells #[.int .i64 0,.int .i64 0,.int .i64 0] 86):=by rw[j,z,<-u];exact Uc
 have ak:=hm.stays t λb b' o x e h=>by subst e;exact nM.carry (Carry.keep t) b b o x rfl h
 have an:=hr.stays t λb b' o x e h=>by subst e;exact mz.carry (Carry.keep t) b b o x rfl h
 have ao:=R.ints t;have F:=ht.stays t;obtain⟨bx,cm,rfl,lm,bA,_,gm⟩:=ak;obtain⟨bB,cr,rfl,lr,bC,_,gr⟩:=an;obtain⟨b4,ck,rfl,lk,b5,_,gk⟩:=ao;obtain⟨I,J,rfl,x0,x1,⟨fm,x2,U⟩,x3,x4⟩:=gm i hi;obtain⟨V,W,rfl,y0,y1,y2,y3⟩:=gr k hk;obtain⟨bk,ar,rfl,z0⟩:=gk i P;clear gm gr gk ht hr hm R;have C:=E.marks _ (TG hi);obtain⟨r1,r2,r3,r4,r5,r6,r7,r8⟩:=E.rules _ (TG hk);obtain⟨k1,k2⟩:=E.kin _ (TG P);obtain⟨m,X⟩:=ex (c.marks[i]);obtain⟨r,Y⟩:=ex (c.rules[k]);obtain⟨q,Z⟩:=ex (c.kin[i]);rw[<-X]at x0 x1 U x3 x4 C⊢;rw[<-Y]at y0 y1 y2 y3 r1 r2 r3 r4 r5 r6 r7 r8⊢;rw[<-Z]at z0 k1 k2⊢;clear X Y Z;obtain⟨a,D,rfl,lf,ax,kf,gf⟩:=U;have U:aD K 1 di w1 (.slice a m.aQ.length D) m.aQ:=⟨a,D,rfl,lf,ax,kf,gf⟩
 have ay:Hid _:=U;clear U gf kf;have t9:=ct 9 _ rfl;have t3:=ct 3 _ rfl;rw[<-T]at t9 t3;go_enter (n85 L),Tryz.ntmps85;go_upto_region 1 with fail;rw[<-g,<-j,<-z,<-T];go_cut [7,8]from 10 (λs7 s8 M=>∃A B,s7=.pointer (some ⟨A,0,none⟩)/\s8=.pointer (some ⟨B,0,none⟩)/\(∀i v,(#[.string m.name,.string m.word,.slice a m.aQ.length D,.int .i64 m.day,.bool m.known]:Array Value)[i]? =some v->M.cell? ⟨A,i,none⟩=some v)/\(∀i v,(#[.int .i64 r.kind,.int .i64 r.least,.int .i64 r.plain,.int .i64 r.known]:Array Value)[i]? =some v->M.cell? ⟨B,i,none⟩=some v)/\ae w1 M/\Below w.heap.size w M)
 case first=>
  have HB:Hid _:=B1;clear g j T z ct S u n F Sa t B1;have n9:=World.new_ne w1 _ t9;have n3:=World.new_ne w1 _ t3;have m0:=World.new_ne w1 _ x0;have m1:=World.new_ne w1 _ x1;have m2:=World.new_ne w1 _ x2;have m3:=World.new_ne w1 _ x3;have m4:=World.new_ne w1 _ x4;have q0:=World.new_ne w1 _ y0;have q1:=World.new_ne w1 _ y1;have q2:=World.new_ne w1 _ y2;have q3:=World.new_ne w1 _ y3
  go_region_held3 (λw'=>w'.cell? ⟨N,9,none⟩=some (.slice (some ⟨I,J,none⟩) c.marks.length cm)/\w'.cell? ⟨N,3,none⟩=some (.slice (some ⟨V,W,none⟩) c.rules.length cr)/\
   w'.cell? ⟨I,J+i*5,none⟩=some (.string m.name)/\w'.cell? ⟨I,J+i*5+1,none⟩=some (.string m.word)/\w'.cell? ⟨I,J+i*5+2,none⟩=some (.slice a m.aQ.length D)/\w'.cell? ⟨I,J+i*5+3,none⟩=some (.int .i64 m.day)/\w'.cell? ⟨I,J+i*5+4,none⟩=some (.bool m.known)/\
   w'.cell? ⟨V,W+k*4,none⟩=some (.int .i64 r.kind)/\w'.cell? ⟨V,W+k*4+1,none⟩=some (.int .i64 r.least)/\w'.cell? ⟨V,W+k*4+2,none⟩=some (.int .i64 r.plain)/\w'.cell? ⟨V,W+k*4+3,none⟩=some (.int .i64 r.known)) (go_keep) (fail)
  all_goals (go_wp2_with fail;go_meet)
  obtain⟨h1,h2,h3,h4⟩:=IF HB.out #[.string m.name,.string m.word,.slice a m.aQ.length D,.int .i64 m.day,.bool m.known] #[.int .i64 r.kind,.int .i64 r.least,.int .i64 r.plain,.int .i64 r.known] 38 69;exact⟨_,_,rfl,rfl,h1,h2,h3,h4⟩;obtain⟨h1,h2,h3,h4⟩:=IF HB.out #[.int .i64 r.kind,.int .i64 r.least,.int .i64 r.plain,.int .i64 r.known] #[.string m.name,.string m.word,.slice a m.aQ.length D,.int .i64 m.day,.bool m.known] 69 38;exact⟨_,_,rfl,rfl,h2,h1,h3,h4⟩
 case rest=>
  obtain⟨A,B,rfl,rfl,O,hb,f,Bx⟩:=hcut;have G:Hid (jX m r=if m.known then min r.plain r.known else r.plain):=rfl;have HS:Hid _:=(⟨f,Bx⟩:ae w1 wc/\Below w.heap.size w wc)
  have a3:=O 3 _ rfl;have a4:=O 4 _ rfl;have b0:=hb 0 _ rfl;have b1:=hb 1 _ rfl;have b2:=hb 2 _ rfl;have b3:=hb 3 _ rfl;have aM:=t;have s:w.heap.size<=N1:=by omega
  have t0:=ct 0 _ rfl;have t1:=ct 1 _ rfl;have t2:=ct 2 _ rfl;have t4:=ct 4 _ rfl;have t5:=ct 5 _ rfl;have t6:=ct 6 _ rfl;have t7:=ct 7 _ rfl;have t8:=ct 8 _ rfl;have H:=ct 10 _ rfl;rw[<-T]at t0 t1 t2 t4 t5 t6 t7 t8 H;clear g j T z S u Sa t B1 ct;go_upto_if 23 with fail;go_cut [9]from 10 (λs9 M=>s9=.int .i64 (jX m r)/\M=wc)
  case first=>(go_wp2_with fail);(all_goals (go_meet;refine⟨?_,rfl⟩;rw[G.out]));all_goals first|(rw[Tv (by assumption)];congr 1;omega)|(rw[Tu (by simp[*])])
  case rest=>
   (obtain⟨rfl,rfl⟩:=hcut;have lb:=lR c.table r.kind c.new m E.new.fig C.fig;have nb: -1000<=jX m r/\jX m r<=1000:=by unfold jX;split<;>omega);(have aa:=F.stays f;have ab:aD K 1 di wc Q c.new.aQ:=(hf.ints aM).ints f;have ad:aD K 1 di wc (.slice a m.aQ.length D) m.aQ:=aD.ints f ay.out;have cL:=λwy (hs:ae wc wy)=>zF L (m1:=#[.string c.new.name,.string c.new.word,Q,.int .i64 c.new.day,.bool c.new.known]) (m2:=#[.string m.name,.string m.word,.slice a m.aQ.length D,.int .i64 m.day,.bool m.known]) (one:=c.new) (two:=m) r.kind wy (aa.stays hs) E.table ⟨Q,rfl,ab.ints hs⟩ ⟨_,rfl,ad.ints hs⟩ E.new C;obtain⟨lv,af⟩:=ex (bI c.table r.kind c.new m);obtain⟨nd,ag⟩:=ex (jX m r);have HV:Hid _:=De c m q r;rw[<-af]at lb cL HV;rw[<-ag]at nb HV⊢;clear af ag;have d:=f _ _ _ _ n;have n0:=cell_of_heap d 0 _ rfl;have n1:=cell_of_heap d 1 _ rfl;have n2:=cell_of_heap d 2 _ rfl;have g0:=frozen_of_heap d 0;have g1:=frozen_of_heap d 1;have g2:=frozen_of_heap d 2;have ah:wc.cell? ⟨bk,ar+i,none⟩=some (.int .i64 q):=by have:=f.cell z0;rwa[Ul]at this);(have b6:∀x y:Int,(if x<y then y else x)=max x y:=λx y=>by split<;>omega);(have b7:=C.day;have b8:=E.new.day;have b9:IntKind.i64.wrap (m.day+1)=m.day+1:=wrap_i64 _ (by omega);have ca:IntKind.i64.wrap (m.day+1-c.new.day)=m.day+1-c.new.day:=wrap_i64 _ (by omega);have cb:IntKind.i64.wrap (r.least-lv)=r.least-lv:=wrap_i64 _ (by omega);have cc:IntKind.i64.wrap (nd-q)=nd-q:=wrap_i64 _ (by omega);have bs:(0:Int)<=(i:Int)/\(i:Int)<(c.kin.length:Int):=⟨by omega,by omega⟩);(have qL:∀x:al w wc,Calls (Qs fs) 70 _ x.val λe w'=>e=.returned (.int .i64 lv)/\∃y:al w wc,w'=y.val:=λx=>al.calls (cL x.val x.st);have l0:=λx:al w wc=>x.cell (a3);have l1:=λx:al w wc=>x.cell (f.cell t7);have l2:=λx:al w wc=>x.cell (b1);have l3:=λx:al w wc=>x.cell (f.cell t0);have l4:=λx:al w wc=>x.cell (f.cell t1);have l5:=λx:al w wc=>x.cell (f.cell t2);have l6:=λx:al w wc=>x.cell (b0);have l7:=λx:al w wc=>x.cell (f.cell t4);have l8:=λx:al w wc=>x.cell (f.cell t5);have l9:=λx:al w wc=>x.cell (f.cell t6);have a1:=λx:al w wc=>x.cell (f.cell t8);have a6:=λx:al w wc=>x.cell (O 0 _ rfl);have a7:=λx:al w wc=>x.cell (O 1 _ rfl);have a8:=λx:al w wc=>x.cell (O 2 _ rfl);have ba:=λx:al w wc=>x.cell (a4);have bb:=λx:al w wc=>x.cell (f.cell H);have bo:=λx:al w wc=>x.cell (ah);clear a3 a4 b0 b1 b2 b3 t0 t1 t2 t4 t5 t6 t7 t8 H z0 ah x0 x1 x2 x3 x4 y0 y1 y2 y3 t9 t3 O hb n0 n1 n2 g0 g1 g2 n ab ad aa F f Bx cL;go_upto_region 5 with fail;refine aX (w0:=w) (w1:=wc) 29 (by kernel_rfl) (by kernel_rfl) (ae.refl _) HS.out.2 ?_;simp only[T9,T5,Uh,Ub];haveI cd:Nonempty (al w wc):=⟨⟨wc,ae.refl _,HS.out.2⟩⟩);repeat (go_big_quiet_step ((go_at_call 70;exact qL _)))
   refine wpQuiet_nil ?_;rintro wz ⟨⟨_,Sz,Bz⟩,rfl⟩;have l:=Sz _ _ _ _ d;have n0:=cell_of_heap l 0 _ rfl;have n1:=cell_of_heap l 1 _ rfl;have n2:=cell_of_heap l 2 _ rfl;have g0:=frozen_of_heap l 0;have g1:=frozen_of_heap l 1;have g2:=frozen_of_heap l 2;have BZ:Hid _:=Bz;clear qL Sz Bz d l l0 l1 l2 l3 l4 l5 l6 l7 l8 l9 a1 a6 a7 a8 ba bb bo;go_wp2;all_goals
    refine bodyPost_ret (v:=.agg #[.int .i64 (max 0 (m.day+1-c.new.day)),.int .i64 (max 0 (r.least-lv)),.int .i64 (max 0 (nd-q))]) ?_ rfl ⟨by rw[HV.out];rfl,((BZ.out.setCell (p:=⟨N1,0,none⟩) s _).setCell (p:=⟨N1,1,none⟩) s _).setCell (p:=⟨N1,2,none⟩) s _⟩;simp[results,Tryz.results85,go_sem, *];try omega
def jw:Array Value:=Array.replicate 2401 (.int .i64 0)
def RZ:Tryz.zeroCells184=jw:=by kernel_rfl
def yJ(i)(h:i<jw.size):jw[i]? =some (.int .i64 0):=by unfold jw at h⊢;rw[Array.size_replicate]at h;rw[WC,Tv h]
def yK:jw.size=2401:=by unfold jw;rw[Array.size_replicate]
def zH(a b:Bs)(q p:Nat)(i:Nat):Value:=if(q<i/49\/(i/49=q/\p<=i%49))/\i/49<=a.length/\i%49<=b.length then .int .i64 (aT (a.drop (i/49)) (b.drop (i%49)))else .int .i64 0
structure jx(w wr:World)(a b:Bs)(q p:Nat):Prop where
 row:wr.rowIs w.heap.size 184 2401 (zH a b q p)
 below:Below w.heap.size w wr
def LQ(q p)(a:p<49):(q*49+p)/49=q/\(q*49+p)%49=p:=by omega
def jx.cell{w wr a b q p r k}(h:jx w wr a b q p)(i:a.length<=48)(j:b.length<=48)(c:r<=a.length)(d:k<=b.length)(e:q<r\/(r=q/\p<=k)):wr.cell? ⟨w.heap.size,r*49+k,none⟩=some (.int .i64 (aT (a.drop r) (b.drop k))):=by obtain⟨f,g⟩:=LQ r k (by omega);rw[h.row.cell (by omega)];unfold zH;rw[f,g,Tv ⟨e,c,d⟩]
def jx.cell0{w wr a b q p}(h:jx w wr a b q (p+1))(e:a.length<=48)(f:b.length<=48)(g:q<=a.length)(i:p<=b.length):wr.cell? ⟨w.heap.size,q*49+p,none⟩=some (.int .i64 0):=by obtain⟨c,d⟩:=LQ q p (by omega);rw[h.row.cell (by omega)];unfold zH;rw[c,d,Tu (by omega)]
def jx.step{w wr:World}{a b:Bs}{q p:Nat}(h:jx w wr a b q (p+1))(k:a.length<=48)(l:b.length<=48)(d:q<=a.length)(f:p<=b.length):jx w (wr.setCell ⟨w.heap.size,q*49+p,none⟩ (.int .i64 (aT (a.drop q) (b.drop p)))) a b q p where
 row:=(h.row.set (q*49+p) _).congr λi m=>by
  obtain⟨g,j⟩:=LQ q p (by omega);unfold zH;by_cases e:i=q*49+p
  .subst e
   rw[Tv rfl,g,j,Tv ⟨.inr ⟨rfl,Tw _⟩,d,f⟩]
  .rw[Tu e]
   by_cases c:(q<i/49\/(i/49=q/\p+1<=i%49))/\i/49<=a.length/\i%49<=b.length
   .rw[Tv c,Tv ⟨by omega,c.2⟩]
   .rw[Tu c,Tu (by omega)]
 below:=h.below.setCell (Tw _) _
def jx.drewN{w wr a b q p}(h:jx w wr a b q p)(n):jx w (wr.drewN n) a b q p:=⟨h.row,Go.below_drewN h.below n⟩
def jx.next{w wr a b q}(h:jx w wr a b (q+1) 0)(d:b.length<=48):jx w wr a b q (b.length+1):=
 ⟨h.row.congr λi e=>by
  unfold zH;by_cases c:(q+1<i/49\/(i/49=q+1/\0<=i%49))/\i/49<=a.length/\i%49<=b.length
  .rw[Tv c,Tv ⟨by omega,c.2⟩]
  .rw[Tu c,Tu (by omega)],h.below⟩
def jx.first(w a b):jx w (w.alloc (.cells jw 184)) a b (a.length+1) 0:=⟨by have h:=World.rowIs_alloc w jw 184 (λ_=>.int .i64 0) λi c=>yJ i c;rw[yK]at h;refine h.congr λi c=>?_;unfold zH;rw[Tu (by omega)],aJ w _⟩
def IH(a b:ByteArray)(w:World)(ha:a.size<=48)(hb:b.size<=48):Calls (Qs fs) 73 #[.string a,.string b] w λe w'=>e=.returned (.pointer (some ⟨w.heap.size,0,none⟩))/\jx w w' a.data.toList b.data.toList 0 0:=by
 have P:=Lib.size_eq a;have Q:=Lib.size_eq b;obtain⟨A,u⟩:=ex (a.data.toList);obtain⟨B,x⟩:=ex (b.data.toList);rw[<-u]at P;rw[<-x]at Q;rw[<-u,<-x];have d:Hid (a.size=A.length/\b.size=B.length):=⟨P,Q⟩
 have HG:Hid ((∀q (h:q<a.size),A.drop q=a[q]::A.drop (q+1))/\(∀q (h:q<b.size),B.drop q=b[q]::B.drop (q+1))):=⟨λq h=>by rw[u];exact drop_cons a q h,λq h=>by rw[x];exact drop_cons b q h⟩
 have J:=jx.first w A B;rw[<-RZ]at J;obtain⟨w1,z⟩:=ex (w.alloc (.cells Tryz.zeroCells184 184));rw[<-z]at J;obtain⟨N,K⟩:=ex (w.heap.size);have HN:Hid _:=K;have R:Hid _:=J;rw[<-K];clear P Q u x J;go_enter (n73 L),Tryz.ntmps73;go_upto_region 2 with fail;rw[<-z,<-K];clear z K;go_wp2;go_loopw [6] (λi wr=>∃(p:Nat) (j:Int),p<=a.size+1/\j=(p:Int)-1/\i=.int .i64 j/\jx w wr A B p 0) (λi _=>(intOf i+1).toNat);case atStart=>refine⟨a.size+1,_,Tw _,rfl,by go_num,?_⟩;rw[d.out.1];exact R.out
 case round=>
  obtain⟨p,D,hp,n,rfl,M⟩:=hrel;obtain rfl|hpos:=Ur p
  ·(obtain rfl:D= -1:=by omega);clear n;have HR:Hid _:=M;clear M;go_wp2;go_ret;exact⟨rfl,HR.out⟩
  obtain⟨q,rfl⟩:∃q,p=q+1:=⟨p-1,by omega⟩
  obtain rfl:D=(q:Int):=by omega
  clear n;have O:Hid _:=M.next (by have:=d.out.2;omega);clear M;go_wp2;go_loopw [7] (λi wi=>∃(C:Nat) (j:Int),C<=b.size+1/\j=(C:Int)-1/\i=.int .i64 j/\jx w wi A B q C) (λi _=>(intOf i+1).toNat);case atStart=>exact⟨b.size+1,_,Tw _,rfl,by go_num,by rw[d.out.2];exact O.out⟩
  case round=>
   clear O;obtain⟨C,D,ag,n,rfl,o⟩:=hrel;obtain rfl|hpos2:=Ur C
   ·(obtain rfl:D= -1:=by omega);clear n;have O:Hid _:=o;clear o;go_wp2;refine⟨⟨q,_,by omega,rfl,by go_num,O.out⟩,by simp[intOf]⟩
   (obtain⟨c,rfl⟩:∃c,C=c+1:=⟨C-1,by omega⟩);(obtain rfl:D=(c:Int):=by omega);(clear n;have s:q<=A.length:=by have:=d.out.1;omega);(have t:c<=B.length:=by have:=d.out.2;omega);(have f:A.length<=48:=by have:=d.out.1;omega);(have g:B.length<=48:=by have:=d.out.2;omega);(have E:=o.cell0 f g s t;have S:wr.frozen? ⟨w.heap.size,q*49+c,none⟩=false:=o.row.frozen _;have l:=o.step f g s t;rw[<-HN.out]at E S l;have HS:Hid _:=l;clear l;have ab:(q:Int)<49:=by omega);(have ad:(c:Int)<49:=by omega);obtain hqa|hqa:=Ty q a.size
   .obtain hcb|hcb:=Ty c b.size
    .have e11:=o.cell f g (r:=q+1) (k:=c+1) (by have:=d.out;omega) (by have:=d.out;omega) (by omega);(have e10:=o.cell f g (r:=q+1) (k:=c) (by have:=d.out;omega) (by have:=d.out;omega) (by omega);have F:=o.cell f g (r:=q) (k:=c+1) (by have:=d.out;omega) (by have:=d.out;omega) (by omega);have y:aT (A.drop q) (B.drop c)=if a[q]=b[c]then aT (A.drop (q+1)) (B.drop (c+1))else 1+min (aT (A.drop (q+1)) (B.drop (c+1))) (min (aT (A.drop (q+1)) (B.drop c)) (aT (A.drop q) (B.drop (c+1)))):=by have g1:=HG.out.1 q hqa;have g2:=HG.out.2 c hcb;rw[g1,g2,mB]);(have T:aT (A.drop (q+1)) (B.drop (c+1))<=2000:=Tx (nf _ _) (by rw[TM,TM];have:=d.out;omega);have U:aT (A.drop (q+1)) (B.drop c)<=2000:=Tx (nf _ _) (by rw[TM,TM];have:=d.out;omega);have V:aT (A.drop q) (B.drop (c+1))<=2000:=Tx (nf _ _) (by rw[TM,TM];have:=d.out;omega);rw[y]at HS;obtain⟨ah,G⟩:=ex (aT (A.drop (q+1)) (B.drop (c+1)));obtain⟨ak,H⟩:=ex (aT (A.drop (q+1)) (B.drop c));obtain⟨an,I⟩:=ex (aT (A.drop q) (B.drop (c+1)));rw[<-G]at e11 T HS;rw[<-H]at e10 U HS;rw[<-I]at F V HS;rw[<-HN.out]at e11 e10 F;have ao:((q:Int)==a.size)=false:=by rw[TX];omega);(have ar:((c:Int)==b.size)=false:=by rw[TX];omega);(have af:¬(q:Int)=a.size:=by omega);(have W:(q:Int)+1<49:=by omega);(have X:(c:Int)+1<49:=by omega);clear o y s t G H I;by_cases m:a[q]=b[c]
     .rw[Tv m]at HS;(have Y:((a[q].toNat:Int)==(b[c].toNat:Int))=true:=by rw[m];simp);clear m;go_wp2;go_quiet (fail);go_wp2
      (go_region);go_wp2;exact⟨⟨c,_,by omega,rfl,by go_num,HS.out.drewN (nq+1)⟩,by simp[intOf]⟩
     rw[Tu m]at HS;(have Y:((a[q].toNat:Int)==(b[c].toNat:Int))=false:=by rw[TX];intro h;exact m (V7.1 (by omega)));clear m;go_wp2;go_quiet (fail);go_wp2
     (go_big_region);go_wp2;refine⟨⟨c,_,by omega,rfl,by go_num,?_⟩,by simp[intOf]⟩;refine(T7 (λv=>jx w ((wr.drewN _).setCell ⟨N,q*49+c,none⟩ (Value.int .i64 v)) A B q c) ?_).mp (HS.out.drewN (nq+1));split<;>split<;>omega
    (have Z:c=b.size:=by omega);(have y:aT (A.drop q) (B.drop c)=a.size-q:=by rw[T6 (by have:=d.out.2;omega:B.length<=c),gX,TM,d.out.1]);rw[y,show((a.size-q:Nat):Int)=(a.size:Int)-q by omega]at HS;subst Z;clear o y s t;go_wp2;refine⟨⟨b.size,_,by omega,rfl,by go_num,HS.out⟩,by simp[intOf]⟩
   (have aa:q=a.size:=by omega);(have y:aT (A.drop q) (B.drop c)=b.size-c:=by rw[T6 (by have:=d.out.1;omega:A.length<=q),eZ,TM,d.out.2]);rw[y,show((b.size-c:Nat):Int)=(b.size:Int)-c by omega]at HS;subst aa;clear o y s t;go_wp2;refine⟨⟨c,_,by omega,rfl,by go_num,HS.out⟩,by simp[intOf]⟩
def mC(a:ByteArray):a=⟨#[]⟩↔a.size=0:=by constructor;rintro rfl;rfl;intro h;refine qO ?_;have:a.data.toList=[]:=UT.1 (by rw[<-Lib.size_eq];exact h);rw[this]
def Df{a:ByteArray}(h:a≠⟨#[]⟩):a.toList.isEmpty=false:=by rw[Lib.toList_data,fS];exact Tz λb=>h ((mC a).2 b)
def Bd(a b:ByteArray)(w:World)(u:a.size<=48)(v:b.size<=48):ac fs 231 #[.string a,.string b] w (.int .i64 (dN a.data.toList b.data.toList)):=by
 have e73:=e73 L;have s:=λg=>IH L a b g u v;have l:Hid _:=zw a b;have i:=wu _ a.data.toList b.data.toList (Tw _);rw[<-Lib.size_eq,<-Lib.size_eq]at i;by_cases m:a=⟨#[]⟩
 .have f:=l.out;rw[Tv (.inl ((mC a).1 m))]at f;have c:Hid _:=f;have x:a.toList.isEmpty=true:=by rw[Lib.toList_data];subst m;rfl
  clear f l i m;go_enter (n231 L),Tryz.ntmps231;go_wp2_with fail;go_ret;exact⟨by rw[c.out];rfl,Below.refl _ _⟩
 have y:a.toList.isEmpty=false:=Df m;by_cases n:b=⟨#[]⟩
 .have f:=l.out;rw[Tv (.inr ((mC b).1 n))]at f;have c:Hid _:=f;have x:b.toList.isEmpty=true:=by rw[Lib.toList_data];subst n;rfl
  clear f l i n;go_enter (n231 L),Tryz.ntmps231;go_wp2_with fail;go_ret;exact⟨by rw[c.out];rfl,Below.refl _ _⟩
 have z:b.toList.isEmpty=false:=Df n;have A:0<a.size:=WE λh=>m ((mC a).2 h);have B:0<b.size:=WE λh=>n ((mC b).2 h);have f:=l.out;rw[Tu (by omega)]at f;have p:=Lib.size_eq a;have q:=Lib.size_eq b;have j:∀g,Calls (Qs fs) 73 #[.string a,.string b] g λe w'=>e=.returned (.pointer (some ⟨g.heap.size,0,none⟩))/\w'.cell? ⟨g.heap.size,0,none⟩=some (.int .i64 (aT a.data.toList b.data.toList))/\Below g.heap.size g w':=λg=>(s g).mono λe w' h=>⟨h.1,by have:=h.2.cell (r:=0) (k:=0) (by omega) (by omega) (TE _) (TE _) (by omega);simpa using this,h.2.below⟩
 obtain⟨d,t⟩:=ex (aT a.data.toList b.data.toList);rw[<-t]at j f i;have c:Hid _:=f;clear f l m n s t p q;go_enter (n231 L),Tryz.ntmps231;go_wp2_with (go_at_call 73;refine(j _).mono ?_;clear j;rintro e w2 ⟨rfl,C,o⟩);go_ret;exact⟨by rw[c.out,show max a.size b.size=b.size by omega];rfl,o⟩;go_ret;exact⟨by rw[c.out,show max a.size b.size=a.size by omega];rfl,o⟩
def LS(s r):Lib.occAt s r 0=r.isPrefixOf s:=rfl
def yL(s r:ByteArray)(w:World):ap fs 163 #[.string s,.string r] w (.bool (r.data.toList.isPrefixOf s.data.toList)):=by
 obtain h|h:=Ty s.size r.size
 .have c:decide ((r.size:Int)<=(s.size:Int))=false:=Tz (by omega);have a:decide (r.size<=s.size)=false:=Tz (by omega);have b:Hid (r.data.toList.isPrefixOf s.data.toList=false):=by rw[Hid];cases d:r.data.toList.isPrefixOf s.data.toList with|false=>rfl|true=>have f:=(UM.1 d).length_le;rw[<-Lib.size_eq,<-Lib.size_eq]at f;omega
  clear h;go_enter (n163 L),Tryz.ntmps163;go_wp2;go_ret;exact⟨by rw[b.out];rfl,rfl⟩
 have c:(r.size:Int)<=(s.size:Int):=by omega
 have a:r.size<=s.size:=h;have b:Hid _:=Lib.occ_of_piece s r 0 (by omega);clear h;go_enter (n163 L),Tryz.ntmps163;go_wp2;go_ret;refine⟨?_,rfl⟩;rw[<-LS,b.out,TF];rfl
def ot(s r:ByteArray)(w:World):Calls (Qs fs) 133 #[.string s,.string r] w λe w'=>e=.returned (.bool (r.data.toList.isPrefixOf s.data.toList))/\w'=w:=by have Rv:=Rv L;have c:=yL L s r w;obtain⟨z,a⟩:=ex (r.data.toList.isPrefixOf s.data.toList);rw[<-a]at c⊢;clear a;go_enter (n133 L),Tryz.ntmps133;go_wp2_with (go_at_call 163;refine c.mono ?_;clear c;rintro e w2 ⟨rfl,rfl⟩);go_ret;exact⟨rfl,rfl⟩
def lS(a:List Pr2):Nat->Bs->List ByteArray
 |0,_=>[]
 |_,[]=>[]
 |n+1,c::cs=>
  match bN a (c::cs)with
  |some p=>p.2::lS a n ((c::cs).drop p.1.size)
  |none=>(if bd c then⟨#[c]⟩else⟨#[]⟩)::lS a n cs
def eA(a:List Pr2)(w:Bs):List ByteArray:=lS a w.length w
theorem qQ(a):∀(n) (s),(lS a n s).flatMap (λx=>x.data.toList)=lz a n s
 |0,s=>rfl
 |n+1,[]=>rfl
 |n+1,c::cs=>by
  unfold lS lz;cases bN a (c::cs)with
  |some p=>simp only[U6];rw[qQ a n]
  |none=>
   simp only[U6];rw[qQ a n]
   congr 1
   cases bd c<;>rfl
def wH(a s):(eA a s).flatMap (λx=>x.data.toList)=aS a s:=qQ a _ s
theorem ou(a:List Pr2)(b:∀p∈a,1<=p.1.size):∀(n m) (s),s.length<=n->s.length<=m->lS a n s=lS a m s
 |n,m,[],_,_=>by cases n<;>cases m<;>rfl
 |0,m,c::cs,h,_=>by simp at h
 |n,0,c::cs,_,h=>by simp at h
 |n+1,m+1,c::cs,d,e=>by
  simp only[TA]at d e;unfold lS;cases f:bN a (c::cs)with
  |some p=>have g:=b p (gV f);simp only[];rw[ou a b n m _ (by rw[TM,TA];omega) (by rw[TM,TA];omega)]
  |none=>simp only[];rw[ou a b n m cs (by omega) (by omega)]
def F3{a:List Pr2}(b:∀p∈a,1<=p.1.size){c}{s:Bs}{p}(d:bN a (c::s)=some p):eA a (c::s)=p.2::eA a ((c::s).drop p.1.size):=by have h:=b p (gV d);unfold eA;rw[TA];(conv=>lhs;unfold lS);rw[d];simp only[];rw[ou a b _ ((c::s).drop p.1.size).length _ (by rw[TM,TA];omega) (Tw _)]
def Dg{a c}{s:Bs}(b:bN a (c::s)=none):eA a (c::s)=(if bd c then⟨#[c]⟩else⟨#[]⟩)::eA a s:=by unfold eA;rw[TA];(conv=>lhs;unfold lS);rw[b]
def aD.blocks{K}{w w':World}{v l}(h:aD K 2 dv w v l)(j:∀b,K b->w'.heap[b]? =w.heap[b]?):aD K 2 dv w' v l:=by (obtain⟨n,c,rfl,p,q,f,r⟩:=h;have m:∀b o,K b->w'.cell? ⟨b,o,none⟩=w.cell? ⟨b,o,none⟩:=λb o d=>by unfold World.cell?;rw[show w'.heap[(⟨b,o,none⟩:Addr).block]? =w.heap[(⟨b,o,none⟩:Addr).block]? from j b d]);refine⟨n,c,rfl,p,q,f.imp id λf a s=>?_,λk d=>?_⟩;obtain⟨k1,g,t⟩:=f a s;exact⟨k1,g,by rw[j _ g];exact t⟩;obtain⟨b,i,e,k1,g⟩:=r k d;have d:=((f.resolve_left (by omega)) _ e).2.1;exact⟨b,i,e,(m b _ d).trans k1,(m b _ d).trans g⟩
def aD.below{K w v l}(h:aD K 2 dv w v l):aD (λb=>b<w.heap.size) 2 dv w v l:=by obtain⟨j,c,rfl,m,n,d,o⟩:=h;refine⟨j,c,rfl,m,n,d.imp id λd a p=>?_,λk q=>?_⟩;obtain⟨k1,g,cs,e,F,i⟩:=d a p;exact⟨k1,(TC.1 i).1,cs,e,F,i⟩;obtain⟨b,f,e,k1,g⟩:=o k q;exact⟨b,f,e,k1,g⟩
def gY(rest:ByteArray):Option Pr2->ByteArray×ByteArray×Int
 |some p=>(p.1,p.2,p.1.size)
 |none=>(rest.extract 0 1,if(rest.data.toList.head?.any bd)then rest.extract 0 1 else⟨#[]⟩,0)
theorem Fa{b}{chk:List b->b->Int}:∀{seen l:List b} {i:Nat} (h:i<l.length),(∀j (e:j<i),chk (seen++l.take j) (l[j]'(by omega))=0)->chk (seen++l.take i) l[i]≠0->dV chk seen l=chk (seen++l.take i) l[i]
 |seen,x::xs,0,h,_,a=>by simp only[T5,UH,Vz]at a⊢;unfold dV;rw[Tv a]
 |seen,x::xs,i+1,h,c,a=>by have d:=c 0 (by omega);simp only[T5,UH,Vz]at d;unfold dV;rw[Tu (by rw[d];simp)];have:=Fa (chk:=chk) (seen:=seen++[x]) (l:=xs) (i:=i) (by simpa using h) (λj e=>by simpa using c (j+1) (by omega)) (by simpa using a);simpa using this
theorem AK{a}{chk:List a->a->Int}:∀{seen l:List a},(∀j (b:j<l.length),chk (seen++l.take j) l[j]=0)->dV chk seen l=0
 |seen,[],_=>rfl
 |seen,x::xs,c=>by have d:=c 0 (by simp);simp only[T5,UH,Vz]at d;unfold dV;rw[Tu (by rw[d];simp)];refine AK λj b=>?_;have:=c (j+1) (by simpa using b);simpa only[T9,List.getElem_cons_succ,UG,List.singleton_append]using this
def fp{a}{chk:List a->a->Int}{l:List a}{i:Nat}(h:i<l.length)(d:∀j (c:j<i) (g:j<l.length),chk (l.take j) l[j]=0){f:Int}(e:chk (l.take i) l[i]=f)(b:f≠0):dV chk [] l=f:=by subst e;have:=Fa (chk:=chk) (seen:=[]) h (λj c=>by simpa using d j c (by omega)) (by simpa using b);simpa using this
def eW{a}{chk:List a->a->Int}{l:List a}(c:∀j (b:j<l.length),chk (l.take j) l[j]=0):dV chk [] l=0:=AK λj b=>by simpa using c j b
def ft{a}{chk:List a->a->Int}{l:List a}{k:Nat}(c:∀j (_:j<k) (b:j<l.length),chk (l.take j) l[j]=0)(d:k<l.length)(h:chk (l.take k) l[k]=0):∀j (_:j<k+1) (b:j<l.length),chk (l.take j) l[j]=0:=λj e b=>by obtain h2|h2:=Ty j k;exact c j h2 b;(have:j=k:=by omega);subst this;exact h
def Fb{a}{l:List a}{p:a->Bool}{i:Nat}:(l.take i).any p=false↔∀j (_:j<i) (e:j<l.length),p l[j]=false:=by rw[Vh];constructor;intro h j b f;(have c:l[j]∈l.take i:=by rw[Wv];exact⟨j,by omega,rfl⟩);simpa using h _ c;intro h x d;obtain⟨j,b,rfl⟩:=Wv.1 d;simp[h j (by omega) (by omega)]
def KH{s:ByteArray}(h:s.size=0\/10<s.size):dG s=false:=by unfold dG au;obtain h|h:=h;rw[h];rfl;rw[show decide ((s.size:Int)<=10)=false from Tz (by omega),Ve,Wp,Wp]
def head_data{s:ByteArray}(h:0<s.size):s.data.toList.head?=some s[0]:=by (have a:0<s.data.toList.length:=by rw[<-Lib.size_eq];exact h);rw[List.head?_eq_getElem?,T2 a];rfl
def Fc{s:ByteArray}{p:UInt8->Bool}:s.data.toList.all p=true↔∀j (h:j<s.size),p s[j]=true:=by rw[T8];constructor;intro h j a;exact h _ (TG (l:=s.data.toList) (n:=j) (by rw[<-Lib.size_eq];exact a));intro h x b;obtain⟨j,a,rfl⟩:=Vf b;exact h j (by rw[Lib.size_eq];exact a)
def Ig{s:ByteArray}(b:s.size≠0)(c:s.size<=10)(a:bd (s[0]'(by omega))=true)(h:∀j (h:j<s.size),(bd s[j]||js s[j])=true):dG s=true:=by unfold dG au;rw[head_data (by omega),Fc.2 h,TD (by omega),TD (by omega)];simpa using a
def yj{s:ByteArray}{k:Nat}(c:k<s.size)(h:bd s[k]=false)(a:js s[k]=false\/k=0):dG s=false:=by rw[V8];intro b;unfold dG at b;simp only[TH]at b;obtain⟨⟨_,d⟩,e⟩:=b;obtain a|rfl:=a;have:=Fc.1 e k c;rw[h,a]at this;cases this;rw[head_data c]at d;simp[h]at d
def I5(s:ByteArray)(w:World)(M:s.size<=9223372036854775807):ac fs 111 #[.string s] w (.bool (dG s)):=by
 have e60:=e60 L;by_cases h0:s.size=0\/10<s.size
 .rw[KH h0];go_enter (n111 L),Tryz.ntmps111;obtain h0|h0:=h0
  ·(have t:((s.size:Int)==0)=true:=by rw[Uk];omega);go_wp2;go_ret;exact⟨rfl,Below.refl _ _⟩
  have t:((s.size:Int)==0)=false:=by rw[TX];omega
  have F:decide ((10:Int)<(s.size:Int))=true:=TD (by omega);go_wp2;go_ret;exact⟨rfl,Below.refl _ _⟩
 have t:((s.size:Int)==0)=false:=by rw[TX];omega
 have F:decide ((10:Int)<(s.size:Int))=false:=Tz (by omega);have h0:s.size≠0/\s.size<=10:=by omega
 go_enter (n111 L),Tryz.ntmps111;go_wp2;go_loopw [3] (λi wr=>∃k:Nat,k<=s.size/\i=.int .i64 k/\(∀j (h:j<k) (G:j<s.size),(bd s[j]||js s[j])=true)/\(0<k->bd (s[0]'(by omega))=true)/\Below w.heap.size w wr) (λi _=>s.size-(intOf i).toNat);case atStart=>exact⟨0,TE _,rfl,λj h=>absurd h (TL _),λh=>absurd h (Nat.lt_irrefl _),Below.refl _ _⟩
 case round=>
  obtain⟨k,N,rfl,u,v,z⟩:=hrel;have A:Hid _:=u;have o:Hid _:=v;have p:Hid _:=z;clear u v z;obtain c|hge:=Ty k s.size
  .have O:k<s.size:=c;(obtain⟨m,d⟩:=ex (bd s[k]);obtain⟨n,f⟩:=ex (js s[k]);have g:wrap64 (s[k].toNat:Int)=s[k].toNat:=by have:=s[k].toNat_lt;unfold wrap64;omega);(have B:∀x:al w wr,Calls (Qs fs) 60 #[.int .i64 (wrap64 (s[k].toNat:Int)),.int .i64 97,.int .i64 122] x.val λe w'=>e=.returned (.bool m)/\∃y:al w wr,w'=y.val:=λx=>by rw[d,g];exact al.same (vi L _ _ _ x.val));(have C:∀x:al w wr,Calls (Qs fs) 60 #[.int .i64 (wrap64 (s[k].toNat:Int)),.int .i64 48,.int .i64 57] x.val λe w'=>e=.returned (.bool n)/\∃y:al w wr,w'=y.val:=λx=>by rw[f,g];exact al.same (vi L _ _ _ x.val));(have l:Hid _:=(⟨d,f⟩:m=bd s[k]/\n=js s[k]));(clear d f g;go_upto_region 6 with fail;refine aX (w0:=w) (w1:=wr) 10 (by kernel_rfl) (by kernel_rfl) (ae.refl _) p.out ?_;simp only[T9,T5,Uh,Ub];haveI q:Nonempty (al w wr):=⟨⟨wr,ae.refl _,p.out⟩⟩);(repeat (go_big_quiet_step ((go_at_call 60;first|exact B _|exact C _))));refine wpQuiet_nil ?_;rintro P ⟨⟨_,H,D⟩,rfl⟩;have a:Hid _:=D;clear B C q H D;by_cases r:k=0
   .subst r
    cases m with
    |true=>(go_wp2;refine⟨⟨1,by omega,by go_num,λj I E=>?_,λ_=>l.out.1.symm,a.out⟩,by simp[intOf];omega⟩;have:j=0:=by omega);subst this;rw[<-l.out.1];rfl
    |false=>cases n<;>(go_wp2;go_ret;exact⟨by rw[yj c l.out.1.symm (.inr rfl)];rfl,a.out⟩)
   (have J:((k:Int)==0)=false:=by rw[TX];omega);(have b:(m||n)=true->∀j (h:j<k+1) (G:j<s.size),(bd s[j]||js s[j])=true:=λK j I E=>by obtain h3|h3:=Ty j k;exact A.out j h3 E;(have:j=k:=by omega);subst this;rw[<-l.out.1,<-l.out.2];exact K);have HS:Hid _:=b;clear b;cases m with|true=>go_wp2;exact⟨⟨k+1,by omega,by go_num,HS.out rfl,λ_=>o.out (by omega),a.out⟩,by simp[intOf];omega⟩|false=>cases n with|true=>go_wp2;exact⟨⟨k+1,by omega,by go_num,HS.out rfl,λ_=>o.out (by omega),a.out⟩,by simp[intOf];omega⟩|false=>go_wp2;go_ret;exact⟨by rw[yj c l.out.1.symm (.inl l.out.2.symm)];rfl,a.out⟩
  go_wp2;go_ret;exact⟨by rw[Ig h0.1 h0.2 (o.out (by omega)) λj h=>A.out j (by omega) h];rfl,p.out⟩
def Ih(l:List Pr2)(i:Nat)(a:i<l.length):letterF (l.take i) l[i]=if !bl l[i].1 4 then 3 else if(l.take i).any (λq=>decide (q.1=l[i].1))then 5 else if !aZ l[i].2 1 3 then 3 else 0:=rfl
def yk{K:Nat->Prop}{v:Value}{l:List Pr2}(w:World)(M:aD K 2 dv w v l)(Y:∀p∈l,p.1.size<=1000/\p.2.size<=1000)(hn:l.length<=1000):ac fs 58 #[v] w (.int .i64 (aI 0 12 letterF l)):=by
 have Ow:=Ow L;have e61:=e61 L;obtain⟨ao,c,rfl,af,hc,_,n⟩:=M;by_cases ag:12<l.length
 .have g:(12:Int)<(l.length:Int):=by omega
  have e:aI 0 12 letterF l=2:=by unfold aI au;rw[Tz (p:=(l.length:Int)<=12) (by omega),Ve];rfl
  rw[e];clear Y n;go_enter (n58 L),Tryz.ntmps58;go_wp2;go_ret;exact⟨rfl,Below.refl _ _⟩
 have g:decide ((12:Int)<(l.length:Int))=false:=Tz (by omega);have e:aI 0 12 letterF l=dV letterF [] l:=by unfold aI au;rw[TD (by omega),TD (by omega)];rfl
 rw[e];clear e;have HS:Hid _:=Y;have HC:Hid _:=n;clear Y n;go_enter (n58 L),Tryz.ntmps58;go_wp2;go_loopw [3] (λs wr=>∃k:Nat,k<=l.length/\s=.int .i64 k/\(∀j (_:j<k) (Z:j<l.length),letterF (l.take j) l[j]=0)/\Below w.heap.size w wr) (λs _=>l.length-(intOf s).toNat);case atStart=>exact⟨0,TE _,rfl,λj h=>absurd h (TL _),Below.refl _ _⟩
 case round=>
  obtain⟨k,hk,rfl,hf,hb⟩:=hrel;have HF:Hid _:=hf;have U:Hid _:=hb;clear hf hb;obtain t|hge:=Ty k l.length
  .obtain⟨b,F,rfl,hx⟩:=HC.out k t;obtain⟨G,C⟩:=HS.out l[k] (TG t);obtain⟨u,y⟩:=hx;have a:=Ih l k t;have V:=ae.below U.out;have HR:Hid (∀j (hj:j<l.length),wr.cell? ⟨b,F+j*2,none⟩=some (.string l[j].1)):=λj hj=>by obtain⟨b',o',e',hy⟩:=HC.out j hj;cases e';exact V.cell hy.1
   have u:=V.cell u;have y:=V.cell y;clear V;obtain⟨p,hp⟩:=ex (l[k]);rw[<-hp]at u y G C a;obtain⟨p0,W⟩:=p;simp only[]at u y G C a;have z:=λwx=>uw L p0 4 wx (by omega);have B:=λwx=>mY L W 1 3 wx (by omega);obtain⟨z1,N⟩:=ex (bl p0 4);obtain⟨z2,O⟩:=ex (aZ W 1 3);simp only[<-N]at z a;simp only[<-O]at B a;have HP:Hid _:=hp;have X:Hid _:=a;clear N O hp a;have D:∀{f:Int},letterF (l.take k) (p0,W)=f->f≠0->dV letterF [] l=f:=λG C=>fp t HF.out (by rw[<-HP.out];exact G) C;have HG:Hid (letterF (l.take k) (p0,W)=0->∀j (_:j<k+1) (Z:j<l.length),letterF (l.take j) l[j]=0):=λh=>ft HF.out t (by rw[<-HP.out];exact h);have H:Hid _:=@D;clear D;cases z1 with
   |false=>have A:=H.out (X.out.trans rfl:_=(3:Int)) (by decide);have HV:Hid _:=A;clear A B;go_wp2_with (go_at_call 110;refine(z _).mono ?_;rintro e w' ⟨rfl,rfl⟩);go_ret;exact⟨by rw[HV.out];rfl,U.out⟩
   |true=>
    (go_upto_block 2 with((go_at_call 110;refine(z _).mono ?_;rintro e w' ⟨rfl,m⟩;rw[m];clear m)));go_wp2;go_loopw [4] (λs wi=>∃j:Nat,j<=k/\s=.int .i64 j/\(∀i (_:i<j) (Z:i<l.length),l[i].1≠p0)/\ae wr wi/\Below w.heap.size w wi) (λs _=>k-(intOf s).toNat);case atStart=>exact⟨0,TE _,rfl,λj h=>absurd h (TL _),ae.refl _,U.out⟩
    case round=>
     (obtain⟨j,hj,rfl,P,o,I⟩:=hrel;have HN:Hid _:=P;have Q:Hid _:=(⟨o,I⟩:_/\Below w.heap.size w wr));have y1:=o.cell u;have y2:=o.cell y;clear P;obtain hjk|hjk:=Ty j k
     .have y0:=o.cell (HR.out j (by omega));(obtain⟨r,hr⟩:=ex (l[j].1);rw[<-hr]at y0;have l0:∀x:al w wr,x.val.cell? ⟨b,F+j*2,none⟩=some (.string r):=λx=>x.st.cell y0;have l1:∀x:al w wr,x.val.cell? ⟨b,F+k*2,none⟩=some (.string p0):=λx=>x.st.cell y1;obtain⟨d,hd⟩:=ex (decide (r=p0));have J:=j6 r p0;rw[<-hd]at J;have HD:Hid _:=hd;have R:Hid _:=hr;clear hd;clear hr o I;go_upto_region 11 with fail;refine aO (w0:=w) (w1:=wr) (by kernel_rfl) (by kernel_rfl) (ae.refl _) Q.out.2 ?_;haveI aa:Nonempty (al w wr):=⟨⟨wr,ae.refl _,Q.out.2⟩⟩);(repeat (go_big_quiet_step (fail)));(refine wpQuiet_nil ?_;rintro wz ⟨⟨_,Sz,Bz⟩,rfl⟩;have HZ:Hid _:=(⟨Q.out.1.trans Sz,Bz⟩:_/\_));clear l0 l1 aa Sz Bz y0 y1 y2;cases d with|true=>have S:r=p0:=Ua HD.out.symm;have A:=H.out (X.out.trans (by rw[Tu (by simp),Tv];rw[Uv];exact⟨l[j],Wv.2 ⟨j,by omega,rfl⟩,TD (R.out▸S)⟩):_=(5:Int)) (by decide);have HV:Hid _:=A;clear J S A;go_wp2;go_ret;exact⟨by rw[HV.out];rfl,HZ.out.2⟩|false=>(have S:r≠p0:=Wk HD.out.symm;have T:∀i (_:i<j+1) (Z:i<l.length),l[i].1≠p0:=λi G C=>by obtain h3|h3:=Ty i j;exact HN.out i h3 C;(have:i=j:=by omega);subst this;exact R.out▸S);have ab:Hid _:=T;clear J S T;go_wp2;exact⟨⟨j+1,by omega,by go_num,ab.out,HZ.out.1,HZ.out.2⟩,by simp[intOf];omega⟩
     (have ad:j=k:=by omega);subst ad;have E:(l.take j).any (λq=>decide (q.1=p0))=false:=Fb.2 λi G C=>Tz (HN.out i G C);have HA:Hid _:=E;clear E o I;cases z2 with|false=>have A:=H.out (X.out.trans (by rw[HA.out];rfl):_=(3:Int)) (by decide);have HV:Hid _:=A;clear A;go_wp2_with (go_at_call 61;refine(B _).mono ?_;rintro e w' ⟨rfl,m⟩;rw[m];clear m);go_ret;exact⟨by rw[HV.out];rfl,Q.out.2⟩|true=>have A:=HG.out (X.out.trans (by rw[HA.out];rfl));have HV:Hid _:=A;clear A;go_wp2_with (go_at_call 61;refine(B _).mono ?_;rintro e w' ⟨rfl,m⟩;rw[m];clear m);exact⟨⟨j+1,by omega,by go_num,HV.out,Q.out.2⟩,by simp[intOf];omega⟩
  go_wp2;go_ret;exact⟨by rw[eW λj h=>HF.out j (by omega) h];rfl,U.out⟩
def Ii(l:List jM)(i:Nat)(a:i<l.length)(n:ByteArray)(ss:List Pr2):dj (l.take i) ⟨n,ss⟩=if !dG n then 4 else if(l.take i).any (λq=>decide (q.name=n))then 5 else aI 0 5 dW ss:=rfl
def yl{K:Nat->Prop}{v:Value}{l:List jM}(w:World)(ab:aD K 2 fB w v l)(hs:∀t∈l,t.name.size<=1000/\∀p∈t.aW,p.1.size<=1000/\p.2.size<=1000)(hn:l.length<=1000):ac fs 59 #[v] w (.int .i64 (aI 0 3 dj l)):=by
 have Ox:=Ox L;have e61:=e61 L;obtain⟨ao,c,rfl,a6,hc,_,C⟩:=ab;by_cases a7:3<l.length
 .have g:(3:Int)<(l.length:Int):=by omega
  have e:aI 0 3 dj l=2:=by unfold aI au;rw[Tz (p:=(l.length:Int)<=3) (by omega),Ve];rfl
  rw[e];clear hs C;go_enter (n59 L),Tryz.ntmps59;go_wp2;go_ret;exact⟨rfl,Below.refl _ _⟩
 have g:decide ((3:Int)<(l.length:Int))=false:=Tz (by omega);have e:aI 0 3 dj l=dV dj [] l:=by unfold aI au;rw[TD (by omega),TD (by omega)];rfl
 rw[e];clear e;have HS:Hid _:=hs;have HC:Hid _:=C;clear hs C;go_enter (n59 L),Tryz.ntmps59;go_wp2;go_loopw [3] (λs wr=>∃k:Nat,k<=l.length/\s=.int .i64 k/\(∀j (_:j<k) (h':j<l.length),dj (l.take j) l[j]=0)/\Below w.heap.size w wr) (λs _=>l.length-(intOf s).toNat);case atStart=>exact⟨0,TE _,rfl,λj h=>absurd h (TL _),Below.refl _ _⟩
 case round=>
  obtain⟨k,hk,rfl,hf,hb⟩:=hrel;have HF:Hid _:=hf;have HB:Hid _:=hb;clear hf hb;obtain G|hge:=Ty k l.length
  .obtain⟨b,P,rfl,hx⟩:=HC.out k G;obtain⟨Q,F⟩:=HS.out l[k] (TG G);obtain⟨D,vs,R,H⟩:=hx;have HR:Hid (∀j (hj:j<l.length),w.cell? ⟨b,P+j*2,none⟩=some (.string l[j].name)):=λj hj=>by obtain⟨b',o',e',hy⟩:=HC.out j hj;cases e';exact hy.1
   have S0:=ae.below HB.out;have S:w.cell? ⟨b,P+k*2+1,none⟩=some vs:=R;have D:=S0.cell D;have R:=S0.cell R;clear S0;obtain⟨p,hp⟩:=ex (l[k]);rw[<-hp]at D Q F H;obtain⟨p0,p1⟩:=p;simp only[]at D R Q F H;have a:=Ii l k G p0 p1;have I:=λwx=>I5 L p0 wx (by omega);obtain⟨z1,J⟩:=ex (dG p0);simp only[<-J]at I a;have HP:Hid _:=hp;have HL:Hid _:=a;clear J hp a;have U:∀{f:Int},dj (l.take k) ⟨p0,p1⟩=f->f≠0->dV dj [] l=f:=λQ F=>fp G HF.out (by rw[<-HP.out];exact Q) F;have HG:Hid (dj (l.take k) ⟨p0,p1⟩=0->∀j (_:j<k+1) (h':j<l.length),dj (l.take j) l[j]=0):=λh=>ft HF.out G (by rw[<-HP.out];exact h);have T:Hid _:=@U;clear U;have q1:=I wr;clear I;cases z1 with
   |false=>have B:=T.out (HL.out.trans rfl:_=(4:Int)) (by decide);have HV:Hid _:=B;clear B;go_wp2_with (go_at_call 111;refine q1.mono ?_;rintro e w3 ⟨rfl,M⟩);go_ret;exact⟨by rw[HV.out];rfl,HB.out.trans (M.mono HB.out.size)⟩
   |true=>
    (go_upto_block 2 with((go_at_call 111;refine q1.mono ?_;rintro e w3 ⟨rfl,M⟩)));have ak:Hid (Below w.heap.size w w3):=HB.out.trans (M.mono HB.out.size);have D:=(ae.below M).cell D;clear M q1;go_wp2;go_loopw [4] (λs wi=>∃j:Nat,j<=k/\s=.int .i64 j/\(∀i (_:i<j) (h':i<l.length),l[i].name≠p0)/\ae w3 wi/\Below w.heap.size w wi) (λs _=>k-(intOf s).toNat);case atStart=>exact⟨0,TE _,rfl,λj h=>absurd h (TL _),ae.refl _,ak.out⟩
    case round=>
     (obtain⟨j,hj,rfl,N,A,n⟩:=hrel;have HN:Hid _:=N;have HI:Hid _:=(⟨A,n⟩:_/\Below w.heap.size w wr));have y1:=A.cell D;have y2:=(ae.below n).cell S;clear N;obtain hjk|hjk:=Ty j k
     .have y0:=(ae.below n).cell (HR.out j (by omega));(obtain⟨r,X⟩:=ex (l[j].name);rw[<-X]at y0;have l0:∀x:al w wr,x.val.cell? ⟨b,P+j*2,none⟩=some (.string r):=λx=>x.st.cell y0;have l1:∀x:al w wr,x.val.cell? ⟨b,P+k*2,none⟩=some (.string p0):=λx=>x.st.cell y1;obtain⟨d,hd⟩:=ex (decide (r=p0));have Y:=j6 r p0;rw[<-hd]at Y;have HD:Hid _:=hd;have O:Hid _:=X;clear hd;clear X A n;go_upto_region 11 with fail;refine aO (w0:=w) (w1:=wr) (by kernel_rfl) (by kernel_rfl) (ae.refl _) HI.out.2 ?_;haveI an:Nonempty (al w wr):=⟨⟨wr,ae.refl _,HI.out.2⟩⟩);(repeat (go_big_quiet_step (fail)));(refine wpQuiet_nil ?_;rintro wz ⟨⟨_,Sz,Bz⟩,rfl⟩;have HZ:Hid _:=(⟨HI.out.1.trans Sz,Bz⟩:_/\_));clear l0 l1 an Sz Bz y0 y1 y2;cases d with|true=>have he:r=p0:=Ua HD.out.symm;have B:=T.out (HL.out.trans (by rw[Tu (by simp),Tv];rw[Uv];exact⟨l[j],Wv.2 ⟨j,by omega,rfl⟩,TD (O.out▸he)⟩):_=(5:Int)) (by decide);have HV:Hid _:=B;clear Y he B;go_wp2;go_ret;exact⟨by rw[HV.out];rfl,HZ.out.2⟩|false=>(have he:r≠p0:=Wk HD.out.symm;have ad:∀i (_:i<j+1) (h':i<l.length),l[i].name≠p0:=λi Q F=>by obtain h3|h3:=Ty i j;exact HN.out i h3 F;(have:i=j:=by omega);subst this;exact O.out▸he);have ar:Hid _:=ad;clear Y he ad;go_wp2;exact⟨⟨j+1,by omega,by go_num,ar.out,HZ.out.1,HZ.out.2⟩,by simp[intOf];omega⟩
     (have ax:j=k:=by omega);(subst ax;have V:(l.take j).any (λq=>decide (q.name=p0))=false:=Fb.2 λi Q F=>Tz (HN.out i Q F);have HA:Hid (dj (l.take j) ⟨p0,p1⟩=aI 0 5 dW p1):=by rw[Hid,HL.out,V];rfl);(have H:=H.stays (ae.below n) λx y o z e h=>by subst e;exact⟨(ae.below n).cell h.1,(ae.below n).cell h.2⟩);obtain⟨a8,cs,rfl,ba,bb,_,E⟩:=H;have ay:Hid _:=E;clear V A n E;by_cases h5:5<p1.length
     ·(have g5:(5:Int)<(p1.length:Int):=by omega);have B:=T.out (HA.out.trans (by unfold aI au;rw[Tz (p:=(p1.length:Int)<=5) (by omega),Ve];rfl):_=(2:Int)) (by decide);have HV:Hid _:=B;clear B;go_wp2;go_ret;exact⟨by rw[HV.out];rfl,HI.out.2⟩
     have g5:decide ((5:Int)<(p1.length:Int))=false:=Tz (by omega);(have e5:aI 0 5 dW p1=dV dW [] p1:=by unfold aI au;rw[TD (by omega),TD (by omega)];rfl);have af:Hid _:=HA.out.trans e5;clear e5
     (go_upto_block 4 with fail);go_wp2;go_loopw [5] (λs wi=>∃m:Nat,m<=p1.length/\s=.int .i64 m/\(∀i (_:i<m) (h':i<p1.length),dW (p1.take i) p1[i]=0)/\ae wr wi/\Below w.heap.size w wi) (λs _=>p1.length-(intOf s).toNat);case atStart=>exact⟨0,TE _,rfl,λj h=>absurd h (TL _),ae.refl _,HI.out.2⟩
     case round=>
      (obtain⟨m,hm,rfl,N,A,n⟩:=hrel;have Z:Hid _:=N;have ag:Hid _:=(⟨A,n⟩:_/\Below w.heap.size w wr));have y3:=A.cell y2;clear N;obtain hmk|hmk:=Ty m p1.length
      .obtain⟨b2,o2,rfl,u1,u2⟩:=ay.out m hmk;(obtain⟨k1,k2⟩:=F p1[m] (TG hmk);have u1:=A.cell u1;have u2:=A.cell u2;have a:dW (p1.take m) p1[m]=if !aZ p1[m].1 1 3|| !aZ p1[m].2 0 p1[m].1.size then 3 else 0:=rfl);obtain⟨r,X⟩:=ex (p1[m]);rw[<-X]at u1 u2 k1 k2 a;obtain⟨r0,r1⟩:=r;simp only[]at u1 u2 k1 k2 a;have qa:=λwx=>mY L r0 1 3 wx (by omega);have qb:=λwx=>mY L r1 0 r0.size wx (by omega);obtain⟨z1,J⟩:=ex (aZ r0 1 3);obtain⟨z2,S⟩:=ex (aZ r1 0 r0.size);simp only[<-J]at qa a;simp only[<-S]at qb a;have O:Hid _:=X;have aa:Hid _:=a;have S2:Hid _:=ae.alloc wr (.cells #[.string r0,.string r1] 51);have B2:Hid _:=n.alloc n.size (.cells #[.string r0,.string r1] 51);clear J S X a A n;have ah:∀{f:Int},dW (p1.take m) (r0,r1)=f->f≠0->dV dj [] l=f:=λQ F=>T.out (af.out.trans (fp hmk Z.out (by rw[<-O.out];exact Q) F)) F;have W:Hid _:=@ah;have aM:Hid (dW (p1.take m) (r0,r1)=0->∀i (_:i<m+1) (h':i<p1.length),dW (p1.take i) p1[i]=0):=λh=>ft Z.out hmk (by rw[<-O.out];exact h);clear ah;cases z1 with|false=>have B:=W.out (aa.out.trans rfl:_=(3:Int)) (by decide);have HV:Hid _:=B;clear B;go_wp2_with (go_at_call 61;refine(qa _).mono ?_;rintro e w' ⟨rfl,u⟩;rw[u];clear u);go_ret;exact⟨by rw[HV.out];rfl,B2.out⟩|true=>cases z2 with|false=>have B:=W.out (aa.out.trans rfl:_=(3:Int)) (by decide);have HV:Hid _:=B;clear B;go_wp2_with (go_at_call 61;first|(refine(qa _).mono ?_;rintro e w' ⟨rfl,u⟩;rw[u];clear u)|(refine(qb _).mono ?_;rintro e w' ⟨rfl,u⟩;rw[u];clear u));go_ret;exact⟨by rw[HV.out];rfl,B2.out⟩|true=>have B:=aM.out (aa.out.trans rfl);have HV:Hid _:=B;clear B;go_wp2_with (go_at_call 61;first|(refine(qa _).mono ?_;rintro e w' ⟨rfl,u⟩;rw[u];clear u)|(refine(qb _).mono ?_;rintro e w' ⟨rfl,u⟩;rw[u];clear u));exact⟨⟨m+1,by omega,by go_num,HV.out,ag.out.1.trans S2.out,B2.out⟩,by simp[intOf];omega⟩
      (have a1:m=p1.length:=by omega);subst a1;have B:=HG.out (af.out.trans (eW λi h=>Z.out i h h));have HV:Hid _:=B;clear B A n;go_wp2;exact⟨⟨j+1,by omega,by go_num,HV.out,ag.out.2⟩,by simp[intOf];omega⟩
  go_wp2;go_ret;exact⟨by rw[eW λj h=>HF.out j (by omega) h];rfl,HB.out⟩
end Go.Proofs
namespace Go.Proofs
open Go.Tm Go.RowKit
section
variable (fs:Array Func)
def iW(t):(Qs fs).fieldsOf t=Tryz.prog.fieldsOf t:=by unfold Program.fieldsOf;rw[aK]
def ON{t}(h:Tryz.prog.eqGuardType Tryz.prog.depth t=false):(Qs fs).eqGuardType (Qs fs).depth t=false:=by rw[mE,show(Qs fs).depth=Tryz.prog.depth from rfl];exact h
def rQ{t}(h:Tryz.prog.stoodInHeld t=false):(Qs fs).stoodInHeld t=false:=by rw[eG];exact h
def ov{t l}(h:Tryz.prog.underlying t=some (.struct l)):(Qs fs).underlying t=some (.struct ((Qs fs).fieldsOf t)):=by rw[iW,aK];unfold Program.fieldsOf;rw[h]
def vQ:Tryz.prog.eqGuardType Tryz.prog.depth 86=false:=by kernel_rfl
def II:Tryz.prog.stoodInHeld 86=false:=by kernel_rfl
def IJ:Tryz.prog.eqGuardType Tryz.prog.depth 66=false:=by kernel_rfl
def OO:Tryz.prog.stoodInHeld 66=false:=by kernel_rfl
def OP:Tryz.prog.eqGuardType Tryz.prog.depth 96=false:=by kernel_rfl
def OQ:Tryz.prog.stoodInHeld 96=false:=by kernel_rfl
def Ds(a b c x y z w):(binOp .eql 86 (.agg #[.int .i64 a,.int .i64 b,.int .i64 c]) (.agg #[.int .i64 x,.int .i64 y,.int .i64 z])).run (Qs fs) w=.ok (.bool (decide (a=x/\b=y/\c=z))) w:=by rw[run_eql_struct,run_equalIn_struct w _ 86 _ _ (ov fs Tryz.underlying86) (rQ fs II),iW,Program.fieldsOf,Tryz.underlying86];simp[go_sem];by_cases d:a=x<;>by_cases e:b=y<;>by_cases f:c=z<;>simp[d,e,f]
def zM(a b c x y z w):(binOp .neq 86 (.agg #[.int .i64 a,.int .i64 b,.int .i64 c]) (.agg #[.int .i64 x,.int .i64 y,.int .i64 z])).run (Qs fs) w=.ok (.bool (!decide (a=x/\b=y/\c=z))) w:=by rw[run_neq_struct,run_equalIn_struct w _ 86 _ _ (ov fs Tryz.underlying86) (rQ fs II),iW,Program.fieldsOf,Tryz.underlying86];simp[go_sem];by_cases d:a=x<;>by_cases e:b=y<;>by_cases f:c=z<;>simp[d,e,f]
def zN(a b c x y z w):(binOp .neq 66 (.agg #[.int .i64 a,.int .i64 b,.int .i64 c]) (.agg #[.int .i64 x,.int .i64 y,.int .i64 z])).run (Qs fs) w=.ok (.bool (!decide (a=x/\b=y/\c=z))) w:=by rw[run_neq_struct,run_equalIn_struct w _ 66 _ _ (ov fs Tryz.underlying66) (rQ fs OO),iW,Program.fieldsOf,Tryz.underlying66];simp[go_sem];by_cases d:a=x<;>by_cases e:b=y<;>by_cases f:c=z<;>simp[d,e,f]
def Jv(a b c x y z w):(binOp .neq 96 (.agg #[.int .i64 a,.int .i64 b,.int .u8 c]) (.agg #[.int .i64 x,.int .i64 y,.int .u8 z])).run (Qs fs) w=.ok (.bool (!decide (a=x/\b=y/\c=z))) w:=by rw[run_neq_struct,run_equalIn_struct w _ 96 _ _ (ov fs Tryz.underlying96) (rQ fs OQ),iW,Program.fieldsOf,Tryz.underlying96];simp[go_sem];by_cases d:a=x<;>by_cases e:b=y<;>by_cases f:c=z<;>simp[d,e,f]
def ic{t}(h:Tryz.prog.eqGuardType Tryz.prog.depth t=false)(a x y xs b w):(eqGuard a t x y (.agg xs) (.agg b)).run (Qs fs) w=.ok () w:=run_eqGuard_agg w a t x y xs b (ON fs h)
end
def Mm{s:Array Bool}{i k}(h:(s.setIfInBounds i true).getD k false=true):k=i\/s.getD k false=true:=by by_cases e:k=i;exact .inl e;right;rw[Up,TJ (TO e)]at h;rw[Up];exact h
def aN{s:Array Bool}{i k}(h:(s.setIfInBounds i true).getD k false=true)(a:k≠i):s.getD k false=true:=(Mm h).resolve_left a
section
variable {P:Program} {md:Region.Mode} {ops:Array Oper} {Q:Exit->Act->World->Prop} {I:Array Bool->Act->World->Prop}
theorem ky(c:∀s a w i,I s a w->i∈Region.ready md ops s->wpOp P ops Q i (λl w'=>I (s.setIfInBounds i true) l w') a w) (d:∀s a w,I s a w->Region.ready md ops s=[]->Q .normal a w):∀(f) (s) (a) (w),s.toList.count false<=f->I s a w->wpAny P md ops Q f s a w
 |0,s,a,w,r,h=>by
  have o:Region.ready md ops s=[]:=by
   rw[List.eq_nil_iff_forall_not_mem];intro i k;obtain⟨e,_⟩:=mem_ready.1 k;have:false∈s.toList:=by
    rw[Up]at e;cases m:s[i]? with
    |none=>rw[m]at e;cases e
    |some b=>rw[m]at e;have n:b=false:=e;subst n;exact UC (by rw[Ut];exact m)
   have:=List.count_pos_iff.2 this;omega
  exact⟨o,d s a w h o⟩
 |f+1,s,a,w,r,h=>by
  refine⟨d s a w h,λi k=>wpOp_mono (λl w' t=>ky c d f _ l w' ?_ t) (c s a w i h k)⟩;obtain⟨e,_⟩:=mem_ready.1 k;rw[Up]at e;have g:i<s.size:=by
   obtain h|h:=Ty i s.size
   .exact h
   .rw[UQ h]at e;cases e
  rw[TW g]at e;have n:s[i]=false:=e;have p:i<s.toList.length:=by simpa using g
  have j:s.toList[i]=false:=by rw[Wz];exact n
  rw[Xc];have q:=List.count_set (a:=true) (b:=false) p;rw[j]at q;have u:0<s.toList.count false:=List.count_pos_iff.2 (j▸TG p);simp only[beq_self_eq_true,TK,UB,show(true==false)=false from rfl,TS,TP]at q;omega
def R3(ops:Array Oper):Bool:=(List.range ops.size).all λk=>match ops[k]? with
 |some o=>o.after.all λe=>decide (e.on<k)
 |none=>true
theorem DY{s}(a:s.size=ops.size)(d:R3 ops=true)(f:Region.ready md ops s=[]):∀(n k),k<n->k<ops.size->s.getD k false=true
 |0,k,h,_=>absurd h (TL _)
 |n+1,k,h,b=>by
  cases g:s.getD k false with
  |true=>rfl
  |false=>
   exfalso;have c:k<s.size:=by omega
   have l:s.getD k true=false:=by rw[Up,TW c]at g⊢;exact g
   have i:k∈Region.ready md ops s:=mem_ready.2 ⟨l,ops[k],TW b,λe m _=>by have j:=T8.1 d k (Wm.2 b);rw[TW b]at j;have o:=Vg.1 j e m;have p:e.on<k:=Ua o;exact DY a d f n e.on (by omega) (by omega)⟩
   rw[f]at i;cases i
end
def bg{s:Array Bool}{i k}(h:s.getD k false=true):(s.setIfInBounds i true).getD k false=true:=by rw[Up]at h⊢;by_cases e:k=i;subst e;(have a:k<s.size:=by obtain h'|h':=Ty k s.size;exact h';rw[UQ h']at h;cases h);rw[WR a];rfl;rw[TJ (TO e)];exact h
def fV{s:Array Bool}{k}(h:s.getD k true=false):s.getD k false≠true:=by rw[Up]at h⊢;cases a:s[k]? with|none=>rw[a]at h;cases h|some b=>rw[a]at h;have:b=false:=h;subst this;simp
def gl(w1 W:World)(ty:TypeId)(X:Nat):Prop:=w1.heap.size<=X/\∃c,W.heap[X]? =some (.cells #[.string c] ty (0,0))
def gl.new{w1 W:World}{ty}(h:w1.heap.size<=W.heap.size)(c):gl w1 (W.alloc (.cells #[.string c] ty)) ty W.heap.size:=⟨h,c,Uc⟩
def gl.stays{w1 W a ty X}(h:gl w1 W ty X)(b:ae W a):gl w1 a ty X:=⟨h.1,h.2.elim λc d=>⟨c,b _ _ _ _ d⟩⟩
def gl.lt{w1 W ty X}(h:gl w1 W ty X):X<W.heap.size:=h.2.elim λc a=>(TC.1 a).1
def gl.cell{w1 W ty X}(h:gl w1 W ty X):∃v,W.cell? ⟨X,0,none⟩=some (.string v):=h.2.elim λc a=>⟨c,cell_of_heap a 0 _ rfl⟩
def gl.frozen{w1 W ty X}(h:gl w1 W ty X):W.frozen? ⟨X,0,none⟩=false:=h.2.elim λc a=>frozen_of_heap a 0
def gl.set{w1 W ty X}(h:gl w1 W ty X){v}:gl w1 (W.setCell ⟨X,0,none⟩ (.string v)) ty X:=by (obtain⟨a,c,b⟩:=h;refine⟨a,v,?_⟩;have d:(W.heap.modify X λo=>match o with| .cells c e F=>.cells (c.setIfInBounds 0 (.string v)) e F|o=>o)[X]? =some (.cells #[.string v] ty (0,0)):=by rw[Uo,b];simp);exact d
def gl.other{w1 W ty X Y}(h:gl w1 W ty Y)(a:Y≠X){v}:gl w1 (W.setCell ⟨X,0,none⟩ v) ty Y:=⟨h.1,h.2.elim λc b=>⟨c,(Below.heap_setCell W ⟨X,0,none⟩ v Y a).trans b⟩⟩
end Go.Proofs
namespace Go.Proofs
open Go.Shelf Go.Tm
def tH:Go.Shelf.Ren:=⟨λ|150=>135|153=>165|152=>175|226=>176|227=>177|228=>178|137=>193|119=>194|224=>195|225=>196|217=>207|266=>211|155=>139|154=>166|138=>179|165=>180|143=>181|166=>94|197=>182|169=>95|195=>197|218=>198|240=>134|241=>199|219=>200|260=>201|276=>164|277=>208|267=>209|314=>212|n=>n,λ|117=>241|116=>240|46=>215|124=>257|72=>153|76=>158|105=>243|70=>151|37=>120|75=>157|127=>203|164=>210|119=>265|139=>268|138=>267|146=>272|51=>193|80=>160|n=>n,λ|1=>2|n=>n⟩
def jP{fs:Array Func}(L:bM fs):Lays.n150 (Qs fs) tH/\Lays.n138 (Qs fs) tH/\Lays.n165 (Qs fs) tH:=by
 refine⟨?_,?_,?_⟩<;>constructor;all_goals first
  |(intro w;first|with_reducible refine(A3 _ _ _ w).trans ?_|with_reducible refine(vZ _ _ _ w).trans ?_|with_reducible refine(jr _ _ _ w).trans ?_);rfl
  |(with_reducible refine(aK _ _ _).trans ?_);kernel_rfl
  |exact(L.1 _ (by decide) (by decide)).trans (by kernel_rfl)
  |kernel_rfl
end Go.Proofs
namespace Go.Proofs
open Go.Tm
variable {fs:Array Func} (L:bM fs)
def dR(b:Bool)(f:Int)(w:World):ap fs 52 #[.bool b,.int .i64 f] w (.int .i64 (if b then f else 0)):=by go_enter (n52 L),Tryz.ntmps52;go_wp2;all_goals (go_ret;simp_all)
def iC:List Int->Int
 | []=>0
 |f::l=>if f≠0 then f else iC l
def rW(a:List Int)(k)(b:k<a.length):iC (a.drop k)=if a.getD k 0≠0 then a.getD k 0 else iC (a.drop (k+1)):=by rw[Vu b];simp[iC,VP,T2 b]
open Go.RowKit in
def Bw(b f c:Nat)(zs:List Int)(w:World)(n:zs.length<=9223372036854775807)(l:∀k,k<zs.length->w.cell? ⟨b,f+k,none⟩=some (.int .i64 (zs.getD k 0))):ap fs 51 #[.slice (some ⟨b,f,none⟩) zs.length c] w (.int .i64 (iC zs)):=by
 go_enter (n51 L),Tryz.ntmps51;go_wp2
 go_loop [7] (λi=>∃k:Nat,k<=zs.length/\i=.int .i64 k/\iC zs=iC (zs.drop k)) (λi=>zs.length-(intOf i).toNat)
 case atStart=>exact⟨0,TE _,rfl,rfl⟩
 case round=>
  obtain⟨k,o,rfl,g⟩:=hrel;have j:k<zs.length->w.cell? ⟨b,f+k,none⟩=some (.int .i64 (zs.getD k 0)):=λh=>l k h;go_wp2
  ·(have a:k<zs.length:=by assumption);(have d:(zs[k]!=0)=true:=by assumption);(go_ret;refine⟨?_,rfl⟩;try rw[g]);rw[rW zs k a];simp only[UN]at d;simp[VP,T2 a,d]
  have a:k<zs.length:=by assumption
  have d:(zs[k]!=0)=false:=by assumption
  refine⟨⟨k+1,by omega,by go_num,?_⟩,by simp[intOf];omega⟩;rw[g,rW zs k a];simp only[bne_eq_false_iff_eq]at d;simp[VP,T2 a,d];have m:¬k<zs.length:=by assumption
  go_ret;refine⟨?_,rfl⟩;try rw[g]
  rw[T6 (by omega)];rfl
end Go.Proofs
namespace Go.Proofs
def pg(X Y:Nat->Nat)(k:Nat):Nat:=((List.range k).map λn=>min (X n) (Y n)).sum
def lq(X Y k):pg X Y (k+1)=pg X Y k+min (X k) (Y k):=by unfold pg;rw[VK,Vk,List.sum_append];simp
theorem pj{X Y Z}:∀{k},(∀n,n<k->Y n=Z n)->pg X Y k=pg X Z k
 |0,_=>rfl
 |k+1,h=>by rw[lq,lq,pj λn a=>h n (by omega),h k (by omega)]
theorem yo(X Y h):∀k,h<k->pg X (λn=>if n=h then Y n+1 else Y n) k=pg X Y k+if Y h<X h then 1 else 0
 |0,a=>by omega
 |k+1,a=>by
  rw[lq,lq];by_cases e:h=k
  .subst e
   rw[pj (Z:=Y) λn b=>Tu (by omega)];simp only[TK];split<;>omega
  .rw[yo X Y h k (by omega),Tu (TO e)]
   omega
theorem yp(X):∀k,pg X (λ_=>0) k=0
 |0=>rfl
 |k+1=>by rw[lq,yp X k];simp
def Il(a b):(b.filter λn=>a.contains n).length+(bu b a).length=b.length:=by unfold bu;induction b with|nil=>rfl|cons x b c=>rw[UK,UK];cases a.contains x<;>simp only[UJ,Vo,TK,TS,TP,TA]<;>omega
def CM{a b:List Int}(c:a.Nodup)(d:b.Nodup):(a.filter λn=>b.contains n).length=(b.filter λn=>a.contains n).length:=by (have h:(a.filter λn=>b.contains n).Perm (b.filter λn=>a.contains n):=(Xh (c.filter _) (d.filter _)).2 λx=>by rw[Vv,Vv];simp[and_comm]);exact h.length_eq
def I6(x y k):nO x y k=pg (λn=>aP x n) (λn=>aP y n) k:=rfl
def pk(l x n):aP (l++[x]) n=aP l n+if x/100=n then 1 else 0:=by unfold aP;rw[Vs,TR];congr 1;by_cases h:x/100=n;rw[Tv h,UK];simp[h];rw[Tu h,UK];simp[h]
end Go.Proofs

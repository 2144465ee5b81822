import Derived.Deep.RegionHeld3
import Derived.Deep.CutBlock
import Derived.Test.YtaglpcmhopjebaaGreatDoorR20
set_option linter.all false
set_option maxRecDepth 100000
set_option maxHeartbeats 20000000
namespace Go.Proofs
open Go.Tm Go.RowKit
variable {fs:Array Func} (L:bP fs)
structure OkC(c:Case):Prop where
 table:OkT c.table
 new:OkM c.new
 marks:∀m∈c.marks,OkM m
 sN:c.marks.length<=8
 E9:c.rules.length<=6
 Pg:c.kin.length=c.marks.length
 rules:∀r∈c.rules,0<=r.kind/\r.kind<=5/\1<=r.least/\r.least<=100/\0<=r.plain/\r.plain<=9/\0<=r.known/\r.known<=9
 kin:∀n∈c.kin,0<=n/\n<=9
def Cr(x:Ci):Value:=.agg #[.int .i64 x.days,.int .i64 x.level,.int .i64 x.kin]
def Hj{w w1}(a:Below w.heap.size w w1)(x y)(p q:Nat):(∀i v,x[i]? =some v->(((w1.alloc (.cells x p)).alloc (.cells y q)).drew).cell? ⟨w1.heap.size,i,none⟩=some v)/\(∀i v,y[i]? =some v->(((w1.alloc (.cells x p)).alloc (.cells y q)).drew).cell? ⟨w1.heap.size+1,i,none⟩=some v)/\ae w1 (((w1.alloc (.cells x p)).alloc (.cells y q)).drew)/\Below w.heap.size w (((w1.alloc (.cells x p)).alloc (.cells y q)).drew):=by (have b:(w1.alloc (.cells x p)).heap.size=w1.heap.size+1:=by simp);refine⟨λi v h=>(ae.alloc _ (.cells y q)).cell (az w1 x p i v h),λi v h=>?_,(ae.alloc w1 (.cells x p)).trans (ae.alloc _ (.cells y q)),((a.alloc a.size _).alloc (by have:=a.size;omega) _).drew⟩;have:=az (w1.alloc (.cells x p)) y q i v h;rw[b]at this;exact this
def cell_of_heap{w:World}{b c e f}(h:w.heap[b]? =some (.cells c e f))(i v)(a:c[i]? =some v):w.cell? ⟨b,i,none⟩=some v:=by unfold World.cell?;simp only[h];exact a
def frozen_of_heap{w:World}{b c e}(h:w.heap[b]? =some (.cells c e))(i):w.frozen? ⟨b,i,none⟩=false:=by unfold World.frozen?;simp only[h];simp
def pS{a n M:Int}(b:0<n)(c:0<=a)(d:a<=M*n):0<=a/n/\a/n<=M:=⟨Int.ediv_nonneg c (by omega),by have:=Int.ediv_le_ediv b d;rwa[Int.mul_ediv_cancel _ (by omega)]at this⟩
def jS(a b):0<=dI a b/\dI a b<=100:=by unfold dI;split;exact⟨by decide,by decide⟩;rename_i h;(have c:=vu _ a b (Sp _);have d:0<max a.length b.length:=by cases a with|nil=>simp at h|cons x a=>simp only[Ss];omega);refine pS (by omega) (by omega) (by omega)
theorem hZ(t a b):∀k,0<=eT t a b k/\eT t a b k<=100
 |0=>⟨Vg _,(by decide:(0:Int)<=100)⟩
 |k+1=>by have c:=hZ t a b k;have d:=jS (bH t k a) (bH t k b);rw[kv];omega
def Fa(a b):0<=o6 a b/\o6 a b<=100:=by (unfold o6;have key:∀x y:Bs,0<=(if x.length<3|| !x.isPrefixOf y&& !x.isSuffixOf y then 0 else(100*x.length:Int)/(y.length:Int))/\(if x.length<3|| !x.isPrefixOf y&& !x.isSuffixOf y then 0 else(100*x.length:Int)/(y.length:Int))<=100:=by intro x y;split;exact⟨by decide,by decide⟩;rename_i h;(simp only[Ua,SP,SG,Bool.not_eq_true',not_or,not_and,Bool.not_eq_false]at h;obtain⟨e,d⟩:=h;have f:x.length<=y.length:=by by_cases c:x.isPrefixOf y=true;exact(TW.1 c).length_le;exact(List.isSuffixOf_iff_suffix.1 (d (U9.2 c))).length_le);exact pS (by omega) (by omega) (by omega));exact key _ _
def IF{l:List Nat}{M}(h:∀x∈l,x<=M):l.sum<=M*l.length:=by induction l with|nil=>simp|cons x l a=>have c:=h x (VA ..);have d:=a λy b=>h y (Vh _ b);simp only[List.sum_cons,Ss,Nat.mul_add];omega
def vv(a b)(c:a.length<=5)(f:b.length<=5):0<=bS a b/\bS a b<=100000:=by unfold bS;split;exact⟨by decide,by decide⟩;rename_i h;(have g:0<a.length:=by cases a with|nil=>simp at h|cons x a=>simp);(have d:((List.range 10).map λ(n:Nat)=>min (aL (bt a b) n) (aL (bt b a) n)).sum<=5*10:=by have:=IF (l:=(List.range 10).map λ(n:Nat)=>min (aL (bt a b) n) (aL (bt b a) n)) (M:=5) (by (intro x e;obtain⟨n,_,rfl⟩:=T2.1 e;have i:aL (bt a b) n<=5:=by unfold aL bt;exact Sq (TF _ _) (Sq (TF _ _) c));omega);simpa using this);simp only[];generalize ((List.range 10).map λ(n:Nat)=>min (aL (bt a b) n) (aL (bt b a) n)).sum=z at d;exact pS (by omega) (by omega) (by omega)
def Au(t a b):0<=gp t a b/\gp t a b<=100:=by unfold gp;split<;>exact⟨by decide,by decide⟩
def lA(t k one two)(d:one.aP.length<=5)(e:two.aP.length<=5):0<=bp t k one two/\bp t k one two<=100000:=by by_cases k0:k=0;subst k0;rw[yT];have:=jS (aQ t.av one.word.data.toList) (aQ t.av two.word.data.toList);omega;by_cases k1:k=1;subst k1;rw[yU];have:=hZ t one.word.data.toList two.word.data.toList t.aF.length;omega;by_cases a:k=2;subst a;rw[yV];have:=Au t (aQ t.av one.word.data.toList) (aQ t.av two.word.data.toList);omega;by_cases b:k=3;subst b;rw[yW];have:=jS (aQ t.av one.word.data.toList) (aQ t.av two.word.data.toList).reverse;omega;by_cases c:k=4;subst c;rw[yX];have:=Fa (aQ t.av one.word.data.toList) (aQ t.av two.word.data.toList);omega;rw[yY t k one two ⟨k0,k1,a,b,c⟩];exact vv _ _ d e
def wrap_i64(n)(h: -9223372036854775808<=n/\n<=9223372036854775807):IntKind.i64.wrap n=n:=by simp only[IntKind.wrap,IntKind.signed,IntKind.bits,UP];split;rename_i a;have:=Tf a;omega;rename_i a;have:¬(n%2 ^ 64>=2 ^ (64-1)):=λh=>a (SD h);omega
def jN(m:Mark)(r:uy):Int:=if m.known then min r.plain r.known else r.plain
def Cs(c m kin r):lU c m kin r=⟨max 0 (m.day+1-c.new.day),max 0 (r.least-bp c.table r.kind c.new m),max 0 (jN m r-kin)⟩:=rfl
def NJ{K:Nat->Prop}{sc:Array Value}{c:Case}(i k:Nat)(w:World)(hc:bI K w sc c)(E:OkC c)(hi:i<c.marks.length)(hk:k<c.rules.length)(P:i<c.kin.length):Calls (Qs fs) 85 #[.agg sc,.int .i64 i,.int .i64 k] w λe w'=>e=.returned (Cr (lU c c.marks[i] c.kin[i] c.rules[k]))/\Below w.heap.size w w':=by
 have e70:=e70 L;obtain⟨v0,v1,v2,vr,Q,vm,vk,rfl,ht,hr,hf,hm,R⟩:=hc;obtain⟨wa,g⟩:=ex (w.alloc (.cells #[v0,v1,v2,vr,.string c.new.name,.string c.new.word,Q,.int .i64 c.new.day,.bool c.new.known,vm,vk] 60));obtain⟨w1,j⟩:=ex (wa.alloc (.cells #[.int .i64 0,.int .i64 0,.int .i64 0] 86));have Sa:ae wa w1:=by rw[j];exact ae.alloc _ _
 have t:ae w w1:=(by rw[g];exact ae.alloc _ _:ae w wa).trans Sa;have B1:Below w.heap.size w w1:=by rw[j,g];exact((Below.refl _ w).alloc (Sp _) _).alloc (by simp) _
 have u:wa.heap.size=w.heap.size+1:=by rw[g];simp
 have S:w1.heap.size=w.heap.size+1+1:=by rw[j,<-u];simp
 have ct:∀i v,(#[v0,v1,v2,vr,.string c.new.name,.string c.new.word,Q,.int .i64 c.new.day,.bool c.new.known,vm,vk]:Array Value)[i]? =some v->w1.cell? ⟨w.heap.size,i,none⟩=some v:=λi v h=>Sa.cell (by rw[g];exact az w _ 60 i v h);obtain⟨N,T⟩:=ex (w.heap.size);obtain⟨N1,z⟩:=ex (w.heap.size+1);have n:w1.heap[N1]? =some (.cells #[.int .i64 0,.int .i64 0,.int .i64 0] 86):=by rw[j,z,<-u];exact To
 have an:=hm.stays t λb b' o x e h=>by subst e;exact pc.carry (Carry.keep t) b b o x rfl h
 have ao:=hr.stays t λb b' o x e h=>by subst e;exact pd.carry (Carry.keep t) b b o x rfl h
 have ar:=R.ints t;have F:=ht.stays t;obtain⟨bA,cm,rfl,lm,bB,_,gm⟩:=an;obtain⟨bC,cr,rfl,lr,b4,_,gr⟩:=ao;obtain⟨b5,ck,rfl,lk,b6,_,gk⟩:=ar;obtain⟨I,J,rfl,x0,x1,⟨fm,x2,U⟩,x3,x4⟩:=gm i hi;obtain⟨V,W,rfl,y0,y1,y2,y3⟩:=gr k hk;obtain⟨bk,ax,rfl,z0⟩:=gk i P;clear gm gr gk ht hr hm R;have C:=E.marks _ (SH hi);obtain⟨r1,r2,r3,r4,r5,r6,r7,r8⟩:=E.rules _ (SH hk);obtain⟨k1,k2⟩:=E.kin _ (SH P);obtain⟨m,X⟩:=ex (c.marks[i]);obtain⟨r,Y⟩:=ex (c.rules[k]);obtain⟨q,Z⟩:=ex (c.kin[i]);rw[<-X]at x0 x1 U x3 x4 C⊢;rw[<-Y]at y0 y1 y2 y3 r1 r2 r3 r4 r5 r6 r7 r8⊢;rw[<-Z]at z0 k1 k2⊢;clear X Y Z;obtain⟨a,D,rfl,lf,ay,kf,gf⟩:=U;have U:aD K 1 df w1 (.slice a m.aP.length D) m.aP:=⟨a,D,rfl,lf,ay,kf,gf⟩
 have aM:Hid _:=U;clear U gf kf;have t9:=ct 9 _ rfl;have t3:=ct 3 _ rfl;rw[<-T]at t9 t3;go_enter (n85 L),Tryz.ntmps85;go_upto_region 1 with fail;rw[<-g,<-j,<-z,<-T];go_cut [7,8]from 10 (λs7 s8 M=>∃A B,s7=.pointer (some ⟨A,0,none⟩)/\s8=.pointer (some ⟨B,0,none⟩)/\(∀i v,(#[.string m.name,.string m.word,.slice a m.aP.length D,.int .i64 m.day,.bool m.known]:Array Value)[i]? =some v->M.cell? ⟨A,i,none⟩=some v)/\(∀i v,(#[.int .i64 r.kind,.int .i64 r.least,.int .i64 r.plain,.int .i64 r.known]:Array Value)[i]? =some v->M.cell? ⟨B,i,none⟩=some v)/\ae w1 M/\Below w.heap.size w M)
 case first=>
  have HB:Hid _:=B1;clear g j T z ct S u n F Sa t B1;have n9:=World.new_ne w1 _ t9;have n3:=World.new_ne w1 _ t3;have m0:=World.new_ne w1 _ x0;have m1:=World.new_ne w1 _ x1;have m2:=World.new_ne w1 _ x2;have m3:=World.new_ne w1 _ x3;have m4:=World.new_ne w1 _ x4;have q0:=World.new_ne w1 _ y0;have q1:=World.new_ne w1 _ y1;have q2:=World.new_ne w1 _ y2;have q3:=World.new_ne w1 _ y3
  go_region_held3 (λw'=>w'.cell? ⟨N,9,none⟩=some (.slice (some ⟨I,J,none⟩) c.marks.length cm)/\w'.cell? ⟨N,3,none⟩=some (.slice (some ⟨V,W,none⟩) c.rules.length cr)/\
   w'.cell? ⟨I,J+i*5,none⟩=some (.string m.name)/\w'.cell? ⟨I,J+i*5+1,none⟩=some (.string m.word)/\w'.cell? ⟨I,J+i*5+2,none⟩=some (.slice a m.aP.length D)/\w'.cell? ⟨I,J+i*5+3,none⟩=some (.int .i64 m.day)/\w'.cell? ⟨I,J+i*5+4,none⟩=some (.bool m.known)/\
   w'.cell? ⟨V,W+k*4,none⟩=some (.int .i64 r.kind)/\w'.cell? ⟨V,W+k*4+1,none⟩=some (.int .i64 r.least)/\w'.cell? ⟨V,W+k*4+2,none⟩=some (.int .i64 r.plain)/\w'.cell? ⟨V,W+k*4+3,none⟩=some (.int .i64 r.known)) (go_keep) (fail)
  all_goals (go_wp2_with fail;go_meet)
  obtain⟨h1,h2,h3,h4⟩:=Hj HB.out #[.string m.name,.string m.word,.slice a m.aP.length D,.int .i64 m.day,.bool m.known] #[.int .i64 r.kind,.int .i64 r.least,.int .i64 r.plain,.int .i64 r.known] 38 69;exact⟨_,_,rfl,rfl,h1,h2,h3,h4⟩;obtain⟨h1,h2,h3,h4⟩:=Hj HB.out #[.int .i64 r.kind,.int .i64 r.least,.int .i64 r.plain,.int .i64 r.known] #[.string m.name,.string m.word,.slice a m.aP.length D,.int .i64 m.day,.bool m.known] 69 38;exact⟨_,_,rfl,rfl,h2,h1,h3,h4⟩
 case rest=>
  obtain⟨A,B,rfl,rfl,O,hb,f,Bx⟩:=hcut;have G:Hid (jN m r=if m.known then min r.plain r.known else r.plain):=rfl;have HS:Hid _:=(⟨f,Bx⟩:ae w1 wc/\Below w.heap.size w wc)
  have a3:=O 3 _ rfl;have a4:=O 4 _ rfl;have b0:=hb 0 _ rfl;have b1:=hb 1 _ rfl;have b2:=hb 2 _ rfl;have b3:=hb 3 _ rfl;have a1:=t;have s:w.heap.size<=N1:=by omega
  have t0:=ct 0 _ rfl;have t1:=ct 1 _ rfl;have t2:=ct 2 _ rfl;have t4:=ct 4 _ rfl;have t5:=ct 5 _ rfl;have t6:=ct 6 _ rfl;have t7:=ct 7 _ rfl;have t8:=ct 8 _ rfl;have H:=ct 10 _ rfl;rw[<-T]at t0 t1 t2 t4 t5 t6 t7 t8 H;clear g j T z S u Sa t B1 ct;go_upto_if 23 with fail;go_cut [9]from 10 (λs9 M=>s9=.int .i64 (jN m r)/\M=wc)
  case first=>(go_wp2_with fail);(all_goals (go_meet;refine⟨?_,rfl⟩;rw[G.out]));all_goals first|(rw[Sn (by assumption)];congr 1;omega)|(rw[Sm (by simp[*])])
  case rest=>
   (obtain⟨rfl,rfl⟩:=hcut;have lb:=lA c.table r.kind c.new m E.new.fig C.fig;have nb: -1000<=jN m r/\jN m r<=1000:=by unfold jN;split<;>omega);(have aa:=F.stays f;have ab:aD K 1 df wc Q c.new.aP:=(hf.ints a1).ints f;have ad:aD K 1 df wc (.slice a m.aP.length D) m.aP:=aD.ints f aM.out;have cL:=λwy (hs:ae wc wy)=>sM L (m1:=#[.string c.new.name,.string c.new.word,Q,.int .i64 c.new.day,.bool c.new.known]) (m2:=#[.string m.name,.string m.word,.slice a m.aP.length D,.int .i64 m.day,.bool m.known]) (one:=c.new) (two:=m) r.kind wy (aa.stays hs) E.table ⟨Q,rfl,ab.ints hs⟩ ⟨_,rfl,ad.ints hs⟩ E.new C;obtain⟨lv,af⟩:=ex (bp c.table r.kind c.new m);obtain⟨nd,ag⟩:=ex (jN m r);have HV:Hid _:=Cs c m q r;rw[<-af]at lb cL HV;rw[<-ag]at nb HV⊢;clear af ag;have d:=f _ _ _ _ n;have n0:=cell_of_heap d 0 _ rfl;have n1:=cell_of_heap d 1 _ rfl;have n2:=cell_of_heap d 2 _ rfl;have g0:=frozen_of_heap d 0;have g1:=frozen_of_heap d 1;have g2:=frozen_of_heap d 2;have ak:wc.cell? ⟨bk,ax+i,none⟩=some (.int .i64 q):=by have:=f.cell z0;rwa[Tu]at this);(have b7:∀x y:Int,(if x<y then y else x)=max x y:=λx y=>by split<;>omega);(have b8:=C.day;have ca:=E.new.day;have cb:IntKind.i64.wrap (m.day+1)=m.day+1:=wrap_i64 _ (by omega);have cc:IntKind.i64.wrap (m.day+1-c.new.day)=m.day+1-c.new.day:=wrap_i64 _ (by omega);have cd:IntKind.i64.wrap (r.least-lv)=r.least-lv:=wrap_i64 _ (by omega);have cg:IntKind.i64.wrap (nd-q)=nd-q:=wrap_i64 _ (by omega);have bx:(0:Int)<=(i:Int)/\(i:Int)<(c.kin.length:Int):=⟨by omega,by omega⟩);(have qL:∀x:aj w wc,Calls (Qs fs) 70 _ x.val λe w'=>e=.returned (.int .i64 lv)/\∃y:aj w wc,w'=y.val:=λx=>aj.calls (cL x.val x.st);have l0:=λx:aj w wc=>x.cell (a3);have l1:=λx:aj w wc=>x.cell (f.cell t7);have l2:=λx:aj w wc=>x.cell (b1);have l3:=λx:aj w wc=>x.cell (f.cell t0);have l4:=λx:aj w wc=>x.cell (f.cell t1);have l5:=λx:aj w wc=>x.cell (f.cell t2);have l6:=λx:aj w wc=>x.cell (b0);have l7:=λx:aj w wc=>x.cell (f.cell t4);have l8:=λx:aj w wc=>x.cell (f.cell t5);have l9:=λx:aj w wc=>x.cell (f.cell t6);have a6:=λx:aj w wc=>x.cell (f.cell t8);have a7:=λx:aj w wc=>x.cell (O 0 _ rfl);have a8:=λx:aj w wc=>x.cell (O 1 _ rfl);have ba:=λx:aj w wc=>x.cell (O 2 _ rfl);have bb:=λx:aj w wc=>x.cell (a4);have bo:=λx:aj w wc=>x.cell (f.cell H);have bs:=λx:aj w wc=>x.cell (ak);clear a3 a4 b0 b1 b2 b3 t0 t1 t2 t4 t5 t6 t7 t8 H z0 ak x0 x1 x2 x3 x4 y0 y1 y2 y3 t9 t3 O hb n0 n1 n2 g0 g1 g2 n ab ad aa F f Bx cL;go_upto_region 5 with fail;refine aW (w0:=w) (w1:=wc) 29 (by kernel_rfl) (by kernel_rfl) (ae.refl _) HS.out.2 ?_;simp only[Th,Tb,Tp,Tk];haveI cl:Nonempty (aj w wc):=⟨⟨wc,ae.refl _,HS.out.2⟩⟩);repeat (go_big_quiet_step (first|(go_at_call 70;exact qL _)))
   refine wpQuiet_nil ?_;rintro wz ⟨⟨_,Sz,Bz⟩,rfl⟩;have l:=Sz _ _ _ _ d;have n0:=cell_of_heap l 0 _ rfl;have n1:=cell_of_heap l 1 _ rfl;have n2:=cell_of_heap l 2 _ rfl;have g0:=frozen_of_heap l 0;have g1:=frozen_of_heap l 1;have g2:=frozen_of_heap l 2;have BZ:Hid _:=Bz;clear qL Sz Bz d l l0 l1 l2 l3 l4 l5 l6 l7 l8 l9 a6 a7 a8 ba bb bo bs;go_wp2;all_goals
    refine bodyPost_ret (v:=.agg #[.int .i64 (max 0 (m.day+1-c.new.day)),.int .i64 (max 0 (r.least-lv)),.int .i64 (max 0 (nd-q))]) ?_ rfl ⟨by rw[HV.out];rfl,((BZ.out.setCell (p:=⟨N1,0,none⟩) s _).setCell (p:=⟨N1,1,none⟩) s _).setCell (p:=⟨N1,2,none⟩) s _⟩;simp[results,Tryz.results85,go_sem, *];try omega
def ji:Array Value:=Array.replicate 2401 (.int .i64 0)
def Q0:Tryz.zeroCells184=ji:=by kernel_rfl
def yb(i)(h:i<ji.size):ji[i]? =some (.int .i64 0):=by unfold ji at h⊢;rw[Array.size_replicate]at h;rw[VB,Sn h]
def yc:ji.size=2401:=by unfold ji;rw[Array.size_replicate]
def yZ(a b:Bs)(q p:Nat)(i:Nat):Value:=if(q<i/49\/(i/49=q/\p<=i%49))/\i/49<=a.length/\i%49<=b.length then .int .i64 (aS (a.drop (i/49)) (b.drop (i%49)))else .int .i64 0
structure jk(w wr:World)(a b:Bs)(q p:Nat):Prop where
 row:wr.rowIs w.heap.size 184 2401 (yZ a b q p)
 below:Below w.heap.size w wr
def KR(q p)(a:p<49):(q*49+p)/49=q/\(q*49+p)%49=p:=by omega
def jk.cell{w wr a b q p r k}(h:jk w wr a b q p)(i:a.length<=48)(j:b.length<=48)(c:r<=a.length)(d:k<=b.length)(e:q<r\/(r=q/\p<=k)):wr.cell? ⟨w.heap.size,r*49+k,none⟩=some (.int .i64 (aS (a.drop r) (b.drop k))):=by obtain⟨f,g⟩:=KR r k (by omega);rw[h.row.cell (by omega)];unfold yZ;rw[f,g,Sn ⟨e,c,d⟩]
def jk.cell0{w wr a b q p}(h:jk w wr a b q (p+1))(e:a.length<=48)(f:b.length<=48)(g:q<=a.length)(i:p<=b.length):wr.cell? ⟨w.heap.size,q*49+p,none⟩=some (.int .i64 0):=by obtain⟨c,d⟩:=KR q p (by omega);rw[h.row.cell (by omega)];unfold yZ;rw[c,d,Sm (by omega)]
def jk.step{w wr:World}{a b:Bs}{q p:Nat}(h:jk w wr a b q (p+1))(k:a.length<=48)(l:b.length<=48)(d:q<=a.length)(f:p<=b.length):jk w (wr.setCell ⟨w.heap.size,q*49+p,none⟩ (.int .i64 (aS (a.drop q) (b.drop p)))) a b q p where
 row:=(h.row.set (q*49+p) _).congr λi m=>by
  obtain⟨g,j⟩:=KR q p (by omega);unfold yZ;by_cases e:i=q*49+p
  ·subst e
   rw[Sn rfl,g,j,Sn ⟨.inr ⟨rfl,Sp _⟩,d,f⟩]
  ·rw[Sm e]
   by_cases c:(q<i/49\/(i/49=q/\p+1<=i%49))/\i/49<=a.length/\i%49<=b.length
   ·rw[Sn c,Sn ⟨by omega,c.2⟩]
   ·rw[Sm c,Sm (by omega)]
 below:=h.below.setCell (Sp _) _
def jk.drewN{w wr a b q p}(h:jk w wr a b q p)(n):jk w (wr.drewN n) a b q p:=⟨h.row,Go.below_drewN h.below n⟩
def jk.next{w wr a b q}(h:jk w wr a b (q+1) 0)(d:b.length<=48):jk w wr a b q (b.length+1):=
 ⟨h.row.congr λi e=>by
  unfold yZ;by_cases c:(q+1<i/49\/(i/49=q+1/\0<=i%49))/\i/49<=a.length/\i%49<=b.length
  ·rw[Sn c,Sn ⟨by omega,c.2⟩]
  ·rw[Sm c,Sm (by omega)],h.below⟩
def jk.first(w a b):jk w (w.alloc (.cells ji 184)) a b (a.length+1) 0:=⟨by have h:=World.rowIs_alloc w ji 184 (λ_=>.int .i64 0) λi c=>yb i c;rw[yc]at h;refine h.congr λi c=>?_;unfold yZ;rw[Sm (by omega)],aH w _⟩
def Hk(a b:ByteArray)(w:World)(ha:a.size<=48)(hb:b.size<=48):Calls (Qs fs) 73 #[.string a,.string b] w λe w'=>e=.returned (.pointer (some ⟨w.heap.size,0,none⟩))/\jk w w' a.data.toList b.data.toList 0 0:=by
 have P:=Lib.size_eq a;have Q:=Lib.size_eq b;obtain⟨A,u⟩:=ex (a.data.toList);obtain⟨B,x⟩:=ex (b.data.toList);rw[<-u]at P;rw[<-x]at Q;rw[<-u,<-x];have d:Hid (a.size=A.length/\b.size=B.length):=⟨P,Q⟩
 have HG:Hid ((∀q (h:q<a.size),A.drop q=a[q]::A.drop (q+1))/\(∀q (h:q<b.size),B.drop q=b[q]::B.drop (q+1))):=⟨λq h=>by rw[u];exact drop_cons a q h,λq h=>by rw[x];exact drop_cons b q h⟩
 have J:=jk.first w A B;rw[<-Q0]at J;obtain⟨w1,z⟩:=ex (w.alloc (.cells Tryz.zeroCells184 184));rw[<-z]at J;obtain⟨N,K⟩:=ex (w.heap.size);have HN:Hid _:=K;have R:Hid _:=J;rw[<-K];clear P Q u x J;go_enter (n73 L),Tryz.ntmps73;go_upto_region 2 with fail;rw[<-z,<-K];clear z K;go_wp2;go_loopw [6] (λi wr=>∃(p:Nat) (j:Int),p<=a.size+1/\j=(p:Int)-1/\i=.int .i64 j/\jk w wr A B p 0) (λi _=>(intOf i+1).toNat);case atStart=>refine⟨a.size+1,_,Sp _,rfl,by go_num,?_⟩;rw[d.out.1];exact R.out
 case round=>
  obtain⟨p,D,hp,n,rfl,M⟩:=hrel;obtain rfl|hpos:=Ty p
  ·(obtain rfl:D= -1:=by omega);clear n;have HR:Hid _:=M;clear M;go_wp2;go_ret;exact⟨rfl,HR.out⟩
  obtain⟨q,rfl⟩:∃q,p=q+1:=⟨p-1,by omega⟩
  obtain rfl:D=(q:Int):=by omega
  clear n;have O:Hid _:=M.next (by have:=d.out.2;omega);clear M;go_wp2;go_loopw [7] (λi wi=>∃(C:Nat) (j:Int),C<=b.size+1/\j=(C:Int)-1/\i=.int .i64 j/\jk w wi A B q C) (λi _=>(intOf i+1).toNat);case atStart=>exact⟨b.size+1,_,Sp _,rfl,by go_num,by rw[d.out.2];exact O.out⟩
  case round=>
   clear O;obtain⟨C,D,ag,n,rfl,o⟩:=hrel;obtain rfl|hpos2:=Ty C
   ·(obtain rfl:D= -1:=by omega);clear n;have O:Hid _:=o;clear o;go_wp2;refine⟨⟨q,_,by omega,rfl,by go_num,O.out⟩,by simp[intOf]⟩
   (obtain⟨c,rfl⟩:∃c,C=c+1:=⟨C-1,by omega⟩);(obtain rfl:D=(c:Int):=by omega);(clear n;have s:q<=A.length:=by have:=d.out.1;omega);(have t:c<=B.length:=by have:=d.out.2;omega);(have f:A.length<=48:=by have:=d.out.1;omega);(have g:B.length<=48:=by have:=d.out.2;omega);(have E:=o.cell0 f g s t;have S:wr.frozen? ⟨w.heap.size,q*49+c,none⟩=false:=o.row.frozen _;have l:=o.step f g s t;rw[<-HN.out]at E S l;have HS:Hid _:=l;clear l;have ab:(q:Int)<49:=by omega);(have ad:(c:Int)<49:=by omega);obtain hqa|hqa:=Sr q a.size
   ·obtain hcb|hcb:=Sr c b.size
    ·have e11:=o.cell f g (r:=q+1) (k:=c+1) (by have:=d.out;omega) (by have:=d.out;omega) (by omega);(have e10:=o.cell f g (r:=q+1) (k:=c) (by have:=d.out;omega) (by have:=d.out;omega) (by omega);have F:=o.cell f g (r:=q) (k:=c+1) (by have:=d.out;omega) (by have:=d.out;omega) (by omega);have y:aS (A.drop q) (B.drop c)=if a[q]=b[c]then aS (A.drop (q+1)) (B.drop (c+1))else 1+min (aS (A.drop (q+1)) (B.drop (c+1))) (min (aS (A.drop (q+1)) (B.drop c)) (aS (A.drop q) (B.drop (c+1)))):=by have g1:=HG.out.1 q hqa;have g2:=HG.out.2 c hcb;rw[g1,g2,lW]);(have T:aS (A.drop (q+1)) (B.drop (c+1))<=2000:=Sq (mJ _ _) (by rw[SK,SK];have:=d.out;omega);have U:aS (A.drop (q+1)) (B.drop c)<=2000:=Sq (mJ _ _) (by rw[SK,SK];have:=d.out;omega);have V:aS (A.drop q) (B.drop (c+1))<=2000:=Sq (mJ _ _) (by rw[SK,SK];have:=d.out;omega);rw[y]at HS;obtain⟨ak,G⟩:=ex (aS (A.drop (q+1)) (B.drop (c+1)));obtain⟨an,H⟩:=ex (aS (A.drop (q+1)) (B.drop c));obtain⟨ao,I⟩:=ex (aS (A.drop q) (B.drop (c+1)));rw[<-G]at e11 T HS;rw[<-H]at e10 U HS;rw[<-I]at F V HS;rw[<-HN.out]at e11 e10 F;have ar:((q:Int)==a.size)=false:=by rw[SY];omega);(have ax:((c:Int)==b.size)=false:=by rw[SY];omega);(have af:¬(q:Int)=a.size:=by omega);(have W:(q:Int)+1<49:=by omega);(have X:(c:Int)+1<49:=by omega);clear o y s t G H I;by_cases m:a[q]=b[c]
     ·rw[Sn m]at HS;(have Y:((a[q].toNat:Int)==(b[c].toNat:Int))=true:=by rw[m];simp);clear m;go_wp2;go_quiet (fail);go_wp2
      (go_region);go_wp2;exact⟨⟨c,_,by omega,rfl,by go_num,HS.out.drewN (nq+1)⟩,by simp[intOf]⟩
     rw[Sm m]at HS;(have Y:((a[q].toNat:Int)==(b[c].toNat:Int))=false:=by rw[SY];intro h;exact m (U8.1 (by omega)));clear m;go_wp2;go_quiet (fail);go_wp2
     (go_big_region);go_wp2;refine⟨⟨c,_,by omega,rfl,by go_num,?_⟩,by simp[intOf]⟩;refine(Te (λv=>jk w ((wr.drewN _).setCell ⟨N,q*49+c,none⟩ (Value.int .i64 v)) A B q c) ?_).mp (HS.out.drewN (nq+1));split<;>split<;>omega
    (have Z:c=b.size:=by omega);(have y:aS (A.drop q) (B.drop c)=a.size-q:=by rw[Tc (by have:=d.out.2;omega:B.length<=c),gI,SK,d.out.1]);rw[y,show((a.size-q:Nat):Int)=(a.size:Int)-q by omega]at HS;subst Z;clear o y s t;go_wp2;refine⟨⟨b.size,_,by omega,rfl,by go_num,HS.out⟩,by simp[intOf]⟩
   (have aa:q=a.size:=by omega);(have y:aS (A.drop q) (B.drop c)=b.size-c:=by rw[Tc (by have:=d.out.1;omega:A.length<=q),eO,SK,d.out.2]);rw[y,show((b.size-c:Nat):Int)=(b.size:Int)-c by omega]at HS;subst aa;clear o y s t;go_wp2;refine⟨⟨c,_,by omega,rfl,by go_num,HS.out⟩,by simp[intOf]⟩
def lX(a:ByteArray):a=⟨#[]⟩↔a.size=0:=by constructor;rintro rfl;rfl;intro h;refine pR ?_;have:a.data.toList=[]:=T3.1 (by rw[<-Lib.size_eq];exact h);rw[this]
def Ct{a:ByteArray}(h:a≠⟨#[]⟩):a.toList.isEmpty=false:=by rw[Lib.toList_data,fB];exact Sv λb=>h ((lX a).2 b)
def Av(a b:ByteArray)(w:World)(u:a.size<=48)(v:b.size<=48):Calls (Qs fs) 231 #[.string a,.string b] w λe w'=>e=.returned (.int .i64 (dI a.data.toList b.data.toList))/\Below w.heap.size w w':=by
 have e73:=e73 L;have s:=λg=>Hk L a b g u v;have l:Hid _:=yS a b;have i:=vu _ a.data.toList b.data.toList (Sp _);rw[<-Lib.size_eq,<-Lib.size_eq]at i;by_cases m:a=⟨#[]⟩
 ·have f:=l.out;rw[Sn (.inl ((lX a).1 m))]at f;have c:Hid _:=f;have x:a.toList.isEmpty=true:=by rw[Lib.toList_data];subst m;rfl
  clear f l i m;go_enter (n231 L),Tryz.ntmps231;go_wp2_with fail;go_ret;exact⟨by rw[c.out];rfl,Below.refl _ _⟩
 have y:a.toList.isEmpty=false:=Ct m;by_cases n:b=⟨#[]⟩
 ·have f:=l.out;rw[Sn (.inr ((lX b).1 n))]at f;have c:Hid _:=f;have x:b.toList.isEmpty=true:=by rw[Lib.toList_data];subst n;rfl
  clear f l i n;go_enter (n231 L),Tryz.ntmps231;go_wp2_with fail;go_ret;exact⟨by rw[c.out];rfl,Below.refl _ _⟩
 have z:b.toList.isEmpty=false:=Ct n;have A:0<a.size:=VC λh=>m ((lX a).2 h);have B:0<b.size:=VC λh=>n ((lX b).2 h);have f:=l.out;rw[Sm (by omega)]at f;have p:=Lib.size_eq a;have q:=Lib.size_eq b;have j:∀g,Calls (Qs fs) 73 #[.string a,.string b] g λe w'=>e=.returned (.pointer (some ⟨g.heap.size,0,none⟩))/\w'.cell? ⟨g.heap.size,0,none⟩=some (.int .i64 (aS a.data.toList b.data.toList))/\Below g.heap.size g w':=λg=>(s g).mono λe w' h=>⟨h.1,by have:=h.2.cell (r:=0) (k:=0) (by omega) (by omega) (SE _) (SE _) (by omega);simpa using this,h.2.below⟩
 obtain⟨d,t⟩:=ex (aS a.data.toList b.data.toList);rw[<-t]at j f i;have c:Hid _:=f;clear f l m n s t p q;go_enter (n231 L),Tryz.ntmps231;go_wp2_with (first|(go_at_call 73;refine(j _).mono ?_;clear j;rintro e w2 ⟨rfl,C,o⟩));go_ret;exact⟨by rw[c.out,show max a.size b.size=b.size by omega];rfl,o⟩;go_ret;exact⟨by rw[c.out,show max a.size b.size=a.size by omega];rfl,o⟩
def KS(s r):Lib.occAt s r 0=r.isPrefixOf s:=rfl
def yd(s r:ByteArray)(w:World):Calls (Qs fs) 163 #[.string s,.string r] w λe w'=>e=.returned (.bool (r.data.toList.isPrefixOf s.data.toList))/\w'=w:=by
 obtain h|h:=Sr s.size r.size
 ·have c:decide ((r.size:Int)<=(s.size:Int))=false:=Sv (by omega);have a:decide (r.size<=s.size)=false:=Sv (by omega);have b:Hid (r.data.toList.isPrefixOf s.data.toList=false):=by rw[Hid];cases d:r.data.toList.isPrefixOf s.data.toList with|false=>rfl|true=>have f:=(TW.1 d).length_le;rw[<-Lib.size_eq,<-Lib.size_eq]at f;omega
  clear h;go_enter (n163 L),Tryz.ntmps163;go_wp2;go_ret;exact⟨by rw[b.out];rfl,rfl⟩
 have c:(r.size:Int)<=(s.size:Int):=by omega
 have a:r.size<=s.size:=h;have b:Hid _:=Lib.occ_of_piece s r 0 (by omega);clear h;go_enter (n163 L),Tryz.ntmps163;go_wp2;go_ret;refine⟨?_,rfl⟩;rw[<-KS,b.out,SF];rfl
def nH(s r:ByteArray)(w:World):Calls (Qs fs) 133 #[.string s,.string r] w λe w'=>e=.returned (.bool (r.data.toList.isPrefixOf s.data.toList))/\w'=w:=by have QD:=QD L;have c:=yd L s r w;obtain⟨z,a⟩:=ex (r.data.toList.isPrefixOf s.data.toList);rw[<-a]at c⊢;clear a;go_enter (n133 L),Tryz.ntmps133;go_wp2_with (first|(go_at_call 163;refine c.mono ?_;clear c;rintro e w2 ⟨rfl,rfl⟩));go_ret;exact⟨rfl,rfl⟩
def lB(a:List Pr2):Nat->Bs->List ByteArray
 |0,_=>[]
 |_,[]=>[]
 |n+1,c::cs=>
  match bJ a (c::cs)with
  |some p=>p.2::lB a n ((c::cs).drop p.1.size)
  |none=>(if bd c then⟨#[c]⟩else⟨#[]⟩)::lB a n cs
def ej(a:List Pr2)(w:Bs):List ByteArray:=lB a w.length w
theorem pT(a):∀(n) (s),(lB a n s).flatMap (λx=>x.data.toList)=kS a n s
 |0,s=>rfl
 |n+1,[]=>rfl
 |n+1,c::cs=>by
  unfold lB kS;cases bJ a (c::cs)with
  |some p=>simp only[Uc];rw[pT a n]
  |none=>
   simp only[Uc];rw[pT a n]
   congr 1
   cases bd c<;>rfl
def vw(a s):(ej a s).flatMap (λx=>x.data.toList)=aQ a s:=pT a _ s
theorem nI(a:List Pr2)(b:∀p∈a,1<=p.1.size):∀(n m) (s),s.length<=n->s.length<=m->lB a n s=lB a m s
 |n,m,[],_,_=>by cases n<;>cases m<;>rfl
 |0,m,c::cs,h,_=>by simp at h
 |n,0,c::cs,_,h=>by simp at h
 |n+1,m+1,c::cs,d,e=>by
  simp only[Ss]at d e;unfold lB;cases f:bJ a (c::cs)with
  |some p=>have g:=b p (gH f);simp only[];rw[nI a b n m _ (by rw[SK,Ss];omega) (by rw[SK,Ss];omega)]
  |none=>simp only[];rw[nI a b n m cs (by omega) (by omega)]
def Fb{a:List Pr2}(b:∀p∈a,1<=p.1.size){c}{s:Bs}{p}(d:bJ a (c::s)=some p):ej a (c::s)=p.2::ej a ((c::s).drop p.1.size):=by have h:=b p (gH d);unfold ej;rw[Ss];(conv=>lhs;unfold lB);rw[d];simp only[];rw[nI a b _ ((c::s).drop p.1.size).length _ (by rw[SK,Ss];omega) (Sp _)]
def Cu{a c}{s:Bs}(b:bJ a (c::s)=none):ej a (c::s)=(if bd c then⟨#[c]⟩else⟨#[]⟩)::ej a s:=by unfold ej;rw[Ss];(conv=>lhs;unfold lB);rw[b]
def aD.blocks{K}{w w':World}{v l}(h:aD K 2 dk w v l)(j:∀b,K b->w'.heap[b]? =w.heap[b]?):aD K 2 dk w' v l:=by (obtain⟨n,c,rfl,p,q,f,r⟩:=h;have m:∀b o,K b->w'.cell? ⟨b,o,none⟩=w.cell? ⟨b,o,none⟩:=λb o d=>by unfold World.cell?;rw[show w'.heap[(⟨b,o,none⟩:Addr).block]? =w.heap[(⟨b,o,none⟩:Addr).block]? from j b d]);refine⟨n,c,rfl,p,q,f.imp id λf a s=>?_,λk d=>?_⟩;obtain⟨k1,g,t⟩:=f a s;exact⟨k1,g,by rw[j _ g];exact t⟩;obtain⟨b,i,e,k1,g⟩:=r k d;have d:=((f.resolve_left (by omega)) _ e).2.1;exact⟨b,i,e,(m b _ d).trans k1,(m b _ d).trans g⟩
def aD.below{K w v l}(h:aD K 2 dk w v l):aD (λb=>b<w.heap.size) 2 dk w v l:=by obtain⟨j,c,rfl,m,n,d,o⟩:=h;refine⟨j,c,rfl,m,n,d.imp id λd a p=>?_,λk q=>?_⟩;obtain⟨k1,g,cs,e,F,i⟩:=d a p;exact⟨k1,(Sw.1 i).1,cs,e,F,i⟩;obtain⟨b,f,e,k1,g⟩:=o k q;exact⟨b,f,e,k1,g⟩
def gJ(rest:ByteArray):Option Pr2->ByteArray×ByteArray×Int
 |some p=>(p.1,p.2,p.1.size)
 |none=>(rest.extract 0 1,if(rest.data.toList.head?.any bd)then rest.extract 0 1 else⟨#[]⟩,0)
theorem EH{b}{chk:List b->b->Int}:∀{seen l:List b} {i:Nat} (h:i<l.length),(∀j (e:j<i),chk (seen++l.take j) (l[j]'(by omega))=0)->chk (seen++l.take i) l[i]≠0->ep chk seen l=chk (seen++l.take i) l[i]
 |seen,x::xs,0,h,_,a=>by simp only[Tb,TQ,UC]at a⊢;unfold ep;rw[Sn a]
 |seen,x::xs,i+1,h,c,a=>by have d:=c 0 (by omega);simp only[Tb,TQ,UC]at d;unfold ep;rw[Sm (by rw[d];simp)];have:=EH (chk:=chk) (seen:=seen++[x]) (l:=xs) (i:=i) (by simpa using h) (λj e=>by simpa using c (j+1) (by omega)) (by simpa using a);simpa using this
theorem Ai{a}{chk:List a->a->Int}:∀{seen l:List a},(∀j (b:j<l.length),chk (seen++l.take j) l[j]=0)->ep chk seen l=0
 |seen,[],_=>rfl
 |seen,x::xs,c=>by have d:=c 0 (by simp);simp only[Tb,TQ,UC]at d;unfold ep;rw[Sm (by rw[d];simp)];refine Ai λj b=>?_;have:=c (j+1) (by simpa using b);simpa only[Th,List.getElem_cons_succ,TP,List.singleton_append]using this
def iS{a}{chk:List a->a->Int}{l:List a}{i:Nat}(h:i<l.length)(d:∀j (c:j<i) (g:j<l.length),chk (l.take j) l[j]=0){f:Int}(e:chk (l.take i) l[i]=f)(b:f≠0):ep chk [] l=f:=by subst e;have:=EH (chk:=chk) (seen:=[]) h (λj c=>by simpa using d j c (by omega)) (by simpa using b);simpa using this
def iT{a}{chk:List a->a->Int}{l:List a}(c:∀j (b:j<l.length),chk (l.take j) l[j]=0):ep chk [] l=0:=Ai λj b=>by simpa using c j b
def iU{a}{chk:List a->a->Int}{l:List a}{k:Nat}(c:∀j (_:j<k) (b:j<l.length),chk (l.take j) l[j]=0)(d:k<l.length)(h:chk (l.take k) l[k]=0):∀j (_:j<k+1) (b:j<l.length),chk (l.take j) l[j]=0:=λj e b=>by obtain h2|h2:=Sr j k;exact c j h2 b;(have:j=k:=by omega);subst this;exact h
def EI{a}{l:List a}{p:a->Bool}{i:Nat}:(l.take i).any p=false↔∀j (_:j<i) (e:j<l.length),p l[j]=false:=by rw[Un];constructor;intro h j b f;(have c:l[j]∈l.take i:=by rw[Vv];exact⟨j,by omega,rfl⟩);simpa using h _ c;intro h x d;obtain⟨j,b,rfl⟩:=Vv.1 d;simp[h j (by omega) (by omega)]
def Kl{s:ByteArray}(h:s.size=0\/10<s.size):dC s=false:=by unfold dC aq;obtain h|h:=h;rw[h];rfl;rw[show decide ((s.size:Int)<=10)=false from Sv (by omega),UI,Vo,Vo]
def head_data{s:ByteArray}(h:0<s.size):s.data.toList.head?=some s[0]:=by (have a:0<s.data.toList.length:=by rw[<-Lib.size_eq];exact h);rw[List.head?_eq_getElem?,Td a];rfl
def EJ{s:ByteArray}{p:UInt8->Bool}:s.data.toList.all p=true↔∀j (h:j<s.size),p s[j]=true:=by rw[Tg];constructor;intro h j a;exact h _ (SH (l:=s.data.toList) (n:=j) (by rw[<-Lib.size_eq];exact a));intro h x b;obtain⟨j,a,rfl⟩:=Ul b;exact h j (by rw[Lib.size_eq];exact a)
def G9{s:ByteArray}(b:s.size≠0)(c:s.size<=10)(a:bd (s[0]'(by omega))=true)(h:∀j (h:j<s.size),(bd s[j]||jf s[j])=true):dC s=true:=by unfold dC aq;rw[head_data (by omega),EJ.2 h,SD (by omega),SD (by omega)];simpa using a
def xO{s:ByteArray}{k:Nat}(c:k<s.size)(h:bd s[k]=false)(a:jf s[k]=false\/k=0):dC s=false:=by rw[U9];intro b;unfold dC at b;simp only[SG]at b;obtain⟨⟨_,d⟩,e⟩:=b;obtain a|rfl:=a;have:=EJ.1 e k c;rw[h,a]at this;cases this;rw[head_data c]at d;simp[h]at d
def Iq(s:ByteArray)(w:World)(M:s.size<=9223372036854775807):Calls (Qs fs) 111 #[.string s] w λe w'=>e=.returned (.bool (dC s))/\Below w.heap.size w w':=by
 have e60:=e60 L;by_cases h0:s.size=0\/10<s.size
 ·rw[Kl h0];go_enter (n111 L),Tryz.ntmps111;obtain h0|h0:=h0
  ·(have t:((s.size:Int)==0)=true:=by rw[Ts];omega);go_wp2;go_ret;exact⟨rfl,Below.refl _ _⟩
  have t:((s.size:Int)==0)=false:=by rw[SY];omega
  have F:decide ((10:Int)<(s.size:Int))=true:=SD (by omega);go_wp2;go_ret;exact⟨rfl,Below.refl _ _⟩
 have t:((s.size:Int)==0)=false:=by rw[SY];omega
 have F:decide ((10:Int)<(s.size:Int))=false:=Sv (by omega);have h0:s.size≠0/\s.size<=10:=by omega
 go_enter (n111 L),Tryz.ntmps111;go_wp2;go_loopw [3] (λi wr=>∃k:Nat,k<=s.size/\i=.int .i64 k/\(∀j (h:j<k) (G:j<s.size),(bd s[j]||jf s[j])=true)/\(0<k->bd (s[0]'(by omega))=true)/\Below w.heap.size w wr) (λi _=>s.size-(intOf i).toNat);case atStart=>exact⟨0,SE _,rfl,λj h=>absurd h (SL _),λh=>absurd h (Nat.lt_irrefl _),Below.refl _ _⟩
 case round=>
  obtain⟨k,N,rfl,u,v,z⟩:=hrel;have A:Hid _:=u;have o:Hid _:=v;have p:Hid _:=z;clear u v z;obtain c|hge:=Sr k s.size
  ·have O:k<s.size:=c;(obtain⟨m,d⟩:=ex (bd s[k]);obtain⟨n,f⟩:=ex (jf s[k]);have g:wrap64 (s[k].toNat:Int)=s[k].toNat:=by have:=s[k].toNat_lt;unfold wrap64;omega);(have B:∀x:aj w wr,Calls (Qs fs) 60 #[.int .i64 (wrap64 (s[k].toNat:Int)),.int .i64 97,.int .i64 122] x.val λe w'=>e=.returned (.bool m)/\∃y:aj w wr,w'=y.val:=λx=>by rw[d,g];exact aj.same (E2 L _ _ _ x.val));(have C:∀x:aj w wr,Calls (Qs fs) 60 #[.int .i64 (wrap64 (s[k].toNat:Int)),.int .i64 48,.int .i64 57] x.val λe w'=>e=.returned (.bool n)/\∃y:aj w wr,w'=y.val:=λx=>by rw[f,g];exact aj.same (E2 L _ _ _ x.val));(have l:Hid _:=(⟨d,f⟩:m=bd s[k]/\n=jf s[k]));(clear d f g;go_upto_region 6 with fail;refine aW (w0:=w) (w1:=wr) 10 (by kernel_rfl) (by kernel_rfl) (ae.refl _) p.out ?_;simp only[Th,Tb,Tp,Tk];haveI q:Nonempty (aj w wr):=⟨⟨wr,ae.refl _,p.out⟩⟩);(repeat (go_big_quiet_step (first|(go_at_call 60;first|exact B _|exact C _))));refine wpQuiet_nil ?_;rintro P ⟨⟨_,H,D⟩,rfl⟩;have a:Hid _:=D;clear B C q H D;by_cases r:k=0
   ·subst r
    cases m with
    |true=>(go_wp2;refine⟨⟨1,by omega,by go_num,λj I E=>?_,λ_=>l.out.1.symm,a.out⟩,by simp[intOf];omega⟩;have:j=0:=by omega);subst this;rw[<-l.out.1];rfl
    |false=>cases n<;>(go_wp2;go_ret;exact⟨by rw[xO c l.out.1.symm (.inr rfl)];rfl,a.out⟩)
   (have J:((k:Int)==0)=false:=by rw[SY];omega);(have b:(m||n)=true->∀j (h:j<k+1) (G:j<s.size),(bd s[j]||jf s[j])=true:=λK j I E=>by obtain h3|h3:=Sr j k;exact A.out j h3 E;(have:j=k:=by omega);subst this;rw[<-l.out.1,<-l.out.2];exact K);have HS:Hid _:=b;clear b;cases m with|true=>go_wp2;exact⟨⟨k+1,by omega,by go_num,HS.out rfl,λ_=>o.out (by omega),a.out⟩,by simp[intOf];omega⟩|false=>cases n with|true=>go_wp2;exact⟨⟨k+1,by omega,by go_num,HS.out rfl,λ_=>o.out (by omega),a.out⟩,by simp[intOf];omega⟩|false=>go_wp2;go_ret;exact⟨by rw[xO c l.out.1.symm (.inl l.out.2.symm)];rfl,a.out⟩
  go_wp2;go_ret;exact⟨by rw[G9 h0.1 h0.2 (o.out (by omega)) λj h=>A.out j (by omega) h];rfl,p.out⟩
def Ha(l:List Pr2)(i:Nat)(a:i<l.length):letterF (l.take i) l[i]=if !bl l[i].1 4 then 3 else if(l.take i).any (λq=>decide (q.1=l[i].1))then 5 else if !aY l[i].2 1 3 then 3 else 0:=rfl
def xP{K:Nat->Prop}{v:Value}{l:List Pr2}(w:World)(M:aD K 2 dk w v l)(Y:∀p∈l,p.1.size<=1000/\p.2.size<=1000)(hn:l.length<=1000):Calls (Qs fs) 58 #[v] w λe w'=>e=.returned (.int .i64 (aN 0 12 letterF l))/\Below w.heap.size w w':=by
 have Nt:=Nt L;have e61:=e61 L;obtain⟨ao,c,rfl,af,hc,_,n⟩:=M;by_cases ag:12<l.length
 ·have g:(12:Int)<(l.length:Int):=by omega
  have e:aN 0 12 letterF l=2:=by unfold aN aq;rw[Sv (p:=(l.length:Int)<=12) (by omega),UI];rfl
  rw[e];clear Y n;go_enter (n58 L),Tryz.ntmps58;go_wp2;go_ret;exact⟨rfl,Below.refl _ _⟩
 have g:decide ((12:Int)<(l.length:Int))=false:=Sv (by omega);have e:aN 0 12 letterF l=ep letterF [] l:=by unfold aN aq;rw[SD (by omega),SD (by omega)];rfl
 rw[e];clear e;have HS:Hid _:=Y;have HC:Hid _:=n;clear Y n;go_enter (n58 L),Tryz.ntmps58;go_wp2;go_loopw [3] (λs wr=>∃k:Nat,k<=l.length/\s=.int .i64 k/\(∀j (_:j<k) (Z:j<l.length),letterF (l.take j) l[j]=0)/\Below w.heap.size w wr) (λs _=>l.length-(intOf s).toNat);case atStart=>exact⟨0,SE _,rfl,λj h=>absurd h (SL _),Below.refl _ _⟩
 case round=>
  obtain⟨k,hk,rfl,hf,hb⟩:=hrel;have HF:Hid _:=hf;have U:Hid _:=hb;clear hf hb;obtain t|hge:=Sr k l.length
  ·obtain⟨b,F,rfl,hx⟩:=HC.out k t;obtain⟨G,C⟩:=HS.out l[k] (SH t);obtain⟨u,y⟩:=hx;have a:=Ha l k t;have V:=ae.below U.out;have HR:Hid (∀j (hj:j<l.length),wr.cell? ⟨b,F+j*2,none⟩=some (.string l[j].1)):=λj hj=>by obtain⟨b',o',e',hy⟩:=HC.out j hj;cases e';exact V.cell hy.1
   have u:=V.cell u;have y:=V.cell y;clear V;obtain⟨p,hp⟩:=ex (l[k]);rw[<-hp]at u y G C a;obtain⟨p0,W⟩:=p;simp only[]at u y G C a;have z:=λwx=>tL L p0 4 wx (by omega);have B:=λwx=>mF L W 1 3 wx (by omega);obtain⟨z1,N⟩:=ex (bl p0 4);obtain⟨z2,O⟩:=ex (aY W 1 3);simp only[<-N]at z a;simp only[<-O]at B a;have HP:Hid _:=hp;have X:Hid _:=a;clear N O hp a;have D:∀{f:Int},letterF (l.take k) (p0,W)=f->f≠0->ep letterF [] l=f:=λG C=>iS t HF.out (by rw[<-HP.out];exact G) C;have HG:Hid (letterF (l.take k) (p0,W)=0->∀j (_:j<k+1) (Z:j<l.length),letterF (l.take j) l[j]=0):=λh=>iU HF.out t (by rw[<-HP.out];exact h);have H:Hid _:=@D;clear D;cases z1 with
   |false=>have A:=H.out (X.out.trans rfl:_=(3:Int)) (by decide);have HV:Hid _:=A;clear A B;go_wp2_with (first|(go_at_call 110;refine(z _).mono ?_;rintro e w' ⟨rfl,rfl⟩));go_ret;exact⟨by rw[HV.out];rfl,U.out⟩
   |true=>
    (go_upto_block 2 with(first|(go_at_call 110;refine(z _).mono ?_;rintro e w' ⟨rfl,m⟩;rw[m];clear m)));go_wp2;go_loopw [4] (λs wi=>∃j:Nat,j<=k/\s=.int .i64 j/\(∀i (_:i<j) (Z:i<l.length),l[i].1≠p0)/\ae wr wi/\Below w.heap.size w wi) (λs _=>k-(intOf s).toNat);case atStart=>exact⟨0,SE _,rfl,λj h=>absurd h (SL _),ae.refl _,U.out⟩
    case round=>
     (obtain⟨j,hj,rfl,P,o,I⟩:=hrel;have HN:Hid _:=P;have Q:Hid _:=(⟨o,I⟩:_/\Below w.heap.size w wr));have y1:=o.cell u;have y2:=o.cell y;clear P;obtain hjk|hjk:=Sr j k
     ·have y0:=o.cell (HR.out j (by omega));(obtain⟨r,hr⟩:=ex (l[j].1);rw[<-hr]at y0;have l0:∀x:aj w wr,x.val.cell? ⟨b,F+j*2,none⟩=some (.string r):=λx=>x.st.cell y0;have l1:∀x:aj w wr,x.val.cell? ⟨b,F+k*2,none⟩=some (.string p0):=λx=>x.st.cell y1;obtain⟨d,hd⟩:=ex (decide (r=p0));have J:=mG r p0;rw[<-hd]at J;have HD:Hid _:=hd;have R:Hid _:=hr;clear hd;clear hr o I;go_upto_region 11 with fail;refine aR (w0:=w) (w1:=wr) (by kernel_rfl) (by kernel_rfl) (ae.refl _) Q.out.2 ?_;haveI aa:Nonempty (aj w wr):=⟨⟨wr,ae.refl _,Q.out.2⟩⟩);(repeat (go_big_quiet_step (fail)));(refine wpQuiet_nil ?_;rintro wz ⟨⟨_,Sz,Bz⟩,rfl⟩;have HZ:Hid _:=(⟨Q.out.1.trans Sz,Bz⟩:_/\_));clear l0 l1 aa Sz Bz y0 y1 y2;cases d with|true=>have S:r=p0:=Tf HD.out.symm;have A:=H.out (X.out.trans (by rw[Sm (by simp),Sn];rw[TE];exact⟨l[j],Vv.2 ⟨j,by omega,rfl⟩,SD (R.out▸S)⟩):_=(5:Int)) (by decide);have HV:Hid _:=A;clear J S A;go_wp2;go_ret;exact⟨by rw[HV.out];rfl,HZ.out.2⟩|false=>(have S:r≠p0:=Vk HD.out.symm;have T:∀i (_:i<j+1) (Z:i<l.length),l[i].1≠p0:=λi G C=>by obtain h3|h3:=Sr i j;exact HN.out i h3 C;(have:i=j:=by omega);subst this;exact R.out▸S);have ab:Hid _:=T;clear J S T;go_wp2;exact⟨⟨j+1,by omega,by go_num,ab.out,HZ.out.1,HZ.out.2⟩,by simp[intOf];omega⟩
     (have ad:j=k:=by omega);subst ad;have E:(l.take j).any (λq=>decide (q.1=p0))=false:=EI.2 λi G C=>Sv (HN.out i G C);have HA:Hid _:=E;clear E o I;cases z2 with|false=>have A:=H.out (X.out.trans (by rw[HA.out];rfl):_=(3:Int)) (by decide);have HV:Hid _:=A;clear A;go_wp2_with (first|(go_at_call 61;refine(B _).mono ?_;rintro e w' ⟨rfl,m⟩;rw[m];clear m));go_ret;exact⟨by rw[HV.out];rfl,Q.out.2⟩|true=>have A:=HG.out (X.out.trans (by rw[HA.out];rfl));have HV:Hid _:=A;clear A;go_wp2_with (first|(go_at_call 61;refine(B _).mono ?_;rintro e w' ⟨rfl,m⟩;rw[m];clear m));exact⟨⟨j+1,by omega,by go_num,HV.out,Q.out.2⟩,by simp[intOf];omega⟩
  go_wp2;go_ret;exact⟨by rw[iT λj h=>HF.out j (by omega) h];rfl,U.out⟩
end Go.Proofs

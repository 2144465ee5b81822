import Derived.Deep.RegionHeld3
import Derived.Test.YtaglpcmhopjebaaGreatDoorY4
import Derived.Test.YtaglpcmhopjebaaGreatDoorY26
set_option linter.all false
set_option maxRecDepth 100000
set_option maxHeartbeats 20000000
namespace Go.Proofs
open Go.Tm Go.RowKit
variable {fs:Array Func} (L:bQ fs)
structure OkC(c:Case):Prop where
 table:OkT c.table
 new:OkM c.new
 marks:∀m∈c.marks,OkM m
 sx:c.marks.length<=8
 Ev:c.rules.length<=6
 Of:c.kin.length=c.marks.length
 rules:∀r∈c.rules,0<=r.kind/\r.kind<=5/\1<=r.least/\r.least<=100/\0<=r.plain/\r.plain<=9/\0<=r.known/\r.known<=9
 kin:∀n∈c.kin,0<=n/\n<=9
def BG(x:Bl):Value:=.agg #[.int .i64 x.days,.int .i64 x.level,.int .i64 x.kin]
def Gu{w w1}(a:Below w.heap.size w w1)(x y)(p q:Nat):
 (∀i v,x[i]? =some v->(((w1.alloc (.cells x p)).alloc (.cells y q)).drew).cell? ⟨w1.heap.size,i,none⟩=some v)/\(∀i v,y[i]? =some v->(((w1.alloc (.cells x p)).alloc (.cells y q)).drew).cell? ⟨w1.heap.size+1,i,none⟩=some v)/\
 ae w1 (((w1.alloc (.cells x p)).alloc (.cells y q)).drew)/\Below w.heap.size w (((w1.alloc (.cells x p)).alloc (.cells y q)).drew):=by
 have b:(w1.alloc (.cells x p)).heap.size=w1.heap.size+1:=by simp
 refine⟨λi v h=>(ae.alloc _ (.cells y q)).cell (aw w1 x p i v h),λi v h=>?_,(ae.alloc w1 (.cells x p)).trans (ae.alloc _ (.cells y q)),((a.alloc a.size _).alloc (by have:=a.size;omega) _).drew⟩;have:=aw (w1.alloc (.cells x p)) y q i v h;rw[b]at this;exact this
def cell_of_heap{w:World}{b c e f}(h:w.heap[b]? =some (.cells c e f))(i v)(a:c[i]? =some v):w.cell? ⟨b,i,none⟩=some v:=by unfold World.cell?;simp only[h];exact a
def frozen_of_heap{w:World}{b c e}(h:w.heap[b]? =some (.cells c e))(i):w.frozen? ⟨b,i,none⟩=false:=by unfold World.frozen?;simp only[h];simp
def pN{a n M:Int}(b:0<n)(c:0<=a)(d:a<=M*n):0<=a/n/\a/n<=M:=⟨Int.ediv_nonneg c (by omega),by have:=Int.ediv_le_ediv b d;rwa[Int.mul_ediv_cancel _ (by omega)]at this⟩
def jJ(a b):0<=dF a b/\dF a b<=100:=by
 unfold dF;split
 ·exact⟨by decide,by decide⟩
 ·rename_i h
  have c:=uZ _ a b (Rq _);have d:0<max a.length b.length:=by
   cases a with
   |nil=>simp at h
   |cons x a=>simp only[Rs];omega
  refine pN (by omega) (by omega) (by omega)
theorem gX(t a b):∀k,0<=eO t a b k/\eO t a b k<=100
 |0=>⟨TB _,(by decide:(0:Int)<=100)⟩
 |k+1=>by have c:=gX t a b k;have d:=jJ (bH t k a) (bH t k b);rw[kh];omega
def Ew(a b):0<=uh a b/\uh a b<=100:=by
 unfold uh;have key:∀x y:Bs,0<=(if x.length<3|| !x.isPrefixOf y&& !x.isSuffixOf y then 0 else(100*x.length:Int)/(y.length:Int))/\(if x.length<3|| !x.isPrefixOf y&& !x.isSuffixOf y then 0 else(100*x.length:Int)/(y.length:Int))<=100:=by
  intro x y;split
  ·exact⟨by decide,by decide⟩
  ·rename_i h
   simp only[T5,RJ,RD,Bool.not_eq_true',not_or,not_and,Bool.not_eq_false]at h;obtain⟨e,d⟩:=h;have f:x.length<=y.length:=by
    by_cases c:x.isPrefixOf y=true
    ·exact(S9.1 c).length_le
    ·exact(List.isSuffixOf_iff_suffix.1 (d (Bool.eq_false_iff.2 c))).length_le
   exact pN (by omega) (by omega) (by omega)
 exact key _ _
def Hi{l:List Nat}{M}(h:∀x∈l,x<=M):l.sum<=M*l.length:=by
 induction l with
 |nil=>simp
 |cons x l a=>have c:=h x (TP ..);have d:=a λy b=>h y (TQ _ b);simp only[List.sum_cons,Rs,UI];omega
def vc(a b)(c:a.length<=5)(f:b.length<=5):0<=bS a b/\bS a b<=100000:=by
 unfold bS;split
 ·exact⟨by decide,by decide⟩
 ·rename_i h
  have g:0<a.length:=by
   cases a with
   |nil=>simp at h
   |cons x a=>simp
  have d:((List.range 10).map λ(n:Nat)=>min (aN (bn a b) n) (aN (bn b a) n)).sum<=5*10:=by
   have:=Hi (l:=(List.range 10).map λ(n:Nat)=>min (aN (bn a b) n) (aN (bn b a) n)) (M:=5) (by
    intro x e;obtain⟨n,_,rfl⟩:=SU.1 e;have i:aN (bn a b) n<=5:=by unfold aN bn;exact Rr (SL _ _) (Rr (SL _ _) c)
    omega)
   simpa using this
  simp only[];generalize ((List.range 10).map λ(n:Nat)=>min (aN (bn a b) n) (aN (bn b a) n)).sum=z at d;exact pN (by omega) (by omega) (by omega)
def zQ(t a b):0<=gp t a b/\gp t a b<=100:=by unfold gp;split<;>exact⟨by decide,by decide⟩
def lh(t k one two)(d:one.aW.length<=5)(e:two.aW.length<=5):0<=bD t k one two/\bD t k one two<=100000:=by
 by_cases k0:k=0
 ·subst k0;rw[yq];have:=jJ (aR t.aC one.word.data.toList) (aR t.aC two.word.data.toList);omega
 by_cases k1:k=1
 ·subst k1;rw[yt];have:=gX t one.word.data.toList two.word.data.toList t.aO.length;omega
 by_cases a:k=2
 ·subst a;rw[yu];have:=zQ t (aR t.aC one.word.data.toList) (aR t.aC two.word.data.toList);omega
 by_cases b:k=3
 ·subst b;rw[yv];have:=jJ (aR t.aC one.word.data.toList) (aR t.aC two.word.data.toList).reverse;omega
 by_cases c:k=4
 ·subst c;rw[yw];have:=Ew (aR t.aC one.word.data.toList) (aR t.aC two.word.data.toList);omega
 rw[yx t k one two ⟨k0,k1,a,b,c⟩];exact vc _ _ d e
def wrap_i64(n)(h: -9223372036854775808<=n/\n<=9223372036854775807):IntKind.i64.wrap n=n:=by
 simp only[IntKind.wrap,IntKind.signed,IntKind.bits,T4];split
 ·rename_i a
  have:=Su a;omega
 ·rename_i a
  have:¬(n%2 ^ 64>=2 ^ (64-1)):=λh=>a (RE h);omega
def jG(m:Mark)(r:ug):Int:=if m.known then min r.plain r.known else r.plain
def BH(c m kin r):lP c m kin r=⟨max 0 (m.day+1-c.new.day),max 0 (r.least-bD c.table r.kind c.new m),max 0 (jG m r-kin)⟩:=rfl
def Mu{K:Nat->Prop}{sc:Array Value}{c:Case}(i k:Nat)(w:World)(hc:bl K w sc c)(E:OkC c)(hi:i<c.marks.length)(hk:k<c.rules.length)(P:i<c.kin.length):
 Calls (Qs fs) 85 #[.agg sc,.int .i64 i,.int .i64 k] w λe w'=>e=.returned (BG (lP c c.marks[i] c.kin[i] c.rules[k]))/\Below w.heap.size w w':=by
 have e70:=e70 L;obtain⟨v0,v1,v2,vr,Q,vm,vk,rfl,ht,hr,hf,hm,R⟩:=hc;obtain⟨wa,g⟩:=ex (w.alloc (.cells #[v0,v1,v2,vr,.string c.new.name,.string c.new.word,Q,.int .i64 c.new.day,.bool c.new.known,vm,vk] 60));obtain⟨w1,j⟩:=ex (wa.alloc (.cells #[.int .i64 0,.int .i64 0,.int .i64 0] 86));have Sa:ae wa w1:=by rw[j];exact ae.alloc _ _
 have t:ae w w1:=(by rw[g];exact ae.alloc _ _:ae w wa).trans Sa;have B1:Below w.heap.size w w1:=by rw[j,g];exact((Below.refl _ w).alloc (Rq _) _).alloc (by simp) _
 have u:wa.heap.size=w.heap.size+1:=by rw[g];simp
 have S:w1.heap.size=w.heap.size+1+1:=by rw[j,<-u];simp
 have ct:∀i v,(#[v0,v1,v2,vr,.string c.new.name,.string c.new.word,Q,.int .i64 c.new.day,.bool c.new.known,vm,vk]:Array Value)[i]? =some v->w1.cell? ⟨w.heap.size,i,none⟩=some v:=λi v h=>Sa.cell (by rw[g];exact aw w _ 60 i v h);obtain⟨N,T⟩:=ex (w.heap.size);obtain⟨N1,z⟩:=ex (w.heap.size+1);have n:w1.heap[N1]? =some (.cells #[.int .i64 0,.int .i64 0,.int .i64 0] 86):=by rw[j,z,<-u];exact Sd
 have al:=hm.stays t λb b' o x e h=>by subst e;exact o0.carry (Carry.keep t) b b o x rfl h
 have an:=hr.stays t λb b' o x e h=>by subst e;exact o6.carry (Carry.keep t) b b o x rfl h
 have ao:=R.ints t;have F:=ht.stays t;obtain⟨bs,cm,rfl,lm,bx,_,gm⟩:=al;obtain⟨bA,cr,rfl,lr,bB,_,gr⟩:=an;obtain⟨bC,ck,rfl,lk,b4,_,gk⟩:=ao;obtain⟨I,J,rfl,x0,x1,⟨fm,x2,U⟩,x3,x4⟩:=gm i hi;obtain⟨V,W,rfl,y0,y1,y2,y3⟩:=gr k hk;obtain⟨bk,ar,rfl,z0⟩:=gk i P;clear gm gr gk ht hr hm R;have C:=E.marks _ (RR hi);obtain⟨r1,r2,r3,r4,r5,r6,r7,r8⟩:=E.rules _ (RR hk);obtain⟨k1,k2⟩:=E.kin _ (RR P);obtain⟨m,X⟩:=ex (c.marks[i]);obtain⟨r,Y⟩:=ex (c.rules[k]);obtain⟨q,Z⟩:=ex (c.kin[i]);rw[<-X]at x0 x1 U x3 x4 C⊢;rw[<-Y]at y0 y1 y2 y3 r1 r2 r3 r4 r5 r6 r7 r8⊢;rw[<-Z]at z0 k1 k2⊢;clear X Y Z;obtain⟨a,D,rfl,lf,ax,kf,gf⟩:=U;have U:aB K 1 dn w1 (.slice a m.aW.length D) m.aW:=⟨a,D,rfl,lf,ax,kf,gf⟩
 have ay:Hid _:=U;clear U gf kf;have t9:=ct 9 _ rfl;have t3:=ct 3 _ rfl;rw[<-T]at t9 t3;go_enter (n85 L),Tryz.ntmps85;go_upto_region 1 with fail;rw[<-g,<-j,<-z,<-T];go_cut [7,8]from 10 (λs7 s8 M=>∃A B,s7=.pointer (some ⟨A,0,none⟩)/\s8=.pointer (some ⟨B,0,none⟩)/\(∀i v,(#[.string m.name,.string m.word,.slice a m.aW.length D,.int .i64 m.day,.bool m.known]:Array Value)[i]? =some v->M.cell? ⟨A,i,none⟩=some v)/\(∀i v,(#[.int .i64 r.kind,.int .i64 r.least,.int .i64 r.plain,.int .i64 r.known]:Array Value)[i]? =some v->M.cell? ⟨B,i,none⟩=some v)/\ae w1 M/\Below w.heap.size w M)
 case first=>
  have HB:Hid _:=B1;clear g j T z ct S u n F Sa t B1;have n9:=World.new_ne w1 _ t9;have n3:=World.new_ne w1 _ t3;have m0:=World.new_ne w1 _ x0;have m1:=World.new_ne w1 _ x1;have m2:=World.new_ne w1 _ x2;have m3:=World.new_ne w1 _ x3;have m4:=World.new_ne w1 _ x4;have q0:=World.new_ne w1 _ y0;have q1:=World.new_ne w1 _ y1;have q2:=World.new_ne w1 _ y2;have q3:=World.new_ne w1 _ y3
  go_region_held3 (λw'=>w'.cell? ⟨N,9,none⟩=some (.slice (some ⟨I,J,none⟩) c.marks.length cm)/\w'.cell? ⟨N,3,none⟩=some (.slice (some ⟨V,W,none⟩) c.rules.length cr)/\
   w'.cell? ⟨I,J+i*5,none⟩=some (.string m.name)/\w'.cell? ⟨I,J+i*5+1,none⟩=some (.string m.word)/\w'.cell? ⟨I,J+i*5+2,none⟩=some (.slice a m.aW.length D)/\w'.cell? ⟨I,J+i*5+3,none⟩=some (.int .i64 m.day)/\w'.cell? ⟨I,J+i*5+4,none⟩=some (.bool m.known)/\
   w'.cell? ⟨V,W+k*4,none⟩=some (.int .i64 r.kind)/\w'.cell? ⟨V,W+k*4+1,none⟩=some (.int .i64 r.least)/\w'.cell? ⟨V,W+k*4+2,none⟩=some (.int .i64 r.plain)/\w'.cell? ⟨V,W+k*4+3,none⟩=some (.int .i64 r.known)) (go_keep) (fail)
  all_goals (go_wp2_with fail;go_meet)
  ·obtain⟨h1,h2,h3,h4⟩:=Gu HB.out #[.string m.name,.string m.word,.slice a m.aW.length D,.int .i64 m.day,.bool m.known] #[.int .i64 r.kind,.int .i64 r.least,.int .i64 r.plain,.int .i64 r.known] 38 69
   exact⟨_,_,rfl,rfl,h1,h2,h3,h4⟩
  ·obtain⟨h1,h2,h3,h4⟩:=Gu HB.out #[.int .i64 r.kind,.int .i64 r.least,.int .i64 r.plain,.int .i64 r.known] #[.string m.name,.string m.word,.slice a m.aW.length D,.int .i64 m.day,.bool m.known] 69 38
   exact⟨_,_,rfl,rfl,h2,h1,h3,h4⟩
 case rest=>
  obtain⟨A,B,rfl,rfl,O,hb,f,Bx⟩:=hcut;have G:Hid (jG m r=if m.known then min r.plain r.known else r.plain):=rfl;have HS:Hid _:=(⟨f,Bx⟩:ae w1 wc/\Below w.heap.size w wc)
  have a3:=O 3 _ rfl;have a4:=O 4 _ rfl;have b0:=hb 0 _ rfl;have b1:=hb 1 _ rfl;have b2:=hb 2 _ rfl;have b3:=hb 3 _ rfl;have aM:=t;have s:w.heap.size<=N1:=by omega
  have t0:=ct 0 _ rfl;have t1:=ct 1 _ rfl;have t2:=ct 2 _ rfl;have t4:=ct 4 _ rfl;have t5:=ct 5 _ rfl;have t6:=ct 6 _ rfl;have t7:=ct 7 _ rfl;have t8:=ct 8 _ rfl;have H:=ct 10 _ rfl;rw[<-T]at t0 t1 t2 t4 t5 t6 t7 t8 H;clear g j T z S u Sa t B1 ct;go_upto_if 23 with fail;go_cut [9]from 10 (λs9 M=>s9=.int .i64 (jG m r)/\M=wc)
  case first=>
   go_wp2_with fail
   all_goals (go_meet;refine⟨?_,rfl⟩;rw[G.out])
   all_goals first|(rw[Rp (by assumption)];congr 1;omega)|(rw[Ro (by simp[*])])
  case rest=>
   obtain⟨rfl,rfl⟩:=hcut;have lb:=lh c.table r.kind c.new m E.new.fig C.fig;have nb: -1000<=jG m r/\jG m r<=1000:=by unfold jG;split<;>omega
   have aa:=F.stays f;have ab:aB K 1 dn wc Q c.new.aW:=(hf.ints aM).ints f;have ad:aB K 1 dn wc (.slice a m.aW.length D) m.aW:=aB.ints f ay.out;have cL:=λwy (hs:ae wc wy)=>yy L (m1:=#[.string c.new.name,.string c.new.word,Q,.int .i64 c.new.day,.bool c.new.known]) (m2:=#[.string m.name,.string m.word,.slice a m.aW.length D,.int .i64 m.day,.bool m.known]) (one:=c.new) (two:=m) r.kind wy (aa.stays hs) E.table ⟨Q,rfl,ab.ints hs⟩ ⟨_,rfl,ad.ints hs⟩ E.new C;obtain⟨lv,af⟩:=ex (bD c.table r.kind c.new m);obtain⟨nd,ag⟩:=ex (jG m r);have HV:Hid _:=BH c m q r;rw[<-af]at lb cL HV;rw[<-ag]at nb HV⊢;clear af ag;have d:=f _ _ _ _ n;have n0:=cell_of_heap d 0 _ rfl;have n1:=cell_of_heap d 1 _ rfl;have n2:=cell_of_heap d 2 _ rfl;have g0:=frozen_of_heap d 0;have g1:=frozen_of_heap d 1;have g2:=frozen_of_heap d 2;have ak:wc.cell? ⟨bk,ar+i,none⟩=some (.int .i64 q):=by have:=f.cell z0;rwa[SG]at this
   have b5:∀x y:Int,(if x<y then y else x)=max x y:=λx y=>by split<;>omega
   have b6:=C.day;have b7:=E.new.day;have b8:IntKind.i64.wrap (m.day+1)=m.day+1:=wrap_i64 _ (by omega);have ca:IntKind.i64.wrap (m.day+1-c.new.day)=m.day+1-c.new.day:=wrap_i64 _ (by omega);have cb:IntKind.i64.wrap (r.least-lv)=r.least-lv:=wrap_i64 _ (by omega);have cc:IntKind.i64.wrap (nd-q)=nd-q:=wrap_i64 _ (by omega);have bo:(0:Int)<=(i:Int)/\(i:Int)<(c.kin.length:Int):=⟨by omega,by omega⟩
   have qL:∀x:aj w wc,Calls (Qs fs) 70 _ x.val λe w'=>e=.returned (.int .i64 lv)/\∃y:aj w wc,w'=y.val:=λx=>aj.calls (cL x.val x.st);have l0:=λx:aj w wc=>x.cell (a3);have l1:=λx:aj w wc=>x.cell (f.cell t7);have l2:=λx:aj w wc=>x.cell (b1);have l3:=λx:aj w wc=>x.cell (f.cell t0);have l4:=λx:aj w wc=>x.cell (f.cell t1);have l5:=λx:aj w wc=>x.cell (f.cell t2);have l6:=λx:aj w wc=>x.cell (b0);have l7:=λx:aj w wc=>x.cell (f.cell t4);have l8:=λx:aj w wc=>x.cell (f.cell t5);have l9:=λx:aj w wc=>x.cell (f.cell t6);have a1:=λx:aj w wc=>x.cell (f.cell t8);have a6:=λx:aj w wc=>x.cell (O 0 _ rfl);have a7:=λx:aj w wc=>x.cell (O 1 _ rfl);have a8:=λx:aj w wc=>x.cell (O 2 _ rfl);have ba:=λx:aj w wc=>x.cell (a4);have bb:=λx:aj w wc=>x.cell (f.cell H);have bd:=λx:aj w wc=>x.cell (ak);clear a3 a4 b0 b1 b2 b3 t0 t1 t2 t4 t5 t6 t7 t8 H z0 ak x0 x1 x2 x3 x4 y0 y1 y2 y3 t9 t3 O hb n0 n1 n2 g0 g1 g2 n ab ad aa F f Bx cL;go_upto_region 5 with fail;refine aT (w0:=w) (w1:=wc) 29 (by kernel_rfl) (by kernel_rfl) (ae.refl _) HS.out.2 ?_;simp only[R7,Si,Sk,Sj];haveI cd:Nonempty (aj w wc):=⟨⟨wc,ae.refl _,HS.out.2⟩⟩
   repeat (go_big_quiet_step (first|(go_at_call 70;exact qL _)))
   refine wpQuiet_nil ?_;rintro wz ⟨⟨_,Sz,Bz⟩,rfl⟩;have l:=Sz _ _ _ _ d;have n0:=cell_of_heap l 0 _ rfl;have n1:=cell_of_heap l 1 _ rfl;have n2:=cell_of_heap l 2 _ rfl;have g0:=frozen_of_heap l 0;have g1:=frozen_of_heap l 1;have g2:=frozen_of_heap l 2;have BZ:Hid _:=Bz;clear qL Sz Bz d l l0 l1 l2 l3 l4 l5 l6 l7 l8 l9 a1 a6 a7 a8 ba bb bd;go_wp2;all_goals
    refine bodyPost_ret (v:=.agg #[.int .i64 (max 0 (m.day+1-c.new.day)),.int .i64 (max 0 (r.least-lv)),.int .i64 (max 0 (nd-q))]) ?_ rfl ⟨by rw[HV.out];rfl,((BZ.out.setCell (p:=⟨N1,0,none⟩) s _).setCell (p:=⟨N1,1,none⟩) s _).setCell (p:=⟨N1,2,none⟩) s _⟩;simp[results,Tryz.results85,go_sem, *];try omega
def iZ:Array Value:=Array.replicate 2401 (.int .i64 0)
def P7:Tryz.zeroCells184=iZ:=by kernel_rfl
def xC(i)(h:i<iZ.size):iZ[i]? =some (.int .i64 0):=by unfold iZ at h⊢;rw[Vl]at h;rw[UL,Rp h]
def xD:iZ.size=2401:=by unfold iZ;rw[Vl]
def yz(a b:Bs)(q p:Nat)(i:Nat):Value:=if(q<i/49\/(i/49=q/\p<=i%49))/\i/49<=a.length/\i%49<=b.length then .int .i64 (aJ (a.drop (i/49)) (b.drop (i%49)))else .int .i64 0
structure ja(w wr:World)(a b:Bs)(q p:Nat):Prop where
 row:wr.rowIs w.heap.size 184 2401 (yz a b q p)
 below:Below w.heap.size w wr
def JN(q p)(a:p<49):(q*49+p)/49=q/\(q*49+p)%49=p:=by omega
def ja.cell{w wr a b q p r k}(h:ja w wr a b q p)(i:a.length<=48)(j:b.length<=48)(c:r<=a.length)(d:k<=b.length)(e:q<r\/(r=q/\p<=k)):wr.cell? ⟨w.heap.size,r*49+k,none⟩=some (.int .i64 (aJ (a.drop r) (b.drop k))):=by obtain⟨f,g⟩:=JN r k (by omega);rw[h.row.cell (by omega)];unfold yz;rw[f,g,Rp ⟨e,c,d⟩]
def ja.cell0{w wr a b q p}(h:ja w wr a b q (p+1))(e:a.length<=48)(f:b.length<=48)(g:q<=a.length)(i:p<=b.length):wr.cell? ⟨w.heap.size,q*49+p,none⟩=some (.int .i64 0):=by obtain⟨c,d⟩:=JN q p (by omega);rw[h.row.cell (by omega)];unfold yz;rw[c,d,Ro (by omega)]
def ja.step{w wr:World}{a b:Bs}{q p:Nat}(h:ja w wr a b q (p+1))(k:a.length<=48)(l:b.length<=48)(d:q<=a.length)(f:p<=b.length):ja w (wr.setCell ⟨w.heap.size,q*49+p,none⟩ (.int .i64 (aJ (a.drop q) (b.drop p)))) a b q p where
 row:=(h.row.set (q*49+p) _).congr λi m=>by
  obtain⟨g,j⟩:=JN q p (by omega);unfold yz;by_cases e:i=q*49+p
  ·subst e
   rw[Rp rfl,g,j,Rp ⟨.inr ⟨rfl,Rq _⟩,d,f⟩]
  ·rw[Ro e]
   by_cases c:(q<i/49\/(i/49=q/\p+1<=i%49))/\i/49<=a.length/\i%49<=b.length
   ·rw[Rp c,Rp ⟨by omega,c.2⟩]
   ·rw[Ro c,Ro (by omega)]
 below:=h.below.setCell (Rq _) _
def ja.drewN{w wr a b q p}(h:ja w wr a b q p)(n):ja w (wr.drewN n) a b q p:=⟨h.row,Go.below_drewN h.below n⟩
def ja.next{w wr a b q}(h:ja w wr a b (q+1) 0)(d:b.length<=48):ja w wr a b q (b.length+1):=
 ⟨h.row.congr λi e=>by
  unfold yz;by_cases c:(q+1<i/49\/(i/49=q+1/\0<=i%49))/\i/49<=a.length/\i%49<=b.length
  ·rw[Rp c,Rp ⟨by omega,c.2⟩]
  ·rw[Ro c,Ro (by omega)],h.below⟩
def ja.first(w a b):ja w (w.alloc (.cells iZ 184)) a b (a.length+1) 0:=⟨by have h:=World.rowIs_alloc w iZ 184 (λ_=>.int .i64 0) λi c=>xC i c;rw[xD]at h;refine h.congr λi c=>?_;unfold yz;rw[Ro (by omega)],aF w _⟩
def Gv(a b:ByteArray)(w:World)(ha:a.size<=48)(hb:b.size<=48):Calls (Qs fs) 73 #[.string a,.string b] w λe w'=>e=.returned (.pointer (some ⟨w.heap.size,0,none⟩))/\ja w w' a.data.toList b.data.toList 0 0:=by
 have Q:=Lib.size_eq a;have R:=Lib.size_eq b;obtain⟨A,x⟩:=ex (a.data.toList);obtain⟨B,y⟩:=ex (b.data.toList);rw[<-x]at Q;rw[<-y]at R;rw[<-x,<-y];have d:Hid (a.size=A.length/\b.size=B.length):=⟨Q,R⟩
 have HG:Hid ((∀q (h:q<a.size),A.drop q=a[q]::A.drop (q+1))/\(∀q (h:q<b.size),B.drop q=b[q]::B.drop (q+1))):=⟨λq h=>by rw[x];exact drop_cons a q h,λq h=>by rw[y];exact drop_cons b q h⟩
 have K:=ja.first w A B;rw[<-P7]at K;obtain⟨w1,C⟩:=ex (w.alloc (.cells Tryz.zeroCells184 184));rw[<-C]at K;obtain⟨N,M⟩:=ex (w.heap.size);have HN:Hid _:=M;have S:Hid _:=K;rw[<-M];clear Q R x y K;go_enter (n73 L),Tryz.ntmps73;go_upto_region 2 with fail;rw[<-C,<-M];clear C M;go_wp2;go_loopw [6] (λi wr=>∃(p:Nat) (j:Int),p<=a.size+1/\j=(p:Int)-1/\i=.int .i64 j/\ja w wr A B p 0) (λi _=>(intOf i+1).toNat)
 case atStart=>refine⟨a.size+1,_,Rq _,rfl,by go_num,?_⟩;rw[d.out.1];exact S.out
 case round=>
  obtain⟨p,E,hp,o,rfl,O⟩:=hrel;obtain rfl|hpos:=SF p
  ·obtain rfl:E= -1:=by omega
   clear o;have HR:Hid _:=O;clear O;go_wp2;go_ret;exact⟨rfl,HR.out⟩
  ·obtain⟨q,rfl⟩:∃q,p=q+1:=⟨p-1,by omega⟩
   obtain rfl:E=(q:Int):=by omega
   clear o;have P:Hid _:=O.next (by have:=d.out.2;omega);clear O;go_wp2;go_loopw [7] (λi wi=>∃(D:Nat) (j:Int),D<=b.size+1/\j=(D:Int)-1/\i=.int .i64 j/\ja w wi A B q D) (λi _=>(intOf i+1).toNat)
   case atStart=>exact⟨b.size+1,_,Rq _,rfl,by go_num,by rw[d.out.2];exact P.out⟩
   case round=>
    clear P;obtain⟨D,E,ak,o,rfl,s⟩:=hrel;obtain rfl|hpos2:=SF D
    ·obtain rfl:E= -1:=by omega
     clear o;have P:Hid _:=s;clear s;go_wp2;refine⟨⟨q,_,by omega,rfl,by go_num,P.out⟩,by simp[intOf]⟩
    ·obtain⟨c,rfl⟩:∃c,D=c+1:=⟨D-1,by omega⟩
     obtain rfl:E=(c:Int):=by omega
     clear o;have t:q<=A.length:=by have:=d.out.1;omega
     have u:c<=B.length:=by have:=d.out.2;omega
     have f:A.length<=48:=by have:=d.out.1;omega
     have g:B.length<=48:=by have:=d.out.2;omega
     have F:=s.cell0 f g t u;have T:wr.frozen? ⟨w.heap.size,q*49+c,none⟩=false:=s.row.frozen _;have l:=s.step f g t u;rw[<-HN.out]at F T l;have n:Hid _:=l;clear l;have ad:(q:Int)<49:=by omega
     have af:(c:Int)<49:=by omega
     obtain hqa|hqa:=Ry q a.size
     ·obtain hcb|hcb:=Ry c b.size
      ·have e11:=s.cell f g (r:=q+1) (k:=c+1) (by have:=d.out;omega) (by have:=d.out;omega) (by omega)
       have e10:=s.cell f g (r:=q+1) (k:=c) (by have:=d.out;omega) (by have:=d.out;omega) (by omega);have G:=s.cell f g (r:=q) (k:=c+1) (by have:=d.out;omega) (by have:=d.out;omega) (by omega);have z:aJ (A.drop q) (B.drop c)=if a[q]=b[c]then aJ (A.drop (q+1)) (B.drop (c+1))else 1+min (aJ (A.drop (q+1)) (B.drop (c+1))) (min (aJ (A.drop (q+1)) (B.drop c)) (aJ (A.drop q) (B.drop (c+1)))):=by have g1:=HG.out.1 q hqa;have g2:=HG.out.2 c hcb;rw[g1,g2,lQ]
       have U:aJ (A.drop (q+1)) (B.drop (c+1))<=2000:=Rr (mz _ _) (by rw[RI,RI];have:=d.out;omega);have V:aJ (A.drop (q+1)) (B.drop c)<=2000:=Rr (mz _ _) (by rw[RI,RI];have:=d.out;omega);have W:aJ (A.drop q) (B.drop (c+1))<=2000:=Rr (mz _ _) (by rw[RI,RI];have:=d.out;omega);rw[z]at n;obtain⟨al,H⟩:=ex (aJ (A.drop (q+1)) (B.drop (c+1)));obtain⟨an,I⟩:=ex (aJ (A.drop (q+1)) (B.drop c));obtain⟨ao,J⟩:=ex (aJ (A.drop q) (B.drop (c+1)));rw[<-H]at e11 U n;rw[<-I]at e10 V n;rw[<-J]at G W n;rw[<-HN.out]at e11 e10 G;have ar:((q:Int)==a.size)=false:=by rw[R2];omega
       have ax:((c:Int)==b.size)=false:=by rw[R2];omega
       have ag:¬(q:Int)=a.size:=by omega
       have X:(q:Int)+1<49:=by omega
       have Y:(c:Int)+1<49:=by omega
       clear s z t u H I J;by_cases m:a[q]=b[c]
       ·rw[Rp m]at n
        have Z:((a[q].toNat:Int)==(b[c].toNat:Int))=true:=by rw[m];simp
        clear m;go_wp2;go_quiet (fail);go_wp2
        go_region
        go_wp2;exact⟨⟨c,_,by omega,rfl,by go_num,n.out.drewN (nq+1)⟩,by simp[intOf]⟩
       ·rw[Ro m]at n
        have Z:((a[q].toNat:Int)==(b[c].toNat:Int))=false:=by rw[R2];intro h;exact m (Uk.1 (by omega))
        clear m;go_wp2;go_quiet (fail);go_wp2
        go_big_region
        go_wp2;refine⟨⟨c,_,by omega,rfl,by go_num,?_⟩,by simp[intOf]⟩;refine(R6 (λv=>ja w ((wr.drewN _).setCell ⟨N,q*49+c,none⟩ (Value.int .i64 v)) A B q c) ?_).mp (n.out.drewN (nq+1));split<;>split<;>omega
      ·have aa:c=b.size:=by omega
       have z:aJ (A.drop q) (B.drop c)=a.size-q:=by rw[RY (by have:=d.out.2;omega:B.length<=c),gH,RI,d.out.1]
       rw[z,show((a.size-q:Nat):Int)=(a.size:Int)-q by omega]at n;subst aa;clear s z t u;go_wp2;refine⟨⟨b.size,_,by omega,rfl,by go_num,n.out⟩,by simp[intOf]⟩
     ·have ab:q=a.size:=by omega
      have z:aJ (A.drop q) (B.drop c)=b.size-c:=by rw[RY (by have:=d.out.1;omega:A.length<=q),eK,RI,d.out.2]
      rw[z,show((b.size-c:Nat):Int)=(b.size:Int)-c by omega]at n;subst ab;clear s z t u;go_wp2;refine⟨⟨c,_,by omega,rfl,by go_num,n.out⟩,by simp[intOf]⟩
def lR(a:ByteArray):a=⟨#[]⟩↔a.size=0:=by
 constructor
 ·rintro rfl;rfl
 ·intro h
  refine pM ?_;have:a.data.toList=[]:=Tb.1 (by rw[<-Lib.size_eq];exact h);rw[this]
def BI{a:ByteArray}(h:a≠⟨#[]⟩):a.toList.isEmpty=false:=by rw[Lib.toList_data,fB];exact Rz λb=>h ((lR a).2 b)
def zR(a b:ByteArray)(w:World)(u:a.size<=48)(v:b.size<=48):Calls (Qs fs) 231 #[.string a,.string b] w λe w'=>e=.returned (.int .i64 (dF a.data.toList b.data.toList))/\Below w.heap.size w w':=by
 have e73:=e73 L;have s:=λg=>Gv L a b g u v;have l:Hid _:=yp a b;have i:=uZ _ a.data.toList b.data.toList (Rq _);rw[<-Lib.size_eq,<-Lib.size_eq]at i;by_cases m:a=⟨#[]⟩
 ·have f:=l.out
  rw[Rp (.inl ((lR a).1 m))]at f;have c:Hid _:=f;have x:a.toList.isEmpty=true:=by rw[Lib.toList_data];subst m;rfl
  clear f l i m;go_enter (n231 L),Tryz.ntmps231;go_wp2_with fail
  go_ret;exact⟨by rw[c.out];rfl,Below.refl _ _⟩
 have y:a.toList.isEmpty=false:=BI m;by_cases n:b=⟨#[]⟩
 ·have f:=l.out
  rw[Rp (.inr ((lR b).1 n))]at f;have c:Hid _:=f;have x:b.toList.isEmpty=true:=by rw[Lib.toList_data];subst n;rfl
  clear f l i n;go_enter (n231 L),Tryz.ntmps231;go_wp2_with fail
  go_ret;exact⟨by rw[c.out];rfl,Below.refl _ _⟩
 ·have z:b.toList.isEmpty=false:=BI n
  have A:0<a.size:=Nat.pos_of_ne_zero λh=>m ((lR a).2 h);have B:0<b.size:=Nat.pos_of_ne_zero λh=>n ((lR b).2 h);have f:=l.out;rw[Ro (by omega)]at f;have p:=Lib.size_eq a;have q:=Lib.size_eq b;have j:∀g,Calls (Qs fs) 73 #[.string a,.string b] g λe w'=>e=.returned (.pointer (some ⟨g.heap.size,0,none⟩))/\w'.cell? ⟨g.heap.size,0,none⟩=some (.int .i64 (aJ a.data.toList b.data.toList))/\Below g.heap.size g w':=λg=>(s g).mono λe w' h=>⟨h.1,by have:=h.2.cell (r:=0) (k:=0) (by omega) (by omega) (RA _) (RA _) (by omega);simpa using this,h.2.below⟩
  obtain⟨d,t⟩:=ex (aJ a.data.toList b.data.toList);rw[<-t]at j f i;have c:Hid _:=f;clear f l m n s t p q;go_enter (n231 L),Tryz.ntmps231;go_wp2_with (first|(go_at_call 73;refine(j _).mono ?_;clear j;rintro e w2 ⟨rfl,C,o⟩))
  ·go_ret
   exact⟨by rw[c.out,show max a.size b.size=b.size by omega];rfl,o⟩
  ·go_ret
   exact⟨by rw[c.out,show max a.size b.size=a.size by omega];rfl,o⟩
def JO(s r):Lib.occAt s r 0=r.isPrefixOf s:=rfl
def xE(s r:ByteArray)(w:World):Calls (Qs fs) 163 #[.string s,.string r] w λe w'=>e=.returned (.bool (r.data.toList.isPrefixOf s.data.toList))/\w'=w:=by
 obtain h|h:=Ry s.size r.size
 ·have c:decide ((r.size:Int)<=(s.size:Int))=false:=Rz (by omega)
  have a:decide (r.size<=s.size)=false:=Rz (by omega);have b:Hid (r.data.toList.isPrefixOf s.data.toList=false):=by
   rw[Hid];cases d:r.data.toList.isPrefixOf s.data.toList with
   |false=>rfl
   |true=>have f:=(S9.1 d).length_le;rw[<-Lib.size_eq,<-Lib.size_eq]at f;omega
  clear h;go_enter (n163 L),Tryz.ntmps163;go_wp2;go_ret;exact⟨by rw[b.out];rfl,rfl⟩
 ·have c:(r.size:Int)<=(s.size:Int):=by omega
  have a:r.size<=s.size:=h;have b:Hid _:=Lib.occ_of_piece s r 0 (by omega);clear h;go_enter (n163 L),Tryz.ntmps163;go_wp2;go_ret;refine⟨?_,rfl⟩;rw[<-JO,b.out,RB];rfl
def BJ(s r:ByteArray)(w:World):Calls (Qs fs) 133 #[.string s,.string r] w λe w'=>e=.returned (.bool (r.data.toList.isPrefixOf s.data.toList))/\w'=w:=by
 have PL:=PL L;have c:=xE L s r w;obtain⟨z,a⟩:=ex (r.data.toList.isPrefixOf s.data.toList);rw[<-a]at c⊢;clear a;go_enter (n133 L),Tryz.ntmps133;go_wp2_with (first|(go_at_call 163;refine c.mono ?_;clear c;rintro e w2 ⟨rfl,rfl⟩))
 go_ret;exact⟨rfl,rfl⟩
def lj(a:List Pr2):Nat->Bs->List ByteArray
 |0,_=>[]
 |_,[]=>[]
 |n+1,c::cs=>
  match bI a (c::cs)with
  |some p=>p.2::lj a n ((c::cs).drop p.1.size)
  |none=>(if aX c then⟨#[c]⟩else⟨#[]⟩)::lj a n cs
def eh(a:List Pr2)(w:Bs):List ByteArray:=lj a w.length w
theorem pO(a):∀(n) (s),(lj a n s).flatMap (λx=>x.data.toList)=kI a n s
 |0,s=>rfl
 |n+1,[]=>rfl
 |n+1,c::cs=>by
  unfold lj kI;cases bI a (c::cs)with
  |some p=>simp only[Tr];rw[pO a n]
  |none=>
   simp only[Tr];rw[pO a n]
   congr 1
   cases aX c<;>rfl
def vd(a s):(eh a s).flatMap (λx=>x.data.toList)=aR a s:=pO a _ s
theorem nD(a:List Pr2)(b:∀p∈a,1<=p.1.size):∀(n m) (s),s.length<=n->s.length<=m->lj a n s=lj a m s
 |n,m,[],_,_=>by cases n<;>cases m<;>rfl
 |0,m,c::cs,h,_=>by simp at h
 |n,0,c::cs,_,h=>by simp at h
 |n+1,m+1,c::cs,d,e=>by
  simp only[Rs]at d e;unfold lj;cases f:bI a (c::cs)with
  |some p=>have g:=b p (gG f);simp only[];rw[nD a b n m _ (by rw[RI,Rs];omega) (by rw[RI,Rs];omega)]
  |none=>simp only[];rw[nD a b n m cs (by omega) (by omega)]
def Ex{a:List Pr2}(b:∀p∈a,1<=p.1.size){c}{s:Bs}{p}(d:bI a (c::s)=some p):eh a (c::s)=p.2::eh a ((c::s).drop p.1.size):=by
 have h:=b p (gG d);unfold eh;rw[Rs]
 conv=>lhs;unfold lj
 rw[d];simp only[];rw[nD a b _ ((c::s).drop p.1.size).length _ (by rw[RI,Rs];omega) (Rq _)]
def BK{a c}{s:Bs}(b:bI a (c::s)=none):eh a (c::s)=(if aX c then⟨#[c]⟩else⟨#[]⟩)::eh a s:=by
 unfold eh;rw[Rs]
 conv=>lhs;unfold lj
 rw[b]
def aB.blocks{K}{w w':World}{v l}(h:aB K 2 dC w v l)(i:∀b,K b->w'.heap[b]? =w.heap[b]?):aB K 2 dC w' v l:=by
 obtain⟨ao,c,rfl,n,p,j,q⟩:=h;have m:∀b o,K b->w'.cell? ⟨b,o,none⟩=w.cell? ⟨b,o,none⟩:=λb o d=>by unfold World.cell?;rw[show w'.heap[(⟨b,o,none⟩:Addr).block]? =w.heap[(⟨b,o,none⟩:Addr).block]? from i b d]
 refine⟨ao,c,rfl,n,p,λa r=>?_,λk d=>?_⟩
 ·obtain⟨k1,f,s⟩:=j a r
  exact⟨k1,f,by rw[i _ f];exact s⟩
 ·obtain⟨b,g,e,k1,f⟩:=q k d
  have d:=(j _ e).2.1;exact⟨b,g,e,(m b _ d).trans k1,(m b _ d).trans f⟩
def aB.below{K w v l}(h:aB K 2 dC w v l):aB (λb=>b<w.heap.size) 2 dC w v l:=by
 obtain⟨ao,c,rfl,i,j,m,n⟩:=h;refine⟨ao,c,rfl,i,j,λa o=>?_,λk p=>?_⟩
 ·obtain⟨k1,f,cs,e,F,g⟩:=m a o
  exact⟨k1,(Rx.1 g).1,cs,e,F,g⟩
 ·obtain⟨b,d,e,k1,f⟩:=n k p
  exact⟨b,d,e,k1,f⟩
def gI(rest:ByteArray):Option Pr2->ByteArray×ByteArray×Int
 |some p=>(p.1,p.2,p.1.size)
 |none=>(rest.extract 0 1,if(rest.data.toList.head?.any aX)then rest.extract 0 1 else⟨#[]⟩,0)
end Go.Proofs
namespace Go.Proofs
open Go.Tm Go.RowKit
section
variable (fs:Array Func)
def iG(t):(Qs fs).fieldsOf t=Tryz.prog.fieldsOf t:=by unfold Program.fieldsOf;rw[aH]
def Mx{t}(h:Tryz.prog.eqGuardType Tryz.prog.depth t=false):(Qs fs).eqGuardType (Qs fs).depth t=false:=by rw[lT,show(Qs fs).depth=Tryz.prog.depth from rfl];exact h
def qQ{t}(h:Tryz.prog.stoodInHeld t=false):(Qs fs).stoodInHeld t=false:=by rw[ep];exact h
def nE{t l}(h:Tryz.prog.underlying t=some (.struct l)):(Qs fs).underlying t=some (.struct ((Qs fs).fieldsOf t)):=by rw[iG,aH];unfold Program.fieldsOf;rw[h]
def uK:Tryz.prog.eqGuardType Tryz.prog.depth 86=false:=by kernel_rfl
def Gw:Tryz.prog.stoodInHeld 86=false:=by kernel_rfl
def My:Tryz.prog.eqGuardType Tryz.prog.depth 66=false:=by kernel_rfl
def Mz:Tryz.prog.stoodInHeld 66=false:=by kernel_rfl
def MA:Tryz.prog.eqGuardType Tryz.prog.depth 96=false:=by kernel_rfl
def MB:Tryz.prog.stoodInHeld 96=false:=by kernel_rfl
def BU(a b c x y z w):(binOp .eql 86 (.agg #[.int .i64 a,.int .i64 b,.int .i64 c]) (.agg #[.int .i64 x,.int .i64 y,.int .i64 z])).run (Qs fs) w=.ok (.bool (decide (a=x/\b=y/\c=z))) w:=by rw[run_eql_struct,run_equalIn_struct w _ 86 _ _ (nE fs Tryz.underlying86) (qQ fs Gw),iG,Program.fieldsOf,Tryz.underlying86];simp[go_sem];by_cases d:a=x<;>by_cases e:b=y<;>by_cases f:c=z<;>simp[d,e,f]
def yF(a b c x y z w):(binOp .neq 86 (.agg #[.int .i64 a,.int .i64 b,.int .i64 c]) (.agg #[.int .i64 x,.int .i64 y,.int .i64 z])).run (Qs fs) w=.ok (.bool (!decide (a=x/\b=y/\c=z))) w:=by rw[run_neq_struct,run_equalIn_struct w _ 86 _ _ (nE fs Tryz.underlying86) (qQ fs Gw),iG,Program.fieldsOf,Tryz.underlying86];simp[go_sem];by_cases d:a=x<;>by_cases e:b=y<;>by_cases f:c=z<;>simp[d,e,f]
def Hl(a b c x y z w):(binOp .neq 66 (.agg #[.int .i64 a,.int .i64 b,.int .i64 c]) (.agg #[.int .i64 x,.int .i64 y,.int .i64 z])).run (Qs fs) w=.ok (.bool (!decide (a=x/\b=y/\c=z))) w:=by rw[run_neq_struct,run_equalIn_struct w _ 66 _ _ (nE fs Tryz.underlying66) (qQ fs Mz),iG,Program.fieldsOf,Tryz.underlying66];simp[go_sem];by_cases d:a=x<;>by_cases e:b=y<;>by_cases f:c=z<;>simp[d,e,f]
def Hm(a b c x y z w):(binOp .neq 96 (.agg #[.int .i64 a,.int .i64 b,.int .u8 c]) (.agg #[.int .i64 x,.int .i64 y,.int .u8 z])).run (Qs fs) w=.ok (.bool (!decide (a=x/\b=y/\c=z))) w:=by rw[run_neq_struct,run_equalIn_struct w _ 96 _ _ (nE fs Tryz.underlying96) (qQ fs MB),iG,Program.fieldsOf,Tryz.underlying96];simp[go_sem];by_cases d:a=x<;>by_cases e:b=y<;>by_cases f:c=z<;>simp[d,e,f]
def iH{t}(h:Tryz.prog.eqGuardType Tryz.prog.depth t=false)(a x y xs b w):(eqGuard a t x y (.agg xs) (.agg b)).run (Qs fs) w=.ok () w:=run_eqGuard_agg w a t x y xs b (Mx fs h)
end
end Go.Proofs

import Derived.Test.YtaglpcmhopjebaaGreatDoorZ36
set_option linter.all false
set_option maxRecDepth 100000
set_option maxHeartbeats 20000000
namespace Go.Proofs
open Go.Tm Go.RowKit
variable {fs:Array Func} (L:bX fs)
def iP(w A B C g tb tc w1)(e:w1=((w.alloc (.cells A g)).alloc (.cells B tb)).alloc (.cells C tc)):ae w w1/\Below w.heap.size w w1/\
 (∀i v,A[i]? =some v->w1.cell? ⟨w.heap.size,i,none⟩=some v)/\(∀i v,B[i]? =some v->w1.cell? ⟨w.heap.size+1,i,none⟩=some v)/\(∀i v,C[i]? =some v->w1.cell? ⟨w.heap.size+1+1,i,none⟩=some v):=by
 obtain⟨c,a⟩:=ex (w.alloc (.cells A g));obtain⟨f,b⟩:=ex (c.alloc (.cells B tb));rw[<-a,<-b]at e;have j:ae f w1:=by rw[e];exact ae.alloc _ _
 have k:ae c w1:=(by rw[b];exact ae.alloc _ _:ae c f).trans j;have d:c.heap.size=w.heap.size+1:=by rw[a];simp
 have hsb:f.heap.size=w.heap.size+1+1:=by rw[b,<-d];simp
 refine⟨(by rw[a];exact ae.alloc _ _:ae w c).trans k,?_,λi v h=>k.cell (by rw[a];exact av w _ g i v h),λi v h=>j.cell (by rw[b,<-d];exact av c _ tb i v h),λi v h=>by rw[e,<-hsb];exact av f _ tc i v h⟩;rw[e,b,a];exact(((Below.refl _ w).alloc (Ro _) _).alloc (by simp) _).alloc (by simp;omega) _
def MI{K:Nat->Prop}{v0 v1 v2:Value}{t:Table}{m1 m2:Array Value}{one two:Mark}(w:World)(J:IsTable K w v0 v1 v2 t)(j:OkT t)(d:di K w m1 one)(f:di K w m2 two)(M:OkM one)(N:OkM two):
 Calls (Qs fs) 230 #[.agg #[v0,v1,v2],.agg m1,.agg m2] w λe w'=>e=.returned (.int .i64 (dL (aS t.aC one.word.data.toList) (aS t.aC two.word.data.toList)))/\Below w.heap.size w w':=by
 have e53:=e53 L;have Hd:=Hd L;obtain⟨W,rfl,X⟩:=d;obtain⟨Y,rfl,Z⟩:=f;obtain⟨w1,a⟩:=ex (((w.alloc (.cells #[v0,v1,v2] 100)).alloc (.cells #[.string one.name,.string one.word,W,.int .i64 one.day,.bool one.known] 38)).alloc (.cells #[.string two.name,.string two.word,Y,.int .i64 two.day,.bool two.known] 38));obtain⟨O,P,ct,Q,R⟩:=iP w _ _ _ _ _ _ w1 a;have k:=ct 0 _ rfl;have l:=ct 1 _ rfl;have m:=ct 2 _ rfl;have a1:=Q 1 _ rfl;have b1:=R 1 _ rfl;have S:=J.stays O;obtain⟨N0,n⟩:=ex (w.heap.size);obtain⟨N1,d⟩:=ex (w.heap.size+1);obtain⟨N2,f⟩:=ex (w.heap.size+1+1);rw[<-f]at b1;rw[<-d]at a1;rw[<-n]at k l m;have T:Hid (Below w.heap.size w w1):=P;have b:=dM j one.word.data.toList;have c:=dM j two.word.data.toList;rw[<-Lib.size_eq,<-bW]at b c;have o:∀(s:ByteArray),s.size<=16->∀x:aj w w1,Calls (Qs fs) 53 #[.agg #[v0,v1,v2],.string s] x.val λe w'=>e=.returned (.string (bs (aS t.aC s.data.toList)))/\∃y:aj w w1,w'=y.val:=λs hs x=>aj.calls (sO L s x.val (S.stays x.st).1 j.lets (by omega))
 have p:=o one.word M.word;have q:=o two.word N.word;have r:=M.word;have u:=N.word;obtain⟨A,v⟩:=ex (bs (aS t.aC one.word.data.toList));obtain⟨B,C⟩:=ex (bs (aS t.aC two.word.data.toList));have g:A.data.toList=aS t.aC one.word.data.toList:=by rw[v,dA]
 have h:B.data.toList=aS t.aC two.word.data.toList:=by rw[C,dA]
 rw[<-v]at b p;rw[<-C]at c q;have i:∀x:aj w w1,Calls (Qs fs) 231 #[.string A,.string B] x.val λe w'=>e=.returned (.int .i64 (dL A.data.toList B.data.toList))/\∃y:aj w w1,w'=y.val:=λx=>aj.calls (Ae L A B x.val (by omega) (by omega));rw[g,h]at i;obtain⟨z,U⟩:=ex (dL (aS t.aC one.word.data.toList) (aS t.aC two.word.data.toList));rw[<-U]at i⊢;have D:=λx:aj w w1=>x.cell k;have E:=λx:aj w w1=>x.cell l;have F:=λx:aj w w1=>x.cell m;have G:=λx:aj w w1=>x.cell a1;have H:=λx:aj w w1=>x.cell b1;clear v C g h U b c r u o S J X Z ct Q R O P;go_enter (n230 L),Tryz.ntmps230;go_upto_region 1 with fail;rw[<-a,<-f,<-d,<-n];clear a n d f;refine bj (w0:=w) (w1:=w1) (by kernel_rfl) (by kernel_rfl) (ae.refl _) T.out ?_;haveI I:Nonempty (aj w w1):=⟨⟨w1,ae.refl _,T.out⟩⟩
 repeat (go_big_quiet_step (first|(go_at_call 53;exact p _)|(go_at_call 53;exact q _)|(go_at_call 231;exact i _)))
 refine wpQuiet_nil ?_;rintro wx ⟨⟨_,Sx,V⟩,rfl⟩;have BX:Hid _:=V;clear p q i D E F G H I k l m a1 b1 V Sx;go_wp2;go_ret;exact⟨rfl,BX.out⟩
def MJ{K:Nat->Prop}{v0 v1 v2:Value}{t:Table}{m1 m2:Array Value}{one two:Mark}(w:World)(F:IsTable K w v0 v1 v2 t)(c:OkT t)(m:di K w m1 one)(n:di K w m2 two)(Z:OkM one)(o2:OkM two)(hm:ia w):
 Calls (Qs fs) 232 #[.agg #[v0,v1,v2],.agg m1,.agg m2] w λe w'=>e=.returned (.int .i64 (eV t one.word.data.toList two.word.data.toList t.aO.length))/\Below w.heap.size w w':=by
 have e64:=e64 L;have Hd:=Hd L;obtain⟨f1,rfl,r1⟩:=m;obtain⟨f2,rfl,r2⟩:=n;obtain⟨ao,G,rfl,H,I,_⟩:=id F.2.1;obtain⟨w1,d⟩:=ex (((w.alloc (.cells #[v0,.slice ao t.aO.length G,v2] 100)).alloc (.cells #[.string one.name,.string one.word,f1,.int .i64 one.day,.bool one.known] 38)).alloc (.cells #[.string two.name,.string two.word,f2,.int .i64 two.day,.bool two.known] 38));obtain⟨J,B1,ct,c1,c2⟩:=iP w _ _ _ _ _ _ w1 d;have u:=ct 0 _ rfl;have v:=ct 1 _ rfl;have C:=ct 2 _ rfl;have a1:=c1 1 _ rfl;have b1:=c2 1 _ rfl;have hT:=F.stays J;have hM:=hm.stays J;obtain⟨N0,M⟩:=ex (w.heap.size);obtain⟨N1,m⟩:=ex (w.heap.size+1);obtain⟨N2,n⟩:=ex (w.heap.size+1+1);rw[<-n]at b1;rw[<-m]at a1;rw[<-M]at u v C;have BW:Hid (Below w.heap.size w w1):=B1;have o:=Z.word;have p:=o2.word;have f:Hid (IsTable K w1 v0 (.slice ao t.aO.length G) v2 t/\ia w1/\OkT t/\t.aO.length<=3):=⟨hT,hM,c,c.ve⟩
 have aa:t.aO.length<=3:=c.ve;clear hT hM F hm r1 r2 ct c1 c2 J B1 c H I Z o2;go_enter (n232 L),Tryz.ntmps232;go_upto_region 1 with fail;rw[<-d,<-n,<-m,<-M];clear d M m n;go_wp2;go_loopw [7,13] (λs7 g wr=>∃j:Nat,j<=t.aO.length/\g=.int .i64 j/\s7=.int .i64 (eV t one.word.data.toList two.word.data.toList j)/\ae w1 wr/\Below w.heap.size w wr) (λs7 g _=>t.aO.length-(intOf g).toNat)
 case atStart=>exact⟨0,Rz _,rfl,rfl,ae.refl _,BW.out⟩
 case round=>
  obtain⟨j,hj,rfl,rfl,a,b⟩:=hrel;have D:Hid (ae w1 wr/\Below w.heap.size w wr):=⟨a,b⟩
  obtain h|hge:=Rv j t.aO.length
  ·have ab:(j:Int)<(t.aO.length:Int):=by omega
   have c:=f.out.2.2.1;have i:=lp c h one.word.data.toList;have k:=lp c h two.word.data.toList;rw[<-Lib.size_eq,<-bW]at i k;have N:∀(s:ByteArray),s.size<=16->∀x:aj w wr,Calls (Qs fs) 64 #[.agg #[v0,.slice ao t.aO.length G,v2],.int .i64 j,.string s] x.val λe w'=>e=.returned (.string (bs (bI t j s.data.toList)))/\∃y:aj w wr,w'=y.val:=λs hs x=>aj.calls (GC L j s x.val (f.out.1.stays (a.trans x.st)) c (by omega) h (f.out.2.1.stays (a.trans x.st)))
   have O:=N one.word o;have P:=N two.word p;have l:Hid _:=ko t one.word.data.toList two.word.data.toList j;have hsb:=hU t one.word.data.toList two.word.data.toList j;have Q:=jM (bI t j one.word.data.toList) (bI t j two.word.data.toList);obtain⟨A,R⟩:=ex (bs (bI t j one.word.data.toList));obtain⟨B,S⟩:=ex (bs (bI t j two.word.data.toList));have q:A.data.toList=bI t j one.word.data.toList:=by rw[R,dA]
   have r:B.data.toList=bI t j two.word.data.toList:=by rw[S,dA]
   rw[<-R]at i O;rw[<-S]at k P;have E:∀x:aj w wr,Calls (Qs fs) 231 #[.string A,.string B] x.val λe w'=>e=.returned (.int .i64 (dL A.data.toList B.data.toList))/\∃y:aj w wr,w'=y.val:=λx=>aj.calls (Ae L A B x.val (by omega) (by omega));rw[q,r]at E;obtain⟨z,hz⟩:=ex (dL (bI t j one.word.data.toList) (bI t j two.word.data.toList));rw[<-hz]at E l Q;obtain⟨y,hy⟩:=ex (eV t one.word.data.toList two.word.data.toList j);rw[<-hy]at l hsb⊢;have T:=λx:aj w wr=>x.cell (a.cell u);have U:=λx:aj w wr=>x.cell (a.cell v);have V:=λx:aj w wr=>x.cell (a.cell C);have W:=λx:aj w wr=>x.cell (a.cell a1);have X:=λx:aj w wr=>x.cell (a.cell b1);clear R S q r hz i k o p N u v C a1 b1 a b c hy;go_upto_region 5 with fail;refine bj (w0:=w) (w1:=wr) (by kernel_rfl) (by kernel_rfl) (ae.refl _) D.out.2 ?_;haveI Y:Nonempty (aj w wr):=⟨⟨wr,ae.refl _,D.out.2⟩⟩
   repeat (go_big_quiet_step (first|(go_at_call 64;exact O _)|(go_at_call 64;exact P _)|(go_at_call 231;exact E _)))
   refine wpQuiet_nil ?_;rintro wx ⟨⟨_,Sx,Bx⟩,rfl⟩;have BX:Hid _:=(⟨Sx,Bx⟩:ae wr wx/\Below w.heap.size w wx)
   clear O P E T U V W X Y Bx Sx;go_wp2;refine⟨⟨j+1,by omega,by go_num,?_,D.out.1.trans BX.out.1,BX.out.2⟩,by simp[intOf];omega⟩;rw[l.out]
  ·clear u v C a1 b1 a b
   obtain rfl:j=t.aO.length:=by omega
   go_wp2;go_ret;exact⟨rfl,D.out.2⟩
def Kf{K:Nat->Prop}{v:Value}{l:List ByteArray}(A B:ByteArray)(g h:Nat)(w:World)(i:w.cell? ⟨g,0,none⟩=some (.string A))(j:w.cell? ⟨h,0,none⟩=some (.string B))(a:aE K 1 kI w v l):
 Calls (Qs fs) 235 #[v,.pointer (some ⟨g,0,none⟩),.pointer (some ⟨h,0,none⟩)] w λe w'=>e=.returned (.bool ((l.any (λt=>decide (t=A)))&&(l.any (λt=>decide (t=B)))))/\w'=w:=by
 have Mi:=Mi L;have b:=pY L A w a;have d:=pY L B w a;cases f:l.any (λt=>decide (t=A))with
 |true=>
  rw[f]at b;obtain⟨z,c⟩:=ex (l.any (λt=>decide (t=B)));rw[<-c]at d⊢;clear f c a;go_enter (n235 L),Tryz.ntmps235;go_wp2_with (first|(go_at_call 109;refine b.mono ?_;clear b;rintro e w2 ⟨rfl,rfl⟩)|(go_at_call 109;refine d.mono ?_;clear d;rintro e w2 ⟨rfl,rfl⟩))
  go_ret;exact⟨rfl,rfl⟩
 |false=>
  rw[f]at b;clear f a d;go_enter (n235 L),Tryz.ntmps235;go_wp2_with (first|(go_at_call 109;refine b.mono ?_;clear b;rintro e w2 ⟨rfl,rfl⟩))
  go_ret;exact⟨rfl,rfl⟩
def Ax{K:Nat->Prop}{v:Value}{l:List (List ByteArray)}(A B:ByteArray)(p r:Nat)(w:World)(s:w.cell? ⟨p,0,none⟩=some (.string A))(u:w.cell? ⟨r,0,none⟩=some (.string B))(k:aE K 1 kj w v l):
 Calls (Qs fs) 242 #[v,.func (.func 235) #[] #[.pointer (some ⟨p,0,none⟩),.pointer (some ⟨r,0,none⟩)]] w λe w'=>(∃z:Int,e=.returned (.int .i64 z)/\decide (0<=z)=l.any (λg=>(g.any (λt=>decide (t=A)))&&(g.any (λt=>decide (t=B)))))/\w'=w:=by
 have PU:∀a w,(callFunc 235 a).run (Qs fs) w=.ok (.enter 235 a) w:=PU L;obtain⟨ao,O,rfl,E,F,_,c⟩:=k;have G:Hid _:=c;have H:Hid (w.cell? ⟨p,0,none⟩=some (.string A)/\w.cell? ⟨r,0,none⟩=some (.string B)):=⟨s,u⟩
 clear c;go_enter (n242 L),Tryz.ntmps242;go_wp2;go_loopw [8] (λz wr=>∃j:Nat,j<=l.length/\z=.int .i64 j/\wr=w/\∀i (m:i<l.length),i<j->((l[i].any (λt=>decide (t=A)))&&(l[i].any (λt=>decide (t=B))))=false) (λz _=>l.length-(intOf z).toNat)
 case atStart=>exact⟨0,Rz _,rfl,rfl,λi m h=>by omega⟩
 case round=>
  obtain⟨j,P,rfl,rfl,n⟩:=hrel;have D:Hid _:=n;clear n;obtain o|hge:=Rv j l.length
  ·obtain⟨b,I,rfl,Q,y,d⟩:=G.out j o
   rw[SK]at y;obtain⟨J,R,rfl,_⟩:=id d;have q:=Kf L A B p r wr s u d;have M:(j:Int)<(l.length:Int):=by omega
   have S:Hid _:=d;clear d s u;cases f:((l[j].any (λt=>decide (t=A)))&&(l[j].any (λt=>decide (t=B))))with
   |true=>
    rw[f]at q;have C:Hid _:=f;clear f;go_wp2_with (first|(go_at_fn 235;refine q.mono ?_;clear q;rintro e w3 ⟨rfl,rfl⟩))
    go_ret;refine⟨⟨(j:Int),rfl,?_⟩,rfl⟩;rw[Ry (by omega),Tt,S8];exact⟨l[j],RN o,C.out⟩
   |false=>
    rw[f]at q;have C:Hid _:=f;clear f;go_wp2_with (first|(go_at_fn 235;refine q.mono ?_;clear q;rintro e w3 ⟨rfl,rfl⟩))
    refine⟨⟨j+1,by omega,by go_num,trivial,λi m N=>?_⟩,by simp[intOf];omega⟩;by_cases h:i<j
    ·exact D.out i m h
    ·obtain rfl:i=j:=by omega
     exact C.out
  ·clear s u
   go_wp2;go_ret;refine⟨⟨-1,rfl,?_⟩,rfl⟩;rw[Rr (by decide),Tt,TY];intro x d;obtain⟨i,m,rfl⟩:=Ty.1 d;rw[D.out i m (by omega)];exact TZ
def uz{K:Nat->Prop}{v:Value}{l:List (List ByteArray)}(A B:ByteArray)(b c:Nat)(w:World)(d:w.cell? ⟨b,0,none⟩=some (.string A))(f:w.cell? ⟨c,0,none⟩=some (.string B))(a:aE K 1 kj w v l):
 Calls (Qs fs) 234 #[v,.func (.func 235) #[] #[.pointer (some ⟨b,0,none⟩),.pointer (some ⟨c,0,none⟩)]] w λe w'=>e=.returned (.bool (l.any (λg=>(g.any (λt=>decide (t=A)))&&(g.any (λt=>decide (t=B))))))/\w'=w:=by
 have PX:=PX L;have q:=Ax L A B b c w d f a;obtain⟨y,h⟩:=ex (l.any (λg=>(g.any (λt=>decide (t=A)))&&(g.any (λt=>decide (t=B)))));rw[<-h]at q⊢;clear h a d f;go_enter (n234 L),Tryz.ntmps234;go_wp2_with (first|(go_at_call 242;refine q.mono ?_;clear q;rintro e w2 ⟨⟨z,rfl,i⟩,rfl⟩))
 go_ret;exact⟨by rw[<-i];rfl,rfl⟩
def Kg(a b:ByteArray):(a.data.toList==b.data.toList)=decide (a=b):=by
 by_cases h:a=b
 ·subst h;simp
 ·rw[Rr h,RV]
  exactλe=>h (pQ e)
def Ii(t A B):gy t A.data.toList B.data.toList=if(t.iB.any λg=>(g.any λs=>decide (s=A))&&(g.any λs=>decide (s=B)))||(decide (A=B)&& !A.toList.isEmpty)then 100 else 0:=by unfold gy;simp only[Kg,Lib.toList_data]
def ML{K:Nat->Prop}{v0 v1 v2:Value}{t:Table}{m1 m2:Array Value}{one two:Mark}(w:World)(ht:IsTable K w v0 v1 v2 t)(ok:OkT t)(h1:di K w m1 one)(h2:di K w m2 two)(o1:OkM one)(o2:OkM two):
 Calls (Qs fs) 233 #[.agg #[v0,v1,v2],.agg m1,.agg m2] w λe w'=>e=.returned (.int .i64 (gy t (aS t.aC one.word.data.toList) (aS t.aC two.word.data.toList)))/\Below w.heap.size w w':=by
 have e53:=e53 L;have PT:=PT L;obtain⟨f1,rfl,r1⟩:=h1;obtain⟨f2,rfl,r2⟩:=h2;obtain⟨w1,S⟩:=ex (((w.alloc (.cells #[v0,v1,v2] 100)).alloc (.cells #[.string one.name,.string one.word,f1,.int .i64 one.day,.bool one.known] 38)).alloc (.cells #[.string two.name,.string two.word,f2,.int .i64 two.day,.bool two.known] 38));obtain⟨S1,B1,ct,c1,c2⟩:=iP w _ _ _ _ _ _ w1 S;have t0:=ct 0 _ rfl;have t1:=ct 1 _ rfl;have t2:=ct 2 _ rfl;have a1:=c1 1 _ rfl;have b1:=c2 1 _ rfl;have hT:=ht.stays S1;obtain⟨N0,h0⟩:=ex (w.heap.size);obtain⟨N1,h1⟩:=ex (w.heap.size+1);obtain⟨N2,h2⟩:=ex (w.heap.size+1+1);rw[<-h2]at b1;rw[<-h1]at a1;rw[<-h0]at t0 t1 t2;have BW:Hid (Below w.heap.size w w1):=B1;have T:w.heap.size<=w1.heap.size:=B1.size;have cB:∀(s:ByteArray),s.size<=16->∀v,ae w1 v->Calls (Qs fs) 53 #[.agg #[v0,v1,v2],.string s] v λe w'=>e=.returned (.string (bs (aS t.aC s.data.toList)))/\Below v.heap.size v w':=λs hs v hx=>sO L s v (hT.stays hx).1 ok.lets (by omega);have q1:=cB one.word o1.word;have q2:=cB two.word o2.word;obtain⟨A,n⟩:=ex (bs (aS t.aC one.word.data.toList));obtain⟨B,hB⟩:=ex (bs (aS t.aC two.word.data.toList));rw[<-n]at q1;rw[<-hB]at q2;have aa:Hid (A.data.toList=aS t.aC one.word.data.toList/\B.data.toList=aS t.aC two.word.data.toList):=⟨by rw[n,dA],by rw[hB,dA]⟩
 have HT:Hid _:=hT;clear cB n hB hT ht r1 r2 ct c1 c2 S1 B1 ok o1 o2;go_enter (n233 L),Tryz.ntmps233;go_upto_region 1 with fail;rw[<-S,<-h2,<-h1,<-h0];clear S h0 h1 h2;go_cut [7,8]from 10 (λs7 s8 v=>∃X Y,s7=.pointer (some ⟨X,0,none⟩)/\s8=.pointer (some ⟨Y,0,none⟩)/\v.cell? ⟨X,0,none⟩=some (.string A)/\v.cell? ⟨Y,0,none⟩=some (.string B)/\ae w1 v/\Below w.heap.size w v)
 case first=>
  refine wp_region_any (by kernel_rfl) ?_;refine jZ (I:=λs a W=>∃x7 x8 y C E F G H J M:Value,a=⟨#[.agg #[v0,v1,v2],.agg #[.string one.name,.string one.word,f1,.int .i64 one.day,.bool one.known],.agg #[.string two.name,.string two.word,f2,.int .i64 two.day,.bool two.known],.pointer (some ⟨N0,0,none⟩),.pointer (some ⟨N1,0,none⟩),.pointer (some ⟨N2,0,none⟩),.int .i64 0,x7,x8,undef,y,C,E,F,G,H,J,M,undef,undef,undef,undef,undef,undef,undef,undef,undef,undef,undef,undef,undef,undef,undef],[]⟩/\ae w1 W/\Below w.heap.size w W/\Agr s 0 [y,C,E,F,G,H,J,M] [.agg #[v0,v1,v2],.pointer (some ⟨N1,1,none⟩),.string one.word,.string A,.agg #[v0,v1,v2],.pointer (some ⟨N2,1,none⟩),.string two.word,.string B]/\(s.getD 8 false=true->∃X,x7=.pointer (some ⟨X,0,none⟩)/\fS w1 W 9 X/\(s.getD 10 false=true->W.cell? ⟨X,0,none⟩=some (.string A)))/\(s.getD 9 false=true->∃Y,x8=.pointer (some ⟨Y,0,none⟩)/\fS w1 W 9 Y/\(s.getD 11 false=true->W.cell? ⟨Y,0,none⟩=some (.string B)))/\(s.getD 8 false=true->s.getD 9 false=true->x7≠x8)/\(s.getD 10 false=true->s.getD 8 false=true)/\(s.getD 11 false=true->s.getD 9 false=true)/\s.size=12/\w1.heap.size<=W.heap.size) ?step ?fin _ _ _ _ (by simp) ?start;case start=>exact⟨_,_,_,_,_,_,_,_,_,_,rfl,ae.refl w1,BW.out.drew,Agr.start rfl,by simp⟩
  case fin=>rintro s a W ⟨x7,x8,y,C,E,F,G,H,J,M,rfl,b,d,n,N,O,kd,ke,R,j,l⟩ hr;have D:=λk (hk:k<12)=>CI j (by kernel_rfl) hr (k+1) k (To k) hk;obtain⟨X,rfl,_,hX⟩:=N (D 8 (by decide));obtain⟨Y,rfl,_,hY⟩:=O (D 9 (by decide));have ak:=hX (D 10 (by decide));have al:=hY (D 11 (by decide));clear D n N O kd ke R;go_wp2;go_meet;exact⟨X,Y,rfl,rfl,ak,al,b,d⟩
  case step=>
   rintro s a W i ⟨x7,x8,y,C,E,F,G,H,J,M,rfl,b,d,n,N,O,kd,ke,R,j,l⟩ hr;obtain⟨ab,o,ho,r⟩:=mem_ready.1 hr;have hi:i<12:=(Rx.1 ho).1;clear hr;obtain rfl|rfl|rfl|rfl|rfl|rfl|rfl|rfl|rfl|rfl|rfl|rfl:i=8\/i=9\/i=10\/i=11\/i=3\/i=7\/i=0\/i=1\/i=2\/i=4\/i=5\/i=6:=by omega
   all_goals
    obtain rfl:=RS ho;clear ho hi
    (try (have e:=n.dep r 0 rfl rfl;(conv at e=>lhs;whnf);(conv at e=>rhs;whnf);subst e))
    (try (have e:=n.dep r 1 rfl rfl;(conv at e=>lhs;whnf);(conv at e=>rhs;whnf);subst e))
    refine wpOp_step rfl λK' ad=>?_;have V:Hid (∀a w,_->K' a w):=ad;clear ad
   ·go_simp
    refine V.out _ _ ⟨_,_,_,_,_,_,_,_,_,_,rfl,(b.trans (ae.alloc _ _)),(d.alloc d.size _),n.set _,
     (λh=>⟨_,rfl,fS.new l _,λc=>absurd (ke (aL c (by decide))) (fK ab)⟩),
     (λh=>by
     obtain⟨Y,e1,f,e3⟩:=O (aL h (by decide));exact⟨Y,e1,f.stays (ae.alloc _ _),λc=>(ae.alloc _ _).cell (e3 (aL c (by decide)))⟩),
     (λh c=>by
     obtain⟨Y,e1,f,e3⟩:=O (aL c (by decide));rw[e1];intro e;cases e;have:=f.lt;omega),
     (λh=>bc (ke (aL h (by decide)))),(λh=>bc (R (aL h (by decide)))),by rw[RZ];exact j,(by simp;omega)⟩
   ·go_simp
    refine V.out _ _ ⟨_,_,_,_,_,_,_,_,_,_,rfl,(b.trans (ae.alloc _ _)),(d.alloc d.size _),n.set _,
     (λh=>by
     obtain⟨X,e1,f,e3⟩:=N (aL h (by decide));exact⟨X,e1,f.stays (ae.alloc _ _),λc=>(ae.alloc _ _).cell (e3 (aL c (by decide)))⟩),
     (λh=>⟨_,rfl,fS.new l _,λc=>absurd (R (aL c (by decide))) (fK ab)⟩),
     (λh c=>by
     obtain⟨Y,e1,f,e3⟩:=N (aL h (by decide));rw[e1];intro e;cases e;have:=f.lt;omega),
     (λh=>bc (ke (aL h (by decide)))),(λh=>bc (R (aL h (by decide)))),by rw[RZ];exact j,(by simp;omega)⟩
   ·have d8:=r ⟨8,.data⟩ (by simp) rfl
    obtain⟨B0,rfl,x,_⟩:=N d8;obtain⟨cv,U⟩:=x.cell;have an:=x.frozen;go_simp;refine V.out _ _ ⟨_,_,_,_,_,_,_,_,_,_,rfl,(ae.vG b x.1 _),(d.setCell (p:=⟨B0,0,none⟩) (Rp T x.1) _),n.set _,
     (λh=>⟨B0,rfl,x.set,λ_=>World.cell?_setCell_same' _ _ _ (by rw[U];rfl)⟩),
     (λh=>by
     have hh:=aL h (by decide);obtain⟨Y,e1,f,e3⟩:=O hh;have u:Y≠B0:=λe=>kd d8 hh (by rw[e1,e]);exact⟨Y,e1,f.other u,λc=>(dj (Below.heap_setCell W ⟨B0,0,none⟩ _ Y u)).trans (e3 (aL c (by decide)))⟩),
     (λh c=>kd (aL h (by decide)) (aL c (by decide))),
     (λ_=>bc d8),(λh=>bc (R (aL h (by decide)))),by rw[RZ];exact j,(by simp[World.setCell];exact l)⟩
   ·have d9:=r ⟨9,.data⟩ (by simp) rfl
    obtain⟨B0,rfl,x,_⟩:=O d9;obtain⟨cv,U⟩:=x.cell;have an:=x.frozen;go_simp;refine V.out _ _ ⟨_,_,_,_,_,_,_,_,_,_,rfl,(ae.vG b x.1 _),(d.setCell (p:=⟨B0,0,none⟩) (Rp T x.1) _),n.set _,
     (λh=>by
     have hh:=aL h (by decide);obtain⟨Y,e1,f,e3⟩:=N hh;have u:Y≠B0:=λe=>kd hh d9 (by rw[e1,e]);exact⟨Y,e1,f.other u,λc=>(dj (Below.heap_setCell W ⟨B0,0,none⟩ _ Y u)).trans (e3 (aL c (by decide)))⟩),
     (λh=>⟨B0,rfl,x.set,λ_=>World.cell?_setCell_same' _ _ _ (by rw[U];rfl)⟩),
     (λh c=>kd (aL h (by decide)) (aL c (by decide))),
     (λh=>bc (ke (aL h (by decide)))),(λ_=>bc d9),by rw[RZ];exact j,(by simp[World.setCell];exact l)⟩
   iterate 2
    have p1:=q1 W b;have p2:=q2 W b;go_simp;go_at_call 53
    first|refine p1.mono ?_|refine p2.mono ?_
    rintro e w4 ⟨rfl,m⟩;dsimp only;refine V.out _ _ ⟨_,_,_,_,_,_,_,_,_,_,rfl,(b.trans (ae.below m)),(d.trans (m.mono d.size)),n.set _,
     (λh=>by
     obtain⟨X,e1,f,e3⟩:=N (aL h (by decide));exact⟨X,e1,f.stays (ae.below m),λc=>(ae.below m).cell (e3 (aL c (by decide)))⟩),
     (λh=>by
     obtain⟨Y,e1,f,e3⟩:=O (aL h (by decide));exact⟨Y,e1,f.stays (ae.below m),λc=>(ae.below m).cell (e3 (aL c (by decide)))⟩),
     (λh c=>kd (aL h (by decide)) (aL c (by decide))),
     (λh=>bc (ke (aL h (by decide)))),(λh=>bc (R (aL h (by decide)))),by rw[RZ];exact j,Rp l m.size⟩
   all_goals
    have c0:=b.cell t0;have c1:=b.cell t1;have c2:=b.cell t2;have c3:=b.cell a1;have c4:=b.cell b1;go_simp;refine V.out _ _ ⟨_,_,_,_,_,_,_,_,_,_,rfl,b,d,n.set _,
     (λh=>by
     obtain⟨X,e1,f,e3⟩:=N (aL h (by decide));exact⟨X,e1,f,λc=>e3 (aL c (by decide))⟩),
     (λh=>by
     obtain⟨Y,e1,f,e3⟩:=O (aL h (by decide));exact⟨Y,e1,f,λc=>e3 (aL c (by decide))⟩),
     (λh c=>kd (aL h (by decide)) (aL c (by decide))),
     (λh=>bc (ke (aL h (by decide)))),(λh=>bc (R (aL h (by decide)))),by rw[RZ];exact j,l⟩
 case rest=>
  obtain⟨X,Y,rfl,rfl,hX,hY,Sx,Bx⟩:=hcut;have ao:=Sx.cell t2;have af:=IsTable.stays Sx HT.out;have q:=uz L A B X Y wc hX hY af.2.2;have Z:Hid _:=Ii t A B;have ar:∀(fn:Fn) (first cap:Array Value) (w:World),(Instr.makeFunc fn first cap).run (Qs fs) w=.ok (.func fn first cap) w:=λ_ _ _ _=>rfl;obtain⟨z,hz⟩:=ex (t.iB.any λg=>(g.any λs=>decide (s=A))&&(g.any λs=>decide (s=B)));rw[<-hz]at q Z;rw[aa.out.1,aa.out.2]at Z;have P:Hid _:=Bx;clear hz af HT q1 q2 t0 t1 t2 a1 b1 Sx Bx T;cases z with
  |true=>
   have HV:Hid (gy t (aS t.aC one.word.data.toList) (aS t.aC two.word.data.toList)=100):=by rw[Hid,Z.out];simp
   go_wp2_with (first|(go_at_call 234;refine q.mono ?_;clear q;rintro e w3 ⟨rfl,rfl⟩))
   go_ret;exact⟨by rw[HV.out];rfl,P.out⟩
  |false=>
   by_cases Q:A=B
   ·subst Q
    cases ag:A.toList.isEmpty with
    |true=>
     have HV:Hid (gy t (aS t.aC one.word.data.toList) (aS t.aC two.word.data.toList)=0):=by rw[Hid,Z.out,ag];simp
     go_wp2_with (first|(go_at_call 234;refine q.mono ?_;clear q;rintro e w3 ⟨rfl,rfl⟩))
     go_ret;exact⟨by rw[HV.out];rfl,P.out⟩
    |false=>
     have HV:Hid (gy t (aS t.aC one.word.data.toList) (aS t.aC two.word.data.toList)=100):=by rw[Hid,Z.out,ag];simp
     go_wp2_with (first|(go_at_call 234;refine q.mono ?_;clear q;rintro e w3 ⟨rfl,rfl⟩))
     go_ret;exact⟨by rw[HV.out];rfl,P.out⟩
   ·have HV:Hid (gy t (aS t.aC one.word.data.toList) (aS t.aC two.word.data.toList)=0):=by rw[Hid,Z.out,Rr Q];simp
    have u:(A.toList==B.toList)=false:=by rw[RV,Lib.toList_data,Lib.toList_data];exactλe=>Q (pQ e)
    clear Q;go_wp2_with (first|(go_at_call 234;refine q.mono ?_;clear q;rintro e w3 ⟨rfl,rfl⟩))
    go_ret;exact⟨by rw[HV.out];rfl,P.out⟩
def gV(w:World)(g n:Nat)(f:Nat->UInt8):Prop:=∃c F,w.heap[g]? =some (.cells c 5 F)/\n<=F.1/\∀j,j<n->c[j]? =some (.int .u8 ((f j).toNat:Int))
def gV.cell{w g n f}(h:gV w g n f){j}(a:j<n):w.cell? ⟨g,j,none⟩=some (.int .u8 ((f j).toNat:Int)):=by obtain⟨c,F,b,_,d⟩:=h;exact cell_of_heap b j _ (d j a)
def gV.frozen{w g n f}(h:gV w g n f){j}(b:j<n):w.frozen? ⟨g,j,none⟩=false:=by obtain⟨c,F,a,d,_⟩:=h;unfold World.frozen?;simp only[a];have:decide (F.1<=j)=false:=Rr (by omega);rw[this];rfl
def gV.congr{w g n}{f f':Nat->UInt8}(h:gV w g n f)(e:∀j,j<n->f j=f' j):gV w g n f':=by obtain⟨c,F,b,d,i⟩:=h;exact⟨c,F,b,d,λj a=>by rw[<-e j a];exact i j a⟩
def gV.set{w g n f}(h:gV w g n f){i}(x):gV (w.setCell ⟨g,i,none⟩ (.int .u8 (x.toNat:Int))) g n (λj=>if j=i then x else f j):=by
 obtain⟨c,F,b,d,k⟩:=h;refine⟨c.setIfInBounds i (.int .u8 (x.toNat:Int)),F,?_,d,λj l=>?_⟩
 ·have m:(w.heap.modify g λo=>match o with| .cells c e F=>.cells (c.setIfInBounds i (.int .u8 (x.toNat:Int))) e F|o=>o)[g]? =some (.cells (c.setIfInBounds i (.int .u8 (x.toNat:Int))) 5 F):=by rw[SF,b];simp
  exact m
 ·have a:=k j l
  have p:=(Rx.1 a).1;by_cases e:j=i
  ·subst e
   show(c.setIfInBounds j _)[j]? =some (.int .u8 ((if j=j then x else f j).toNat:Int));rw[Rn rfl,UZ p]
  ·show(c.setIfInBounds i _)[j]? =some (.int .u8 ((if j=i then x else f j).toNat:Int))
   rw[Rm e,RG (RJ e)];exact a
def gV.of_block{w w' g n f}(h:gV w g n f)(e:w'.heap[g]? =w.heap[g]?):gV w' g n f:=by obtain⟨c,F,a,b,d⟩:=h;exact⟨c,F,by rw[e];exact a,b,d⟩
def gV.stays{w w' g n f}(h:gV w g n f)(a:ae w w'):gV w' g n f:=by obtain⟨c,F,b,d,e⟩:=h;exact⟨c,F,a _ _ _ _ b,d,e⟩
def pZ(s:ByteArray)(j:Nat):UInt8:=s.data.toList.getD j 0
def Ij{s j}(a:j<s.size):pZ s j=s[j]:=by unfold pZ;rw[T8,Lib.data_getElem? s j a];rfl
def MM(fs s w):∃cap w',(convert 9 120 (.string s)).run (Qs fs) w=.ok (.slice (some ⟨w.heap.size,0,none⟩) s.size cap) w'/\s.size<=cap/\gV w' w.heap.size s.size (pZ s)/\Below w.heap.size w w':=by
 have h:=run_bytes_of_string (P:=Qs fs) w 9 120 5 s (by rw[aH];exact Tryz.underlying9) (by rw[aH];exact Tryz.underlying120) (by rw[aH];exact Tryz.underlying5);refine⟨_,_,h,grownCap_ge _ _ _ _,⟨_,_,R8,?_,λj a=>?_⟩,(Below.refl _ _).drew.alloc (Ro _) _⟩
 ·show s.size<=(bytesRow s _).size
  unfold bytesRow;rw[Array.size_append,TS];exact Nat.le_add_right _ _
 ·rw[bytesRow_at s _ j a,Ij a]
  rfl
def MN(fs){w g n cap f}(h:gV w g n f):(convert 120 9 (.slice (some ⟨g,0,none⟩) n cap)).run (Qs fs) w=.ok (.string (bs ((List.range n).map f))) w:=by
 have a:((List.range n).map f).length=n:=by simp
 have c:=run_convert_bytes_back (P:=Qs fs) w 120 9 5 ⟨g,0,none⟩ cap ((List.range n).map f) (by rw[aH];exact Tryz.underlying120) (by rw[aH];exact Tryz.underlying5) (by rw[aH];exact Tryz.underlying9) (λj b=>by rw[de,RA,Ub,U3];exact h.cell (by omega))
 rw[a]at c;exact c
def nL(f:Nat->UInt8)(n i k:Nat):UInt8:=if k<i\/n<=k+i then f (n-1-k)else f k
def Ik(g n cap:Nat)(f:Nat->UInt8)(w:World)(o:gV w g n f)(K:n<=1000000)(p:n<=cap):
 Calls (Qs fs) 237 #[.slice (some ⟨g,0,none⟩) n cap] w λe w'=>e=.returned (.tuple #[])/\gV w' g n (λk=>f (n-1-k))/\Stp w.heap.size g w w':=by
 have B:Hid _:=o;clear o;go_enter (n237 L),Tryz.ntmps237;go_wp2;go_loopw [2,3] (λd C wr=>∃(i:Nat) (j:Int),d=.int .i64 i/\C=.int .i64 j/\j=(n:Int)-1-i/\i<=n/\gV wr g n (nL f n i)/\Stp w.heap.size g w wr) (λd _ _=>n-(intOf d).toNat)
 case atStart=>refine⟨0,_,rfl,rfl,by omega,Rz _,gV.congr B.out λj h=>?_,Stp.refl _ _ _⟩;unfold nL;rw[Rm (by omega)]
 case round=>
  obtain⟨i,j,rfl,rfl,h,M,a,b⟩:=hrel;have c:Hid (gV wr g n (nL f n i)/\Stp w.heap.size g w wr):=⟨a,b⟩
  by_cases D:(i:Int)<j
  ·obtain⟨q,rfl⟩:∃q:Nat,j=q:=⟨j.toNat,by omega⟩
   have r:=a.cell (show i<n by omega);have s:=a.cell (show q<n by omega);have N:=a.frozen (show i<n by omega);have O:=a.frozen (show q<n by omega);have t:nL f n i i=f i:=by unfold nL;rw[Rm (by omega)]
   have eq:nL f n i q=f q:=by unfold nL;rw[Rm (by omega)]
   rw[t]at r;rw[eq]at s;have E:i≠q:=by omega
   have F:(i:Int)<(n:Int):=by omega
   have G:(q:Int)<(n:Int):=by omega
   have H:Hid ((q:Int)=(n:Int)-1-i):=h;obtain⟨x,l⟩:=ex (f i);obtain⟨y,m⟩:=ex (f q);rw[<-l]at r;rw[<-m]at s;have u:Hid (x=f i/\y=f q):=⟨l,m⟩
   clear a b l m t eq h;go_wp2
   go_region
   go_wp2;have I:=H.out;refine⟨⟨i+1,(q:Int)-1,by go_num,rfl,by omega,by omega,?_,?_⟩,by simp[intOf];omega⟩
   ·refine gV.congr (gV.of_block (gV.set (i:=q) (gV.set (i:=i) c.out.1 y) x) rfl) λk J=>?_
    show(if k=q then x else if k=i then y else nL f n i k)=nL f n (i+1) k;unfold nL;by_cases v:k=q
    ·rw[Rn v,Rn (by omega),u.out.1]
     congr 1;omega
    ·rw[Rm v]
     by_cases z:k=i
     ·rw[Rn z,Rn (by omega),u.out.2]
      congr 1;omega
     ·rw[Rm z]
      by_cases A:k<i\/n<=k+i
      ·rw[Rn A,Rn (by omega)]
      ·rw[Rm A,Rm (by omega)]
   ·exact(c.out.2.trans ((Stp.setCell wr i _).trans (Stp.setCell _ q _))).trans ⟨rfl,rfl,rfl,Ro _,λ_ _ _=>rfl⟩
  ·clear a b
   go_wp2
   go_end0
   refine⟨rfl,gV.congr c.out.1 λk J=>?_,c.out.2⟩;unfold nL;split
   ·rfl
   ·congr 1;omega
def Fa(B):(List.range B.size).map (λk=>pZ B (B.size-1-k))=B.data.toList.reverse:=by
 refine UW (by rw[SH,U4,Ui,Lib.size_eq]) λi b c=>?_;rw[Ub,U3,List.getElem_reverse];have d:i<B.size:=by simpa using b
 have a:B.size-1-i<B.data.toList.length:=by rw[<-Lib.size_eq];omega
 unfold pZ;rw[T8,Sn a,Td]
 congr 1
def MO{K:Nat->Prop}{v0 v1 v2:Value}{t:Table}{m1 m2:Array Value}{one two:Mark}(w:World)(ht:IsTable K w v0 v1 v2 t)(D:OkT t)(u:di K w m1 one)(v:di K w m2 two)(o1:OkM one)(o2:OkM two):
 Calls (Qs fs) 236 #[.agg #[v0,v1,v2],.agg m1,.agg m2] w λe w'=>e=.returned (.int .i64 (dL (aS t.aC one.word.data.toList) (aS t.aC two.word.data.toList).reverse))/\Below w.heap.size w w':=by
 have e53:=e53 L;have Hd:=Hd L;have PV:=PV L;obtain⟨f1,rfl,r1⟩:=u;obtain⟨f2,rfl,r2⟩:=v;obtain⟨w1,g⟩:=ex (((w.alloc (.cells #[v0,v1,v2] 100)).alloc (.cells #[.string one.name,.string one.word,f1,.int .i64 one.day,.bool one.known] 38)).alloc (.cells #[.string two.name,.string two.word,f2,.int .i64 two.day,.bool two.known] 38));obtain⟨S1,Q,ct,c1,c2⟩:=iP w _ _ _ _ _ _ w1 g;have R:=ct 0 _ rfl;have S:=ct 1 _ rfl;have T:=ct 2 _ rfl;have a1:=c1 1 _ rfl;have b1:=c2 1 _ rfl;have j:w1.heap.size=w.heap.size+3:=by rw[g];simp
 have c:=ht.1.below;obtain⟨N0,J⟩:=ex (w.heap.size);obtain⟨N1,u⟩:=ex (w.heap.size+1);obtain⟨N2,v⟩:=ex (w.heap.size+1+1);rw[<-v]at b1;rw[<-u]at a1;rw[<-J]at R S T;have BW:Hid (Below w.heap.size w w1):=Q;have C:Hid (N0=w.heap.size/\N1=w.heap.size+1/\N2=w.heap.size+1+1/\w1.heap.size=w.heap.size+3):=⟨J,u,v,j⟩
 have al:Hid (aE (λb=>b<w.heap.size) 2 dH w v0 t.aC):=c;have l:Hid (∀M,(∀b,b<w.heap.size->M.heap[b]? =w.heap[b]?)->aE (λb=>b<w.heap.size) 2 dH M v0 t.aC):=λM h=>c.blocks h;have r:=dM D one.word.data.toList;have s:=dM D two.word.data.toList;rw[<-Lib.size_eq,<-bW]at r s;have U:=o1.word;have V:=o2.word;have HO:Hid (∀p∈t.aC,1<=p.1.size/\p.1.size<=4/\p.2.size<=3):=D.lets;have W:=sO L (v1:=v1) (v2:=v2) two.word w1 (l.out w1 λb E=>Q.block b E) D.lets (by omega);obtain⟨A,N⟩:=ex (bs (aS t.aC one.word.data.toList));obtain⟨B,X⟩:=ex (bs (aS t.aC two.word.data.toList));have F:A.data.toList=aS t.aC one.word.data.toList:=by rw[N,dA]
 have G:B.data.toList=aS t.aC two.word.data.toList:=by rw[X,dA]
 rw[<-N]at r;rw[<-X]at s W;have i:Hid (A.data.toList=aS t.aC one.word.data.toList/\B.data.toList=aS t.aC two.word.data.toList/\A=bs (aS t.aC one.word.data.toList)):=⟨F,G,N⟩
 have O:Hid (A.size<=48/\B.size<=48/\one.word.size<=16):=⟨by omega,by omega,by omega⟩
 clear N X F G r s U V ht r1 r2 ct c1 c2 S1 Q D o1 o2 c j;go_enter (n236 L),Tryz.ntmps236;go_upto_region 1 with fail;rw[<-g,<-v,<-u,<-J];clear g J u v;go_upto_region 3 with(first|(go_at_call 53;refine W.mono ?_;clear W;rintro e w2 ⟨rfl,d⟩;obtain⟨cap,w3,Y,m,n,f⟩:=MM fs B w2)|(go_at_call 237;refine(Ik L w2.heap.size B.size cap (pZ B) w3 n (by have:=O.out;omega) m).mono ?_;clear Y;rintro e w4 ⟨rfl,o,a⟩))
 have H:Hid (∀b,b<w.heap.size+3->w4.heap[b]? =w1.heap[b]?):=λb E=>by have s1:=C.out.2.2.2;have s2:=d.size;have s3:=f.size;rw[a.block b (by omega) (by omega),f.block b (by omega),d.block b (by omega)]
 have I:Hid (Below w.heap.size w w4):=by have s1:=C.out.2.2.2;have s2:=d.size;exact(BW.out.trans ((d.mono (by omega)).trans (f.mono (by omega)))).trans ⟨a.os,a.tape,a.output,a.size,λb E=>a.block b (by have:=f.size;omega) (by omega)⟩
 have Z:Hid (gV w4 w2.heap.size B.size (λk=>pZ B (B.size-1-k))):=o;have aa:=λx:aj w w4=>x.cell ((dj (H.out N0 (by have:=C.out;omega))).trans R);have ab:=λx:aj w w4=>x.cell ((dj (H.out N0 (by have:=C.out;omega))).trans S);have ad:=λx:aj w w4=>x.cell ((dj (H.out N0 (by have:=C.out;omega))).trans T);have af:=λx:aj w w4=>x.cell ((dj (H.out N1 (by have:=C.out;omega))).trans a1);have q1:∀x:aj w w4,Calls (Qs fs) 53 #[.agg #[v0,v1,v2],.string one.word] x.val λe w'=>e=.returned (.string A)/\∃y:aj w w4,w'=y.val:=λx=>by rw[i.out.2.2];exact aj.calls (sO L one.word x.val ((l.out w4 λb E=>(H.out b (by omega)).trans (BW.out.block b E)).yT x.st) HO.out (by have:=O.out;omega))
 have q:∀x:aj w w4,(convert 120 9 (.slice (some ⟨w2.heap.size,0,none⟩) B.size cap)).run (Qs fs) x.val=.ok (.string (bs B.data.toList.reverse)) x.val:=λx=>by have h:=MN fs (cap:=cap) (gV.stays Z.out x.st);rw[Fa]at h;exact h
 have P:∀x:aj w w4,Calls (Qs fs) 231 #[.string A,.string (bs B.data.toList.reverse)] x.val λe w'=>e=.returned (.int .i64 (dL A.data.toList (bs B.data.toList.reverse).data.toList))/\∃y:aj w w4,w'=y.val:=λx=>aj.calls (Ae L A _ x.val O.out.1 (by rw[bW,Ui,<-Lib.size_eq];exact O.out.2.1))
 rw[dA,i.out.1,i.out.2.1]at P;rw[i.out.2.1]at q;obtain⟨z,hz⟩:=ex (dL (aS t.aC one.word.data.toList) (aS t.aC two.word.data.toList).reverse);rw[<-hz]at P;have ag:Hid _:=hz;clear hz d f a o n R S T a1 b1 m;refine bj (w0:=w) (w1:=w4) (by kernel_rfl) (by kernel_rfl) (ae.refl _) I.out ?_;haveI ak:Nonempty (aj w w4):=⟨⟨w4,ae.refl _,I.out⟩⟩
 repeat (go_big_quiet_step (first|(go_at_call 53;exact q1 _)|(go_at_call 231;exact P _)))
 refine wpQuiet_nil ?_;rintro M ⟨⟨_,Sx,Bx⟩,rfl⟩;have BX:Hid _:=Bx;clear q1 P q aa ab ad af ak Bx Sx;go_wp2;go_ret;exact⟨by rw[<-ag.out];rfl,BX.out⟩
end Go.Proofs

import Derived.Test.YtaglpcmhopjebaaGreatDoorY36
set_option linter.all false
set_option maxRecDepth 100000
set_option maxHeartbeats 20000000
namespace Go.Proofs
open Go.Tm Go.RowKit
variable {fs:Array Func} (L:bQ fs)
def Kg{K:Nat->Prop}{v:Value}{l:List ByteArray}(A B:ByteArray)(g h:Nat)(w:World)(i:w.cell? ⟨g,0,none⟩=some (.string A))(j:w.cell? ⟨h,0,none⟩=some (.string B))(a:aB K 1 kF w v l):
 Calls (Qs fs) 235 #[v,.pointer (some ⟨g,0,none⟩),.pointer (some ⟨h,0,none⟩)] w λe w'=>e=.returned (.bool ((l.any (λt=>decide (t=A)))&&(l.any (λt=>decide (t=B)))))/\w'=w:=by
 have Mk:=Mk L;have b:=pU L A w a;have d:=pU L B w a;cases f:l.any (λt=>decide (t=A))with
 |true=>
  rw[f]at b;obtain⟨z,c⟩:=ex (l.any (λt=>decide (t=B)));rw[<-c]at d⊢;clear f c a;go_enter (n235 L),Tryz.ntmps235;go_wp2_with (first|(go_at_call 109;refine b.mono ?_;clear b;rintro e w2 ⟨rfl,rfl⟩)|(go_at_call 109;refine d.mono ?_;clear d;rintro e w2 ⟨rfl,rfl⟩))
  go_ret;exact⟨rfl,rfl⟩
 |false=>
  rw[f]at b;clear f a d;go_enter (n235 L),Tryz.ntmps235;go_wp2_with (first|(go_at_call 109;refine b.mono ?_;clear b;rintro e w2 ⟨rfl,rfl⟩))
  go_ret;exact⟨rfl,rfl⟩
def Ai{K:Nat->Prop}{v:Value}{l:List (List ByteArray)}(A B:ByteArray)(p r:Nat)(w:World)(s:w.cell? ⟨p,0,none⟩=some (.string A))(u:w.cell? ⟨r,0,none⟩=some (.string B))(k:aB K 1 j9 w v l):
 Calls (Qs fs) 242 #[v,.func (.func 235) #[] #[.pointer (some ⟨p,0,none⟩),.pointer (some ⟨r,0,none⟩)]] w λe w'=>(∃z:Int,e=.returned (.int .i64 z)/\decide (0<=z)=l.any (λg=>(g.any (λt=>decide (t=A)))&&(g.any (λt=>decide (t=B)))))/\w'=w:=by
 have PX:∀a w,(callFunc 235 a).run (Qs fs) w=.ok (.enter 235 a) w:=PX L;obtain⟨ao,O,rfl,E,F,_,c⟩:=k;have G:Hid _:=c;have H:Hid (w.cell? ⟨p,0,none⟩=some (.string A)/\w.cell? ⟨r,0,none⟩=some (.string B)):=⟨s,u⟩
 clear c;go_enter (n242 L),Tryz.ntmps242;go_wp2;go_loopw [8] (λz wr=>∃j:Nat,j<=l.length/\z=.int .i64 j/\wr=w/\∀i (m:i<l.length),i<j->((l[i].any (λt=>decide (t=A)))&&(l[i].any (λt=>decide (t=B))))=false) (λz _=>l.length-(intOf z).toNat)
 case atStart=>exact⟨0,RA _,rfl,rfl,λi m h=>by omega⟩
 case round=>
  obtain⟨j,P,rfl,rfl,n⟩:=hrel;have D:Hid _:=n;clear n;obtain o|hge:=Ry j l.length
  ·obtain⟨b,I,rfl,Q,y,d⟩:=G.out j o
   rw[SG]at y;obtain⟨J,R,rfl,_⟩:=id d;have q:=Kg L A B p r wr s u d;have M:(j:Int)<(l.length:Int):=by omega
   have S:Hid _:=d;clear d s u;cases f:((l[j].any (λt=>decide (t=A)))&&(l[j].any (λt=>decide (t=B))))with
   |true=>
    rw[f]at q;have C:Hid _:=f;clear f;go_wp2_with (first|(go_at_fn 235;refine q.mono ?_;clear q;rintro e w3 ⟨rfl,rfl⟩))
    go_ret;refine⟨⟨(j:Int),rfl,?_⟩,rfl⟩;rw[RE (by omega),Tw,Ta];exact⟨l[j],RR o,C.out⟩
   |false=>
    rw[f]at q;have C:Hid _:=f;clear f;go_wp2_with (first|(go_at_fn 235;refine q.mono ?_;clear q;rintro e w3 ⟨rfl,rfl⟩))
    refine⟨⟨j+1,by omega,by go_num,trivial,λi m N=>?_⟩,by simp[intOf];omega⟩;by_cases h:i<j
    ·exact D.out i m h
    ·obtain rfl:i=j:=by omega
     exact C.out
  ·clear s u
   go_wp2;go_ret;refine⟨⟨-1,rfl,?_⟩,rfl⟩;rw[Rz (by decide),Tw,T2];intro x d;obtain⟨i,m,rfl⟩:=TK.1 d;rw[D.out i m (by omega)];exact T3
def ur{K:Nat->Prop}{v:Value}{l:List (List ByteArray)}(A B:ByteArray)(b c:Nat)(w:World)(d:w.cell? ⟨b,0,none⟩=some (.string A))(f:w.cell? ⟨c,0,none⟩=some (.string B))(a:aB K 1 j9 w v l):
 Calls (Qs fs) 234 #[v,.func (.func 235) #[] #[.pointer (some ⟨b,0,none⟩),.pointer (some ⟨c,0,none⟩)]] w λe w'=>e=.returned (.bool (l.any (λg=>(g.any (λt=>decide (t=A)))&&(g.any (λt=>decide (t=B))))))/\w'=w:=by
 have P1:=P1 L;have q:=Ai L A B b c w d f a;obtain⟨y,h⟩:=ex (l.any (λg=>(g.any (λt=>decide (t=A)))&&(g.any (λt=>decide (t=B)))));rw[<-h]at q⊢;clear h a d f;go_enter (n234 L),Tryz.ntmps234;go_wp2_with (first|(go_at_call 242;refine q.mono ?_;clear q;rintro e w2 ⟨⟨z,rfl,i⟩,rfl⟩))
 go_ret;exact⟨by rw[<-i];rfl,rfl⟩
def Kh(a b:ByteArray):(a.data.toList==b.data.toList)=decide (a=b):=by
 by_cases h:a=b
 ·subst h;simp
 ·rw[Rz h,R2]
  exactλe=>h (pM e)
def Ib(t A B):gp t A.data.toList B.data.toList=if(t.iy.any λg=>(g.any λs=>decide (s=A))&&(g.any λs=>decide (s=B)))||(decide (A=B)&& !A.toList.isEmpty)then 100 else 0:=by unfold gp;simp only[Kh,Lib.toList_data]
def MM{K:Nat->Prop}{v0 v1 v2:Value}{t:Table}{m1 m2:Array Value}{one two:Mark}(w:World)(ht:IsTable K w v0 v1 v2 t)(ok:OkT t)(h1:dg K w m1 one)(h2:dg K w m2 two)(o1:OkM one)(o2:OkM two):
 Calls (Qs fs) 233 #[.agg #[v0,v1,v2],.agg m1,.agg m2] w λe w'=>e=.returned (.int .i64 (gp t (aR t.aC one.word.data.toList) (aR t.aC two.word.data.toList)))/\Below w.heap.size w w':=by
 have e53:=e53 L;have PW:=PW L;obtain⟨f1,rfl,r1⟩:=h1;obtain⟨f2,rfl,r2⟩:=h2;obtain⟨w1,S⟩:=ex (((w.alloc (.cells #[v0,v1,v2] 100)).alloc (.cells #[.string one.name,.string one.word,f1,.int .i64 one.day,.bool one.known] 38)).alloc (.cells #[.string two.name,.string two.word,f2,.int .i64 two.day,.bool two.known] 38));obtain⟨S1,B1,ct,c1,c2⟩:=iK w _ _ _ _ _ _ w1 S;have t0:=ct 0 _ rfl;have t1:=ct 1 _ rfl;have t2:=ct 2 _ rfl;have a1:=c1 1 _ rfl;have b1:=c2 1 _ rfl;have hT:=ht.stays S1;obtain⟨N0,h0⟩:=ex (w.heap.size);obtain⟨N1,h1⟩:=ex (w.heap.size+1);obtain⟨N2,h2⟩:=ex (w.heap.size+1+1);rw[<-h2]at b1;rw[<-h1]at a1;rw[<-h0]at t0 t1 t2;have BW:Hid (Below w.heap.size w w1):=B1;have T:w.heap.size<=w1.heap.size:=B1.size;have cB:∀(s:ByteArray),s.size<=16->∀v,ae w1 v->Calls (Qs fs) 53 #[.agg #[v0,v1,v2],.string s] v λe w'=>e=.returned (.string (bs (aR t.aC s.data.toList)))/\Below v.heap.size v w':=λs hs v hx=>sJ L s v (hT.stays hx).1 ok.lets (by omega);have q1:=cB one.word o1.word;have q2:=cB two.word o2.word;obtain⟨A,n⟩:=ex (bs (aR t.aC one.word.data.toList));obtain⟨B,hB⟩:=ex (bs (aR t.aC two.word.data.toList));rw[<-n]at q1;rw[<-hB]at q2;have aa:Hid (A.data.toList=aR t.aC one.word.data.toList/\B.data.toList=aR t.aC two.word.data.toList):=⟨by rw[n,bY],by rw[hB,bY]⟩
 have HT:Hid _:=hT;clear cB n hB hT ht r1 r2 ct c1 c2 S1 B1 ok o1 o2;go_enter (n233 L),Tryz.ntmps233;go_upto_region 1 with fail;rw[<-S,<-h2,<-h1,<-h0];clear S h0 h1 h2;go_cut [7,8]from 10 (λs7 s8 v=>∃X Y,s7=.pointer (some ⟨X,0,none⟩)/\s8=.pointer (some ⟨Y,0,none⟩)/\v.cell? ⟨X,0,none⟩=some (.string A)/\v.cell? ⟨Y,0,none⟩=some (.string B)/\ae w1 v/\Below w.heap.size w v)
 case first=>
  refine wp_region_any (by kernel_rfl) ?_;refine jV (I:=λs a W=>∃x7 x8 y C E F G H J M:Value,a=⟨#[.agg #[v0,v1,v2],.agg #[.string one.name,.string one.word,f1,.int .i64 one.day,.bool one.known],.agg #[.string two.name,.string two.word,f2,.int .i64 two.day,.bool two.known],.pointer (some ⟨N0,0,none⟩),.pointer (some ⟨N1,0,none⟩),.pointer (some ⟨N2,0,none⟩),.int .i64 0,x7,x8,undef,y,C,E,F,G,H,J,M,undef,undef,undef,undef,undef,undef,undef,undef,undef,undef,undef,undef,undef,undef,undef],[]⟩/\ae w1 W/\Below w.heap.size w W/\Agr s 0 [y,C,E,F,G,H,J,M] [.agg #[v0,v1,v2],.pointer (some ⟨N1,1,none⟩),.string one.word,.string A,.agg #[v0,v1,v2],.pointer (some ⟨N2,1,none⟩),.string two.word,.string B]/\(s.getD 8 false=true->∃X,x7=.pointer (some ⟨X,0,none⟩)/\fO w1 W 9 X/\(s.getD 10 false=true->W.cell? ⟨X,0,none⟩=some (.string A)))/\(s.getD 9 false=true->∃Y,x8=.pointer (some ⟨Y,0,none⟩)/\fO w1 W 9 Y/\(s.getD 11 false=true->W.cell? ⟨Y,0,none⟩=some (.string B)))/\(s.getD 8 false=true->s.getD 9 false=true->x7≠x8)/\(s.getD 10 false=true->s.getD 8 false=true)/\(s.getD 11 false=true->s.getD 9 false=true)/\s.size=12/\w1.heap.size<=W.heap.size) ?step ?fin _ _ _ _ (by simp) ?start;case start=>exact⟨_,_,_,_,_,_,_,_,_,_,rfl,ae.refl w1,BW.out.drew,Agr.start rfl,by simp⟩
  case fin=>rintro s a W ⟨x7,x8,y,C,E,F,G,H,J,M,rfl,b,d,n,N,O,kd,ke,R,j,l⟩ hr;have D:=λk (hk:k<12)=>Cu j (by kernel_rfl) hr (k+1) k (To k) hk;obtain⟨X,rfl,_,hX⟩:=N (D 8 (by decide));obtain⟨Y,rfl,_,hY⟩:=O (D 9 (by decide));have ak:=hX (D 10 (by decide));have al:=hY (D 11 (by decide));clear D n N O kd ke R;go_wp2;go_meet;exact⟨X,Y,rfl,rfl,ak,al,b,d⟩
  case step=>
   rintro s a W i ⟨x7,x8,y,C,E,F,G,H,J,M,rfl,b,d,n,N,O,kd,ke,R,j,l⟩ hr;obtain⟨ab,o,ho,r⟩:=mem_ready.1 hr;have hi:i<12:=(Rx.1 ho).1;clear hr;obtain rfl|rfl|rfl|rfl|rfl|rfl|rfl|rfl|rfl|rfl|rfl|rfl:i=8\/i=9\/i=10\/i=11\/i=3\/i=7\/i=0\/i=1\/i=2\/i=4\/i=5\/i=6:=by omega
   all_goals
    obtain rfl:=RU ho;clear ho hi
    (try (have e:=n.dep r 0 rfl rfl;(conv at e=>lhs;whnf);(conv at e=>rhs;whnf);subst e))
    (try (have e:=n.dep r 1 rfl rfl;(conv at e=>lhs;whnf);(conv at e=>rhs;whnf);subst e))
    refine wpOp_step rfl λK' ad=>?_;have V:Hid (∀a w,_->K' a w):=ad;clear ad
   ·go_simp
    refine V.out _ _ ⟨_,_,_,_,_,_,_,_,_,_,rfl,(b.trans (ae.alloc _ _)),(d.alloc d.size _),n.set _,
     (λh=>⟨_,rfl,fO.new l _,λc=>absurd (ke (aL c (by decide))) (fE ab)⟩),
     (λh=>by
     obtain⟨Y,e1,f,e3⟩:=O (aL h (by decide));exact⟨Y,e1,f.stays (ae.alloc _ _),λc=>(ae.alloc _ _).cell (e3 (aL c (by decide)))⟩),
     (λh c=>by
     obtain⟨Y,e1,f,e3⟩:=O (aL c (by decide));rw[e1];intro e;cases e;have:=f.lt;omega),
     (λh=>bc (ke (aL h (by decide)))),(λh=>bc (R (aL h (by decide)))),by rw[R3];exact j,(by simp;omega)⟩
   ·go_simp
    refine V.out _ _ ⟨_,_,_,_,_,_,_,_,_,_,rfl,(b.trans (ae.alloc _ _)),(d.alloc d.size _),n.set _,
     (λh=>by
     obtain⟨X,e1,f,e3⟩:=N (aL h (by decide));exact⟨X,e1,f.stays (ae.alloc _ _),λc=>(ae.alloc _ _).cell (e3 (aL c (by decide)))⟩),
     (λh=>⟨_,rfl,fO.new l _,λc=>absurd (R (aL c (by decide))) (fE ab)⟩),
     (λh c=>by
     obtain⟨Y,e1,f,e3⟩:=N (aL h (by decide));rw[e1];intro e;cases e;have:=f.lt;omega),
     (λh=>bc (ke (aL h (by decide)))),(λh=>bc (R (aL h (by decide)))),by rw[R3];exact j,(by simp;omega)⟩
   ·have d8:=r ⟨8,.data⟩ (by simp) rfl
    obtain⟨B0,rfl,x,_⟩:=N d8;obtain⟨cv,U⟩:=x.cell;have an:=x.frozen;go_simp;refine V.out _ _ ⟨_,_,_,_,_,_,_,_,_,_,rfl,(ae.vv b x.1 _),(d.setCell (p:=⟨B0,0,none⟩) (Rr T x.1) _),n.set _,
     (λh=>⟨B0,rfl,x.set,λ_=>World.cell?_setCell_same' _ _ _ (by rw[U];rfl)⟩),
     (λh=>by
     have hh:=aL h (by decide);obtain⟨Y,e1,f,e3⟩:=O hh;have u:Y≠B0:=λe=>kd d8 hh (by rw[e1,e]);exact⟨Y,e1,f.other u,λc=>(dh (Below.heap_setCell W ⟨B0,0,none⟩ _ Y u)).trans (e3 (aL c (by decide)))⟩),
     (λh c=>kd (aL h (by decide)) (aL c (by decide))),
     (λ_=>bc d8),(λh=>bc (R (aL h (by decide)))),by rw[R3];exact j,(by simp[World.setCell];exact l)⟩
   ·have d9:=r ⟨9,.data⟩ (by simp) rfl
    obtain⟨B0,rfl,x,_⟩:=O d9;obtain⟨cv,U⟩:=x.cell;have an:=x.frozen;go_simp;refine V.out _ _ ⟨_,_,_,_,_,_,_,_,_,_,rfl,(ae.vv b x.1 _),(d.setCell (p:=⟨B0,0,none⟩) (Rr T x.1) _),n.set _,
     (λh=>by
     have hh:=aL h (by decide);obtain⟨Y,e1,f,e3⟩:=N hh;have u:Y≠B0:=λe=>kd hh d9 (by rw[e1,e]);exact⟨Y,e1,f.other u,λc=>(dh (Below.heap_setCell W ⟨B0,0,none⟩ _ Y u)).trans (e3 (aL c (by decide)))⟩),
     (λh=>⟨B0,rfl,x.set,λ_=>World.cell?_setCell_same' _ _ _ (by rw[U];rfl)⟩),
     (λh c=>kd (aL h (by decide)) (aL c (by decide))),
     (λh=>bc (ke (aL h (by decide)))),(λ_=>bc d9),by rw[R3];exact j,(by simp[World.setCell];exact l)⟩
   iterate 2
    have p1:=q1 W b;have p2:=q2 W b;go_simp;go_at_call 53
    first|refine p1.mono ?_|refine p2.mono ?_
    rintro e w4 ⟨rfl,m⟩;dsimp only;refine V.out _ _ ⟨_,_,_,_,_,_,_,_,_,_,rfl,(b.trans (ae.below m)),(d.trans (m.mono d.size)),n.set _,
     (λh=>by
     obtain⟨X,e1,f,e3⟩:=N (aL h (by decide));exact⟨X,e1,f.stays (ae.below m),λc=>(ae.below m).cell (e3 (aL c (by decide)))⟩),
     (λh=>by
     obtain⟨Y,e1,f,e3⟩:=O (aL h (by decide));exact⟨Y,e1,f.stays (ae.below m),λc=>(ae.below m).cell (e3 (aL c (by decide)))⟩),
     (λh c=>kd (aL h (by decide)) (aL c (by decide))),
     (λh=>bc (ke (aL h (by decide)))),(λh=>bc (R (aL h (by decide)))),by rw[R3];exact j,Rr l m.size⟩
   all_goals
    have c0:=b.cell t0;have c1:=b.cell t1;have c2:=b.cell t2;have c3:=b.cell a1;have c4:=b.cell b1;go_simp;refine V.out _ _ ⟨_,_,_,_,_,_,_,_,_,_,rfl,b,d,n.set _,
     (λh=>by
     obtain⟨X,e1,f,e3⟩:=N (aL h (by decide));exact⟨X,e1,f,λc=>e3 (aL c (by decide))⟩),
     (λh=>by
     obtain⟨Y,e1,f,e3⟩:=O (aL h (by decide));exact⟨Y,e1,f,λc=>e3 (aL c (by decide))⟩),
     (λh c=>kd (aL h (by decide)) (aL c (by decide))),
     (λh=>bc (ke (aL h (by decide)))),(λh=>bc (R (aL h (by decide)))),by rw[R3];exact j,l⟩
 case rest=>
  obtain⟨X,Y,rfl,rfl,hX,hY,Sx,Bx⟩:=hcut;have ao:=Sx.cell t2;have af:=IsTable.stays Sx HT.out;have q:=ur L A B X Y wc hX hY af.2.2;have Z:Hid _:=Ib t A B;have ar:∀(fn:Fn) (first cap:Array Value) (w:World),(Instr.makeFunc fn first cap).run (Qs fs) w=.ok (.func fn first cap) w:=λ_ _ _ _=>rfl;obtain⟨z,hz⟩:=ex (t.iy.any λg=>(g.any λs=>decide (s=A))&&(g.any λs=>decide (s=B)));rw[<-hz]at q Z;rw[aa.out.1,aa.out.2]at Z;have P:Hid _:=Bx;clear hz af HT q1 q2 t0 t1 t2 a1 b1 Sx Bx T;cases z with
  |true=>
   have HV:Hid (gp t (aR t.aC one.word.data.toList) (aR t.aC two.word.data.toList)=100):=by rw[Hid,Z.out];simp
   go_wp2_with (first|(go_at_call 234;refine q.mono ?_;clear q;rintro e w3 ⟨rfl,rfl⟩))
   go_ret;exact⟨by rw[HV.out];rfl,P.out⟩
  |false=>
   by_cases Q:A=B
   ·subst Q
    cases ag:A.toList.isEmpty with
    |true=>
     have HV:Hid (gp t (aR t.aC one.word.data.toList) (aR t.aC two.word.data.toList)=0):=by rw[Hid,Z.out,ag];simp
     go_wp2_with (first|(go_at_call 234;refine q.mono ?_;clear q;rintro e w3 ⟨rfl,rfl⟩))
     go_ret;exact⟨by rw[HV.out];rfl,P.out⟩
    |false=>
     have HV:Hid (gp t (aR t.aC one.word.data.toList) (aR t.aC two.word.data.toList)=100):=by rw[Hid,Z.out,ag];simp
     go_wp2_with (first|(go_at_call 234;refine q.mono ?_;clear q;rintro e w3 ⟨rfl,rfl⟩))
     go_ret;exact⟨by rw[HV.out];rfl,P.out⟩
   ·have HV:Hid (gp t (aR t.aC one.word.data.toList) (aR t.aC two.word.data.toList)=0):=by rw[Hid,Z.out,Rz Q];simp
    have u:(A.toList==B.toList)=false:=by rw[R2,Lib.toList_data,Lib.toList_data];exactλe=>Q (pM e)
    clear Q;go_wp2_with (first|(go_at_call 234;refine q.mono ?_;clear q;rintro e w3 ⟨rfl,rfl⟩))
    go_ret;exact⟨by rw[HV.out];rfl,P.out⟩
def gR(w:World)(g n:Nat)(f:Nat->UInt8):Prop:=∃c F,w.heap[g]? =some (.cells c 5 F)/\n<=F.1/\∀j,j<n->c[j]? =some (.int .u8 ((f j).toNat:Int))
def gR.cell{w g n f}(h:gR w g n f){j}(a:j<n):w.cell? ⟨g,j,none⟩=some (.int .u8 ((f j).toNat:Int)):=by obtain⟨c,F,b,_,d⟩:=h;exact cell_of_heap b j _ (d j a)
def gR.frozen{w g n f}(h:gR w g n f){j}(b:j<n):w.frozen? ⟨g,j,none⟩=false:=by obtain⟨c,F,a,d,_⟩:=h;unfold World.frozen?;simp only[a];have:decide (F.1<=j)=false:=Rz (by omega);rw[this];rfl
def gR.congr{w g n}{f f':Nat->UInt8}(h:gR w g n f)(e:∀j,j<n->f j=f' j):gR w g n f':=by obtain⟨c,F,b,d,i⟩:=h;exact⟨c,F,b,d,λj a=>by rw[<-e j a];exact i j a⟩
def gR.set{w g n f}(h:gR w g n f){i}(x):gR (w.setCell ⟨g,i,none⟩ (.int .u8 (x.toNat:Int))) g n (λj=>if j=i then x else f j):=by
 obtain⟨c,F,b,d,k⟩:=h;refine⟨c.setIfInBounds i (.int .u8 (x.toNat:Int)),F,?_,d,λj l=>?_⟩
 ·have m:(w.heap.modify g λo=>match o with| .cells c e F=>.cells (c.setIfInBounds i (.int .u8 (x.toNat:Int))) e F|o=>o)[g]? =some (.cells (c.setIfInBounds i (.int .u8 (x.toNat:Int))) 5 F):=by rw[SH,b];simp
  exact m
 ·have a:=k j l
  have p:=(Rx.1 a).1;by_cases e:j=i
  ·subst e
   show(c.setIfInBounds j _)[j]? =some (.int .u8 ((if j=j then x else f j).toNat:Int));rw[Rp rfl,UY p]
  ·show(c.setIfInBounds i _)[j]? =some (.int .u8 ((if j=i then x else f j).toNat:Int))
   rw[Ro e,RH (RN e)];exact a
def gR.of_block{w w' g n f}(h:gR w g n f)(e:w'.heap[g]? =w.heap[g]?):gR w' g n f:=by obtain⟨c,F,a,b,d⟩:=h;exact⟨c,F,by rw[e];exact a,b,d⟩
def gR.stays{w w' g n f}(h:gR w g n f)(a:ae w w'):gR w' g n f:=by obtain⟨c,F,b,d,e⟩:=h;exact⟨c,F,a _ _ _ _ b,d,e⟩
def pV(s:ByteArray)(j:Nat):UInt8:=s.data.toList.getD j 0
def Ic{s j}(a:j<s.size):pV s j=s[j]:=by unfold pV;rw[Tv,Lib.data_getElem? s j a];rfl
def MN(fs s w):∃cap w',(convert 9 120 (.string s)).run (Qs fs) w=.ok (.slice (some ⟨w.heap.size,0,none⟩) s.size cap) w'/\s.size<=cap/\gR w' w.heap.size s.size (pV s)/\Below w.heap.size w w':=by
 have h:=run_bytes_of_string (P:=Qs fs) w 9 120 5 s (by rw[aH];exact Tryz.underlying9) (by rw[aH];exact Tryz.underlying120) (by rw[aH];exact Tryz.underlying5);refine⟨_,_,h,grownCap_ge _ _ _ _,⟨_,_,Sd,?_,λj a=>?_⟩,(Below.refl _ _).drew.alloc (Rq _) _⟩
 ·show s.size<=(bytesRow s _).size
  unfold bytesRow;rw[Array.size_append,TX];exact Nat.le_add_right _ _
 ·rw[bytesRow_at s _ j a,Ic a]
  rfl
def MO(fs){w g n cap f}(h:gR w g n f):(convert 120 9 (.slice (some ⟨g,0,none⟩) n cap)).run (Qs fs) w=.ok (.string (bs ((List.range n).map f))) w:=by
 have a:((List.range n).map f).length=n:=by simp
 have c:=run_convert_bytes_back (P:=Qs fs) w 120 9 5 ⟨g,0,none⟩ cap ((List.range n).map f) (by rw[aH];exact Tryz.underlying120) (by rw[aH];exact Tryz.underlying5) (by rw[aH];exact Tryz.underlying9) (λj b=>by rw[dD,RB,Uc,UZ];exact h.cell (by omega))
 rw[a]at c;exact c
def nJ(f:Nat->UInt8)(n i k:Nat):UInt8:=if k<i\/n<=k+i then f (n-1-k)else f k
def Ie(g n cap:Nat)(f:Nat->UInt8)(w:World)(o:gR w g n f)(K:n<=1000000)(p:n<=cap):
 Calls (Qs fs) 237 #[.slice (some ⟨g,0,none⟩) n cap] w λe w'=>e=.returned (.tuple #[])/\gR w' g n (λk=>f (n-1-k))/\Stp w.heap.size g w w':=by
 have B:Hid _:=o;clear o;go_enter (n237 L),Tryz.ntmps237;go_wp2;go_loopw [2,3] (λd C wr=>∃(i:Nat) (j:Int),d=.int .i64 i/\C=.int .i64 j/\j=(n:Int)-1-i/\i<=n/\gR wr g n (nJ f n i)/\Stp w.heap.size g w wr) (λd _ _=>n-(intOf d).toNat)
 case atStart=>refine⟨0,_,rfl,rfl,by omega,RA _,gR.congr B.out λj h=>?_,Stp.refl _ _ _⟩;unfold nJ;rw[Ro (by omega)]
 case round=>
  obtain⟨i,j,rfl,rfl,h,M,a,b⟩:=hrel;have c:Hid (gR wr g n (nJ f n i)/\Stp w.heap.size g w wr):=⟨a,b⟩
  by_cases D:(i:Int)<j
  ·obtain⟨q,rfl⟩:∃q:Nat,j=q:=⟨j.toNat,by omega⟩
   have r:=a.cell (show i<n by omega);have s:=a.cell (show q<n by omega);have N:=a.frozen (show i<n by omega);have O:=a.frozen (show q<n by omega);have t:nJ f n i i=f i:=by unfold nJ;rw[Ro (by omega)]
   have eq:nJ f n i q=f q:=by unfold nJ;rw[Ro (by omega)]
   rw[t]at r;rw[eq]at s;have E:i≠q:=by omega
   have F:(i:Int)<(n:Int):=by omega
   have G:(q:Int)<(n:Int):=by omega
   have H:Hid ((q:Int)=(n:Int)-1-i):=h;obtain⟨x,l⟩:=ex (f i);obtain⟨y,m⟩:=ex (f q);rw[<-l]at r;rw[<-m]at s;have u:Hid (x=f i/\y=f q):=⟨l,m⟩
   clear a b l m t eq h;go_wp2
   go_region
   go_wp2;have I:=H.out;refine⟨⟨i+1,(q:Int)-1,by go_num,rfl,by omega,by omega,?_,?_⟩,by simp[intOf];omega⟩
   ·refine gR.congr (gR.of_block (gR.set (i:=q) (gR.set (i:=i) c.out.1 y) x) rfl) λk J=>?_
    show(if k=q then x else if k=i then y else nJ f n i k)=nJ f n (i+1) k;unfold nJ;by_cases v:k=q
    ·rw[Rp v,Rp (by omega),u.out.1]
     congr 1;omega
    ·rw[Ro v]
     by_cases z:k=i
     ·rw[Rp z,Rp (by omega),u.out.2]
      congr 1;omega
     ·rw[Ro z]
      by_cases A:k<i\/n<=k+i
      ·rw[Rp A,Rp (by omega)]
      ·rw[Ro A,Ro (by omega)]
   ·exact(c.out.2.trans ((Stp.setCell wr i _).trans (Stp.setCell _ q _))).trans ⟨rfl,rfl,rfl,Rq _,λ_ _ _=>rfl⟩
  ·clear a b
   go_wp2
   go_end0
   refine⟨rfl,gR.congr c.out.1 λk J=>?_,c.out.2⟩;unfold nJ;split
   ·rfl
   ·congr 1;omega
def E0(B):(List.range B.size).map (λk=>pV B (B.size-1-k))=B.data.toList.reverse:=by
 refine UU (by rw[SJ,U3,Ui,Lib.size_eq]) λi b c=>?_;rw[Uc,UZ,List.getElem_reverse];have d:i<B.size:=by simpa using b
 have a:B.size-1-i<B.data.toList.length:=by rw[<-Lib.size_eq];omega
 unfold pV;rw[Tv,R5 a,Te]
 congr 1
def MP{K:Nat->Prop}{v0 v1 v2:Value}{t:Table}{m1 m2:Array Value}{one two:Mark}(w:World)(ht:IsTable K w v0 v1 v2 t)(D:OkT t)(u:dg K w m1 one)(v:dg K w m2 two)(o1:OkM one)(o2:OkM two):
 Calls (Qs fs) 236 #[.agg #[v0,v1,v2],.agg m1,.agg m2] w λe w'=>e=.returned (.int .i64 (dF (aR t.aC one.word.data.toList) (aR t.aC two.word.data.toList).reverse))/\Below w.heap.size w w':=by
 have e53:=e53 L;have G7:=G7 L;have PY:=PY L;obtain⟨f1,rfl,r1⟩:=u;obtain⟨f2,rfl,r2⟩:=v;obtain⟨w1,g⟩:=ex (((w.alloc (.cells #[v0,v1,v2] 100)).alloc (.cells #[.string one.name,.string one.word,f1,.int .i64 one.day,.bool one.known] 38)).alloc (.cells #[.string two.name,.string two.word,f2,.int .i64 two.day,.bool two.known] 38));obtain⟨S1,Q,ct,c1,c2⟩:=iK w _ _ _ _ _ _ w1 g;have R:=ct 0 _ rfl;have S:=ct 1 _ rfl;have T:=ct 2 _ rfl;have a1:=c1 1 _ rfl;have b1:=c2 1 _ rfl;have j:w1.heap.size=w.heap.size+3:=by rw[g];simp
 have c:=ht.1.below;obtain⟨N0,J⟩:=ex (w.heap.size);obtain⟨N1,u⟩:=ex (w.heap.size+1);obtain⟨N2,v⟩:=ex (w.heap.size+1+1);rw[<-v]at b1;rw[<-u]at a1;rw[<-J]at R S T;have BW:Hid (Below w.heap.size w w1):=Q;have C:Hid (N0=w.heap.size/\N1=w.heap.size+1/\N2=w.heap.size+1+1/\w1.heap.size=w.heap.size+3):=⟨J,u,v,j⟩
 have al:Hid (aB (λb=>b<w.heap.size) 2 dC w v0 t.aC):=c;have l:Hid (∀M,(∀b,b<w.heap.size->M.heap[b]? =w.heap[b]?)->aB (λb=>b<w.heap.size) 2 dC M v0 t.aC):=λM h=>c.blocks h;have r:=dG D one.word.data.toList;have s:=dG D two.word.data.toList;rw[<-Lib.size_eq,<-bE]at r s;have U:=o1.word;have V:=o2.word;have HO:Hid (∀p∈t.aC,1<=p.1.size/\p.1.size<=4/\p.2.size<=3):=D.lets;have W:=sJ L (v1:=v1) (v2:=v2) two.word w1 (l.out w1 λb E=>Q.block b E) D.lets (by omega);obtain⟨A,N⟩:=ex (bs (aR t.aC one.word.data.toList));obtain⟨B,X⟩:=ex (bs (aR t.aC two.word.data.toList));have F:A.data.toList=aR t.aC one.word.data.toList:=by rw[N,bY]
 have G:B.data.toList=aR t.aC two.word.data.toList:=by rw[X,bY]
 rw[<-N]at r;rw[<-X]at s W;have i:Hid (A.data.toList=aR t.aC one.word.data.toList/\B.data.toList=aR t.aC two.word.data.toList/\A=bs (aR t.aC one.word.data.toList)):=⟨F,G,N⟩
 have O:Hid (A.size<=48/\B.size<=48/\one.word.size<=16):=⟨by omega,by omega,by omega⟩
 clear N X F G r s U V ht r1 r2 ct c1 c2 S1 Q D o1 o2 c j;go_enter (n236 L),Tryz.ntmps236;go_upto_region 1 with fail;rw[<-g,<-v,<-u,<-J];clear g J u v;go_upto_region 3 with(first|(go_at_call 53;refine W.mono ?_;clear W;rintro e w2 ⟨rfl,d⟩;obtain⟨cap,w3,Y,m,n,f⟩:=MN fs B w2)|(go_at_call 237;refine(Ie L w2.heap.size B.size cap (pV B) w3 n (by have:=O.out;omega) m).mono ?_;clear Y;rintro e w4 ⟨rfl,o,a⟩))
 have H:Hid (∀b,b<w.heap.size+3->w4.heap[b]? =w1.heap[b]?):=λb E=>by have s1:=C.out.2.2.2;have s2:=d.size;have s3:=f.size;rw[a.block b (by omega) (by omega),f.block b (by omega),d.block b (by omega)]
 have I:Hid (Below w.heap.size w w4):=by have s1:=C.out.2.2.2;have s2:=d.size;exact(BW.out.trans ((d.mono (by omega)).trans (f.mono (by omega)))).trans ⟨a.os,a.tape,a.output,a.size,λb E=>a.block b (by have:=f.size;omega) (by omega)⟩
 have Z:Hid (gR w4 w2.heap.size B.size (λk=>pV B (B.size-1-k))):=o;have aa:=λx:aj w w4=>x.cell ((dh (H.out N0 (by have:=C.out;omega))).trans R);have ab:=λx:aj w w4=>x.cell ((dh (H.out N0 (by have:=C.out;omega))).trans S);have ad:=λx:aj w w4=>x.cell ((dh (H.out N0 (by have:=C.out;omega))).trans T);have af:=λx:aj w w4=>x.cell ((dh (H.out N1 (by have:=C.out;omega))).trans a1);have q1:∀x:aj w w4,Calls (Qs fs) 53 #[.agg #[v0,v1,v2],.string one.word] x.val λe w'=>e=.returned (.string A)/\∃y:aj w w4,w'=y.val:=λx=>by rw[i.out.2.2];exact aj.calls (sJ L one.word x.val ((l.out w4 λb E=>(H.out b (by omega)).trans (BW.out.block b E)).yJ x.st) HO.out (by have:=O.out;omega))
 have q:∀x:aj w w4,(convert 120 9 (.slice (some ⟨w2.heap.size,0,none⟩) B.size cap)).run (Qs fs) x.val=.ok (.string (bs B.data.toList.reverse)) x.val:=λx=>by have h:=MO fs (cap:=cap) (gR.stays Z.out x.st);rw[E0]at h;exact h
 have P:∀x:aj w w4,Calls (Qs fs) 231 #[.string A,.string (bs B.data.toList.reverse)] x.val λe w'=>e=.returned (.int .i64 (dF A.data.toList (bs B.data.toList.reverse).data.toList))/\∃y:aj w w4,w'=y.val:=λx=>aj.calls (zR L A _ x.val O.out.1 (by rw[bE,Ui,<-Lib.size_eq];exact O.out.2.1))
 rw[bY,i.out.1,i.out.2.1]at P;rw[i.out.2.1]at q;obtain⟨z,hz⟩:=ex (dF (aR t.aC one.word.data.toList) (aR t.aC two.word.data.toList).reverse);rw[<-hz]at P;have ag:Hid _:=hz;clear hz d f a o n R S T a1 b1 m;refine bh (w0:=w) (w1:=w4) (by kernel_rfl) (by kernel_rfl) (ae.refl _) I.out ?_;haveI ak:Nonempty (aj w w4):=⟨⟨w4,ae.refl _,I.out⟩⟩
 repeat (go_big_quiet_step (first|(go_at_call 53;exact q1 _)|(go_at_call 231;exact P _)))
 refine wpQuiet_nil ?_;rintro M ⟨⟨_,Sx,Bx⟩,rfl⟩;have BX:Hid _:=Bx;clear q1 P q aa ab ad af ak Bx Sx;go_wp2;go_ret;exact⟨by rw[<-ag.out];rfl,BX.out⟩
end Go.Proofs

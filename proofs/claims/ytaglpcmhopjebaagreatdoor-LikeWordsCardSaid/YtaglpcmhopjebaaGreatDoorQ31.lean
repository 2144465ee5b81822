import Derived.Test.YtaglpcmhopjebaaGreatDoorQ30
set_option linter.all false
set_option maxRecDepth 100000
set_option maxHeartbeats 20000000
namespace Go.Proofs
open Go.Tm Go.RowKit
variable {fs:Array Func} (L:bU fs)
def La{K:Nat->Prop}{v:Value}{l:List ByteArray}(A B:ByteArray)(g h:Nat)(w:World)(i:w.cell? ⟨g,0,none⟩=some (.string A))(j:w.cell? ⟨h,0,none⟩=some (.string B))(a:aE K 1 kq w v l):
 Calls (Qs fs) 235 #[v,.pointer (some ⟨g,0,none⟩),.pointer (some ⟨h,0,none⟩)] w λe w'=>e=.returned (.bool ((l.any (λt=>decide (t=A)))&&(l.any (λt=>decide (t=B)))))/\w'=w:=by
 have M8:=M8 L;have b:=pX L A w a;have d:=pX L B w a;cases f:l.any (λt=>decide (t=A))with
 |true=>
  rw[f]at b;obtain⟨z,c⟩:=ex (l.any (λt=>decide (t=B)));rw[<-c]at d⊢;clear f c a;go_enter (n235 L),Tryz.ntmps235;go_wp2_with (first|(go_at_call 109;refine b.mono ?_;clear b;rintro e w2 ⟨rfl,rfl⟩)|(go_at_call 109;refine d.mono ?_;clear d;rintro e w2 ⟨rfl,rfl⟩))
  go_ret;exact⟨rfl,rfl⟩
 |false=>
  rw[f]at b;clear f a d;go_enter (n235 L),Tryz.ntmps235;go_wp2_with (first|(go_at_call 109;refine b.mono ?_;clear b;rintro e w2 ⟨rfl,rfl⟩))
  go_ret;exact⟨rfl,rfl⟩
def Ax{K:Nat->Prop}{v:Value}{l:List (List ByteArray)}(A B:ByteArray)(p r:Nat)(w:World)(s:w.cell? ⟨p,0,none⟩=some (.string A))(u:w.cell? ⟨r,0,none⟩=some (.string B))(k:aE K 1 jx w v l):
 Calls (Qs fs) 242 #[v,.func (.func 235) #[] #[.pointer (some ⟨p,0,none⟩),.pointer (some ⟨r,0,none⟩)]] w λe w'=>(∃z:Int,e=.returned (.int .i64 z)/\decide (0<=z)=l.any (λg=>(g.any (λt=>decide (t=A)))&&(g.any (λt=>decide (t=B)))))/\w'=w:=by
 have Qz:∀a w,(callFunc 235 a).run (Qs fs) w=.ok (.enter 235 a) w:=Qz L;obtain⟨O,P,rfl,E,F,_,c⟩:=k;have G:Hid _:=c;have H:Hid (w.cell? ⟨p,0,none⟩=some (.string A)/\w.cell? ⟨r,0,none⟩=some (.string B)):=⟨s,u⟩
 clear c;go_enter (n242 L),Tryz.ntmps242;go_wp2;go_loopw [8] (λz wr=>∃j:Nat,j<=l.length/\z=.int .i64 j/\wr=w/\∀i (m:i<l.length),i<j->((l[i].any (λt=>decide (t=A)))&&(l[i].any (λt=>decide (t=B))))=false) (λz _=>l.length-(intOf z).toNat)
 case atStart=>exact⟨0,R9 _,rfl,rfl,λi m h=>by omega⟩
 case round=>
  obtain⟨j,Q,rfl,rfl,n⟩:=hrel;have D:Hid _:=n;clear n;obtain o|hge:=R5 j l.length
  ·obtain⟨b,I,rfl,R,y,d⟩:=G.out j o
   rw[Tn]at y;obtain⟨J,S,rfl,_⟩:=id d;have q:=La L A B p r wr s u d;have M:(j:Int)<(l.length:Int):=by omega
   have T:Hid _:=d;clear d s u;cases f:((l[j].any (λt=>decide (t=A)))&&(l[j].any (λt=>decide (t=B))))with
   |true=>
    rw[f]at q;have C:Hid _:=f;clear f;go_wp2_with (first|(go_at_fn 235;refine q.mono ?_;clear q;rintro e w3 ⟨rfl,rfl⟩))
    go_ret;refine⟨⟨(j:Int),rfl,?_⟩,rfl⟩;rw[Sd (by omega),TX,Tj];exact⟨l[j],Sg o,C.out⟩
   |false=>
    rw[f]at q;have C:Hid _:=f;clear f;go_wp2_with (first|(go_at_fn 235;refine q.mono ?_;clear q;rintro e w3 ⟨rfl,rfl⟩))
    refine⟨⟨j+1,by omega,by go_num,trivial,λi m N=>?_⟩,by simp[intOf];omega⟩;by_cases h:i<j
    ·exact D.out i m h
    ·obtain rfl:i=j:=by omega
     exact C.out
  ·clear s u
   go_wp2;go_ret;refine⟨⟨-1,rfl,?_⟩,rfl⟩;rw[R8 (by decide),TX,T5];intro x d;obtain⟨i,m,rfl⟩:=TO.1 d;rw[D.out i m (by omega)];exact Ut
def uv{K:Nat->Prop}{v:Value}{l:List (List ByteArray)}(A B:ByteArray)(b c:Nat)(w:World)(d:w.cell? ⟨b,0,none⟩=some (.string A))(f:w.cell? ⟨c,0,none⟩=some (.string B))(a:aE K 1 jx w v l):
 Calls (Qs fs) 234 #[v,.func (.func 235) #[] #[.pointer (some ⟨b,0,none⟩),.pointer (some ⟨c,0,none⟩)]] w λe w'=>e=.returned (.bool (l.any (λg=>(g.any (λt=>decide (t=A)))&&(g.any (λt=>decide (t=B))))))/\w'=w:=by
 have QC:=QC L;have q:=Ax L A B b c w d f a;obtain⟨y,h⟩:=ex (l.any (λg=>(g.any (λt=>decide (t=A)))&&(g.any (λt=>decide (t=B)))));rw[<-h]at q⊢;clear h a d f;go_enter (n234 L),Tryz.ntmps234;go_wp2_with (first|(go_at_call 242;refine q.mono ?_;clear q;rintro e w2 ⟨⟨z,rfl,i⟩,rfl⟩))
 go_ret;exact⟨by rw[<-i];rfl,rfl⟩
def Lb(a b:ByteArray):(a.data.toList==b.data.toList)=decide (a=b):=by
 by_cases h:a=b
 ·subst h;simp
 ·rw[R8 h,Sw]
  exactλe=>h (pQ e)
def IQ(t A B):ga t A.data.toList B.data.toList=if(t.bl.any λg=>(g.any λs=>decide (s=A))&&(g.any λs=>decide (s=B)))||(decide (A=B)&& !A.toList.isEmpty)then 100 else 0:=by unfold ga;simp only[Lb,Lib.toList_data]
def NF{K:Nat->Prop}{v0 v1 v2:Value}{t:Table}{m1 m2:Array Value}{one two:Mark}(w:World)(ht:IsTable K w v0 v1 v2 t)(ok:OkT t)(h1:de K w m1 one)(h2:de K w m2 two)(o1:OkM one)(o2:OkM two):
 Calls (Qs fs) 233 #[.agg #[v0,v1,v2],.agg m1,.agg m2] w λe w'=>e=.returned (.int .i64 (ga t (aQ t.au one.word.data.toList) (aQ t.au two.word.data.toList)))/\Below w.heap.size w w':=by
 have e53:=e53 L;have Qy:=Qy L;obtain⟨f1,rfl,r1⟩:=h1;obtain⟨f2,rfl,r2⟩:=h2;obtain⟨w1,S⟩:=ex (((w.alloc (.cells #[v0,v1,v2] 100)).alloc (.cells #[.string one.name,.string one.word,f1,.int .i64 one.day,.bool one.known] 38)).alloc (.cells #[.string two.name,.string two.word,f2,.int .i64 two.day,.bool two.known] 38));obtain⟨S1,B1,ct,c1,c2⟩:=iI w _ _ _ _ _ _ w1 S;have t0:=ct 0 _ rfl;have t1:=ct 1 _ rfl;have t2:=ct 2 _ rfl;have a1:=c1 1 _ rfl;have b1:=c2 1 _ rfl;have hT:=ht.stays S1;obtain⟨N0,h0⟩:=ex (w.heap.size);obtain⟨N1,h1⟩:=ex (w.heap.size+1);obtain⟨N2,h2⟩:=ex (w.heap.size+1+1);rw[<-h2]at b1;rw[<-h1]at a1;rw[<-h0]at t0 t1 t2;have BW:Hid (Below w.heap.size w w1):=B1;have T:w.heap.size<=w1.heap.size:=B1.size;have cB:∀(s:ByteArray),s.size<=16->∀v,ae w1 v->Calls (Qs fs) 53 #[.agg #[v0,v1,v2],.string s] v λe w'=>e=.returned (.string (bs (aQ t.au s.data.toList)))/\Below v.heap.size v w':=λs hs v hx=>sH L s v (hT.stays hx).1 ok.lets (by omega);have q1:=cB one.word o1.word;have q2:=cB two.word o2.word;obtain⟨A,n⟩:=ex (bs (aQ t.au one.word.data.toList));obtain⟨B,hB⟩:=ex (bs (aQ t.au two.word.data.toList));rw[<-n]at q1;rw[<-hB]at q2;have aa:Hid (A.data.toList=aQ t.au one.word.data.toList/\B.data.toList=aQ t.au two.word.data.toList):=⟨by rw[n,dH],by rw[hB,dH]⟩
 have HT:Hid _:=hT;clear cB n hB hT ht r1 r2 ct c1 c2 S1 B1 ok o1 o2;go_enter (n233 L),Tryz.ntmps233;go_upto_region 1 with fail;rw[<-S,<-h2,<-h1,<-h0];clear S h0 h1 h2;go_cut [7,8]from 10 (λs7 s8 v=>∃X Y,s7=.pointer (some ⟨X,0,none⟩)/\s8=.pointer (some ⟨Y,0,none⟩)/\v.cell? ⟨X,0,none⟩=some (.string A)/\v.cell? ⟨Y,0,none⟩=some (.string B)/\ae w1 v/\Below w.heap.size w v)
 case first=>
  refine wp_region_any (by kernel_rfl) ?_;refine j7 (I:=λs a W=>∃x7 x8 y C E F G H J M:Value,a=⟨#[.agg #[v0,v1,v2],.agg #[.string one.name,.string one.word,f1,.int .i64 one.day,.bool one.known],.agg #[.string two.name,.string two.word,f2,.int .i64 two.day,.bool two.known],.pointer (some ⟨N0,0,none⟩),.pointer (some ⟨N1,0,none⟩),.pointer (some ⟨N2,0,none⟩),.int .i64 0,x7,x8,undef,y,C,E,F,G,H,J,M,undef,undef,undef,undef,undef,undef,undef,undef,undef,undef,undef,undef,undef,undef,undef],[]⟩/\ae w1 W/\Below w.heap.size w W/\Agr s 0 [y,C,E,F,G,H,J,M] [.agg #[v0,v1,v2],.pointer (some ⟨N1,1,none⟩),.string one.word,.string A,.agg #[v0,v1,v2],.pointer (some ⟨N2,1,none⟩),.string two.word,.string B]/\(s.getD 8 false=true->∃X,x7=.pointer (some ⟨X,0,none⟩)/\fN w1 W 9 X/\(s.getD 10 false=true->W.cell? ⟨X,0,none⟩=some (.string A)))/\(s.getD 9 false=true->∃Y,x8=.pointer (some ⟨Y,0,none⟩)/\fN w1 W 9 Y/\(s.getD 11 false=true->W.cell? ⟨Y,0,none⟩=some (.string B)))/\(s.getD 8 false=true->s.getD 9 false=true->x7≠x8)/\(s.getD 10 false=true->s.getD 8 false=true)/\(s.getD 11 false=true->s.getD 9 false=true)/\s.size=12/\w1.heap.size<=W.heap.size) ?step ?fin _ _ _ _ (by simp) ?start;case start=>exact⟨_,_,_,_,_,_,_,_,_,_,rfl,ae.refl w1,BW.out.drew,Agr.start rfl,by simp⟩
  case fin=>rintro s a W ⟨x7,x8,y,C,E,F,G,H,J,M,rfl,b,d,n,N,O,kd,ke,R,j,l⟩ hr;have D:=λk (hk:k<12)=>CO j (by kernel_rfl) hr (k+1) k (Tl k) hk;obtain⟨X,rfl,_,hX⟩:=N (D 8 (by decide));obtain⟨Y,rfl,_,hY⟩:=O (D 9 (by decide));have ak:=hX (D 10 (by decide));have an:=hY (D 11 (by decide));clear D n N O kd ke R;go_wp2;go_meet;exact⟨X,Y,rfl,rfl,ak,an,b,d⟩
  case step=>
   rintro s a W i ⟨x7,x8,y,C,E,F,G,H,J,M,rfl,b,d,n,N,O,kd,ke,R,j,l⟩ hr;obtain⟨ab,o,ho,r⟩:=mem_ready.1 hr;have hi:i<12:=(R7.1 ho).1;clear hr;obtain rfl|rfl|rfl|rfl|rfl|rfl|rfl|rfl|rfl|rfl|rfl|rfl:i=8\/i=9\/i=10\/i=11\/i=3\/i=7\/i=0\/i=1\/i=2\/i=4\/i=5\/i=6:=by omega
   all_goals
    obtain rfl:=SD ho;clear ho hi
    (try (have e:=n.dep r 0 rfl rfl;(conv at e=>lhs;whnf);(conv at e=>rhs;whnf);subst e))
    (try (have e:=n.dep r 1 rfl rfl;(conv at e=>lhs;whnf);(conv at e=>rhs;whnf);subst e))
    refine wpOp_step rfl λK' ad=>?_;have V:Hid (∀a w,_->K' a w):=ad;clear ad
   ·go_simp
    refine V.out _ _ ⟨_,_,_,_,_,_,_,_,_,_,rfl,(b.trans (ae.alloc _ _)),(d.alloc d.size _),n.set _,
     (λh=>⟨_,rfl,fN.new l _,λc=>absurd (ke (aK c (by decide))) (fE ab)⟩),
     (λh=>by
     obtain⟨Y,e1,f,e3⟩:=O (aK h (by decide));exact⟨Y,e1,f.stays (ae.alloc _ _),λc=>(ae.alloc _ _).cell (e3 (aK c (by decide)))⟩),
     (λh c=>by
     obtain⟨Y,e1,f,e3⟩:=O (aK c (by decide));rw[e1];intro e;cases e;have:=f.lt;omega),
     (λh=>bf (ke (aK h (by decide)))),(λh=>bf (R (aK h (by decide)))),by rw[SF];exact j,(by simp;omega)⟩
   ·go_simp
    refine V.out _ _ ⟨_,_,_,_,_,_,_,_,_,_,rfl,(b.trans (ae.alloc _ _)),(d.alloc d.size _),n.set _,
     (λh=>by
     obtain⟨X,e1,f,e3⟩:=N (aK h (by decide));exact⟨X,e1,f.stays (ae.alloc _ _),λc=>(ae.alloc _ _).cell (e3 (aK c (by decide)))⟩),
     (λh=>⟨_,rfl,fN.new l _,λc=>absurd (R (aK c (by decide))) (fE ab)⟩),
     (λh c=>by
     obtain⟨Y,e1,f,e3⟩:=N (aK h (by decide));rw[e1];intro e;cases e;have:=f.lt;omega),
     (λh=>bf (ke (aK h (by decide)))),(λh=>bf (R (aK h (by decide)))),by rw[SF];exact j,(by simp;omega)⟩
   ·have d8:=r ⟨8,.data⟩ (by simp) rfl
    obtain⟨B0,rfl,x,_⟩:=N d8;obtain⟨cv,U⟩:=x.cell;have ao:=x.frozen;go_simp;refine V.out _ _ ⟨_,_,_,_,_,_,_,_,_,_,rfl,(ae.vy b x.1 _),(d.setCell (p:=⟨B0,0,none⟩) (R3 T x.1) _),n.set _,
     (λh=>⟨B0,rfl,x.set,λ_=>World.cell?_setCell_same' _ _ _ (by rw[U];rfl)⟩),
     (λh=>by
     have hh:=aK h (by decide);obtain⟨Y,e1,f,e3⟩:=O hh;have u:Y≠B0:=λe=>kd d8 hh (by rw[e1,e]);exact⟨Y,e1,f.other u,λc=>(df (Below.heap_setCell W ⟨B0,0,none⟩ _ Y u)).trans (e3 (aK c (by decide)))⟩),
     (λh c=>kd (aK h (by decide)) (aK c (by decide))),
     (λ_=>bf d8),(λh=>bf (R (aK h (by decide)))),by rw[SF];exact j,(by simp[World.setCell];exact l)⟩
   ·have d9:=r ⟨9,.data⟩ (by simp) rfl
    obtain⟨B0,rfl,x,_⟩:=O d9;obtain⟨cv,U⟩:=x.cell;have ao:=x.frozen;go_simp;refine V.out _ _ ⟨_,_,_,_,_,_,_,_,_,_,rfl,(ae.vy b x.1 _),(d.setCell (p:=⟨B0,0,none⟩) (R3 T x.1) _),n.set _,
     (λh=>by
     have hh:=aK h (by decide);obtain⟨Y,e1,f,e3⟩:=N hh;have u:Y≠B0:=λe=>kd hh d9 (by rw[e1,e]);exact⟨Y,e1,f.other u,λc=>(df (Below.heap_setCell W ⟨B0,0,none⟩ _ Y u)).trans (e3 (aK c (by decide)))⟩),
     (λh=>⟨B0,rfl,x.set,λ_=>World.cell?_setCell_same' _ _ _ (by rw[U];rfl)⟩),
     (λh c=>kd (aK h (by decide)) (aK c (by decide))),
     (λh=>bf (ke (aK h (by decide)))),(λ_=>bf d9),by rw[SF];exact j,(by simp[World.setCell];exact l)⟩
   iterate 2
    have p1:=q1 W b;have p2:=q2 W b;go_simp;go_at_call 53
    first|refine p1.mono ?_|refine p2.mono ?_
    rintro e w4 ⟨rfl,m⟩;dsimp only;refine V.out _ _ ⟨_,_,_,_,_,_,_,_,_,_,rfl,(b.trans (ae.below m)),(d.trans (m.mono d.size)),n.set _,
     (λh=>by
     obtain⟨X,e1,f,e3⟩:=N (aK h (by decide));exact⟨X,e1,f.stays (ae.below m),λc=>(ae.below m).cell (e3 (aK c (by decide)))⟩),
     (λh=>by
     obtain⟨Y,e1,f,e3⟩:=O (aK h (by decide));exact⟨Y,e1,f.stays (ae.below m),λc=>(ae.below m).cell (e3 (aK c (by decide)))⟩),
     (λh c=>kd (aK h (by decide)) (aK c (by decide))),
     (λh=>bf (ke (aK h (by decide)))),(λh=>bf (R (aK h (by decide)))),by rw[SF];exact j,R3 l m.size⟩
   all_goals
    have c0:=b.cell t0;have c1:=b.cell t1;have c2:=b.cell t2;have c3:=b.cell a1;have c4:=b.cell b1;go_simp;refine V.out _ _ ⟨_,_,_,_,_,_,_,_,_,_,rfl,b,d,n.set _,
     (λh=>by
     obtain⟨X,e1,f,e3⟩:=N (aK h (by decide));exact⟨X,e1,f,λc=>e3 (aK c (by decide))⟩),
     (λh=>by
     obtain⟨Y,e1,f,e3⟩:=O (aK h (by decide));exact⟨Y,e1,f,λc=>e3 (aK c (by decide))⟩),
     (λh c=>kd (aK h (by decide)) (aK c (by decide))),
     (λh=>bf (ke (aK h (by decide)))),(λh=>bf (R (aK h (by decide)))),by rw[SF];exact j,l⟩
 case rest=>
  obtain⟨X,Y,rfl,rfl,hX,hY,Sx,Bx⟩:=hcut;have ar:=Sx.cell t2;have af:=IsTable.stays Sx HT.out;have q:=uv L A B X Y wc hX hY af.2.2;have Z:Hid _:=IQ t A B;have ax:∀(fn:Fn) (first cap:Array Value) (w:World),(Instr.makeFunc fn first cap).run (Qs fs) w=.ok (.func fn first cap) w:=λ_ _ _ _=>rfl;obtain⟨z,hz⟩:=ex (t.bl.any λg=>(g.any λs=>decide (s=A))&&(g.any λs=>decide (s=B)));rw[<-hz]at q Z;rw[aa.out.1,aa.out.2]at Z;have P:Hid _:=Bx;clear hz af HT q1 q2 t0 t1 t2 a1 b1 Sx Bx T;cases z with
  |true=>
   have HV:Hid (ga t (aQ t.au one.word.data.toList) (aQ t.au two.word.data.toList)=100):=by rw[Hid,Z.out];simp
   go_wp2_with (first|(go_at_call 234;refine q.mono ?_;clear q;rintro e w3 ⟨rfl,rfl⟩))
   go_ret;exact⟨by rw[HV.out];rfl,P.out⟩
  |false=>
   by_cases Q:A=B
   ·subst Q
    cases ag:A.toList.isEmpty with
    |true=>
     have HV:Hid (ga t (aQ t.au one.word.data.toList) (aQ t.au two.word.data.toList)=0):=by rw[Hid,Z.out,ag];simp
     go_wp2_with (first|(go_at_call 234;refine q.mono ?_;clear q;rintro e w3 ⟨rfl,rfl⟩))
     go_ret;exact⟨by rw[HV.out];rfl,P.out⟩
    |false=>
     have HV:Hid (ga t (aQ t.au one.word.data.toList) (aQ t.au two.word.data.toList)=100):=by rw[Hid,Z.out,ag];simp
     go_wp2_with (first|(go_at_call 234;refine q.mono ?_;clear q;rintro e w3 ⟨rfl,rfl⟩))
     go_ret;exact⟨by rw[HV.out];rfl,P.out⟩
   ·have HV:Hid (ga t (aQ t.au one.word.data.toList) (aQ t.au two.word.data.toList)=0):=by rw[Hid,Z.out,R8 Q];simp
    have u:(A.toList==B.toList)=false:=by rw[Sw,Lib.toList_data,Lib.toList_data];exactλe=>Q (pQ e)
    clear Q;go_wp2_with (first|(go_at_call 234;refine q.mono ?_;clear q;rintro e w3 ⟨rfl,rfl⟩))
    go_ret;exact⟨by rw[HV.out];rfl,P.out⟩
def gO(w:World)(g n:Nat)(f:Nat->UInt8):Prop:=∃c F,w.heap[g]? =some (.cells c 5 F)/\n<=F.1/\∀j,j<n->c[j]? =some (.int .u8 ((f j).toNat:Int))
def gO.cell{w g n f}(h:gO w g n f){j}(a:j<n):w.cell? ⟨g,j,none⟩=some (.int .u8 ((f j).toNat:Int)):=by obtain⟨c,F,b,_,d⟩:=h;exact cell_of_heap b j _ (d j a)
def gO.frozen{w g n f}(h:gO w g n f){j}(b:j<n):w.frozen? ⟨g,j,none⟩=false:=by obtain⟨c,F,a,d,_⟩:=h;unfold World.frozen?;simp only[a];have:decide (F.1<=j)=false:=R8 (by omega);rw[this];rfl
def gO.congr{w g n}{f f':Nat->UInt8}(h:gO w g n f)(e:∀j,j<n->f j=f' j):gO w g n f':=by obtain⟨c,F,b,d,i⟩:=h;exact⟨c,F,b,d,λj a=>by rw[<-e j a];exact i j a⟩
def gO.set{w g n f}(h:gO w g n f){i}(x):gO (w.setCell ⟨g,i,none⟩ (.int .u8 (x.toNat:Int))) g n (λj=>if j=i then x else f j):=by
 obtain⟨c,F,b,d,k⟩:=h;refine⟨c.setIfInBounds i (.int .u8 (x.toNat:Int)),F,?_,d,λj l=>?_⟩
 ·have m:(w.heap.modify g λo=>match o with| .cells c e F=>.cells (c.setIfInBounds i (.int .u8 (x.toNat:Int))) e F|o=>o)[g]? =some (.cells (c.setIfInBounds i (.int .u8 (x.toNat:Int))) 5 F):=by rw[Tb,b];simp
  exact m
 ·have a:=k j l
  have p:=(R7.1 a).1;by_cases e:j=i
  ·subst e
   show(c.setIfInBounds j _)[j]? =some (.int .u8 ((if j=j then x else f j).toNat:Int));rw[RZ rfl,Vt p]
  ·show(c.setIfInBounds i _)[j]? =some (.int .u8 ((if j=i then x else f j).toNat:Int))
   rw[RY e,Si (Sn e)];exact a
def gO.of_block{w w' g n f}(h:gO w g n f)(e:w'.heap[g]? =w.heap[g]?):gO w' g n f:=by obtain⟨c,F,a,b,d⟩:=h;exact⟨c,F,by rw[e];exact a,b,d⟩
def gO.stays{w w' g n f}(h:gO w g n f)(a:ae w w'):gO w' g n f:=by obtain⟨c,F,b,d,e⟩:=h;exact⟨c,F,a _ _ _ _ b,d,e⟩
def pY(s:ByteArray)(j:Nat):UInt8:=s.data.toList.getD j 0
def IS{s j}(a:j<s.size):pY s j=s[j]:=by unfold pY;rw[UB,Lib.data_getElem? s j a];rfl
def NG(fs s w):∃cap w',(convert 9 120 (.string s)).run (Qs fs) w=.ok (.slice (some ⟨w.heap.size,0,none⟩) s.size cap) w'/\s.size<=cap/\gO w' w.heap.size s.size (pY s)/\Below w.heap.size w w':=by
 have h:=run_bytes_of_string (P:=Qs fs) w 9 120 5 s (by rw[aI];exact Tryz.underlying9) (by rw[aI];exact Tryz.underlying120) (by rw[aI];exact Tryz.underlying5);refine⟨_,_,h,grownCap_ge _ _ _ _,⟨_,_,SY,?_,λj a=>?_⟩,(Below.refl _ _).drew.alloc (R2 _) _⟩
 ·show s.size<=(bytesRow s _).size
  unfold bytesRow;rw[Array.size_append,TL];exact Vu _ _
 ·rw[bytesRow_at s _ j a,IS a]
  rfl
def NH(fs){w g n cap f}(h:gO w g n f):(convert 120 9 (.slice (some ⟨g,0,none⟩) n cap)).run (Qs fs) w=.ok (.string (bs ((List.range n).map f))) w:=by
 have a:((List.range n).map f).length=n:=by simp
 have c:=run_convert_bytes_back (P:=Qs fs) w 120 9 5 ⟨g,0,none⟩ cap ((List.range n).map f) (by rw[aI];exact Tryz.underlying120) (by rw[aI];exact Tryz.underlying5) (by rw[aI];exact Tryz.underlying9) (λj b=>by rw[e9,Se,UD,Vv];exact h.cell (by omega))
 rw[a]at c;exact c
def nN(f:Nat->UInt8)(n i k:Nat):UInt8:=if k<i\/n<=k+i then f (n-1-k)else f k
def IT(g n cap:Nat)(f:Nat->UInt8)(w:World)(o:gO w g n f)(K:n<=1000000)(p:n<=cap):
 Calls (Qs fs) 237 #[.slice (some ⟨g,0,none⟩) n cap] w λe w'=>e=.returned (.tuple #[])/\gO w' g n (λk=>f (n-1-k))/\Stp w.heap.size g w w':=by
 have B:Hid _:=o;clear o;go_enter (n237 L),Tryz.ntmps237;go_wp2;go_loopw [2,3] (λd C wr=>∃(i:Nat) (j:Int),d=.int .i64 i/\C=.int .i64 j/\j=(n:Int)-1-i/\i<=n/\gO wr g n (nN f n i)/\Stp w.heap.size g w wr) (λd _ _=>n-(intOf d).toNat)
 case atStart=>refine⟨0,_,rfl,rfl,by omega,R9 _,gO.congr B.out λj h=>?_,Stp.refl _ _ _⟩;unfold nN;rw[RY (by omega)]
 case round=>
  obtain⟨i,j,rfl,rfl,h,M,a,b⟩:=hrel;have c:Hid (gO wr g n (nN f n i)/\Stp w.heap.size g w wr):=⟨a,b⟩
  by_cases D:(i:Int)<j
  ·obtain⟨q,rfl⟩:∃q:Nat,j=q:=⟨j.toNat,by omega⟩
   have r:=a.cell (show i<n by omega);have s:=a.cell (show q<n by omega);have N:=a.frozen (show i<n by omega);have O:=a.frozen (show q<n by omega);have t:nN f n i i=f i:=by unfold nN;rw[RY (by omega)]
   have eq:nN f n i q=f q:=by unfold nN;rw[RY (by omega)]
   rw[t]at r;rw[eq]at s;have E:i≠q:=by omega
   have F:(i:Int)<(n:Int):=by omega
   have G:(q:Int)<(n:Int):=by omega
   have H:Hid ((q:Int)=(n:Int)-1-i):=h;obtain⟨x,l⟩:=ex (f i);obtain⟨y,m⟩:=ex (f q);rw[<-l]at r;rw[<-m]at s;have u:Hid (x=f i/\y=f q):=⟨l,m⟩
   clear a b l m t eq h;go_wp2
   go_region
   go_wp2;have I:=H.out;refine⟨⟨i+1,(q:Int)-1,by go_num,rfl,by omega,by omega,?_,?_⟩,by simp[intOf];omega⟩
   ·refine gO.congr (gO.of_block (gO.set (i:=q) (gO.set (i:=i) c.out.1 y) x) rfl) λk J=>?_
    show(if k=q then x else if k=i then y else nN f n i k)=nN f n (i+1) k;unfold nN;by_cases v:k=q
    ·rw[RZ v,RZ (by omega),u.out.1]
     congr 1;omega
    ·rw[RY v]
     by_cases z:k=i
     ·rw[RZ z,RZ (by omega),u.out.2]
      congr 1;omega
     ·rw[RY z]
      by_cases A:k<i\/n<=k+i
      ·rw[RZ A,RZ (by omega)]
      ·rw[RY A,RY (by omega)]
   ·exact(c.out.2.trans ((Stp.setCell wr i _).trans (Stp.setCell _ q _))).trans ⟨rfl,rfl,rfl,R2 _,λ_ _ _=>rfl⟩
  ·clear a b
   go_wp2
   go_end0
   refine⟨rfl,gO.congr c.out.1 λk J=>?_,c.out.2⟩;unfold nN;split
   ·rfl
   ·congr 1;omega
def Fy(B):(List.range B.size).map (λk=>pY B (B.size-1-k))=B.data.toList.reverse:=by
 refine Vq (by rw[Th,Vw,UN,Lib.size_eq]) λi b c=>?_;rw[UD,Vv,List.getElem_reverse];have d:i<B.size:=by simpa using b
 have a:B.size-1-i<B.data.toList.length:=by rw[<-Lib.size_eq];omega
 unfold pY;rw[UB,SK a,TZ]
 congr 1
def NI{K:Nat->Prop}{v0 v1 v2:Value}{t:Table}{m1 m2:Array Value}{one two:Mark}(w:World)(ht:IsTable K w v0 v1 v2 t)(D:OkT t)(u:de K w m1 one)(v:de K w m2 two)(o1:OkM one)(o2:OkM two):
 Calls (Qs fs) 236 #[.agg #[v0,v1,v2],.agg m1,.agg m2] w λe w'=>e=.returned (.int .i64 (dG (aQ t.au one.word.data.toList) (aQ t.au two.word.data.toList).reverse))/\Below w.heap.size w w':=by
 have e53:=e53 L;have Il:=Il L;have QA:=QA L;obtain⟨f1,rfl,r1⟩:=u;obtain⟨f2,rfl,r2⟩:=v;obtain⟨w1,g⟩:=ex (((w.alloc (.cells #[v0,v1,v2] 100)).alloc (.cells #[.string one.name,.string one.word,f1,.int .i64 one.day,.bool one.known] 38)).alloc (.cells #[.string two.name,.string two.word,f2,.int .i64 two.day,.bool two.known] 38));obtain⟨S1,Q,ct,c1,c2⟩:=iI w _ _ _ _ _ _ w1 g;have R:=ct 0 _ rfl;have S:=ct 1 _ rfl;have T:=ct 2 _ rfl;have a1:=c1 1 _ rfl;have b1:=c2 1 _ rfl;have j:w1.heap.size=w.heap.size+3:=by rw[g];simp
 have c:=ht.1.below;obtain⟨N0,J⟩:=ex (w.heap.size);obtain⟨N1,u⟩:=ex (w.heap.size+1);obtain⟨N2,v⟩:=ex (w.heap.size+1+1);rw[<-v]at b1;rw[<-u]at a1;rw[<-J]at R S T;have BW:Hid (Below w.heap.size w w1):=Q;have C:Hid (N0=w.heap.size/\N1=w.heap.size+1/\N2=w.heap.size+1+1/\w1.heap.size=w.heap.size+3):=⟨J,u,v,j⟩
 have an:Hid (aE (λb=>b<w.heap.size) 2 dh w v0 t.au):=c;have l:Hid (∀M,(∀b,b<w.heap.size->M.heap[b]? =w.heap[b]?)->aE (λb=>b<w.heap.size) 2 dh M v0 t.au):=λM h=>c.blocks h;have r:=dI D one.word.data.toList;have s:=dI D two.word.data.toList;rw[<-Lib.size_eq,<-db]at r s;have U:=o1.word;have V:=o2.word;have HO:Hid (∀p∈t.au,1<=p.1.size/\p.1.size<=4/\p.2.size<=3):=D.lets;have W:=sH L (v1:=v1) (v2:=v2) two.word w1 (l.out w1 λb E=>Q.block b E) D.lets (by omega);obtain⟨A,N⟩:=ex (bs (aQ t.au one.word.data.toList));obtain⟨B,X⟩:=ex (bs (aQ t.au two.word.data.toList));have F:A.data.toList=aQ t.au one.word.data.toList:=by rw[N,dH]
 have G:B.data.toList=aQ t.au two.word.data.toList:=by rw[X,dH]
 rw[<-N]at r;rw[<-X]at s W;have i:Hid (A.data.toList=aQ t.au one.word.data.toList/\B.data.toList=aQ t.au two.word.data.toList/\A=bs (aQ t.au one.word.data.toList)):=⟨F,G,N⟩
 have O:Hid (A.size<=48/\B.size<=48/\one.word.size<=16):=⟨by omega,by omega,by omega⟩
 clear N X F G r s U V ht r1 r2 ct c1 c2 S1 Q D o1 o2 c j;go_enter (n236 L),Tryz.ntmps236;go_upto_region 1 with fail;rw[<-g,<-v,<-u,<-J];clear g J u v;go_upto_region 3 with(first|(go_at_call 53;refine W.mono ?_;clear W;rintro e w2 ⟨rfl,d⟩;obtain⟨cap,w3,Y,m,n,f⟩:=NG fs B w2)|(go_at_call 237;refine(IT L w2.heap.size B.size cap (pY B) w3 n (by have:=O.out;omega) m).mono ?_;clear Y;rintro e w4 ⟨rfl,o,a⟩))
 have H:Hid (∀b,b<w.heap.size+3->w4.heap[b]? =w1.heap[b]?):=λb E=>by have s1:=C.out.2.2.2;have s2:=d.size;have s3:=f.size;rw[a.block b (by omega) (by omega),f.block b (by omega),d.block b (by omega)]
 have I:Hid (Below w.heap.size w w4):=by have s1:=C.out.2.2.2;have s2:=d.size;exact(BW.out.trans ((d.mono (by omega)).trans (f.mono (by omega)))).trans ⟨a.os,a.tape,a.output,a.size,λb E=>a.block b (by have:=f.size;omega) (by omega)⟩
 have Z:Hid (gO w4 w2.heap.size B.size (λk=>pY B (B.size-1-k))):=o;have aa:=λx:aj w w4=>x.cell ((df (H.out N0 (by have:=C.out;omega))).trans R);have ab:=λx:aj w w4=>x.cell ((df (H.out N0 (by have:=C.out;omega))).trans S);have ad:=λx:aj w w4=>x.cell ((df (H.out N0 (by have:=C.out;omega))).trans T);have af:=λx:aj w w4=>x.cell ((df (H.out N1 (by have:=C.out;omega))).trans a1);have q1:∀x:aj w w4,Calls (Qs fs) 53 #[.agg #[v0,v1,v2],.string one.word] x.val λe w'=>e=.returned (.string A)/\∃y:aj w w4,w'=y.val:=λx=>by rw[i.out.2.2];exact aj.calls (sH L one.word x.val ((l.out w4 λb E=>(H.out b (by omega)).trans (BW.out.block b E)).yS x.st) HO.out (by have:=O.out;omega))
 have q:∀x:aj w w4,(convert 120 9 (.slice (some ⟨w2.heap.size,0,none⟩) B.size cap)).run (Qs fs) x.val=.ok (.string (bs B.data.toList.reverse)) x.val:=λx=>by have h:=NH fs (cap:=cap) (gO.stays Z.out x.st);rw[Fy]at h;exact h
 have P:∀x:aj w w4,Calls (Qs fs) 231 #[.string A,.string (bs B.data.toList.reverse)] x.val λe w'=>e=.returned (.int .i64 (dG A.data.toList (bs B.data.toList.reverse).data.toList))/\∃y:aj w w4,w'=y.val:=λx=>aj.calls (Ac L A _ x.val O.out.1 (by rw[db,UN,<-Lib.size_eq];exact O.out.2.1))
 rw[dH,i.out.1,i.out.2.1]at P;rw[i.out.2.1]at q;obtain⟨z,hz⟩:=ex (dG (aQ t.au one.word.data.toList) (aQ t.au two.word.data.toList).reverse);rw[<-hz]at P;have ag:Hid _:=hz;clear hz d f a o n R S T a1 b1 m;refine aY (w0:=w) (w1:=w4) (by kernel_rfl) (by kernel_rfl) (ae.refl _) I.out ?_;haveI ak:Nonempty (aj w w4):=⟨⟨w4,ae.refl _,I.out⟩⟩
 repeat (go_big_quiet_step (first|(go_at_call 53;exact q1 _)|(go_at_call 231;exact P _)))
 refine wpQuiet_nil ?_;rintro M ⟨⟨_,Sx,Bx⟩,rfl⟩;have BX:Hid _:=Bx;clear q1 P q aa ab ad af ak Bx Sx;go_wp2;go_ret;exact⟨by rw[<-ag.out];rfl,BX.out⟩
end Go.Proofs

import Derived.Test.YtaglpcmhopjebaaGreatDoorY31
set_option linter.all false
set_option maxRecDepth 100000
set_option maxHeartbeats 20000000
namespace Go.Proofs
open Go.Tm Go.RowKit
variable {fs:Array Func} (L:bQ fs)
def fnV(b:Nat):Value:=.func (.func 138) #[] #[.pointer (some ⟨b,0,none⟩)]
structure zZ(B:Nat)(w:World)(v:Value)(so:List Nat)(ps:List Pr2):Prop where
 own:w.ownsRow B 101 1 v so.length (so.map fnV)
 len:so.length=ps.length
 box:∀j (h:j<so.length) (h':j<ps.length),w.heap[so[j]]? =some (.cells #[.string ps[j].1,.string ps[j].2] 51 (0,0))
def MD:((Tryz.prog).info? 101).map (λi=>(i.zero,i.size,i.bytes))=some (some .nilFunc,1,8):=by kernel_rfl
def Ht(fs):((Qs fs).info? 101).map (λi=>(i.zero,i.size,i.bytes))=some (some .nilFunc,1,8):=MD
def yI{w:World}{B e k n:Nat}{v xs}(h:w.ownsRow B e k v n xs){b}(c:v.ownBlock=some b):∃a F,w.heap[b]? =some (.cells a e F):=by
 obtain⟨rfl,_⟩|⟨g,cap,a,rfl,f,d,_⟩:=h.2
 ·cases c
 ·cases c;exact⟨_,_,d⟩
def J6{w w'}(h:ae w w'){b c e F}(a:w.heap[b]? =some (.cells c e F)):b<w'.heap.size:=(Rx.1 (h b c e F a)).1
def ME{K:Nat->Prop}{v0 v1 v2:Value}{l:List kY}(k:Nat)(w:World)(ht:aB K 2 fW w v1 l)(hk:k<l.length)(hn:l[k].aY.length<=100):
 Calls (Qs fs) 112 #[.agg #[v0,v1,v2],.int .i64 k] w λe w'=>∃v so,e=.returned v/\zZ w.heap.size w' v so l[k].aY/\Below w.heap.size w w':=by
 obtain⟨i0,hi,W,X,Y⟩:=info_parts (Ht fs);have ay:∀(fn:Fn) (first cap:Array Value) (w:World),(Instr.makeFunc fn first cap).run (Qs fs) w=.ok (.func fn first cap) w:=λ_ _ _ _=>rfl;obtain⟨w1,d⟩:=ex (w.alloc (.cells #[v0,v1,v2] 100));have Z:ae w w1:=by rw[d];exact ae.alloc _ _
 have B1:Below w.heap.size w w1:=by rw[d];exact aF _ _
 have ct:w1.cell? ⟨w.heap.size,1,none⟩=some v1:=by rw[d];exact aw w _ 100 1 _ rfl
 have aa:aB K 2 fW w1 v1 l:=ht.stays Z λb b' o x e h=>by subst e;exact fW.carry (Carry.keep Z) b b o x rfl h
 obtain⟨ao,c,rfl,aM,hc,_,s⟩:=aa;obtain⟨b,p,rfl,_,vs,M,A⟩:=s k hk;have O:=A;obtain⟨ab,c2,rfl,C,a1,P,g⟩:=A;have HC:Hid (∀wr,ae w1 wr->∀j (hj:j<l[k].aY.length),∃b p,ab=some ⟨b,p,none⟩/\wr.cell? ⟨b,p+j*2,none⟩=some (.string l[k].aY[j].1)/\wr.cell? ⟨b,p+j*2+1,none⟩=some (.string l[k].aY[j].2)):=λwr hs j hj=>by obtain⟨b,p,e,h1,G⟩:=g j hj;exact⟨b,p,e,hs.cell h1,hs.cell G⟩
 obtain⟨ps,Q⟩:=ex (l[k].aY);rw[<-Q]at hn HC M C⊢;obtain⟨N,D⟩:=ex (w.heap.size);rw[<-D]at ct B1;have R:Hid (Below N w w1/\w1.heap.size=N+1):=⟨B1,by rw[d,D];simp⟩
 have HN:Hid _:=D;have ad:Hid (∃cc,w1.heap[N]? =some (.cells cc 100)):=⟨_,by rw[d,D];exact World.alloc_heap_new w _⟩
 have a6:(k:Int)<(l.length:Int):=by omega
 rw[<-D];clear g s P Q O ht Z B1;go_enter (n112 L),Tryz.ntmps112;go_upto_region 1 with fail;rw[<-d,<-D];clear d D;go_wp2;go_loopw [5,16] (λo i wr=>∃(H:Value) (j:Nat) (so:List Nat),H=o/\i=.int .i64 j/\j<=ps.length/\so.length=j/\wr.ownsRow (N+1) 101 1 H j (so.map fnV)/\(∀q (h:q<so.length) (T:q<ps.length),wr.heap[so[q]]? =some (.cells #[.string ps[q].1,.string ps[q].2] 51 (0,0)))/\ae w1 wr/\Below N w wr) (λo i _=>ps.length-(intOf i).toNat)
 case atStart=>exact⟨_,0,[],rfl,rfl,RA _,rfl,World.ownsRow_nil _ _ _ _,λq h=>absurd h (RZ _),ae.refl _,R.out.1⟩
 case round=>
  obtain⟨H,j,so,rfl,rfl,hj,z,a,m,r,n⟩:=hrel;obtain af|hge:=Ry j ps.length
  ·obtain⟨b2,ax,rfl,x0,x1⟩:=HC.out wr r j af
   have a7:(j:Int)<(ps.length:Int):=by omega
   obtain⟨pp,E⟩:=ex (ps[j]);rw[<-E]at x0 x1;have HP:Hid _:=E;have f:Hid (so.length=j/\wr.ownsRow (N+1) 101 1 H j (so.map fnV)/\(∀q (h:q<so.length) (T:q<ps.length),wr.heap[so[q]]? =some (.cells #[.string ps[q].1,.string ps[q].2] 51 (0,0)))/\ae w1 wr/\Below N w wr):=⟨z,a,m,r,n⟩
   have a8:N+1<=wr.heap.size:=ad.out.elim λ_ h=>J6 r h;clear E z m r n;go_wp2_with (first|(at_builtin;refine wpList_append_own _ rfl _ _ 175 rfl (N+1) 101 i0 .nilFunc 1 8 Tryz.underlying175 hi W X Y rfl (by decide) _ _ _ rfl ((a.alloc _).alloc _) ⟨_,0,none⟩ 1 1 [fnV wr.heap.size] rfl rfl ?c1 ?c2 ?c3 ?c4 ?c5 ?_))
   case c1=>
    intro q u I;rw[dD,RB];have h:=aw (wr.alloc (.cells #[.string pp.1,.string pp.2] 51)) #[fnV wr.heap.size] 101 q u (by
     match q,I with
     |0,I=>exact I)
    rw[World.size_alloc]at h;exact h
   case c2=>intro u I;simp at I;subst I;rfl
   case c3=>unfold maxLen;omega
   case c4=>omega
   case c5=>simp;omega
   intro v' w4 t y _;have U:Hid _:=y;have ag:Hid _:=t;clear a y t;go_wp2;refine⟨⟨_,j+1,so++[wr.heap.size],rfl,by go_num,by omega,by rw[RM,f.out.1];rfl,by rw[TA];exact ag.out,?_,?_,?_⟩,by simp[intOf];omega⟩
   ·intro q h T
    have ak:∀B c e F,wr.heap[B]? =some (.cells c e F)->e≠101->H.ownBlock≠some B:=λB c e F hB he hv=>by obtain⟨al,F',G⟩:=yI f.out.2.1 hv;rw[hB]at G;cases G;exact he rfl
    by_cases V:q<so.length
    ·rw[List.getElem_append_left V]
     have J:=f.out.2.2.1 q V T;have hl:=(Rx.1 J).1;rw[U.out.block _ (by simp;omega) (λe=>ak _ _ _ _ J (by decide) e.symm),Below.heap_alloc _ _ _ (by simp;omega),Below.heap_alloc _ _ _ hl];exact J
    ·obtain rfl:q=so.length:=by rw[RM]at h;simp at h;omega
     rw[List.getElem_append_right (Rq _)];simp only[Nat.sub_self,UR];have S:ps[so.length]=pp:=by rw[HP.out];simp only[f.out.1]
     rw[S,U.out.block _ (by simp;omega) (λe=>by obtain⟨al,F',G⟩:=yI f.out.2.1 e.symm;have:=(Rx.1 G).1;omega),Below.heap_alloc _ _ _ (by simp)]
     exact World.alloc_heap_new wr _
   ·intro bk c e F J
    have hl:=(Rx.1 J).1;have hw:=f.out.2.2.2.1 bk c e F J;have an:=(Rx.1 hw).1;rw[U.out.block _ (by simp;omega) (λe=>by have:=dP f.out.2.1 _ e.symm;have:=R.out.2;omega),Below.heap_alloc _ _ _ (by simp;omega),Below.heap_alloc _ _ _ an]
    exact hw
   ·exact(((f.out.2.2.2.2).alloc (by omega) _).alloc (by simp;omega) _).grown U.out (by simp;omega) (λq V=>by have:=dP f.out.2.1 q V;omega)
  ·have ar:j=ps.length:=by omega
   subst ar;clear C M;have f:Hid (so.length=ps.length/\wr.ownsRow (N+1) 101 1 H ps.length (so.map fnV)/\(∀q (h:q<so.length) (T:q<ps.length),wr.heap[so[q]]? =some (.cells #[.string ps[q].1,.string ps[q].2] 51 (0,0)))/\ae w1 wr/\Below N w wr):=⟨z,a,m,r,n⟩
   clear z a m r n;go_wp2;go_ret;exact⟨_,so,rfl,⟨by rw[f.out.1];exact mE f.out.2.1 (by omega),f.out.1,f.out.2.2.1⟩,f.out.2.2.2.2⟩
def Hu{w:World}{B e k n:Nat}{v xs}(h:w.ownsRow B e k v n xs):∃ao cap,v=.slice ao n cap:=by
 obtain⟨rfl,a⟩|⟨g,cap,b,rfl,_⟩:=h.2
 ·exact⟨none,0,by rw[a]⟩
 ·exact⟨_,_,rfl⟩
def zZ.at{B w ao cap a c}(h:zZ B w (.slice ao a.length cap) a c){j}(d:j<a.length):∃g,ao=some ⟨g,0,none⟩/\w.cell? ⟨g,j,none⟩=some (fnV a[j]):=by
 have f:=h.own;obtain⟨_,k⟩|⟨g,b,i,e,_⟩:=h.own.2
 ·omega
 ·cases e
  refine⟨g,rfl,(f.cellAt j (by omega)).trans ?_⟩;rw[TE,R5 d];rfl
def Gy{K:Nat->Prop}{v0 v1 v2:Value}{t:Table}(k:Nat)(s:ByteArray)(w:World)(ht:IsTable K w v0 v1 v2 t)(H:OkT t)(hs:s.size<=300)(hk:k<t.aO.length)(hm:gZ w):
 Calls (Qs fs) 64 #[.agg #[v0,v1,v2],.int .i64 k,.string s] w λe w'=>e=.returned (.string (bs (bH t k s.data.toList)))/\Below w.heap.size w w':=by
 have e53:=e53 L;have Pn:=Pn L;have PE:=PE L;have n:Hid (bH t k s.data.toList=Et t.aO[k].aY (aR t.aC s.data.toList)):=sq hk s.data.toList;have I:=dG H s.data.toList;rw[<-Lib.size_eq]at I;obtain⟨w1,b⟩:=ex (w.alloc (.cells #[v0,v1,v2] 100));have S1:ae w w1:=by rw[b];exact ae.alloc _ _
 have X:Below w.heap.size w w1:=by rw[b];exact aF _ _
 have r:=ht.stays S1;have J:=hm.stays S1;have ct:∀i v,(#[v0,v1,v2]:Array Value)[i]? =some v->w1.cell? ⟨w.heap.size,i,none⟩=some v:=λi v h=>by rw[b];exact aw w _ 100 i v h
 have u:=ct 0 v0 rfl;have x:=ct 1 v1 rfl;have z:=ct 2 v2 rfl;have A:=sJ L (v1:=v1) (v2:=v2) s w1 r.1 H.lets (by omega);have c:=λwx (h:ae w1 wx)=>ME L (v0:=v0) (v2:=v2) k wx (r.stays h).2.1 hk (by have:=H.Gr t.aO[k] (RR _);omega);have M:Hid (∀p∈t.aO[k].aY,1<=p.1.size/\p.1.size<=3/\p.2.size<=p.1.size):=H.aY t.aO[k] (RR _);have O:t.aO[k].aY.length<=5:=H.Gr _ (RR _);obtain⟨ps,P⟩:=ex (t.aO[k].aY);rw[<-P]at c n M O;have Q:Hid ((bs (aR t.aC s.data.toList)).size<=900/\bs (aR t.aC s.data.toList)=bs (aR t.aC s.data.toList)):=⟨by rw[bE];omega,rfl⟩
 obtain⟨y0,R⟩:=ex (aR t.aC s.data.toList);rw[<-R]at A n Q;obtain⟨N,Y⟩:=ex (w.heap.size);rw[<-Y]at u x z X⊢;have aa:Hid (Below N w w1):=X;have HN:Hid _:=Y;have l:Hid (N<=w1.heap.size):=by have:=X.size;rw[Hid];omega
 have HM:Hid (gZ w1):=J;clear P R I ht r hm J S1 X ct;go_enter (n64 L),Tryz.ntmps64;go_upto_region 1 with fail;rw[<-b,<-Y];clear b Y;go_wp2_with (first|(go_at_call 53;refine A.mono ?_;clear A;rintro e w2 ⟨rfl,m⟩;have q:=c w2 (ae.below m);clear c;have S:=(ae.below m).cell u;have T:=(ae.below m).cell x;have U:=(ae.below m).cell z)|(go_at_call 112;refine q.mono ?_;clear q;rintro e w3 ⟨v,B,rfl,f,C⟩;obtain⟨ao,cap,rfl⟩:=Hu f.own))
 have HL:Hid (B.length=ps.length):=f.len;have HB:Hid (ae w1 w3/\Below N w w3):=⟨(ae.below m).trans (ae.below C),(aa.out.trans (m.mono l.out)).trans (C.mono (by have:=m.size;have:=l.out;omega))⟩
 have HR:Hid _:=f;clear m C f u x z S T U;go_loopw [7,17] (λo i wr=>∃(j:Nat) (y:Bs),j<=B.length/\i=.int .i64 j/\o=.string (bs y)/\(bs y).size<=900/\ae w3 wr/\Below N w wr/\Et (ps.drop j) y=bH t k s.data.toList) (λo i _=>B.length-(intOf i).toNat)
 case atStart=>exact⟨0,_,RA _,rfl,rfl,Q.out.1,ae.refl _,HB.out.2,n.out.symm⟩
 case round=>
  obtain⟨j,y,hj,rfl,rfl,hy,a,d,G⟩:=hrel;have ad:B.length<=5:=by have:=HL.out;omega
  have HX:Hid _:=G;have Z:Hid _:=(⟨a,d⟩:ae w3 wr/\Below N w wr)
  obtain V|hge:=Ry j B.length
  ·have D:j<ps.length:=by have:=HL.out;omega
   obtain⟨g,rfl,E⟩:=HR.out.at V;have E:=a.cell E;have F:=a _ _ _ _ (HR.out.box j V D);obtain⟨z1,z2,z3⟩:=M.out ps[j] (RR D);have ab:=jv z3 y;rw[<-bE,<-bE]at ab;have cR:=J2 L (bs y) ps[j] B[j] wr (by omega) (HM.out.stays (HB.out.1.trans a)) z1 (by omega) (cell_of_heap F 0 _ rfl) (cell_of_heap F 1 _ rfl);rw[bY]at cR;have af:(j:Int)<(B.length:Int):=by omega
   unfold fnV at E;clear G a d F;go_wp2_with (first|(go_at_call 138;refine cR.mono ?_;rintro e w4 ⟨rfl,W⟩))
   refine⟨⟨j+1,_,by omega,by go_num,rfl,by omega,Z.out.1.trans (ae.below W),Z.out.2.trans (W.mono (by have:=Z.out.2.size;have:=HN.out;omega)),?_⟩,by simp[intOf];omega⟩;rw[<-HX.out,yo _ _ D]
  ·clear G a d
   go_wp2;go_ret;have G:=HX.out;rw[RY (by have:=HL.out;omega)]at G;exact⟨by rw[<-G];rfl,Z.out.2⟩
def dI(kd:IntKind)(K:Nat->Prop)(w:World)(b o:Nat)(x:Int×Int×Int):Prop:=w.cell? ⟨b,o,none⟩=some (.int .i64 x.1)/\w.cell? ⟨b,o+1,none⟩=some (.int .i64 x.2.1)/\w.cell? ⟨b,o+2,none⟩=some (.int kd x.2.2)
def dI.keep{kd K w w'}(a:ae w w'){b o x}(h:dI kd K w b o x):dI kd K w' b o x:=⟨a.cell h.1,a.cell h.2.1,a.cell h.2.2⟩
def EN{a:Type}[DecidableEq a]{l m:List a}(b:l.length=m.length){j}(c:j<l.length)(h:l[j]≠m[j]'(b▸c)):decide (l=m)=false:=by refine Rz λe=>?_;subst e;exact h rfl
def EO{a:Type}[DecidableEq a]{l m:List a}(b:l.length=m.length)(h:∀j (c:j<l.length),l[j]=m[j]'(b▸c)):decide (l=m)=true:=RE (UU b λj d e=>h j d)
def EP{K:Nat->Prop}{v0 v1:Value}{l m:List (Int×Int×Int)}(w:World)(O:aB K 3 (dI .i64) w v0 l)(P:aB K 3 (dI .i64) w v1 m):
 Calls (Qs fs) 36 #[v0,v1] w λe w'=>e=.returned (.bool (decide (l=m)))/\Below w.heap.size w w':=by
 obtain⟨Q,c0,rfl,R,S,_,g0⟩:=O;obtain⟨a1,c1,rfl,T,U,_,D⟩:=P;obtain hlen|hlen:=UW (l.length=m.length)
 ·have f:((l.length:Int)!=(m.length:Int))=false:=by rw[hlen];simp
  have V:((m.length:Int)!=(m.length:Int))=false:=by simp
  have u:Hid (l.length=m.length):=hlen;have E:Hid ((∀j (F:j<l.length),∃b o,Q=some ⟨b,o,none⟩/\dI .i64 K w b (o+j*3) l[j])/\(∀j (F:j<m.length),∃b o,a1=some ⟨b,o,none⟩/\dI .i64 K w b (o+j*3) m[j])):=⟨g0,D⟩
  clear g0 D;go_enter (n36 L),Tryz.ntmps36;go_wp2;go_loopw [5] (λs wr=>∃j:Nat,j<=l.length/\s=.int .i64 j/\(∀q (d:q<l.length),q<j->l[q]=m[q]'(u.out▸d))/\Below w.heap.size w wr) (λs _=>l.length-(intOf s).toNat)
  case atStart=>exact⟨0,RA _,rfl,λq d h=>by omega,Below.refl _ _⟩
  case round=>
   obtain⟨j,F,rfl,f,a⟩:=hrel;have g:Hid ((∀q (d:q<l.length),q<j->l[q]=m[q]'(u.out▸d))/\Below w.heap.size w wr):=⟨f,a⟩
   obtain i|hge:=Ry j l.length
   ·have k:j<m.length:=by omega
    obtain⟨b,o,rfl,v,x,y⟩:=E.out.1 j i;obtain⟨b2,o2,rfl,z,A,B⟩:=E.out.2 j k;have c:=ae.below a;have v:=c.cell v;have x:=c.cell x;have y:=c.cell y;have z:=c.cell z;have A:=c.cell A;have B:=c.cell B;obtain⟨p,n⟩:=ex (l[j]);obtain⟨q,d⟩:=ex (m[j]);rw[<-n]at v x y;rw[<-d]at z A B;obtain⟨G,H,I⟩:=p;obtain⟨J,M,N⟩:=q;simp only[]at v x y z A B;have W:Hid _:=n;have X:Hid _:=d;have C:=Hl fs G H I J M N;have hG:=iH fs My .neq (.tmp 20) (.tmp 24);have Y:(j:Int)<(l.length:Int):=by omega
    have Z:(j:Int)<(m.length:Int):=by omega
    by_cases r:G=J/\H=M/\I=N
    ·rw[RE r]at C
     obtain⟨rfl,rfl,rfl⟩:=r;simp only[Tj]at C;clear f a c n d;go_wp2;go_quiet (fail);go_wp2;refine⟨⟨j+1,by omega,by go_num,λq d aa=>?_,g.out.2.fL _⟩,by simp[intOf];omega⟩;by_cases h:q<j
     ·exact g.out.1 q d h
     ·obtain rfl:q=j:=by omega
      exact W.out.symm.trans X.out
    ·have t:l[j]≠m[j]:=λe=>by rw[<-n,<-d]at e;cases e;exact r ⟨rfl,rfl,rfl⟩
     have HN:Hid _:=EN u.out i t;rw[Rz r]at C;simp only[TW]at C;clear f a c n d t r;go_wp2;go_quiet (fail);go_wp2;go_ret;exact⟨by rw[HN.out];rfl,g.out.2.fL _⟩
   ·clear f a
    have HT:Hid _:=EO u.out λq d=>g.out.1 q d (by omega);go_wp2;go_ret;exact⟨by rw[HT.out];rfl,g.out.2⟩
 ·have f:((l.length:Int)!=(m.length:Int))=true:=by rw[Tq];omega
  have hN:Hid (decide (l=m)=false):=Rz λe=>hlen (by rw[e]);clear g0 D;go_enter (n36 L),Tryz.ntmps36;go_wp2;go_ret;exact⟨by rw[hN.out];rfl,Below.refl _ _⟩
def Cj{K:Nat->Prop}{v0 v1:Value}{l m:List (Int×Int×Int)}(w:World)(O:aB K 3 (dI .i64) w v0 l)(P:aB K 3 (dI .i64) w v1 m):
 Calls (Qs fs) 40 #[v0,v1] w λe w'=>e=.returned (.bool (decide (l=m)))/\Below w.heap.size w w':=by
 obtain⟨Q,c0,rfl,R,S,_,g0⟩:=O;obtain⟨a1,c1,rfl,T,U,_,D⟩:=P;obtain hlen|hlen:=UW (l.length=m.length)
 ·have f:((l.length:Int)!=(m.length:Int))=false:=by rw[hlen];simp
  have V:((m.length:Int)!=(m.length:Int))=false:=by simp
  have u:Hid (l.length=m.length):=hlen;have E:Hid ((∀j (F:j<l.length),∃b o,Q=some ⟨b,o,none⟩/\dI .i64 K w b (o+j*3) l[j])/\(∀j (F:j<m.length),∃b o,a1=some ⟨b,o,none⟩/\dI .i64 K w b (o+j*3) m[j])):=⟨g0,D⟩
  clear g0 D;go_enter (n40 L),Tryz.ntmps40;go_wp2;go_loopw [5] (λs wr=>∃j:Nat,j<=l.length/\s=.int .i64 j/\(∀q (d:q<l.length),q<j->l[q]=m[q]'(u.out▸d))/\Below w.heap.size w wr) (λs _=>l.length-(intOf s).toNat)
  case atStart=>exact⟨0,RA _,rfl,λq d h=>by omega,Below.refl _ _⟩
  case round=>
   obtain⟨j,F,rfl,f,a⟩:=hrel;have g:Hid ((∀q (d:q<l.length),q<j->l[q]=m[q]'(u.out▸d))/\Below w.heap.size w wr):=⟨f,a⟩
   obtain i|hge:=Ry j l.length
   ·have k:j<m.length:=by omega
    obtain⟨b,o,rfl,v,x,y⟩:=E.out.1 j i;obtain⟨b2,o2,rfl,z,A,B⟩:=E.out.2 j k;have c:=ae.below a;have v:=c.cell v;have x:=c.cell x;have y:=c.cell y;have z:=c.cell z;have A:=c.cell A;have B:=c.cell B;obtain⟨p,n⟩:=ex (l[j]);obtain⟨q,d⟩:=ex (m[j]);rw[<-n]at v x y;rw[<-d]at z A B;obtain⟨G,H,I⟩:=p;obtain⟨J,M,N⟩:=q;simp only[]at v x y z A B;have W:Hid _:=n;have X:Hid _:=d;have C:=yF fs G H I J M N;have hG:=iH fs uK .neq (.tmp 20) (.tmp 24);have Y:(j:Int)<(l.length:Int):=by omega
    have Z:(j:Int)<(m.length:Int):=by omega
    by_cases r:G=J/\H=M/\I=N
    ·rw[RE r]at C
     obtain⟨rfl,rfl,rfl⟩:=r;simp only[Tj]at C;clear f a c n d;go_wp2;go_quiet (fail);go_wp2;refine⟨⟨j+1,by omega,by go_num,λq d aa=>?_,g.out.2.fL _⟩,by simp[intOf];omega⟩;by_cases h:q<j
     ·exact g.out.1 q d h
     ·obtain rfl:q=j:=by omega
      exact W.out.symm.trans X.out
    ·have t:l[j]≠m[j]:=λe=>by rw[<-n,<-d]at e;cases e;exact r ⟨rfl,rfl,rfl⟩
     have HN:Hid _:=EN u.out i t;rw[Rz r]at C;simp only[TW]at C;clear f a c n d t r;go_wp2;go_quiet (fail);go_wp2;go_ret;exact⟨by rw[HN.out];rfl,g.out.2.fL _⟩
   ·clear f a
    have HT:Hid _:=EO u.out λq d=>g.out.1 q d (by omega);go_wp2;go_ret;exact⟨by rw[HT.out];rfl,g.out.2⟩
 ·have f:((l.length:Int)!=(m.length:Int))=true:=by rw[Tq];omega
  have hN:Hid (decide (l=m)=false):=Rz λe=>hlen (by rw[e]);clear g0 D;go_enter (n40 L),Tryz.ntmps40;go_wp2;go_ret;exact⟨by rw[hN.out];rfl,Below.refl _ _⟩
def Ck{K:Nat->Prop}{v0 v1:Value}{l m:List (Int×Int×Int)}(w:World)(O:aB K 3 (dI .u8) w v0 l)(P:aB K 3 (dI .u8) w v1 m):
 Calls (Qs fs) 46 #[v0,v1] w λe w'=>e=.returned (.bool (decide (l=m)))/\Below w.heap.size w w':=by
 obtain⟨Q,c0,rfl,R,S,_,g0⟩:=O;obtain⟨a1,c1,rfl,T,U,_,D⟩:=P;obtain hlen|hlen:=UW (l.length=m.length)
 ·have f:((l.length:Int)!=(m.length:Int))=false:=by rw[hlen];simp
  have V:((m.length:Int)!=(m.length:Int))=false:=by simp
  have u:Hid (l.length=m.length):=hlen;have E:Hid ((∀j (F:j<l.length),∃b o,Q=some ⟨b,o,none⟩/\dI .u8 K w b (o+j*3) l[j])/\(∀j (F:j<m.length),∃b o,a1=some ⟨b,o,none⟩/\dI .u8 K w b (o+j*3) m[j])):=⟨g0,D⟩
  clear g0 D;go_enter (n46 L),Tryz.ntmps46;go_wp2;go_loopw [5] (λs wr=>∃j:Nat,j<=l.length/\s=.int .i64 j/\(∀q (d:q<l.length),q<j->l[q]=m[q]'(u.out▸d))/\Below w.heap.size w wr) (λs _=>l.length-(intOf s).toNat)
  case atStart=>exact⟨0,RA _,rfl,λq d h=>by omega,Below.refl _ _⟩
  case round=>
   obtain⟨j,F,rfl,f,a⟩:=hrel;have g:Hid ((∀q (d:q<l.length),q<j->l[q]=m[q]'(u.out▸d))/\Below w.heap.size w wr):=⟨f,a⟩
   obtain i|hge:=Ry j l.length
   ·have k:j<m.length:=by omega
    obtain⟨b,o,rfl,v,x,y⟩:=E.out.1 j i;obtain⟨b2,o2,rfl,z,A,B⟩:=E.out.2 j k;have c:=ae.below a;have v:=c.cell v;have x:=c.cell x;have y:=c.cell y;have z:=c.cell z;have A:=c.cell A;have B:=c.cell B;obtain⟨p,n⟩:=ex (l[j]);obtain⟨q,d⟩:=ex (m[j]);rw[<-n]at v x y;rw[<-d]at z A B;obtain⟨G,H,I⟩:=p;obtain⟨J,M,N⟩:=q;simp only[]at v x y z A B;have W:Hid _:=n;have X:Hid _:=d;have C:=Hm fs G H I J M N;have hG:=iH fs MA .neq (.tmp 20) (.tmp 24);have Y:(j:Int)<(l.length:Int):=by omega
    have Z:(j:Int)<(m.length:Int):=by omega
    by_cases r:G=J/\H=M/\I=N
    ·rw[RE r]at C
     obtain⟨rfl,rfl,rfl⟩:=r;simp only[Tj]at C;clear f a c n d;go_wp2;go_quiet (fail);go_wp2;refine⟨⟨j+1,by omega,by go_num,λq d aa=>?_,g.out.2.fL _⟩,by simp[intOf];omega⟩;by_cases h:q<j
     ·exact g.out.1 q d h
     ·obtain rfl:q=j:=by omega
      exact W.out.symm.trans X.out
    ·have t:l[j]≠m[j]:=λe=>by rw[<-n,<-d]at e;cases e;exact r ⟨rfl,rfl,rfl⟩
     have HN:Hid _:=EN u.out i t;rw[Rz r]at C;simp only[TW]at C;clear f a c n d t r;go_wp2;go_quiet (fail);go_wp2;go_ret;exact⟨by rw[HN.out];rfl,g.out.2.fL _⟩
   ·clear f a
    have HT:Hid _:=EO u.out λq d=>g.out.1 q d (by omega);go_wp2;go_ret;exact⟨by rw[HT.out];rfl,g.out.2⟩
 ·have f:((l.length:Int)!=(m.length:Int))=true:=by rw[Tq];omega
  have hN:Hid (decide (l=m)=false):=Rz λe=>hlen (by rw[e]);clear g0 D;go_enter (n46 L),Tryz.ntmps46;go_wp2;go_ret;exact⟨by rw[hN.out];rfl,Below.refl _ _⟩
def eM(a:Nat->Int):Nat->Nat->Int
 |0,_=>0
 |n+1,j=>if a j≠0 then a j else eM a n (j+1)
def vC(a b:Int)(c:Nat->Int)(n:Nat):Int:=if au n a b then eM c n 0 else 2
def xM{a n j}(h:a j=0)(c:0<n):eM a n j=eM a (n-1) (j+1):=by
 obtain⟨n,rfl⟩:∃k,n=k+1:=⟨n-1,by omega⟩
 conv=>lhs;unfold eM
 rw[Ro (λb=>b h)];rfl
def xN{a n j}(h:a j≠0)(b:0<n):eM a n j=a j:=by
 obtain⟨n,rfl⟩:∃k,n=k+1:=⟨n-1,by omega⟩
 unfold eM;rw[Rp h]
def aB.yJ{K v l w w'}(h:aB K 2 dC w v l)(a:ae w w'):aB K 2 dC w' v l:=h.stays a λb c o x e h=>by subst e;exact dC.carry (Carry.keep a) b b o x rfl h
def aB.strs{K v l w w'}(h:aB K 1 kF w v l)(a:ae w w'):aB K 1 kF w' v l:=h.stays a λb c o x e h=>by subst e;exact kF.carry (Carry.keep a) b b o x rfl h
def aB.NV{K v l w w'}(h:aB K 1 dn w v l)(a:ae w w'):aB K 1 dn w' v l:=h.ints a
abbrev pf(fs:Array Func)(f:FuncId)(a:Array Value)(c:Nat->Int)(b:Nat->World->Prop)(j:Nat)(x:Value)(wr:World):Prop:=Calls (Qs fs) f (#[.int .i64 j,x]++a) wr λe w'=>e=.returned (.int .i64 (c j))/\b (j+1) w'
abbrev nc(fs:Array Func)(f:FuncId)(a:Array Value)(g:Nat->Int)(b:Nat->World->Prop)(c d:Int)(n:FuncId)(v:Value)(k:Nat)(w:World):Prop:=Calls (Qs fs) n #[v,.int .i64 c,.int .i64 d,.func (.func f) #[] a] w λe w'=>e=.returned (.int .i64 (vC c d g k))/\∃j,b j w'
def iS{K:Nat->Prop}{v:Value}(f:FuncId)(h:Array Value)(t u:Int)(w:World)(g:Nat->World->Prop)(m:Nat->Int)(ef:∀a w,(callFunc f a).run (Qs fs) w=.ok (.enter f a) w)(X:g 0 w)(P:∀j wr,g j wr->ae w wr)(Q:∀j wr o,g j wr->g j (wr.alloc o)):
 (∀l:List Pr2,aB K 2 dC w v l->(∀j (D:j<l.length) wr,g j wr->pf fs f h m g j (.agg #[.string l[j].1,.string l[j].2]) wr)->nc fs f h m g t u 97 v l.length w)/\
 (∀l:List Pr2,aB K 2 dC w v l->(∀j (D:j<l.length) wr,g j wr->pf fs f h m g j (.agg #[.string l[j].1,.string l[j].2]) wr)->nc fs f h m g t u 103 v l.length w)/\
 (∀l:List ug,aB K 4 o6 w v l->(∀j (D:j<l.length) wr,g j wr->pf fs f h m g j (.agg #[.int .i64 l[j].kind,.int .i64 l[j].least,.int .i64 l[j].plain,.int .i64 l[j].known]) wr)->nc fs f h m g t u 78 v l.length w)/\
 (∀l:List (Int×Int×Int),aB K 3 (dI .u8) w v l->(∀j (D:j<l.length) wr,g j wr->pf fs f h m g j (.agg #[.int .i64 l[j].1,.int .i64 l[j].2.1,.int .u8 l[j].2.2]) wr)->nc fs f h m g t u 89 v l.length w)/\
 (∀l:List Int,aB K 1 dn w v l->(∀j (D:j<l.length) wr,g j wr->pf fs f h m g j (.int .i64 l[j]) wr)->nc fs f h m g t u 82 v l.length w)/\
 (∀l:List ByteArray,aB K 1 kF w v l->(∀j (D:j<l.length) wr,g j wr->pf fs f h m g j (.string l[j]) wr)->nc fs f h m g t u 107 v l.length w)/\
 (∀l:List Mark,aB K 5 o0 w v l->(∀j (D:j<l.length) wr,g j wr->∀x,(aB K 1 dn wr x l[j].aW)->pf fs f h m g j (.agg #[.string l[j].name,.string l[j].word,x,.int .i64 l[j].day,.bool l[j].known]) wr)->nc fs f h m g t u 80 v l.length w)/\
 (∀l:List kY,aB K 2 fW w v l->(∀j (D:j<l.length) wr,g j wr->∀x,(aB K 2 dC wr x l[j].aY)->pf fs f h m g j (.agg #[.string l[j].name,x]) wr)->nc fs f h m g t u 100 v l.length w)/\
 (∀l:List (List ByteArray),aB K 1 j9 w v l->(∀j (D:j<l.length) wr,g j wr->∀x,(aB K 1 kF wr x l[j])->pf fs f h m g j (x) wr)->nc fs f h m g t u 105 v l.length w):=by
 have Y:Hid _:=X;have J:Hid ((∀j wr,g j wr->ae w wr)/\(∀j wr o,g j wr->g j (wr.alloc o))):=⟨P,Q⟩
 clear P Q X;refine⟨?_,?_,?_,?_,?_,?_,?_,?_,?_⟩;all_goals
  intro l R y;unfold pf at y;unfold nc;have e63:=e63 L;have N:=cj fs (n63 L) (l.length:Int) t u w;obtain⟨ao,c,rfl,aa,hc,ab,z⟩:=R;have E:Hid _:=y;have F:Hid _:=z;clear y z;first
  |(go_enter (n97 L),Tryz.ntmps97;have C:Fin 1:=0)
  |(go_enter (n103 L),Tryz.ntmps103;have C:Fin 2:=0)
  |(go_enter (n78 L),Tryz.ntmps78;have C:Fin 3:=0)
  |(go_enter (n89 L),Tryz.ntmps89;have C:Fin 3:=0)
  |(go_enter (n82 L),Tryz.ntmps82;have C:Fin 3:=0)
  |(go_enter (n107 L),Tryz.ntmps107;have C:Fin 3:=0)
  |(go_enter (n80 L),Tryz.ntmps80;have C:Fin 3:=0)
  |(go_enter (n100 L),Tryz.ntmps100;have C:Fin 3:=0)
  |(go_enter (n105 L),Tryz.ntmps105;have C:Fin 3:=0)
  cases H:au l.length t u with
  |false=>
   have U:Hid (vC t u m l.length=2):=by unfold Hid vC;rw[H];rfl
   unfold au at H;rw[H]at N;clear H;go_wp2_with (first|(go_at_call 63;refine N.mono ?_;clear N;rintro e w2 ⟨rfl,rfl⟩))
   go_ret;exact⟨by rw[U.out];rfl,0,Y.out⟩
  |true=>
   have U:Hid (vC t u m l.length=eM m l.length 0):=by unfold Hid vC;rw[H];rfl
   unfold au at H;rw[H]at N;clear H;go_wp2_with (first|(go_at_call 63;refine N.mono ?_;clear N;rintro e w2 ⟨rfl,rfl⟩))
   go_loopw [20] (λs wr=>∃j:Nat,j<=l.length/\s=.int .i64 j/\g j wr/\eM m l.length 0=eM m (l.length-j) j) (λs _=>l.length-(intOf s).toNat)
   case atStart=>exact⟨0,RA _,rfl,Y.out,rfl⟩
   case round=>
    obtain⟨j,D,rfl,r,O⟩:=hrel;have HF:Hid _:=O;have HI:Hid _:=r;obtain i|hge:=Ry j l.length
    ·have d:=J.out.1 j wr r
     first
     |(obtain⟨b,p,rfl,k,q,I,S⟩:=F.out j i;have k:=d.cell k;have q:=d.cell q;have I:=d.cell I;have S:=d.cell S;have n:=E.out j i _ (J.out.2 j wr (.cells #[.int .i64 l[j].kind,.int .i64 l[j].least,.int .i64 l[j].plain,.int .i64 l[j].known] 69) r))
     |(obtain⟨b,p,rfl,k,q,I⟩:=F.out j i;have k:=d.cell k;have q:=d.cell q;have I:=d.cell I;have n:=E.out j i _ (J.out.2 j wr (.cells #[.int .i64 l[j].1,.int .i64 l[j].2.1,.int .u8 l[j].2.2] 96) r))
     |(obtain⟨b,p,rfl,k⟩:=F.out j i;have k:=d.cell k;rw[SG]at k;have n:=E.out j i _ r)
     |(obtain⟨b,p,rfl,k⟩:=F.out j i;have k:=d.cell k;rw[SG]at k;have n:=E.out j i _ r)
     |(obtain⟨b,p,rfl,k,q,⟨x,I,A⟩,S,Z⟩:=F.out j i;have k:=d.cell k;have q:=d.cell q;have I:=d.cell I;have S:=d.cell S;have Z:=d.cell Z;obtain⟨G,V,rfl,xl,_⟩:=A.NV d;have n:=E.out j i _ (J.out.2 j wr (.cells #[.string l[j].name,.string l[j].word,.slice G l[j].aW.length V,.int .i64 l[j].day,.bool l[j].known] 38) r) _ (A.NV (d.trans (ae.alloc _ _)));clear A)
     |(obtain⟨b,p,rfl,k,x,q,A⟩:=F.out j i;have k:=d.cell k;have q:=d.cell q;obtain⟨G,V,rfl,xl,_⟩:=A.yJ d;have n:=E.out j i _ (J.out.2 j wr (.cells #[.string l[j].name,.slice G l[j].aY.length V] 50) r) _ (A.yJ (d.trans (ae.alloc _ _)));clear A)
     |(obtain⟨b,p,rfl,x,k,A⟩:=F.out j i;have k:=d.cell k;rw[SG]at k;obtain⟨G,V,rfl,xl,_⟩:=A.strs d;have n:=E.out j i _ r _ (A.strs d);clear A)
     |(have _:Fin 1:=C;obtain⟨b,p,rfl,k,q⟩:=F.out j i;have k:=d.cell k;have q:=d.cell q;have n:=E.out j i _ (J.out.2 j wr (.cells #[.string l[j].1,.string l[j].2] 46) r))
     |(have _:Fin 2:=C;obtain⟨b,p,rfl,k,q⟩:=F.out j i;have k:=d.cell k;have q:=d.cell q;have n:=E.out j i _ (J.out.2 j wr (.cells #[.string l[j].1,.string l[j].2] 51) r))
     by_cases T:m j=0
     ·have W:Hid _:=(O.trans (xM T (by omega)))
      rw[T]at n;clear O r d T;go_wp2_with (first|(go_at_fn f;refine n.mono ?_;rintro e w3 ⟨rfl,B⟩;have M:Hid _:=B;clear B))
      exact⟨⟨j+1,by omega,by go_num,M.out,W.out⟩,by simp[intOf];omega⟩
     ·have W:Hid _:=(O.trans (xN T (by omega)))
      have ad:(m j !=0)=true:=by simpa using T
      clear O r d;go_wp2_with (first|(go_at_fn f;refine n.mono ?_;rintro e w3 ⟨rfl,B⟩;have M:Hid _:=B;clear B))
      go_ret;exact⟨by rw[U.out,W.out];rfl,_,M.out⟩
    ·clear O r
     go_wp2;go_ret;have hx:=HF.out;rw[show l.length-j=0 by omega]at hx;exact⟨by rw[U.out,hx];rfl,_,HI.out⟩
end Go.Proofs

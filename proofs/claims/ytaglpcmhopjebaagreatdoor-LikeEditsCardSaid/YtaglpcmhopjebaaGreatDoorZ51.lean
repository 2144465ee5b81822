import Derived.Test.YtaglpcmhopjebaaGreatDoorZ50
set_option linter.all false
set_option maxRecDepth 100000
set_option maxHeartbeats 20000000
namespace Go.Proofs
open Go.Tm Go.RowKit
def bJ{kd w w' v l}(a:ae w w')(h:aE TT 3 (dI kd) w v l):aE TT 3 (dI kd) w' v l:=h.stays a λx y o z e h=>by subst e;exact h.keep a
def Jv{W b x y e F}(h:W.heap[b]? =some (.cells #[.int .i64 x,.int .i64 y] e F)):aE TT 1 dx W (.slice (some ⟨b,0,none⟩) 2 2) [x,y]:=
 lM h rfl (by decide) λk a=>by
  match k,a with
  |0,_=>exact cell_of_heap h _ _ rfl
  |1,_=>exact cell_of_heap h _ _ rfl
def Jw{W b x y z e F}(h:W.heap[b]? =some (.cells #[.int .i64 x,.int .i64 y,.int .i64 z] e F)):aE TT 1 dx W (.slice (some ⟨b,0,none⟩) 3 3) [x,y,z]:=
 lM h rfl (by decide) λk a=>by
  match k,a with
  |0,_=>exact cell_of_heap h _ _ rfl
  |1,_=>exact cell_of_heap h _ _ rfl
  |2,_=>exact cell_of_heap h _ _ rfl
def NK(w)(ag:jG w):Calls (Qs FM) 17 #[] w λe w'=>(e=.returned (.bool true)/\Below w.heap.size w w')\/∃v L,e=.panicked (ir v)/\dK w' v L:=by
 have L:=iU;have e50:=e50 L;have e18:=e18 L;have e22:=e22 L;have e29:=e29 L;have e25:=e25 L;have e31:=e31 L;have e38:=e38 L;have e46:=e46 L;have e36:=e36 L;have e40:=e40 L;have HG:Hid _:=ag;clear ag;go_enter (n17 L),Tryz.ntmps17;go_upto_region 2 with(first|(go_at_call 50;refine(Jo L _).mono ?_;rintro e w1 ⟨sc,rfl,hc,Z⟩;have ak:=hc;obtain⟨v0,v1,v2,vr,vf,vm,vk,rfl,ht,hr,hf,cb,cd⟩:=hc;obtain⟨q,c0,rfl,r0⟩:=ht.1;obtain⟨a1,c1,rfl,r1⟩:=ht.2.1;obtain⟨r,c2,rfl,r2⟩:=ht.2.2;obtain⟨a3,c3,rfl,r3⟩:=hr;obtain⟨z,c4,rfl,r4⟩:=hf;obtain⟨P,c5,rfl,_,_,_,g5⟩:=cb;obtain⟨A,c6,rfl,r6⟩:=cd))
 clear r0 r1 r2 r3 r4 r6 ht;generalize cf:(Value.slice q exC.table.aC.length c0)=V0 at*;generalize ck:(Value.slice a1 exC.table.aO.length c1)=V1 at*;generalize cl:(Value.slice r exC.table.iB.length c2)=V2 at*;generalize cm:(Value.slice a3 exC.rules.length c3)=V3 at*;generalize cn:(Value.slice z exC.new.aX.length c4)=U at*;generalize cp:(Value.slice A exC.kin.length c6)=V6 at*;clear cf ck cl cm cn cp;obtain⟨s,t,rfl,y0,y1,⟨yf,y2,yr⟩,y3,y4⟩:=g5 0 (by decide);obtain⟨cC,cD,cq,z0,z1,⟨zf,z2,zr⟩,z3,z4⟩:=g5 2 (by decide);cases cq;clear g5;obtain⟨w2,B⟩:=ex (w1.alloc (.cells #[V0,V1,V2,V3,.string exC.new.name,.string exC.new.word,U,.int .i64 exC.new.day,.bool exC.new.known,.slice (some ⟨s,t,none⟩) exC.marks.length c5,V6] 60));obtain⟨N,hN⟩:=ex (w1.heap.size);have S2:ae w1 w2:=by rw[B];exact ae.alloc _ _
 have B2:Below w.heap.size w w2:=by rw[B];exact Z.alloc Z.size _
 have cc:∀i v,(#[V0,V1,V2,V3,.string exC.new.name,.string exC.new.word,U,.int .i64 exC.new.day,.bool exC.new.known,.slice (some ⟨s,t,none⟩) exC.marks.length c5,V6]:Array Value)[i]? =some v->w2.cell? ⟨N,i,none⟩=some v:=λi v h=>by rw[B,hN];exact av w1 _ 60 i v h
 have HC:Hid (∀b,ae w2 b->bn TT b #[V0,V1,V2,V3,.string exC.new.name,.string exC.new.word,U,.int .i64 exC.new.day,.bool exC.new.known,.slice (some ⟨s,t,none⟩) exC.marks.length c5,V6] exC):=λb m=>ak.stays (S2.trans m);have HT:Hid (∀b,ae w2 b->IsTable TT b V0 V1 V2 dD):=λb m=>by obtain⟨_,_,_,_,_,_,_,e,ht,_⟩:=HC.out b m;cases e;exact ht
 have HF:Hid (∀b,ae w2 b->aE TT 1 dx b U uh.aX):=λb m=>by obtain⟨_,_,_,_,_,_,_,e,_,_,hf,_⟩:=HC.out b m;cases e;exact hf
 have n:Hid (∀b,ae w2 b->w2.heap.size<=b.heap.size->jG b):=λb m hz=>HG.out.stays ((ae.below B2).trans m) (Rp B2.size hz);have a:Hid _:=cc;have HY:Hid (∀b,ae w2 b->b.cell? ⟨s,t,none⟩=some (.string qw.name)/\b.cell? ⟨s,t+1,none⟩=some (.string qw.word)/\b.cell? ⟨s,t+2,none⟩=some yf/\b.cell? ⟨s,t+3,none⟩=some (.int .i64 qw.day)/\b.cell? ⟨s,t+4,none⟩=some (.bool qw.known)/\aE TT 1 dx b yf qw.aX):=λb m=>by have st:=S2.trans m;exact⟨st.cell y0,st.cell y1,st.cell y2,st.cell y3,st.cell y4,yr.ints st⟩
 have HZ:Hid (∀b,ae w2 b->b.cell? ⟨s,t+10,none⟩=some (.string o0.name)/\b.cell? ⟨s,t+11,none⟩=some (.string o0.word)/\b.cell? ⟨s,t+12,none⟩=some zf/\b.cell? ⟨s,t+13,none⟩=some (.int .i64 o0.day)/\b.cell? ⟨s,t+14,none⟩=some (.bool o0.known)/\aE TT 1 dx b zf o0.aX):=λb m=>by have st:=S2.trans m;exact⟨st.cell z0,st.cell z1,st.cell z2,st.cell z3,st.cell z4,zr.ints st⟩
 have HB:Hid _:=B2;rw[<-B,<-hN];clear B hN ak Z S2 y0 y1 y2 y3 y4 z0 z1 z2 z3 z4 yr zr B2;have u0:=cc 0 _ rfl;have u1:=cc 1 _ rfl;have u2:=cc 2 _ rfl;have al:=O4 L w2 (HT.out w2 (ae.refl _));clear cc;go_upto_region 3 with(first|(go_at_call 18;refine al.mono ?_;clear al;rintro e w3 ⟨rfl,aa⟩))
 have S3:ae w2 w3:=ae.below aa;have B3:Below w2.heap.size w2 w3:=aa;have u0:=S3.cell u0;have u1:=S3.cell u1;have u2:=S3.cell u2;have an:=NJ L w3 (HT.out w3 S3) (n.out w3 S3 B3.size).len;have H3:Hid (ae w2 w3/\Below w2.heap.size w2 w3):=⟨S3,B3⟩
 clear aa S3 B3;go_upto_region 4 with(first|(go_at_call 22;refine an.mono ?_;clear an;rintro e w4 ⟨rfl,ao⟩))
 have B4:Below w2.heap.size w2 w4:=H3.out.2.trans (ao.mono H3.out.2.size);have H4:Hid (Below w2.heap.size w2 w4):=B4;have C:=LY L w4;clear ao B4 u0 u1 u2 H3;go_upto_region 5 with(first|(go_at_call 29;refine C.mono ?_;clear C;rintro e w5 ⟨vE,rfl,hE,ar⟩))
 have H5:Hid (Below w2.heap.size w2 w5):=H4.out.trans (ar.mono H4.out.size);have HE:Hid _:=hE;have C:=LZ L w5;clear hE ar H4;go_upto_region 6 with(first|(go_at_call 29;refine C.mono ?_;clear C;rintro e k ⟨vD,rfl,hD,ab⟩))
 have H6:Hid (Below w2.heap.size w2 k):=H5.out.trans (ab.mono H5.out.size);have ax:Hid (aE TT 3 (dI .u8) k vE [(2,2,115),(3,2,101)]):=bJ (ae.below ab) HE.out;have HD:Hid _:=hD;clear hD ab H5 HE;have d:Hid (ae w2 k):=ae.below H6.out;have q:=λx:aj w2 k=>(d.out.trans x.st).cell (a.out 0 _ rfl);have a1:=λx:aj w2 k=>(d.out.trans x.st).cell (a.out 1 _ rfl);have r:=λx:aj w2 k=>(d.out.trans x.st).cell (a.out 2 _ rfl);have z:=λx:aj w2 k=>(d.out.trans x.st).cell (a.out 4 _ rfl);have P:=λx:aj w2 k=>(d.out.trans x.st).cell (a.out 5 _ rfl);have A:=λx:aj w2 k=>(d.out.trans x.st).cell (a.out 6 _ rfl);have Q:=λx:aj w2 k=>(d.out.trans x.st).cell (a.out 7 _ rfl);have R:=λx:aj w2 k=>(d.out.trans x.st).cell (a.out 8 _ rfl);have S:=λx:aj w2 k=>(d.out.trans x.st).cell (a.out 9 _ rfl);have b0:=λx:aj w2 k=>(HY.out x.val (d.out.trans x.st)).1;have b1:=λx:aj w2 k=>(HY.out x.val (d.out.trans x.st)).2.1;have b2:=λx:aj w2 k=>(HY.out x.val (d.out.trans x.st)).2.2.1;have b3:=λx:aj w2 k=>(HY.out x.val (d.out.trans x.st)).2.2.2.1;have b4:=λx:aj w2 k=>(HY.out x.val (d.out.trans x.st)).2.2.2.2.1;have cr:(0:Int)<(exC.marks.length:Int):=by decide
 have qL:=λx:aj w2 k=>aj.calls (L0 L x.val (HT.out _ (d.out.trans x.st)) (m1:=#[.string exC.new.name,.string exC.new.word,U,.int .i64 exC.new.day,.bool exC.new.known]) (m2:=#[.string qw.name,.string qw.word,yf,.int .i64 qw.day,.bool qw.known]) ⟨U,rfl,HF.out _ (d.out.trans x.st)⟩ ⟨yf,rfl,(HY.out x.val (d.out.trans x.st)).2.2.2.2.2⟩ (n.out _ (d.out.trans x.st) x.be.size));refine bj (w0:=w2) (w1:=k) (by kernel_rfl) (by kernel_rfl) (ae.refl _) H6.out ?_;haveI ad:Nonempty (aj w2 k):=⟨⟨k,ae.refl _,H6.out⟩⟩
 repeat (go_big_quiet_step (first|(go_at_call 25;exact qL _)))
 refine wpQuiet_nil ?_;rintro l ⟨⟨_,Sz,Bz⟩,rfl⟩;have H7:Hid (Below w2.heap.size w2 l):=Bz;have ay:Hid _:=bJ Sz ax.out;have aM:Hid _:=bJ Sz HD.out;clear qL q a1 r z P A Q R S b0 b1 b2 b3 b4 ad Sz Bz ax HD H6 d;go_upto_region 7 with fail;have f:Hid (ae w2 l):=ae.below H7.out;have q:=λx:aj w2 l=>(f.out.trans x.st).cell (a.out 0 _ rfl);have a1:=λx:aj w2 l=>(f.out.trans x.st).cell (a.out 1 _ rfl);have r:=λx:aj w2 l=>(f.out.trans x.st).cell (a.out 2 _ rfl);have z:=λx:aj w2 l=>(f.out.trans x.st).cell (a.out 4 _ rfl);have P:=λx:aj w2 l=>(f.out.trans x.st).cell (a.out 5 _ rfl);have A:=λx:aj w2 l=>(f.out.trans x.st).cell (a.out 6 _ rfl);have Q:=λx:aj w2 l=>(f.out.trans x.st).cell (a.out 7 _ rfl);have R:=λx:aj w2 l=>(f.out.trans x.st).cell (a.out 8 _ rfl);have S:=λx:aj w2 l=>(f.out.trans x.st).cell (a.out 9 _ rfl);have b0:=λx:aj w2 l=>(HZ.out x.val (f.out.trans x.st)).1;have b1:=λx:aj w2 l=>(HZ.out x.val (f.out.trans x.st)).2.1;have b2:=λx:aj w2 l=>(HZ.out x.val (f.out.trans x.st)).2.2.1;have b3:=λx:aj w2 l=>(HZ.out x.val (f.out.trans x.st)).2.2.2.1;have b4:=λx:aj w2 l=>(HZ.out x.val (f.out.trans x.st)).2.2.2.2.1;have cr:(2:Int)<(exC.marks.length:Int):=by decide
 have qL:=λx:aj w2 l=>aj.calls (L1 L x.val (HT.out _ (f.out.trans x.st)) (m1:=#[.string exC.new.name,.string exC.new.word,U,.int .i64 exC.new.day,.bool exC.new.known]) (m2:=#[.string o0.name,.string o0.word,zf,.int .i64 o0.day,.bool o0.known]) ⟨U,rfl,HF.out _ (f.out.trans x.st)⟩ ⟨zf,rfl,(HZ.out x.val (f.out.trans x.st)).2.2.2.2.2⟩ (n.out _ (f.out.trans x.st) x.be.size));refine bj (w0:=w2) (w1:=l) (by kernel_rfl) (by kernel_rfl) (ae.refl _) H7.out ?_;haveI ad:Nonempty (aj w2 l):=⟨⟨l,ae.refl _,H7.out⟩⟩
 repeat (go_big_quiet_step (first|(go_at_call 25;exact qL _)))
 refine wpQuiet_nil ?_;rintro D ⟨⟨_,Sz,Bz⟩,rfl⟩;have H8:Hid (Below w2.heap.size w2 D):=Bz;have ba:Hid _:=bJ Sz ay.out;have bb:Hid _:=bJ Sz aM.out;clear qL q a1 r z P A Q R S b0 b1 b2 b3 b4 ad Sz Bz ay aM H7 f;go_upto_region 8 with fail;have u:Hid (ae w2 D):=ae.below H8.out;have q:=(u.out).cell (a.out 0 _ rfl);have a1:=(u.out).cell (a.out 1 _ rfl);have r:=(u.out).cell (a.out 2 _ rfl);obtain⟨wA,o⟩:=ex ((D.alloc (.cells #[.int .i64 101,.int .i64 203] 3)).alloc (.cells #[.int .i64 101,.int .i64 204,.int .i64 305] 3));have SA:ae D wA:=by rw[o];exact(ae.alloc _ _).trans (ae.alloc _ _)
 have BA:Below w2.heap.size w2 wA:=by rw[o];exact(H8.out.alloc H8.out.size _).alloc (H8.out.alloc H8.out.size _).size _
 have bd:wA.heap[D.heap.size]? =some (.cells #[.int .i64 101,.int .i64 203] 3 (0,0)):=by rw[o];exact(ae.alloc _ _) _ _ _ _ R8
 have bk:wA.heap[D.heap.size+1]? =some (.cells #[.int .i64 101,.int .i64 204,.int .i64 305] 3 (0,0)):=by rw[o];have h:((D.alloc (.cells #[.int .i64 101,.int .i64 203] 3)).alloc (.cells #[.int .i64 101,.int .i64 204,.int .i64 305] 3)).heap[(D.alloc (.cells #[.int .i64 101,.int .i64 203] 3)).heap.size]? =some (.cells #[.int .i64 101,.int .i64 204,.int .i64 305] 3 (0,0)):=R8;rw[World.size_alloc]at h;exact h
 have af:=L3 L wA (HT.out _ (u.out.trans SA)) (m1:=#[.string ⟨#[97]⟩,.string ⟨#[]⟩,.slice (some ⟨D.heap.size,0,none⟩) 2 2,.int .i64 0,.bool false]) (m2:=#[.string ⟨#[98]⟩,.string ⟨#[]⟩,.slice (some ⟨D.heap.size+1,0,none⟩) 3 3,.int .i64 0,.bool false]) ⟨_,rfl,Jv bd⟩ ⟨_,rfl,Jw bk⟩ (n.out _ (u.out.trans SA) BA.size);rw[o]at af;have E:Hid (Below w2.heap.size w2 wA/\ae D wA):=⟨BA,SA⟩
 clear SA BA bd bk;go_upto_region 9 with(first|(go_at_call 25;refine af.mono ?_;clear af;rintro e w9 ⟨rfl,F⟩))
 rw[<-o]at F;have H9:Hid (Below w2.heap.size w2 w9):=E.out.1.trans (F.mono E.out.1.size);have br:Hid _:=bJ (E.out.2.trans (ae.below F)) ba.out;have bs:Hid _:=bJ (E.out.2.trans (ae.below F)) bb.out;clear F o E H8 u ba bb q a1 r;have g:Hid (ae w2 w9):=ae.below H9.out;have q:=(g.out).cell (a.out 0 _ rfl);have a1:=(g.out).cell (a.out 1 _ rfl);have r:=(g.out).cell (a.out 2 _ rfl);have a3:=(g.out).cell (a.out 3 _ rfl);have z:=(g.out).cell (a.out 4 _ rfl);have P:=(g.out).cell (a.out 5 _ rfl);have A:=(g.out).cell (a.out 6 _ rfl);have Q:=(g.out).cell (a.out 7 _ rfl);have R:=(g.out).cell (a.out 8 _ rfl);have S:=(g.out).cell (a.out 9 _ rfl);have G:=(g.out).cell (a.out 10 _ rfl);have bx:=L9 w9 (HC.out w9 g.out) (n.out w9 g.out H9.out.size);go_wp2_with fail
 refine bx.mono ?_;rintro e H (⟨vS,rfl,hS,p⟩|⟨v,L',rfl,hp⟩)
 ·have I:Hid (Below w2.heap.size w2 H):=H9.out.trans (p.mono H9.out.size)
  have V:Hid _:=bJ (ae.below p) br.out;have W:Hid _:=bJ (ae.below p) bs.out;have c:Hid (ae w2 H):=ae.below I.out;have X:Hid _:=hS;clear bx hS p H9 g br bs q a1 r a3 z P A Q R S G;go_upto_region 10 with fail;have q:=(c.out).cell (a.out 0 _ rfl);have a1:=(c.out).cell (a.out 1 _ rfl);have r:=(c.out).cell (a.out 2 _ rfl);have a3:=(c.out).cell (a.out 3 _ rfl);have z:=(c.out).cell (a.out 4 _ rfl);have P:=(c.out).cell (a.out 5 _ rfl);have A:=(c.out).cell (a.out 6 _ rfl);have Q:=(c.out).cell (a.out 7 _ rfl);have R:=(c.out).cell (a.out 8 _ rfl);have S:=(c.out).cell (a.out 9 _ rfl);have G:=(c.out).cell (a.out 10 _ rfl);have J:=L4 L H (HC.out H c.out) (n.out H c.out I.out.size);go_upto_region 11 with(first|(go_at_call 38;refine J.mono ?_;clear J;rintro e wB ⟨vK,rfl,hK,K⟩))
  have M:Hid (Below w2.heap.size w2 wB):=I.out.trans (K.mono I.out.size);have bA:Hid _:=bJ (ae.below K) V.out;have bB:Hid _:=bJ (ae.below K) W.out;have bC:Hid _:=bJ (ae.below K) X.out;have b5:Hid _:=hK;have j:Hid (ae w2 wB):=ae.below M.out;clear hK K I c V W X q a1 r a3 z P A Q R S G;have q:=(j.out).cell (a.out 0 _ rfl);have a1:=(j.out).cell (a.out 1 _ rfl);have r:=(j.out).cell (a.out 2 _ rfl);have a3:=(j.out).cell (a.out 3 _ rfl);have z:=(j.out).cell (a.out 4 _ rfl);have P:=(j.out).cell (a.out 5 _ rfl);have A:=(j.out).cell (a.out 6 _ rfl);have Q:=(j.out).cell (a.out 7 _ rfl);have R:=(j.out).cell (a.out 8 _ rfl);have S:=(j.out).cell (a.out 9 _ rfl);have G:=(j.out).cell (a.out 10 _ rfl);have J:=L5 L wB (HC.out wB j.out) (n.out wB j.out M.out.size);go_upto_region 12 with(first|(go_at_call 38;refine J.mono ?_;clear J;rintro e O ⟨bo,oo,co,rfl,⟨t0,t1,t2⟩,y⟩))
  have T:Hid (Below w2.heap.size w2 O):=M.out.trans (y.mono M.out.size);have cu:Hid _:=bJ (ae.below y) bA.out;have cv:Hid _:=bJ (ae.below y) bB.out;have cw:Hid _:=bJ (ae.below y) bC.out;have cx:Hid _:=bJ (ae.below y) b5.out;clear y M j bA bB bC b5 q a1 r a3 z P A Q R S G;replace t0:O.cell? ⟨bo,oo,none⟩=some (.int .i64 1):=t0;replace t1:O.cell? ⟨bo,oo+1,none⟩=some (.int .i64 0):=t1;replace t2:O.cell? ⟨bo,oo+2,none⟩=some (.int .i64 0):=t2;have Y:=yP FM 1 0 0 1 0 0;rw[Ry (⟨rfl,rfl,rfl⟩:(1:Int)=1/\(0:Int)=0/\(0:Int)=0)]at Y;have b6:=iM FM uQ .neq (.tmp 156) (.tmp 157);go_upto_region 16 with fail;clear Y b6 t0 t1 t2;have qA:=xI L (O.alloc (.cells #[.int .i64 2,.int .i64 2,.int .u8 115,.int .i64 3,.int .i64 2,.int .u8 101] 96)) (bJ (ae.alloc _ _) cu.out) (oV [(2,2,115),(3,2,101)] (by decide) _ rfl);have cy:=λb (m:ae O b)=>xI L (b.alloc (.cells #[.int .i64 0,.int .i64 0,.int .u8 98,.int .i64 1,.int .i64 1,.int .u8 0] 96)) (bJ (m.trans (ae.alloc _ _)) cv.out) (oV [(0,0,98),(1,1,0)] (by decide) _ rfl);have cz:=λb (m:ae O b)=>L6 L (b.alloc (.cells #[.int .i64 0,.int .i64 0,.int .i64 100,.int .i64 1,.int .i64 1,.int .i64 100] 66)) (bJ (m.trans (ae.alloc _ _)) cw.out) (oV [(0,0,100),(1,1,100)] (by decide) _ rfl);have cA:=λb (m:ae O b)=>L8 L (b.alloc (.cells #[.int .i64 0,.int .i64 90,.int .i64 0,.int .i64 0,.int .i64 100,.int .i64 2,.int .i64 0,.int .i64 0,.int .i64 3] 86)) (bJ (m.trans (ae.alloc _ _)) cx.out) (oV [(0,90,0),(0,100,2),(0,0,3)] (by decide) _ rfl);go_wp2_with (first
   |(go_at_call 46;refine qA.mono ?_;clear qA;rintro e wD ⟨rfl,b7⟩;have sD:ae O wD:=(ae.alloc _ _).trans (ae.below b7);have qD:=cy wD sD;have DD:Hid (Below w2.heap.size w2 wD):=(T.out.alloc T.out.size _).trans (b7.mono (T.out.alloc T.out.size _).size))
   |(go_at_call 46;refine qD.mono ?_;clear qD;rintro e wE ⟨rfl,b8⟩;have sE:ae O wE:=sD.trans ((ae.alloc _ _).trans (ae.below b8));have qH:=cz wE sE;have DE:Hid (Below w2.heap.size w2 wE):=(DD.out.alloc DD.out.size _).trans (b8.mono (DD.out.alloc DD.out.size _).size))
   |(go_at_call 36;refine qH.mono ?_;clear qH;rintro e wF ⟨rfl,ca⟩;have sF:ae O wF:=sE.trans ((ae.alloc _ _).trans (ae.below ca));have qK:=cA wF sF;have DF:Hid (Below w2.heap.size w2 wF):=(DE.out.alloc DE.out.size _).trans (ca.mono (DE.out.alloc DE.out.size _).size))
   |(go_at_call 40;refine qK.mono ?_;clear qK;rintro e wG ⟨rfl,cB⟩;have DG:Hid (Below w2.heap.size w2 wG):=(DF.out.alloc DF.out.size _).trans (cB.mono (DF.out.alloc DF.out.size _).size)))
  go_ret;exact .inl ⟨rfl,HB.out.trans (DG.out.mono HB.out.size)⟩
 ·have HP:Hid _:=hp
  clear hp;exact eC rfl (.inr ⟨v,L',rfl,HP.out⟩)
def Er{K v l}(a b w)(r:aE K 3 (dI .u8) w v l)(i:gp w)(j:jG w):
 Calls (Qs FM) 13 #[.string a,.string b,v] w λe w'=>(e=.returned (.bool true)/\Below w.heap.size w w')\/∃v L,e=.panicked (ir v)/\dK w' v L:=by
 have L:=iU;have e17:∀(a:Array Value) (w:World),(callFunc 17 a).run (Qs FM) w=.ok (.enter 17 a) w:=e17 L;have e29:=e29 L;have e45:=e45 L;have e46:=e46 L;have e47:=e47 L;have e48:=e48 L;have t:=λw2 (d:Below w.heap.size w w2)=>NK w2 (j.stays (ae.below d) d.size);have c:=r;obtain⟨ao,cp,rfl,aa,ab,ad,g⟩:=r;have fin:∀(w2:World),Below w.heap.size w w2->∀e w',((e=Ending.returned (.bool true)/\Below w2.heap.size w2 w')\/∃v L,e=.panicked (ir v)/\dK w' v L)->(e=.returned (.bool true)/\Below w.heap.size w w')\/∃v L,e=.panicked (ir v)/\dK w' v L:=λw2 d e w' h=>h.imp (λ⟨S,T⟩=>⟨S,d.trans (T.mono d.size)⟩) id
 by_cases U:100<a.size
 ·have u:(100:Int)<(a.size:Int):=by omega
  have q:=t w (Below.refl _ _);clear U c i j g t;go_enter (n13 L),Tryz.ntmps13;go_wp2_with fail
  refine q.mono ?_;rintro e w2 (⟨rfl,d⟩|⟨v,A,rfl,k⟩)
  ·have B:Hid _:=d
   clear d q;go_wp2;go_ret;exact .inl ⟨rfl,B.out⟩
  ·have C:Hid _:=k
   clear k;exact eC rfl (.inr ⟨v,A,rfl,C.out⟩)
 by_cases X:100<b.size
 ·have u:decide ((100:Int)<(a.size:Int))=false:=Rr (by omega)
  have J:(100:Int)<(b.size:Int):=by omega
  have q:=t w (Below.refl _ _);clear U X c i j g t;go_enter (n13 L),Tryz.ntmps13;go_wp2_with fail
  refine q.mono ?_;rintro e w2 (⟨rfl,d⟩|⟨v,A,rfl,k⟩)
  ·have B:Hid _:=d
   clear d q;go_wp2;go_ret;exact .inl ⟨rfl,B.out⟩
  ·have C:Hid _:=k
   clear k;exact eC rfl (.inr ⟨v,A,rfl,C.out⟩)
 by_cases hC:200<l.length
 ·have u:decide ((100:Int)<(a.size:Int))=false:=Rr (by omega)
  have J:decide ((100:Int)<(b.size:Int))=false:=Rr (by omega);have Y:(200:Int)<(l.length:Int):=by omega
  have q:=t w (Below.refl _ _);clear U X hC c i j g t;go_enter (n13 L),Tryz.ntmps13;go_wp2_with fail
  refine q.mono ?_;rintro e w2 (⟨rfl,d⟩|⟨v,A,rfl,k⟩)
  ·have B:Hid _:=d
   clear d q;go_wp2;go_ret;exact .inl ⟨rfl,B.out⟩
  ·have C:Hid _:=k
   clear k;exact eC rfl (.inr ⟨v,A,rfl,C.out⟩)
 have u:decide ((100:Int)<(a.size:Int))=false:=Rr (by omega);have J:decide ((100:Int)<(b.size:Int))=false:=Rr (by omega);have Y:decide ((200:Int)<(l.length:Int))=false:=Rr (by omega);have D:=Bj L a b w (by omega) (by omega);have m:=λE=>Lm L a b E (by omega) (by omega);have n:=λE (d:Below w.heap.size w E)=>NM L a E (c.stays (ae.below d) λx y o z e h=>by subst e;exact h.keep (ae.below d)) (by omega) (i.below d);have p:=λE (d:Below w.heap.size w E)=>Lp L a E (c.stays (ae.below d) λx y o z e h=>by subst e;exact h.keep (ae.below d)) (by omega);obtain⟨pf,F⟩:=ex (dm a b);obtain⟨er,G⟩:=ex (eB a b);obtain⟨s,hs⟩:=ex (lL a l);obtain⟨f,hf⟩:=ex (dW a l);rw[<-F,<-G]at D;simp only[<-F,<-G]at m;simp only[<-hs,<-hf]at n p;clear U X hC c i j g F G hs hf;go_enter (n13 L),Tryz.ntmps13;go_upto_region 5 with(first
  |(go_at_call 29;refine D.mono ?_;clear D;rintro e w2 ⟨v1,rfl,S,H⟩;have m:=m w2)
  |(go_at_call 45;refine m.mono ?_;clear m;rintro e w3 ⟨v2,rfl,T,I⟩))
 have B3:Below w.heap.size w w3:=H.trans (I.mono H.size);have M:=xI L w3 (bJ (ae.below I) (oU S)) (oU T);have N:Hid _:=B3;clear H I S T B3;go_upto_region 9 with(first
  |(go_at_call 46;refine M.mono ?_;clear M;rintro e w4 ⟨rfl,O⟩;have V:Below w.heap.size w w4:=N.out.trans (O.mono N.out.size);have n:=n w4 V)
  |(go_at_call 47;refine n.mono ?_;clear n;rintro e w5 ⟨rfl,P⟩;have W:Below w.heap.size w w5:=V.trans (P.mono V.size);have p:=p w5 W)
  |(go_at_call 48;refine p.mono ?_;clear p;rintro e w6 ⟨rfl,Q⟩))
 have Z:Below w.heap.size w w6:=W.trans (Q.mono W.size);have q:=t w6 Z;have R:Hid _:=Z;clear V W Z O P Q t fin;go_wp2_with fail
 refine q.mono ?_;rintro e w7 (⟨rfl,d⟩|⟨v,A,rfl,k⟩)
 ·have B:Hid _:=d
  clear d q;go_wp2;go_ret;exact .inl ⟨rfl,R.out.trans (B.out.mono R.out.size)⟩
 ·have C:Hid _:=k
  clear k;exact eC rfl (.inr ⟨v,A,rfl,C.out⟩)
end Go.Proofs

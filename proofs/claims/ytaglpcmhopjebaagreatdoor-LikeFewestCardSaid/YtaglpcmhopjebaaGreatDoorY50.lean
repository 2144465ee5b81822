import Derived.Test.YtaglpcmhopjebaaGreatDoorY49
set_option linter.all false
set_option maxRecDepth 100000
set_option maxHeartbeats 20000000
namespace Go.Proofs
open Go.Tm Go.RowKit
def bM{kd w w' v l}(a:ae w w')(h:aB TT 3 (dI kd) w v l):aB TT 3 (dI kd) w' v l:=h.stays a λx y o z e h=>by subst e;exact h.keep a
def Jt{W b x y e F}(h:W.heap[b]? =some (.cells #[.int .i64 x,.int .i64 y] e F)):aB TT 1 dn W (.slice (some ⟨b,0,none⟩) 2 2) [x,y]:=
 lK h rfl (by decide) λk a=>by
  match k,a with
  |0,_=>exact cell_of_heap h _ _ rfl
  |1,_=>exact cell_of_heap h _ _ rfl
def Ju{W b x y z e F}(h:W.heap[b]? =some (.cells #[.int .i64 x,.int .i64 y,.int .i64 z] e F)):aB TT 1 dn W (.slice (some ⟨b,0,none⟩) 3 3) [x,y,z]:=
 lK h rfl (by decide) λk a=>by
  match k,a with
  |0,_=>exact cell_of_heap h _ _ rfl
  |1,_=>exact cell_of_heap h _ _ rfl
  |2,_=>exact cell_of_heap h _ _ rfl
def NK(w)(ag:jD w):Calls (Qs FM) 17 #[] w λe w'=>(e=.returned (.bool true)/\Below w.heap.size w w')\/∃v L,e=.panicked (jo v)/\dN w' v L:=by
 have L:=iP;have e50:=e50 L;have e18:=e18 L;have e22:=e22 L;have e29:=e29 L;have e25:=e25 L;have e31:=e31 L;have e38:=e38 L;have e46:=e46 L;have e36:=e36 L;have e40:=e40 L;have HG:Hid _:=ag;clear ag;go_enter (n17 L),Tryz.ntmps17;go_upto_region 2 with(first|(go_at_call 50;refine(Jm L _).mono ?_;rintro e w1 ⟨sc,rfl,hc,Z⟩;have ak:=hc;obtain⟨v0,v1,v2,vr,vf,vm,vk,rfl,ht,hr,hf,cb,cd⟩:=hc;obtain⟨q,c0,rfl,r0⟩:=ht.1;obtain⟨a1,c1,rfl,r1⟩:=ht.2.1;obtain⟨r,c2,rfl,r2⟩:=ht.2.2;obtain⟨a3,c3,rfl,r3⟩:=hr;obtain⟨z,c4,rfl,r4⟩:=hf;obtain⟨P,c5,rfl,_,_,_,g5⟩:=cb;obtain⟨A,c6,rfl,r6⟩:=cd))
 clear r0 r1 r2 r3 r4 r6 ht;generalize cf:(Value.slice q exC.table.aC.length c0)=V0 at*;generalize ck:(Value.slice a1 exC.table.aO.length c1)=V1 at*;generalize cl:(Value.slice r exC.table.iy.length c2)=V2 at*;generalize cm:(Value.slice a3 exC.rules.length c3)=V3 at*;generalize cn:(Value.slice z exC.new.aW.length c4)=U at*;generalize cp:(Value.slice A exC.kin.length c6)=V6 at*;clear cf ck cl cm cn cp;obtain⟨s,t,rfl,y0,y1,⟨yf,y2,yr⟩,y3,y4⟩:=g5 0 (by decide);obtain⟨cC,cD,cq,z0,z1,⟨zf,z2,zr⟩,z3,z4⟩:=g5 2 (by decide);cases cq;clear g5;obtain⟨w2,B⟩:=ex (w1.alloc (.cells #[V0,V1,V2,V3,.string exC.new.name,.string exC.new.word,U,.int .i64 exC.new.day,.bool exC.new.known,.slice (some ⟨s,t,none⟩) exC.marks.length c5,V6] 60));obtain⟨N,hN⟩:=ex (w1.heap.size);have S2:ae w1 w2:=by rw[B];exact ae.alloc _ _
 have B2:Below w.heap.size w w2:=by rw[B];exact Z.alloc Z.size _
 have cc:∀i v,(#[V0,V1,V2,V3,.string exC.new.name,.string exC.new.word,U,.int .i64 exC.new.day,.bool exC.new.known,.slice (some ⟨s,t,none⟩) exC.marks.length c5,V6]:Array Value)[i]? =some v->w2.cell? ⟨N,i,none⟩=some v:=λi v h=>by rw[B,hN];exact aw w1 _ 60 i v h
 have HC:Hid (∀b,ae w2 b->bl TT b #[V0,V1,V2,V3,.string exC.new.name,.string exC.new.word,U,.int .i64 exC.new.day,.bool exC.new.known,.slice (some ⟨s,t,none⟩) exC.marks.length c5,V6] exC):=λb m=>ak.stays (S2.trans m);have HT:Hid (∀b,ae w2 b->IsTable TT b V0 V1 V2 dx):=λb m=>by obtain⟨_,_,_,_,_,_,_,e,ht,_⟩:=HC.out b m;cases e;exact ht
 have HF:Hid (∀b,ae w2 b->aB TT 1 dn b U ua.aW):=λb m=>by obtain⟨_,_,_,_,_,_,_,e,_,_,hf,_⟩:=HC.out b m;cases e;exact hf
 have n:Hid (∀b,ae w2 b->w2.heap.size<=b.heap.size->jD b):=λb m hz=>HG.out.stays ((ae.below B2).trans m) (Rr B2.size hz);have a:Hid _:=cc;have HY:Hid (∀b,ae w2 b->b.cell? ⟨s,t,none⟩=some (.string qp.name)/\b.cell? ⟨s,t+1,none⟩=some (.string qp.word)/\b.cell? ⟨s,t+2,none⟩=some yf/\b.cell? ⟨s,t+3,none⟩=some (.int .i64 qp.day)/\b.cell? ⟨s,t+4,none⟩=some (.bool qp.known)/\aB TT 1 dn b yf qp.aW):=λb m=>by have st:=S2.trans m;exact⟨st.cell y0,st.cell y1,st.cell y2,st.cell y3,st.cell y4,yr.ints st⟩
 have HZ:Hid (∀b,ae w2 b->b.cell? ⟨s,t+10,none⟩=some (.string oX.name)/\b.cell? ⟨s,t+11,none⟩=some (.string oX.word)/\b.cell? ⟨s,t+12,none⟩=some zf/\b.cell? ⟨s,t+13,none⟩=some (.int .i64 oX.day)/\b.cell? ⟨s,t+14,none⟩=some (.bool oX.known)/\aB TT 1 dn b zf oX.aW):=λb m=>by have st:=S2.trans m;exact⟨st.cell z0,st.cell z1,st.cell z2,st.cell z3,st.cell z4,zr.ints st⟩
 have HB:Hid _:=B2;rw[<-B,<-hN];clear B hN ak Z S2 y0 y1 y2 y3 y4 z0 z1 z2 z3 z4 yr zr B2;have u0:=cc 0 _ rfl;have u1:=cc 1 _ rfl;have u2:=cc 2 _ rfl;have al:=O7 L w2 (HT.out w2 (ae.refl _));clear cc;go_upto_region 3 with(first|(go_at_call 18;refine al.mono ?_;clear al;rintro e w3 ⟨rfl,aa⟩))
 have S3:ae w2 w3:=ae.below aa;have B3:Below w2.heap.size w2 w3:=aa;have u0:=S3.cell u0;have u1:=S3.cell u1;have u2:=S3.cell u2;have an:=NJ L w3 (HT.out w3 S3) (n.out w3 S3 B3.size).len;have H3:Hid (ae w2 w3/\Below w2.heap.size w2 w3):=⟨S3,B3⟩
 clear aa S3 B3;go_upto_region 4 with(first|(go_at_call 22;refine an.mono ?_;clear an;rintro e w4 ⟨rfl,ao⟩))
 have B4:Below w2.heap.size w2 w4:=H3.out.2.trans (ao.mono H3.out.2.size);have H4:Hid (Below w2.heap.size w2 w4):=B4;have C:=LY L w4;clear ao B4 u0 u1 u2 H3;go_upto_region 5 with(first|(go_at_call 29;refine C.mono ?_;clear C;rintro e w5 ⟨vE,rfl,hE,ar⟩))
 have H5:Hid (Below w2.heap.size w2 w5):=H4.out.trans (ar.mono H4.out.size);have HE:Hid _:=hE;have C:=LZ L w5;clear hE ar H4;go_upto_region 6 with(first|(go_at_call 29;refine C.mono ?_;clear C;rintro e k ⟨vD,rfl,hD,ab⟩))
 have H6:Hid (Below w2.heap.size w2 k):=H5.out.trans (ab.mono H5.out.size);have ax:Hid (aB TT 3 (dI .u8) k vE [(2,2,115),(3,2,101)]):=bM (ae.below ab) HE.out;have HD:Hid _:=hD;clear hD ab H5 HE;have d:Hid (ae w2 k):=ae.below H6.out;have q:=λx:aj w2 k=>(d.out.trans x.st).cell (a.out 0 _ rfl);have a1:=λx:aj w2 k=>(d.out.trans x.st).cell (a.out 1 _ rfl);have r:=λx:aj w2 k=>(d.out.trans x.st).cell (a.out 2 _ rfl);have z:=λx:aj w2 k=>(d.out.trans x.st).cell (a.out 4 _ rfl);have P:=λx:aj w2 k=>(d.out.trans x.st).cell (a.out 5 _ rfl);have A:=λx:aj w2 k=>(d.out.trans x.st).cell (a.out 6 _ rfl);have Q:=λx:aj w2 k=>(d.out.trans x.st).cell (a.out 7 _ rfl);have R:=λx:aj w2 k=>(d.out.trans x.st).cell (a.out 8 _ rfl);have S:=λx:aj w2 k=>(d.out.trans x.st).cell (a.out 9 _ rfl);have b0:=λx:aj w2 k=>(HY.out x.val (d.out.trans x.st)).1;have b1:=λx:aj w2 k=>(HY.out x.val (d.out.trans x.st)).2.1;have b2:=λx:aj w2 k=>(HY.out x.val (d.out.trans x.st)).2.2.1;have b3:=λx:aj w2 k=>(HY.out x.val (d.out.trans x.st)).2.2.2.1;have b4:=λx:aj w2 k=>(HY.out x.val (d.out.trans x.st)).2.2.2.2.1;have cr:(0:Int)<(exC.marks.length:Int):=by decide
 have qL:=λx:aj w2 k=>aj.calls (L0 L x.val (HT.out _ (d.out.trans x.st)) (m1:=#[.string exC.new.name,.string exC.new.word,U,.int .i64 exC.new.day,.bool exC.new.known]) (m2:=#[.string qp.name,.string qp.word,yf,.int .i64 qp.day,.bool qp.known]) ⟨U,rfl,HF.out _ (d.out.trans x.st)⟩ ⟨yf,rfl,(HY.out x.val (d.out.trans x.st)).2.2.2.2.2⟩ (n.out _ (d.out.trans x.st) x.be.size));refine bh (w0:=w2) (w1:=k) (by kernel_rfl) (by kernel_rfl) (ae.refl _) H6.out ?_;haveI ad:Nonempty (aj w2 k):=⟨⟨k,ae.refl _,H6.out⟩⟩
 repeat (go_big_quiet_step (first|(go_at_call 25;exact qL _)))
 refine wpQuiet_nil ?_;rintro l ⟨⟨_,Sz,Bz⟩,rfl⟩;have H7:Hid (Below w2.heap.size w2 l):=Bz;have ay:Hid _:=bM Sz ax.out;have aM:Hid _:=bM Sz HD.out;clear qL q a1 r z P A Q R S b0 b1 b2 b3 b4 ad Sz Bz ax HD H6 d;go_upto_region 7 with fail;have f:Hid (ae w2 l):=ae.below H7.out;have q:=λx:aj w2 l=>(f.out.trans x.st).cell (a.out 0 _ rfl);have a1:=λx:aj w2 l=>(f.out.trans x.st).cell (a.out 1 _ rfl);have r:=λx:aj w2 l=>(f.out.trans x.st).cell (a.out 2 _ rfl);have z:=λx:aj w2 l=>(f.out.trans x.st).cell (a.out 4 _ rfl);have P:=λx:aj w2 l=>(f.out.trans x.st).cell (a.out 5 _ rfl);have A:=λx:aj w2 l=>(f.out.trans x.st).cell (a.out 6 _ rfl);have Q:=λx:aj w2 l=>(f.out.trans x.st).cell (a.out 7 _ rfl);have R:=λx:aj w2 l=>(f.out.trans x.st).cell (a.out 8 _ rfl);have S:=λx:aj w2 l=>(f.out.trans x.st).cell (a.out 9 _ rfl);have b0:=λx:aj w2 l=>(HZ.out x.val (f.out.trans x.st)).1;have b1:=λx:aj w2 l=>(HZ.out x.val (f.out.trans x.st)).2.1;have b2:=λx:aj w2 l=>(HZ.out x.val (f.out.trans x.st)).2.2.1;have b3:=λx:aj w2 l=>(HZ.out x.val (f.out.trans x.st)).2.2.2.1;have b4:=λx:aj w2 l=>(HZ.out x.val (f.out.trans x.st)).2.2.2.2.1;have cr:(2:Int)<(exC.marks.length:Int):=by decide
 have qL:=λx:aj w2 l=>aj.calls (L1 L x.val (HT.out _ (f.out.trans x.st)) (m1:=#[.string exC.new.name,.string exC.new.word,U,.int .i64 exC.new.day,.bool exC.new.known]) (m2:=#[.string oX.name,.string oX.word,zf,.int .i64 oX.day,.bool oX.known]) ⟨U,rfl,HF.out _ (f.out.trans x.st)⟩ ⟨zf,rfl,(HZ.out x.val (f.out.trans x.st)).2.2.2.2.2⟩ (n.out _ (f.out.trans x.st) x.be.size));refine bh (w0:=w2) (w1:=l) (by kernel_rfl) (by kernel_rfl) (ae.refl _) H7.out ?_;haveI ad:Nonempty (aj w2 l):=⟨⟨l,ae.refl _,H7.out⟩⟩
 repeat (go_big_quiet_step (first|(go_at_call 25;exact qL _)))
 refine wpQuiet_nil ?_;rintro D ⟨⟨_,Sz,Bz⟩,rfl⟩;have H8:Hid (Below w2.heap.size w2 D):=Bz;have ba:Hid _:=bM Sz ay.out;have bb:Hid _:=bM Sz aM.out;clear qL q a1 r z P A Q R S b0 b1 b2 b3 b4 ad Sz Bz ay aM H7 f;go_upto_region 8 with fail;have u:Hid (ae w2 D):=ae.below H8.out;have q:=(u.out).cell (a.out 0 _ rfl);have a1:=(u.out).cell (a.out 1 _ rfl);have r:=(u.out).cell (a.out 2 _ rfl);obtain⟨wA,o⟩:=ex ((D.alloc (.cells #[.int .i64 101,.int .i64 203] 3)).alloc (.cells #[.int .i64 101,.int .i64 204,.int .i64 305] 3));have SA:ae D wA:=by rw[o];exact(ae.alloc _ _).trans (ae.alloc _ _)
 have BA:Below w2.heap.size w2 wA:=by rw[o];exact(H8.out.alloc H8.out.size _).alloc (H8.out.alloc H8.out.size _).size _
 have bd:wA.heap[D.heap.size]? =some (.cells #[.int .i64 101,.int .i64 203] 3 (0,0)):=by rw[o];exact(ae.alloc _ _) _ _ _ _ Sd
 have bk:wA.heap[D.heap.size+1]? =some (.cells #[.int .i64 101,.int .i64 204,.int .i64 305] 3 (0,0)):=by rw[o];have h:((D.alloc (.cells #[.int .i64 101,.int .i64 203] 3)).alloc (.cells #[.int .i64 101,.int .i64 204,.int .i64 305] 3)).heap[(D.alloc (.cells #[.int .i64 101,.int .i64 203] 3)).heap.size]? =some (.cells #[.int .i64 101,.int .i64 204,.int .i64 305] 3 (0,0)):=Sd;rw[World.size_alloc]at h;exact h
 have af:=L3 L wA (HT.out _ (u.out.trans SA)) (m1:=#[.string ⟨#[97]⟩,.string ⟨#[]⟩,.slice (some ⟨D.heap.size,0,none⟩) 2 2,.int .i64 0,.bool false]) (m2:=#[.string ⟨#[98]⟩,.string ⟨#[]⟩,.slice (some ⟨D.heap.size+1,0,none⟩) 3 3,.int .i64 0,.bool false]) ⟨_,rfl,Jt bd⟩ ⟨_,rfl,Ju bk⟩ (n.out _ (u.out.trans SA) BA.size);rw[o]at af;have E:Hid (Below w2.heap.size w2 wA/\ae D wA):=⟨BA,SA⟩
 clear SA BA bd bk;go_upto_region 9 with(first|(go_at_call 25;refine af.mono ?_;clear af;rintro e w9 ⟨rfl,F⟩))
 rw[<-o]at F;have H9:Hid (Below w2.heap.size w2 w9):=E.out.1.trans (F.mono E.out.1.size);have br:Hid _:=bM (E.out.2.trans (ae.below F)) ba.out;have bs:Hid _:=bM (E.out.2.trans (ae.below F)) bb.out;clear F o E H8 u ba bb q a1 r;have g:Hid (ae w2 w9):=ae.below H9.out;have q:=(g.out).cell (a.out 0 _ rfl);have a1:=(g.out).cell (a.out 1 _ rfl);have r:=(g.out).cell (a.out 2 _ rfl);have a3:=(g.out).cell (a.out 3 _ rfl);have z:=(g.out).cell (a.out 4 _ rfl);have P:=(g.out).cell (a.out 5 _ rfl);have A:=(g.out).cell (a.out 6 _ rfl);have Q:=(g.out).cell (a.out 7 _ rfl);have R:=(g.out).cell (a.out 8 _ rfl);have S:=(g.out).cell (a.out 9 _ rfl);have G:=(g.out).cell (a.out 10 _ rfl);have bx:=L9 w9 (HC.out w9 g.out) (n.out w9 g.out H9.out.size);go_wp2_with fail
 refine bx.mono ?_;rintro e H (⟨vS,rfl,hS,p⟩|⟨v,L',rfl,hp⟩)
 ·have I:Hid (Below w2.heap.size w2 H):=H9.out.trans (p.mono H9.out.size)
  have V:Hid _:=bM (ae.below p) br.out;have W:Hid _:=bM (ae.below p) bs.out;have c:Hid (ae w2 H):=ae.below I.out;have X:Hid _:=hS;clear bx hS p H9 g br bs q a1 r a3 z P A Q R S G;go_upto_region 10 with fail;have q:=(c.out).cell (a.out 0 _ rfl);have a1:=(c.out).cell (a.out 1 _ rfl);have r:=(c.out).cell (a.out 2 _ rfl);have a3:=(c.out).cell (a.out 3 _ rfl);have z:=(c.out).cell (a.out 4 _ rfl);have P:=(c.out).cell (a.out 5 _ rfl);have A:=(c.out).cell (a.out 6 _ rfl);have Q:=(c.out).cell (a.out 7 _ rfl);have R:=(c.out).cell (a.out 8 _ rfl);have S:=(c.out).cell (a.out 9 _ rfl);have G:=(c.out).cell (a.out 10 _ rfl);have J:=L4 L H (HC.out H c.out) (n.out H c.out I.out.size);go_upto_region 11 with(first|(go_at_call 38;refine J.mono ?_;clear J;rintro e wB ⟨vK,rfl,hK,K⟩))
  have M:Hid (Below w2.heap.size w2 wB):=I.out.trans (K.mono I.out.size);have bA:Hid _:=bM (ae.below K) V.out;have bB:Hid _:=bM (ae.below K) W.out;have bC:Hid _:=bM (ae.below K) X.out;have b5:Hid _:=hK;have j:Hid (ae w2 wB):=ae.below M.out;clear hK K I c V W X q a1 r a3 z P A Q R S G;have q:=(j.out).cell (a.out 0 _ rfl);have a1:=(j.out).cell (a.out 1 _ rfl);have r:=(j.out).cell (a.out 2 _ rfl);have a3:=(j.out).cell (a.out 3 _ rfl);have z:=(j.out).cell (a.out 4 _ rfl);have P:=(j.out).cell (a.out 5 _ rfl);have A:=(j.out).cell (a.out 6 _ rfl);have Q:=(j.out).cell (a.out 7 _ rfl);have R:=(j.out).cell (a.out 8 _ rfl);have S:=(j.out).cell (a.out 9 _ rfl);have G:=(j.out).cell (a.out 10 _ rfl);have J:=L5 L wB (HC.out wB j.out) (n.out wB j.out M.out.size);go_upto_region 12 with(first|(go_at_call 38;refine J.mono ?_;clear J;rintro e O ⟨bo,oo,co,rfl,⟨t0,t1,t2⟩,y⟩))
  have T:Hid (Below w2.heap.size w2 O):=M.out.trans (y.mono M.out.size);have cu:Hid _:=bM (ae.below y) bA.out;have cv:Hid _:=bM (ae.below y) bB.out;have cw:Hid _:=bM (ae.below y) bC.out;have cx:Hid _:=bM (ae.below y) b5.out;clear y M j bA bB bC b5 q a1 r a3 z P A Q R S G;replace t0:O.cell? ⟨bo,oo,none⟩=some (.int .i64 1):=t0;replace t1:O.cell? ⟨bo,oo+1,none⟩=some (.int .i64 0):=t1;replace t2:O.cell? ⟨bo,oo+2,none⟩=some (.int .i64 0):=t2;have Y:=yF FM 1 0 0 1 0 0;rw[RE (⟨rfl,rfl,rfl⟩:(1:Int)=1/\(0:Int)=0/\(0:Int)=0)]at Y;have b6:=iH FM uK .neq (.tmp 156) (.tmp 157);go_upto_region 16 with fail;clear Y b6 t0 t1 t2;have qA:=Ef L (O.alloc (.cells #[.int .i64 2,.int .i64 2,.int .u8 115,.int .i64 3,.int .i64 2,.int .u8 101] 96)) (bM (ae.alloc _ _) cu.out) (oS [(2,2,115),(3,2,101)] (by decide) _ rfl);have cy:=λb (m:ae O b)=>Ef L (b.alloc (.cells #[.int .i64 0,.int .i64 0,.int .u8 98,.int .i64 1,.int .i64 1,.int .u8 0] 96)) (bM (m.trans (ae.alloc _ _)) cv.out) (oS [(0,0,98),(1,1,0)] (by decide) _ rfl);have cz:=λb (m:ae O b)=>L6 L (b.alloc (.cells #[.int .i64 0,.int .i64 0,.int .i64 100,.int .i64 1,.int .i64 1,.int .i64 100] 66)) (bM (m.trans (ae.alloc _ _)) cw.out) (oS [(0,0,100),(1,1,100)] (by decide) _ rfl);have cA:=λb (m:ae O b)=>L8 L (b.alloc (.cells #[.int .i64 0,.int .i64 90,.int .i64 0,.int .i64 0,.int .i64 100,.int .i64 2,.int .i64 0,.int .i64 0,.int .i64 3] 86)) (bM (m.trans (ae.alloc _ _)) cx.out) (oS [(0,90,0),(0,100,2),(0,0,3)] (by decide) _ rfl);go_wp2_with (first
   |(go_at_call 46;refine qA.mono ?_;clear qA;rintro e wD ⟨rfl,b7⟩;have sD:ae O wD:=(ae.alloc _ _).trans (ae.below b7);have qD:=cy wD sD;have DD:Hid (Below w2.heap.size w2 wD):=(T.out.alloc T.out.size _).trans (b7.mono (T.out.alloc T.out.size _).size))
   |(go_at_call 46;refine qD.mono ?_;clear qD;rintro e wE ⟨rfl,b8⟩;have sE:ae O wE:=sD.trans ((ae.alloc _ _).trans (ae.below b8));have qH:=cz wE sE;have DE:Hid (Below w2.heap.size w2 wE):=(DD.out.alloc DD.out.size _).trans (b8.mono (DD.out.alloc DD.out.size _).size))
   |(go_at_call 36;refine qH.mono ?_;clear qH;rintro e wF ⟨rfl,ca⟩;have sF:ae O wF:=sE.trans ((ae.alloc _ _).trans (ae.below ca));have qK:=cA wF sF;have DF:Hid (Below w2.heap.size w2 wF):=(DE.out.alloc DE.out.size _).trans (ca.mono (DE.out.alloc DE.out.size _).size))
   |(go_at_call 40;refine qK.mono ?_;clear qK;rintro e wG ⟨rfl,cB⟩;have DG:Hid (Below w2.heap.size w2 wG):=(DF.out.alloc DF.out.size _).trans (cB.mono (DF.out.alloc DF.out.size _).size)))
  go_ret;exact .inl ⟨rfl,HB.out.trans (DG.out.mono HB.out.size)⟩
 ·have HP:Hid _:=hp
  clear hp;exact er rfl (.inr ⟨v,L',rfl,HP.out⟩)
def Eg{x y:Bs}(c:x.length<=48)(d:y.length<=48)(a:x.all aX=true)(b:y.all aX=true):fT (bs x) (bs y)=0:=by unfold fT;rw[bE,bE,bY,bY,Ro (by omega),a,b];rfl
def mZ{fs}(L:bQ fs){x y:Bs}(i:x.length<=48)(j:y.length<=48)(k:x.all aX=true)(d:y.all aX=true)(w):
 Calls (Qs fs) 29 #[.string (bs x),.string (bs y)] w λe w'=>∃ao c,e=.returned (.tuple #[.slice ao (aJ x y) c,.int .i64 0])/\aB (λ_=>True) 3 (dI .u8) w' (.slice ao (aJ x y) c) (gu x y)/\Below w.heap.size w w':=by
 have h:=A4 L (bs x) (bs y) w (by rw[bE];omega) (by rw[bE];omega);refine h.mono λe w' ⟨v,a,f,l⟩=>?_;have g:=Eg i j k d;have m:gy (bs x) (bs y)=gu x y:=by unfold gy;rw[Rp g,bY,bY]
 rw[g]at a;rw[m]at f;have b:=tz f;obtain⟨ao,c,rfl,_⟩:=id b;rw[pG x y d]at a b;exact⟨ao,c,a,b,l⟩
def Jv{x:Bs}{l:List Ed}(a:x.length<=48)(b:x.all aX=true):eW (bs x) l=eR x.length l:=by unfold eW;have:fT (bs x) ⟨#[]⟩=0:=Eg (y:=[]) a (by decide) b rfl;rw[Rp this,bE]
def Gl{x:Bs}{l:List Ed}(h:eW (bs x) l=0):ov (bs x) l=bs (bP x 0 l):=by unfold ov;rw[Rp h,bY]
def Eh{K K' v0 v O l}(w)(j:aB K 1 yl w v0 O)(G:aB K' 3 (dI .u8) w v l)(P:gi w)(Q:jD w):
 Calls (Qs FM) 15 #[v0,v] w λe w'=>(e=.returned (.bool true)/\Below w.heap.size w w')\/∃v L,e=.panicked (jo v)/\dN w' v L:=by
 have L:=iP;have e17:∀(a:Array Value) (w:World),(callFunc 17 a).run (Qs FM) w=.ok (.enter 17 a) w:=e17 L;have e28:=e28 L;have e29:=e29 L;have e47:=e47 L;have qs:=λw2 (b:Below w.heap.size w w2)=>NK w2 (Q.stays (ae.below b) b.size);have k:=G;obtain⟨ao,cp,rfl,a6,a7,a8,p⟩:=G;by_cases hC:96<l.length
 ·have ax:(96:Int)<(l.length:Int):=by omega
  have q:=qs w (Below.refl _ _);clear hC k P Q p qs j;go_enter (n15 L),Tryz.ntmps15;go_wp2_with fail
  refine q.mono ?_;rintro e w2 (⟨rfl,b⟩|⟨v,R,rfl,j⟩)
  ·have S:Hid _:=b
   clear b q;go_wp2;go_ret;exact .inl ⟨rfl,S.out⟩
  ·have T:Hid _:=j
   clear j;exact er rfl (.inr ⟨v,R,rfl,T.out⟩)
 have ax:decide ((96:Int)<(l.length:Int))=false:=Rz (by omega);have qw:=λ(m:Nat) (hm:m<1000) A (b:Below w.heap.size w A)=>OX L m A (j.stays (ae.below b) λx y o z e h=>by subst e;exact⟨(ae.below b).cell h.1,h.2⟩) hm;have H:=qw 0 (by decide) w (Below.refl _ _);have r:=λa (ha:a.size<1000000) A (b:Below w.heap.size w A)=>NM L a A (k.stays (ae.below b) λx y o z e h=>by subst e;exact h.keep (ae.below b)) ha (P.below b);have HL:Hid (l.length<=96):=by rw[Hid];omega
 have HQ:Hid _:=qw;have HA:Hid _:=r;have HS:Hid _:=qs;clear hC k P Q p j qw r qs;go_enter (n15 L),Tryz.ntmps15;go_upto_region 4 with(first
  |(go_at_call 28;refine H.mono ?_;clear H;rintro e w2 ⟨i,rfl,l1,b1,B2⟩;have I:=HQ.out 22 (by decide) w2 B2)
  |(go_at_call 28;refine I.mono ?_;clear I;rintro e w3 ⟨U,rfl,l2,b2,aa⟩;have B3:Below w.heap.size w w3:=B2.trans (aa.mono B2.size);have J:=HQ.out 44 (by decide) w3 B3)
  |(go_at_call 28;refine J.mono ?_;clear J;rintro e w4 ⟨V,rfl,l3,b3,ab⟩;have B4:Below w.heap.size w w4:=B3.trans (ab.mono B3.size)))
 have t:=mZ L (by omega) (by omega) b1 b3 w4;have c:=λA=>mZ L (by omega) (by omega) b1 b2 A;have d:=λA=>mZ L (by omega) (by omega) b2 b3 A;have t1:=pE i U V;have t2:=pE i V U;rw[DX V U]at t2;have m1:=jq i V;have m2:=jq i U;have m3:=jq U V;obtain⟨n1,ad⟩:=ex (aJ i V);obtain⟨n2,af⟩:=ex (aJ i U);obtain⟨n3,ag⟩:=ex (aJ U V);rw[<-ad]at t t1 t2 m1;simp only[<-af]at c t1 t2 m2;simp only[<-ag]at d t1 t2 m3;have g1:decide ((n2:Int)+n3<n1)=false:=Rz (by omega);have g2:decide ((n1:Int)<(n2:Int)-n3)=false:=Rz (by omega);have ba:n1<=48/\n2<=48/\n3<=48:=by omega
 have HX:Hid (i.length<=20/\i.all aX=true):=⟨l1,b1⟩
 have ak:Hid _:=B4;clear ad af ag t1 t2 m1 m2 m3 l1 l2 l3 b1 b2 b3 B2 B3 B4 aa ab;go_upto_region 10 with(first
  |(go_at_call 29;refine t.mono ?_;clear t;rintro e w5 ⟨a1,c1,rfl,W,B⟩;have B5:Below w.heap.size w w5:=ak.out.trans (B.mono ak.out.size);have c:=c w5)
  |(go_at_call 29;refine c.mono ?_;clear c;rintro e w6 ⟨a2,c2,rfl,X,C⟩;have B6:Below w.heap.size w w6:=B5.trans (C.mono B5.size);have d:=d w6)
  |(go_at_call 29;refine d.mono ?_;clear d;rintro e w7 ⟨a3,c3,rfl,Y,D⟩;have B7:Below w.heap.size w w7:=B6.trans (D.mono B6.size);have r:=HA.out (bs i) (by rw[bE];have:=HX.out;omega) w7 B7))
 refine r.mono ?_;clear r;rintro e w8 ⟨rfl,E⟩;have hF:=Jv (x:=i) (l:=l) (by have:=HX.out;omega) HX.out.2;have HF:Hid _:=hF;rw[hF];obtain⟨f,M⟩:=ex (eR i.length l);obtain⟨s,hs⟩:=ex (ov (bs i) l);rw[<-M,<-hs];have B8:Below w.heap.size w w8:=B7.trans (E.mono B7.size);have g:Hid _:=B8;by_cases F:f=0
 ·rw[F]at M
  rw[Gl (hF.trans M.symm)]at hs;have n:=tw M.symm HX.out.2;have few:=OO M.symm (rfl:bP i 0 l=bP i 0 l);obtain⟨y,hy⟩:=ex (bP i 0 l);rw[<-hy]at hs n few;subst F hs;by_cases al:48<y.length
  ·have g4:(48:Int)<((bs y).size:Int):=by rw[bE];omega
   have q:=HS.out w8 B8;clear M hF hy n few al B5 B6 B7 B8 B C D E W X Y;go_wp2_with fail
   refine q.mono ?_;rintro e w9 (⟨rfl,b⟩|⟨v,R,rfl,j⟩)
   ·have S:Hid _:=b
    clear b q;go_wp2;go_ret;exact .inl ⟨rfl,g.out.trans (S.out.mono g.out.size)⟩
   ·have T:Hid _:=j
    clear j;exact er rfl (.inr ⟨v,R,rfl,T.out⟩)
  ·have g4:decide ((48:Int)<((bs y).size:Int))=false:=Rz (by rw[bE];omega)
   have u:=mZ L (by have:=HX.out;omega) (by omega) HX.out.2 n w8;obtain⟨n4,an⟩:=ex (aJ i y);rw[<-an]at u few;have aM:(n4:Int)<=(l.length:Int):=by omega
   clear M hF hy n few al B5 B6 B7 B8 B C D E W X Y an;go_wp2_with (first|(go_at_call 29;refine u.mono ?_;clear u;rintro e ar ⟨a4,c4,rfl,ay,Z⟩;have q:=HS.out ar (g.out.trans (Z.mono g.out.size));have N:Hid (Below w.heap.size w ar):=g.out.trans (Z.mono g.out.size);clear ay Z))
   refine q.mono ?_;rintro e w9 (⟨rfl,b⟩|⟨v,R,rfl,j⟩)
   ·have S:Hid _:=b
    clear b q;go_wp2;go_ret;exact .inl ⟨rfl,N.out.trans (S.out.mono N.out.size)⟩
   ·have T:Hid _:=j
    clear j;exact er rfl (.inr ⟨v,R,rfl,T.out⟩)
 ·have hfb:(f !=0)=true:=by simpa using F
  have q:=HS.out w8 B8;clear M hF hs F B5 B6 B7 B8 B C D E W X Y;go_wp2_with fail
  refine q.mono ?_;rintro e w9 (⟨rfl,b⟩|⟨v,R,rfl,j⟩)
  ·have S:Hid _:=b
   clear b q;go_wp2;go_ret;exact .inl ⟨rfl,g.out.trans (S.out.mono g.out.size)⟩
  ·have T:Hid _:=j
   clear j;exact er rfl (.inr ⟨v,R,rfl,T.out⟩)
end Go.Proofs

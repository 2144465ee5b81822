import Derived.Test.YtaglpcmhopjebaaGreatDoorU39
set_option linter.all false
set_option maxRecDepth 100000
set_option maxHeartbeats 20000000
namespace Go.Proofs
open Go.Tm Go.RowKit
def OS{x y:Bs}(c:x.length<=48)(d:y.length<=48)(a:x.all aQ=true)(b:y.all aQ=true):kZ (bs x) (bs y)=0:=by unfold kZ;rw[aR,aR,bu,bu,Uc (by omega),a,b];rfl
def I2{fs}(L:bT fs){x y:Bs}(j:x.length<=48)(k:y.length<=48)(l:x.all aQ=true)(f:y.all aQ=true)(w):Calls (Qs fs) 29 #[.string (bs x),.string (bs y)] w λe w'=>∃a c,e=.returned (.tuple #[.slice a (aK x y) c,.int .i64 0])/\aE (λ_=>True) 3 (fj .u8) w' (.slice a (aK x y) c) (iG x y)/\Below w.heap.size w w':=by (have h:=CR L (bs x) (bs y) w (by rw[aR];omega) (by rw[aR];omega);refine h.mono λe w' ⟨v,b,g,m⟩=>?_;have i:=OS j k l f;have n:gR (bs x) (bs y)=iG x y:=by unfold gR;rw[Ud i,bu,bu]);rw[i]at b;rw[n]at g;have d:=uw g;obtain⟨a,c,rfl,_⟩:=id d;rw[qw x y f]at b d;exact⟨a,c,b,d,m⟩
def LY{x:Bs}{k:Nat}(a:k<x.length):bs (x.drop (k+1)).reverse++(bs x).extract k (k+1)=bs (x.drop k).reverse:=by rw[rq,bu,List.drop_take,VO a,List.reverse_cons,Xp];rfl
def F8{v0 v1 v2 v:Value}{t:Table}{V:List Int}(w)(ht:IsTable (λ_=>True) w v0 v1 v2 t)(hr:o9 t)(s:aE (λ_=>True) 1 uA w v V)(u:gQ w):Calls (Qs FM) 7 #[.agg #[v0,v1,v2],v] w λe w'=>(e=.returned (.bool true)/\Below w.heap.size w w')\/∃v L,e=.panicked (fQ v)/\dH w' v L:=by
 have L:=fP;have e16:=e16 L;have e17:∀(a:Array Value) (w:World),(callFunc 17 a).run (Qs FM) w=.ok (.enter 17 a) w:=e17 L;have e21:=e21 L;have e25:=e25 L;have e28:=e28 L;have e29:=e29 L;obtain⟨A,c3,rfl,_⟩:=id ht.2.1;obtain⟨w1,B⟩:=ex (w.alloc (.cells #[v0,.slice A t.au.length c3,v2] 26));have S1:ae w w1:=by rw[B];exact ae.alloc _ _
 have B1:Below w.heap.size w w1:=by rw[B];exact aF _ _
 have F:w1.heap[w.heap.size]? =some (.cells #[v0,.slice A t.au.length c3,v2] 26):=by rw[B];exact UT
 obtain⟨N,hN⟩:=ex (w.heap.size);rw[<-hN]at F;have ct:∀i v,(#[v0,.slice A t.au.length c3,v2]:Array Value)[i]? =some v->w1.cell? ⟨N,i,none⟩=some v:=λi v h=>cell_of_heap F i v h;have aM:=ht.stays S1;have bA:=u.stays S1 B1.size;have a6:=IT L w1 aM hr;have qs:=λw2 (c:Below w.heap.size w w2)=>C7 w2 (u.stays (ae.below c) c.size);have l:=λ(hz:uz t) w2 (c:Below w.heap.size w w2)=>mv L w2 (ht.stays (ae.below c)) hz;have a7:=λ(m:Nat) (hm:m<1000) d (c:Below w.heap.size w d)=>IU L m d (s.stays (ae.below c) λx y o z e h=>by subst e;exact⟨(ae.below c).cell h.1,h.2⟩) hm;have b:=λ(k:Int) (n m:ByteArray) (x y:Bs) d (c:Below w.heap.size w d)=>FV L k d (v0:=.slice none 0 0) (t:=bare t) ⟨lL,(ht.stays (ae.below c)).2.1,(ht.stays (ae.below c)).2.2⟩ (pH n x) (pH m y) (λh n hn=>JD L h n hn) (u.len.stays (ae.below c)) (u.kinds.stays (ae.below c));obtain⟨f,hf⟩:=ex (bj t);simp only[<-hf]at l;have K:Hid _:=B1;have HS:Hid _:=qs;have bB:Hid _:=l;have a8:Hid _:=a7;have ba:Hid _:=b;have HF:Hid _:=hf;have HN:Hid (w.heap.size<=N):=by rw[hN];exact Ue _
 have HH:Hid (∀d,Below w1.heap.size w1 d->d.heap[N]? =some (.cells #[v0,.slice A t.au.length c3,v2] 26)):=λd c=>(ae.below c) _ _ _ _ F;have W:=ct 0 _ rfl;have a1:=ct 1 _ rfl;have X:=ct 2 _ rfl;clear ht aM hr u bA S1 B1 ct s qs l a7 b hf F;go_enter (n7 L),Tryz.ntmps7;go_upto_region 1 with fail;rw[<-B,<-hN];clear B hN;go_wp2_with fail
 refine a6.mono ?_;clear a6;rintro e w2 ⟨z,rfl,hz,bb⟩;have j:Hid _:=bb;clear bb W a1 X;cases z with
 |true=>have HW:Hid (Below w.heap.size w w2):=K.out.trans (j.out.mono K.out.size);clear hz;go_wp2_with fail;exact lq
 |false=>
 have l:=bB.out (hz rfl) w2 (K.out.trans (j.out.mono K.out.size));have W:=cell_of_heap (HH.out w2 j.out) 0 _ rfl;have a1:=cell_of_heap (HH.out w2 j.out) 1 _ rfl;have X:=cell_of_heap (HH.out w2 j.out) 2 _ rfl;clear hz;go_wp2_with fail
 refine l.mono ?_;clear l;rintro e w3 ⟨rfl,bk⟩;have C:Hid (Below w1.heap.size w1 w3):=j.out.trans (bk.mono j.out.size);clear bk W a1 X;by_cases h0:f=0;case neg=>
  have hfb:(f !=0)=true:=by simpa using h0
  have HW:Hid (Below w.heap.size w w3):=K.out.trans (C.out.mono K.out.size);clear h0;go_wp2_with fail
  exact lq
 have HT:Hid (bj t=0):=HF.out.symm.trans h0;subst h0;obtain⟨w4,bm,Y,bo⟩:=OP (HH.out w3 C.out) HN.out (K.out.trans (C.out.mono K.out.size));have n0:=cell_of_heap (HH.out w3 C.out) 0 _ rfl;have g0:=frozen_of_heap (HH.out w3 C.out) 0;have g:Hid (Below w.heap.size w w4):=Y;have HU:Hid (∀d,Below w4.heap.size w4 d->∀i v,(#[.slice none 0 0,.slice A t.au.length c3,v2]:Array Value)[i]? =some v->d.cell? ⟨N,i,none⟩=some v):=λd c i v h=>(ae.below c).cell (bo i v h);have O:=a8.out 0 (by decide) w4 Y;clear Y bo;go_upto_region 4 with fail;rw[<-bm];clear bm n0 g0;go_upto_region 5 with(first
  |(go_at_call 28;refine O.mono ?_;clear O;rintro e w5 ⟨x1,rfl,l1,Z,aa⟩;have B5:Below w4.heap.size w4 w5:=aa;have P:=a8.out 20 (by decide) w5 (g.out.trans (aa.mono g.out.size)))
  |(go_at_call 28;refine P.mono ?_;clear P;rintro e w6 ⟨x2,rfl,l2,b2,bp⟩))
 have B6:Below w4.heap.size w4 w6:=B5.trans (bp.mono B5.size);have bq:Hid _:=B6;have Q:Hid (x1.length<=16/\x1.all aQ=true/\x2.length<=16/\x2.all aQ=true):=⟨l1,Z,l2,b2⟩
 clear B5 B6 aa bp l1 Z l2 b2;obtain⟨n,hn⟩:=ex (x2.length);have s2:(bs x2).size=n:=by rw[aR,hn]
 have ab:Hid _:=hn;have b6:n<=16:=by rw[hn];exact Q.out.2.2.1
 clear hn;go_wp2;go_loopw [7,8] (λs7 s8 wr=>∃m:Nat,m<=n/\s7=.string (bs (x2.drop m).reverse)/\s8=.int .i64 ((m:Int)-1)/\w6=wr) (λ_ s8 _=>(intOf s8+1).toNat);case atStart=>exact⟨n,Ue _,by rw[ab.out,List.drop_length];rfl,rfl,rfl⟩
 case round=>
  obtain⟨m,hm,rfl,rfl,rfl⟩:=hrel;cases m with
  |succ k=>(have e0:((k+1:Nat):Int)-1=k:=by omega);(have hk:(k:Int)<((bs x2).size:Int):=by rw[s2];omega);(have cc:(k:Int)+1<=((bs x2).size:Int):=by omega);(rw[e0];have b7:(bs (x2.drop (k+1)).reverse).size<=16:=by rw[aR,Wn,Uq];have:=ab.out;omega);(have b8:((bs x2).extract k (k+1)).size<=1:=by rw[VF];omega);go_wp2;exact⟨⟨k,by omega,by rw[LY (by have:=ab.out;omega)],by go_num,trivial⟩,by simp[intOf]⟩
  |zero=>
  rw[show((0:Nat):Int)-1= -1 from rfl,UM];go_upto_region 11 with fail;obtain⟨E,ad⟩:=ex (((w6.alloc (.cells #[.string ⟨#[111,110,101]⟩,.string (bs x1),.slice none 0 0,.int .i64 0,.bool false] 38)).alloc (.cells #[.string ⟨#[116,119,111]⟩,.string (bs x2),.slice none 0 0,.int .i64 0,.bool false] 38)).alloc (.cells #[.string ⟨#[116,104,114,101,101]⟩,.string (bs x2.reverse),.slice none 0 0,.int .i64 0,.bool false] 38));obtain⟨S7,B7,ca,cb,cd⟩:=eW w6 _ _ _ _ _ _ E ad;obtain⟨N0,af⟩:=ex (w6.heap.size);obtain⟨N1,ag⟩:=ex (w6.heap.size+1);obtain⟨N2,ak⟩:=ex (w6.heap.size+1+1);rw[<-ad,<-ak,<-ag,<-af];rw[<-af]at ca;rw[<-ag]at cb;rw[<-ak]at cd;have G:Hid (Below w4.heap.size w4 E):=bq.out.trans (B7.mono bq.out.size);have HO:Hid (∀d,Below E.heap.size E d->(∀i v,(#[.string ⟨#[111,110,101]⟩,.string (bs x1),.slice none 0 0,.int .i64 0,.bool false]:Array Value)[i]? =some v->d.cell? ⟨N0,i,none⟩=some v)/\(∀i v,(#[.string ⟨#[116,119,111]⟩,.string (bs x2),.slice none 0 0,.int .i64 0,.bool false]:Array Value)[i]? =some v->d.cell? ⟨N1,i,none⟩=some v)/\∀i v,(#[.string ⟨#[116,104,114,101,101]⟩,.string (bs x2.reverse),.slice none 0 0,.int .i64 0,.bool false]:Array Value)[i]? =some v->d.cell? ⟨N2,i,none⟩=some v):=λd c=>⟨λi v h=>(ae.below c).cell (ca i v h),λi v h=>(ae.below c).cell (cb i v h),λi v h=>(ae.below c).cell (cd i v h)⟩
  clear S7 B7 ca cb cd ad af ag ak;obtain⟨g1,g2,g3,g4⟩:=Q.out;have gr:x2.reverse.length<=16:=by rw[Wn];exact g3
  have gl:x2.reverse.all aQ=true:=by rw[List.all_reverse];exact g4
  have f1:=im (t:=t) (k:=0) (n:=⟨#[111,110,101]⟩) (m:=⟨#[116,119,111]⟩) HT.out (by decide) rfl rfl g1 g3 g2 g4;have f2:=im (t:=t) (k:=3) (n:=⟨#[111,110,101]⟩) (m:=⟨#[116,104,114,101,101]⟩) HT.out (by decide) rfl rfl g1 gr g2 gl;have an:=pd (t:=t) (n:=⟨#[111,110,101]⟩) (m:=⟨#[116,119,111]⟩) HT.out rfl rfl g1 g3 g2 g4;have H:=F3 (t:=t) (n:=⟨#[111,110,101]⟩) (m:=⟨#[116,104,114,101,101]⟩) HT.out rfl rfl g1 gr g2 gl;rw[List.reverse_reverse]at H;obtain⟨p,s⟩:=ex (bH x1 x2);rw[<-s]at an H;have HE:Hid (nI (bare t) 0 (jU ⟨#[111,110,101]⟩ x1) (jU ⟨#[116,119,111]⟩ x2)=p/\fh (bare t) 0 (jU ⟨#[111,110,101]⟩ x1) (jU ⟨#[116,119,111]⟩ x2)=0/\nI (bare t) 3 (jU ⟨#[111,110,101]⟩ x1) (jU ⟨#[116,104,114,101,101]⟩ x2.reverse)=p/\fh (bare t) 3 (jU ⟨#[111,110,101]⟩ x1) (jU ⟨#[116,104,114,101,101]⟩ x2.reverse)=0):=⟨an,f1,H,f2⟩
  have ar:Hid (p=bH x1 x2):=s;clear g1 g2 g3 g4 gr gl f1 f2 an H s;obtain⟨W,a1,X⟩:=zB (HU.out E G.out);obtain⟨b0,Z,b2,b3,b4⟩:=Qo (HO.out E (Below.refl _ _)).1;obtain⟨d0,d1,d2,d3,d4⟩:=Qo (HO.out E (Below.refl _ _)).2.1;have b:=ba.out 0 ⟨#[111,110,101]⟩ ⟨#[116,119,111]⟩ x1 x2 E (g.out.trans (G.out.mono g.out.size));rw[HE.out.1,HE.out.2.1]at b;go_upto_region 12 with(first|(go_at_call 25;refine b.mono ?_;clear b;rintro e w8 ⟨rfl,ax⟩))
  have br:Hid (Below E.heap.size E w8):=ax;have I:Hid (Below w4.heap.size w4 w8):=G.out.trans (ax.mono G.out.size);clear ax W a1 X b0 Z b2 b3 b4 d0 d1 d2 d3 d4;obtain⟨W,a1,X⟩:=zB (HU.out w8 I.out);obtain⟨b0,Z,b2,b3,b4⟩:=Qo (HO.out w8 br.out).1;obtain⟨d0,d1,d2,d3,d4⟩:=Qo (HO.out w8 br.out).2.2;have b:=ba.out 3 ⟨#[111,110,101]⟩ ⟨#[116,104,114,101,101]⟩ x1 x2.reverse w8 (g.out.trans (I.out.mono g.out.size));rw[HE.out.2.2.1,HE.out.2.2.2]at b;go_upto_region 13 with(first|(go_at_call 25;refine b.mono ?_;clear b;rintro e bx ⟨rfl,R⟩))
  have S:Hid (Below w4.heap.size w4 bx):=I.out.trans (R.mono I.out.size);clear R W a1 X b0 Z b2 b3 b4 d0 d1 d2 d3 d4;have ay:=I2 L (x:=x1) (y:=x2) (by have:=Q.out;omega) (by have:=Q.out;omega) Q.out.2.1 Q.out.2.2.2 bx;obtain⟨D,hD⟩:=ex (aK x1 x2);rw[<-hD]at ay;have J:D<=max x1.length x2.length:=by rw[hD];exact oY _ _
  have HD:Hid _:=hD;clear hD;go_upto_region 14 with(first|(go_at_call 29;refine ay.mono ?_;clear ay;rintro e bC ⟨ao,cp,rfl,b5,T⟩))
  have HW:Hid (Below w.heap.size w bC):=g.out.trans ((S.out.trans (T.mono S.out.size)).mono g.out.size);clear T b5;have q:(bs x1).size=x1.length:=aR _;have r:(bs x2).size=x2.length:=aR _;by_cases U:x1=[];case pos=>
   have k1:(((bs x1).size:Int)==0)=true:=by rw[U];rfl
   have k2:(p==0)=true:=by rw[ar.out,U];rfl
   clear U J q r s2;go_wp2_with fail
   exact lq
  by_cases c2:x2=[];case pos=>
   have k1:(((bs x1).size:Int)==0)=false:=Wj (by rw[aR];exactλe=>U (UH (by omega)));have k2:(((bs x2).size:Int)==0)=true:=by rw[c2];rfl
   have k3:(p==0)=true:=by rw[ar.out,c2,FY];rfl
   clear U c2 J q r s2;go_wp2_with fail
   exact lq
  have k1:(((bs x1).size:Int)==0)=false:=Wj (by rw[aR];exactλe=>U (UH (by omega)));have k2:(((bs x2).size:Int)==0)=false:=Wj (by rw[aR];exactλe=>c2 (UH (by omega)));have n1:(bs x1).size≠0:=λe=>by rw[e]at k1;cases k1
  have s:=ar.out.trans (rA U c2);rw[<-HD.out,<-q,<-r]at s;rw[<-q,<-r]at J;have g1:(bs x1).size<=16:=by rw[q];exact Q.out.1
  have g2:(bs x2).size<=16:=by rw[r];exact Q.out.2.2.1
  clear U c2 q r s2;go_upto_region 19 with fail;have e5:max ((bs x1).size:Int) ((bs x2).size:Int)=((max (bs x1).size (bs x2).size:Nat):Int):=by omega
  obtain⟨M,hM⟩:=ex (max (bs x1).size (bs x2).size);have cf:1<=M/\M<=16:=by omega
  rw[e5];rw[<-hM]at s J⊢;have Z:0<=100*((M:Int)-D)/\100*((M:Int)-D)<=1600:=by omega
  have k3:(p==100*((M:Int)-D)/M)=true:=by rw[s];simp
  clear s hM e5 g1 g2 n1 k1 k2;go_wp2_with fail;exact lq
end Go.Proofs

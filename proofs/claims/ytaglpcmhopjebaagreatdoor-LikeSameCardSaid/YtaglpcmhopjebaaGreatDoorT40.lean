import Derived.Test.YtaglpcmhopjebaaGreatDoorT39
set_option linter.all false
set_option maxRecDepth 100000
set_option maxHeartbeats 20000000
namespace Go.Proofs
open Go.Tm Go.RowKit
def sk{t k one two}(h:ej t k one two=0):ej t k two one=0:=by (obtain⟨g0,a,b,c⟩:=jX h;have d:aD k 0 5=true:=by unfold aD;rw[Ta a.1,Ta a.2];rfl);unfold ej;rw[g0,b,c,d];rfl
def Hs{v0 v1 v2:Value}{t:Table}{m1 m2:Array Value}{one two:Mark}(k:Int)(w)(ht:IsTable (λ_=>True) w v0 v1 v2 t)(hr:Ca t)(h1:bq (λ_=>True) w m1 one)(h2:bq (λ_=>True) w m2 two)(bA:iM w):Calls (Qs FM) 5 #[.agg #[v0,v1,v2],.int .i64 k,.agg m1,.agg m2] w λe w'=>(e=.returned (.bool true)/\Below w.heap.size w w')\/∃v L,e=.panicked (iz v)/\dK w' v L:=by
 have L:=iO;have e16:=e16 L;have e17:∀(a:Array Value) (w:World),(callFunc 17 a).run (Qs FM) w=.ok (.enter 17 a) w:=e17 L;have e24:=e24 L;have e25:=e25 L;have e18:=e18 L;have e22:=e22 L;have e27:=e27 L;obtain⟨y1,rfl,i1⟩:=id h1;obtain⟨y2,rfl,i2⟩:=id h2;obtain⟨a7,c3,rfl,_⟩:=id ht.2.1;obtain⟨a8,c1,rfl,z1,_⟩:=id i1;obtain⟨bB,c2,rfl,z2,_⟩:=id i2;obtain⟨w1,ba⟩:=ex (((w.alloc (.cells #[v0,.slice a7 t.aw.length c3,v2] 26)).alloc (.cells #[.string one.name,.string one.word,.slice a8 one.aJ.length c1,.int .i64 one.day,.bool one.known] 38)).alloc (.cells #[.string two.name,.string two.word,.slice bB two.aJ.length c2,.int .i64 two.day,.bool two.known] 38));obtain⟨S1,B1,ca,cb,cd⟩:=eQ w _ _ _ _ _ _ w1 ba;obtain⟨N0,bb⟩:=ex (w.heap.size);obtain⟨N1,bk⟩:=ex (w.heap.size+1);obtain⟨N2,bm⟩:=ex (w.heap.size+1+1);rw[<-bb]at ca;rw[<-bk]at cb;rw[<-bm]at cd;have aa:=ht.stays S1;have ab:=bA.stays S1 B1.size;have m1:=λd (b:Below w1.heap.size w1 d)=>(⟨_,rfl,i1.ints (S1.trans (ae.below b))⟩:bq (λ_=>True) d _ one)
 have m2:=λd (b:Below w1.heap.size w1 d)=>(⟨_,rfl,i2.ints (S1.trans (ae.below b))⟩:bq (λ_=>True) d _ two)
 have bC:=Qo L w1 aa hr;have qs:=λw2 (b:Below w1.heap.size w1 w2)=>Ph w2 (ab.stays (ae.below b) b.size);have U:=λd (b:Below w1.heap.size w1 d)=>NN L d (m1 d b);have V:=λd (b:Below w1.heap.size w1 d)=>NN L d (m2 d b);have ak:=λd (b:Below w1.heap.size w1 d)=>EU L k d (aa.stays (ae.below b)) (m1 d b) (m2 d b) (λh n E=>II L h n E) (ab.len.stays (ae.below b)) (ab.kinds.stays (ae.below b));have M:=λd (b:Below w1.heap.size w1 d)=>EU L k d (aa.stays (ae.below b)) (m2 d b) (m1 d b) (λh n E=>II L h n E) (ab.len.stays (ae.below b)) (ab.kinds.stays (ae.below b));have G:=λd (b:Below w1.heap.size w1 d)=>IG L one.word d (aa.stays (ae.below b));have u:=λd (b:Below w1.heap.size w1 d)=>IG L two.word d (aa.stays (ae.below b));have N:=λ(j:Nat) d (b:Below w1.heap.size w1 d)=>NG L j one.word d (aa.stays (ae.below b)) (ab.len.stays (ae.below b));have H:=λd (b:Below w1.heap.size w1 d)=>KV L d (i1.ints (S1.trans (ae.below b))) (i2.ints (S1.trans (ae.below b)));have o:Hid _:=B1;have HS:Hid _:=qs;have b5:Hid _:=U;have b6:Hid _:=V;have cB:Hid _:=ak;have b7:Hid _:=M;have b8:Hid _:=G;have cc:Hid _:=u;have cC:Hid _:=N;have cD:Hid _:=H;have HA:Hid (∀d,Below w1.heap.size w1 d->∀i v,(#[v0,.slice a7 t.aw.length c3,v2]:Array Value)[i]? =some v->d.cell? ⟨N0,i,none⟩=some v):=λd b i v h=>(ae.below b).cell (ca i v h);have O:Hid (∀d,Below w1.heap.size w1 d->∀i v,(#[.string one.name,.string one.word,.slice a8 one.aJ.length c1,.int .i64 one.day,.bool one.known]:Array Value)[i]? =some v->d.cell? ⟨N1,i,none⟩=some v):=λd b i v h=>(ae.below b).cell (cb i v h);have HD:Hid (∀d,Below w1.heap.size w1 d->∀i v,(#[.string two.name,.string two.word,.slice bB two.aJ.length c2,.int .i64 two.day,.bool two.known]:Array Value)[i]? =some v->d.cell? ⟨N2,i,none⟩=some v):=λd b i v h=>(ae.below b).cell (cd i v h);have a0:=ca 0 _ rfl;have a1:=ca 1 _ rfl;have a2:=ca 2 _ rfl;clear ht aa hr bA ab S1 B1 ca cb cd i1 i2 h1 h2 m1 m2 qs U V ak M G u N H;go_enter (n5 L),Tryz.ntmps5;go_upto_region 1 with fail;rw[<-ba,<-bm,<-bk,<-bb];clear ba bb bk bm;go_wp2_with fail
 refine bC.mono ?_;clear bC;rintro e w2 ⟨z,rfl,hz,cf⟩;have an:Hid _:=cf;clear cf a0 a1 a2;cases z with
 |true=>
  have q:=HS.out w2 an.out;have I:Hid (Below w.heap.size w w2):=o.out.trans (an.out.mono o.out.size);clear hz;go_wp2_with fail;refine q.mono ?_;rintro e w3 (⟨rfl,b⟩|⟨v,y,rfl,g⟩)
  ·have o:Hid _:=b;clear b q;go_wp2;go_ret;exact .inl ⟨rfl,I.out.trans (o.out.mono I.out.size)⟩
  have C:Hid _:=g;clear g;exact aX rfl (.inr ⟨v,y,rfl,C.out⟩)
 |false=>
 have HZ:Hid _:=hz rfl;obtain⟨b0,b1,b2,b3,b4⟩:=yQ (O.out w2 an.out);have U:=b5.out w2 an.out;clear hz;go_wp2_with fail
 refine U.mono ?_;clear U;rintro e w3 ⟨z1,rfl,bo,ck⟩;have ao:Hid (Below w1.heap.size w1 w3):=an.out.trans (ck.mono an.out.size);clear ck b0 b1 b2 b3 b4;cases z1 with
 |true=>
  have q:=HS.out w3 ao.out;have I:Hid (Below w.heap.size w w3):=o.out.trans (ao.out.mono o.out.size);clear bo;go_wp2_with fail;refine q.mono ?_;rintro e w4 (⟨rfl,b⟩|⟨v,y,rfl,g⟩)
  ·have o:Hid _:=b;clear b q;go_wp2;go_ret;exact .inl ⟨rfl,I.out.trans (o.out.mono I.out.size)⟩
  have C:Hid _:=g;clear g;exact aX rfl (.inr ⟨v,y,rfl,C.out⟩)
 |false=>
 have cV:Hid _:=bo rfl;obtain⟨d0,d1,d2,d3,d4⟩:=yQ (HD.out w3 ao.out);have V:=b6.out w3 ao.out;clear bo;go_wp2_with fail
 refine V.mono ?_;clear V;rintro e w4 ⟨z2,rfl,Q,cl⟩;have W:Hid (Below w1.heap.size w1 w4):=ao.out.trans (cl.mono ao.out.size);clear cl d0 d1 d2 d3 d4;cases z2 with
 |true=>
  have q:=HS.out w4 W.out;have I:Hid (Below w.heap.size w w4):=o.out.trans (W.out.mono o.out.size);clear Q;go_wp2_with fail;refine q.mono ?_;rintro e w5 (⟨rfl,b⟩|⟨v,y,rfl,g⟩)
  ·have o:Hid _:=b;clear b q;go_wp2;go_ret;exact .inl ⟨rfl,I.out.trans (o.out.mono I.out.size)⟩
  have C:Hid _:=g;clear g;exact aX rfl (.inr ⟨v,y,rfl,C.out⟩)
 |false=>
 have cX:Hid _:=Q rfl;clear Q;have ak:=cB.out w4 W.out;obtain⟨a0,a1,a2⟩:=NL (HA.out w4 W.out);obtain⟨b0,b1,b2,b3,b4⟩:=yQ (O.out w4 W.out);obtain⟨d0,d1,d2,d3,d4⟩:=yQ (HD.out w4 W.out);obtain⟨n1,X⟩:=ex (qz t k one two);obtain⟨f1,R⟩:=ex (ej t k one two);obtain⟨n2,ad⟩:=ex (qz t k two one);obtain⟨f2,Y⟩:=ex (ej t k two one);rw[<-X,<-R]at ak;have HN:Hid (n1=qz t k one two/\f1=ej t k one two/\n2=qz t k two one/\f2=ej t k two one):=⟨X,R,ad,Y⟩
 clear X R ad Y;go_upto_region 4 with(first|(go_at_call 25;refine ak.mono ?_;clear ak;rintro e w5 ⟨rfl,cm⟩))
 have ar:Hid (Below w1.heap.size w1 w5):=W.out.trans (cm.mono W.out.size);have M:=b7.out w5 ar.out;rw[<-HN.out.2.2.1,<-HN.out.2.2.2]at M;clear cm a0 a1 a2 b0 b1 b2 b3 b4 d0 d1 d2 d3 d4;obtain⟨a0,a1,a2⟩:=NL (HA.out w5 ar.out);obtain⟨b0,b1,b2,b3,b4⟩:=yQ (O.out w5 ar.out);obtain⟨d0,d1,d2,d3,d4⟩:=yQ (HD.out w5 ar.out);go_upto_region 5 with(first|(go_at_call 25;refine M.mono ?_;clear M;rintro e w6 ⟨rfl,cn⟩))
 have S:Hid (Below w1.heap.size w1 w6):=ar.out.trans (cn.mono ar.out.size);clear cn a0 a1 a2 b0 b1 b2 b3 b4 d0 d1 d2 d3 d4;obtain⟨X,R,ad,Y⟩:=HN.out;by_cases hz:f1=0
 ·have hL:ej t k one two=0:=by rw[<-R];exact hz
  have br:=sk hL;obtain⟨g0,hk,g1,g2⟩:=jX hL;have Q:f2=0:=Y.trans br;subst hz Q;have e1:n1=aS t k one two:=X.trans (SS hL);have e2:n2=n1:=by rw[ad,e1,Cg t k (mE g1) (mE g2)];exact SS br
  subst e2;have cp:=E7 (t:=t) (k:=k) (mE g1) (mE g2);rw[<-e1]at cp;have x1:decide (n2<0)=false:=S9 (by omega);have x2:decide ((100:Int)<n2)=false:=S9 (by omega);have a6:=(Ce g1).word;have cq:=(Ce g2).word;have z1:jE t one.word=0:=by unfold jE;rw[SQ (by simpa using g0),SQ (by omega)]
  have z2:jE t two.word=0:=by unfold jE;rw[SQ (by simpa using g0),SQ (by omega)]
  have G:=b8.out w6 S.out;have u:=cc.out;have s1:EN t one.word=bs (aI t.aq one.word.data.toList):=SS z1;have s2:EN t two.word=bs (aI t.aq two.word.data.toList):=SS z2;rw[z1,s1]at G;simp only[z2,s2]at u;have HQ:Hid _:=u;obtain⟨A,hA⟩:=ex (bs (aI t.aq one.word.data.toList));obtain⟨B,hB⟩:=ex (bs (aI t.aq two.word.data.toList));rw[<-hA]at G;have af:Hid (A=bs (aI t.aq one.word.data.toList)/\B=bs (aI t.aq two.word.data.toList)):=⟨hA,hB⟩
  have HW:Hid (one.word.size<=16):=a6;have HG:Hid (cO t=0/\(0<=k/\k<=5)/\n2=aS t k one two):=⟨g0,hk,e1⟩
  clear X R ad Y hL br g0 hk g1 g2 e1 cp a6 cq z1 z2 s1 s2 u hA hB HN;obtain⟨a0,a1,a2⟩:=NL (HA.out w6 S.out);obtain⟨b0,b1,b2,b3,b4⟩:=yQ (O.out w6 S.out);obtain⟨d0,d1,d2,d3,d4⟩:=yQ (HD.out w6 S.out);go_upto_region 8 with(first|(go_at_call 18;refine G.mono ?_;clear G;rintro e w7 ⟨rfl,cr⟩))
  have ax:Hid (Below w1.heap.size w1 w7):=S.out.trans (cr.mono S.out.size);have u:=HQ.out w7 ax.out;rw[<-af.out.2]at u;clear cr a0 a1 a2 b0 b1 b2 b3 b4 d0 d1 d2 d3 d4;obtain⟨a0,a1,a2⟩:=NL (HA.out w7 ax.out);obtain⟨b0,b1,b2,b3,b4⟩:=yQ (O.out w7 ax.out);obtain⟨d0,d1,d2,d3,d4⟩:=yQ (HD.out w7 ax.out);go_upto_region 9 with(first|(go_at_call 18;refine u.mono ?_;clear u;rintro e w8 ⟨rfl,cv⟩))
  have c:Hid (Below w1.heap.size w1 w8):=ax.out.trans (cv.mono ax.out.size);clear cv a0 a1 a2 b0 b1 b2 b3 b4 d0 d1 d2 d3 d4;by_cases h5:k=5
  ·subst h5;have H:=cD.out w8 c.out;have b2:=O.out w8 c.out 2 _ rfl;have d2:=HD.out w8 c.out 2 _ rfl;have I:Hid (∀d,Below w1.heap.size w1 d->d.cell? ⟨N1,2,none⟩=some (.slice a8 one.aJ.length c1)):=λd b=>O.out d b 2 _ rfl;by_cases hs:one.aJ=two.aJ
   ·have hd:decide (one.aJ=two.aJ)=true:=Ta hs;rw[hd]at H;by_cases h0:one.aJ=[]
    ·(have cw:one.aJ.length=0:=by rw[h0];rfl);(have cF:((one.aJ.length:Int)==0)=true:=by rw[cw];rfl);clear hs hd h0 cw;go_wp2_with (first|(go_at_call 27;refine H.mono ?_;clear H;rintro e T ⟨rfl,p⟩;have l:Hid (Below w1.heap.size w1 T):=c.out.trans (p.mono c.out.size);have b3:=I.out T l.out;clear p b2 d2));refine(HS.out _ l.out).mono ?_;rintro e w9 (⟨rfl,b⟩|⟨v,y,rfl,g⟩)
     ·have f:Hid _:=b;clear b;go_wp2;go_ret;exact .inl ⟨rfl,o.out.trans ((l.out.trans (f.out.mono l.out.size)).mono o.out.size)⟩
     have C:Hid _:=g;clear g;exact aX rfl (.inr ⟨v,y,rfl,C.out⟩)
    (have cF:((one.aJ.length:Int)==0)=false:=by simpa using h0);have E:n2=100:=HG.out.2.2.trans (E4 hs h0);subst E;clear hs hd h0;go_wp2_with (first|(go_at_call 27;refine H.mono ?_;clear H;rintro e T ⟨rfl,p⟩;have l:Hid (Below w1.heap.size w1 T):=c.out.trans (p.mono c.out.size);have b3:=I.out T l.out;clear p b2 d2));refine(HS.out _ l.out).mono ?_;rintro e w9 (⟨rfl,b⟩|⟨v,y,rfl,g⟩)
    ·have f:Hid _:=b;clear b;go_wp2;go_ret;exact .inl ⟨rfl,o.out.trans ((l.out.trans (f.out.mono l.out.size)).mono o.out.size)⟩
    have C:Hid _:=g;clear g;exact aX rfl (.inr ⟨v,y,rfl,C.out⟩)
   have hd:decide (one.aJ=two.aJ)=false:=S9 hs;rw[hd]at H;clear hs hd;go_wp2_with (first|(go_at_call 27;refine H.mono ?_;clear H;rintro e T ⟨rfl,p⟩;have l:Hid (Below w1.heap.size w1 T):=c.out.trans (p.mono c.out.size);clear p b2 d2));refine(HS.out _ l.out).mono ?_;rintro e w9 (⟨rfl,b⟩|⟨v,y,rfl,g⟩)
   ·have f:Hid _:=b;clear b;go_wp2;go_ret;exact .inl ⟨rfl,o.out.trans ((l.out.trans (f.out.mono l.out.size)).mono o.out.size)⟩
   have C:Hid _:=g;clear g;exact aX rfl (.inr ⟨v,y,rfl,C.out⟩)
  have cx:0<=k/\k<=4:=by have:=HG.out.2.1;omega
  have k5:(k==5)=false:=by simpa using h5
  have HK:Hid _:=cx;clear h5 cx;by_cases D:A.size=0
  ·have E:n2=0:=HG.out.2.2.trans (KT HG.out.1 HK.out (by have:=af.out.1;rw[this,bR]at D;exact TD D));(have x3:((A.size:Int)==0)=true:=by rw[D];rfl);subst E;clear D;go_wp2_with fail;refine(HS.out _ c.out).mono ?_;rintro e w9 (⟨rfl,b⟩|⟨v,y,rfl,g⟩)
   ·have f:Hid _:=b;clear b;go_wp2;go_ret;exact .inl ⟨rfl,o.out.trans ((c.out.trans (f.out.mono c.out.size)).mono o.out.size)⟩
   have C:Hid _:=g;clear g;exact aX rfl (.inr ⟨v,y,rfl,C.out⟩)
  have x3:((A.size:Int)==0)=false:=beq_false_of_ne λh=>D (by omega);by_cases F:B.size=0
  ·have E:n2=0:=HG.out.2.2.trans (Hq HG.out.1 HK.out (by have:=af.out.2;rw[this,bR]at F;exact TD F));(have x4:((B.size:Int)==0)=true:=by rw[F];rfl);subst E;clear D F;go_wp2_with fail;refine(HS.out _ c.out).mono ?_;rintro e w9 (⟨rfl,b⟩|⟨v,y,rfl,g⟩)
   ·have f:Hid _:=b;clear b;go_wp2;go_ret;exact .inl ⟨rfl,o.out.trans ((c.out.trans (f.out.mono c.out.size)).mono o.out.size)⟩
   have C:Hid _:=g;clear g;exact aX rfl (.inr ⟨v,y,rfl,C.out⟩)
  have x4:((B.size:Int)==0)=false:=beq_false_of_ne λh=>F (by omega);by_cases aM:A=B
  ·(have m:aI t.aq one.word.data.toList=aI t.aq two.word.data.toList:=by have h1:=af.out.1;have h2:=af.out.2;rw[<-aM]at h2;have:=h1.symm.trans h2;have:=Tx (λx:ByteArray=>x.data.toList) this;simpa[dh]using this);(have Z:aI t.aq one.word.data.toList≠[]:=λe=>by have:=af.out.1;rw[e]at this;rw[this]at D;exact D rfl);(have x5:(A.toList==B.toList)=true:=by rw[mH];exact Ta aM);(have J:(aI t.aq one.word.data.toList).length=A.size:=by rw[af.out.1,bR]);(have cG:k=0\/k=1\/k=2\/k=3\/k=4:=by have:=HK.out;omega);subst aM;obtain rfl|rfl|rfl|rfl|rfl:=cG
   ·have E:n2=100:=HG.out.2.2.trans (E0 m Z);subst E;clear m Z J D F;go_wp2_with fail;refine(HS.out _ c.out).mono ?_;rintro e w9 (⟨rfl,b⟩|⟨v,y,rfl,g⟩)
    ·have f:Hid _:=b;clear b;go_wp2;go_ret;exact .inl ⟨rfl,o.out.trans ((c.out.trans (f.out.mono c.out.size)).mono o.out.size)⟩
    have C:Hid _:=g;clear g;exact aX rfl (.inr ⟨v,y,rfl,C.out⟩)
   ·have E:=HG.out.2.2.trans (E1 m);(obtain⟨P,hP⟩:∃P:Nat->Bool,P=λj=> !(bc t j one.word.data.toList).isEmpty:=⟨_,rfl⟩);(rw[<-hP]at E;have N:∀(j:Nat),j<t.aw.length->∀d,Below w1.heap.size w1 d->Calls (Qs FM) 22 #[.agg #[v0,.slice a7 t.aw.length c3,v2],.int .i64 j,.string one.word] d λe w'=>∃s:ByteArray,e=.returned (.tuple #[.string s,.int .i64 0])/\decide (0<s.size)=P j/\Below d.heap.size d w':=λj hj d b=>by (have cy:ja t j one.word=0:=by unfold ja aD;rw[SQ (by simpa using HG.out.1),Ta (by omega),Ta (by omega),SQ (by decide),SQ (by have:=HW.out;omega)]);(have cH:Cb t j one.word=bs (bc t j one.word.data.toList):=SS cy;have h:=cC.out j d b;rw[cy,cH]at h;refine h.mono λe w' ⟨h1,h2⟩=>⟨_,h1,?_,h2⟩);(have eP:P j= !(bc t j one.word.data.toList).isEmpty:=by rw[hP]);rw[bR,eP];cases bc t j one.word.data.toList with|nil=>rfl|cons a r=>exact Ta (by simp only[SY];omega));have cz:Hid _:=N;have cI:Hid (n2=if(List.range t.aw.length).any P=true then 100 else 0):=E;clear m Z J D F E N hP
    (go_upto_block 1 with fail);go_wp2;go_loopw [15,16] (λs i wr=>∃j:Nat,j<=t.aw.length/\i=.int .i64 j/\s=.bool ((List.range j).any P)/\Below w1.heap.size w1 wr) (λ_ i _=>t.aw.length-(intOf i).toNat);case atStart=>exact⟨0,Tb _,rfl,rfl,c.out⟩
    case round=>
     obtain⟨j,hj,rfl,rfl,hC⟩:=hrel;have K:Hid _:=hC;clear hC;have cK:=HA.out wr K.out 1 _ rfl;obtain cL|hge:=S6 j t.aw.length
     ·have N:=cz.out j cL wr K.out;(have cY:(j:Int)<(t.aw.length:Int):=by omega);obtain⟨a0,a1,a2⟩:=NL (HA.out wr K.out);have b0:=O.out wr K.out 0 _ rfl;have b1:=O.out wr K.out 1 _ rfl;have ag:((List.range j).any P||P j)=(List.range (j+1)).any P:=by rw[Uq,Wn];simp
      obtain⟨p0,ay⟩:=ex ((List.range j).any P);obtain⟨p1,bx⟩:=ex (P j);rw[<-ay,<-bx]at ag;rw[<-bx]at N;rw[<-ay];have cM:Hid _:=ag;clear ag ay bx;cases p0<;>cases p1;all_goals (
       go_wp2_with (first|(go_at_call 22;refine N.mono ?_;clear N;rintro e T ⟨sx,rfl,cR,p⟩;have l:Hid (Below w1.heap.size w1 T):=K.out.trans (p.mono K.out.size);clear p a0 a1 a2 b0 b1 cK))
       exact⟨⟨j+1,by omega,by go_num,by rw[<-cM.out];first|rfl|(rw[cR];rfl),l.out⟩,by simp[intOf];omega⟩)
     have cS:j=t.aw.length:=by omega
     subst cS;have E:=cI.out;obtain⟨p0,ay⟩:=ex ((List.range t.aw.length).any P);rw[<-ay]at E⊢;clear ay;cases p0;all_goals (
      first|(rw[SQ (by decide)]at E)|(rw[SS rfl]at E)
      subst E;go_wp2_with fail
      refine(HS.out _ K.out).mono ?_;rintro e w9 (⟨rfl,b⟩|⟨v,y,rfl,g⟩)
      ·have f:Hid _:=b
       clear b;go_wp2;go_ret;exact .inl ⟨rfl,o.out.trans ((K.out.trans (f.out.mono K.out.size)).mono o.out.size)⟩
      ·have C:Hid _:=g
       clear g;exact aX rfl (.inr ⟨v,y,rfl,C.out⟩))
   ·have E:n2=100:=HG.out.2.2.trans (E2 m Z);subst E;clear m Z J D F;go_wp2_with fail;refine(HS.out _ c.out).mono ?_;rintro e w9 (⟨rfl,b⟩|⟨v,y,rfl,g⟩)
    ·have f:Hid _:=b;clear b;go_wp2;go_ret;exact .inl ⟨rfl,o.out.trans ((c.out.trans (f.out.mono c.out.size)).mono o.out.size)⟩
    have C:Hid _:=g;clear g;exact aX rfl (.inr ⟨v,y,rfl,C.out⟩)
   ·clear m Z J D F;(go_wp2_with fail);refine(HS.out _ c.out).mono ?_;rintro e w9 (⟨rfl,b⟩|⟨v,y,rfl,g⟩)
    ·have f:Hid _:=b;clear b;go_wp2;go_ret;exact .inl ⟨rfl,o.out.trans ((c.out.trans (f.out.mono c.out.size)).mono o.out.size)⟩
    have C:Hid _:=g;clear g;exact aX rfl (.inr ⟨v,y,rfl,C.out⟩)
   have E:=HG.out.2.2.trans (E3 m);rw[J]at E;by_cases h3:A.size<3
   ·rw[SS h3]at E;have x6:decide ((3:Int)<=(A.size:Int))=false:=S9 (by omega);subst E;clear m Z J D F h3;go_wp2_with fail;refine(HS.out _ c.out).mono ?_;rintro e w9 (⟨rfl,b⟩|⟨v,y,rfl,g⟩)
    ·have f:Hid _:=b;clear b;go_wp2;go_ret;exact .inl ⟨rfl,o.out.trans ((c.out.trans (f.out.mono c.out.size)).mono o.out.size)⟩
    have C:Hid _:=g;clear g;exact aX rfl (.inr ⟨v,y,rfl,C.out⟩)
   rw[SQ h3]at E;have x6:decide ((3:Int)<=(A.size:Int))=true:=Ta (by omega);subst E;clear m Z J D F h3;go_wp2_with fail;refine(HS.out _ c.out).mono ?_;rintro e w9 (⟨rfl,b⟩|⟨v,y,rfl,g⟩)
   ·have f:Hid _:=b;clear b;go_wp2;go_ret;exact .inl ⟨rfl,o.out.trans ((c.out.trans (f.out.mono c.out.size)).mono o.out.size)⟩
   have C:Hid _:=g;clear g;exact aX rfl (.inr ⟨v,y,rfl,C.out⟩)
  have x5:(A.toList==B.toList)=false:=by rw[mH];exact S9 aM
  clear aM D F;go_wp2_with fail;refine(HS.out _ c.out).mono ?_;rintro e w9 (⟨rfl,b⟩|⟨v,y,rfl,g⟩)
  ·have f:Hid _:=b;clear b;go_wp2;go_ret;exact .inl ⟨rfl,o.out.trans ((c.out.trans (f.out.mono c.out.size)).mono o.out.size)⟩
  have C:Hid _:=g;clear g;exact aX rfl (.inr ⟨v,y,rfl,C.out⟩)
 have cU:n1=0:=X.trans (SQ (by rw[<-R];exact hz));have Q:f2≠0:=λe=>hz (by rw[R];exact sk (by rw[<-Y];exact e));have cA:n2=0:=ad.trans (SQ (by rw[<-Y];exact Q));have x1:(f1 !=0)=true:=by simpa using hz
 have x2:(f2 !=0)=true:=by simpa using Q
 subst cU cA;clear X R ad Y hz Q HN;go_wp2_with fail;refine(HS.out _ S.out).mono ?_;rintro e w9 (⟨rfl,b⟩|⟨v,y,rfl,g⟩)
 ·have f:Hid _:=b;clear b;go_wp2;go_ret;exact .inl ⟨rfl,o.out.trans ((S.out.trans (f.out.mono S.out.size)).mono o.out.size)⟩
 have C:Hid _:=g;clear g;exact aX rfl (.inr ⟨v,y,rfl,C.out⟩)
end Go.Proofs

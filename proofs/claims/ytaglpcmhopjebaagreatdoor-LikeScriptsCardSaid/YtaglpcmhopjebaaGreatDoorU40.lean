import Derived.Test.YtaglpcmhopjebaaGreatDoorU39
set_option linter.all false
set_option maxRecDepth 100000
set_option maxHeartbeats 20000000
namespace Go.Proofs
open Go.Tm Go.RowKit
def zD{v0 v1 v2 v:Value}{t:Table}{af:List Int}(c d:Int)(w)(ha:0<=c/\c<256)(m:0<=d/\d<256)(ht:IsTable (λ_=>True) w v0 v1 v2 t)(W:o9 t)(X:aE (λ_=>True) 1 uA w v af)(ag:gQ w):Calls (Qs FM) 6 #[.agg #[v0,v1,v2],.int .u8 c,.int .u8 d,v] w λe w'=>(e=.returned (.bool true)/\Below w.heap.size w w')\/∃v L,e=.panicked (fQ v)/\dH w' v L:=by
 have L:=fP;have e16:=e16 L;have e17:∀(a:Array Value) (w:World),(callFunc 17 a).run (Qs FM) w=.ok (.enter 17 a) w:=e17 L;have e18:=e18 L;have e21:=e21 L;have e22:=e22 L;have e28:=e28 L;obtain⟨ak,c0,rfl,m0,cH,_,p0⟩:=id ht.1;obtain⟨an,c3,rfl,m3,cI,_,p3⟩:=id ht.2.1;obtain⟨w1,ao⟩:=ex (w.alloc (.cells #[.slice ak t.aq.length c0,.slice an t.au.length c3,v2] 26));obtain⟨S1,B1,ct⟩:=OM w w1 ao;obtain⟨N,hN⟩:=ex (w.heap.size);rw[<-hN]at ct;have bb:=IT L w1 (ht.stays S1) W;have qs:=λw2 (m:Below w.heap.size w w2)=>C7 w2 (ag.stays (ae.below m) m.size);have I:=λ(hz:uz t) w2 (m:Below w.heap.size w w2)=>mv L w2 (ht.stays (ae.below m)) hz;have O:=λj (m:Below w.heap.size w j)=>IU L 0 j (X.stays (ae.below m) λx y o z e h=>by subst e;exact⟨(ae.below m).cell h.1,h.2⟩) (by decide);have u:=λ(s:ByteArray) j (m:Below w.heap.size w j)=>Qn L s j (ht.stays (ae.below m));have J:=λ(k:Int) (s:ByteArray) j (m:Below w.heap.size w j)=>OJ L k s j (ht.stays (ae.below m)) (ag.len.stays (ae.below m));obtain⟨f,hf⟩:=ex (bj t);simp only[<-hf]at I;have A:Hid _:=B1;have HS:Hid _:=qs;have cg:Hid _:=I;have ck:Hid _:=O;have bk:Hid _:=u;have cl:Hid _:=J;have HF:Hid _:=hf;have HU:Hid (∀j,Below w1.heap.size w1 j->∀i v,(#[.slice ak t.aq.length c0,.slice an t.au.length c3,v2]:Array Value)[i]? =some v->j.cell? ⟨N,i,none⟩=some v):=λj m i v h=>(ae.below m).cell (ct i v h);have ar:Hid (∀k (h:k<t.aq.length),∃b l,ak=some ⟨b,l,none⟩/\∀j,Below w1.heap.size w1 j->j.cell? ⟨b,l+k*2,none⟩=some (.string t.aq[k].1)/\j.cell? ⟨b,l+k*2+1,none⟩=some (.string t.aq[k].2)):=λk h=>by obtain⟨b,l,e,h1,h2⟩:=p0 k h;exact⟨b,l,e,λj m=>⟨(S1.trans (ae.below m)).cell h1,(S1.trans (ae.below m)).cell h2⟩⟩
 have ax:Hid (∀k (h:k<t.au.length),∃b l o2 c2 g,an=some ⟨b,l,none⟩/\t.au[k]? =some g/\(∀j,Below w1.heap.size w1 j->j.cell? ⟨b,l+k*2+1,none⟩=some (.slice o2 g.aP.length c2))/\∀i (hi:i<g.aP.length),∃b2 C,o2=some ⟨b2,C,none⟩/\∀j,Below w1.heap.size w1 j->j.cell? ⟨b2,C+i*2,none⟩=some (.string g.aP[i].1)):=λk h=>by obtain⟨b,l,e,_,x,h1,D,c2,rfl,_,_,_,h2⟩:=p3 k h;refine⟨b,l,D,c2,_,e,UG h,λj m=>(S1.trans (ae.below m)).cell h1,λi hi=>?_⟩;obtain⟨b2,C,e',h3,_⟩:=h2 i hi;exact⟨b2,C,e',λj m=>(S1.trans (ae.below m)).cell h3⟩
 have HA:Hid _:=ha;have bm:Hid _:=m;have H:=ct 0 _ rfl;have a1:=ct 1 _ rfl;have D:=ct 2 _ rfl;clear ht W ag S1 B1 ct X qs I O u J hf ha m p0 p3;go_enter (n6 L),Tryz.ntmps6;go_upto_region 1 with fail;rw[<-ao,<-hN];clear ao hN;go_wp2_with fail
 refine bb.mono ?_;clear bb;rintro e w2 ⟨z,rfl,hz,Y⟩;have P:Hid _:=Y;clear Y H a1 D;cases z with
 |true=>have HW:Hid (Below w.heap.size w w2):=A.out.trans (P.out.mono A.out.size);clear hz;go_wp2_with fail;exact lq
 |false=>
 have I:=cg.out (hz rfl) w2 (A.out.trans (P.out.mono A.out.size));obtain⟨H,a1,D⟩:=zB (HU.out w2 P.out);clear hz;go_wp2_with fail
 refine I.mono ?_;clear I;rintro e w3 ⟨rfl,Z⟩;have E:Hid (Below w1.heap.size w1 w3):=P.out.trans (Z.mono P.out.size);clear Z H a1 D;by_cases h0:f=0;case neg=>
  have hfb:(f !=0)=true:=by simpa using h0
  have HW:Hid (Below w.heap.size w w3):=A.out.trans (E.out.mono A.out.size);clear h0;go_wp2_with fail
  exact lq
 have HT:Hid (bj t=0):=HF.out.symm.trans h0;subst h0;obtain⟨H,a1,D⟩:=zB (HU.out w3 E.out);go_upto_if 32 with fail;clear H a1 D;go_cut [9,10,11]from 21 (λs9 cK cL j=>Below w1.heap.size w1 j)
 case first=>
  by_cases hl:0<t.aq.length;case neg=>
   have g:decide ((0:Int)<(t.aq.length:Int))=false:=Uj (by omega);go_wp2_with fail
   go_meet;exact E.out
  have g:(0:Int)<(t.aq.length:Int):=by omega
  have bo:=HA.out.1;have bp:=HA.out.2;obtain⟨i,hi⟩:∃i:Nat,c% (t.aq.length:Int)=i:=⟨(c% (t.aq.length:Int)).toNat,by have:=XT c (b:=(t.aq.length:Int)) (by omega);omega⟩
  have Q:i<t.aq.length:=by have:=WU c (b:=(t.aq.length:Int)) (by omega);omega
  obtain⟨b,l,rfl,hc⟩:=ar.out i Q;obtain⟨x0,x1⟩:=hc w3 E.out;obtain⟨F,ay⟩:=LX HT.out (i:=i) (p:=t.aq[i]) (UG Q);obtain⟨p,X⟩:=ex (t.aq[i]);rw[<-X]at x0 x1 F ay;simp only[<-X]at hc;have bq:Hid (aL t.aq p.1.data.toList=p.2.data.toList/\p.1.size<=4):=⟨F,ay⟩
  have br:(i:Int)<(t.aq.length:Int):=by omega
  obtain⟨bx,bA,bB⟩:=zB (HU.out w3 E.out);have n1:=World.new_ne w3 _ bA;have n2:=World.new_ne w3 _ bB;have n0:=World.new_ne w3 _ bx;have cm:=World.new_ne w3 _ x0;have cn:=World.new_ne w3 _ x1;have HX:Hid _:=hc;have k0:((t.aq.length:Int)==0)=false:=Wj (by omega);have k1:¬t.aq=[]:=λe=>by rw[e]at Q;exact absurd Q (Ut _)
  have cp:¬t.aq.length=0:=by omega
  have Y:IntKind.i64.wrap c=c:=wrap_i64 _ (by omega)
  have Z:c.tmod (t.aq.length:Int)=i:=(Int.tmod_eq_emod_of_nonneg bo).trans hi
  clear X hc F ay Q hl hi;clear k1 ar ax;go_upto_region 4 with fail;generalize t.aq.length=n at*
  go_region_held3 (λw'=>w'.cell? ⟨N,0,none⟩=some (.slice (some ⟨b,l,none⟩) n c0)/\w'.cell? ⟨b,l+i*2,none⟩=some (.string p.1)/\w'.cell? ⟨b,l+i*2+1,none⟩=some (.string p.2)) (go_keep) (fail)
  all_goals (
   obtain⟨w4,aa⟩:=ex ((w3.alloc (.cells #[.string p.1,.string p.2] 46)).drew);rw[<-aa];have T:Below w3.heap.size w3 w4:=by rw[aa];exact(aF _ _).drew
   have hy:∀i v,(#[.string p.1,.string p.2]:Array Value)[i]? =some v->w4.cell? ⟨w3.heap.size,i,none⟩=some v:=λi v h=>by rw[aa];exact az w3 _ 46 i v h
   have q:Hid (Below w1.heap.size w1 w4):=E.out.trans (T.mono E.out.size);obtain⟨B,hB⟩:=ex (w3.heap.size);rw[<-hB]at hy⊢;have y0:=hy 0 _ rfl;have HY:Hid (∀j,Below w4.heap.size w4 j->j.cell? ⟨B,1,none⟩=some (.string p.2)):=λj m=>(ae.below m).cell (hy 1 _ rfl);clear T hy aa hB x0 x1 n0 n1 n2 cm cn bx bA bB g k0 cp Y Z br;obtain⟨H,a1,D⟩:=zB (HU.out w4 q.out);have u:=bk.out p.1 w4 (A.out.trans (q.out.mono A.out.size));have z1:jS t p.1=0:=by unfold jS;rw[Uc (by simpa using HT.out),Uc (by have:=bq.out.2;omega)]
   have s1:FP t p.1=p.2:=(Ud z1).trans (by rw[bq.out.1];exact O6 _);rw[z1,s1]at u;clear z1 s1;go_upto_region 6 with(first|(go_at_call 18;refine u.mono ?_;clear u;rintro e w5 ⟨rfl,K⟩))
   have y1:=HY.out w5 K;have G:Hid (Below w1.heap.size w1 w5):=q.out.trans (K.mono q.out.size);clear K y0 H a1 D;go_wp2_with fail
   go_meet;exact G.out)
 case rest=>
 have q:Hid _:=hcut;clear hcut;obtain⟨H,a1,D⟩:=zB (HU.out wc q.out);by_cases aM:t.au.length=0;case pos=>
  have k1:((t.au.length:Int)==0)=true:=by rw[aM];rfl
  have HW:Hid (Below w.heap.size w wc):=A.out.trans (q.out.mono A.out.size);clear aM;go_wp2_with fail
  exact lq
 have k1:((t.au.length:Int)==0)=false:=Wj (by omega);have bo:=bm.out.1;have bp:=bm.out.2;obtain⟨k,hk⟩:∃k:Nat,d% (t.au.length:Int)=k:=⟨(d% (t.au.length:Int)).toNat,by have:=XT d (b:=(t.au.length:Int)) (by omega);omega⟩
 have bC:k<t.au.length:=by have:=WU d (b:=(t.au.length:Int)) (by omega);omega
 have HK:Hid _:=bC;go_upto_region 11 with fail;rw[hk];clear hk bo bp k1 aM H a1 D bC;have O:=ck.out wc (A.out.trans (q.out.mono A.out.size));go_upto_region 12 with(first|(go_at_call 28;refine O.mono ?_;clear O;rintro e w4 ⟨x,rfl,l1,b1,T⟩))
 have G:Hid (Below w1.heap.size w1 w4):=q.out.trans (T.mono q.out.size);have HX:Hid (x.length<=16):=l1;clear T l1 b1;obtain⟨H,a1,D⟩:=zB (HU.out w4 G.out);have u:=bk.out (bs x) w4 (A.out.trans (G.out.mono A.out.size));have z1:jS t (bs x)=0:=by unfold jS;rw[Uc (by simpa using HT.out),Uc (by have:=HX.out;rw[aR];omega)]
 have s1:FP t (bs x)=bs (aL t.aq (bs x).data.toList):=Ud z1;have z2:iJ t k (bs x)=0:=by unfold iJ aw;rw[Uc (by simpa using HT.out),Um (by omega),Um (by have:=HK.out;omega),Uc (by decide),Uc (by have:=HX.out;rw[aR];omega)]
 have s2:yH t k (bs x)=bs (bl t k (bs x).data.toList):=Ud z2;have g1:=OQ HT.out (k:=k) (UG HK.out) (bs x).data.toList;have g2:=λg (hk:t.au[k]? =some g)=>I0 (t:=t) (k:=k) hk (w:=(bs x).data.toList);obtain⟨B,hB⟩:=ex (aL t.aq (bs x).data.toList);have b0:B.length<=48:=by have:=zW t.aq (yG HT.out).lets (bs x).data.toList;rw[<-hB,bu]at this;have:=HX.out;omega
 obtain⟨S,hS⟩:=ex (bl t k (bs x).data.toList);rw[<-hB]at s1 g1;rw[<-hS]at s2 g1;simp only[<-hB,<-hS]at g2;rw[z1,s1]at u;have HZ:Hid (iJ t k (bs x)=0/\yH t k (bs x)=bs S):=⟨z2,s2⟩
 have HG:Hid _:=g2;have cq:Hid (B.length<=48):=b0;have g3:decide (((bs B).size:Int)<((bs S).size:Int))=false:=Uj (by rw[aR,aR];omega);have g4:¬(bs B).size<(bs S).size:=by rw[aR,aR];omega
 clear z1 s1 z2 s2 g1 g2 hB hS b0;go_upto_region 13 with(first|(go_at_call 18;refine u.mono ?_;clear u;rintro e w5 ⟨rfl,K⟩))
 have U:Hid (Below w1.heap.size w1 w5):=G.out.trans (K.mono G.out.size);clear K H a1 D G q;obtain⟨H,a1,D⟩:=zB (HU.out w5 U.out);have J:=cl.out k (bs x) w5 (A.out.trans (U.out.mono A.out.size));rw[HZ.out.1,HZ.out.2]at J;go_upto_region 16 with(first|(go_at_call 22;refine J.mono ?_;clear J;rintro e w6 ⟨rfl,b3⟩))
 have cr:Hid (Below w1.heap.size w1 w6):=U.out.trans (b3.mono U.out.size);clear b3 H a1 D U g3 g4;obtain⟨b,l,o2,c2,g,rfl,ab,b4,b5⟩:=ax.out k HK.out;have hg:=HG.out g ab;have cv:Hid _:=b4;have cw:Hid _:=b5;have cx:Hid _:=hg;have cy:Hid _:=ab;have cz:Hid (g.aP.length<=5):=(yG HT.out).Bh g (Vm ab);have cM:(k:Int)<(t.au.length:Int):=by have:=HK.out;omega
 clear HG ax ar ab b4 b5 hg;go_wp2;go_loopw [18,19,20] (λa6 cR ad wr=>∃i:Nat,i<=g.aP.length/\a6=.int .i64 i/\(∀r∈g.aP.take i,Qt r.1.data.toList B)/\Below w1.heap.size w1 wr) (λa6 _ _ _=>g.aP.length-(intOf a6).toNat);case atStart=>exact⟨0,Ul _,rfl,by simp,cr.out⟩
 case round=>
  obtain⟨i,hi,rfl,b6,hC⟩:=hrel;have M:Hid _:=hC;have b7:Hid _:=b6;obtain⟨H,a1,D⟩:=zB (HU.out wr M.out);have d1:=cv.out wr M.out;clear hC b6;obtain a7|hge:=Uh i g.aP.length
  ·obtain⟨b2,C,rfl,b8⟩:=cw.out i a7;(have y0:=b8 wr M.out;obtain⟨R,hR⟩:=ex (g.aP[i].1);rw[<-hR]at y0;have HR:Hid _:=hR;have cA:Hid (R.size<=3):=by rw[hR];exact(A6 HT.out cy.out _ (Up a7)).1.2);(have br:(i:Int)<(g.aP.length:Int):=by omega);clear b8 hR;go_wp2;go_loopw [20] (λad wq=>∃a:Nat,a<=B.length+1/\ad=.int .i64 a/\(∀a',a'<a->a'+R.size<=B.length->R.data.toList.isPrefixOf (B.drop a')=false)/\wq=wr) (λad _=>B.length+1-(intOf ad).toNat);case atStart=>exact⟨0,Ul _,rfl,λa h=>absurd h (Ut _),rfl⟩
   case round=>
    obtain⟨a,ha,rfl,ca,rfl⟩:=hrel;have cb:Hid _:=ca;have cS:=cq.out;have cU:=cA.out;have cV:=cz.out;have a8:Hid (i+1<=g.aP.length):=a7;clear ca;obtain cc|hle:=Uh B.length (a+R.size)
    ·have hx:decide ((a:Int)+(R.size:Int)<=((bs B).size:Int))=false:=Uj (by rw[aR];omega);have cB:Hid (B.length<a+R.size):=cc;clear cc;go_wp2;refine⟨⟨i+1,a8.out,by go_num,λr W=>?_,M.out⟩,by simp[intOf];have:=a8.out;omega⟩;rw[Wl a8.out,Vx,VG]at W;obtain W|rfl:=W;exact b7.out r W;intro a' ba;rw[<-HR.out]at ba⊢;rw[<-Lib.size_eq]at ba;exact cb.out a' (by have:=cB.out;omega) ba
    (have hx:(a:Int)+(R.size:Int)<=((bs B).size:Int):=by rw[aR];omega);(have cG:a+R.size<=(bs B).size:=by rw[aR];omega);(have cd:Hid (a+1<=B.length+1):=by rw[Hid];omega);clear hle;by_cases V:(bs B).extract a (a+R.size)=R
    ·(have cC:(((bs B).extract a (a+R.size)).toList==R.toList)=true:=by rw[j5];exact Um V);have HW:Hid (Below w.heap.size w wr):=A.out.trans (M.out.mono A.out.size);clear V;go_wp2_with fail;refine(HS.out _ HW.out).mono ?_;rintro e w9 (⟨rfl,m⟩|⟨v,L',rfl,X⟩)
     ·have cD:Hid _:=m;clear m;go_wp2;go_ret;exact .inl ⟨rfl,HW.out.trans (cD.out.mono HW.out.size)⟩
     have HP:Hid _:=X;clear X;exact(show bodyPost (Qs FM) Tryz.f6 (λe w'=>(e=.returned (.bool true)/\Below w.heap.size w w')\/∃v L,e=.panicked (fQ v)/\dH w' v L) (.panic (fQ v)) _ w9 from⟨rfl,.inr ⟨v,L',rfl,HP.out⟩⟩)
    (have cC:(((bs B).extract a (a+R.size)).toList==R.toList)=false:=by rw[j5];exact Uj V);have HE:Hid _:=OR V;clear V;go_wp2;refine⟨⟨a+1,cd.out,by go_num,λa' h1 h2=>?_,trivial⟩,by simp[intOf];have:=cd.out;omega⟩;obtain h|h:=Uh a' a;exact cb.out a' h h2;rw[show a'=a from Nat.le_antisymm (Nat.le_of_lt_succ h1) h];exact HE.out
  have cf:i=g.aP.length:=by omega
  have cF:S=B:=cx.out λr W=>b7.out r (by rw[cf,VC];exact W);have hx:decide ((i:Int)<(g.aP.length:Int))=false:=Uj (by omega);have HW:Hid (Below w.heap.size w wr):=A.out.trans (M.out.mono A.out.size);subst cF;clear cf;go_wp2_with fail;exact lq
end Go.Proofs

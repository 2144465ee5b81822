import Derived.OwnWalkIn
import Derived.TacticsInMore
import Derived.LoopNIn
import Derived.LoopIn
import Derived.WalkMore
import Derived.Shelf.Strings.Builder1
import Derived.Shelf.Strings.Replace
import Derived.RangeFuncLeaves
import Derived.Shelf.Strings.Split
import Derived.Shelf.Strings.Builder2
import Derived.Lib.ReplaceLaws
import Derived.Deep.LoopGhost
import Derived.Lib.Replace
import Derived.Test.YtaglpcmhopjebaaGreatDoorY10
set_option linter.all false
set_option maxRecDepth 100000
set_option maxHeartbeats 20000000
namespace Go.Proofs
open Go.Tm Go.RowKit
variable {fs:Array Func} (L:bR fs)
def dv{w w':x6}{b o}(h:w'.heap[b]? =w.heap[b]?):w'.cell? ⟨b,o,none⟩=w.cell? ⟨b,o,none⟩:=by unfold World.cell?;rw[show w'.heap[(⟨b,o,none⟩:Addr).block]? =w.heap[(⟨b,o,none⟩:Addr).block]? from h]
def vQ{a}(h:0<a.size):(im a none).1.size=1:=by show(a.extract 0 1).size=1;rw[Ww];omega
def G5(a ob p)(c:1<=p.1.size):eC a.data.toList ob p=if(im a ob).2.2<(p.1.size:Int)/\p.1.data.toList.isPrefixOf a.data.toList=true then some p else ob:=by (unfold eC;have:decide ((ob.elim 0 λq=>q.1.size)<p.1.size)=decide ((im a ob).2.2<(p.1.size:Int)):=by cases ob with|none=>show decide (0<p.1.size)=decide ((0:Int)<(p.1.size:Int));rw[UQ (by omega),UQ (by omega)]|some q=>show decide (q.1.size<p.1.size)=decide ((q.1.size:Int)<(p.1.size:Int));by_cases h:q.1.size<p.1.size;rw[UQ h,UQ (by omega)];rw[UN h,UN (by omega)]);rw[this];by_cases b:(im a ob).2.2<(p.1.size:Int)<;>cases d:p.1.data.toList.isPrefixOf a.data.toList<;>simp[b]
def G6(W:x6)(a:Nat):Nat:=match W.cell? ⟨a,0,none⟩with
 |some (.string s)=>s.size
 |_=>0
def Ap{W a s}(h:W.cell? ⟨a,0,none⟩=some (.string s)):G6 W a=s.size:=by unfold G6;rw[h]
def Kj{a:List Pr2}(e:∀p∈a,1<=p.1.size)(cur)(f:0<cur.size):eG a cur.data.toList=(im cur (bP a cur.data.toList)).2.1::eG a (cur.extract (im cur (bP a cur.data.toList)).1.size cur.size).data.toList/\1<=(im cur (bP a cur.data.toList)).1.size/\(im cur (bP a cur.data.toList)).1.size<=cur.size:=by (have c:=drop_cons cur 0 f;rw[Vy]at c;have g:∀k,(cur.extract k cur.size).data.toList=cur.data.toList.drop k:=λk=>by rw[Lib.extract_data];exact WV (by rw[UY,Lib.size_eq];exact UI _));cases d:bP a cur.data.toList with|some p=>have i:=e p (ik d);have b:=(Wb.1 (oI d)).length_le;rw[<-Lib.size_eq,<-Lib.size_eq]at b;refine⟨?_,i,b⟩;rw[g];rw[c]at d⊢;exact GQ e d|none=>have j:=vQ f;refine⟨?_,by omega,by omega⟩;rw[g,j];rw[c]at d;have h:=D6 d;rw[<-c]at h;have l:cur.data.toList.drop 1=cur.data.toList.drop (0+1):=rfl;have m:cur.extract 0 1=⟨#[cur[0]]⟩:=ri (by rw[Lib.extract_data,Vy,c];rfl);(have n:cur.data.toList.head?.any bh=bh cur[0]:=by rw[c];rfl);rw[h,l];show _=(if cur.data.toList.head?.any bh=true then cur.extract 0 1 else⟨#[]⟩)::_;rw[m,n]
def MV{K v0 ls}(n s g m G w)(aa:g<w.heap.size)(H:m<w.heap.size)(ab:g≠G)(I:m≠G)(M:m≠g)(N:∀b,K b->b<w.heap.size/\b≠g/\b≠G) (c:az K 2 dA w v0 ls) (a:w.rowIs g 9 1 (λ_=>.string s)) (d:w.cell? ⟨m,0,none⟩=some v0) (ok:∀p∈ls,1<=p.1.size) (hs:s.size<=1000) (l) (J:List Zk->x6->Prop) (W) (hW:Below w.heap.size w W) (hJ:∀pre W W',Stp W.heap.size g W W'->J pre W->J pre W') (hY:∀pre x O,J pre O->pre++[x]<+:eG ls s.data.toList->YieldAt Fence.wide n (Qs fs) l #[.string x] O λe W'=>e=.returned (.bool true)/\J (pre++[x]) W'/\Stp w.heap.size G O W') (h0:J [] W):Calls (Qs fs) 132 #[.func (.yield l) #[] #[],.pointer (some ⟨g,0,none⟩),.pointer (some ⟨m,0,none⟩)] W λe W'=>(∃v,e=.returned v)/\J (eG ls s.data.toList) W':=by
 have e91:=e91 L;have Px:=Px L;have HH:Hid (g<w.heap.size/\m<w.heap.size/\g≠G/\m≠G/\m≠g/\(∀b,K b->b<w.heap.size/\b≠g/\b≠G)):=⟨aa,H,ab,I,M,N⟩
 have HJ:Hid (∀pre W W',Stp W.heap.size g W W'->J pre W->J pre W'):=hJ;have HY:Hid (∀pre x O,J pre O->pre++[x]<+:eG ls s.data.toList->YieldAt Fence.wide n (Qs fs) l #[.string x] O λe W'=>e=.returned (.bool true)/\J (pre++[x]) W'/\Stp w.heap.size G O W'):=hY;have ad:Hid (∀p∈ls,1<=p.1.size):=ok;have HS:Hid (az K 2 dA W v0 ls/\W.rowIs g 9 1 (λ_=>.string s)/\W.cell? ⟨m,0,none⟩=some v0/\J [] W/\w.heap.size<=W.heap.size):=⟨c.blocks λb P=>hW.block b (N b P).1,a.of_block (hW.block g aa),(dv (hW.block m H)).trans d,h0,hW.size⟩
 clear hJ hY ok h0 c a d hW N;go_enter (n132 L),Tryz.ntmps132;go_wp2;go_loopw [4] (λs4 wr=>∃(pre:List Zk) (cur:Zk),az K 2 dA wr v0 ls/\wr.rowIs g 9 1 (λ_=>.string cur)/\wr.cell? ⟨m,0,none⟩=some v0/\J pre wr/\w.heap.size<=wr.heap.size/\pre++eG ls cur.data.toList=eG ls s.data.toList/\cur.size<=1000) (λs4 wr=>G6 wr g);case atStart=>exact⟨[],s,HS.o.1,HS.o.2.1,HS.o.2.2.1,HS.o.2.2.2.1,HS.o.2.2.2.2,rfl,hs⟩
 case round=>
  clear HS;obtain⟨pre,cur,c,a,d,hj,t,f,hc⟩:=hrel;have C:Hid (az K 2 dA wr v0 ls/\wr.rowIs g 9 1 (λ_=>.string cur)/\J pre wr/\w.heap.size<=wr.heap.size/\pre++eG ls cur.data.toList=eG ls s.data.toList):=⟨c,a,hj,t,f⟩
  have hw:=a.cell (show 0<1 by omega);have Q:=a.frozen 0;clear c a hj t f;by_cases R:cur.size=0
  ·(have ax:cur.toList.isEmpty=true:=by rw[Lib.toList_data,fW];exact UQ R);go_wp2
   (go_end0);refine⟨⟨_,rfl⟩,?_⟩;have h:=C.o.2.2.2.2;have hn:cur.data.toList=[]:=Wm.1 (by rw[<-Lib.size_eq];exact R);rw[hn]at h;have h2:eG ls []=[]:=rfl;rw[h2,V7]at h;subst h;exact C.o.2.2.1
  have af:0<cur.size:=by omega
  have ax:cur.toList.isEmpty=false:=by rw[Lib.toList_data,fW];exact UN R
  have ba:(1:Int)<=(cur.size:Int):=by omega
  have S:∀wx,ap fs 91 #[.int .u8 (cur[0].toNat:Int)] wx (.bool (bh cur[0])):=λwx=>nB fs (n91 L) _ wx;have q:Hid ((im cur none).1=cur.extract 0 1/\(im cur none).2.1=(if bh cur[0]=true then cur.extract 0 1 else⟨#[]⟩)/\(im cur none).2.2=0):=by refine⟨rfl,?_,rfl⟩;have hd:=drop_cons cur 0 af;rw[Vy]at hd;show(if cur.data.toList.head?.any bh=true then _ else _)=_;rw[hd];rfl
  obtain⟨z,D⟩:=ex (bh cur[0]);rw[<-D]at S q;clear D;go_wp2
  go_step3
  go_upto_if 15 with((go_at_call 91;refine(S _).mono ?_;clear S;rintro e w2 ⟨rfl,rfl⟩))
  go_cut [4,5]from 9 to 52 (λs4 s5 wx=>s4=.string (im cur none).1/\s5=.string (im cur none).2.1/\wx=w2)
  case first=>cases z with|true=>go_wp2;all_goals (go_meet;exact⟨by rw[q.o.1],by rw[q.o.2.1];simp,rfl⟩)|false=>go_wp2;all_goals (go_meet;exact⟨by rw[q.o.1],by rw[q.o.2.1];simp,rfl⟩)
  case rest=>
   obtain⟨rfl,rfl,rfl⟩:=hcut;have ay:Hid ((im cur none).2.2=0):=q.o.2.2;clear q;obtain⟨ao,cc,rfl,aK,aM,aR,r⟩:=id C.o.1;clear aK aM aR;go_wp2
   (go_step3);go_wp2;go_loopw [21,4,5,6] (λT s4 s5 s6 wi=>∃(j:Nat) (ob:Option Pr2),j<=ls.length/\T=.i j/\s4=.string (im cur ob).1/\s5=.string (im cur ob).2.1/\s6=.i (im cur ob).2.2/\bP (ls.take j) cur.data.toList=ob/\az K 2 dA wi (.slice ao ls.length cc) ls/\wi.rowIs g 9 1 (λ_=>.string cur)/\wi.cell? ⟨m,0,none⟩=some (.slice ao ls.length cc)/\J pre wi/\w.heap.size<=wi.heap.size) (λT _ _ _ _=>ls.length-(intOf T).toNat);case atStart=>exact⟨0,none,UP _,rfl,rfl,rfl,by rw[ay.o],rfl,C.o.1,C.o.2.1,d,C.o.2.2.1,C.o.2.2.2.1⟩
   case round=>
    (clear hw Q d;obtain⟨j,ob,hj,rfl,rfl,rfl,rfl,U,c,a,d,E,t⟩:=hrel;have u:=jj U;have HI:Hid (az K 2 dA wr (.slice ao ls.length cc) ls/\wr.rowIs g 9 1 (λ_=>.string cur)/\wr.cell? ⟨m,0,none⟩=some (.slice ao ls.length cc)/\J pre wr/\w.heap.size<=wr.heap.size):=⟨c,a,d,E,t⟩);(have y:Hid (∀w',Below wr.heap.size wr w'->az K 2 dA w' (.slice ao ls.length cc) ls/\w'.rowIs g 9 1 (λ_=>.string cur)/\w'.cell? ⟨m,0,none⟩=some (.slice ao ls.length cc)/\J pre w'/\w.heap.size<=w'.heap.size):=λw' h=>⟨c.blocks λb P=>h.block b (by have:=(HH.o.2.2.2.2.2 b P).1;omega),a.of_block (h.block _ (by have:=HH.o.1;omega)),(dv (h.block _ (by have:=HH.o.2.1;omega))).trans d,HJ.o _ _ _ (Stp.DU h) E,by have:=h.size;omega⟩);have hw:=a.cell (show 0<1 by omega);have Q:=a.frozen 0;obtain V|hge:=UK j ls.length
    .obtain⟨_,_,e',_,_,_,r⟩:=c;(cases e';obtain⟨b,bm,rfl,x0,x1⟩:=r j V;have hp:=ad.o ls[j] (US V);have A:Hid _:=G5 cur ob ls[j] hp;have F:Hid _:=kz ls j V cur.data.toList;obtain⟨pp,ag⟩:=ex (ls[j]);rw[<-ag]at x0 x1 A F;obtain⟨ak,B⟩:=ex ((im cur ob).2.2);rw[<-B]at A⊢;have an:=jj B;have k:=λwx=>oN L cur pp.1 wx;have bo:(j:Int)<(ls.length:Int):=by omega);have br:∀o,(wr.alloc o).cell? ⟨g,0,none⟩=some (.string cur):=λo=>(a.alloc o).cell (show 0<1 by omega);clear ag U a E t r B hp;by_cases X:(pp.1.size:Int)<=ak
     ·(have HN:Hid (bP (ls.take (j+1)) cur.data.toList=ob):=by rw[Hid,F.o,u.o,A.o,UG (by omega)]);clear k;go_wp2;refine⟨⟨j+1,ob,by omega,by go_num,rfl,rfl,by rw[an.o],HN.o,?_⟩,by simp[intOf];omega⟩;exact y.o _ (by first|exact aH _ _|exact(aH _ _).gX _)
     have bb:decide ((pp.1.size:Int)<=ak)=false:=UN X
     cases D:pp.1.data.toList.isPrefixOf cur.data.toList with
     |false=>(rw[D]at k;have HN:Hid (bP (ls.take (j+1)) cur.data.toList=ob):=by rw[Hid,F.o,u.o,A.o,UG (by rw[D];simp)]);clear X D;go_wp2_with (go_at_call 133;refine(k _).mono ?_;clear k;rintro e w3 ⟨rfl,rfl⟩);refine⟨⟨j+1,ob,by omega,by go_num,rfl,rfl,by rw[an.o],HN.o,?_⟩,by simp[intOf];omega⟩;exact y.o _ (by first|exact aH _ _|exact(aH _ _).gX _)
     |true=>(rw[D]at k;have HN:Hid (bP (ls.take (j+1)) cur.data.toList=some pp):=by rw[Hid,F.o,u.o,A.o,UH ⟨by omega,D⟩]);clear X D;go_wp2_with (go_at_call 133;refine(k _).mono ?_;clear k;rintro e w3 ⟨rfl,rfl⟩);go_quiet (fail);go_wp2;refine⟨⟨j+1,some pp,by omega,by go_num,rfl,rfl,rfl,HN.o,?_⟩,by simp[intOf];omega⟩;exact y.o _ (by first|exact aH _ _|exact(aH _ _).gX _)
    (obtain rfl:j=ls.length:=by omega);(rw[WM]at u;go_upto_region 11 with fail;have PN:=Kj ad.o cur af;rw[u.o]at PN;obtain⟨ar,a1,a6⟩:=PN;have f:=C.o.2.2.2.2;rw[ar]at f;obtain⟨x,hx⟩:=ex ((im cur ob).2.1);obtain⟨fr,Y⟩:=ex ((im cur ob).1);rw[<-hx,<-Y]at f⊢;rw[<-Y]at a1 a6;obtain⟨fn,tmps,assign,body,hy,hR⟩:=HY.o pre x wr HI.o.2.2.2.1 ⟨eG ls (cur.extract fr.size cur.size).data.toList,by rw[<-f,V5];rfl⟩;have HT:Hid ((pre++[x])++eG ls (cur.extract fr.size cur.size).data.toList=eG ls s.data.toList):=by rw[Hid,<-f,V5];rfl);(have bk:(fr.size:Int)<=(cur.size:Int):=by omega);clear U c a d E t ar f hx Y hw Q;refine(wpIn_wide (n:=n+1)).1 ?_
    (gi_wp2);refine hR.mono ?_;rintro e W' ⟨rfl,a7,hS⟩;have Z:W'.rowIs g 9 1 (λ_=>.string cur):=HI.o.2.1.of_block (hS.block _ HH.o.1 HH.o.2.2.1);have a8:=Z.cell (show 0<1 by omega);have bs:=Z.frozen 0;clear hR hy
    (gi_wp2);go_wp2;simp(config:={zetaDelta:=true}) only [Exit.noGoto_normal,Exit.inBlock,Exit.then]
    (go_roundw);(case rel=>obtain⟨_,_,ab,I,M,N⟩:=HH.o;refine⟨pre++[x],cur.extract fr.size cur.size,HI.o.1.blocks λb P=>(Below.heap_setCell W' ⟨g,0,none⟩ _ b (N b P).2.1).trans (hS.block b (N b P).1 (N b P).2.2),(Z.set 0 _).congr λi hi=>?_,(dv (Below.heap_setCell W' ⟨g,0,none⟩ _ m M)).trans ((dv (hS.block m H I)).trans HI.o.2.2.1),HJ.o _ W' _ (Stp.setCell W' 0 _) a7,?_,HT.o,?_⟩;rw[UH (by omega)];exact UJ HI.o.2.2.2.2 (UJ hS.size (Stp.setCell (n:=0) W' 0 _).size);rw[Ww];omega);case measure=>rw[Ap (C.o.2.1.cell (show 0<1 by omega)),Ap (s:=cur.extract fr.size cur.size) (World.cell?_setCell_same' _ _ _ (by rw[a8];rfl)),Ww];omega
end Go.Proofs
namespace Go.Proofs
open Go.Tm Go.RowKit Go.Shelf
variable {fs:Array Func} (L:bR fs)
def mC(fs:Array Func):Builder.Extra (Qs fs) tW where
 sizeBuilder:=(by kernel_rfl:(Tryz.prog.info? (tW.t 72)).map (·.size)=some 2)
 liesBuilder:=by kernel_rfl
 t5:=(aJ _ _ _).trans Tryz.underlying5
 a5:=λw=>(BO _ _ _ w).trans (Tryz.isAgg5 w)
 z5:=λw=>(xa _ _ _ w).trans (Tryz.sizeOf5 w)
 v5:=λw=>(jF _ _ _ w).trans (Tryz.zeroValue5 w)
 infoByte:=(by kernel_rfl:(Tryz.prog.info? (tW.t 5)).map (λi=>(i.zero,i.size,i.bytes))=some (some (.int .u8 0),1,1))
 cellsByte:=by kernel_rfl
 sizeByte:=(by kernel_rfl:(Tryz.prog.info? (tW.t 5)).map (·.size)=some 1)
 neB5:=by decide
def gJ(q:Prop)(b B:Nat)(bs:List Zj)(w:x6):Prop:=b<B/\∃p v,(p=.pointer none\/p=.pointer (some ⟨b,0,none⟩))/\w.heap[b]? =some (.cells #[p,v] 153 (0,0))/\w.ownsRow B 5 1 v bs.length bs/\(bs=[]->q\/v=.slice none 0 0)
def gJ.keep{q}{b B:Nat}{bs:List Zj}{w w':x6}(h:gJ q b B bs w)(d:∀k c e F,w.heap[k]? =some (.cells c e F)->(k=b\/B<=k)->w'.heap[k]? =some (.cells c e F)):gJ q b B bs w':=by obtain⟨j,p,v,l,m,f,n⟩:=h;refine⟨j,p,v,l,d _ _ _ _ m (.inl rfl),⟨f.1,?_⟩,n⟩;obtain h|⟨g,cap,a,k1,i,o,r⟩:=f.2;exact .inl h;exact .inr ⟨g,cap,a,k1,i,d _ _ _ _ o (.inr i),r⟩
def Cg{w:x6}{B B' e k v n xs}(h:w.ownsRow B' e k v n xs)(i:B<=B'):w.ownsRow B e k v n xs:=by refine⟨h.1,?_⟩;obtain b|⟨g,cap,a,c,j,d,f⟩:=h.2;exact .inl b;exact .inr ⟨g,cap,a,c,by omega,d,f⟩
def jv{q}(b B:Nat)(bs:List Zj)(s:Zk)(w:x6)(h:gJ q b B bs w)(T:bs.length+s.size<=140737488355328)(hB:B<=w.heap.size):Calls (Qs fs) 94 #[.pointer (some ⟨b,0,none⟩),.string s] w λe w'=>e=.returned (.tuple #[.i s.size,.nilIface])/\gJ q b B (bs++Lib.strCells s) w'/\Stp B b w w':=by (have Py:=Py L;have X:=mC fs;have m:Lays.n240 (Qs fs) tW:={(j7 L).2.2 with});(obtain⟨Y,p,v,U,a,i,n⟩:=h;obtain⟨i0,Z,G,H,I⟩:=info_parts X.infoByte;have J:(Qs fs).info? 5=some i0:=Z;have aa:b<w.heap.size:=by omega);(have t:Calls (Qs fs) 134 #[.pointer (some ⟨b,0,none⟩)] w λe w'=>e=.returned (.tuple #[])/\w'.heap[b]? =some (.cells #[.pointer (some ⟨b,0,none⟩),v] 153 (0,0))/\Stp B b w w'/\w'.heap.size=w.heap.size/\∀k,k≠b->w'.heap[k]? =w.heap[k]? :=by obtain rfl|rfl:=U;have c:=Any.Builder_copyCheck_fresh m X.toX72 b w (by rw[Lib.cell_of_heap a];rfl) (by simp[World.shape?,a];rfl) (Lib.frozen_of_heap a 0);(refine c.mono ?_;rintro e w' ⟨rfl,rfl⟩;refine⟨rfl,?_,Stp.setCell _ _ _,by simp[World.setCell],λk V=>Below.heap_setCell w ⟨b,0,none⟩ _ k V⟩;have K:(w.heap.modify b λo=>match o with| .cells c e F=>.cells (c.setIfInBounds 0 (.pointer (some ⟨b,0,none⟩))) e F|o=>o)[b]? =some (.cells #[.pointer (some ⟨b,0,none⟩),v] 153 (0,0)):=by rw[VF,a];simp);exact K;have c:=Any.Builder_copyCheck_used m X.toX72 b w (by rw[Lib.cell_of_heap a];rfl);refine c.mono ?_;rintro e w' ⟨rfl,rfl⟩;exact⟨rfl,a,Stp.refl _ _ _,rfl,λ_ _=>rfl⟩);(have M:v.ownBlock≠some b:=by intro e;have:=dS i b e;omega);clear U a;go_enter (n94 L),Tryz.ntmps94;go_wp2_with (go_at_call 134;refine t.mono ?_);(clear t;rintro e w1 ⟨rfl,u,x,W,y⟩;have j:w1.ownsRow B 5 1 v bs.length bs:=by refine⟨i.1,?_⟩;obtain h|⟨g,cap,l,k1,N,O,P⟩:=i.2;exact .inl h;exact .inr ⟨g,cap,l,k1,N,(y g (by omega)).trans O,P⟩);(have c1:w1.cell? ⟨b,1,none⟩=some v:=by rw[Lib.cell_of_heap u];rfl);(have z:b<w1.heap.size:=by omega);(go_wp2_with (at_builtin;refine Lib.wpList_append_own_string _ rfl _ _ 120 9 rfl B 5 i0 Tryz.underlying120 Tryz.underlying9 J G H I _ _ _ rfl j s rfl ?c3 ?c4 ?c5 ?_));(case c3=>unfold maxLen;omega);(case c4=>omega);(case c5=>omega);(intro v' w2 d f A;have Q:=jj A;have R:=jj n;clear A n;have r:w2.heap[b]? =some (.cells #[.pointer (some ⟨b,0,none⟩),v] 153 (0,0)):=by rw[f.block b z (λe=>M e.symm)];exact u);(have d1:w2.cell? ⟨b,1,none⟩=some v:=by rw[Lib.cell_of_heap r];rfl);(have f1:w2.frozen? ⟨b,1,none⟩=false:=Lib.frozen_of_heap r 1;obtain⟨C,D,cap,rfl⟩:∃C D cap,v'=.slice C D cap:=by obtain⟨S,_⟩|⟨g,cap,l,S,_⟩:=d.2;exact⟨_,_,_,S⟩;exact⟨_,_,_,S⟩);have E:=jj f;clear f;go_wp2;(go_ret2);refine⟨rfl,⟨Y,.pointer (some ⟨b,0,none⟩),.slice C D cap,.inr rfl,?_,?_,?_⟩,?_⟩;(have K:(w2.heap.modify b λo=>match o with| .cells c e F=>.cells (c.setIfInBounds 1 (.slice C D cap)) e F|o=>o)[b]? =some (.cells #[.pointer (some ⟨b,0,none⟩),.slice C D cap] 153 (0,0)):=by rw[VF,r];simp);exact K;rw[U6,Lib.strCells_length];refine⟨d.1,?_⟩;obtain h|⟨g,cap,l,k1,N,O,P⟩:=d.2;exact .inl h;exact .inr ⟨g,cap,l,k1,N,(Below.heap_setCell w2 ⟨b,1,none⟩ _ g (by show g≠b;omega)).trans O,P⟩;intro e;(obtain⟨e1,e2⟩:=List.append_eq_nil_iff.1 e;have e3:s.size=0:=by rw[<-Lib.strCells_length,e2];rfl);exact(R.o e1).imp id λe4=>Q.o.2 ⟨e4,by simpa using e3⟩;refine x.trans (Stp.trans ⟨E.o.os,E.o.tape,E.o.output,E.o.size,λk V _=>E.o.block k (by omega) (λe=>?_)⟩ (Stp.setCell _ _ _));have:=dS j k e.symm;omega
def El:ow.ntmps=14:=by kernel_rfl
def Ch{w w':x6}{b:Nat}(h:Below b w w')(g:∀D,b<=D->w'.heap[D]? =w.heap[D]? \/∃c e F,w.heap[D]? =some (.cells c e F)):∀(D:Nat) (ds:Option (List Deferred)),w.heap[D]? =some (Go.Obj.deferred ds)->w'.heap[D]? =some (Go.Obj.deferred ds):=λD ds a=>by obtain d|hge:=UK D b;exact(h.block D d).trans a;obtain f|⟨c,e,F,f⟩:=g D hge;exact f.trans a;rw[f]at a;cases a
def xy(b B:Nat)(l:List UInt8)(w:x6)(h:gJ False b B (Lib.byteCells l) w)(F:b<=w.heap.size):Calls (Qs fs) 95 #[.pointer (some ⟨b,0,none⟩)] w λe w'=>e=.returned (.string (bs l))/\Below b w w'/\∀(D:Nat) (ds:Option (List Deferred)),w.heap[D]? =some (Go.Obj.deferred ds)->w'.heap[D]? =some (Go.Obj.deferred ds):=by
 have X:=mC fs;have k:(Qs fs).follows .mixedOrders=true:=(j7 L).1.mixed;obtain⟨N,p,v,O,i,a,d⟩:=h;cases l with
 |nil=>(have m:v=.slice none 0 0:=(d rfl).elim False.elim id;subst m;have n:=Lib.run_unsafeString_none (P:=Qs fs);have G:w.drew.cell? ⟨b,1,none⟩=some (.slice none 0 0):=by have:w.drew.heap[b]? =some (.cells #[p,.slice none 0 0] 153 (0,0)):=i;rw[Lib.cell_of_heap this];rfl);have o:(Builtin.unsafeSliceData_ #[120] ra #[.slice none 0 0]).run (Qs fs) w.drew=.ok (.pointer none) w.drew:=rfl;clear d;go_enter (n95 L),El;go_wp2;(go_region_o);all_goals (go_wp2;go_ret;exact⟨rfl,Below.drew (Below.refl b w),λD ds A=>A⟩)
 |cons x r=>
  obtain⟨l,q⟩:=ex (x::r);rw[<-q]at a⊢;have C:l≠[]:=by rw[q];simp
  clear q d;have s:l.length≠0:=by simpa using C
  rw[Lib.byteCells_length]at a;obtain⟨g,cap,c,rfl,H,t,I,u,y,f⟩:∃g cap c,v=.slice (some ⟨g,0,none⟩) l.length cap/\B<=g/\w.heap[g]? =some (.cells c 5 (0,0))/\l.length<=cap/\cap<=maxLen/\c.size=cap*1/\c.toList.take (l.length*1)=Lib.byteCells l:=by obtain⟨_,J⟩|⟨g,cap,c,m,r⟩:=a.2;exact absurd J s;exact⟨g,cap,c,m,r⟩
  have G:w.drew.cell? ⟨b,1,none⟩=some (.slice (some ⟨g,0,none⟩) l.length cap):=by have:w.drew.heap[b]? =some (.cells #[p,.slice (some ⟨g,0,none⟩) l.length cap] 153 (0,0)):=i;rw[Lib.cell_of_heap this];rfl
  have o:(Builtin.unsafeSliceData_ #[120] ra #[.slice (some ⟨g,0,none⟩) l.length cap]).run (Qs fs) w.drew=.ok (.pointer (some ⟨g,0,none⟩)) w.drew:=Lib.run_unsafeSliceData_row _ _ _ _ _ _ (by omega);have n:(Builtin.unsafeString_ #[203,3] 9 #[.pointer (some ⟨g,0,none⟩),.i l.length]).run (Qs fs) w.drew=.ok (.string ⟨l.toArray⟩) (w.drew.freeze ⟨g,0,none⟩ l.length):=by refine Lib.run_unsafeString_row w.drew 203 3 9 5 ((aJ _ _ _).trans Tryz.underlying203) X.cellsByte g c.size (by have z:w.drew.heap[g]? =some (.cells c 5 (0,0)):=t;simp[World.shape?,z]) l C (by omega) (by unfold maxLen at u;omega) ?_;intro j x K;have:=a.cells (g:=g) rfl j (.int .u8 x.toNat) (by simp[Lib.byteCells,K]);exact this
  have E:Hid (Below b w (w.drew.freeze ⟨g,0,none⟩ l.length)):=Lib.below_freeze (Below.drew (Below.refl b w)) (p:=⟨g,0,none⟩) (by show b<=g;omega) _;have M:=jj t;clear t a y f;go_enter (n95 L),El;go_wp2
  go_region_o
  all_goals (
   go_wp2;go_ret;refine⟨rfl,E.o,Ch E.o λD A=>?_⟩;by_cases e:D=g
   .subst e
    exact .inr ⟨_,_,_,M.o⟩
   .exact .inl (gV w.drew ⟨g,0,none⟩ _ D e))
end Go.Proofs
namespace Go.Proofs
open Go.Tm Go.RowKit Go.Shelf
variable {fs:Array Func} (L:bR fs)
attribute [local go_sem] Oper.semAt_some
def PW(v0 v1 v2:Zj)(s:Zk)(w:x6):Calls (Qs fs) 93 #[.agg #[v0,v1,v2],.string s] w λe w'=>e=.returned (.func (.func 132) #[] #[.pointer (some ⟨w.heap.size+1,0,none⟩),.pointer (some ⟨w.heap.size,0,none⟩)])/\w'=(w.alloc (.cells #[v0,v1,v2] 100)).alloc (.cells #[.string s] 9):=by have a:∀(fn:Fn) (first cap:Zq) (w:x6),(Instr.makeFunc fn first cap).run (Qs fs) w=.ok (.func fn first cap) w:=λ_ _ _ _=>rfl;go_enter (n93 L),Tryz.ntmps93;go_wp2;go_ret;exact⟨by simp,rfl⟩
def xz(x):Lib.strCells x=Lib.byteCells x.data.toList:=rfl
def zt(a b):Lib.byteCells a++Lib.byteCells b=Lib.byteCells (a++b):=by unfold Lib.byteCells;rw[WN]
def Kk(a:List Pr2)(h:∀p∈a,1<=p.1.size/\p.1.size<=4/\p.2.size<=3)(s):(aT a s).length<=3*s.length:=rR a h _ s
def Em{l}{xs:List Zk}(h:l<+:xs):(l.flatMap λx=>x.data.toList).length<=(xs.flatMap λx=>x.data.toList).length:=by obtain⟨t,rfl⟩:=h;rw[W5,U6];omega
def rq{K:Nat->Prop}{v0 v1 v2:Zj}{ls:List Pr2}(s:Zk)(w:x6)(q:az K 2 dA w v0 ls)(V:∀p∈ls,1<=p.1.size/\p.1.size<=4/\p.2.size<=3)(r:s.size<=1000):ac fs 53 #[.agg #[v0,v1,v2],.string s] w (.string (bs (aT ls s.data.toList))):=by
 have e93:=e93 L;have e94:=e94 L;have e95:=e95 L;have Rb:=Rb L;refine callsIn_wide.1 (?_:CallsIn Fence.wide 5 _ _ _ _ _);refine callsIn_of_wp_marks (n53 L) rfl trivial ?_ rfl;simp only[Tryz.ntmps53,U9,UM,UZ,Nat.reduceAdd,Nat.reduceSub,Yk,Array.replicate_zero,List.push_toArray,List.append_toArray,Wp,Xs];have z:=λwx=>PW L v0 v1 v2 s wx
 gi_wp2_with (refine⟨trivial,?_⟩;gi_at_call 93;refine(callsIn_wide.2 (z _)).mono ?_;rintro e w3 ⟨rfl,rfl⟩)
 clear z;obtain⟨N,A⟩:=ex (w.heap.size);rw[<-A];obtain⟨P,n⟩:=ex (w.alloc (.cells #[v0,v1,v2] 100));obtain⟨B,j⟩:=ex (P.alloc (.cells #[.pointer none,.slice none 0 0] 153));obtain⟨y,g⟩:=ex (B.alloc (.cells #[v0,v1,v2] 100));obtain⟨W0,d⟩:=ex (y.alloc (.cells #[.string s] 9));rw[<-n,<-j,<-g,<-d];have Q:P.heap.size=N+1:=by rw[n,A];simp
 have sb:B.heap.size=N+2:=by rw[j];simp[Q]
 have sc:y.heap.size=N+3:=by rw[g];simp[sb]
 have sd:W0.heap.size=N+4:=by rw[d];simp[sc]
 have X:Below N w W0:=by rw[d,g,j,n];exact((((Below.refl N w).alloc (by omega) _).alloc (by simp;omega) _).alloc (by simp;omega) _).alloc (by simp;omega) _
 have C:W0.heap[N+1]? =some (.cells #[.pointer none,.slice none 0 0] 153 (0,0)):=by (have f:B.heap[N+1]? =some (.cells #[.pointer none,.slice none 0 0] 153 (0,0)):=by rw[j,<-Q];exact World.alloc_heap_new P _);(have a:y.heap[N+1]? =B.heap[N+1]? :=by rw[g];exact Below.heap_alloc _ _ _ (by omega));(have Y:W0.heap[N+1]? =y.heap[N+1]? :=by rw[d];exact Below.heap_alloc _ _ _ (by omega));rw[Y,a,f]
 have E:W0.cell? ⟨N+2,0,none⟩=some v0:=by (have f:y.cell? ⟨N+2,0,none⟩=some v0:=by rw[g,<-sb];exact aC B _ 100 0 _ rfl);exact(dv (by rw[d];exact Below.heap_alloc _ _ _ (by omega))).trans f
 have u:W0.rowIs (N+3) 9 1 (λ_=>.string s):=by have h:=World.rowIs_alloc y #[.string s] 9 (λ_=>.string s) (λi hi=>by (have:i=0:=by simp at hi;omega);subst this;rfl);rw[sc,<-d]at h;exact h
 have v:az (λb=>b<N) 2 dA W0 v0 ls:=by have h:=q.below;rw[<-A]at h;exact h.blocks λb t=>X.block b t
 have Z:=jj A;clear n j g d Q sb sc q A;refine zd rfl (by omega) (gf:=132) (lb:=#[.pointer (some ⟨N+1+1+1,0,none⟩),.pointer (some ⟨N+1+1,0,none⟩)]) rfl trivial Rb (encs:=λx:Zk=>#[.string x]) (λ_=>rfl) (N+3) (N+1) (by omega) (by omega) (eG ls s.data.toList)
  (λpre W=>gJ False (N+1) (N+6) (Lib.byteCells (pre.flatMap λx=>x.data.toList)) W/\Below N w W) ?hI1 ?hI2 ?h0 ?hseq
  (λx=>{tmps:=#[.agg #[v0,v1,v2],.string s,.pointer (some ⟨N,0,none⟩),undef,.string ⟨#[]⟩,.pointer (some ⟨N+1,0,none⟩),.string x,.agg #[v0,v1,v2],.string s,.func (.func 132) #[] #[.pointer (some ⟨N+1+1+1,0,none⟩),.pointer (some ⟨N+1+1,0,none⟩)],.string x,undef,undef,undef],defers:=[]}) ?assign ?body ?done
 case hI1=>(rintro pre W l o o' hl ho R ⟨f,a⟩;refine⟨f.keep λk c e F G _=>?_,a.trans ⟨rfl,rfl,rfl,by simp,λb t=>World.putObj_heap_other (by omega)⟩⟩;have S:k≠l:=by rintro rfl;rw[G]at ho;cases ho;cases R);exact(World.putObj_heap_other S).trans G
 case hI2=>rintro pre W W' r ⟨f,a⟩;refine⟨f.keep λk c e F G aa=>(r.block k (UO.1 G).1 (by omega)).trans G,a.trans ⟨r.os,r.tape,r.output,r.size,λb t=>r.block b (by have:=a.size;have:=Z.o;omega) (by omega)⟩⟩
 case h0=>exact⟨⟨by omega,.pointer none,.slice none 0 0,.inl rfl,C,World.ownsRow_nil _ _ _ _,λ_=>.inr rfl⟩,X⟩
 case hseq=>intro l J W hW hJ hY h0;exact callsIn_wide.2 (MV L _ s (N+3) (N+2) (N+1) W0 (by omega) (by omega) (by omega) (by omega) (by omega) (λb t=>⟨by omega,by omega,by omega⟩) v u E (λp hp=>(V p hp).1) r l J W hW hJ hY h0)
 case assign=>intro l x W K O;(gi_wp2);exact O
 case body=>(rintro l pre x W ⟨T,m⟩ H ab;have I:(Lib.byteCells (pre.flatMap λx=>x.data.toList)).length+x.size<=140737488355328:=by (have f:=Em H;rw[xj]at f;have a:=Kk ls V s.data.toList;rw[<-Lib.size_eq]at a;rw[W5,U6]at f;rw[Lib.byteCells_length];have Y:([x].flatMap λx=>x.data.toList).length=x.size:=by rw[VE,List.flatMap_nil,V7];exact(Lib.size_eq x).symm);omega);(gi_wp2_with (refine⟨trivial,?_⟩;gi_at_call 94;refine(CallsIn.inRound l (callsIn_wide.2 (jv L (N+1) (N+6) _ x W T I (by omega)))).mono ?_;rintro e w2 ⟨rfl,f,a⟩));rw[xz,zt]at f;exact⟨f,m.trans ⟨a.os,a.tape,a.output,a.size,λb t=>a.block b (by omega) (by omega)⟩⟩
 case done=>rintro D W hD ⟨T,m⟩ O;have M:=xy L (N+1) (N+6) _ W T (by have h:=(UO.1 O).1;omega);rw[xj]at M;dsimp only;(gi_wp2_with (refine⟨trivial,?_⟩;gi_at_call 95;refine(callsIn_wide.2 M).mono ?_;rintro e w2 ⟨rfl,f,a⟩));have U:=a D _ O;refine⟨by simp,.inl ⟨_,_,rfl,run_takeDeferred U,?_⟩⟩;refine⟨_,results_tmp rfl _ _ _,rfl,?_⟩;have t:Below N w w2:=m.trans (f.mono (by omega));rw[<-Z.o];exact t.trans ⟨rfl,rfl,rfl,by simp,λb t=>World.putObj_heap_other (by omega)⟩
end Go.Proofs
namespace Go.Proofs
open Go.Tm Go.RowKit Go.Shelf
variable {fs:Array Func} (L:bR fs)
def Rh(b n:Nat)(w:x6)(a:w.heap[b]? =some (.cells #[.pointer none,.slice none 0 0] 153 (0,0)))(r:n<=281474976710656):Calls (Qs fs) 180 #[.pointer (some ⟨b,0,none⟩),.i n] w λe w'=>e=.returned (.tuple #[])/\gJ (0<n) b (b+1) [] w'/\Below b w w':=by
 have X:=mC fs;have s:b<w.heap.size:=(UO.1 a).1;by_cases t:n=0
 .subst t;have Py:=Py L;have f:Lays.n240 (Qs fs) tW:={(j7 L).2.2 with}
  have c:=Any.Builder_copyCheck_fresh f X.toX72 b w (by rw[Lib.cell_of_heap a];rfl) (by simp[World.shape?,a];rfl) (Lib.frozen_of_heap a 0);have i:Calls (Qs fs) 134 #[.pointer (some ⟨b,0,none⟩)] w λe w'=>e=.returned (.tuple #[])/\w'.heap[b]? =some (.cells #[.pointer (some ⟨b,0,none⟩),.slice none 0 0] 153 (0,0))/\Below b w w':=by (refine c.mono ?_;rintro e w' ⟨rfl,rfl⟩;refine⟨rfl,?_,(Below.refl b w).setCell (p:=⟨b,0,none⟩) (UI _) _⟩;have u:(w.heap.modify b λo=>match o with| .cells c e F=>.cells (c.setIfInBounds 0 (.pointer (some ⟨b,0,none⟩))) e F|o=>o)[b]? =some (.cells #[.pointer (some ⟨b,0,none⟩),.slice none 0 0] 153 (0,0)):=by rw[VF,a];simp);exact u
  clear c a;go_enter (n180 L),Tryz.ntmps180;go_wp2_with (go_at_call 134;refine i.mono ?_);clear i;rintro e w1 ⟨rfl,d,j⟩;have m:w1.cell? ⟨b,1,none⟩=some (.slice none 0 0):=by rw[Lib.cell_of_heap d];rfl
  have x:=jj d;have y:=jj j;clear d j;have D:w1.drew.cell? ⟨b,1,none⟩=some (.slice none 0 0):=m;have k:(Qs fs).follows .mixedOrders=true:=(j7 L).1.mixed;clear m;go_wp2
  go_region_o
  all_goals (go_wp2;exact bodyPost_end (results_none rfl _ _ _) rfl ⟨rfl,⟨VR _,_,_,.inr rfl,x.o,World.ownsRow_nil _ _ _ _,λ_=>.inr rfl⟩,y.o.drew⟩)
 refine(Any.Builder_Grow_fresh (P:=Qs fs) (ρ:=tW) (j7 L).2.2 X b b n w (UI _) a (by omega) r).mono ?_;rintro e w' ⟨rfl,⟨_,v,z,q,A⟩,B⟩;refine⟨rfl,⟨VR _,_,v,.inr rfl,z,?_,λ_=>.inl (by omega)⟩,B⟩;refine⟨q.1,?_⟩;obtain h|⟨g,cap,l,k1,E,C⟩:=q.2;exact .inl h;refine .inr ⟨g,cap,l,k1,?_,C⟩;have:g≠b:=λe=>A (by rw[k1,e];rfl);omega
def gJ.real{q b B bs w}(h:gJ q b B bs w)(a:bs=[]->¬q):gJ False b B bs w:=by obtain⟨c,p,v,d,f,g,i⟩:=h;exact⟨c,p,v,d,f,g,λe=>(i e).elim (λx=>absurd x (a e)) .inr⟩
def rv{p:Prop}(h:p):Hid p:=h
def Below.MW{b B:Nat}{w w':x6}(h:Stp B b w w')(a:b<B):Below b w w':=⟨h.os,h.tape,h.output,h.size,λk c=>h.block k (by omega) (by omega)⟩
def Kl(s old new:Zk)(m:Int)(w:x6)(hs:s.size<=100000)(R:w.cell? ⟨2,0,none⟩=some (.i m))(S:1<=old.size)(U:new.size<=100)(V:old≠new){K:Nat}(W:Lib.countB s old=K)(X:1<=K):ac fs 166 #[.string s,.string old,.string new,.i (-1)] w (.string ⟨(Lib.replaceK old.data.toList new.data.toList K s.data.toList).toArray⟩):=by
 have PE:=PE L;have Tb:=Tb L;have Tc:=Tc L;have e94:=e94 L;have e95:=e95 L;have Y:=Any.strings_Count_any (P:=Qs fs) (ρ:=tW) (j7 L).2.1 s old m w (by omega) R S;have f:=Lib.countB_mul_le old S s.size s (UI _);rw[W]at Y f;have B:Lib.count s.data.toList old.data.toList=K:=W;have aM:(old.toList==new.toList)=false:=(Lib.bytes_beq_false_iff old new).2 V;have aR:((K:Int)==0)=false:=Ve.2 (by omega);have b:s.data.toList.length=s.size:=(Lib.size_eq s).symm;have a:old.data.toList.length=old.size:=(Lib.size_eq old).symm;have Z:2<w.heap.size:=World.block_lt_of_cell? _ _ R;have aa:K<=s.size:=UJ (Nat.le_mul_of_pos_right K (by omega)) f;have ab:s.size+K*new.size<=140737488355328:=by have:K*new.size<=s.size*100:=Nat.mul_le_mul aa U;omega
 have v:=Lib.grow_arg s.size K new.size old.size X f ab;have k:K<=Lib.count (s.data.toList.drop 0) old.data.toList:=by rw[Vy,B];exact UI _
 obtain⟨T,hT⟩:=ex (s.size+K*new.size-K*old.size);rw[<-hT]at v;have a1:T<=140737488355328:=by omega
 have C:T+K*old.size=s.size+K*new.size:=by omega
 have a6:decide (0<old.size)=true:=UQ (by omega);have D:=λwr (h:Below w.heap.size w wr)=>(h.cell (p:=⟨2,0,none⟩) Z).trans R;have ad:=λ(t:Zk) wr (ht:t.size<=s.size) (h:Below w.heap.size w wr)=>Any.strings_Index (P:=Qs fs) (ρ:=tW) {(j7 L).2.1 with} t old m wr (by omega) (D wr h);have af:=rv C;clear W B R D hT C;go_enter (n166 L),Tryz.ntmps166;go_wp2_with (go_at_call 179;refine Y.mono ?_;rintro e w' ⟨rfl,E⟩;rw[E];clear E);clear Y;rw[v];refine(Rh L w.heap.size T _ (heap_alloc_new w _) (by omega)).mono ?_;rintro e w1 ⟨rfl,F,x⟩;have H1:=rv F;have G:w.heap.size+1<=w1.heap.size:=by have:=x.size;simpa using this
 have ag:=rv (((Below.refl w.heap.size w).alloc (UI _) _).trans x);clear F x v;go_wp2_with fail
 go_loopg [11,53] K (λg ak an wx=>∃(i start:Nat) (acc:List UInt8),an=.i i/\ak=.i start/\i+g=K/\start<=s.size/\
  Hid (gJ (0<T) w.heap.size (w.heap.size+1) (Lib.byteCells acc) wx)/\Hid (Below w.heap.size w wx/\w.heap.size+1<=wx.heap.size)/\Hid (acc++Lib.replaceK old.data.toList new.data.toList g (s.data.toList.drop start)=Lib.replaceK old.data.toList new.data.toList K s.data.toList)/\
  g<=Lib.count (s.data.toList.drop start) old.data.toList/\acc.length+(s.size-start)+g*new.size=T+g*old.size/\g*old.size<=s.size-start)
 case atStart=>exact⟨0,0,[],rfl,rfl,by omega,UP _,H1,rv ⟨ag.o,G⟩,rv (by simp),k,by have:=af.o;simp;omega,by omega⟩
 case round=>
  obtain⟨i,start,acc,rfl,rfl,a7,a8,HB,HW,HR,ba,H,bb⟩:=hrel;have bk:w.heap.size<=wr.heap.size:=HW.o.1.size;have c1:(0:Int)<=(start:Int):=by omega
  have c2:(start:Int)<=(s.size:Int):=by omega
  cases gk with
  |zero=>(have ao:¬((i:Int)<(K:Int)):=by omega);(go_wp2_with fail);(refine(jv L w.heap.size (w.heap.size+1) _ _ wr HB.o (by rw[Lib.byteCells_length,Ww];simp at H;omega) HW.o.2).mono ?_;rintro e w3 ⟨rfl,y,d⟩;rw[Lib.strCells_eq,Lib.extract_to_end,<-Lib.byteCells_append]at y;have o:acc++s.data.toList.drop start=Lib.replaceK old.data.toList new.data.toList K s.data.toList:=HR.o;have z:(acc++s.data.toList.drop start).length=T:=by rw[U6,UY,b];simp at H;omega);rw[o]at y z;have H3:=rv (y.real λe h0=>by have:=Vj List.length e;rw[Lib.byteCells_length,z]at this;simp at this;omega);have n:=rv (HW.o.1.trans (Below.MW d (VR _)));have c:w.heap.size<=w3.heap.size:=n.o.size;clear y d o z;go_wp2_with fail;refine(xy L w.heap.size (w.heap.size+1) _ w3 H3.o c).mono ?_;rintro e w5 ⟨rfl,I,_⟩;have ar:=rv (n.o.trans I);clear I;go_wp2;go_ret;exact⟨rfl,ar.o⟩
  |succ g=>(have ao:(i:Int)<(K:Int):=by omega);(obtain⟨j,J⟩:=Lib.index_of_count (s:=s.data.toList.drop start) (old:=old.data.toList) (by omega);have ax:j+old.size<=s.size-start:=by have:=Lib.index_room (s.data.toList.drop start) old.data.toList (by rw[J];omega);rw[J,UY,b,a]at this;omega);(have bm:(g+1)*new.size=g*new.size+new.size:=Wc _ _;have bo:(g+1)*old.size=g*old.size+old.size:=Wc _ _;have c3:(0:Int)<=(start:Int)+(j:Int):=by omega);(have c4:(start:Int)+(j:Int)<=(s.size:Int):=by omega);(have c5:(start:Int)<=(start:Int)+(j:Int):=by omega);(have l:Lib.byteCells acc++Lib.strCells (s.extract start (start+j))++Lib.strCells new=Lib.byteCells (acc++(s.data.toList.drop start).take j++new.data.toList):=by rw[Lib.strCells_eq,Lib.strCells_eq,Lib.extract_data,YF,<-Lib.byteCells_append,<-Lib.byteCells_append]);(have r:(acc++(s.data.toList.drop start).take j++new.data.toList)++Lib.replaceK old.data.toList new.data.toList g (s.data.toList.drop (start+j+old.size))=Lib.replaceK old.data.toList new.data.toList K s.data.toList:=by rw[<-HR.o,Lib.replaceK_hit _ _ g _ j J,Xo,a];simp only[V5,Wv]);(have u:g<=Lib.count (s.data.toList.drop (start+j+old.size)) old.data.toList:=by have:=Lib.count_hit (s:=s.data.toList.drop start) (sub:=old.data.toList) (i:=j) (λe=>by rw[e]at a;simp at a;omega) J;rw[Xo,a]at this;rw[show start+j+old.size=start+(j+old.size) by omega];omega);(have M:=Lib.countB_mul_le old S _ (s.extract (start+j+old.size) s.size) (UI _);have ay:((s.data.toList.drop start).take j).length=j:=by rw[VT,UY,b];omega);(have N:g*old.size<=s.size-(start+j+old.size):=by (have e1:Lib.countB (s.extract (start+j+old.size) s.size) old=Lib.count (s.data.toList.drop (start+j+old.size)) old.data.toList:=by unfold Lib.countB;rw[Lib.extract_to_end]);rw[e1,Ww]at M;have:=XQ old.size u;omega);have Hn:=rv l;have O:=rv r;have q:=ad (s.extract start s.size) wr (by rw[Ww];omega) HW.o.1;rw[Lib.extract_to_end,J]at q;clear l r HR M;go_wp2_with (go_at_call 181;refine q.mono ?_;rintro e w' ⟨rfl,E⟩;rw[E];clear E);refine(jv L w.heap.size (w.heap.size+1) _ (s.extract start (start+j)) wr HB.o (by rw[Lib.byteCells_length,Ww];omega) HW.o.2).mono ?_;rintro e w3 ⟨rfl,y,d⟩;have c:w.heap.size+1<=w3.heap.size:=UJ HW.o.2 d.size;have H3:=rv y;have n:=rv (Below.MW d (VR _));clear y d;go_wp2_with fail;refine(jv L w.heap.size (w.heap.size+1) _ new w3 H3.o (by rw[U6,Lib.byteCells_length,Lib.strCells_length,Ww];omega) c).mono ?_;rintro e w4 ⟨rfl,h4,A⟩;rw[Hn.o]at h4;have H4:=rv h4;have Q:w.heap.size+1<=w4.heap.size:=UJ c A.size;have aK:=rv ((HW.o.1.trans n.o).trans (Below.MW A (VR _)));clear h4 A;go_wp2;(go_roundg g);(case measure=>omega);case rel=>refine⟨i+1,start+j+old.size,_,by first|rfl|(simp;unfold wrap64;omega),by first|rfl|simp|(simp;unfold wrap64;omega),by omega,by omega,H4,rv ⟨aK.o,Q⟩,O,u,?_,N⟩;simp only[U6,ay,<-Lib.size_eq];omega
def G7(s old new:Zk)(m:Int)(w:x6)(i:s.size<=100000)(d:w.cell? ⟨2,0,none⟩=some (.i m))(f:1<=old.size)(h:old=new\/Lib.countB s old=0):ap fs 166 #[.string s,.string old,.string new,.i (-1)] w (.string s):=by
 have PE:=PE L;by_cases b:old=new
 .have a:(old.toList==new.toList)=true:=(Lib.bytes_beq_iff old new).2 b;go_enter (n166 L),Tryz.ntmps166;go_wp2;go_ret;exact⟨rfl,rfl⟩
 have c:=Any.strings_Count_any (P:=Qs fs) (ρ:=tW) (j7 L).2.1 s old m w (by omega) d f;rw[h.resolve_left b]at c;have a:(old.toList==new.toList)=false:=(Lib.bytes_beq_false_iff old new).2 b;go_enter (n166 L),Tryz.ntmps166;go_wp2_with (go_at_call 179;refine c.mono ?_;rintro e w' ⟨rfl,g⟩;rw[g]);go_ret;exact⟨rfl,rfl⟩
theorem nJ(p)(a:p.1.data.toList≠[])(b:p.1.data.toList=p.2.data.toList):∀(n) (s),s.length<=n->bX p s=s
 |_,[],_=>nD p
 |0,c::s,h=>by simp at h
 |n+1,c::s,h=>by
  cases d:p.1.data.toList.isPrefixOf (c::s)with
  |true=>
   rw[nE d a,nJ p a b n _ (by rw[UY];have:0<p.1.data.toList.length:=VZ.2 a;omega),<-b]
   obtain⟨t,e⟩:=Wb.1 d;rw[<-e,List.drop_left]
  |false=>rw[mo d,nJ p a b n s (by simp only[UM]at h;omega)]
theorem jh(p)(b:p.1.data.toList≠[]):∀(n) (s:Bs),s.length<=n->Lib.replaceK p.1.data.toList p.2.data.toList (Lib.count s p.1.data.toList) s=bX p s
 |n,[],_=>by
  have a:Lib.index [] p.1.data.toList= -1:=by unfold Lib.index;rw[UG (by simpa using b)]
  rw[Lib.count_miss a,nD,Lib.replaceK]
 |0,c::s,h=>by simp at h
 |n+1,c::s,h=>by
  simp only[UM]at h;have f:0<p.1.data.toList.length:=VZ.2 b;cases d:p.1.data.toList.isPrefixOf (c::s)with
  |true=>
   have a:Lib.index (c::s) p.1.data.toList=((0:Nat):Int):=by unfold Lib.index;rw[UH d];rfl
   rw[Lib.count_hit b a,W6 1,Lib.replaceK_hit _ _ _ _ 0 a,nE d b,UR,Vq,Wp,jh p b n _ (by rw[UY,UM];omega)]
  |false=>
   rw[mo d,<-jh p b n s (by omega)];have k:=Lib.index_ge s p.1.data.toList;by_cases g:Lib.index s p.1.data.toList= -1
   .have a:Lib.index (c::s) p.1.data.toList= -1:=by unfold Lib.index;rw[UG (by rw[d];simp),g];rfl
    rw[Lib.count_miss a,Lib.count_miss g,Lib.replaceK,Lib.replaceK]
   .obtain⟨i,a⟩:∃i:Nat,Lib.index s p.1.data.toList=i:=⟨(Lib.index s p.1.data.toList).toNat,by omega⟩
    have e:Lib.index (c::s) p.1.data.toList=((i+1:Nat):Int):=by unfold Lib.index;rw[UG (by rw[d];simp),UG (by rw[a,VA];omega),a];omega
    have j:(c::s).drop (i+1+p.1.data.toList.length)=s.drop (i+p.1.data.toList.length):=by rw[show i+1+p.1.data.toList.length=(i+p.1.data.toList.length)+1 by omega,VB]
    rw[Lib.count_hit b e,Lib.count_hit b a,j,W6 1,Lib.replaceK_hit _ _ _ _ _ e,Lib.replaceK_hit _ _ _ _ _ a,j,Vu];simp
def iH(w:x6):Prop:=∃m,w.cell? ⟨2,0,none⟩=some (.i m)
def iH.stays{w w'}(h:iH w)(a:ae w w'):iH w':=h.elim λm h=>⟨m,a.cell h⟩
def Ci(s:Zk)(p:Pr2)(w:x6)(c:s.size<=100000)(a:iH w)(d:1<=p.1.size)(i:p.2.size<=100):Calls (Qs fs) 139 #[.string s,.string p.1,.string p.2] w λe w'=>e=.returned (.string (bs (bX p s.data.toList)))/\Below w.heap.size w w':=by (obtain⟨m,a⟩:=a;have f:p.1.data.toList≠[]:=λh=>by have:=Lib.size_eq p.1;rw[h,UZ]at this;omega);(have S6:=S6 L;have q:ac fs 166 #[.string s,.string p.1,.string p.2,.i (-1)] w (.string (bs (bX p s.data.toList))):=by have b:=jh p f _ s.data.toList (UI _);by_cases he:p.1=p.2\/Lib.countB s p.1=0;refine(G7 L s p.1 p.2 m w c a d he).mono ?_;(rintro e w' ⟨rfl,rfl⟩;have e1:bX p s.data.toList=s.data.toList:=by obtain he|he:=he;exact nJ p f (by rw[he]) _ _ (UI _);rw[show Lib.count s.data.toList p.1.data.toList=0 from he]at b;rw[<-b,Lib.replaceK]);rw[e1];exact⟨rfl,Below.refl _ _⟩;have:=Kl L s p.1 p.2 m w c a d i (λe=>he (.inl e)) rfl (Yg λe=>he (.inr e));rw[show Lib.countB s p.1=Lib.count s.data.toList p.1.data.toList from rfl,b]at this;exact this);obtain⟨z,g⟩:=ex (bs (bX p s.data.toList));rw[<-g]at q⊢;clear g a;go_enter (n139 L),Tryz.ntmps139;go_wp2_with (go_at_call 166;refine q.mono ?_;clear q;rintro e w2 ⟨rfl,j⟩);go_ret;exact⟨rfl,j⟩
def MY(s:Zk)(p:Pr2)(a:Nat)(w:x6)(d:s.size<=100000)(b:iH w)(f:1<=p.1.size)(g:p.2.size<=100)(h:w.cell? ⟨a,0,none⟩=some (.string p.1))(i:w.cell? ⟨a,1,none⟩=some (.string p.2)):Calls (Qs fs) 138 #[.string s,.pointer (some ⟨a,0,none⟩)] w λe w'=>e=.returned (.string (bs (bX p s.data.toList)))/\Below w.heap.size w w':=by have SP:=SP L;have q:=Ci L s p w d b f g;obtain⟨z,c⟩:=ex (bs (bX p s.data.toList));rw[<-c]at q⊢;clear c b;go_enter (n138 L),Tryz.ntmps138;go_wp2_with (go_at_call 139;refine q.mono ?_;clear q;rintro e w2 ⟨rfl,j⟩);go_ret;exact⟨rfl,j⟩
end Go.Proofs
namespace Go.Proofs
def j8(c:Case)(k:Nat):List Hit:=((List.range k).filterMap (fp c)).foldl (λl h=>eT c h l) []
def oQ(c k)(h:fp c k=none):j8 c (k+1)=j8 c k:=by unfold j8;rw[Xq,List.filterMap_append,XJ];simp[h]
def oS(c k x)(h:fp c k=some x):j8 c (k+1)=eT c x (j8 c k):=by unfold j8;rw[Xq,List.filterMap_append,XJ];simp[h]
theorem jw(c h):∀l,(eT c h l).length=l.length+1
 | []=>rfl
 |x::l=>by
  unfold eT;split
  .rw[UM,jw c h l,UM]
  .rfl
theorem ry(c h):∀l x,x∈eT c h l->x=h\/x∈l
 | [],x,a=>.inl (Wd.1 a)
 |y::l,x,a=>by
  unfold eT at a;split at a
  .obtain e|e:=U8.1 a
   .exact .inr (e▸Ye ..)
   .obtain e'|e':=ry c h l x e
    .exact .inl e'
    .exact .inr (XM _ e')
  .obtain e|e:=U8.1 a
   .exact .inl e
   .exact .inr e
theorem qy(c):∀k,(j8 c k).length<=k
 |0=>UI _
 |k+1=>by
  have a:=qy c k;cases h:fp c k with
  |none=>rw[oQ c k h];omega
  |some x=>rw[oS c k x h,jw];omega
theorem sk{c m kin}:∀(l) (j r) (v),(∀i,l[i]? =c.rules[j+i]?)->dR c m kin j l=some (r,v)->∃h,v=bz c.table c.rules[r].kind c.new m
 | [],j,r,v,_,h=>by cases h
 |x::l,j,r,v,b,h=>by
  unfold dR at h;split at h
  .cases h
   have a:=b 0;rw[VK,YG]at a;have d:j<c.rules.length:=(Vt.1 a.symm).1;rw[Vb d]at a;cases a;exact⟨d,rfl⟩
  .refine sk l (j+1) r v (λi=>?_) h
   have:=b (i+1);rw[List.getElem?_cons_succ]at this;rw[this]
   congr 1
   omega
def uT(c k)(d:k<c.marks.length)(e:k<c.kin.length):(nH c k= -1/\fp c k=none)\/∃r,∃h:r<c.rules.length,nH c k=r/\fp c k=some ⟨k,r,bz c.table c.rules[r].kind c.new c.marks[k]⟩:=by have a:=Ce c k d e;cases b:dR c c.marks[k] c.kin[k] 0 c.rules with|none=>rw[b]at a;exact .inl ⟨by unfold nH;rw[a];rfl,a⟩|some x=>obtain⟨r,v⟩:=x;obtain⟨h,rfl⟩:=sk c.rules 0 r v (λi=>by rw[UR]) b;rw[b]at a;exact .inr ⟨r,h,by unfold nH;rw[a];rfl,a⟩
theorem nK(c)(b:c.kin.length=c.marks.length):∀k,k<=c.marks.length->∀x∈j8 c k,∃(i r:Nat) (v:Int),i<c.marks.length/\r<c.rules.length/\-1000000<=0/\x=⟨i,r,v⟩
 |0,_,x,a=>by cases a
 |k+1,f,x,a=>by
  obtain⟨_,h⟩|⟨r,d,_,h⟩:=uT c k (by omega) (by omega)
  .rw[oQ c k h]at a
   exact nK c b k (by omega) x a
  .rw[oS c k _ h]at a
   obtain rfl|e:=ry c _ _ _ a
   .exact⟨k,r,_,by omega,d,by decide,rfl⟩
   .exact nK c b k (by omega) x e
def En(c h l k)(b:k<=l.length)(d:∀i (a:i<l.length),i<k->aV c l[i] h=true)(e:∀a,aV c l[k] h=false):eT c h l=l.take k++h::l.drop k:=by
 induction l generalizing k with
 |nil=>cases k with
  |zero=>rfl
  |succ k=>simp at b
 |cons x l g=>
  cases k with
  |zero=>have:=e (WY _);simp only[W7]at this;unfold eT;rw[this];rfl
  |succ k=>
   have f:=d 0 (WY _) (WY _);simp only[W7]at f;unfold eT;rw[f,UH rfl,g k (by simpa using b) (λi a j=>?_) λa=>?_]
   .rfl
   .have:=d (i+1) (by simpa using a) (by omega)
    simpa using this
   .have:=e (by simpa using a)
    simpa using this
def bD(l:List Hit):List Go.Value:=l.flatMap λx=>[.i x.mark,.i x.eB,.i x.level]
def iI(l):(bD l).length=l.length*3:=by induction l with|nil=>rfl|cons x l a=>unfold bD at a⊢;rw[VE,U6,a,UM];simp only[UM,UZ];omega
def Cj(a b):bD (a++b)=bD a++bD b:=by unfold bD;rw[W5]
def tX(l):∀u∈bD l,∃n,u=.i n:=by intro u a;unfold bD at a;obtain⟨x,_,b⟩:=W8.1 a;simp only[U8,Vf,Vh]at b;rcases b with e|e|e<;>exact⟨_,e⟩
def Eo(l k)(a:k<l.length):(bD l)[k*3]? =some (.i l[k].mark)/\(bD l)[k*3+1]? =some (.i l[k].eB)/\(bD l)[k*3+2]? =some (.i l[k].level):=by induction l generalizing k with|nil=>cases a|cons x l b=>cases k with|zero=>exact⟨rfl,rfl,rfl⟩|succ k=>(have h:=b k (by simpa using a);have e:bD (x::l)=[.i x.mark,.i x.eB,.i x.level]++bD l:=rfl;rw[e];have e3:∀j,([.i x.mark,.i x.eB,.i x.level]++bD l:List Go.Value)[(k+1)*3+j]? =(bD l)[k*3+j]? :=λj=>by rw[XN (by simp;omega)];congr 1;simp;omega);exact⟨(e3 0).trans h.1,(e3 1).trans h.2.1,(e3 2).trans h.2.2⟩
def G8(l k):bD (l.drop k)=(bD l).drop (k*3):=by induction l generalizing k with|nil=>simp[bD]|cons x l a=>cases k with|zero=>rfl|succ k=>have e:bD (x::l)=.i x.mark:: .i x.eB:: .i x.level::bD l:=rfl;rw[VB,a,e,show(k+1)*3=k*3+1+1+1 by omega,VB,VB,VB]
def G9(l k):bD (l.take k)=(bD l).take (k*3):=by induction l generalizing k with|nil=>simp[bD]|cons x l a=>cases k with|zero=>simp[bD]|succ k=>have e:∀l,bD (x::l)=.i x.mark:: .i x.eB:: .i x.level::bD l:=λ_=>rfl;rw[Vu,e,a,e,show(k+1)*3=k*3+1+1+1 by omega,Vu,Vu,Vu]
def nM(c a b):aV c a b=true↔a.eB<b.eB\/(a.eB=b.eB/\(b.level<a.level\/(a.level=b.level/\(ij c a.mark<ij c b.mark\/(ij c a.mark=ij c b.mark/\a.mark<b.mark))))):=by unfold aV;generalize ij c a.mark=x;generalize ij c b.mark=y;by_cases d:a.eB=b.eB;rw[UG (λh=>h d)];by_cases e:a.level=b.level;rw[UG (λh=>h e)];by_cases f:x=y;rw[UG (λh=>h f)];simp only[U3];omega;rw[UH f];simp only[U3];omega;rw[UH e];simp only[U3];omega;rw[UH d];simp only[U3];omega
def pU(c a b):aV c a b=false↔¬(a.eB<b.eB\/(a.eB=b.eB/\(b.level<a.level\/(a.level=b.level/\(ij c a.mark<ij c b.mark\/(ij c a.mark=ij c b.mark/\a.mark<b.mark)))))):=by rw[<-nM];simp
def EF(c a):aV c a a=false:=by rw[pU];omega
def Cy{c a b}(h:aV c a b=true):aV c b a=false:=by rw[nM]at h;rw[pU];omega
def before_trans{c a b d}(h:aV c a b=true)(k:aV c b d=true):aV c a d=true:=by rw[nM]at*;omega
def qG{c a b d}(h:aV c a b=false)(k:aV c b d=false):aV c a d=false:=by rw[pU]at*;omega
def Kz{c a b}(h:aV c a b=false)(k:aV c b a=false):a=b:=by (rw[pU]at*;have d:a.eB=b.eB:=by omega);(have e:a.level=b.level:=by omega);(have f:a.mark=b.mark:=by omega);cases a;cases b;simp_all
def lW(c:Case)(l:List Hit):Prop:=l.Pairwise λx y=>aV c y x=false
theorem qI(c h):∀l,lW c l->lW c (eT c h l)
 | [],_=>by simp[eT,lW]
 |x::xs,d=>by
  have a:=Ys.1 d;unfold eT;split
  .rename_i b
   refine Ys.2 ⟨λy hy=>?_,qI c h xs a.2⟩;obtain rfl|hy:=ry c h xs y hy
   .exact Cy b
   .exact a.1 y hy
  .rename_i b
   have b:aV c x h=false:=by simpa using b
   refine Ys.2 ⟨λy hy=>?_,d⟩;obtain rfl|hy:=U8.1 hy
   .exact b
   .exact qG (a.1 y hy) b
theorem uV(c h):∀l,(eT c h l).Perm (h::l)
 | []=>.refl _
 |x::xs=>by
  unfold eT;split
  .exact((uV c h xs).cons x).trans (.swap h x xs)
  .exact .refl _
theorem Cz(c):∀(xs acc:List Hit),lW c acc->lW c (xs.foldl (λl h=>eT c h l) acc)/\(xs.foldl (λl h=>eT c h l) acc).Perm (xs++acc)
 | [],acc,a=>⟨a,.refl _⟩
 |x::xs,acc,a=>by obtain⟨b,d⟩:=Cz c xs (eT c x acc) (qI c x acc a);refine⟨b,d.trans ?_⟩;exact((List.perm_append_left_iff xs).2 (uV c x acc)).trans (List.perm_middle)
def xL(c):lW c (bc c):=(Cz c _ [] List.Pairwise.nil).1
def eY(c):(bc c).Perm ((List.range c.marks.length).filterMap (fp c)):=by have h:=(Cz c ((List.range c.marks.length).filterMap (fp c)) [] List.Pairwise.nil).2;rw[V7]at h;exact h
def zy{c l m}(d:lW c l)(e:lW c m)(h:l.Perm m):l=m:=List.Perm.eq_of_pairwise (le:=λx y=>aV c y x=false) (λa b _ _ f g=>Kz g f) d e h
def dJ:Table where
 av:=[(⟨#[207,129]⟩,⟨#[114]⟩),(⟨#[206,191]⟩,⟨#[111]⟩),(⟨#[206,182]⟩,⟨#[122]⟩),(⟨#[206,177]⟩,⟨#[97]⟩),(⟨#[206,178]⟩,⟨#[118]⟩)]
 aF:=[⟨⟨#[105,116]⟩,[(⟨#[122]⟩,⟨#[115]⟩),(⟨#[104]⟩,⟨#[]⟩)]⟩]
 bu:=[[⟨#[114,111,122,97]⟩,⟨#[114,111,115,101]⟩]]
def vB:Mark:=⟨⟨#[110,111,118,97]⟩,⟨#[207,129,206,191,206,182,206,177]⟩,[],9,false⟩
def rN:Mark:=⟨⟨#[97,108,98,97]⟩,⟨#[114,111,115,97]⟩,[],1,false⟩
def T7:Mark:=⟨⟨#[98,101,108,97]⟩,⟨#[114,111,115,101]⟩,[],3,false⟩
def qo:Mark:=⟨⟨#[99,111,114,97]⟩,⟨#[97,115,111,114]⟩,[],2,false⟩
def R6:Mark:=⟨⟨#[100,111,114,97]⟩,⟨#[114,104,111,115,97]⟩,[],9,false⟩
def exC:Case where
 table:=dJ
 rules:=[⟨1,90,3,1⟩,⟨2,100,5,2⟩,⟨3,70,6,6⟩]
 new:=vB
 marks:=[rN,T7,qo,R6]
 kin:=[4,5,3,9]
def exA:Mark:=⟨⟨#[97]⟩,⟨#[]⟩,[101,203],0,false⟩
def exB:Mark:=⟨⟨#[98]⟩,⟨#[]⟩,[101,204,305],0,false⟩
def nv:dL dJ=0:=by decide+kernel
def yW:dB exC=0:=by decide+kernel
def QR:aT dJ.av [207,129,206,191,206,182,206,177]=[114,111,122,97]:=by decide+kernel
def OS:bL dJ 0 [114,104,111,115,97]=[114,111,115,97]:=by decide+kernel
def LN:bz dJ 0 vB rN=75:=by decide+kernel
def LP:bz dJ 3 vB qo=75:=by decide+kernel
def LQ:bz dJ 5 exA exB=60:=by decide+kernel
def nw:bV exA=0/\bV exB=0/\bV vB=0/\bV rN=0/\bV qo=0:=by decide+kernel
def LS:bc exC=[⟨0,0,100⟩,⟨1,1,100⟩]:=by decide+kernel
def LU:exC.rules.map (ig exC qo 3)=[⟨0,90,0⟩,⟨0,100,2⟩,⟨0,0,3⟩]:=by decide+kernel
def LV:exC.rules.length=3/\(exC.rules.map (ig exC R6 9))[0]? =some ⟨1,0,0⟩:=by decide+kernel
def OT:kj [114,111,122,97] [114,111,115,101]=[(2,2,115),(3,2,101)]:=by unfold kj;rw[bf,UG (by decide+kernel),UG (by decide+kernel),UG (by decide+kernel),UG (by decide)];rw[bf,UG (by decide+kernel),UG (by decide+kernel),UG (by decide+kernel),UG (by decide)];rw[bf,UG (by decide+kernel),UG (by decide+kernel),UG (by decide+kernel),UH (by decide)];rw[bf,UG (by decide+kernel),UG (by decide+kernel),UG (by decide+kernel),UH (by decide)];rw[bf];rfl
def LW:kj [97,98] [98,97]=[(0,0,98),(1,1,0)]:=by unfold kj;rw[bf,UG (by decide+kernel),UH (by decide+kernel)];rw[bf,UG (by decide+kernel),UG (by decide+kernel),UG (by decide+kernel),UG (by decide)];rw[bf,bf];rfl
def uJ:OkT dJ:=by constructor;simp[dJ];decide;simp[dJ];intro x a p b;simp only[dJ,U8,Vf,Vh]at a;subst a;simp only[U8,Vf,Vh]at b;rcases b with rfl|rfl<;>decide;simp[dJ];simp[dJ];simp[dJ]
def vC:OkC exC:=by constructor;exact uJ;constructor<;>simp[exC,vB]<;>decide;intro m a;(simp only[exC,U8,Vf,Vh]at a;rcases a with rfl|rfl|rfl|rfl<;>(constructor<;>simp[rN,T7,qo,R6]<;>decide));decide;decide;decide;simp[exC];simp[exC]
end Go.Proofs
namespace Go.Proofs
open Go.Tm Go.RowKit
variable {fs:Array Func} (L:bR fs)
def ae.xB{w w'}(h:ae w w'){p}(d:w.heap.size<=p.block)(v):ae w (w'.setCell p v):=λb c e f a=>(Below.heap_setCell w' p v b (by have:=(UO.1 a).1;omega)).trans (h b c e f a)
def mD{B e k v n xs w w'}(h:w.ownsRow B e k v n xs)(b:Below w.heap.size w w'):w'.ownsRow B e k v n xs:=by refine⟨h.1,?_⟩;obtain c|⟨g,cap,a,d,f,i,j⟩:=h.2;exact .inl c;exact .inr ⟨g,cap,a,d,f,ae.below b g _ _ _ i,j⟩
def xC{w w'}(h:Below w.drew.heap.size w.drew w'):ae w w':=λb c e f a=>ae.below (w:=w.drew) h b c e f a
def Km{w w' o}(h:Below ((w.alloc o).drew).heap.size ((w.alloc o).drew) w'):ae w w':=(ae.alloc w o).trans (xC h)
def Ko{w w':x6}{cs e}(h:Below ((w.alloc (.cells cs e)).drew).heap.size ((w.alloc (.cells cs e)).drew) w'):w'.heap[w.heap.size]? =some (.cells cs e):=(h.block w.heap.size (by show w.heap.size<(w.alloc (.cells cs e)).heap.size;simp)).trans Vm
def Kp{w w' cs e}(h:Below ((w.alloc (.cells cs e)).drew).heap.size ((w.alloc (.cells cs e)).drew) w'):Below w.heap.size w w':=((Below.refl w.heap.size w).alloc (UI _) (.cells cs e)).drew.trans (h.mono (by show w.heap.size<=(w.alloc (.cells cs e)).heap.size;simp))
def nL:((Tryz.prog).info? 66).map (λi=>(i.zero,i.size,i.bytes))=some (some (.agg #[.i 0,.i 0,.i 0]),3,24):=by kernel_rfl
def MZ(fs):((Qs fs).info? 66).map (λi=>(i.zero,i.size,i.bytes))=some (some (.agg #[.i 0,.i 0,.i 0]),3,24):=nL
def bg{B e k v n xs w w'}(h:w.ownsRow B e k v n xs)(b:ae w w'):w'.ownsRow B e k v n xs:=by refine⟨h.1,?_⟩;obtain c|⟨g,cap,a,d,f,i,j⟩:=h.2;exact .inl c;exact .inr ⟨g,cap,a,d,f,b g _ _ _ i,j⟩
def Ri{B v l}{w:x6}(h:w.ownsRow B 66 3 v l.length (bD l)){j}(b:j<l.length):∃g cap,v=.slice (some ⟨g,0,none⟩) l.length cap/\w.cell? ⟨g,j*3,none⟩=some (.i l[j].mark)/\w.cell? ⟨g,j*3+1,none⟩=some (.i l[j].eB)/\w.cell? ⟨g,j*3+2,none⟩=some (.i l[j].level):=by have a:=h;obtain⟨_,i⟩|⟨g,cap,c,rfl,_⟩:=h.2;omega;obtain⟨d,e,f⟩:=Eo l j b;exact⟨g,cap,rfl,(a.cellAt (j*3) (by omega)).trans d,(a.cellAt (j*3+1) (by omega)).trans e,(a.cellAt (j*3+2) (by omega)).trans f⟩
def eE(b o j):(⟨b,o,none⟩:Addr).add j=⟨b,o+j,none⟩:=by unfold Addr.add;split;rename_i h;(have:j=0:=by simpa using h);subst this;rfl;rfl
def Ck{w b x y z e f}(h:w.heap[b]? =some (.cells #[.i x,.i y,.i z] e f)):Src w 3 (some ⟨b,0,none⟩) 1 [.i x,.i y,.i z]:=.some _ _ _ rfl λj u a=>by have:=cell_of_heap h j u (by simpa using a);rw[eE,UR];exact this
def Jv(w:x6)(x y z):Src (w.alloc (.cells #[.i x,.i y,.i z] 66)) 3 (some ⟨w.heap.size,0,none⟩) 1 [.i x,.i y,.i z]:=Ck (e:=66) (f:=(0,0)) Vm
def sq{x y z}:∀u∈([.i x,.i y,.i z]:List Zj),u.oneCell'=true:=by intro u a;simp only[U8,Vf,Vh]at a;rcases a with rfl|rfl|rfl<;>rfl
def M4{base g cap j l w}(h:w.ownsRow base 66 3 (.slice (some ⟨g,0,none⟩) l.length cap) l.length (bD l))(b:j<=l.length):Src w 3 (some ⟨g,0,none⟩) j (bD (l.take j)):=by (refine .some _ _ _ (by rw[iI,VT,Nat.min_eq_left b]) λi u a=>?_;rw[G9]at a;have c:i<j*3:=by have:=(Vt.1 a).1;rw[VT]at this;omega);rw[List.getElem?_take_of_lt c]at a;rw[eE,UR];exact(h.cellAt i (by omega)).trans a
def M6{base g cap j l w}(h:w.ownsRow base 66 3 (.slice (some ⟨g,0,none⟩) l.length cap) l.length (bD l))(b:j<=l.length):Src w 3 (some ⟨g,j*3,none⟩) (l.length-j) (bD (l.drop j)):=by (refine .some _ _ _ (by rw[iI,UY]) λi u a=>?_;rw[G8,XL]at a;have c:j*3+i<l.length*3:=by have:=(Vt.1 a).1;rw[iI]at this;omega);rw[eE];exact(h.cellAt (j*3+i) (by omega)).trans a
def jO(l):∀u∈bD l,u.oneCell'=true:=by intro u a;obtain⟨n,rfl⟩:=tX l u a;rfl
def su(a:x6)(x y z:Int):let E:Obj:=.cells #[] 66
 let b:Obj:=.cells #[.i x,.i y,.i z] 66
 ((a.alloc E).drew.ownsRow a.heap.size 66 3 (.slice (some ⟨a.heap.size,0,none⟩) 0 0) 0 []/\Below a.heap.size a (a.alloc E).drew)/\
 (((a.alloc E).alloc b).drew.ownsRow a.heap.size 66 3 (.slice (some ⟨a.heap.size,0,none⟩) 0 0) 0 []/\Below a.heap.size a ((a.alloc E).alloc b).drew/\((a.alloc E).alloc b).drew.heap[a.heap.size+1]? =some b)/\
 (((a.alloc b).alloc E).drew.ownsRow a.heap.size 66 3 (.slice (some ⟨a.heap.size+1,0,none⟩) 0 0) 0 []/\Below a.heap.size a ((a.alloc b).alloc E).drew/\((a.alloc b).alloc E).drew.heap[a.heap.size]? =some b):=by
 intro E b;have h:(a.alloc E).heap.size=a.heap.size+1:=by simp
 have i:(a.alloc b).heap.size=a.heap.size+1:=by simp
 have d:(a.alloc E).ownsRow a.heap.size 66 3 (.slice (some ⟨a.heap.size,0,none⟩) 0 0) 0 []:=World.ownsRow_made a #[] 0 (UI _) (UP _) rfl;have f:=World.ownsRow_made (base:=a.heap.size) (e:=66) (size:=3) (a.alloc b) #[] 0 (by omega) (UP _) rfl;rw[i]at f;have c:Below a.heap.size a (a.alloc E):=(Below.refl _ _).alloc (UI _) _;have g:Below a.heap.size a (a.alloc b):=(Below.refl _ _).alloc (UI _) _;refine⟨⟨d,c.drew⟩,⟨d.alloc _,(c.alloc c.size _).drew,?_⟩,⟨f,(g.alloc g.size _).drew,?_⟩⟩
 .have:=Vm (xs:=(a.alloc E).heap) (x:=b)
  rw[h]at this;exact this
 .have:=Below.heap_alloc (a.alloc b) E a.heap.size (by omega)
  exact this.trans Vm
def sx{w w':x6}{row k o}(h:w.grownBy w' row)(b:w.heap[k]? =some o)(a:row≠some k):w'.heap[k]? =some o:=(h.block k (UO.1 b).1 (U4 a)).trans b
def sC{w:x6}{base a e size v n xs}(h:w.ownsRow base e size v n xs)(i:a<=base):w.ownsRow a e size v n xs:=by refine⟨h.1,?_⟩;obtain c|⟨g,cap,b,d,j,f⟩:=h.2;exact .inl c;exact .inr ⟨g,cap,b,d,by omega,f⟩
def Aq(l:List Hit)(j h):bD (l.take j++h::l.drop j)=bD (l.take j)++[.i h.mark,.i h.eB,.i h.level]++bD (l.drop j):=by rw[Cj,V5];rfl
def xD(l:List Hit)(j h)(a:j<=l.length):(l.take j++h::l.drop j).length=j+1+(l.length-j):=by rw[U6,VT,UM,UY];omega
def eV(base:Nat)(w:x6)(v:Zj)(l:List Hit):Prop:=w.ownsRow base 66 3 v l.length (bD l)/\(l=[]->v=.slice none 0 0)
def xE{K:Nat->Prop}{sc:Zq}{c:Case}(w:x6)(hc:bF K w sc c)(ok:OkC c):Calls (Qs fs) 77 #[.agg sc] w λe w'=>∃v,e=.returned v/\eV w.heap.size w' v (bc c)/\Below w.heap.size w w':=by
 have e70:=e70 L;have SK:=SK L;have SL:=SL L;have cX:=ok.PK;have dt:=ok.mv;have cH:=λk (hk:k<c.marks.length) d (t:ae w d)=>Rg L k d (hc.stays t) ok hk;have cB:=λi j r1 l1 r2 l2 G hj d (t:ae w d)=>MU L (c:=c) i j r1 l1 r2 l2 d (hc.stays t) G hj;obtain⟨v0,v1,v2,vr,vf,vm,vk,rfl,ht,hr,hf,hm,cY⟩:=hc;obtain⟨ck,cr,rfl,lr,dw,_,gr⟩:=hr;obtain⟨cl,cm,rfl,lm,dy,_,gm⟩:=hm;obtain⟨w1,ag⟩:=ex (w.alloc (.cells #[v0,v1,v2,.slice ck c.rules.length cr,.string c.new.name,.string c.new.word,vf,.i c.new.day,.bool c.new.known,.slice cl c.marks.length cm,vk] 60));have S1:ae w w1:=by rw[ag];exact ae.alloc _ _
 have B1:Below w.heap.size w w1:=by rw[ag];exact aH _ _
 have ct:∀i v,(#[v0,v1,v2,.slice ck c.rules.length cr,.string c.new.name,.string c.new.word,vf,.i c.new.day,.bool c.new.known,.slice cl c.marks.length cm,vk]:Zq)[i]? =some v->w1.cell? ⟨w.heap.size,i,none⟩=some v:=λi v h=>by rw[ag];exact aC w _ 60 i v h
 obtain⟨N,hN⟩:=ex (w.heap.size);have T:=λd (t:ae w1 d) i v h=>t.cell (ct i v h);rw[<-hN]at T;have a7:=λ(r:ja) (m:Mark) (vx:Zj) d (t:ae w d) (a8:OkM m) (hx:az K 1 cT d vx m.aP)=>Ah L (m1:=#[.string c.new.name,.string c.new.word,vf,.i c.new.day,.bool c.new.known]) (m2:=#[.string m.name,.string m.word,vx,.i m.day,.bool m.known]) (one:=c.new) (two:=m) r.kind d (ht.stays t) ok.table ⟨vf,rfl,hf.ints t⟩ ⟨_,rfl,hx⟩ ok.new a8;have Y:=nK c cX;have ak:=qy c;go_enter (n77 L),Tryz.ntmps77;go_wp2;rw[<-ag,<-hN];clear ag hN ct ht hf cY;go_loopw [3,4] (λo s wr=>∃(k:Nat) (vF:Zj),k<=c.marks.length/\s=.i k/\vF=o/\eV w.heap.size wr vF (j8 c k)/\ae w1 wr/\Below w.heap.size w wr) (λo s _=>c.marks.length-(intOf s).toNat);case atStart=>exact⟨0,_,UP _,rfl,rfl,⟨World.ownsRow_nil _ _ _ _,λ_=>rfl⟩,ae.refl _,B1⟩
 case round=>
  obtain⟨k,vF,hk,rfl,rfl,hF,n,Z⟩:=hrel;have u0:=T wr n 0 _ rfl;have u1:=T wr n 1 _ rfl;have u2:=T wr n 2 _ rfl;have u3:=T wr n 3 _ rfl;have u4:=T wr n 4 _ rfl;have u5:=T wr n 5 _ rfl;have u6:=T wr n 6 _ rfl;have u7:=T wr n 7 _ rfl;have u8:=T wr n 8 _ rfl;have u9:=T wr n 9 _ rfl;have cn:=T wr n 10 _ rfl;have HW:Hid _:=(⟨n,Z⟩:ae w1 wr/\Below w.heap.size w wr)
  have HF:=jj hF;obtain an|hge:=UK k c.marks.length
  .have cK:=cH k an wr (S1.trans n);obtain⟨hz,hn⟩|⟨r,hr,hz,hn⟩:=uT c k an (by omega)
   .rw[hz]at cK;have HN:Hid _:=oQ c k hn;clear hn hz cH cB a7 T S1 B1 n Z gr gm hF Y ak;go_wp2_with (go_at_call 130;refine cK.mono ?_;rintro e w3 ⟨rfl,f⟩);refine⟨⟨k+1,vF,by omega,by go_num,rfl,?_,HW.o.1.trans (ae.below f),HW.o.2.trans (f.mono HW.o.2.size)⟩,by simp[intOf];omega⟩;rw[HN.o];exact⟨mD HF.o.1 f,HF.o.2⟩
   rw[hz]at cK;(have HN:Hid _:=oS c k _ hn;have a8:=ok.marks _ (US an);obtain⟨bm,om,rfl,x0,x1,⟨fm,x2,xf⟩,x3,x4⟩:=gm k an;obtain⟨br,ro,rfl,y0,y1,y2,y3⟩:=gr r hr;have c0:=S1.trans n;clear hn hz cH T B1 n Z gr gm hF;go_upto_region 7 with((go_at_call 130;refine cK.mono ?_;rintro e w3 ⟨rfl,f⟩)));(have S3:ae w1 w3:=HW.o.1.trans (ae.below f);have B3:Below w.heap.size w w3:=HW.o.2.trans (f.mono HW.o.2.size);have cp:eV w.heap.size w3 vF (j8 c k):=⟨mD HF.o.1 f,HF.o.2⟩);(have t0:=(ae.below f).cell u0;have t1:=(ae.below f).cell u1;have t2:=(ae.below f).cell u2;have t3:=(ae.below f).cell u3;have t4:=(ae.below f).cell u4;have t5:=(ae.below f).cell u5;have t6:=(ae.below f).cell u6;have t7:=(ae.below f).cell u7;have t8:=(ae.below f).cell u8;have t9:=(ae.below f).cell u9;have aa:=(ae.below f).cell cn;have J:=S1.trans S3;have ba:=xf.ints J;have ab:=λd (t:ae w3 d)=>a7 c.rules[r] c.marks[k] fm d (J.trans t) a8 (ba.ints t);obtain⟨m,cq⟩:=ex (c.marks[k]);obtain⟨rl,cv⟩:=ex (c.rules[r]);rw[<-cq]at x0 x1 x3 x4 a8 ab HN ba;rw[<-cv]at y0 ab HN;have x0:=J.cell x0;have x1:=J.cell x1;have x2:=J.cell x2;have x3:=J.cell x3;have x4:=J.cell x4;have y0:=J.cell y0;clear u0 u1 u2 u3 u4 u5 u6 u7 u8 u9 cn cq cv y1 y2 y3 a7 xf f HW HF;obtain⟨lv,cw⟩:=ex (bz c.table rl.kind c.new m);rw[<-cw]at ab HN;clear cw;have b6:=jj cp;have bk:Hid _:=(⟨S3,B3⟩:ae w1 w3/\Below w.heap.size w w3));(have c1:=jj S1;have cx:=jj ba;clear cp S3 B3 S1 J c0 ba;have ea:(r:Int)<(c.rules.length:Int):=by omega);(have eb:(k:Int)<(c.marks.length:Int):=by omega);obtain⟨cy,cf,rfl,lf,ec,kf,gf⟩:=cx.o;clear gf kf cx;go_cut [6]from 9 to 67 (λs6 wx=>∃H:Nat,s6=.pointer (some ⟨H,0,none⟩)/\w3.heap.size<=H/\wx.cell? ⟨H,0,none⟩=some (.i k)/\wx.cell? ⟨H,1,none⟩=some (.i r)/\wx.cell? ⟨H,2,none⟩=some (.i lv)/\Below w3.heap.size w3 wx)
   case first=>
    (have F:∀d,ae w3 d->d.cell? ⟨N,0,none⟩=some v0/\d.cell? ⟨N,1,none⟩=some v1/\d.cell? ⟨N,2,none⟩=some v2/\d.cell? ⟨N,3,none⟩=some (.slice (some ⟨br,ro,none⟩) c.rules.length cr)/\d.cell? ⟨br,ro+r*4,none⟩=some (.i rl.kind)/\d.cell? ⟨N,4,none⟩=some (.string c.new.name)/\d.cell? ⟨N,5,none⟩=some (.string c.new.word)/\d.cell? ⟨N,6,none⟩=some vf/\d.cell? ⟨N,7,none⟩=some (.i c.new.day)/\d.cell? ⟨N,8,none⟩=some (.bool c.new.known)/\d.cell? ⟨N,9,none⟩=some (.slice (some ⟨bm,om,none⟩) c.marks.length cm)/\d.cell? ⟨bm,om+k*5,none⟩=some (.string m.name)/\d.cell? ⟨bm,om+k*5+1,none⟩=some (.string m.word)/\d.cell? ⟨bm,om+k*5+2,none⟩=some (.slice cy m.aP.length cf)/\d.cell? ⟨bm,om+k*5+3,none⟩=some (.i m.day)/\d.cell? ⟨bm,om+k*5+4,none⟩=some (.bool m.known):=λd t=>⟨t.cell t0,t.cell t1,t.cell t2,t.cell t3,t.cell y0,t.cell t4,t.cell t5,t.cell t6,t.cell t7,t.cell t8,t.cell t9,t.cell x0,t.cell x1,t.cell x2,t.cell x3,t.cell x4⟩);have n0:=World.new_ne w3 _ t0;have n1:=World.new_ne w3 _ t1;have n2:=World.new_ne w3 _ t2;have n3:=World.new_ne w3 _ t3;have n4:=World.new_ne w3 _ y0;have n5:=World.new_ne w3 _ t4;have n6:=World.new_ne w3 _ t5;have n7:=World.new_ne w3 _ t6;have n8:=World.new_ne w3 _ t7;have n9:=World.new_ne w3 _ t8;have n10:=World.new_ne w3 _ t9;have n11:=World.new_ne w3 _ x0;have n12:=World.new_ne w3 _ x1;have n13:=World.new_ne w3 _ x2;have n14:=World.new_ne w3 _ x3;have n15:=World.new_ne w3 _ x4
    go_region_held3 (λw'=>w'.cell? ⟨N,0,none⟩=some v0/\w'.cell? ⟨N,1,none⟩=some v1/\w'.cell? ⟨N,2,none⟩=some v2/\w'.cell? ⟨N,3,none⟩=some (.slice (some ⟨br,ro,none⟩) c.rules.length cr)/\w'.cell? ⟨br,ro+r*4,none⟩=some (.i rl.kind)/\w'.cell? ⟨N,4,none⟩=some (.string c.new.name)/\w'.cell? ⟨N,5,none⟩=some (.string c.new.word)/\w'.cell? ⟨N,6,none⟩=some vf/\w'.cell? ⟨N,7,none⟩=some (.i c.new.day)/\w'.cell? ⟨N,8,none⟩=some (.bool c.new.known)/\w'.cell? ⟨N,9,none⟩=some (.slice (some ⟨bm,om,none⟩) c.marks.length cm)/\w'.cell? ⟨bm,om+k*5,none⟩=some (.string m.name)/\w'.cell? ⟨bm,om+k*5+1,none⟩=some (.string m.word)/\w'.cell? ⟨bm,om+k*5+2,none⟩=some (.slice cy m.aP.length cf)/\w'.cell? ⟨bm,om+k*5+3,none⟩=some (.i m.day)/\w'.cell? ⟨bm,om+k*5+4,none⟩=some (.bool m.known)) (first|exact F _ (λ_ _ _ _ h=>h)|exact F _ (by assumption)|exact F _ ((by assumption:ae w3 _).trans (ae.alloc _ _))|exact F _ (ae.alloc w3 _)|go_keep|exact F _ ((((by assumption:ae w3 _).xB (p:=⟨_,_,none⟩) (UI _) _).xB (p:=⟨_,_,none⟩) (UI _) _).xB (p:=⟨_,_,none⟩) (UI _) _))
     (first|(go_at_call 70;refine(ab w3.drew (λ_ _ _ _ h=>h)).mono ?_;rintro e w4 ⟨rfl,O⟩;have c5:ae w3 w4:=xC O;have ao:Below w3.heap.size w3 w4:=(Below.refl _ w3).drew.trans O;clear O;dsimp only)|(go_at_call 70;refine(ab ((w3.alloc (.cells #[.i 0,.i 0,.i 0] 66)).drew) (ae.alloc w3 (.cells #[.i 0,.i 0,.i 0] 66))).mono ?_;rintro e w4 ⟨rfl,O⟩;have c5:ae w3 w4:=Km O;have U:=Ko O;have ao:=Kp O;have q0:=cell_of_heap U 0 _ rfl;have q1:=cell_of_heap U 1 _ rfl;have q2:=cell_of_heap U 2 _ rfl;have g0:=frozen_of_heap U 0;have g1:=frozen_of_heap U 1;have g2:=frozen_of_heap U 2;clear O U;dsimp only))
    (all_goals (go_wp2_with fail;go_meet));exact⟨_,rfl,ao.size,aC w4 _ 66 0 _ rfl,aC w4 _ 66 1 _ rfl,aC w4 _ 66 2 _ rfl,ao.alloc ao.size _⟩;exact⟨_,rfl,UI _,by simp[go_sem, *],by simp[go_sem, *],by simp[go_sem, *],((ao.setCell (p:=⟨w3.heap.size,0,none⟩) (UI _) _).setCell (p:=⟨w3.heap.size,1,none⟩) (UI _) _).setCell (p:=⟨w3.heap.size,2,none⟩) (UI _) _⟩
   case rest=>
    (obtain⟨H,rfl,hH,h0,h1,h2,Bc⟩:=hcut;have Sc:=ae.below Bc;have hF:eV w.heap.size wc vF (j8 c k):=⟨mD b6.o.1 Bc,b6.o.2⟩);(have b7:=Y k hk;have c6:=ak k;obtain⟨l,hl⟩:=ex (j8 c k);rw[<-hl]at hF HN b7 c6;have BC:Hid _:=(⟨bk.o.2.trans (Bc.mono bk.o.2.size),bk.o.1.trans Sc⟩:Below w.heap.size w wc/\ae w1 wc));replace t0:=Sc.cell t0;replace t1:=Sc.cell t1;replace t2:=Sc.cell t2;replace t3:=Sc.cell t3;replace t4:=Sc.cell t4;replace t5:=Sc.cell t5;replace t6:=Sc.cell t6;replace t7:=Sc.cell t7;replace t8:=Sc.cell t8;replace t9:=Sc.cell t9;replace aa:=Sc.cell aa;clear cK b6 hl bk Bc ab x0 x1 x2 x3 x4 y0 Sc;have bo:=jj hF
    (go_upto_block 2 with fail);go_cut [7]from 40 to 54 (λs7 wx=>∃j:Nat,j<=l.length/\s7=.i j/\(∀i (G:i<l.length),i<j->aV c l[i] ⟨k,r,lv⟩=true)/\(∀hj:j<l.length,aV c l[j] ⟨k,r,lv⟩=false)/\ae wc wx/\Below w.heap.size w wx)
    case first=>
     (go_wp2_with fail);(go_loopw [7] (λs wi=>∃j:Nat,j<=l.length/\s=.i j/\(∀i (G:i<l.length),i<j->aV c l[i] ⟨k,r,lv⟩=true)/\ae wc wi/\Below w.heap.size w wi) (λs _=>l.length-(intOf s).toNat));case atStart=>exact⟨0,UP _,rfl,λi G h=>by omega,ae.refl _,BC.o.1⟩
     case round=>
      (obtain⟨j,hj,rfl,ad,b,b8⟩:=hrel;have M:Hid _:=(⟨ad,b,b8⟩:(∀i (G:i<l.length),i<j->aV c l[i] ⟨k,r,lv⟩=true)/\ae wc wr/\Below w.heap.size w wr));have b9:=λi' r' Q ca d (t:ae wr d)=>cB i' k r' Q r lv ca an d (ae.trans c1.o (BC.o.2.trans (b.trans t)));have HO:=bg bo.o.1 b;obtain cz|hjg:=UK j l.length
      .obtain⟨i',r',Q,ca,ed,_,bs⟩:=b7 l[j] (US cz);(have V:=b9 i' r' Q ca;rw[<-bs]at V;obtain⟨g,cap,rfl,bx,b0,b1⟩:=Ri HO cz;rw[bs]at bx b0 b1 V;simp only[]at bx b0 b1;have cA:(j:Int)<(l.length:Int):=by omega);(have cC:=jj bs;have s0:=b.cell t0;have s1:=b.cell t1;have s2:=b.cell t2;have s3:=b.cell t3;have s4:=b.cell t4;have s5:=b.cell t5;have s6:=b.cell t6;have s7:=b.cell t7;have s8:=b.cell t8;have s9:=b.cell t9;have cD:=b.cell aa;have d0:=b.cell h0;have d1:=b.cell h1;have d2:=b.cell h2;clear ad b b8 b9 bs HO hF bo h0 h1 h2 t0 t1 t2 t3 t4 t5 t6 t7 t8 t9 aa;have cb:Hid _:=(⟨M.o.2.1,M.o.2.2⟩:ae wc wr/\Below w.heap.size w wr));have z0:=λx:al w wr=>And.intro (x.cell s0)<|And.intro (x.cell s1)<|And.intro (x.cell s2)<|And.intro (x.cell s3)<|And.intro (x.cell s4)<|And.intro (x.cell s5)<|And.intro (x.cell s6)<|And.intro (x.cell s7)<|And.intro (x.cell s8)<|And.intro (x.cell s9)<|And.intro (x.cell cD)<|And.intro (x.cell d0)<|And.intro (x.cell d1)<|And.intro (x.cell d2)<|And.intro (x.cell bx)<|And.intro (x.cell b0)<|x.cell b1;unfold nI at V;simp only[]at V;obtain⟨bb,cd⟩:=ex (aV c ⟨i',r',Q⟩ ⟨k,r,lv⟩);rw[<-cd]at V;have qB:∀x:al w wr,Calls (Qs fs) 131 _ x.val λe w'=>e=.returned (.bool bb)/\∃y:al w wr,w'=y.val:=λx=>al.calls (V x.val x.st);have cF:=jj cd;clear cd V s0 s1 s2 s3 s4 s5 s6 s7 s8 s9 cD d0 d1 d2 bx b0 b1;go_wp2;haveI cG:Nonempty (al w wr):=⟨⟨wr,ae.refl _,cb.o.2⟩⟩
       cases bb with
       |true=>(refine aQ (w0:=w) (w1:=wr) (by kernel_rfl) (by kernel_rfl) (ae.refl _) cb.o.2 ?_;repeat (go_big_quiet_step ((go_at_call 131;exact qB _))));(refine wpQuiet_nil ?_;rintro wz ⟨⟨_,Sz,Bz⟩,rfl⟩;have SB:Hid _:=(⟨Sz,Bz⟩:ae wr wz/\Below w.heap.size w wz));clear qB cG Sz Bz z0;go_wp2;refine⟨⟨j+1,by omega,by go_num,λi G ee=>?_,M.o.2.1.trans SB.o.1,SB.o.2⟩,by simp[intOf];omega⟩;by_cases cI:i<j;exact M.o.1 i G cI;(obtain rfl:i=j:=by omega);rw[cC.o];exact cF.o.symm
       |false=>(refine aQ (w0:=w) (w1:=wr) (by kernel_rfl) (by kernel_rfl) (ae.refl _) cb.o.2 ?_;repeat (go_big_quiet_step ((go_at_call 131;exact qB _))));(refine wpQuiet_nil ?_;rintro wz ⟨⟨_,Sz,Bz⟩,rfl⟩;have SB:Hid _:=(⟨Sz,Bz⟩:ae wr wz/\Below w.heap.size w wz));clear qB cG Sz Bz z0;go_wp2;go_meet;refine⟨j,hj,rfl,M.o.1,λcL=>?_,M.o.2.1.trans SB.o.1,SB.o.2⟩;rw[cC.o];exact cF.o.symm
      (obtain⟨A,cap,rfl⟩:∃A cap,vF=.slice A l.length cap:=by obtain⟨rfl,h0⟩|⟨g,cap,c7,rfl,_⟩:=HO.2;exact⟨_,_,by rw[h0]⟩;exact⟨_,_,rfl⟩);(have cA:decide ((j:Int)<(l.length:Int))=false:=UN (by omega);have ef:decide (j<l.length)=false:=UN (by omega);have c8:Hid (j=l.length):=(by omega:j=l.length));clear ad b b8 b9 HO hF bo h0 h1 h2 t0 t1 t2 t3 t4 t5 t6 t7 t8 t9 aa cB;go_wp2;go_quiet (fail);go_wp2;go_meet;exact⟨j,hj,rfl,M.o.1,λcL=>absurd cL (by have:=c8.o;omega),M.o.2.1,M.o.2.2.gX _⟩
    case rest=>
     (obtain⟨j,hj,rfl,ad,cM,Sx,Bx⟩:=hcut;have b3:=En c ⟨k,r,lv⟩ l j hj ad cM;have HP:=jj b3;clear b3;clear t0 t1 t2 t3 t4 t5 t6 t7 t8 t9 aa cB b7 ad cM;have H0:=Sx.cell h0;have H1:=Sx.cell h1;have H2:=Sx.cell h2;have HO:=bg bo.o.1 Sx;have z:w.heap.size<=wc.heap.size:=Bx.size;have SX:Hid _:=(⟨Sx,Bx⟩:ae _ wc/\Below w.heap.size w wc));(clear Sx Bx hF h0 h1 h2;obtain⟨i0,G,B,C,D⟩:=info_parts (MZ fs);have a:∀d,Below wc.heap.size wc d->d.cell? ⟨H,0,none⟩=some (.i k)/\d.cell? ⟨H,1,none⟩=some (.i r)/\d.cell? ⟨H,2,none⟩=some (.i lv):=λd hb=>⟨(ae.below hb).cell H0,(ae.below hb).cell H1,(ae.below hb).cell H2⟩);have n0:=World.new_ne wc _ H0;obtain⟨rfl,c9⟩|⟨g,cap,c7,rfl,hg,dc,eg,ei,dd,dm⟩:=HO.2
     .obtain rfl:=Vx c9;(obtain rfl:j=0:=by simpa using hj);go_upto_region 11 with fail;go_cut [8]from 55 to 67 (λs8 wx=>∃Q,Q=s8/\wx.ownsRow wc.heap.size 66 3 Q 1 [.i k,.i r,.i lv]/\Below wc.heap.size wc wx)
      case first=>
       obtain⟨⟨oA,bA⟩,⟨oB,bB,hB⟩,⟨oC,bC,hC⟩⟩:=su wc k r lv;have R:0+0+1<=maxLen:=by unfold maxLen;omega
       go_region_held3 (λw'=>w'.cell? ⟨H,0,none⟩=some (.i k)/\w'.cell? ⟨H,1,none⟩=some (.i r)/\w'.cell? ⟨H,2,none⟩=some (.i lv)) (first|exact a _ (Below.refl _ _).drew|exact a _ bA|exact a _ bB|exact a _ bC|exact a _ (((Below.refl _ _).alloc (UI _) _).drew)|exact a _ hB2|exact a _ (hB1.alloc hB1.size _)|exact a _ hB1)
        (first|(refine bN (P:=Qs fs) (.tmp 55) (.tmp 58) 62 (by rfl) wc.heap.size 66 i0 _ 3 24 Tryz.underlying62 G B C D rfl (by decide) _ 0 [] (by rfl) oA none 0 0 [] (by rfl) .nil (λu hu=>by cases hu) (UP _) (by omega) (bA).size (by rfl) ?_;intro v1 wA E q S;have hB1:Below wc.heap.size wc wA:=(bA).grown q (bA).size (dS oA))|(refine bN (P:=Qs fs) (.tmp 55) (.tmp 58) 62 (by rfl) wc.heap.size 66 i0 _ 3 24 Tryz.underlying62 G B C D rfl (by decide) _ 0 [] (by rfl) oB none 0 0 [] (by rfl) .nil (λu hu=>by cases hu) (UP _) (by omega) (bB).size (by rfl) ?_;intro v1 wA E q S;have hB1:Below wc.heap.size wc wA:=(bB).grown q (bB).size (dS oB);have ar:=sx q hB (by simp[Value.ownBlock]))|(refine bN (P:=Qs fs) (.tmp 55) (.tmp 58) 62 (by rfl) wc.heap.size 66 i0 _ 3 24 Tryz.underlying62 G B C D rfl (by decide) _ 0 [] (by rfl) oC none 0 0 [] (by rfl) .nil (λu hu=>by cases hu) (UP _) (by omega) (bC).size (by rfl) ?_;intro v1 wA E q S;have hB1:Below wc.heap.size wc wA:=(bC).grown q (bC).size (dS oC);have ar:=sx q hC (by simp[Value.ownBlock]))|(refine bN (P:=Qs fs) (.tmp 59) (.tmp 61) 62 (by rfl) wc.heap.size 66 i0 _ 3 24 Tryz.underlying62 G B C D rfl (by decide) v1 (0+0) ([]++[]) (by rfl) (E.alloc _) (some ⟨wA.heap.size,0,none⟩) 1 1 [.i k,.i r,.i lv] (by rfl) (Jv wA _ _ _) sq R (by omega) (hB1.alloc hB1.size _).size (by rfl) ?_;intro v2 wB ax W ay;have hB2:Below wc.heap.size wc wB:=(hB1.alloc hB1.size _).grown W (hB1.alloc hB1.size _).size (dS E))|(refine bN (P:=Qs fs) (.tmp 59) (.tmp 61) 62 (by rfl) wc.heap.size 66 i0 _ 3 24 Tryz.underlying62 G B C D rfl (by decide) v1 (0+0) ([]++[]) (by rfl) E (some ⟨_,0,none⟩) 1 1 [.i k,.i r,.i lv] (by rfl) (Ck ar) sq R (by omega) hB1.size (by rfl) ?_;intro v2 wB ax W ay;have hB2:Below wc.heap.size wc wB:=hB1.grown W hB1.size (dS E)))
       all_goals
        go_wp2_with fail
        go_meet;exact⟨v2,rfl,ax,hB2⟩
      case rest=>(obtain⟨Q,rfl,aK,af⟩:=hcut;have X:Hid (World.ownsRow wc _ 66 3 Q 1 [.i k,.i r,.i lv]):=aK;have I:=jj af;have aM:1+0<=maxLen:=by unfold maxLen;omega);clear aK af HO a H0 H1 H2 n0;go_wp2_with (at_builtin;refine bW (P:=Qs fs) (.tmp 63) (.tmp 66) 62 (by rfl) _ 66 i0 _ 3 24 Tryz.underlying62 G B C D rfl (by decide) Q 1 _ (by rfl) X.o none 0 0 [] (by rfl) .nil (λu hu=>by cases hu) aM (by omega) I.o.size (by rfl) ?_;intro v5 w5 aR a1 b4);have B5:=I.o.grown a1 I.o.size (dS X.o);refine⟨⟨k+1,v5,by omega,by go_num,rfl,⟨?_,?_⟩,BC.o.2.trans (SX.o.1.trans (ae.below B5)),SX.o.2.trans (B5.mono z)⟩,by simp[intOf];omega⟩;rw[HN.o];exact sC aR z;intro h;rw[HN.o]at h;cases h
     go_upto_region 11 with fail;go_cut [8]from 55 to 67 (λs8 wx=>∃Q,Q=s8/\wx.ownsRow wc.heap.size 66 3 Q (j+1) (bD (l.take j)++[.i k,.i r,.i lv])/\Below wc.heap.size wc wx)
     case first=>
      (have ek:(j:Int)<=(cap:Int):=by omega);(obtain⟨⟨oA,bA⟩,⟨oB,bB,hB⟩,⟨oC,bC,hC⟩⟩:=su wc k r lv;have a6:∀d,Below wc.heap.size wc d->Src d 3 (some ⟨g,0,none⟩) j (bD (l.take j)):=λd hb=>M4 (bg HO (ae.below hb)) hj;have cg:0+j<=maxLen:=by unfold maxLen;omega);have R:0+j+1<=maxLen:=by unfold maxLen;omega
      go_region_held3 (λw'=>w'.cell? ⟨H,0,none⟩=some (.i k)/\w'.cell? ⟨H,1,none⟩=some (.i r)/\w'.cell? ⟨H,2,none⟩=some (.i lv)) (first|exact a _ (Below.refl _ _).drew|exact a _ bA|exact a _ bB|exact a _ bC|exact a _ (((Below.refl _ _).alloc (UI _) _).drew)|exact a _ hB2|exact a _ (hB1.alloc hB1.size _)|exact a _ hB1)
       (first|(refine bN (P:=Qs fs) (.tmp 55) (.tmp 58) 62 (by rfl) wc.heap.size 66 i0 _ 3 24 Tryz.underlying62 G B C D rfl (by decide) _ 0 [] (by rfl) oA (some ⟨g,0,none⟩) j cap (bD (l.take j)) (by rfl) (a6 _ bA) (jO _) cg (by omega) (bA).size (by rfl) ?_;intro v1 wA E q S;have hB1:Below wc.heap.size wc wA:=(bA).grown q (bA).size (dS oA))|(refine bN (P:=Qs fs) (.tmp 55) (.tmp 58) 62 (by rfl) wc.heap.size 66 i0 _ 3 24 Tryz.underlying62 G B C D rfl (by decide) _ 0 [] (by rfl) oB (some ⟨g,0,none⟩) j cap (bD (l.take j)) (by rfl) (a6 _ bB) (jO _) cg (by omega) (bB).size (by rfl) ?_;intro v1 wA E q S;have hB1:Below wc.heap.size wc wA:=(bB).grown q (bB).size (dS oB);have ar:=sx q hB (by simp[Value.ownBlock]))|(refine bN (P:=Qs fs) (.tmp 55) (.tmp 58) 62 (by rfl) wc.heap.size 66 i0 _ 3 24 Tryz.underlying62 G B C D rfl (by decide) _ 0 [] (by rfl) oC (some ⟨g,0,none⟩) j cap (bD (l.take j)) (by rfl) (a6 _ bC) (jO _) cg (by omega) (bC).size (by rfl) ?_;intro v1 wA E q S;have hB1:Below wc.heap.size wc wA:=(bC).grown q (bC).size (dS oC);have ar:=sx q hC (by simp[Value.ownBlock]))|(refine bN (P:=Qs fs) (.tmp 59) (.tmp 61) 62 (by rfl) wc.heap.size 66 i0 _ 3 24 Tryz.underlying62 G B C D rfl (by decide) v1 (0+j) ([]++bD (l.take j)) (by rfl) (E.alloc _) (some ⟨wA.heap.size,0,none⟩) 1 1 [.i k,.i r,.i lv] (by rfl) (Jv wA _ _ _) sq R (by omega) (hB1.alloc hB1.size _).size (by rfl) ?_;intro v2 wB ax W ay;have hB2:Below wc.heap.size wc wB:=(hB1.alloc hB1.size _).grown W (hB1.alloc hB1.size _).size (dS E))|(refine bN (P:=Qs fs) (.tmp 59) (.tmp 61) 62 (by rfl) wc.heap.size 66 i0 _ 3 24 Tryz.underlying62 G B C D rfl (by decide) v1 (0+j) ([]++bD (l.take j)) (by rfl) E (some ⟨_,0,none⟩) 1 1 [.i k,.i r,.i lv] (by rfl) (Ck ar) sq R (by omega) hB1.size (by rfl) ?_;intro v2 wB ax W ay;have hB2:Below wc.heap.size wc wB:=hB1.grown W hB1.size (dS E)))
      all_goals
       go_wp2_with fail
       go_meet;exact⟨v2,rfl,(by simpa using ax),hB2⟩
     case rest=>
      (obtain⟨Q,rfl,aK,af⟩:=hcut;have cR:=bg HO (ae.below af);have X:Hid (World.ownsRow wc _ 66 3 Q (j+1) (bD (l.take j)++[.i k,.i r,.i lv])):=aK;have cS:=M6 cR hj;have dr:(j:Int)<=(l.length:Int):=by omega);(have ds:(l.length:Int)<=(cap:Int):=by omega);(have aM:j+1+(l.length-j)<=maxLen:=by unfold maxLen;omega);have dn:=jj cS;have I:=jj af;clear aK cS af HO cR a H0 H1 H2 n0 dc dd dm;obtain hjcap|hjcap:=UK j cap
      ·(go_wp2_with (at_builtin;refine bW (P:=Qs fs) (.tmp 63) (.tmp 66) 62 (by rfl) _ 66 i0 _ 3 24 Tryz.underlying62 G B C D rfl (by decide) Q (j+1) _ (by rfl) X.o (some ⟨g,j*3,none⟩) (l.length-j) (cap-j) (bD (l.drop j)) (by rfl) dn.o (jO _) aM (by omega) I.o.size (by rfl) ?_;intro v5 w5 aR a1 b4));have B5:=I.o.grown a1 I.o.size (dS X.o);refine⟨⟨k+1,v5,by omega,by go_num,rfl,⟨?_,?_⟩,BC.o.2.trans (SX.o.1.trans (ae.below B5)),SX.o.2.trans (B5.mono z)⟩,by simp[intOf];omega⟩;rw[HN.o,HP.o,Aq,xD _ _ _ hj];exact sC aR z;intro h;rw[HN.o]at h;have:=jw c ⟨k,r,lv⟩ l;rw[h]at this;simp at this
      (have dp:l.length-j=0:=by omega);(have ev:cap-j=0:=by omega);(have b2:j=cap:=by omega);(have b5:Src wc 3 (some ⟨g,0,none⟩) 0 (bD (l.drop j)):=by rw[Vn (by omega)];exact .some _ _ _ rfl λi u hu=>by cases hu);(have cU:=jj b5;have cV:j+1+0<=maxLen:=by unfold maxLen;omega);clear b5;subst b2;go_wp2_with (at_builtin;refine bW (P:=Qs fs) (.tmp 63) (.tmp 66) 62 (by rfl) _ 66 i0 _ 3 24 Tryz.underlying62 G B C D rfl (by decide) Q (j+1) _ (by rfl) X.o (some ⟨g,0,none⟩) (0) (0) (bD (l.drop j)) (by rfl) cU.o (jO _) cV (by omega) I.o.size (by rfl) ?_;intro v5 w5 aR a1 b4);have B5:=I.o.grown a1 I.o.size (dS X.o);refine⟨⟨k+1,v5,by omega,by go_num,rfl,⟨?_,?_⟩,BC.o.2.trans (SX.o.1.trans (ae.below B5)),SX.o.2.trans (B5.mono z)⟩,by simp[intOf];omega⟩;rw[HN.o,HP.o,Aq,xD _ _ _ hj];rw[dp];exact sC aR z;intro h;rw[HN.o]at h;have:=jw c ⟨k,r,lv⟩ l;rw[h]at this;simp at this
  clear n Z cH cB a7 T S1 B1 hF;obtain rfl:k=c.marks.length:=by omega
  go_wp2;go_ret;exact⟨_,rfl,HF.o,HW.o.2⟩
def fnV(b:Nat):Zj:=.func (.func 138) #[] #[.pointer (some ⟨b,0,none⟩)]
structure Cl(B:Nat)(w:x6)(v:Zj)(so:List Nat)(ps:List Pr2):Prop where
 own:w.ownsRow B 101 1 v so.length (so.map fnV)
 len:so.length=ps.length
 box:∀j (h:j<so.length) (h':j<ps.length),w.heap[so[j]]? =some (.cells #[.string ps[j].1,.string ps[j].2] 51 (0,0))
def PX:((Tryz.prog).info? 101).map (λi=>(i.zero,i.size,i.bytes))=some (some .nilFunc,1,8):=by kernel_rfl
def Kq(fs):((Qs fs).info? 101).map (λi=>(i.zero,i.size,i.bytes))=some (some .nilFunc,1,8):=PX
def Ar{w:x6}{B e k n:Nat}{v xs}(h:w.ownsRow B e k v n xs){b}(c:v.ownBlock=some b):∃a F,w.heap[b]? =some (.cells a e F):=by obtain⟨rfl,_⟩|⟨g,cap,a,rfl,f,d,_⟩:=h.2;cases c;cases c;exact⟨_,_,d⟩
def M7{w w'}(h:ae w w'){b c e F}(a:w.heap[b]? =some (.cells c e F)):b<w'.heap.size:=(UO.1 (h b c e F a)).1
def PY{K:Nat->Prop}{v0 v1 v2:Zj}{l:List jY}(k:Nat)(w:x6)(ht:az K 2 fH w v1 l)(hk:k<l.length)(hn:l[k].aX.length<=100):Calls (Qs fs) 112 #[.agg #[v0,v1,v2],.i k] w λe w'=>∃v so,e=.returned v/\Cl w.heap.size w' v so l[k].aX/\Below w.heap.size w w':=by
 obtain⟨i0,hi,V,W,X⟩:=info_parts (Kq fs);have aK:∀(fn:Fn) (first cap:Zq) (w:x6),(Instr.makeFunc fn first cap).run (Qs fs) w=.ok (.func fn first cap) w:=λ_ _ _ _=>rfl;obtain⟨w1,d⟩:=ex (w.alloc (.cells #[v0,v1,v2] 100));have Y:ae w w1:=by rw[d];exact ae.alloc _ _
 have Z:Below w.heap.size w w1:=by rw[d];exact aH _ _
 have ct:w1.cell? ⟨w.heap.size,1,none⟩=some v1:=by rw[d];exact aC w _ 100 1 _ rfl
 have aa:az K 2 fH w1 v1 l:=ht.stays Y λb b' o x e h=>by subst e;exact fH.carry (Carry.keep Y) b b o x rfl h
 obtain⟨ao,c,rfl,aM,hc,_,r⟩:=aa;obtain⟨b,n,rfl,_,vs,J,z⟩:=r k hk;have M:=z;obtain⟨ab,c2,rfl,A,aR,O,f⟩:=z;have HC:Hid (∀wr,ae w1 wr->∀j (hj:j<l[k].aX.length),∃b n,ab=some ⟨b,n,none⟩/\wr.cell? ⟨b,n+j*2,none⟩=some (.string l[k].aX[j].1)/\wr.cell? ⟨b,n+j*2+1,none⟩=some (.string l[k].aX[j].2)):=λwr hs j hj=>by obtain⟨b,n,e,h1,E⟩:=f j hj;exact⟨b,n,e,hs.cell h1,hs.cell E⟩
 obtain⟨ps,P⟩:=ex (l[k].aX);rw[<-P]at hn HC J A⊢;obtain⟨N,C⟩:=ex (w.heap.size);rw[<-C]at ct Z;have Q:Hid (Below N w w1/\w1.heap.size=N+1):=⟨Z,by rw[d,C];simp⟩
 have HN:=jj C;have ad:Hid (∃cc,w1.heap[N]? =some (.cells cc 100)):=⟨_,by rw[d,C];exact World.alloc_heap_new w _⟩
 have a1:(k:Int)<(l.length:Int):=by omega
 rw[<-C];clear f r O P M ht Y Z;go_enter (n112 L),Tryz.ntmps112;go_upto_region 1 with fail;rw[<-d,<-C];clear d C;go_wp2;go_loopw [5,16] (λo i wr=>∃(G:Zj) (j:Nat) (so:List Nat),G=o/\i=.i j/\j<=ps.length/\so.length=j/\wr.ownsRow (N+1) 101 1 G j (so.map fnV)/\(∀q (h:q<so.length) (S:q<ps.length),wr.heap[so[q]]? =some (.cells #[.string ps[q].1,.string ps[q].2] 51 (0,0)))/\ae w1 wr/\Below N w wr) (λo i _=>ps.length-(intOf i).toNat);case atStart=>exact⟨_,0,[],rfl,rfl,UP _,rfl,World.ownsRow_nil _ _ _ _,λq h=>absurd h (UX _),ae.refl _,Q.o.1⟩
 case round=>
  obtain⟨G,j,so,rfl,rfl,hj,y,a,g,p,m⟩:=hrel;obtain af|hge:=UK j ps.length
  .obtain⟨b2,ay,rfl,x0,x1⟩:=HC.o wr p j af;(have a6:(j:Int)<(ps.length:Int):=by omega);(obtain⟨pp,D⟩:=ex (ps[j]);rw[<-D]at x0 x1;have HP:=jj D;have HS:Hid (so.length=j/\wr.ownsRow (N+1) 101 1 G j (so.map fnV)/\(∀q (h:q<so.length) (S:q<ps.length),wr.heap[so[q]]? =some (.cells #[.string ps[q].1,.string ps[q].2] 51 (0,0)))/\ae w1 wr/\Below N w wr):=⟨y,a,g,p,m⟩);have a7:N+1<=wr.heap.size:=ad.o.elim λ_ h=>M7 p h;clear D y g p m;go_wp2_with (at_builtin;refine wpList_append_own _ rfl _ _ 175 rfl (N+1) 101 i0 .nilFunc 1 8 Tryz.underlying175 hi V W X rfl (by decide) _ _ _ rfl ((a.alloc _).alloc _) ⟨_,0,none⟩ 1 1 [fnV wr.heap.size] rfl rfl ?c1 ?c2 ?c3 ?c4 ?c5 ?_);case c1=>
    intro q u H;rw[eE,UR];have h:=aC (wr.alloc (.cells #[.string pp.1,.string pp.2] 51)) #[fnV wr.heap.size] 101 q u (by
     match q,H with
     |0,H=>exact H)
    rw[World.size_alloc]at h;exact h
   (case c2=>intro u H;simp at H;subst H;rfl);(case c3=>unfold maxLen;omega);(case c4=>omega);(case c5=>simp;omega);intro v' w4 s t _;have T:=jj t;have ag:=jj s;clear a t s;go_wp2;refine⟨⟨_,j+1,so++[wr.heap.size],rfl,by go_num,by omega,by rw[U6,HS.o.1];rfl,by rw[WN];exact ag.o,?_,?_,?_⟩,by simp[intOf];omega⟩;intro q h S;(have ak:∀B c e F,wr.heap[B]? =some (.cells c e F)->e≠101->G.ownBlock≠some B:=λB c e F hB he hv=>by obtain⟨an,F',E⟩:=Ar HS.o.2.1 hv;rw[hB]at E;cases E;exact he rfl);by_cases U:q<so.length;rw[List.getElem_append_left U];have I:=HS.o.2.2.1 q U S;have hl:=(UO.1 I).1;rw[T.o.block _ (by simp;omega) (λe=>ak _ _ _ _ I (by decide) e.symm),Below.heap_alloc _ _ _ (by simp;omega),Below.heap_alloc _ _ _ hl];exact I;(obtain rfl:q=so.length:=by rw[U6]at h;simp at h;omega);(rw[List.getElem_append_right (UI _)];simp only[Nat.sub_self,W7];have R:ps[so.length]=pp:=by rw[HP.o];simp only[HS.o.1]);rw[R,T.o.block _ (by simp;omega) (λe=>by obtain⟨an,F',E⟩:=Ar HS.o.2.1 e.symm;have:=(UO.1 E).1;omega),Below.heap_alloc _ _ _ (by simp)];exact World.alloc_heap_new wr _;intro bk c e F I;have hl:=(UO.1 I).1;have hw:=HS.o.2.2.2.1 bk c e F I;have ar:=(UO.1 hw).1;rw[T.o.block _ (by simp;omega) (λe=>by have:=dS HS.o.2.1 _ e.symm;have:=Q.o.2;omega),Below.heap_alloc _ _ _ (by simp;omega),Below.heap_alloc _ _ _ ar];exact hw;exact(((HS.o.2.2.2.2).alloc (by omega) _).alloc (by simp;omega) _).grown T.o (by simp;omega) (λq U=>by have:=dS HS.o.2.1 q U;omega)
  have ax:j=ps.length:=by omega
  subst ax;clear A J;have HS:Hid (so.length=ps.length/\wr.ownsRow (N+1) 101 1 G ps.length (so.map fnV)/\(∀q (h:q<so.length) (S:q<ps.length),wr.heap[so[q]]? =some (.cells #[.string ps[q].1,.string ps[q].2] 51 (0,0)))/\ae w1 wr/\Below N w wr):=⟨y,a,g,p,m⟩
  clear y a g p m;go_wp2;go_ret;exact⟨_,so,rfl,⟨by rw[HS.o.1];exact Cg HS.o.2.1 (by omega),HS.o.1,HS.o.2.2.1⟩,HS.o.2.2.2.2⟩
def mZ{w:x6}{B e k n:Nat}{v xs}(h:w.ownsRow B e k v n xs):∃a cap,v=.slice a n cap:=by obtain⟨rfl,b⟩|⟨g,cap,c,rfl,_⟩:=h.2;exact⟨none,0,by rw[b]⟩;exact⟨_,_,rfl⟩
def Cl.at{B w b cap a d}(h:Cl B w (.slice b a.length cap) a d){j}(f:j<a.length):∃g,b=some ⟨g,0,none⟩/\w.cell? ⟨g,j,none⟩=some (fnV a[j]):=by have i:=h.own;obtain⟨_,l⟩|⟨g,c,k,e,_⟩:=h.own.2;omega;cases e;refine⟨g,rfl,(i.cellAt j (by omega)).trans ?_⟩;rw[VL,Vb f];rfl
def Jw{K:Nat->Prop}{v0 v1 v2:Zj}{t:Table}(k:Nat)(s:Zk)(w:x6)(ht:IsTable K w v0 v1 v2 t)(H:OkT t)(hs:s.size<=300)(hk:k<t.aF.length)(hm:iH w):Calls (Qs fs) 64 #[.agg #[v0,v1,v2],.i k,.string s] w λe w'=>e=.returned (.string (bs (bL t k s.data.toList)))/\Below w.heap.size w w':=by
 have e53:=e53 L;have SD:=SD L;have SO:=SO L;have n:Hid (bL t k s.data.toList=GN t.aF[k].aX (aT t.av s.data.toList)):=tQ hk s.data.toList;have I:=db H s.data.toList;rw[<-Lib.size_eq]at I;obtain⟨w1,b⟩:=ex (w.alloc (.cells #[v0,v1,v2] 100));have Z:ae w w1:=by rw[b];exact ae.alloc _ _
 have X:Below w.heap.size w w1:=by rw[b];exact aH _ _
 have r:=ht.stays Z;have J:=hm.stays Z;have ct:∀i v,(#[v0,v1,v2]:Zq)[i]? =some v->w1.cell? ⟨w.heap.size,i,none⟩=some v:=λi v h=>by rw[b];exact aC w _ 100 i v h
 have u:=ct 0 v0 rfl;have x:=ct 1 v1 rfl;have z:=ct 2 v2 rfl;have A:=rq L (v1:=v1) (v2:=v2) s w1 r.1 H.lets (by omega);have c:=λwx (h:ae w1 wx)=>PY L (v0:=v0) (v2:=v2) k wx (r.stays h).2.1 hk (by have:=H.Jq t.aF[k] (US _);omega);have M:Hid (∀p∈t.aF[k].aX,1<=p.1.size/\p.1.size<=3/\p.2.size<=p.1.size):=H.aX t.aF[k] (US _);have O:t.aF[k].aX.length<=5:=H.Jq _ (US _);obtain⟨ps,P⟩:=ex (t.aF[k].aX);rw[<-P]at c n M O;have Q:Hid ((bs (aT t.av s.data.toList)).size<=900/\bs (aT t.av s.data.toList)=bs (aT t.av s.data.toList)):=⟨by rw[da];omega,rfl⟩
 obtain⟨y0,R⟩:=ex (aT t.av s.data.toList);rw[<-R]at A n Q;obtain⟨N,Y⟩:=ex (w.heap.size);rw[<-Y]at u x z X⊢;have aa:Hid (Below N w w1):=X;have HN:=jj Y;have l:Hid (N<=w1.heap.size):=by have:=X.size;rw[Hid];omega
 have HM:Hid (iH w1):=J;clear P R I ht r hm J Z X ct;go_enter (n64 L),Tryz.ntmps64;go_upto_region 1 with fail;rw[<-b,<-Y];clear b Y;go_wp2_with (first|(go_at_call 53;refine A.mono ?_;clear A;rintro e w2 ⟨rfl,m⟩;have q:=c w2 (ae.below m);clear c;have S:=(ae.below m).cell u;have T:=(ae.below m).cell x;have U:=(ae.below m).cell z)|(go_at_call 112;refine q.mono ?_;clear q;rintro e w3 ⟨v,B,rfl,f,C⟩;obtain⟨ao,cap,rfl⟩:=mZ f.own));have HL:Hid (B.length=ps.length):=f.len;have HB:Hid (ae w1 w3/\Below N w w3):=⟨(ae.below m).trans (ae.below C),(aa.o.trans (m.mono l.o)).trans (C.mono (by have:=m.size;have:=l.o;omega))⟩
 have HR:=jj f;clear m C f u x z S T U;go_loopw [7,17] (λo i wr=>∃(j:Nat) (y:Bs),j<=B.length/\i=.i j/\o=.string (bs y)/\(bs y).size<=900/\ae w3 wr/\Below N w wr/\GN (ps.drop j) y=bL t k s.data.toList) (λo i _=>B.length-(intOf i).toNat);case atStart=>exact⟨0,_,UP _,rfl,rfl,Q.o.1,ae.refl _,HB.o.2,n.o.symm⟩
 case round=>
  obtain⟨j,y,hj,rfl,rfl,hy,a,d,G⟩:=hrel;have ad:B.length<=5:=by have:=HL.o;omega
  have HX:=jj G;have HW:Hid _:=(⟨a,d⟩:ae w3 wr/\Below N w wr)
  obtain V|hge:=UK j B.length
  ·(have D:j<ps.length:=by have:=HL.o;omega);(obtain⟨g,rfl,E⟩:=HR.o.at V;have E:=a.cell E;have F:=a _ _ _ _ (HR.o.box j V D);obtain⟨z1,z2,z3⟩:=M.o ps[j] (US D);have ab:=j6 z3 y;rw[<-da,<-da]at ab;have cR:=MY L (bs y) ps[j] B[j] wr (by omega) (HM.o.stays (HB.o.1.trans a)) z1 (by omega) (cell_of_heap F 0 _ rfl) (cell_of_heap F 1 _ rfl);rw[dz]at cR;have af:(j:Int)<(B.length:Int):=by omega);unfold fnV at E;clear G a d F;go_wp2_with (go_at_call 138;refine cR.mono ?_;rintro e w4 ⟨rfl,W⟩);refine⟨⟨j+1,_,by omega,by go_num,rfl,by omega,HW.o.1.trans (ae.below W),HW.o.2.trans (W.mono (by have:=HW.o.2.size;have:=HN.o;omega)),?_⟩,by simp[intOf];omega⟩;rw[<-HX.o,zZ _ _ D]
  clear G a d;go_wp2;go_ret;have G:=HX.o;rw[Vn (by have:=HL.o;omega)]at G;exact⟨by rw[<-G];rfl,HW.o.2⟩
end Go.Proofs

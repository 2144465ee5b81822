import Derived.OwnWalkIn
import Derived.TacticsInMore
import Derived.LoopNIn
import Derived.LoopIn
import Derived.WalkMore
import Derived.Shelf.Strings.Builder1
import Derived.Shelf.Strings.Replace
import Derived.RangeFuncLeaves
import Derived.Shelf.Strings.Split
import Derived.Shelf.Strings.Builder2
import Derived.Lib.ReplaceLaws
import Derived.Deep.LoopGhost
import Derived.Lib.Replace
import Derived.Test.YtaglpcmhopjebaaGreatDoorS15
set_option linter.all false
set_option maxRecDepth 100000
set_option maxHeartbeats 20000000
namespace Go.Proofs
open Go.Tm Go.RowKit
variable {fs:Array Func} (L:bM fs)
def dk{w w':World}{b o}(h:w'.heap[b]? =w.heap[b]?):w'.cell? ⟨b,o,none⟩=w.cell? ⟨b,o,none⟩:=by unfold World.cell?;rw[show w'.heap[(⟨b,o,none⟩:Addr).block]? =w.heap[(⟨b,o,none⟩:Addr).block]? from h]
def vt{a}(h:0<a.size):(gY a none).1.size=1:=by show(a.extract 0 1).size=1;rw[U7];omega
def Gb(a ob p)(c:1<=p.1.size):ep a.data.toList ob p=if(gY a ob).2.2<(p.1.size:Int)/\p.1.data.toList.isPrefixOf a.data.toList=true then some p else ob:=by (unfold ep;have:decide ((ob.elim 0 λq=>q.1.size)<p.1.size)=decide ((gY a ob).2.2<(p.1.size:Int)):=by cases ob with|none=>show decide (0<p.1.size)=decide ((0:Int)<(p.1.size:Int));rw[TD (by omega),TD (by omega)]|some q=>show decide (q.1.size<p.1.size)=decide ((q.1.size:Int)<(p.1.size:Int));by_cases h:q.1.size<p.1.size;rw[TD h,TD (by omega)];rw[Tz h,Tz (by omega)]);rw[this];by_cases b:(gY a ob).2.2<(p.1.size:Int)<;>cases d:p.1.data.toList.isPrefixOf a.data.toList<;>simp[b]
def Gc(W:World)(a:Nat):Nat:=match W.cell? ⟨a,0,none⟩with
 |some (.string s)=>s.size
 |_=>0
def zO{W a s}(h:W.cell? ⟨a,0,none⟩=some (.string s)):Gc W a=s.size:=by unfold Gc;rw[h]
def Jw{a:List Pr2}(e:∀p∈a,1<=p.1.size)(cur)(f:0<cur.size):eA a cur.data.toList=(gY cur (bN a cur.data.toList)).2.1::eA a (cur.extract (gY cur (bN a cur.data.toList)).1.size cur.size).data.toList/\1<=(gY cur (bN a cur.data.toList)).1.size/\(gY cur (bN a cur.data.toList)).1.size<=cur.size:=by (have c:=drop_cons cur 0 f;rw[Ub]at c;have g:∀k,(cur.extract k cur.size).data.toList=cur.data.toList.drop k:=λk=>by rw[Lib.extract_data];exact Vt (by rw[TM,Lib.size_eq];exact Tw _));cases d:bN a cur.data.toList with|some p=>have i:=e p (gV d);have b:=(UM.1 (og d)).length_le;rw[<-Lib.size_eq,<-Lib.size_eq]at b;refine⟨?_,i,b⟩;rw[g];rw[c]at d⊢;exact F3 e d|none=>have j:=vt f;refine⟨?_,by omega,by omega⟩;rw[g,j];rw[c]at d;have h:=Dg d;rw[<-c]at h;have l:cur.data.toList.drop 1=cur.data.toList.drop (0+1):=rfl;have m:cur.extract 0 1=⟨#[cur[0]]⟩:=qO (by rw[Lib.extract_data,Ub,c];rfl);(have n:cur.data.toList.head?.any bd=bd cur[0]:=by rw[c];rfl);rw[h,l];show _=(if cur.data.toList.head?.any bd=true then cur.extract 0 1 else⟨#[]⟩)::_;rw[m,n]
def L6{K v0 ls}(n s g m G w)(aa:g<w.heap.size)(H:m<w.heap.size)(ab:g≠G)(I:m≠G)(M:m≠g)(N:∀b,K b->b<w.heap.size/\b≠g/\b≠G) (c:aD K 2 dv w v0 ls) (a:w.rowIs g 9 1 (λ_=>.string s)) (d:w.cell? ⟨m,0,none⟩=some v0) (ok:∀p∈ls,1<=p.1.size) (hs:s.size<=1000) (l) (J:List ByteArray->World->Prop) (W) (hW:Below w.heap.size w W) (hJ:∀pre W W',Stp W.heap.size g W W'->J pre W->J pre W') (hY:∀pre x O,J pre O->pre++[x]<+:eA ls s.data.toList->YieldAt Fence.wide n (Qs fs) l #[.string x] O λe W'=>e=.returned (.bool true)/\J (pre++[x]) W'/\Stp w.heap.size G O W') (h0:J [] W):Calls (Qs fs) 132 #[.func (.yield l) #[] #[],.pointer (some ⟨g,0,none⟩),.pointer (some ⟨m,0,none⟩)] W λe W'=>(∃v,e=.returned v)/\J (eA ls s.data.toList) W':=by
 have e91:=e91 L;have OA:=OA L;have HH:Hid (g<w.heap.size/\m<w.heap.size/\g≠G/\m≠G/\m≠g/\(∀b,K b->b<w.heap.size/\b≠g/\b≠G)):=⟨aa,H,ab,I,M,N⟩
 have HJ:Hid (∀pre W W',Stp W.heap.size g W W'->J pre W->J pre W'):=hJ;have HY:Hid (∀pre x O,J pre O->pre++[x]<+:eA ls s.data.toList->YieldAt Fence.wide n (Qs fs) l #[.string x] O λe W'=>e=.returned (.bool true)/\J (pre++[x]) W'/\Stp w.heap.size G O W'):=hY;have ad:Hid (∀p∈ls,1<=p.1.size):=ok;have HS:Hid (aD K 2 dv W v0 ls/\W.rowIs g 9 1 (λ_=>.string s)/\W.cell? ⟨m,0,none⟩=some v0/\J [] W/\w.heap.size<=W.heap.size):=⟨c.blocks λb P=>hW.block b (N b P).1,a.of_block (hW.block g aa),(dk (hW.block m H)).trans d,h0,hW.size⟩
 clear hJ hY ok h0 c a d hW N;go_enter (n132 L),Tryz.ntmps132;go_wp2;go_loopw [4] (λs4 wr=>∃(pre:List ByteArray) (cur:ByteArray),aD K 2 dv wr v0 ls/\wr.rowIs g 9 1 (λ_=>.string cur)/\wr.cell? ⟨m,0,none⟩=some v0/\J pre wr/\w.heap.size<=wr.heap.size/\pre++eA ls cur.data.toList=eA ls s.data.toList/\cur.size<=1000) (λs4 wr=>Gc wr g);case atStart=>exact⟨[],s,HS.out.1,HS.out.2.1,HS.out.2.2.1,HS.out.2.2.2.1,HS.out.2.2.2.2,rfl,hs⟩
 case round=>
  clear HS;obtain⟨pre,cur,c,a,d,hj,t,f,hc⟩:=hrel;have C:Hid (aD K 2 dv wr v0 ls/\wr.rowIs g 9 1 (λ_=>.string cur)/\J pre wr/\w.heap.size<=wr.heap.size/\pre++eA ls cur.data.toList=eA ls s.data.toList):=⟨c,a,hj,t,f⟩
  have hw:=a.cell (show 0<1 by omega);have Q:=a.frozen 0;clear c a hj t f;by_cases R:cur.size=0
  ·(have ar:cur.toList.isEmpty=true:=by rw[Lib.toList_data,fS];exact TD R);go_wp2
   (go_end0);refine⟨⟨_,rfl⟩,?_⟩;have h:=C.out.2.2.2.2;have hn:cur.data.toList=[]:=UT.1 (by rw[<-Lib.size_eq];exact R);rw[hn]at h;have h2:eA ls []=[]:=rfl;rw[h2,UH]at h;subst h;exact C.out.2.2.1
  have af:0<cur.size:=by omega
  have ar:cur.toList.isEmpty=false:=by rw[Lib.toList_data,fS];exact Tz R
  have bb:(1:Int)<=(cur.size:Int):=by omega
  have S:∀wx,ap fs 91 #[.int .u8 (cur[0].toNat:Int)] wx (.bool (bd cur[0])):=λwx=>mX fs (n91 L) _ wx;have q:Hid ((gY cur none).1=cur.extract 0 1/\(gY cur none).2.1=(if bd cur[0]=true then cur.extract 0 1 else⟨#[]⟩)/\(gY cur none).2.2=0):=by refine⟨rfl,?_,rfl⟩;have hd:=drop_cons cur 0 af;rw[Ub]at hd;show(if cur.data.toList.head?.any bd=true then _ else _)=_;rw[hd];rfl
  obtain⟨z,D⟩:=ex (bd cur[0]);rw[<-D]at S q;clear D;go_wp2
  go_step3
  go_upto_if 15 with((go_at_call 91;refine(S _).mono ?_;clear S;rintro e w2 ⟨rfl,rfl⟩))
  go_cut [4,5]from 9 to 52 (λs4 s5 wx=>s4=.string (gY cur none).1/\s5=.string (gY cur none).2.1/\wx=w2)
  case first=>cases z with|true=>go_wp2;all_goals (go_meet;exact⟨by rw[q.out.1],by rw[q.out.2.1];simp,rfl⟩)|false=>go_wp2;all_goals (go_meet;exact⟨by rw[q.out.1],by rw[q.out.2.1];simp,rfl⟩)
  case rest=>
   obtain⟨rfl,rfl,rfl⟩:=hcut;have ax:Hid ((gY cur none).2.2=0):=q.out.2.2;clear q;obtain⟨ao,cc,rfl,ay,aM,a1,r⟩:=id C.out.1;clear ay aM a1;go_wp2
   (go_step3);go_wp2;go_loopw [21,4,5,6] (λT s4 s5 s6 wi=>∃(j:Nat) (ob:Option Pr2),j<=ls.length/\T=.int .i64 j/\s4=.string (gY cur ob).1/\s5=.string (gY cur ob).2.1/\s6=.int .i64 (gY cur ob).2.2/\bN (ls.take j) cur.data.toList=ob/\aD K 2 dv wi (.slice ao ls.length cc) ls/\wi.rowIs g 9 1 (λ_=>.string cur)/\wi.cell? ⟨m,0,none⟩=some (.slice ao ls.length cc)/\J pre wi/\w.heap.size<=wi.heap.size) (λT _ _ _ _=>ls.length-(intOf T).toNat);case atStart=>exact⟨0,none,TE _,rfl,rfl,rfl,by rw[ax.out],rfl,C.out.1,C.out.2.1,d,C.out.2.2.1,C.out.2.2.2.1⟩
   case round=>
    (clear hw Q d;obtain⟨j,ob,hj,rfl,rfl,rfl,rfl,U,c,a,d,E,t⟩:=hrel;have u:Hid _:=U;have HI:Hid (aD K 2 dv wr (.slice ao ls.length cc) ls/\wr.rowIs g 9 1 (λ_=>.string cur)/\wr.cell? ⟨m,0,none⟩=some (.slice ao ls.length cc)/\J pre wr/\w.heap.size<=wr.heap.size):=⟨c,a,d,E,t⟩);(have y:Hid (∀w',Below wr.heap.size wr w'->aD K 2 dv w' (.slice ao ls.length cc) ls/\w'.rowIs g 9 1 (λ_=>.string cur)/\w'.cell? ⟨m,0,none⟩=some (.slice ao ls.length cc)/\J pre w'/\w.heap.size<=w'.heap.size):=λw' h=>⟨c.blocks λb P=>h.block b (by have:=(HH.out.2.2.2.2.2 b P).1;omega),a.of_block (h.block _ (by have:=HH.out.1;omega)),(dk (h.block _ (by have:=HH.out.2.1;omega))).trans d,HJ.out _ _ _ (Stp.C6 h) E,by have:=h.size;omega⟩);have hw:=a.cell (show 0<1 by omega);have Q:=a.frozen 0;obtain V|hge:=Ty j ls.length
    .obtain⟨_,_,e',_,_,_,r⟩:=c;(cases e';obtain⟨b,bo,rfl,x0,x1⟩:=r j V;have hp:=ad.out ls[j] (TG V);have A:Hid _:=Gb cur ob ls[j] hp;have F:Hid _:=j7 ls j V cur.data.toList;obtain⟨pp,ag⟩:=ex (ls[j]);rw[<-ag]at x0 x1 A F;obtain⟨ah,B⟩:=ex ((gY cur ob).2.2);rw[<-B]at A⊢;have ak:Hid _:=B;have k:=λwx=>ot L cur pp.1 wx;have br:(j:Int)<(ls.length:Int):=by omega);have bs:∀o,(wr.alloc o).cell? ⟨g,0,none⟩=some (.string cur):=λo=>(a.alloc o).cell (show 0<1 by omega);clear ag U a E t r B hp;by_cases X:(pp.1.size:Int)<=ah
     ·(have HN:Hid (bN (ls.take (j+1)) cur.data.toList=ob):=by rw[Hid,F.out,u.out,A.out,Tu (by omega)]);clear k;go_wp2;refine⟨⟨j+1,ob,by omega,by go_num,rfl,rfl,by rw[ak.out],HN.out,?_⟩,by simp[intOf];omega⟩;exact y.out _ (by first|exact aJ _ _|exact(aJ _ _).fv _)
     have bk:decide ((pp.1.size:Int)<=ah)=false:=Tz X
     cases D:pp.1.data.toList.isPrefixOf cur.data.toList with
     |false=>(rw[D]at k;have HN:Hid (bN (ls.take (j+1)) cur.data.toList=ob):=by rw[Hid,F.out,u.out,A.out,Tu (by rw[D];simp)]);clear X D;go_wp2_with (go_at_call 133;refine(k _).mono ?_;clear k;rintro e w3 ⟨rfl,rfl⟩);refine⟨⟨j+1,ob,by omega,by go_num,rfl,rfl,by rw[ak.out],HN.out,?_⟩,by simp[intOf];omega⟩;exact y.out _ (by first|exact aJ _ _|exact(aJ _ _).fv _)
     |true=>(rw[D]at k;have HN:Hid (bN (ls.take (j+1)) cur.data.toList=some pp):=by rw[Hid,F.out,u.out,A.out,Tv ⟨by omega,D⟩]);clear X D;go_wp2_with (go_at_call 133;refine(k _).mono ?_;clear k;rintro e w3 ⟨rfl,rfl⟩);go_quiet (fail);go_wp2;refine⟨⟨j+1,some pp,by omega,by go_num,rfl,rfl,rfl,HN.out,?_⟩,by simp[intOf];omega⟩;exact y.out _ (by first|exact aJ _ _|exact(aJ _ _).fv _)
    (obtain rfl:j=ls.length:=by omega);(rw[Vj]at u;go_upto_region 11 with fail;have PN:=Jw ad.out cur af;rw[u.out]at PN;obtain⟨an,a6,a7⟩:=PN;have f:=C.out.2.2.2.2;rw[an]at f;obtain⟨x,hx⟩:=ex ((gY cur ob).2.1);obtain⟨fr,Y⟩:=ex ((gY cur ob).1);rw[<-hx,<-Y]at f⊢;rw[<-Y]at a6 a7;obtain⟨fn,tmps,assign,body,hy,hR⟩:=HY.out pre x wr HI.out.2.2.2.1 ⟨eA ls (cur.extract fr.size cur.size).data.toList,by rw[<-f,UG];rfl⟩;have HT:Hid ((pre++[x])++eA ls (cur.extract fr.size cur.size).data.toList=eA ls s.data.toList):=by rw[Hid,<-f,UG];rfl);(have bm:(fr.size:Int)<=(cur.size:Int):=by omega);clear U c a d E t an f hx Y hw Q;refine(wpIn_wide (n:=n+1)).1 ?_
    (gi_wp2);refine hR.mono ?_;rintro e W' ⟨rfl,a8,hS⟩;have Z:W'.rowIs g 9 1 (λ_=>.string cur):=HI.out.2.1.of_block (hS.block _ HH.out.1 HH.out.2.2.1);have ba:=Z.cell (show 0<1 by omega);have bx:=Z.frozen 0;clear hR hy
    (gi_wp2);go_wp2;simp(config:={zetaDelta:=true}) only [Exit.noGoto_normal,Exit.inBlock,Exit.then]
    (go_roundw);(case rel=>obtain⟨_,_,ab,I,M,N⟩:=HH.out;refine⟨pre++[x],cur.extract fr.size cur.size,HI.out.1.blocks λb P=>(Below.heap_setCell W' ⟨g,0,none⟩ _ b (N b P).2.1).trans (hS.block b (N b P).1 (N b P).2.2),(Z.set 0 _).congr λi hi=>?_,(dk (Below.heap_setCell W' ⟨g,0,none⟩ _ m M)).trans ((dk (hS.block m H I)).trans HI.out.2.2.1),HJ.out _ W' _ (Stp.setCell W' 0 _) a8,?_,HT.out,?_⟩;rw[Tv (by omega)];exact Tx HI.out.2.2.2.2 (Tx hS.size (Stp.setCell (n:=0) W' 0 _).size);rw[U7];omega);case measure=>rw[zO (C.out.2.1.cell (show 0<1 by omega)),zO (s:=cur.extract fr.size cur.size) (World.cell?_setCell_same' _ _ _ (by rw[ba];rfl)),U7];omega
end Go.Proofs
namespace Go.Proofs
open Go.Tm Go.RowKit Go.Shelf
variable {fs:Array Func} (L:bM fs)
def lV(fs:Array Func):Builder.Extra (Qs fs) tH where
 sizeBuilder:=(by kernel_rfl:(Tryz.prog.info? (tH.t 72)).map (·.size)=some 2)
 liesBuilder:=by kernel_rfl
 t5:=(aK _ _ _).trans Tryz.underlying5
 a5:=λw=>(A3 _ _ _ w).trans (Tryz.isAgg5 w)
 z5:=λw=>(vZ _ _ _ w).trans (Tryz.sizeOf5 w)
 v5:=λw=>(jr _ _ _ w).trans (Tryz.zeroValue5 w)
 infoByte:=(by kernel_rfl:(Tryz.prog.info? (tH.t 5)).map (λi=>(i.zero,i.size,i.bytes))=some (some (.int .u8 0),1,1))
 cellsByte:=by kernel_rfl
 sizeByte:=(by kernel_rfl:(Tryz.prog.info? (tH.t 5)).map (·.size)=some 1)
 neB5:=by decide
def gF(q:Prop)(b B:Nat)(bs:List Value)(w:World):Prop:=b<B/\∃p v,(p=.pointer none\/p=.pointer (some ⟨b,0,none⟩))/\w.heap[b]? =some (.cells #[p,v] 153 (0,0))/\w.ownsRow B 5 1 v bs.length bs/\(bs=[]->q\/v=.slice none 0 0)
def gF.keep{q}{b B:Nat}{bs:List Value}{w w':World}(h:gF q b B bs w)(d:∀k c e F,w.heap[k]? =some (.cells c e F)->(k=b\/B<=k)->w'.heap[k]? =some (.cells c e F)):gF q b B bs w':=by obtain⟨j,p,v,l,m,f,n⟩:=h;refine⟨j,p,v,l,d _ _ _ _ m (.inl rfl),⟨f.1,?_⟩,n⟩;obtain h|⟨g,cap,a,k1,i,o,r⟩:=f.2;exact .inl h;exact .inr ⟨g,cap,a,k1,i,d _ _ _ _ o (.inr i),r⟩
def Bi{w:World}{B B' e k v n xs}(h:w.ownsRow B' e k v n xs)(i:B<=B'):w.ownsRow B e k v n xs:=by refine⟨h.1,?_⟩;obtain b|⟨g,cap,a,c,j,d,f⟩:=h.2;exact .inl b;exact .inr ⟨g,cap,a,c,by omega,d,f⟩
def jf{q}(b B:Nat)(bs:List Value)(s:ByteArray)(w:World)(h:gF q b B bs w)(T:bs.length+s.size<=140737488355328)(hB:B<=w.heap.size):Calls (Qs fs) 94 #[.pointer (some ⟨b,0,none⟩),.string s] w λe w'=>e=.returned (.tuple #[.int .i64 s.size,.nilIface])/\gF q b B (bs++Lib.strCells s) w'/\Stp B b w w':=by (have OC:=OC L;have X:=lV fs;have m:Lays.n240 (Qs fs) tH:={(jP L).2.2 with});(obtain⟨Y,p,v,U,a,i,n⟩:=h;obtain⟨i0,Z,G,H,I⟩:=info_parts X.infoByte;have J:(Qs fs).info? 5=some i0:=Z;have aa:b<w.heap.size:=by omega);(have t:Calls (Qs fs) 134 #[.pointer (some ⟨b,0,none⟩)] w λe w'=>e=.returned (.tuple #[])/\w'.heap[b]? =some (.cells #[.pointer (some ⟨b,0,none⟩),v] 153 (0,0))/\Stp B b w w'/\w'.heap.size=w.heap.size/\∀k,k≠b->w'.heap[k]? =w.heap[k]? :=by obtain rfl|rfl:=U;have c:=Any.Builder_copyCheck_fresh m X.toX72 b w (by rw[Lib.cell_of_heap a];rfl) (by simp[World.shape?,a];rfl) (Lib.frozen_of_heap a 0);(refine c.mono ?_;rintro e w' ⟨rfl,rfl⟩;refine⟨rfl,?_,Stp.setCell _ _ _,by simp[World.setCell],λk V=>Below.heap_setCell w ⟨b,0,none⟩ _ k V⟩;have K:(w.heap.modify b λo=>match o with| .cells c e F=>.cells (c.setIfInBounds 0 (.pointer (some ⟨b,0,none⟩))) e F|o=>o)[b]? =some (.cells #[.pointer (some ⟨b,0,none⟩),v] 153 (0,0)):=by rw[Uo,a];simp);exact K;have c:=Any.Builder_copyCheck_used m X.toX72 b w (by rw[Lib.cell_of_heap a];rfl);refine c.mono ?_;rintro e w' ⟨rfl,rfl⟩;exact⟨rfl,a,Stp.refl _ _ _,rfl,λ_ _=>rfl⟩);(have M:v.ownBlock≠some b:=by intro e;have:=ey i b e;omega);clear U a;go_enter (n94 L),Tryz.ntmps94;go_wp2_with (go_at_call 134;refine t.mono ?_);(clear t;rintro e w1 ⟨rfl,u,x,W,y⟩;have j:w1.ownsRow B 5 1 v bs.length bs:=by refine⟨i.1,?_⟩;obtain h|⟨g,cap,l,k1,N,O,P⟩:=i.2;exact .inl h;exact .inr ⟨g,cap,l,k1,N,(y g (by omega)).trans O,P⟩);(have c1:w1.cell? ⟨b,1,none⟩=some v:=by rw[Lib.cell_of_heap u];rfl);(have z:b<w1.heap.size:=by omega);(go_wp2_with (at_builtin;refine Lib.wpList_append_own_string _ rfl _ _ 120 9 rfl B 5 i0 Tryz.underlying120 Tryz.underlying9 J G H I _ _ _ rfl j s rfl ?c3 ?c4 ?c5 ?_));(case c3=>unfold maxLen;omega);(case c4=>omega);(case c5=>omega);(intro v' w2 d f A;have Q:Hid _:=A;have R:Hid _:=n;clear A n;have r:w2.heap[b]? =some (.cells #[.pointer (some ⟨b,0,none⟩),v] 153 (0,0)):=by rw[f.block b z (λe=>M e.symm)];exact u);(have d1:w2.cell? ⟨b,1,none⟩=some v:=by rw[Lib.cell_of_heap r];rfl);(have f1:w2.frozen? ⟨b,1,none⟩=false:=Lib.frozen_of_heap r 1;obtain⟨C,D,cap,rfl⟩:∃C D cap,v'=.slice C D cap:=by obtain⟨S,_⟩|⟨g,cap,l,S,_⟩:=d.2;exact⟨_,_,_,S⟩;exact⟨_,_,_,S⟩);have E:Hid _:=f;clear f;go_wp2;(go_ret2);refine⟨rfl,⟨Y,.pointer (some ⟨b,0,none⟩),.slice C D cap,.inr rfl,?_,?_,?_⟩,?_⟩;(have K:(w2.heap.modify b λo=>match o with| .cells c e F=>.cells (c.setIfInBounds 1 (.slice C D cap)) e F|o=>o)[b]? =some (.cells #[.pointer (some ⟨b,0,none⟩),.slice C D cap] 153 (0,0)):=by rw[Uo,r];simp);exact K;rw[TR,Lib.strCells_length];refine⟨d.1,?_⟩;obtain h|⟨g,cap,l,k1,N,O,P⟩:=d.2;exact .inl h;exact .inr ⟨g,cap,l,k1,N,(Below.heap_setCell w2 ⟨b,1,none⟩ _ g (by show g≠b;omega)).trans O,P⟩;intro e;(obtain⟨e1,e2⟩:=List.append_eq_nil_iff.1 e;have e3:s.size=0:=by rw[<-Lib.strCells_length,e2];rfl);exact(R.out e1).imp id λe4=>Q.out.2 ⟨e4,by simpa using e3⟩;refine x.trans (Stp.trans ⟨E.out.os,E.out.tape,E.out.output,E.out.size,λk V _=>E.out.block k (by omega) (λe=>?_)⟩ (Stp.setCell _ _ _));have:=ey j k e.symm;omega
def Dw:nW.ntmps=14:=by kernel_rfl
def Bj{w w':World}{b:Nat}(h:Below b w w')(g:∀D,b<=D->w'.heap[D]? =w.heap[D]? \/∃c e F,w.heap[D]? =some (.cells c e F)):∀(D:Nat) (ds:Option (List Deferred)),w.heap[D]? =some (Go.Obj.deferred ds)->w'.heap[D]? =some (Go.Obj.deferred ds):=λD ds a=>by obtain d|hge:=Ty D b;exact(h.block D d).trans a;obtain f|⟨c,e,F,f⟩:=g D hge;exact f.trans a;rw[f]at a;cases a
def wS(b B:Nat)(l:List UInt8)(w:World)(h:gF False b B (Lib.byteCells l) w)(F:b<=w.heap.size):Calls (Qs fs) 95 #[.pointer (some ⟨b,0,none⟩)] w λe w'=>e=.returned (.string (bs l))/\Below b w w'/\∀(D:Nat) (ds:Option (List Deferred)),w.heap[D]? =some (Go.Obj.deferred ds)->w'.heap[D]? =some (Go.Obj.deferred ds):=by
 have X:=lV fs;have k:(Qs fs).follows .mixedOrders=true:=(jP L).1.mixed;obtain⟨N,p,v,O,i,a,d⟩:=h;cases l with
 |nil=>(have m:v=.slice none 0 0:=(d rfl).elim False.elim id;subst m;have n:=Lib.run_unsafeString_none (P:=Qs fs);have G:w.drew.cell? ⟨b,1,none⟩=some (.slice none 0 0):=by have:w.drew.heap[b]? =some (.cells #[p,.slice none 0 0] 153 (0,0)):=i;rw[Lib.cell_of_heap this];rfl);have o:(Builtin.unsafeSliceData_ #[120] qM #[.slice none 0 0]).run (Qs fs) w.drew=.ok (.pointer none) w.drew:=rfl;clear d;go_enter (n95 L),Dw;go_wp2;(go_region_o);all_goals (go_wp2;go_ret;exact⟨rfl,Below.drew (Below.refl b w),λD ds A=>A⟩)
 |cons x r=>
  obtain⟨l,q⟩:=ex (x::r);rw[<-q]at a⊢;have C:l≠[]:=by rw[q];simp
  clear q d;have s:l.length≠0:=by simpa using C
  rw[Lib.byteCells_length]at a;obtain⟨g,cap,c,rfl,H,t,I,u,y,f⟩:∃g cap c,v=.slice (some ⟨g,0,none⟩) l.length cap/\B<=g/\w.heap[g]? =some (.cells c 5 (0,0))/\l.length<=cap/\cap<=maxLen/\c.size=cap*1/\c.toList.take (l.length*1)=Lib.byteCells l:=by obtain⟨_,J⟩|⟨g,cap,c,m,r⟩:=a.2;exact absurd J s;exact⟨g,cap,c,m,r⟩
  have G:w.drew.cell? ⟨b,1,none⟩=some (.slice (some ⟨g,0,none⟩) l.length cap):=by have:w.drew.heap[b]? =some (.cells #[p,.slice (some ⟨g,0,none⟩) l.length cap] 153 (0,0)):=i;rw[Lib.cell_of_heap this];rfl
  have o:(Builtin.unsafeSliceData_ #[120] qM #[.slice (some ⟨g,0,none⟩) l.length cap]).run (Qs fs) w.drew=.ok (.pointer (some ⟨g,0,none⟩)) w.drew:=Lib.run_unsafeSliceData_row _ _ _ _ _ _ (by omega);have n:(Builtin.unsafeString_ #[203,3] 9 #[.pointer (some ⟨g,0,none⟩),.int .i64 l.length]).run (Qs fs) w.drew=.ok (.string ⟨l.toArray⟩) (w.drew.freeze ⟨g,0,none⟩ l.length):=by refine Lib.run_unsafeString_row w.drew 203 3 9 5 ((aK _ _ _).trans Tryz.underlying203) X.cellsByte g c.size (by have z:w.drew.heap[g]? =some (.cells c 5 (0,0)):=t;simp[World.shape?,z]) l C (by omega) (by unfold maxLen at u;omega) ?_;intro j x K;have:=a.cells (g:=g) rfl j (.int .u8 x.toNat) (by simp[Lib.byteCells,K]);exact this
  have E:Hid (Below b w (w.drew.freeze ⟨g,0,none⟩ l.length)):=Lib.below_freeze (Below.drew (Below.refl b w)) (p:=⟨g,0,none⟩) (by show b<=g;omega) _;have M:Hid _:=t;clear t a y f;go_enter (n95 L),Dw;go_wp2
  go_region_o
  all_goals (
   go_wp2;go_ret;refine⟨rfl,E.out,Bj E.out λD A=>?_⟩;by_cases e:D=g
   .subst e
    exact .inr ⟨_,_,_,M.out⟩
   .exact .inl (gO w.drew ⟨g,0,none⟩ _ D e))
end Go.Proofs
namespace Go.Proofs
open Go.Tm Go.RowKit Go.Shelf
variable {fs:Array Func} (L:bM fs)
attribute [local go_sem] Oper.semAt_some
def OR(v0 v1 v2:Value)(s:ByteArray)(w:World):Calls (Qs fs) 93 #[.agg #[v0,v1,v2],.string s] w λe w'=>e=.returned (.func (.func 132) #[] #[.pointer (some ⟨w.heap.size+1,0,none⟩),.pointer (some ⟨w.heap.size,0,none⟩)])/\w'=(w.alloc (.cells #[v0,v1,v2] 100)).alloc (.cells #[.string s] 9):=by have a:∀(fn:Fn) (first cap:Array Value) (w:World),(Instr.makeFunc fn first cap).run (Qs fs) w=.ok (.func fn first cap) w:=λ_ _ _ _=>rfl;go_enter (n93 L),Tryz.ntmps93;go_wp2;go_ret;exact⟨by simp,rfl⟩
def wT(x):Lib.strCells x=Lib.byteCells x.data.toList:=rfl
def yR(a b):Lib.byteCells a++Lib.byteCells b=Lib.byteCells (a++b):=by unfold Lib.byteCells;rw[Vk]
def Jx(a:List Pr2)(h:∀p∈a,1<=p.1.size/\p.1.size<=4/\p.2.size<=3)(s):(aS a s).length<=3*s.length:=rE a h _ s
def Dx{l}{xs:List ByteArray}(h:l<+:xs):(l.flatMap λx=>x.data.toList).length<=(xs.flatMap λx=>x.data.toList).length:=by obtain⟨t,rfl⟩:=h;rw[VM,TR];omega
def qT{K:Nat->Prop}{v0 v1 v2:Value}{ls:List Pr2}(s:ByteArray)(w:World)(q:aD K 2 dv w v0 ls)(V:∀p∈ls,1<=p.1.size/\p.1.size<=4/\p.2.size<=3)(r:s.size<=1000):ac fs 53 #[.agg #[v0,v1,v2],.string s] w (.string (bs (aS ls s.data.toList))):=by
 have e93:=e93 L;have e94:=e94 L;have e95:=e95 L;have Qe:=Qe L;refine callsIn_wide.1 (?_:CallsIn Fence.wide 5 _ _ _ _ _);refine callsIn_of_wp_marks (n53 L) rfl trivial ?_ rfl;simp only[Tryz.ntmps53,TU,TA,TN,Nat.reduceAdd,Nat.reduceSub,WJ,Array.replicate_zero,List.push_toArray,List.append_toArray,Vy,VN];have z:=λwx=>OR L v0 v1 v2 s wx
 gi_wp2_with (refine⟨trivial,?_⟩;gi_at_call 93;refine(callsIn_wide.2 (z _)).mono ?_;rintro e w3 ⟨rfl,rfl⟩)
 clear z;obtain⟨N,A⟩:=ex (w.heap.size);rw[<-A];obtain⟨P,n⟩:=ex (w.alloc (.cells #[v0,v1,v2] 100));obtain⟨B,j⟩:=ex (P.alloc (.cells #[.pointer none,.slice none 0 0] 153));obtain⟨y,g⟩:=ex (B.alloc (.cells #[v0,v1,v2] 100));obtain⟨W0,d⟩:=ex (y.alloc (.cells #[.string s] 9));rw[<-n,<-j,<-g,<-d];have Q:P.heap.size=N+1:=by rw[n,A];simp
 have sb:B.heap.size=N+2:=by rw[j];simp[Q]
 have sc:y.heap.size=N+3:=by rw[g];simp[sb]
 have sd:W0.heap.size=N+4:=by rw[d];simp[sc]
 have X:Below N w W0:=by rw[d,g,j,n];exact((((Below.refl N w).alloc (by omega) _).alloc (by simp;omega) _).alloc (by simp;omega) _).alloc (by simp;omega) _
 have C:W0.heap[N+1]? =some (.cells #[.pointer none,.slice none 0 0] 153 (0,0)):=by (have f:B.heap[N+1]? =some (.cells #[.pointer none,.slice none 0 0] 153 (0,0)):=by rw[j,<-Q];exact World.alloc_heap_new P _);(have a:y.heap[N+1]? =B.heap[N+1]? :=by rw[g];exact Below.heap_alloc _ _ _ (by omega));(have Y:W0.heap[N+1]? =y.heap[N+1]? :=by rw[d];exact Below.heap_alloc _ _ _ (by omega));rw[Y,a,f]
 have E:W0.cell? ⟨N+2,0,none⟩=some v0:=by (have f:y.cell? ⟨N+2,0,none⟩=some v0:=by rw[g,<-sb];exact aE B _ 100 0 _ rfl);exact(dk (by rw[d];exact Below.heap_alloc _ _ _ (by omega))).trans f
 have u:W0.rowIs (N+3) 9 1 (λ_=>.string s):=by have h:=World.rowIs_alloc y #[.string s] 9 (λ_=>.string s) (λi hi=>by (have:i=0:=by simp at hi;omega);subst this;rfl);rw[sc,<-d]at h;exact h
 have v:aD (λb=>b<N) 2 dv W0 v0 ls:=by have h:=q.below;rw[<-A]at h;exact h.blocks λb t=>X.block b t
 have Z:Hid _:=A;clear n j g d Q sb sc q A;refine yE rfl (by omega) (gf:=132) (lb:=#[.pointer (some ⟨N+1+1+1,0,none⟩),.pointer (some ⟨N+1+1,0,none⟩)]) rfl trivial Qe (encs:=λx:ByteArray=>#[.string x]) (λ_=>rfl) (N+3) (N+1) (by omega) (by omega) (eA ls s.data.toList)
  (λpre W=>gF False (N+1) (N+6) (Lib.byteCells (pre.flatMap λx=>x.data.toList)) W/\Below N w W) ?hI1 ?hI2 ?h0 ?hseq
  (λx=>{tmps:=#[.agg #[v0,v1,v2],.string s,.pointer (some ⟨N,0,none⟩),bi,.string ⟨#[]⟩,.pointer (some ⟨N+1,0,none⟩),.string x,.agg #[v0,v1,v2],.string s,.func (.func 132) #[] #[.pointer (some ⟨N+1+1+1,0,none⟩),.pointer (some ⟨N+1+1,0,none⟩)],.string x,bi,bi,bi],defers:=[]}) ?assign ?body ?done
 case hI1=>(rintro pre W l o o' hl ho R ⟨f,a⟩;refine⟨f.keep λk c e F G _=>?_,a.trans ⟨rfl,rfl,rfl,by simp,λb t=>World.putObj_heap_other (by omega)⟩⟩;have S:k≠l:=by rintro rfl;rw[G]at ho;cases ho;cases R);exact(World.putObj_heap_other S).trans G
 case hI2=>rintro pre W W' r ⟨f,a⟩;refine⟨f.keep λk c e F G aa=>(r.block k (TC.1 G).1 (by omega)).trans G,a.trans ⟨r.os,r.tape,r.output,r.size,λb t=>r.block b (by have:=a.size;have:=Z.out;omega) (by omega)⟩⟩
 case h0=>exact⟨⟨by omega,.pointer none,.slice none 0 0,.inl rfl,C,World.ownsRow_nil _ _ _ _,λ_=>.inr rfl⟩,X⟩
 case hseq=>intro l J W hW hJ hY h0;exact callsIn_wide.2 (L6 L _ s (N+3) (N+2) (N+1) W0 (by omega) (by omega) (by omega) (by omega) (by omega) (λb t=>⟨by omega,by omega,by omega⟩) v u E (λp hp=>(V p hp).1) r l J W hW hJ hY h0)
 case assign=>intro l x W K O;(gi_wp2);exact O
 case body=>(rintro l pre x W ⟨T,m⟩ H ab;have I:(Lib.byteCells (pre.flatMap λx=>x.data.toList)).length+x.size<=140737488355328:=by (have f:=Dx H;rw[wH]at f;have a:=Jx ls V s.data.toList;rw[<-Lib.size_eq]at a;rw[VM,TR]at f;rw[Lib.byteCells_length];have Y:([x].flatMap λx=>x.data.toList).length=x.size:=by rw[U6,List.flatMap_nil,UH];exact(Lib.size_eq x).symm);omega);(gi_wp2_with (refine⟨trivial,?_⟩;gi_at_call 94;refine(CallsIn.inRound l (callsIn_wide.2 (jf L (N+1) (N+6) _ x W T I (by omega)))).mono ?_;rintro e w2 ⟨rfl,f,a⟩));rw[wT,yR]at f;exact⟨f,m.trans ⟨a.os,a.tape,a.output,a.size,λb t=>a.block b (by omega) (by omega)⟩⟩
 case done=>rintro D W hD ⟨T,m⟩ O;have M:=wS L (N+1) (N+6) _ W T (by have h:=(TC.1 O).1;omega);rw[wH]at M;dsimp only;(gi_wp2_with (refine⟨trivial,?_⟩;gi_at_call 95;refine(callsIn_wide.2 M).mono ?_;rintro e w2 ⟨rfl,f,a⟩));have U:=a D _ O;refine⟨by simp,.inl ⟨_,_,rfl,run_takeDeferred U,?_⟩⟩;refine⟨_,results_tmp rfl _ _ _,rfl,?_⟩;have t:Below N w w2:=m.trans (f.mono (by omega));rw[<-Z.out];exact t.trans ⟨rfl,rfl,rfl,by simp,λb t=>World.putObj_heap_other (by omega)⟩
end Go.Proofs
namespace Go.Proofs
open Go.Tm Go.RowKit Go.Shelf
variable {fs:Array Func} (L:bM fs)
def Qj(b n:Nat)(w:World)(a:w.heap[b]? =some (.cells #[.pointer none,.slice none 0 0] 153 (0,0)))(r:n<=281474976710656):Calls (Qs fs) 180 #[.pointer (some ⟨b,0,none⟩),.int .i64 n] w λe w'=>e=.returned (.tuple #[])/\gF (0<n) b (b+1) [] w'/\Below b w w':=by
 have X:=lV fs;have s:b<w.heap.size:=(TC.1 a).1;by_cases t:n=0
 .subst t;have OC:=OC L;have f:Lays.n240 (Qs fs) tH:={(jP L).2.2 with}
  have c:=Any.Builder_copyCheck_fresh f X.toX72 b w (by rw[Lib.cell_of_heap a];rfl) (by simp[World.shape?,a];rfl) (Lib.frozen_of_heap a 0);have i:Calls (Qs fs) 134 #[.pointer (some ⟨b,0,none⟩)] w λe w'=>e=.returned (.tuple #[])/\w'.heap[b]? =some (.cells #[.pointer (some ⟨b,0,none⟩),.slice none 0 0] 153 (0,0))/\Below b w w':=by (refine c.mono ?_;rintro e w' ⟨rfl,rfl⟩;refine⟨rfl,?_,(Below.refl b w).setCell (p:=⟨b,0,none⟩) (Tw _) _⟩;have u:(w.heap.modify b λo=>match o with| .cells c e F=>.cells (c.setIfInBounds 0 (.pointer (some ⟨b,0,none⟩))) e F|o=>o)[b]? =some (.cells #[.pointer (some ⟨b,0,none⟩),.slice none 0 0] 153 (0,0)):=by rw[Uo,a];simp);exact u
  clear c a;go_enter (n180 L),Tryz.ntmps180;go_wp2_with (go_at_call 134;refine i.mono ?_);clear i;rintro e w1 ⟨rfl,d,j⟩;have m:w1.cell? ⟨b,1,none⟩=some (.slice none 0 0):=by rw[Lib.cell_of_heap d];rfl
  have x:Hid _:=d;have y:Hid _:=j;clear d j;have D:w1.drew.cell? ⟨b,1,none⟩=some (.slice none 0 0):=m;have k:(Qs fs).follows .mixedOrders=true:=(jP L).1.mixed;clear m;go_wp2
  go_region_o
  all_goals (go_wp2;exact bodyPost_end (results_none rfl _ _ _) rfl ⟨rfl,⟨Ux _,_,_,.inr rfl,x.out,World.ownsRow_nil _ _ _ _,λ_=>.inr rfl⟩,y.out.drew⟩)
 refine(Any.Builder_Grow_fresh (P:=Qs fs) (ρ:=tH) (jP L).2.2 X b b n w (Tw _) a (by omega) r).mono ?_;rintro e w' ⟨rfl,⟨_,v,z,q,A⟩,B⟩;refine⟨rfl,⟨Ux _,_,v,.inr rfl,z,?_,λ_=>.inl (by omega)⟩,B⟩;refine⟨q.1,?_⟩;obtain h|⟨g,cap,l,k1,E,C⟩:=q.2;exact .inl h;refine .inr ⟨g,cap,l,k1,?_,C⟩;have:g≠b:=λe=>A (by rw[k1,e];rfl);omega
def gF.real{q b B bs w}(h:gF q b B bs w)(a:bs=[]->¬q):gF False b B bs w:=by obtain⟨c,p,v,d,f,g,i⟩:=h;exact⟨c,p,v,d,f,g,λe=>(i e).elim (λx=>absurd x (a e)) .inr⟩
def qU{p:Prop}(h:p):Hid p:=h
def Below.L8{b B:Nat}{w w':World}(h:Stp B b w w')(a:b<B):Below b w w':=⟨h.os,h.tape,h.output,h.size,λk c=>h.block k (by omega) (by omega)⟩
def Jy(s old new:ByteArray)(m:Int)(w:World)(hs:s.size<=100000)(R:w.cell? ⟨2,0,none⟩=some (.int .i64 m))(S:1<=old.size)(U:new.size<=100)(V:old≠new){K:Nat}(W:Lib.countB s old=K)(X:1<=K):ac fs 166 #[.string s,.string old,.string new,.int .i64 (-1)] w (.string ⟨(Lib.replaceK old.data.toList new.data.toList K s.data.toList).toArray⟩):=by
 have OG:=OG L;have RD:=RD L;have RE:=RE L;have e94:=e94 L;have e95:=e95 L;have Y:=Any.strings_Count_any (P:=Qs fs) (ρ:=tH) (jP L).2.1 s old m w (by omega) R S;have f:=Lib.countB_mul_le old S s.size s (Tw _);rw[W]at Y f;have B:Lib.count s.data.toList old.data.toList=K:=W;have aM:(old.toList==new.toList)=false:=(Lib.bytes_beq_false_iff old new).2 V;have a1:((K:Int)==0)=false:=TX.2 (by omega);have b:s.data.toList.length=s.size:=(Lib.size_eq s).symm;have a:old.data.toList.length=old.size:=(Lib.size_eq old).symm;have Z:2<w.heap.size:=World.block_lt_of_cell? _ _ R;have aa:K<=s.size:=Tx (Nat.le_mul_of_pos_right K (by omega)) f;have ab:s.size+K*new.size<=140737488355328:=by have:K*new.size<=s.size*100:=Nat.mul_le_mul aa U;omega
 have v:=Lib.grow_arg s.size K new.size old.size X f ab;have k:K<=Lib.count (s.data.toList.drop 0) old.data.toList:=by rw[Ub,B];exact Tw _
 obtain⟨T,hT⟩:=ex (s.size+K*new.size-K*old.size);rw[<-hT]at v;have a6:T<=140737488355328:=by omega
 have C:T+K*old.size=s.size+K*new.size:=by omega
 have a7:decide (0<old.size)=true:=TD (by omega);have D:=λwr (h:Below w.heap.size w wr)=>(h.cell (p:=⟨2,0,none⟩) Z).trans R;have ad:=λ(t:ByteArray) wr (ht:t.size<=s.size) (h:Below w.heap.size w wr)=>Any.strings_Index (P:=Qs fs) (ρ:=tH) {(jP L).2.1 with} t old m wr (by omega) (D wr h);have af:=qU C;clear W B R D hT C;go_enter (n166 L),Tryz.ntmps166;go_wp2_with (go_at_call 179;refine Y.mono ?_;rintro e w' ⟨rfl,E⟩;rw[E];clear E);clear Y;rw[v];refine(Qj L w.heap.size T _ (heap_alloc_new w _) (by omega)).mono ?_;rintro e w1 ⟨rfl,F,x⟩;have H1:=qU F;have G:w.heap.size+1<=w1.heap.size:=by have:=x.size;simpa using this
 have ag:=qU (((Below.refl w.heap.size w).alloc (Tw _) _).trans x);clear F x v;go_wp2_with fail
 go_loopg [11,53] K (λg ah ak wx=>∃(i start:Nat) (acc:List UInt8),ak=.int .i64 i/\ah=.int .i64 start/\i+g=K/\start<=s.size/\
  Hid (gF (0<T) w.heap.size (w.heap.size+1) (Lib.byteCells acc) wx)/\Hid (Below w.heap.size w wx/\w.heap.size+1<=wx.heap.size)/\Hid (acc++Lib.replaceK old.data.toList new.data.toList g (s.data.toList.drop start)=Lib.replaceK old.data.toList new.data.toList K s.data.toList)/\
  g<=Lib.count (s.data.toList.drop start) old.data.toList/\acc.length+(s.size-start)+g*new.size=T+g*old.size/\g*old.size<=s.size-start)
 case atStart=>exact⟨0,0,[],rfl,rfl,by omega,TE _,H1,qU ⟨ag.out,G⟩,qU (by simp),k,by have:=af.out;simp;omega,by omega⟩
 case round=>
  obtain⟨i,start,acc,rfl,rfl,a8,ba,HB,HW,HR,bb,H,bk⟩:=hrel;have bm:w.heap.size<=wr.heap.size:=HW.out.1.size;have c1:(0:Int)<=(start:Int):=by omega
  have c2:(start:Int)<=(s.size:Int):=by omega
  cases gk with
  |zero=>(have an:¬((i:Int)<(K:Int)):=by omega);(go_wp2_with fail);(refine(jf L w.heap.size (w.heap.size+1) _ _ wr HB.out (by rw[Lib.byteCells_length,U7];simp at H;omega) HW.out.2).mono ?_;rintro e w3 ⟨rfl,y,d⟩;rw[Lib.strCells_eq,Lib.extract_to_end,<-Lib.byteCells_append]at y;have o:acc++s.data.toList.drop start=Lib.replaceK old.data.toList new.data.toList K s.data.toList:=HR.out;have z:(acc++s.data.toList.drop start).length=T:=by rw[TR,TM,b];simp at H;omega);rw[o]at y z;have H3:=qU (y.real λe h0=>by have:=T7 List.length e;rw[Lib.byteCells_length,z]at this;simp at this;omega);have n:=qU (HW.out.1.trans (Below.L8 d (Ux _)));have c:w.heap.size<=w3.heap.size:=n.out.size;clear y d o z;go_wp2_with fail;refine(wS L w.heap.size (w.heap.size+1) _ w3 H3.out c).mono ?_;rintro e w5 ⟨rfl,I,_⟩;have ao:=qU (n.out.trans I);clear I;go_wp2;go_ret;exact⟨rfl,ao.out⟩
  |succ g=>(have an:(i:Int)<(K:Int):=by omega);(obtain⟨j,J⟩:=Lib.index_of_count (s:=s.data.toList.drop start) (old:=old.data.toList) (by omega);have ar:j+old.size<=s.size-start:=by have:=Lib.index_room (s.data.toList.drop start) old.data.toList (by rw[J];omega);rw[J,TM,b,a]at this;omega);(have bo:(g+1)*new.size=g*new.size+new.size:=Nat.succ_mul _ _;have br:(g+1)*old.size=g*old.size+old.size:=Nat.succ_mul _ _;have c3:(0:Int)<=(start:Int)+(j:Int):=by omega);(have c4:(start:Int)+(j:Int)<=(s.size:Int):=by omega);(have c5:(start:Int)<=(start:Int)+(j:Int):=by omega);(have l:Lib.byteCells acc++Lib.strCells (s.extract start (start+j))++Lib.strCells new=Lib.byteCells (acc++(s.data.toList.drop start).take j++new.data.toList):=by rw[Lib.strCells_eq,Lib.strCells_eq,Lib.extract_data,Xa,<-Lib.byteCells_append,<-Lib.byteCells_append]);(have r:(acc++(s.data.toList.drop start).take j++new.data.toList)++Lib.replaceK old.data.toList new.data.toList g (s.data.toList.drop (start+j+old.size))=Lib.replaceK old.data.toList new.data.toList K s.data.toList:=by rw[<-HR.out,Lib.replaceK_hit _ _ g _ j J,VI,a];simp only[UG,Vm]);(have u:g<=Lib.count (s.data.toList.drop (start+j+old.size)) old.data.toList:=by have:=Lib.count_hit (s:=s.data.toList.drop start) (sub:=old.data.toList) (i:=j) (λe=>by rw[e]at a;simp at a;omega) J;rw[VI,a]at this;rw[show start+j+old.size=start+(j+old.size) by omega];omega);(have M:=Lib.countB_mul_le old S _ (s.extract (start+j+old.size) s.size) (Tw _);have ax:((s.data.toList.drop start).take j).length=j:=by rw[Uz,TM,b];omega);(have N:g*old.size<=s.size-(start+j+old.size):=by (have e1:Lib.countB (s.extract (start+j+old.size) s.size) old=Lib.count (s.data.toList.drop (start+j+old.size)) old.data.toList:=by unfold Lib.countB;rw[Lib.extract_to_end]);rw[e1,U7]at M;have:=Nat.mul_le_mul_right old.size u;omega);have Hn:=qU l;have O:=qU r;have q:=ad (s.extract start s.size) wr (by rw[U7];omega) HW.out.1;rw[Lib.extract_to_end,J]at q;clear l r HR M;go_wp2_with (go_at_call 181;refine q.mono ?_;rintro e w' ⟨rfl,E⟩;rw[E];clear E);refine(jf L w.heap.size (w.heap.size+1) _ (s.extract start (start+j)) wr HB.out (by rw[Lib.byteCells_length,U7];omega) HW.out.2).mono ?_;rintro e w3 ⟨rfl,y,d⟩;have c:w.heap.size+1<=w3.heap.size:=Tx HW.out.2 d.size;have H3:=qU y;have n:=qU (Below.L8 d (Ux _));clear y d;go_wp2_with fail;refine(jf L w.heap.size (w.heap.size+1) _ new w3 H3.out (by rw[TR,Lib.byteCells_length,Lib.strCells_length,U7];omega) c).mono ?_;rintro e w4 ⟨rfl,h4,A⟩;rw[Hn.out]at h4;have H4:=qU h4;have Q:w.heap.size+1<=w4.heap.size:=Tx c A.size;have ay:=qU ((HW.out.1.trans n.out).trans (Below.L8 A (Ux _)));clear h4 A;go_wp2;(go_roundg g);(case measure=>omega);case rel=>refine⟨i+1,start+j+old.size,_,by first|rfl|(simp;unfold wrap64;omega),by first|rfl|simp|(simp;unfold wrap64;omega),by omega,by omega,H4,qU ⟨ay.out,Q⟩,O,u,?_,N⟩;simp only[TR,ax,<-Lib.size_eq];omega
def Ge(s old new:ByteArray)(m:Int)(w:World)(i:s.size<=100000)(d:w.cell? ⟨2,0,none⟩=some (.int .i64 m))(f:1<=old.size)(h:old=new\/Lib.countB s old=0):ap fs 166 #[.string s,.string old,.string new,.int .i64 (-1)] w (.string s):=by
 have OG:=OG L;by_cases b:old=new
 .have a:(old.toList==new.toList)=true:=(Lib.bytes_beq_iff old new).2 b;go_enter (n166 L),Tryz.ntmps166;go_wp2;go_ret;exact⟨rfl,rfl⟩
 have c:=Any.strings_Count_any (P:=Qs fs) (ρ:=tH) (jP L).2.1 s old m w (by omega) d f;rw[h.resolve_left b]at c;have a:(old.toList==new.toList)=false:=(Lib.bytes_beq_false_iff old new).2 b;go_enter (n166 L),Tryz.ntmps166;go_wp2_with (go_at_call 179;refine c.mono ?_;rintro e w' ⟨rfl,g⟩;rw[g]);go_ret;exact⟨rfl,rfl⟩
theorem nk(p)(a:p.1.data.toList≠[])(b:p.1.data.toList=p.2.data.toList):∀(n) (s),s.length<=n->bU p s=s
 |_,[],_=>mZ p
 |0,c::s,h=>by simp at h
 |n+1,c::s,h=>by
  cases d:p.1.data.toList.isPrefixOf (c::s)with
  |true=>
   rw[nc d a,nk p a b n _ (by rw[TM];have:0<p.1.data.toList.length:=UF.2 a;omega),<-b]
   obtain⟨t,e⟩:=UM.1 d;rw[<-e,List.drop_left]
  |false=>rw[lP d,nk p a b n s (by simp only[TA]at h;omega)]
theorem iX(p)(b:p.1.data.toList≠[]):∀(n) (s:Bs),s.length<=n->Lib.replaceK p.1.data.toList p.2.data.toList (Lib.count s p.1.data.toList) s=bU p s
 |n,[],_=>by
  have a:Lib.index [] p.1.data.toList= -1:=by unfold Lib.index;rw[Tu (by simpa using b)]
  rw[Lib.count_miss a,mZ,Lib.replaceK]
 |0,c::s,h=>by simp at h
 |n+1,c::s,h=>by
  simp only[TA]at h;have f:0<p.1.data.toList.length:=UF.2 b;cases d:p.1.data.toList.isPrefixOf (c::s)with
  |true=>
   have a:Lib.index (c::s) p.1.data.toList=((0:Nat):Int):=by unfold Lib.index;rw[Tv d];rfl
   rw[Lib.count_hit b a,VO 1,Lib.replaceK_hit _ _ _ _ 0 a,nc d b,TF,T5,Vy,iX p b n _ (by rw[TM,TA];omega)]
  |false=>
   rw[lP d,<-iX p b n s (by omega)];have k:=Lib.index_ge s p.1.data.toList;by_cases g:Lib.index s p.1.data.toList= -1
   .have a:Lib.index (c::s) p.1.data.toList= -1:=by unfold Lib.index;rw[Tu (by rw[d];simp),g];rfl
    rw[Lib.count_miss a,Lib.count_miss g,Lib.replaceK,Lib.replaceK]
   .obtain⟨i,a⟩:∃i:Nat,Lib.index s p.1.data.toList=i:=⟨(Lib.index s p.1.data.toList).toNat,by omega⟩
    have e:Lib.index (c::s) p.1.data.toList=((i+1:Nat):Int):=by unfold Lib.index;rw[Tu (by rw[d];simp),Tu (by rw[a,Uk];omega),a];omega
    have j:(c::s).drop (i+1+p.1.data.toList.length)=s.drop (i+p.1.data.toList.length):=by rw[show i+1+p.1.data.toList.length=(i+p.1.data.toList.length)+1 by omega,Uh]
    rw[Lib.count_hit b e,Lib.count_hit b a,j,VO 1,Lib.replaceK_hit _ _ _ _ _ e,Lib.replaceK_hit _ _ _ _ _ a,j,T9];simp
def ie(w:World):Prop:=∃m,w.cell? ⟨2,0,none⟩=some (.int .i64 m)
def ie.stays{w w'}(h:ie w)(a:ae w w'):ie w':=h.elim λm h=>⟨m,a.cell h⟩
def Bl(s:ByteArray)(p:Pr2)(w:World)(c:s.size<=100000)(a:ie w)(d:1<=p.1.size)(i:p.2.size<=100):Calls (Qs fs) 139 #[.string s,.string p.1,.string p.2] w λe w'=>e=.returned (.string (bs (bU p s.data.toList)))/\Below w.heap.size w w':=by (obtain⟨m,a⟩:=a;have f:p.1.data.toList≠[]:=λh=>by have:=Lib.size_eq p.1;rw[h,TN]at this;omega);(have Ry:=Ry L;have q:ac fs 166 #[.string s,.string p.1,.string p.2,.int .i64 (-1)] w (.string (bs (bU p s.data.toList))):=by have b:=iX p f _ s.data.toList (Tw _);by_cases he:p.1=p.2\/Lib.countB s p.1=0;refine(Ge L s p.1 p.2 m w c a d he).mono ?_;(rintro e w' ⟨rfl,rfl⟩;have e1:bU p s.data.toList=s.data.toList:=by obtain he|he:=he;exact nk p f (by rw[he]) _ _ (Tw _);rw[show Lib.count s.data.toList p.1.data.toList=0 from he]at b;rw[<-b,Lib.replaceK]);rw[e1];exact⟨rfl,Below.refl _ _⟩;have:=Jy L s p.1 p.2 m w c a d i (λe=>he (.inl e)) rfl (WE λe=>he (.inr e));rw[show Lib.countB s p.1=Lib.count s.data.toList p.1.data.toList from rfl,b]at this;exact this);obtain⟨z,g⟩:=ex (bs (bU p s.data.toList));rw[<-g]at q⊢;clear g a;go_enter (n139 L),Tryz.ntmps139;go_wp2_with (go_at_call 166;refine q.mono ?_;clear q;rintro e w2 ⟨rfl,j⟩);go_ret;exact⟨rfl,j⟩
def L9(s:ByteArray)(p:Pr2)(a:Nat)(w:World)(d:s.size<=100000)(b:ie w)(f:1<=p.1.size)(g:p.2.size<=100)(h:w.cell? ⟨a,0,none⟩=some (.string p.1))(i:w.cell? ⟨a,1,none⟩=some (.string p.2)):Calls (Qs fs) 138 #[.string s,.pointer (some ⟨a,0,none⟩)] w λe w'=>e=.returned (.string (bs (bU p s.data.toList)))/\Below w.heap.size w w':=by have Rp:=Rp L;have q:=Bl L s p w d b f g;obtain⟨z,c⟩:=ex (bs (bU p s.data.toList));rw[<-c]at q⊢;clear c b;go_enter (n138 L),Tryz.ntmps138;go_wp2_with (go_at_call 139;refine q.mono ?_;clear q;rintro e w2 ⟨rfl,j⟩);go_ret;exact⟨rfl,j⟩
end Go.Proofs
namespace Go.Proofs
def jQ(c:Case)(k:Nat):List Hit:=((List.range k).filterMap (iw c)).foldl (λl h=>eN c h l) []
def ow(c k)(h:iw c k=none):jQ c (k+1)=jQ c k:=by unfold jQ;rw[VK,List.filterMap_append,Wa];simp[h]
def ox(c k x)(h:iw c k=some x):jQ c (k+1)=eN c x (jQ c k):=by unfold jQ;rw[VK,List.filterMap_append,Wa];simp[h]
theorem jg(c h):∀l,(eN c h l).length=l.length+1
 | []=>rfl
 |x::l=>by
  unfold eN;split
  .rw[TA,jg c h l,TA]
  .rfl
theorem qV(c h):∀l x,x∈eN c h l->x=h\/x∈l
 | [],x,a=>.inl (UX.1 a)
 |y::l,x,a=>by
  unfold eN at a;split at a
  .obtain e|e:=TZ.1 a
   .exact .inr (e▸WB ..)
   .obtain e'|e':=qV c h l x e
    .exact .inl e'
    .exact .inr (Wh _ e')
  .obtain e|e:=TZ.1 a
   .exact .inl e
   .exact .inr e
theorem qe(c):∀k,(jQ c k).length<=k
 |0=>Tw _
 |k+1=>by
  have a:=qe c k;cases h:iw c k with
  |none=>rw[ow c k h];omega
  |some x=>rw[ox c k x h,jg];omega
theorem rS{c m kin}:∀(l) (j r) (v),(∀i,l[i]? =c.rules[j+i]?)->eM c m kin j l=some (r,v)->∃h,v=bI c.table c.rules[r].kind c.new m
 | [],j,r,v,_,h=>by cases h
 |x::l,j,r,v,b,h=>by
  unfold eM at h;split at h
  .cases h
   have a:=b 0;rw[UB,Xb]at a;have d:j<c.rules.length:=(UO.1 a.symm).1;rw[T2 d]at a;cases a;exact⟨d,rfl⟩
  .refine rS l (j+1) r v (λi=>?_) h
   have:=b (i+1);rw[List.getElem?_cons_succ]at this;rw[this]
   congr 1
   omega
def uA(c k)(d:k<c.marks.length)(e:k<c.kin.length):(ni c k= -1/\iw c k=none)\/∃r,∃h:r<c.rules.length,ni c k=r/\iw c k=some ⟨k,r,bI c.table c.rules[r].kind c.new c.marks[k]⟩:=by have a:=Bh c k d e;cases b:eM c c.marks[k] c.kin[k] 0 c.rules with|none=>rw[b]at a;exact .inl ⟨by unfold ni;rw[a];rfl,a⟩|some x=>obtain⟨r,v⟩:=x;obtain⟨h,rfl⟩:=rS c.rules 0 r v (λi=>by rw[TF]) b;rw[b]at a;exact .inr ⟨r,h,by unfold ni;rw[a];rfl,a⟩
theorem nn(c)(b:c.kin.length=c.marks.length):∀k,k<=c.marks.length->∀x∈jQ c k,∃(i r:Nat) (v:Int),i<c.marks.length/\r<c.rules.length/\-1000000<=0/\x=⟨i,r,v⟩
 |0,_,x,a=>by cases a
 |k+1,f,x,a=>by
  obtain⟨_,h⟩|⟨r,d,_,h⟩:=uA c k (by omega) (by omega)
  .rw[ow c k h]at a
   exact nn c b k (by omega) x a
  .rw[ox c k _ h]at a
   obtain rfl|e:=qV c _ _ _ a
   .exact⟨k,r,_,by omega,d,by decide,rfl⟩
   .exact nn c b k (by omega) x e
def Dy(c h l k)(b:k<=l.length)(d:∀i (a:i<l.length),i<k->aU c l[i] h=true)(e:∀a,aU c l[k] h=false):eN c h l=l.take k++h::l.drop k:=by
 induction l generalizing k with
 |nil=>cases k with
  |zero=>rfl
  |succ k=>simp at b
 |cons x l g=>
  cases k with
  |zero=>have:=e (Vw _);simp only[Vz]at this;unfold eN;rw[this];rfl
  |succ k=>
   have f:=d 0 (Vw _) (Vw _);simp only[Vz]at f;unfold eN;rw[f,Tv rfl,g k (by simpa using b) (λi a j=>?_) λa=>?_]
   .rfl
   .have:=d (i+1) (by simpa using a) (by omega)
    simpa using this
   .have:=e (by simpa using a)
    simpa using this
def bw(l:List Hit):List Go.Value:=l.flatMap λx=>[.int .i64 x.mark,.int .i64 x.ew,.int .i64 x.level]
def iB(l):(bw l).length=l.length*3:=by induction l with|nil=>rfl|cons x l a=>unfold bw at a⊢;rw[U6,TR,a,TA];simp only[TA,TN];omega
def Bm(a b):bw (a++b)=bw a++bw b:=by unfold bw;rw[VM]
def tI(l):∀u∈bw l,∃n,u=.int .i64 n:=by intro u a;unfold bw at a;obtain⟨x,_,b⟩:=WK.1 a;simp only[TZ,Ue,Uf]at b;rcases b with e|e|e<;>exact⟨_,e⟩
def Dz(l k)(a:k<l.length):(bw l)[k*3]? =some (.int .i64 l[k].mark)/\(bw l)[k*3+1]? =some (.int .i64 l[k].ew)/\(bw l)[k*3+2]? =some (.int .i64 l[k].level):=by induction l generalizing k with|nil=>cases a|cons x l b=>cases k with|zero=>exact⟨rfl,rfl,rfl⟩|succ k=>(have h:=b k (by simpa using a);have e:bw (x::l)=[.int .i64 x.mark,.int .i64 x.ew,.int .i64 x.level]++bw l:=rfl;rw[e];have e3:∀j,([.int .i64 x.mark,.int .i64 x.ew,.int .i64 x.level]++bw l:List Go.Value)[(k+1)*3+j]? =(bw l)[k*3+j]? :=λj=>by rw[WG (by simp;omega)];congr 1;simp;omega);exact⟨(e3 0).trans h.1,(e3 1).trans h.2.1,(e3 2).trans h.2.2⟩
def Gf(l k):bw (l.drop k)=(bw l).drop (k*3):=by induction l generalizing k with|nil=>simp[bw]|cons x l a=>cases k with|zero=>rfl|succ k=>have e:bw (x::l)=.int .i64 x.mark:: .int .i64 x.ew:: .int .i64 x.level::bw l:=rfl;rw[Uh,a,e,show(k+1)*3=k*3+1+1+1 by omega,Uh,Uh,Uh]
def Gg(l k):bw (l.take k)=(bw l).take (k*3):=by induction l generalizing k with|nil=>simp[bw]|cons x l a=>cases k with|zero=>simp[bw]|succ k=>have e:∀l,bw (x::l)=.int .i64 x.mark:: .int .i64 x.ew:: .int .i64 x.level::bw l:=λ_=>rfl;rw[T9,e,a,e,show(k+1)*3=k*3+1+1+1 by omega,T9,T9,T9]
def ns(c a b):aU c a b=true↔a.ew<b.ew\/(a.ew=b.ew/\(b.level<a.level\/(a.level=b.level/\(gU c a.mark<gU c b.mark\/(gU c a.mark=gU c b.mark/\a.mark<b.mark))))):=by unfold aU;generalize gU c a.mark=x;generalize gU c b.mark=y;by_cases d:a.ew=b.ew;rw[Tu (λh=>h d)];by_cases e:a.level=b.level;rw[Tu (λh=>h e)];by_cases f:x=y;rw[Tu (λh=>h f)];simp only[TQ];omega;rw[Tv f];simp only[TQ];omega;rw[Tv e];simp only[TQ];omega;rw[Tv d];simp only[TQ];omega
def pE(c a b):aU c a b=false↔¬(a.ew<b.ew\/(a.ew=b.ew/\(b.level<a.level\/(a.level=b.level/\(gU c a.mark<gU c b.mark\/(gU c a.mark=gU c b.mark/\a.mark<b.mark)))))):=by rw[<-ns];simp
def D1(c a):aU c a a=false:=by rw[pE];omega
def BM{c a b}(h:aU c a b=true):aU c b a=false:=by rw[ns]at h;rw[pE];omega
def before_trans{c a b d}(h:aU c a b=true)(k:aU c b d=true):aU c a d=true:=by rw[ns]at*;omega
def qi{c a b d}(h:aU c a b=false)(k:aU c b d=false):aU c a d=false:=by rw[pE]at*;omega
def JM{c a b}(h:aU c a b=false)(k:aU c b a=false):a=b:=by (rw[pE]at*;have d:a.ew=b.ew:=by omega);(have e:a.level=b.level:=by omega);(have f:a.mark=b.mark:=by omega);cases a;cases b;simp_all
def lF(c:Case)(l:List Hit):Prop:=l.Pairwise λx y=>aU c y x=false
theorem qj(c h):∀l,lF c l->lF c (eN c h l)
 | [],_=>by simp[eN,lF]
 |x::xs,d=>by
  have a:=WV.1 d;unfold eN;split
  .rename_i b
   refine WV.2 ⟨λy hy=>?_,qj c h xs a.2⟩;obtain rfl|hy:=qV c h xs y hy
   .exact BM b
   .exact a.1 y hy
  .rename_i b
   have b:aU c x h=false:=by simpa using b
   refine WV.2 ⟨λy hy=>?_,d⟩;obtain rfl|hy:=TZ.1 hy
   .exact b
   .exact qi (a.1 y hy) b
theorem uD(c h):∀l,(eN c h l).Perm (h::l)
 | []=>.refl _
 |x::xs=>by
  unfold eN;split
  .exact((uD c h xs).cons x).trans (.swap h x xs)
  .exact .refl _
theorem BN(c):∀(xs acc:List Hit),lF c acc->lF c (xs.foldl (λl h=>eN c h l) acc)/\(xs.foldl (λl h=>eN c h l) acc).Perm (xs++acc)
 | [],acc,a=>⟨a,.refl _⟩
 |x::xs,acc,a=>by obtain⟨b,d⟩:=BN c xs (eN c x acc) (qj c x acc a);refine⟨b,d.trans ?_⟩;exact((List.perm_append_left_iff xs).2 (uD c x acc)).trans (List.perm_middle)
def xh(c):lF c (bn c):=(BN c _ [] List.Pairwise.nil).1
def kj(c):(bn c).Perm ((List.range c.marks.length).filterMap (iw c)):=by have h:=(BN c ((List.range c.marks.length).filterMap (iw c)) [] List.Pairwise.nil).2;rw[UH]at h;exact h
def yV{c l m}(d:lF c l)(e:lF c m)(h:l.Perm m):l=m:=List.Perm.eq_of_pairwise (le:=λx y=>aU c y x=false) (λa b _ _ f g=>JM g f) d e h
def dF:Table where
 aw:=[(⟨#[207,129]⟩,⟨#[114]⟩),(⟨#[206,191]⟩,⟨#[111]⟩),(⟨#[206,182]⟩,⟨#[122]⟩),(⟨#[206,177]⟩,⟨#[97]⟩),(⟨#[206,178]⟩,⟨#[118]⟩)]
 aG:=[⟨⟨#[105,116]⟩,[(⟨#[122]⟩,⟨#[115]⟩),(⟨#[104]⟩,⟨#[]⟩)]⟩]
 bt:=[[⟨#[114,111,122,97]⟩,⟨#[114,111,115,101]⟩]]
def uZ:Mark:=⟨⟨#[110,111,118,97]⟩,⟨#[207,129,206,191,206,182,206,177]⟩,[],9,false⟩
def rz:Mark:=⟨⟨#[97,108,98,97]⟩,⟨#[114,111,115,97]⟩,[],1,false⟩
def SM:Mark:=⟨⟨#[98,101,108,97]⟩,⟨#[114,111,115,101]⟩,[],3,false⟩
def pS:Mark:=⟨⟨#[99,111,114,97]⟩,⟨#[97,115,111,114]⟩,[],2,false⟩
def QW:Mark:=⟨⟨#[100,111,114,97]⟩,⟨#[114,104,111,115,97]⟩,[],9,false⟩
def exC:Case where
 table:=dF
 rules:=[⟨1,90,3,1⟩,⟨2,100,5,2⟩,⟨3,70,6,6⟩]
 new:=uZ
 marks:=[rz,SM,pS,QW]
 kin:=[4,5,3,9]
def exA:Mark:=⟨⟨#[97]⟩,⟨#[]⟩,[101,203],0,false⟩
def exB:Mark:=⟨⟨#[98]⟩,⟨#[]⟩,[101,204,305],0,false⟩
def mU:dH dF=0:=by decide+kernel
def yw:bG exC=0:=by decide+kernel
def PT:aS dF.aw [207,129,206,191,206,182,206,177]=[114,111,122,97]:=by decide+kernel
def NU:bK dF 0 [114,104,111,115,97]=[114,111,115,97]:=by decide+kernel
def KU:bI dF 0 uZ rz=75:=by decide+kernel
def KV:bI dF 3 uZ pS=75:=by decide+kernel
def KW:bI dF 5 exA exB=60:=by decide+kernel
def mV:bT exA=0/\bT exB=0/\bT uZ=0/\bT rz=0/\bT pS=0:=by decide+kernel
def KX:bn exC=[⟨0,0,100⟩,⟨1,1,100⟩]:=by decide+kernel
def KY:exC.rules.map (kJ exC pS 3)=[⟨0,90,0⟩,⟨0,100,2⟩,⟨0,0,3⟩]:=by decide+kernel
def KZ:exC.rules.length=3/\(exC.rules.map (kJ exC QW 9))[0]? =some ⟨1,0,0⟩:=by decide+kernel
def NV:jV [114,111,122,97] [114,111,115,101]=[(2,2,115),(3,2,101)]:=by unfold jV;rw[bc,Tu (by decide+kernel),Tu (by decide+kernel),Tu (by decide+kernel),Tu (by decide)];rw[bc,Tu (by decide+kernel),Tu (by decide+kernel),Tu (by decide+kernel),Tu (by decide)];rw[bc,Tu (by decide+kernel),Tu (by decide+kernel),Tu (by decide+kernel),Tv (by decide)];rw[bc,Tu (by decide+kernel),Tu (by decide+kernel),Tu (by decide+kernel),Tv (by decide)];rw[bc];rfl
def K4:jV [97,98] [98,97]=[(0,0,98),(1,1,0)]:=by unfold jV;rw[bc,Tu (by decide+kernel),Tv (by decide+kernel)];rw[bc,Tu (by decide+kernel),Tu (by decide+kernel),Tu (by decide+kernel),Tu (by decide)];rw[bc,bc];rfl
def uu:OkT dF:=by constructor;simp[dF];decide;simp[dF];intro x a p b;simp only[dF,TZ,Ue,Uf]at a;subst a;simp only[TZ,Ue,Uf]at b;rcases b with rfl|rfl<;>decide;simp[dF];simp[dF];simp[dF]
def vc:OkC exC:=by constructor;exact uu;constructor<;>simp[exC,uZ]<;>decide;intro m a;(simp only[exC,TZ,Ue,Uf]at a;rcases a with rfl|rfl|rfl|rfl<;>(constructor<;>simp[rz,SM,pS,QW]<;>decide));decide;decide;decide;simp[exC];simp[exC]
end Go.Proofs

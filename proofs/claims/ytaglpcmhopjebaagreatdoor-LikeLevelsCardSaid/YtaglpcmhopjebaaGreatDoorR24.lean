import Derived.Shelf.Strings.Split
import Derived.Shelf.Strings.Builder2
import Derived.Lib.ReplaceLaws
import Derived.Deep.LoopGhost
import Derived.Lib.Replace
import Derived.Test.YtaglpcmhopjebaaGreatDoorR23
set_option linter.all false
set_option maxRecDepth 100000
set_option maxHeartbeats 20000000
namespace Go.Proofs
open Go.Tm Go.RowKit Go.Shelf
variable {fs:Array Func} (L:bP fs)
def Pk(b n:Nat)(w:World)(a:w.heap[b]? =some (.cells #[.pointer none,.slice none 0 0] 153 (0,0)))(r:n<=281474976710656):Calls (Qs fs) 180 #[.pointer (some ⟨b,0,none⟩),.int .i64 n] w λe w'=>e=.returned (.tuple #[])/\fV (0<n) b (b+1) [] w'/\Below b w w':=by
 have X:=lE fs;have s:b<w.heap.size:=(Sw.1 a).1;by_cases t:n=0
 ·subst t;have Nz:=Nz L;have f:Lays.n240 (Qs fs) sR:={(jD L).2.2 with}
  have c:=Any.Builder_copyCheck_fresh f X.toX72 b w (by rw[Lib.cell_of_heap a];rfl) (by simp[World.shape?,a];rfl) (Lib.frozen_of_heap a 0);have i:Calls (Qs fs) 134 #[.pointer (some ⟨b,0,none⟩)] w λe w'=>e=.returned (.tuple #[])/\w'.heap[b]? =some (.cells #[.pointer (some ⟨b,0,none⟩),.slice none 0 0] 153 (0,0))/\Below b w w':=by (refine c.mono ?_;rintro e w' ⟨rfl,rfl⟩;refine⟨rfl,?_,(Below.refl b w).setCell (p:=⟨b,0,none⟩) (Sp _) _⟩;have u:(w.heap.modify b λo=>match o with| .cells c e F=>.cells (c.setIfInBounds 0 (.pointer (some ⟨b,0,none⟩))) e F|o=>o)[b]? =some (.cells #[.pointer (some ⟨b,0,none⟩),.slice none 0 0] 153 (0,0)):=by rw[Tv,a];simp);exact u
  clear c a;go_enter (n180 L),Tryz.ntmps180;go_wp2_with (go_at_call 134;refine i.mono ?_);clear i;rintro e w1 ⟨rfl,d,j⟩;have m:w1.cell? ⟨b,1,none⟩=some (.slice none 0 0):=by rw[Lib.cell_of_heap d];rfl
  have x:Hid _:=d;have y:Hid _:=j;clear d j;have D:w1.drew.cell? ⟨b,1,none⟩=some (.slice none 0 0):=m;have k:(Qs fs).follows .mixedOrders=true:=(jD L).1.mixed;clear m;go_wp2
  go_region_o
  all_goals (go_wp2;exact bodyPost_end (results_none rfl _ _ _) rfl ⟨rfl,⟨TG _,_,_,.inr rfl,x.out,World.ownsRow_nil _ _ _ _,λ_=>.inr rfl⟩,y.out.drew⟩)
 refine(Any.Builder_Grow_fresh (P:=Qs fs) (ρ:=sR) (jD L).2.2 X b b n w (Sp _) a (by omega) r).mono ?_;rintro e w' ⟨rfl,⟨_,v,z,q,A⟩,B⟩;refine⟨rfl,⟨TG _,_,v,.inr rfl,z,?_,λ_=>.inl (by omega)⟩,B⟩;refine⟨q.1,?_⟩;obtain h|⟨g,cap,l,k1,E,C⟩:=q.2;exact .inl h;refine .inr ⟨g,cap,l,k1,?_,C⟩;have:g≠b:=λe=>A (by rw[k1,e];rfl);omega
def fV.real{q b B bs w}(h:fV q b B bs w)(a:bs=[]->¬q):fV False b B bs w:=by obtain⟨c,p,v,d,f,g,i⟩:=h;exact⟨c,p,v,d,f,g,λe=>(i e).elim (λx=>absurd x (a e)) .inr⟩
def pX{p:Prop}(h:p):Hid p:=h
def Below.La{b B:Nat}{w w':World}(h:Stp B b w w')(a:b<B):Below b w w':=⟨h.os,h.tape,h.output,h.size,λk c=>h.block k (by omega) (by omega)⟩
def IN(s old new:ByteArray)(m:Int)(w:World)(hs:s.size<=100000)(R:w.cell? ⟨2,0,none⟩=some (.int .i64 m))(S:1<=old.size)(U:new.size<=100)(V:old≠new){K:Nat}(W:Lib.countB s old=K)(X:1<=K):Calls (Qs fs) 166 #[.string s,.string old,.string new,.int .i64 (-1)] w λe w'=>e=.returned (.string ⟨(Lib.replaceK old.data.toList new.data.toList K s.data.toList).toArray⟩)/\Below w.heap.size w w':=by
 have ND:=ND L;have QJ:=QJ L;have QK:=QK L;have e94:=e94 L;have e95:=e95 L;have Y:=Any.strings_Count_any (P:=Qs fs) (ρ:=sR) (jD L).2.1 s old m w (by omega) R S;have f:=Lib.countB_mul_le old S s.size s (Sp _);rw[W]at Y f;have B:Lib.count s.data.toList old.data.toList=K:=W;have a1:(old.toList==new.toList)=false:=(Lib.bytes_beq_false_iff old new).2 V;have a6:((K:Int)==0)=false:=SY.2 (by omega);have b:s.data.toList.length=s.size:=(Lib.size_eq s).symm;have a:old.data.toList.length=old.size:=(Lib.size_eq old).symm;have Z:2<w.heap.size:=World.block_lt_of_cell? _ _ R;have aa:K<=s.size:=Sq (Nat.le_mul_of_pos_right K (by omega)) f;have ab:s.size+K*new.size<=140737488355328:=by have:K*new.size<=s.size*100:=Nat.mul_le_mul aa U;omega
 have v:=Lib.grow_arg s.size K new.size old.size X f ab;have k:K<=Lib.count (s.data.toList.drop 0) old.data.toList:=by rw[Tk,B];exact Sp _
 obtain⟨T,hT⟩:=ex (s.size+K*new.size-K*old.size);rw[<-hT]at v;have a7:T<=140737488355328:=by omega
 have C:T+K*old.size=s.size+K*new.size:=by omega
 have a8:decide (0<old.size)=true:=SD (by omega);have D:=λwr (h:Below w.heap.size w wr)=>(h.cell (p:=⟨2,0,none⟩) Z).trans R;have ad:=λ(t:ByteArray) wr (ht:t.size<=s.size) (h:Below w.heap.size w wr)=>Any.strings_Index (P:=Qs fs) (ρ:=sR) {(jD L).2.1 with} t old m wr (by omega) (D wr h);have af:=pX C;clear W B R D hT C;go_enter (n166 L),Tryz.ntmps166;go_wp2_with (first|(go_at_call 179;refine Y.mono ?_;rintro e w' ⟨rfl,E⟩;rw[E];clear E));clear Y;rw[v];refine(Pk L w.heap.size T _ (heap_alloc_new w _) (by omega)).mono ?_;rintro e w1 ⟨rfl,F,x⟩;have H1:=pX F;have G:w.heap.size+1<=w1.heap.size:=by have:=x.size;simpa using this
 have ag:=pX (((Below.refl w.heap.size w).alloc (Sp _) _).trans x);clear F x v;go_wp2_with fail
 go_loopg [11,53] K (λg ak an wx=>∃(i start:Nat) (acc:List UInt8),an=.int .i64 i/\ak=.int .i64 start/\i+g=K/\start<=s.size/\
  Hid (fV (0<T) w.heap.size (w.heap.size+1) (Lib.byteCells acc) wx)/\Hid (Below w.heap.size w wx/\w.heap.size+1<=wx.heap.size)/\Hid (acc++Lib.replaceK old.data.toList new.data.toList g (s.data.toList.drop start)=Lib.replaceK old.data.toList new.data.toList K s.data.toList)/\
  g<=Lib.count (s.data.toList.drop start) old.data.toList/\acc.length+(s.size-start)+g*new.size=T+g*old.size/\g*old.size<=s.size-start)
 case atStart=>exact⟨0,0,[],rfl,rfl,by omega,SE _,H1,pX ⟨ag.out,G⟩,pX (by simp),k,by have:=af.out;simp;omega,by omega⟩
 case round=>
  obtain⟨i,start,acc,rfl,rfl,ba,bb,HB,HW,HR,bk,H,bm⟩:=hrel;have bo:w.heap.size<=wr.heap.size:=HW.out.1.size;have c1:(0:Int)<=(start:Int):=by omega
  have c2:(start:Int)<=(s.size:Int):=by omega
  cases gk with
  |zero=>(have ao:¬((i:Int)<(K:Int)):=by omega);(go_wp2_with fail);(refine(iV L w.heap.size (w.heap.size+1) _ _ wr HB.out (by rw[Lib.byteCells_length,Ue];simp at H;omega) HW.out.2).mono ?_;rintro e w3 ⟨rfl,y,d⟩;rw[Lib.strCells_eq,Lib.extract_to_end,<-Lib.byteCells_append]at y;have o:acc++s.data.toList.drop start=Lib.replaceK old.data.toList new.data.toList K s.data.toList:=HR.out;have z:(acc++s.data.toList.drop start).length=T:=by rw[SQ,SK,b];simp at H;omega);rw[o]at y z;have H3:=pX (y.real λe h0=>by have:=Te List.length e;rw[Lib.byteCells_length,z]at this;simp at this;omega);have n:=pX (HW.out.1.trans (Below.La d (TG _)));have c:w.heap.size<=w3.heap.size:=n.out.size;clear y d o z;go_wp2_with fail;refine(vM L w.heap.size (w.heap.size+1) _ w3 H3.out c).mono ?_;rintro e w5 ⟨rfl,I,_⟩;have ar:=pX (n.out.trans I);clear I;go_wp2;go_ret;exact⟨rfl,ar.out⟩
  |succ g=>(have ao:(i:Int)<(K:Int):=by omega);(obtain⟨j,J⟩:=Lib.index_of_count (s:=s.data.toList.drop start) (old:=old.data.toList) (by omega);have ax:j+old.size<=s.size-start:=by have:=Lib.index_room (s.data.toList.drop start) old.data.toList (by rw[J];omega);rw[J,SK,b,a]at this;omega);(have br:(g+1)*new.size=g*new.size+new.size:=Nat.succ_mul _ _;have bs:(g+1)*old.size=g*old.size+old.size:=Nat.succ_mul _ _;have c3:(0:Int)<=(start:Int)+(j:Int):=by omega);(have c4:(start:Int)+(j:Int)<=(s.size:Int):=by omega);(have c5:(start:Int)<=(start:Int)+(j:Int):=by omega);(have l:Lib.byteCells acc++Lib.strCells (s.extract start (start+j))++Lib.strCells new=Lib.byteCells (acc++(s.data.toList.drop start).take j++new.data.toList):=by rw[Lib.strCells_eq,Lib.strCells_eq,Lib.extract_data,V9,<-Lib.byteCells_append,<-Lib.byteCells_append]);(have r:(acc++(s.data.toList.drop start).take j++new.data.toList)++Lib.replaceK old.data.toList new.data.toList g (s.data.toList.drop (start+j+old.size))=Lib.replaceK old.data.toList new.data.toList K s.data.toList:=by rw[<-HR.out,Lib.replaceK_hit _ _ g _ j J,UO,a];simp only[TP,Ur]);(have u:g<=Lib.count (s.data.toList.drop (start+j+old.size)) old.data.toList:=by have:=Lib.count_hit (s:=s.data.toList.drop start) (sub:=old.data.toList) (i:=j) (λe=>by rw[e]at a;simp at a;omega) J;rw[UO,a]at this;rw[show start+j+old.size=start+(j+old.size) by omega];omega);(have M:=Lib.countB_mul_le old S _ (s.extract (start+j+old.size) s.size) (Sp _);have ay:((s.data.toList.drop start).take j).length=j:=by rw[TH,SK,b];omega);(have N:g*old.size<=s.size-(start+j+old.size):=by (have e1:Lib.countB (s.extract (start+j+old.size) s.size) old=Lib.count (s.data.toList.drop (start+j+old.size)) old.data.toList:=by unfold Lib.countB;rw[Lib.extract_to_end]);rw[e1,Ue]at M;have:=Nat.mul_le_mul_right old.size u;omega);have Hn:=pX l;have O:=pX r;have q:=ad (s.extract start s.size) wr (by rw[Ue];omega) HW.out.1;rw[Lib.extract_to_end,J]at q;clear l r HR M;go_wp2_with (first|(go_at_call 181;refine q.mono ?_;rintro e w' ⟨rfl,E⟩;rw[E];clear E));refine(iV L w.heap.size (w.heap.size+1) _ (s.extract start (start+j)) wr HB.out (by rw[Lib.byteCells_length,Ue];omega) HW.out.2).mono ?_;rintro e w3 ⟨rfl,y,d⟩;have c:w.heap.size+1<=w3.heap.size:=Sq HW.out.2 d.size;have H3:=pX y;have n:=pX (Below.La d (TG _));clear y d;go_wp2_with fail;refine(iV L w.heap.size (w.heap.size+1) _ new w3 H3.out (by rw[SQ,Lib.byteCells_length,Lib.strCells_length,Ue];omega) c).mono ?_;rintro e w4 ⟨rfl,h4,A⟩;rw[Hn.out]at h4;have H4:=pX h4;have Q:w.heap.size+1<=w4.heap.size:=Sq c A.size;have aM:=pX ((HW.out.1.trans n.out).trans (Below.La A (TG _)));clear h4 A;go_wp2;(go_roundg g);(case measure=>omega);case rel=>refine⟨i+1,start+j+old.size,_,by first|rfl|(simp;unfold wrap64;omega),by first|rfl|simp|(simp;unfold wrap64;omega),by omega,by omega,H4,pX ⟨aM.out,Q⟩,O,u,?_,N⟩;simp only[SQ,ay,<-Lib.size_eq];omega
def Fs(s old new:ByteArray)(m:Int)(w:World)(i:s.size<=100000)(d:w.cell? ⟨2,0,none⟩=some (.int .i64 m))(f:1<=old.size)(h:old=new\/Lib.countB s old=0):Calls (Qs fs) 166 #[.string s,.string old,.string new,.int .i64 (-1)] w λe w'=>e=.returned (.string s)/\w'=w:=by
 have ND:=ND L;by_cases b:old=new
 ·have a:(old.toList==new.toList)=true:=(Lib.bytes_beq_iff old new).2 b;go_enter (n166 L),Tryz.ntmps166;go_wp2;go_ret;exact⟨rfl,rfl⟩
 have c:=Any.strings_Count_any (P:=Qs fs) (ρ:=sR) (jD L).2.1 s old m w (by omega) d f;rw[h.resolve_left b]at c;have a:(old.toList==new.toList)=false:=(Lib.bytes_beq_false_iff old new).2 b;go_enter (n166 L),Tryz.ntmps166;go_wp2_with (first|(go_at_call 179;refine c.mono ?_;rintro e w' ⟨rfl,g⟩;rw[g]));go_ret;exact⟨rfl,rfl⟩
theorem mN(p)(a:p.1.data.toList≠[])(b:p.1.data.toList=p.2.data.toList):∀(n) (s),s.length<=n->bR p s=s
 |_,[],_=>mH p
 |0,c::s,h=>by simp at h
 |n+1,c::s,h=>by
  cases d:p.1.data.toList.isPrefixOf (c::s)with
  |true=>
   rw[mI d a,mN p a b n _ (by rw[SK];have:0<p.1.data.toList.length:=TO.2 a;omega),<-b]
   obtain⟨t,e⟩:=TW.1 d;rw[<-e,List.drop_left]
  |false=>rw[ly d,mN p a b n s (by simp only[Ss]at h;omega)]
theorem iI(p)(b:p.1.data.toList≠[]):∀(n) (s:Bs),s.length<=n->Lib.replaceK p.1.data.toList p.2.data.toList (Lib.count s p.1.data.toList) s=bR p s
 |n,[],_=>by
  have a:Lib.index [] p.1.data.toList= -1:=by unfold Lib.index;rw[Sm (by simpa using b)]
  rw[Lib.count_miss a,mH,Lib.replaceK]
 |0,c::s,h=>by simp at h
 |n+1,c::s,h=>by
  simp only[Ss]at h;have f:0<p.1.data.toList.length:=TO.2 b;cases d:p.1.data.toList.isPrefixOf (c::s)with
  |true=>
   have a:Lib.index (c::s) p.1.data.toList=((0:Nat):Int):=by unfold Lib.index;rw[Sn d];rfl
   rw[Lib.count_hit b a,UU 1,Lib.replaceK_hit _ _ _ _ 0 a,mI d b,SF,Tb,UB,iI p b n _ (by rw[SK,Ss];omega)]
  |false=>
   rw[ly d,<-iI p b n s (by omega)];have k:=Lib.index_ge s p.1.data.toList;by_cases g:Lib.index s p.1.data.toList= -1
   ·have a:Lib.index (c::s) p.1.data.toList= -1:=by unfold Lib.index;rw[Sm (by rw[d];simp),g];rfl
    rw[Lib.count_miss a,Lib.count_miss g,Lib.replaceK,Lib.replaceK]
   ·obtain⟨i,a⟩:∃i:Nat,Lib.index s p.1.data.toList=i:=⟨(Lib.index s p.1.data.toList).toNat,by omega⟩
    have e:Lib.index (c::s) p.1.data.toList=((i+1:Nat):Int):=by unfold Lib.index;rw[Sm (by rw[d];simp),Sm (by rw[a,Ts];omega),a];omega
    have j:(c::s).drop (i+1+p.1.data.toList.length)=s.drop (i+p.1.data.toList.length):=by rw[show i+1+p.1.data.toList.length=(i+p.1.data.toList.length)+1 by omega,Tp]
    rw[Lib.count_hit b e,Lib.count_hit b a,j,UU 1,Lib.replaceK_hit _ _ _ _ _ e,Lib.replaceK_hit _ _ _ _ _ a,j,Th];simp
def gP(w:World):Prop:=∃m,w.cell? ⟨2,0,none⟩=some (.int .i64 m)
def gP.stays{w w'}(h:gP w)(a:ae w w'):gP w':=h.elim λm h=>⟨m,a.cell h⟩
def AD(s:ByteArray)(p:Pr2)(w:World)(c:s.size<=100000)(a:gP w)(d:1<=p.1.size)(i:p.2.size<=100):Calls (Qs fs) 139 #[.string s,.string p.1,.string p.2] w λe w'=>e=.returned (.string (bs (bR p s.data.toList)))/\Below w.heap.size w w':=by (obtain⟨m,a⟩:=a;have f:p.1.data.toList≠[]:=λh=>by have:=Lib.size_eq p.1;rw[h,SM]at this;omega);(have QF:=QF L;have q:Calls (Qs fs) 166 #[.string s,.string p.1,.string p.2,.int .i64 (-1)] w λe w'=>e=.returned (.string (bs (bR p s.data.toList)))/\Below w.heap.size w w':=by have b:=iI p f _ s.data.toList (Sp _);by_cases he:p.1=p.2\/Lib.countB s p.1=0;refine(Fs L s p.1 p.2 m w c a d he).mono ?_;(rintro e w' ⟨rfl,rfl⟩;have e1:bR p s.data.toList=s.data.toList:=by obtain he|he:=he;exact mN p f (by rw[he]) _ _ (Sp _);rw[show Lib.count s.data.toList p.1.data.toList=0 from he]at b;rw[<-b,Lib.replaceK]);rw[e1];exact⟨rfl,Below.refl _ _⟩;have:=IN L s p.1 p.2 m w c a d i (λe=>he (.inl e)) rfl (VC λe=>he (.inr e));rw[show Lib.countB s p.1=Lib.count s.data.toList p.1.data.toList from rfl,b]at this;exact this);obtain⟨z,g⟩:=ex (bs (bR p s.data.toList));rw[<-g]at q⊢;clear g a;go_enter (n139 L),Tryz.ntmps139;go_wp2_with (first|(go_at_call 166;refine q.mono ?_;clear q;rintro e w2 ⟨rfl,j⟩));go_ret;exact⟨rfl,j⟩
def Lb(s:ByteArray)(p:Pr2)(a:Nat)(w:World)(d:s.size<=100000)(b:gP w)(f:1<=p.1.size)(g:p.2.size<=100)(h:w.cell? ⟨a,0,none⟩=some (.string p.1))(i:w.cell? ⟨a,1,none⟩=some (.string p.2)):Calls (Qs fs) 138 #[.string s,.pointer (some ⟨a,0,none⟩)] w λe w'=>e=.returned (.string (bs (bR p s.data.toList)))/\Below w.heap.size w w':=by have Qy:=Qy L;have q:=AD L s p w d b f g;obtain⟨z,c⟩:=ex (bs (bR p s.data.toList));rw[<-c]at q⊢;clear c b;go_enter (n138 L),Tryz.ntmps138;go_wp2_with (first|(go_at_call 139;refine q.mono ?_;clear q;rintro e w2 ⟨rfl,j⟩));go_ret;exact⟨rfl,j⟩
end Go.Proofs
namespace Go.Proofs
def jE(c:Case)(k:Nat):List Hit:=((List.range k).filterMap (gZ c)).foldl (λl h=>eF c h l) []
def nK(c k)(h:gZ c k=none):jE c (k+1)=jE c k:=by unfold jE;rw[UQ,List.filterMap_append,Vd];simp[h]
def nL(c k x)(h:gZ c k=some x):jE c (k+1)=eF c x (jE c k):=by unfold jE;rw[UQ,List.filterMap_append,Vd];simp[h]
theorem iW(c h):∀l,(eF c h l).length=l.length+1
 | []=>rfl
 |x::l=>by
  unfold eF;split
  ·rw[Ss,iW c h l,Ss]
  ·rfl
theorem pY(c h):∀l x,x∈eF c h l->x=h\/x∈l
 | [],x,a=>.inl (Uf.1 a)
 |y::l,x,a=>by
  unfold eF at a;split at a
  ·obtain e|e:=S6.1 a
   ·exact .inr (e▸VA ..)
   ·obtain e'|e':=pY c h l x e
    ·exact .inl e'
    ·exact .inr (Vh _ e')
  ·obtain e|e:=S6.1 a
   ·exact .inl e
   ·exact .inr e
theorem pq(c):∀k,(jE c k).length<=k
 |0=>Sp _
 |k+1=>by
  have a:=pq c k;cases h:gZ c k with
  |none=>rw[nK c k h];omega
  |some x=>rw[nL c k x h,iW];omega
theorem qW{c m kin}:∀(l) (j r) (v),(∀i,l[i]? =c.rules[j+i]?)->eE c m kin j l=some (r,v)->∃h,v=bp c.table c.rules[r].kind c.new m
 | [],j,r,v,_,h=>by cases h
 |x::l,j,r,v,b,h=>by
  unfold eE at h;split at h
  ·cases h
   have a:=b 0;rw[TK,Wa]at a;have d:j<c.rules.length:=(TX.1 a.symm).1;rw[Td d]at a;cases a;exact⟨d,rfl⟩
  ·refine qW l (j+1) r v (λi=>?_) h
   have:=b (i+1);rw[List.getElem?_cons_succ]at this;rw[this]
   congr 1
   omega
def tP(c k)(d:k<c.marks.length)(e:k<c.kin.length):(mL c k= -1/\gZ c k=none)\/∃r,∃h:r<c.rules.length,mL c k=r/\gZ c k=some ⟨k,r,bp c.table c.rules[r].kind c.new c.marks[k]⟩:=by have a:=Az c k d e;cases b:eE c c.marks[k] c.kin[k] 0 c.rules with|none=>rw[b]at a;exact .inl ⟨by unfold mL;rw[a];rfl,a⟩|some x=>obtain⟨r,v⟩:=x;obtain⟨h,rfl⟩:=qW c.rules 0 r v (λi=>by rw[SF]) b;rw[b]at a;exact .inr ⟨r,h,by unfold mL;rw[a];rfl,a⟩
theorem mO(c)(b:c.kin.length=c.marks.length):∀k,k<=c.marks.length->∀x∈jE c k,∃(i r:Nat) (v:Int),i<c.marks.length/\r<c.rules.length/\-1000000<=0/\x=⟨i,r,v⟩
 |0,_,x,a=>by cases a
 |k+1,f,x,a=>by
  obtain⟨_,h⟩|⟨r,d,_,h⟩:=tP c k (by omega) (by omega)
  ·rw[nK c k h]at a
   exact mO c b k (by omega) x a
  ·rw[nL c k _ h]at a
   obtain rfl|e:=pY c _ _ _ a
   ·exact⟨k,r,_,by omega,d,by decide,rfl⟩
   ·exact mO c b k (by omega) x e
def CO(c h l k)(b:k<=l.length)(d:∀i (a:i<l.length),i<k->aT c l[i] h=true)(e:∀a,aT c l[k] h=false):eF c h l=l.take k++h::l.drop k:=by
 induction l generalizing k with
 |nil=>cases k with
  |zero=>rfl
  |succ k=>simp at b
 |cons x l g=>
  cases k with
  |zero=>have:=e (Uz _);simp only[UC]at this;unfold eF;rw[this];rfl
  |succ k=>
   have f:=d 0 (Uz _) (Uz _);simp only[UC]at f;unfold eF;rw[f,Sn rfl,g k (by simpa using b) (λi a j=>?_) λa=>?_]
   ·rfl
   ·have:=d (i+1) (by simpa using a) (by omega)
    simpa using this
   ·have:=e (by simpa using a)
    simpa using this
def bu(l:List Hit):List Go.Value:=l.flatMap λx=>[.int .i64 x.mark,.int .i64 x.eh,.int .i64 x.level]
def ic(l):(bu l).length=l.length*3:=by induction l with|nil=>rfl|cons x l a=>unfold bu at a⊢;rw[Uc,SQ,a,Ss];simp only[Ss,SM];omega
def AE(a b):bu (a++b)=bu a++bu b:=by unfold bu;rw[US]
def sS(l):∀u∈bu l,∃n,u=.int .i64 n:=by intro u a;unfold bu at a;obtain⟨x,_,b⟩:=VH.1 a;simp only[S6,Ti,Tj]at b;rcases b with e|e|e<;>exact⟨_,e⟩
def CP(l k)(a:k<l.length):(bu l)[k*3]? =some (.int .i64 l[k].mark)/\(bu l)[k*3+1]? =some (.int .i64 l[k].eh)/\(bu l)[k*3+2]? =some (.int .i64 l[k].level):=by induction l generalizing k with|nil=>cases a|cons x l b=>cases k with|zero=>exact⟨rfl,rfl,rfl⟩|succ k=>(have h:=b k (by simpa using a);have e:bu (x::l)=[.int .i64 x.mark,.int .i64 x.eh,.int .i64 x.level]++bu l:=rfl;rw[e];have e3:∀j,([.int .i64 x.mark,.int .i64 x.eh,.int .i64 x.level]++bu l:List Go.Value)[(k+1)*3+j]? =(bu l)[k*3+j]? :=λj=>by rw[VD (by simp;omega)];congr 1;simp;omega);exact⟨(e3 0).trans h.1,(e3 1).trans h.2.1,(e3 2).trans h.2.2⟩
def Ft(l k):bu (l.drop k)=(bu l).drop (k*3):=by induction l generalizing k with|nil=>simp[bu]|cons x l a=>cases k with|zero=>rfl|succ k=>have e:bu (x::l)=.int .i64 x.mark:: .int .i64 x.eh:: .int .i64 x.level::bu l:=rfl;rw[Tp,a,e,show(k+1)*3=k*3+1+1+1 by omega,Tp,Tp,Tp]
def Fu(l k):bu (l.take k)=(bu l).take (k*3):=by induction l generalizing k with|nil=>simp[bu]|cons x l a=>cases k with|zero=>simp[bu]|succ k=>have e:∀l,bu (x::l)=.int .i64 x.mark:: .int .i64 x.eh:: .int .i64 x.level::bu l:=λ_=>rfl;rw[Th,e,a,e,show(k+1)*3=k*3+1+1+1 by omega,Th,Th,Th]
def mQ(c a b):aT c a b=true↔a.eh<b.eh\/(a.eh=b.eh/\(b.level<a.level\/(a.level=b.level/\(gG c a.mark<gG c b.mark\/(gG c a.mark=gG c b.mark/\a.mark<b.mark))))):=by unfold aT;generalize gG c a.mark=x;generalize gG c b.mark=y;by_cases d:a.eh=b.eh;rw[Sm (λh=>h d)];by_cases e:a.level=b.level;rw[Sm (λh=>h e)];by_cases f:x=y;rw[Sm (λh=>h f)];simp only[SP];omega;rw[Sn f];simp only[SP];omega;rw[Sn e];simp only[SP];omega;rw[Sn d];simp only[SP];omega
def oQ(c a b):aT c a b=false↔¬(a.eh<b.eh\/(a.eh=b.eh/\(b.level<a.level\/(a.level=b.level/\(gG c a.mark<gG c b.mark\/(gG c a.mark=gG c b.mark/\a.mark<b.mark)))))):=by rw[<-mQ];simp
def Da(c a):aT c a a=false:=by rw[oQ];omega
def AS{c a b}(h:aT c a b=true):aT c b a=false:=by rw[mQ]at h;rw[oQ];omega
def before_trans{c a b d}(h:aT c a b=true)(k:aT c b d=true):aT c a d=true:=by rw[mQ]at*;omega
def px{c a b d}(h:aT c a b=false)(k:aT c b d=false):aT c a d=false:=by rw[oQ]at*;omega
def I3{c a b}(h:aT c a b=false)(k:aT c b a=false):a=b:=by (rw[oQ]at*;have d:a.eh=b.eh:=by omega);(have e:a.level=b.level:=by omega);(have f:a.mark=b.mark:=by omega);cases a;cases b;simp_all
def kX(c:Case)(l:List Hit):Prop:=l.Pairwise λx y=>aT c y x=false
theorem py(c h):∀l,kX c l->kX c (eF c h l)
 | [],_=>by simp[eF,kX]
 |x::xs,d=>by
  have a:=VR.1 d;unfold eF;split
  ·rename_i b
   refine VR.2 ⟨λy hy=>?_,py c h xs a.2⟩;obtain rfl|hy:=pY c h xs y hy
   ·exact AS b
   ·exact a.1 y hy
  ·rename_i b
   have b:aT c x h=false:=by simpa using b
   refine VR.2 ⟨λy hy=>?_,d⟩;obtain rfl|hy:=S6.1 hy
   ·exact b
   ·exact px (a.1 y hy) b
theorem tR(c h):∀l,(eF c h l).Perm (h::l)
 | []=>.refl _
 |x::xs=>by
  unfold eF;split
  ·exact((tR c h xs).cons x).trans (.swap h x xs)
  ·exact .refl _
theorem AT(c):∀(xs acc:List Hit),kX c acc->kX c (xs.foldl (λl h=>eF c h l) acc)/\(xs.foldl (λl h=>eF c h l) acc).Perm (xs++acc)
 | [],acc,a=>⟨a,.refl _⟩
 |x::xs,acc,a=>by obtain⟨b,d⟩:=AT c xs (eF c x acc) (py c x acc a);refine⟨b,d.trans ?_⟩;exact((List.perm_append_left_iff xs).2 (tR c x acc)).trans (List.perm_middle)
def wm(c):kX c (bV c):=(AT c _ [] List.Pairwise.nil).1
def jW(c):(bV c).Perm ((List.range c.marks.length).filterMap (gZ c)):=by have h:=(AT c ((List.range c.marks.length).filterMap (gZ c)) [] List.Pairwise.nil).2;rw[TQ]at h;exact h
def yo{c l m}(d:kX c l)(e:kX c m)(h:l.Perm m):l=m:=List.Perm.eq_of_pairwise (le:=λx y=>aT c y x=false) (λa b _ _ f g=>I3 g f) d e h
def dB:Table where
 av:=[(⟨#[207,129]⟩,⟨#[114]⟩),(⟨#[206,191]⟩,⟨#[111]⟩),(⟨#[206,182]⟩,⟨#[122]⟩),(⟨#[206,177]⟩,⟨#[97]⟩),(⟨#[206,178]⟩,⟨#[118]⟩)]
 aF:=[⟨⟨#[105,116]⟩,[(⟨#[122]⟩,⟨#[115]⟩),(⟨#[104]⟩,⟨#[]⟩)]⟩]
 bq:=[[⟨#[114,111,122,97]⟩,⟨#[114,111,115,101]⟩]]
def um:Mark:=⟨⟨#[110,111,118,97]⟩,⟨#[207,129,206,191,206,182,206,177]⟩,[],9,false⟩
def qv:Mark:=⟨⟨#[97,108,98,97]⟩,⟨#[114,111,115,97]⟩,[],1,false⟩
def RE:Mark:=⟨⟨#[98,101,108,97]⟩,⟨#[114,111,115,101]⟩,[],3,false⟩
def o9:Mark:=⟨⟨#[99,111,114,97]⟩,⟨#[97,115,111,114]⟩,[],2,false⟩
def PT:Mark:=⟨⟨#[100,111,114,97]⟩,⟨#[114,104,111,115,97]⟩,[],9,false⟩
def exC:Case where
 table:=dB
 rules:=[⟨1,90,3,1⟩,⟨2,100,5,2⟩,⟨3,70,6,6⟩]
 new:=um
 marks:=[qv,RE,o9,PT]
 kin:=[4,5,3,9]
def exA:Mark:=⟨⟨#[97]⟩,⟨#[]⟩,[101,203],0,false⟩
def exB:Mark:=⟨⟨#[98]⟩,⟨#[]⟩,[101,204,305],0,false⟩
def mz:dD dB=0:=by decide+kernel
def xG:pf exC=0:=by decide+kernel
def OK:aQ dB.av [207,129,206,191,206,182,206,177]=[114,111,122,97]:=by decide+kernel
def MD:bH dB 0 [114,104,111,115,97]=[114,111,115,97]:=by decide+kernel
def JX:bp dB 0 um qv=75:=by decide+kernel
def JY:bp dB 3 um o9=75:=by decide+kernel
def JZ:bp dB 5 exA exB=60:=by decide+kernel
def mA:bQ exA=0/\bQ exB=0/\bQ um=0/\bQ qv=0/\bQ o9=0:=by decide+kernel
def J0:bV exC=[⟨0,0,100⟩,⟨1,1,100⟩]:=by decide+kernel
def J1:exC.rules.map (lU exC o9 3)=[⟨0,90,0⟩,⟨0,100,2⟩,⟨0,0,3⟩]:=by decide+kernel
def J2:exC.rules.length=3/\(exC.rules.map (lU exC PT 9))[0]? =some ⟨1,0,0⟩:=by decide+kernel
def ME:jJ [114,111,122,97] [114,111,115,101]=[(2,2,115),(3,2,101)]:=by unfold jJ;rw[aZ,Sm (by decide+kernel),Sm (by decide+kernel),Sm (by decide+kernel),Sm (by decide)];rw[aZ,Sm (by decide+kernel),Sm (by decide+kernel),Sm (by decide+kernel),Sm (by decide)];rw[aZ,Sm (by decide+kernel),Sm (by decide+kernel),Sm (by decide+kernel),Sn (by decide)];rw[aZ,Sm (by decide+kernel),Sm (by decide+kernel),Sm (by decide+kernel),Sn (by decide)];rw[aZ];rfl
def J3:jJ [97,98] [98,97]=[(0,0,98),(1,1,0)]:=by unfold jJ;rw[aZ,Sm (by decide+kernel),Sn (by decide+kernel)];rw[aZ,Sm (by decide+kernel),Sm (by decide+kernel),Sm (by decide+kernel),Sm (by decide)];rw[aZ,aZ];rfl
def tG:OkT dB:=by constructor;simp[dB];decide;simp[dB];intro x a p b;simp only[dB,S6,Ti,Tj]at a;subst a;simp only[S6,Ti,Tj]at b;rcases b with rfl|rfl<;>decide;simp[dB];simp[dB];simp[dB]
def uo:OkC exC:=by constructor;exact tG;constructor<;>simp[exC,um]<;>decide;intro m a;(simp only[exC,S6,Ti,Tj]at a;rcases a with rfl|rfl|rfl|rfl<;>(constructor<;>simp[qv,RE,o9,PT]<;>decide));decide;decide;decide;simp[exC];simp[exC]
end Go.Proofs

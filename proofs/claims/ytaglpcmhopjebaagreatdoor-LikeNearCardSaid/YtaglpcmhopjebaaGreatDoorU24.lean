import Derived.Shelf.Strings.Split
import Derived.Shelf.Strings.Builder2
import Derived.Lib.ReplaceLaws
import Derived.Deep.LoopGhost
import Derived.Lib.Replace
import Derived.Test.YtaglpcmhopjebaaGreatDoorU23
set_option linter.all false
set_option maxRecDepth 100000
set_option maxHeartbeats 20000000
namespace Go.Proofs
open Go.Tm Go.RowKit Go.Shelf
variable {fs:Array Func} (L:bT fs)
def QR(b n:Nat)(w:World)(a:w.heap[b]? =some (.cells #[.pointer none,.slice none 0 0] 153 (0,0)))(r:n<=281474976710656):Calls (Qs fs) 180 #[.pointer (some ⟨b,0,none⟩),.int .i64 n] w λe w'=>e=.returned (.tuple #[])/\gz (0<n) b (b+1) [] w'/\Below b w w':=by
 have X:=lW fs;have s:b<w.heap.size:=(Uk.1 a).1;by_cases t:n=0
 ·subst t;have OZ:=OZ L;have f:Lays.n240 (Qs fs) tK:={(jL L).2.2 with}
  have c:=Any.Builder_copyCheck_fresh f X.toX72 b w (by rw[Lib.cell_of_heap a];rfl) (by simp[World.shape?,a];rfl) (Lib.frozen_of_heap a 0);have i:Calls (Qs fs) 134 #[.pointer (some ⟨b,0,none⟩)] w λe w'=>e=.returned (.tuple #[])/\w'.heap[b]? =some (.cells #[.pointer (some ⟨b,0,none⟩),.slice none 0 0] 153 (0,0))/\Below b w w':=by (refine c.mono ?_;rintro e w' ⟨rfl,rfl⟩;refine⟨rfl,?_,(Below.refl b w).setCell (p:=⟨b,0,none⟩) (Ue _) _⟩;have u:(w.heap.modify b λo=>match o with| .cells c e F=>.cells (c.setIfInBounds 0 (.pointer (some ⟨b,0,none⟩))) e F|o=>o)[b]? =some (.cells #[.pointer (some ⟨b,0,none⟩),.slice none 0 0] 153 (0,0)):=by rw[U5,a];simp);exact u
  clear c a;go_enter (n180 L),Tryz.ntmps180;go_wp2_with (go_at_call 134;refine i.mono ?_);clear i;rintro e w1 ⟨rfl,d,j⟩;have m:w1.cell? ⟨b,1,none⟩=some (.slice none 0 0):=by rw[Lib.cell_of_heap d];rfl
  have x:Hid _:=d;have y:Hid _:=j;clear d j;have D:w1.drew.cell? ⟨b,1,none⟩=some (.slice none 0 0):=m;have k:(Qs fs).follows .mixedOrders=true:=(jL L).1.mixed;clear m;go_wp2
  go_region_o
  all_goals (go_wp2;exact bodyPost_end (results_none rfl _ _ _) rfl ⟨rfl,⟨Vk _,_,_,.inr rfl,x.out,World.ownsRow_nil _ _ _ _,λ_=>.inr rfl⟩,y.out.drew⟩)
 refine(Any.Builder_Grow_fresh (P:=Qs fs) (ρ:=tK) (jL L).2.2 X b b n w (Ue _) a (by omega) r).mono ?_;rintro e w' ⟨rfl,⟨_,v,z,q,A⟩,B⟩;refine⟨rfl,⟨Vk _,_,v,.inr rfl,z,?_,λ_=>.inl (by omega)⟩,B⟩;refine⟨q.1,?_⟩;obtain h|⟨g,cap,l,k1,E,C⟩:=q.2;exact .inl h;refine .inr ⟨g,cap,l,k1,?_,C⟩;have:g≠b:=λe=>A (by rw[k1,e];rfl);omega
def gz.real{q b B bs w}(h:gz q b B bs w)(a:bs=[]->¬q):gz False b B bs w:=by obtain⟨c,p,v,d,f,g,i⟩:=h;exact⟨c,p,v,d,f,g,λe=>(i e).elim (λx=>absurd x (a e)) .inr⟩
def qR{p:Prop}(h:p):Hid p:=h
def Below.Mu{b B:Nat}{w w':World}(h:Stp B b w w')(a:b<B):Below b w w':=⟨h.os,h.tape,h.output,h.size,λk c=>h.block k (by omega) (by omega)⟩
def J1(s old new:ByteArray)(m:Int)(w:World)(hs:s.size<=100000)(R:w.cell? ⟨2,0,none⟩=some (.int .i64 m))(S:1<=old.size)(U:new.size<=100)(V:old≠new){K:Nat}(W:Lib.countB s old=K)(X:1<=K):Calls (Qs fs) 166 #[.string s,.string old,.string new,.int .i64 (-1)] w λe w'=>e=.returned (.string ⟨(Lib.replaceK old.data.toList new.data.toList K s.data.toList).toArray⟩)/\Below w.heap.size w w':=by
 have O4:=O4 L;have Sp:=Sp L;have Sq:=Sq L;have e94:=e94 L;have e95:=e95 L;have Y:=Any.strings_Count_any (P:=Qs fs) (ρ:=tK) (jL L).2.1 s old m w (by omega) R S;have f:=Lib.countB_mul_le old S s.size s (Ue _);rw[W]at Y f;have B:Lib.count s.data.toList old.data.toList=K:=W;have a1:(old.toList==new.toList)=false:=(Lib.bytes_beq_false_iff old new).2 V;have a6:((K:Int)==0)=false:=UE.2 (by omega);have b:s.data.toList.length=s.size:=(Lib.size_eq s).symm;have a:old.data.toList.length=old.size:=(Lib.size_eq old).symm;have Z:2<w.heap.size:=World.block_lt_of_cell? _ _ R;have aa:K<=s.size:=Uf (Nat.le_mul_of_pos_right K (by omega)) f;have ab:s.size+K*new.size<=140737488355328:=by have:K*new.size<=s.size*100:=Nat.mul_le_mul aa U;omega
 have v:=Lib.grow_arg s.size K new.size old.size X f ab;have k:K<=Lib.count (s.data.toList.drop 0) old.data.toList:=by rw[UM,B];exact Ue _
 obtain⟨T,hT⟩:=ex (s.size+K*new.size-K*old.size);rw[<-hT]at v;have a7:T<=140737488355328:=by omega
 have C:T+K*old.size=s.size+K*new.size:=by omega
 have a8:decide (0<old.size)=true:=Um (by omega);have D:=λwr (h:Below w.heap.size w wr)=>(h.cell (p:=⟨2,0,none⟩) Z).trans R;have ad:=λ(t:ByteArray) wr (ht:t.size<=s.size) (h:Below w.heap.size w wr)=>Any.strings_Index (P:=Qs fs) (ρ:=tK) {(jL L).2.1 with} t old m wr (by omega) (D wr h);have af:=qR C;clear W B R D hT C;go_enter (n166 L),Tryz.ntmps166;go_wp2_with (first|(go_at_call 179;refine Y.mono ?_;rintro e w' ⟨rfl,E⟩;rw[E];clear E));clear Y;rw[v];refine(QR L w.heap.size T _ (heap_alloc_new w _) (by omega)).mono ?_;rintro e w1 ⟨rfl,F,x⟩;have H1:=qR F;have G:w.heap.size+1<=w1.heap.size:=by have:=x.size;simpa using this
 have ag:=qR (((Below.refl w.heap.size w).alloc (Ue _) _).trans x);clear F x v;go_wp2_with fail
 go_loopg [11,53] K (λg ak an wx=>∃(i start:Nat) (acc:List UInt8),an=.int .i64 i/\ak=.int .i64 start/\i+g=K/\start<=s.size/\
  Hid (gz (0<T) w.heap.size (w.heap.size+1) (Lib.byteCells acc) wx)/\Hid (Below w.heap.size w wx/\w.heap.size+1<=wx.heap.size)/\Hid (acc++Lib.replaceK old.data.toList new.data.toList g (s.data.toList.drop start)=Lib.replaceK old.data.toList new.data.toList K s.data.toList)/\
  g<=Lib.count (s.data.toList.drop start) old.data.toList/\acc.length+(s.size-start)+g*new.size=T+g*old.size/\g*old.size<=s.size-start)
 case atStart=>exact⟨0,0,[],rfl,rfl,by omega,Ul _,H1,qR ⟨ag.out,G⟩,qR (by simp),k,by have:=af.out;simp;omega,by omega⟩
 case round=>
  obtain⟨i,start,acc,rfl,rfl,ba,bb,HB,HW,HR,bk,H,bm⟩:=hrel;have bo:w.heap.size<=wr.heap.size:=HW.out.1.size;have c1:(0:Int)<=(start:Int):=by omega
  have c2:(start:Int)<=(s.size:Int):=by omega
  cases gk with
  |zero=>(have ao:¬((i:Int)<(K:Int)):=by omega);(go_wp2_with fail);(refine(jf L w.heap.size (w.heap.size+1) _ _ wr HB.out (by rw[Lib.byteCells_length,VF];simp at H;omega) HW.out.2).mono ?_;rintro e w3 ⟨rfl,y,d⟩;rw[Lib.strCells_eq,Lib.extract_to_end,<-Lib.byteCells_append]at y;have o:acc++s.data.toList.drop start=Lib.replaceK old.data.toList new.data.toList K s.data.toList:=HR.out;have z:(acc++s.data.toList.drop start).length=T:=by rw[Uw,Uq,b];simp at H;omega);rw[o]at y z;have H3:=qR (y.real λe h0=>by have:=UQ List.length e;rw[Lib.byteCells_length,z]at this;simp at this;omega);have n:=qR (HW.out.1.trans (Below.Mu d (Vk _)));have c:w.heap.size<=w3.heap.size:=n.out.size;clear y d o z;go_wp2_with fail;refine(xc L w.heap.size (w.heap.size+1) _ w3 H3.out c).mono ?_;rintro e w5 ⟨rfl,I,_⟩;have ar:=qR (n.out.trans I);clear I;go_wp2;go_ret;exact⟨rfl,ar.out⟩
  |succ g=>(have ao:(i:Int)<(K:Int):=by omega);(obtain⟨j,J⟩:=Lib.index_of_count (s:=s.data.toList.drop start) (old:=old.data.toList) (by omega);have ax:j+old.size<=s.size-start:=by have:=Lib.index_room (s.data.toList.drop start) old.data.toList (by rw[J];omega);rw[J,Uq,b,a]at this;omega);(have bp:(g+1)*new.size=g*new.size+new.size:=Nat.succ_mul _ _;have bq:(g+1)*old.size=g*old.size+old.size:=Nat.succ_mul _ _;have c3:(0:Int)<=(start:Int)+(j:Int):=by omega);(have c4:(start:Int)+(j:Int)<=(s.size:Int):=by omega);(have c5:(start:Int)<=(start:Int)+(j:Int):=by omega);(have l:Lib.byteCells acc++Lib.strCells (s.extract start (start+j))++Lib.strCells new=Lib.byteCells (acc++(s.data.toList.drop start).take j++new.data.toList):=by rw[Lib.strCells_eq,Lib.strCells_eq,Lib.extract_data,Xp,<-Lib.byteCells_append,<-Lib.byteCells_append]);(have r:(acc++(s.data.toList.drop start).take j++new.data.toList)++Lib.replaceK old.data.toList new.data.toList g (s.data.toList.drop (start+j+old.size))=Lib.replaceK old.data.toList new.data.toList K s.data.toList:=by rw[<-HR.out,Lib.replaceK_hit _ _ g _ j J,WB,a];simp only[Vn,Wb]);(have u:g<=Lib.count (s.data.toList.drop (start+j+old.size)) old.data.toList:=by have:=Lib.count_hit (s:=s.data.toList.drop start) (sub:=old.data.toList) (i:=j) (λe=>by rw[e]at a;simp at a;omega) J;rw[WB,a]at this;rw[show start+j+old.size=start+(j+old.size) by omega];omega);(have M:=Lib.countB_mul_le old S _ (s.extract (start+j+old.size) s.size) (Ue _);have ay:((s.data.toList.drop start).take j).length=j:=by rw[Ve,Uq,b];omega);(have N:g*old.size<=s.size-(start+j+old.size):=by (have e1:Lib.countB (s.extract (start+j+old.size) s.size) old=Lib.count (s.data.toList.drop (start+j+old.size)) old.data.toList:=by unfold Lib.countB;rw[Lib.extract_to_end]);rw[e1,VF]at M;have:=Nat.mul_le_mul_right old.size u;omega);have Hn:=qR l;have O:=qR r;have q:=ad (s.extract start s.size) wr (by rw[VF];omega) HW.out.1;rw[Lib.extract_to_end,J]at q;clear l r HR M;go_wp2_with (first|(go_at_call 181;refine q.mono ?_;rintro e w' ⟨rfl,E⟩;rw[E];clear E));refine(jf L w.heap.size (w.heap.size+1) _ (s.extract start (start+j)) wr HB.out (by rw[Lib.byteCells_length,VF];omega) HW.out.2).mono ?_;rintro e w3 ⟨rfl,y,d⟩;have c:w.heap.size+1<=w3.heap.size:=Uf HW.out.2 d.size;have H3:=qR y;have n:=qR (Below.Mu d (Vk _));clear y d;go_wp2_with fail;refine(jf L w.heap.size (w.heap.size+1) _ new w3 H3.out (by rw[Uw,Lib.byteCells_length,Lib.strCells_length,VF];omega) c).mono ?_;rintro e w4 ⟨rfl,h4,A⟩;rw[Hn.out]at h4;have H4:=qR h4;have Q:w.heap.size+1<=w4.heap.size:=Uf c A.size;have aM:=qR ((HW.out.1.trans n.out).trans (Below.Mu A (Vk _)));clear h4 A;go_wp2;(go_roundg g);(case measure=>omega);case rel=>refine⟨i+1,start+j+old.size,_,by first|rfl|(simp;unfold wrap64;omega),by first|rfl|simp|(simp;unfold wrap64;omega),by omega,by omega,H4,qR ⟨aM.out,Q⟩,O,u,?_,N⟩;simp only[Uw,ay,<-Lib.size_eq];omega
def GD(s old new:ByteArray)(m:Int)(w:World)(i:s.size<=100000)(d:w.cell? ⟨2,0,none⟩=some (.int .i64 m))(f:1<=old.size)(h:old=new\/Lib.countB s old=0):Calls (Qs fs) 166 #[.string s,.string old,.string new,.int .i64 (-1)] w λe w'=>e=.returned (.string s)/\w'=w:=by
 have O4:=O4 L;by_cases b:old=new
 ·have a:(old.toList==new.toList)=true:=(Lib.bytes_beq_iff old new).2 b;go_enter (n166 L),Tryz.ntmps166;go_wp2;go_ret;exact⟨rfl,rfl⟩
 have c:=Any.strings_Count_any (P:=Qs fs) (ρ:=tK) (jL L).2.1 s old m w (by omega) d f;rw[h.resolve_left b]at c;have a:(old.toList==new.toList)=false:=(Lib.bytes_beq_false_iff old new).2 b;go_enter (n166 L),Tryz.ntmps166;go_wp2_with (first|(go_at_call 179;refine c.mono ?_;rintro e w' ⟨rfl,g⟩;rw[g]));go_ret;exact⟨rfl,rfl⟩
theorem nk(p)(a:p.1.data.toList≠[])(b:p.1.data.toList=p.2.data.toList):∀(n) (s),s.length<=n->bN p s=s
 |_,[],_=>m9 p
 |0,c::s,h=>by simp at h
 |n+1,c::s,h=>by
  cases d:p.1.data.toList.isPrefixOf (c::s)with
  |true=>
   rw[nc d a,nk p a b n _ (by rw[Uq];have:0<p.1.data.toList.length:=Vs.2 a;omega),<-b]
   obtain⟨t,e⟩:=Va.1 d;rw[<-e,List.drop_left]
  |false=>rw[lQ d,nk p a b n s (by simp only[Ug]at h;omega)]
theorem iX(p)(a:p.1.data.toList≠[]):∀(n) (s:Bs),s.length<=n->Lib.replaceK p.1.data.toList p.2.data.toList (Lib.count s p.1.data.toList) s=bN p s
 |n,[],_=>by
  have hi:Lib.index [] p.1.data.toList= -1:=by unfold Lib.index;rw[Uc (by simpa using a)]
  rw[Lib.count_miss hi,m9,Lib.replaceK]
 |0,c::s,h=>by simp at h
 |n+1,c::s,h=>by
  simp only[Ug]at h;have e:0<p.1.data.toList.length:=Vs.2 a;cases b:p.1.data.toList.isPrefixOf (c::s)with
  |true=>
   have hi:Lib.index (c::s) p.1.data.toList=((0:Nat):Int):=by unfold Lib.index;rw[Ud b];rfl
   rw[Lib.count_hit a hi,VT 1,Lib.replaceK_hit _ _ _ _ 0 hi,nc b a,Uo,UL,Wr,iX p a n _ (by rw[Uq,Ug];omega)]
  |false=>
   rw[lQ b,<-iX p a n s (by omega)];have j:=Lib.index_ge s p.1.data.toList;by_cases f:Lib.index s p.1.data.toList= -1
   ·have hi:Lib.index (c::s) p.1.data.toList= -1:=by unfold Lib.index;rw[Uc (by rw[b];simp),f];rfl
    rw[Lib.count_miss hi,Lib.count_miss f,Lib.replaceK,Lib.replaceK]
   ·obtain⟨i,hi⟩:∃i:Nat,Lib.index s p.1.data.toList=i:=⟨(Lib.index s p.1.data.toList).toNat,by omega⟩
    have d:Lib.index (c::s) p.1.data.toList=((i+1:Nat):Int):=by unfold Lib.index;rw[Uc (by rw[b];simp),Uc (by rw[hi,U3];omega),hi];omega
    have g:(c::s).drop (i+1+p.1.data.toList.length)=s.drop (i+p.1.data.toList.length):=by rw[show i+1+p.1.data.toList.length=(i+p.1.data.toList.length)+1 by omega,UU]
    rw[Lib.count_hit a d,Lib.count_hit a hi,g,VT 1,Lib.replaceK_hit _ _ _ _ _ d,Lib.replaceK_hit _ _ _ _ _ hi,g,UO];simp
def fW(w:World):Prop:=∃m,w.cell? ⟨2,0,none⟩=some (.int .i64 m)
def fW.stays{w w'}(h:fW w)(a:ae w w'):fW w':=h.elim λm h=>⟨m,a.cell h⟩
def BD(s:ByteArray)(p:Pr2)(w:World)(c:s.size<=100000)(a:fW w)(d:1<=p.1.size)(i:p.2.size<=100):Calls (Qs fs) 139 #[.string s,.string p.1,.string p.2] w λe w'=>e=.returned (.string (bs (bN p s.data.toList)))/\Below w.heap.size w w':=by (obtain⟨m,a⟩:=a;have f:p.1.data.toList≠[]:=λh=>by have:=Lib.size_eq p.1;rw[h,Uv]at this;omega);(have Sk:=Sk L;have q:Calls (Qs fs) 166 #[.string s,.string p.1,.string p.2,.int .i64 (-1)] w λe w'=>e=.returned (.string (bs (bN p s.data.toList)))/\Below w.heap.size w w':=by have b:=iX p f _ s.data.toList (Ue _);by_cases he:p.1=p.2\/Lib.countB s p.1=0;refine(GD L s p.1 p.2 m w c a d he).mono ?_;(rintro e w' ⟨rfl,rfl⟩;have e1:bN p s.data.toList=s.data.toList:=by obtain he|he:=he;exact nk p f (by rw[he]) _ _ (Ue _);rw[show Lib.count s.data.toList p.1.data.toList=0 from he]at b;rw[<-b,Lib.replaceK]);rw[e1];exact⟨rfl,Below.refl _ _⟩;have:=J1 L s p.1 p.2 m w c a d i (λe=>he (.inl e)) rfl (Xv λe=>he (.inr e));rw[show Lib.countB s p.1=Lib.count s.data.toList p.1.data.toList from rfl,b]at this;exact this);obtain⟨z,g⟩:=ex (bs (bN p s.data.toList));rw[<-g]at q⊢;clear g a;go_enter (n139 L),Tryz.ntmps139;go_wp2_with (first|(go_at_call 166;refine q.mono ?_;clear q;rintro e w2 ⟨rfl,j⟩));go_ret;exact⟨rfl,j⟩
def Mv(s:ByteArray)(p:Pr2)(a:Nat)(w:World)(d:s.size<=100000)(b:fW w)(f:1<=p.1.size)(g:p.2.size<=100)(h:w.cell? ⟨a,0,none⟩=some (.string p.1))(i:w.cell? ⟨a,1,none⟩=some (.string p.2)):Calls (Qs fs) 138 #[.string s,.pointer (some ⟨a,0,none⟩)] w λe w'=>e=.returned (.string (bs (bN p s.data.toList)))/\Below w.heap.size w w':=by have R9:=R9 L;have q:=BD L s p w d b f g;obtain⟨z,c⟩:=ex (bs (bN p s.data.toList));rw[<-c]at q⊢;clear c b;go_enter (n138 L),Tryz.ntmps138;go_wp2_with (first|(go_at_call 139;refine q.mono ?_;clear q;rintro e w2 ⟨rfl,j⟩));go_ret;exact⟨rfl,j⟩
end Go.Proofs
namespace Go.Proofs
def jM(c:Case)(k:Nat):List Hit:=((List.range k).filterMap (iv c)).foldl (λl h=>eE c h l) []
def oh(c k)(h:iv c k=none):jM c (k+1)=jM c k:=by unfold jM;rw[WG,List.filterMap_append,WE];simp[h]
def oq(c k x)(h:iv c k=some x):jM c (k+1)=eE c x (jM c k):=by unfold jM;rw[WG,List.filterMap_append,WE];simp[h]
theorem jg(c h):∀l,(eE c h l).length=l.length+1
 | []=>rfl
 |x::l=>by
  unfold eE;split
  ·rw[Ug,jg c h l,Ug]
  ·rfl
theorem qS(c h):∀l x,x∈eE c h l->x=h\/x∈l
 | [],x,a=>.inl (VG.1 a)
 |y::l,x,a=>by
  unfold eE at a;split at a
  ·obtain e|e:=UC.1 a
   ·exact .inr (e▸Xt ..)
   ·obtain e'|e':=qS c h l x e
    ·exact .inl e'
    ·exact .inr (W6 _ e')
  ·obtain e|e:=UC.1 a
   ·exact .inl e
   ·exact .inr e
theorem pV(c):∀k,(jM c k).length<=k
 |0=>Ue _
 |k+1=>by
  have a:=pV c k;cases h:iv c k with
  |none=>rw[oh c k h];omega
  |some x=>rw[oq c k x h,jg];omega
theorem rT{c m kin}:∀(l) (j r) (v),(∀i,l[i]? =c.rules[j+i]?)->eD c m kin j l=some (r,v)->∃h,v=bE c.table c.rules[r].kind c.new m
 | [],j,r,v,_,h=>by cases h
 |x::l,j,r,v,b,h=>by
  unfold eD at h;split at h
  ·cases h
   have a:=b 0;rw[Vp,XW]at a;have d:j<c.rules.length:=(Vl.1 a.symm).1;rw[UG d]at a;cases a;exact⟨d,rfl⟩
  ·refine rT l (j+1) r v (λi=>?_) h
   have:=b (i+1);rw[List.getElem?_cons_succ]at this;rw[this]
   congr 1
   omega
def uI(c k)(d:k<c.marks.length)(e:k<c.kin.length):(ni c k= -1/\iv c k=none)\/∃r,∃h:r<c.rules.length,ni c k=r/\iv c k=some ⟨k,r,bE c.table c.rules[r].kind c.new c.marks[k]⟩:=by have a:=Bu c k d e;cases b:eD c c.marks[k] c.kin[k] 0 c.rules with|none=>rw[b]at a;exact .inl ⟨by unfold ni;rw[a];rfl,a⟩|some x=>obtain⟨r,v⟩:=x;obtain⟨h,rfl⟩:=rT c.rules 0 r v (λi=>by rw[Uo]) b;rw[b]at a;exact .inr ⟨r,h,by unfold ni;rw[a];rfl,a⟩
theorem nn(c)(b:c.kin.length=c.marks.length):∀k,k<=c.marks.length->∀x∈jM c k,∃(i r:Nat) (v:Int),i<c.marks.length/\r<c.rules.length/\-1000000<=0/\x=⟨i,r,v⟩
 |0,_,x,a=>by cases a
 |k+1,f,x,a=>by
  obtain⟨_,h⟩|⟨r,d,_,h⟩:=uI c k (by omega) (by omega)
  ·rw[oh c k h]at a
   exact nn c b k (by omega) x a
  ·rw[oq c k _ h]at a
   obtain rfl|e:=qS c _ _ _ a
   ·exact⟨k,r,_,by omega,d,by decide,rfl⟩
   ·exact nn c b k (by omega) x e
def DY(c h l k)(a:k<=l.length)(b:∀i (hi:i<l.length),i<k->aU c l[i] h=true)(d:∀hi,aU c l[k] h=false):eE c h l=l.take k++h::l.drop k:=by
 induction l generalizing k with
 |nil=>cases k with
  |zero=>rfl
  |succ k=>simp at a
 |cons x l f=>
  cases k with
  |zero=>have:=d (Wp _);simp only[Ws]at this;unfold eE;rw[this];rfl
  |succ k=>
   have e:=b 0 (Wp _) (Wp _);simp only[Ws]at e;unfold eE;rw[e,Ud rfl,f k (by simpa using a) (λi hi g=>?_) λhi=>?_]
   ·rfl
   ·have:=b (i+1) (by simpa using hi) (by omega)
    simpa using this
   ·have:=d (by simpa using hi)
    simpa using this
def bF(l:List Hit):List Go.Value:=l.flatMap λx=>[.int .i64 x.mark,.int .i64 x.eo,.int .i64 x.level]
def iA(l):(bF l).length=l.length*3:=by induction l with|nil=>rfl|cons x l a=>unfold bF at a⊢;rw[VR,Uw,a,Ug];simp only[Ug,Uv];omega
def BF(a b):bF (a++b)=bF a++bF b:=by unfold bF;rw[WI]
def tL(l):∀u∈bF l,∃n,u=.int .i64 n:=by intro u a;unfold bF at a;obtain⟨x,_,b⟩:=XA.1 a;simp only[UC,UR,US]at b;rcases b with e|e|e<;>exact⟨_,e⟩
def DZ(l k)(a:k<l.length):(bF l)[k*3]? =some (.int .i64 l[k].mark)/\(bF l)[k*3+1]? =some (.int .i64 l[k].eo)/\(bF l)[k*3+2]? =some (.int .i64 l[k].level):=by induction l generalizing k with|nil=>cases a|cons x l b=>cases k with|zero=>exact⟨rfl,rfl,rfl⟩|succ k=>(have h:=b k (by simpa using a);have e:bF (x::l)=[.int .i64 x.mark,.int .i64 x.eo,.int .i64 x.level]++bF l:=rfl;rw[e];have e3:∀j,([.int .i64 x.mark,.int .i64 x.eo,.int .i64 x.level]++bF l:List Go.Value)[(k+1)*3+j]? =(bF l)[k*3+j]? :=λj=>by rw[Xw (by simp;omega)];congr 1;simp;omega);exact⟨(e3 0).trans h.1,(e3 1).trans h.2.1,(e3 2).trans h.2.2⟩
def GF(l k):bF (l.drop k)=(bF l).drop (k*3):=by induction l generalizing k with|nil=>simp[bF]|cons x l a=>cases k with|zero=>rfl|succ k=>have e:bF (x::l)=.int .i64 x.mark:: .int .i64 x.eo:: .int .i64 x.level::bF l:=rfl;rw[UU,a,e,show(k+1)*3=k*3+1+1+1 by omega,UU,UU,UU]
def GJ(l k):bF (l.take k)=(bF l).take (k*3):=by induction l generalizing k with|nil=>simp[bF]|cons x l a=>cases k with|zero=>simp[bF]|succ k=>have e:∀l,bF (x::l)=.int .i64 x.mark:: .int .i64 x.eo:: .int .i64 x.level::bF l:=λ_=>rfl;rw[UO,e,a,e,show(k+1)*3=k*3+1+1+1 by omega,UO,UO,UO]
def ns(c a b):aU c a b=true↔a.eo<b.eo\/(a.eo=b.eo/\(b.level<a.level\/(a.level=b.level/\(gX c a.mark<gX c b.mark\/(gX c a.mark=gX c b.mark/\a.mark<b.mark))))):=by unfold aU;generalize gX c a.mark=x;generalize gX c b.mark=y;by_cases d:a.eo=b.eo;rw[Uc (λh=>h d)];by_cases e:a.level=b.level;rw[Uc (λh=>h e)];by_cases f:x=y;rw[Uc (λh=>h f)];simp only[Uu];omega;rw[Ud f];simp only[Uu];omega;rw[Ud e];simp only[Uu];omega;rw[Ud d];simp only[Uu];omega
def pw(c a b):aU c a b=false↔¬(a.eo<b.eo\/(a.eo=b.eo/\(b.level<a.level\/(a.level=b.level/\(gX c a.mark<gX c b.mark\/(gX c a.mark=gX c b.mark/\a.mark<b.mark)))))):=by rw[<-ns];simp
def Eg(c a):aU c a a=false:=by rw[pw];omega
def BS{c a b}(h:aU c a b=true):aU c b a=false:=by rw[ns]at h;rw[pw];omega
def before_trans{c a b d}(h:aU c a b=true)(k:aU c b d=true):aU c a d=true:=by rw[ns]at*;omega
def pZ{c a b d}(h:aU c a b=false)(k:aU c b d=false):aU c a d=false:=by rw[pw]at*;omega
def Kg{c a b}(h:aU c a b=false)(k:aU c b a=false):a=b:=by (rw[pw]at*;have d:a.eo=b.eo:=by omega);(have e:a.level=b.level:=by omega);(have f:a.mark=b.mark:=by omega);cases a;cases b;simp_all
def lE(c:Case)(l:List Hit):Prop:=l.Pairwise λx y=>aU c y x=false
theorem qe(c h):∀l,lE c l->lE c (eE c h l)
 | [],_=>by simp[eE,lE]
 |x::xs,d=>by
  have a:=XJ.1 d;unfold eE;split
  ·rename_i b
   refine XJ.2 ⟨λy hy=>?_,qe c h xs a.2⟩;obtain rfl|hy:=qS c h xs y hy
   ·exact BS b
   ·exact a.1 y hy
  ·rename_i b
   have b:aU c x h=false:=by simpa using b
   refine XJ.2 ⟨λy hy=>?_,d⟩;obtain rfl|hy:=UC.1 hy
   ·exact b
   ·exact pZ (a.1 y hy) b
theorem uK(c h):∀l,(eE c h l).Perm (h::l)
 | []=>.refl _
 |x::xs=>by
  unfold eE;split
  ·exact((uK c h xs).cons x).trans (.swap h x xs)
  ·exact .refl _
theorem BT(c):∀(xs acc:List Hit),lE c acc->lE c (xs.foldl (λl h=>eE c h l) acc)/\(xs.foldl (λl h=>eE c h l) acc).Perm (xs++acc)
 | [],acc,a=>⟨a,.refl _⟩
 |x::xs,acc,a=>by obtain⟨b,d⟩:=BT c xs (eE c x acc) (qe c x acc a);refine⟨b,d.trans ?_⟩;exact((List.perm_append_left_iff xs).2 (uK c x acc)).trans (List.perm_middle)
def xw(c):lE c (cj c):=(BT c _ [] List.Pairwise.nil).1
def kg(c):(cj c).Perm ((List.range c.marks.length).filterMap (iv c)):=by have h:=(BT c ((List.range c.marks.length).filterMap (iv c)) [] List.Pairwise.nil).2;rw[Vb]at h;exact h
def zb{c l m}(d:lE c l)(e:lE c m)(h:l.Perm m):l=m:=List.Perm.eq_of_pairwise (le:=λx y=>aU c y x=false) (λa b _ _ f g=>Kg g f) d e h
def dL:Table where
 aq:=[(⟨#[207,129]⟩,⟨#[114]⟩),(⟨#[206,191]⟩,⟨#[111]⟩),(⟨#[206,182]⟩,⟨#[122]⟩),(⟨#[206,177]⟩,⟨#[97]⟩),(⟨#[206,178]⟩,⟨#[118]⟩)]
 au:=[⟨⟨#[105,116]⟩,[(⟨#[122]⟩,⟨#[115]⟩),(⟨#[104]⟩,⟨#[]⟩)]⟩]
 bz:=[[⟨#[114,111,122,97]⟩,⟨#[114,111,115,101]⟩]]
def vi:Mark:=⟨⟨#[110,111,118,97]⟩,⟨#[207,129,206,191,206,182,206,177]⟩,[],9,false⟩
def rv:Mark:=⟨⟨#[97,108,98,97]⟩,⟨#[114,111,115,97]⟩,[],1,false⟩
def TA:Mark:=⟨⟨#[98,101,108,97]⟩,⟨#[114,111,115,101]⟩,[],3,false⟩
def pL:Mark:=⟨⟨#[99,111,114,97]⟩,⟨#[97,115,111,114]⟩,[],2,false⟩
def Rj:Mark:=⟨⟨#[100,111,114,97]⟩,⟨#[114,104,111,115,97]⟩,[],9,false⟩
def exC:Case where
 table:=dL
 rules:=[⟨1,90,3,1⟩,⟨2,100,5,2⟩,⟨3,70,6,6⟩]
 new:=vi
 marks:=[rv,TA,pL,Rj]
 kin:=[4,5,3,9]
def exA:Mark:=⟨⟨#[97]⟩,⟨#[]⟩,[101,203],0,false⟩
def exB:Mark:=⟨⟨#[98]⟩,⟨#[]⟩,[101,204,305],0,false⟩
def mU:bj dL=0:=by decide+kernel
def yu:pQ exC=0:=by decide+kernel
def Qc:aL dL.aq [207,129,206,191,206,182,206,177]=[114,111,122,97]:=by decide+kernel
def N8:bl dL 0 [114,104,111,115,97]=[114,111,115,97]:=by decide+kernel
def Lf:bE dL 0 vi rv=75:=by decide+kernel
def Lg:bE dL 3 vi pL=75:=by decide+kernel
def Lh:bE dL 5 exA exB=60:=by decide+kernel
def mV:dB exA=0/\dB exB=0/\dB vi=0/\dB rv=0/\dB pL=0:=by decide+kernel
def Li:cj exC=[⟨0,0,100⟩,⟨1,1,100⟩]:=by decide+kernel
def Lj:exC.rules.map (mA exC pL 3)=[⟨0,90,0⟩,⟨0,100,2⟩,⟨0,0,3⟩]:=by decide+kernel
def Lk:exC.rules.length=3/\(exC.rules.map (mA exC Rj 9))[0]? =some ⟨1,0,0⟩:=by decide+kernel
def N9:iG [114,111,122,97] [114,111,115,101]=[(2,2,115),(3,2,101)]:=by unfold iG;rw[bf,Uc (by decide+kernel),Uc (by decide+kernel),Uc (by decide+kernel),Uc (by decide)];rw[bf,Uc (by decide+kernel),Uc (by decide+kernel),Uc (by decide+kernel),Uc (by decide)];rw[bf,Uc (by decide+kernel),Uc (by decide+kernel),Uc (by decide+kernel),Ud (by decide)];rw[bf,Uc (by decide+kernel),Uc (by decide+kernel),Uc (by decide+kernel),Ud (by decide)];rw[bf];rfl
def Ll:iG [97,98] [98,97]=[(0,0,98),(1,1,0)]:=by unfold iG;rw[bf,Uc (by decide+kernel),Ud (by decide+kernel)];rw[bf,Uc (by decide+kernel),Uc (by decide+kernel),Uc (by decide+kernel),Uc (by decide)];rw[bf,bf];rfl
def uv:OkT dL:=by constructor;simp[dL];decide;simp[dL];intro x a p b;simp only[dL,UC,UR,US]at a;subst a;simp only[UC,UR,US]at b;rcases b with rfl|rfl<;>decide;simp[dL];simp[dL];simp[dL]
def vl:OkC exC:=by constructor;exact uv;constructor<;>simp[exC,vi]<;>decide;intro m a;(simp only[exC,UC,UR,US]at a;rcases a with rfl|rfl|rfl|rfl<;>(constructor<;>simp[rv,TA,pL,Rj]<;>decide));decide;decide;decide;simp[exC];simp[exC]
end Go.Proofs

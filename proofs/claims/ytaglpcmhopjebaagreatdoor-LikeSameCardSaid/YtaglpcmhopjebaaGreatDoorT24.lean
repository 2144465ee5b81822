import Derived.Shelf.Strings.Split
import Derived.Shelf.Strings.Builder2
import Derived.Lib.ReplaceLaws
import Derived.Deep.LoopGhost
import Derived.Lib.Replace
import Derived.Test.YtaglpcmhopjebaaGreatDoorT23
set_option linter.all false
set_option maxRecDepth 100000
set_option maxHeartbeats 20000000
namespace Go.Proofs
open Go.Tm Go.RowKit Go.Shelf
variable {fs:Array Func} (L:bQ fs)
def PI(b n:Nat)(w:World)(a:w.heap[b]? =some (.cells #[.pointer none,.slice none 0 0] 153 (0,0)))(r:n<=281474976710656):Calls (Qs fs) 180 #[.pointer (some ⟨b,0,none⟩),.int .i64 n] w λe w'=>e=.returned (.tuple #[])/\fX (0<n) b (b+1) [] w'/\Below b w w':=by
 have X:=lF fs;have s:b<w.heap.size:=(S8.1 a).1;by_cases t:n=0
 ·subst t;have NX:=NX L;have f:Lays.n240 (Qs fs) sT:={(jv L).2.2 with}
  have c:=Any.Builder_copyCheck_fresh f X.toX72 b w (by rw[Lib.cell_of_heap a];rfl) (by simp[World.shape?,a];rfl) (Lib.frozen_of_heap a 0);have i:Calls (Qs fs) 134 #[.pointer (some ⟨b,0,none⟩)] w λe w'=>e=.returned (.tuple #[])/\w'.heap[b]? =some (.cells #[.pointer (some ⟨b,0,none⟩),.slice none 0 0] 153 (0,0))/\Below b w w':=by (refine c.mono ?_;rintro e w' ⟨rfl,rfl⟩;refine⟨rfl,?_,(Below.refl b w).setCell (p:=⟨b,0,none⟩) (SU _) _⟩;have u:(w.heap.modify b λo=>match o with| .cells c e F=>.cells (c.setIfInBounds 0 (.pointer (some ⟨b,0,none⟩))) e F|o=>o)[b]? =some (.cells #[.pointer (some ⟨b,0,none⟩),.slice none 0 0] 153 (0,0)):=by rw[TR,a];simp);exact u
  clear c a;go_enter (n180 L),Tryz.ntmps180;go_wp2_with (go_at_call 134;refine i.mono ?_);clear i;rintro e w1 ⟨rfl,d,j⟩;have m:w1.cell? ⟨b,1,none⟩=some (.slice none 0 0):=by rw[Lib.cell_of_heap d];rfl
  have x:Hid _:=d;have y:Hid _:=j;clear d j;have D:w1.drew.cell? ⟨b,1,none⟩=some (.slice none 0 0):=m;have k:(Qs fs).follows .mixedOrders=true:=(jv L).1.mixed;clear m;go_wp2
  go_region_o
  all_goals (go_wp2;exact bodyPost_end (results_none rfl _ _ _) rfl ⟨rfl,⟨T7 _,_,_,.inr rfl,x.out,World.ownsRow_nil _ _ _ _,λ_=>.inr rfl⟩,y.out.drew⟩)
 refine(Any.Builder_Grow_fresh (P:=Qs fs) (ρ:=sT) (jv L).2.2 X b b n w (SU _) a (by omega) r).mono ?_;rintro e w' ⟨rfl,⟨_,v,z,q,A⟩,B⟩;refine⟨rfl,⟨T7 _,_,v,.inr rfl,z,?_,λ_=>.inl (by omega)⟩,B⟩;refine⟨q.1,?_⟩;obtain h|⟨g,cap,l,k1,E,C⟩:=q.2;exact .inl h;refine .inr ⟨g,cap,l,k1,?_,C⟩;have:g≠b:=λe=>A (by rw[k1,e];rfl);omega
def fX.real{q b B bs w}(h:fX q b B bs w)(a:bs=[]->¬q):fX False b B bs w:=by obtain⟨c,p,v,d,f,g,i⟩:=h;exact⟨c,p,v,d,f,g,λe=>(i e).elim (λx=>absurd x (a e)) .inr⟩
def qe{p:Prop}(h:p):Hid p:=h
def Below.Lw{b B:Nat}{w w':World}(h:Stp B b w w')(a:b<B):Below b w w':=⟨h.os,h.tape,h.output,h.size,λk c=>h.block k (by omega) (by omega)⟩
def I6(s old new:ByteArray)(m:Int)(w:World)(hs:s.size<=100000)(R:w.cell? ⟨2,0,none⟩=some (.int .i64 m))(S:1<=old.size)(U:new.size<=100)(V:old≠new){K:Nat}(W:Lib.countB s old=K)(X:1<=K):Calls (Qs fs) 166 #[.string s,.string old,.string new,.int .i64 (-1)] w λe w'=>e=.returned (.string ⟨(Lib.replaceK old.data.toList new.data.toList K s.data.toList).toArray⟩)/\Below w.heap.size w w':=by
 have N7:=N7 L;have Q1:=Q1 L;have Q2:=Q2 L;have e94:=e94 L;have e95:=e95 L;have Y:=Any.strings_Count_any (P:=Qs fs) (ρ:=sT) (jv L).2.1 s old m w (by omega) R S;have f:=Lib.countB_mul_le old S s.size s (SU _);rw[W]at Y f;have B:Lib.count s.data.toList old.data.toList=K:=W;have a1:(old.toList==new.toList)=false:=(Lib.bytes_beq_false_iff old new).2 V;have a6:((K:Int)==0)=false:=Tu.2 (by omega);have b:s.data.toList.length=s.size:=(Lib.size_eq s).symm;have a:old.data.toList.length=old.size:=(Lib.size_eq old).symm;have Z:2<w.heap.size:=World.block_lt_of_cell? _ _ R;have aa:K<=s.size:=SV (Nat.le_mul_of_pos_right K (by omega)) f;have ab:s.size+K*new.size<=140737488355328:=by have:K*new.size<=s.size*100:=Nat.mul_le_mul aa U;omega
 have v:=Lib.grow_arg s.size K new.size old.size X f ab;have k:K<=Lib.count (s.data.toList.drop 0) old.data.toList:=by rw[TF,B];exact SU _
 obtain⟨T,hT⟩:=ex (s.size+K*new.size-K*old.size);rw[<-hT]at v;have a7:T<=140737488355328:=by omega
 have C:T+K*old.size=s.size+K*new.size:=by omega
 have a8:decide (0<old.size)=true:=Ta (by omega);have D:=λwr (h:Below w.heap.size w wr)=>(h.cell (p:=⟨2,0,none⟩) Z).trans R;have ad:=λ(t:ByteArray) wr (ht:t.size<=s.size) (h:Below w.heap.size w wr)=>Any.strings_Index (P:=Qs fs) (ρ:=sT) {(jv L).2.1 with} t old m wr (by omega) (D wr h);have af:=qe C;clear W B R D hT C;go_enter (n166 L),Tryz.ntmps166;go_wp2_with (first|(go_at_call 179;refine Y.mono ?_;rintro e w' ⟨rfl,E⟩;rw[E];clear E));clear Y;rw[v];refine(PI L w.heap.size T _ (heap_alloc_new w _) (by omega)).mono ?_;rintro e w1 ⟨rfl,F,x⟩;have H1:=qe F;have G:w.heap.size+1<=w1.heap.size:=by have:=x.size;simpa using this
 have ag:=qe (((Below.refl w.heap.size w).alloc (SU _) _).trans x);clear F x v;go_wp2_with fail
 go_loopg [11,53] K (λg ak an wx=>∃(i start:Nat) (acc:List UInt8),an=.int .i64 i/\ak=.int .i64 start/\i+g=K/\start<=s.size/\
  Hid (fX (0<T) w.heap.size (w.heap.size+1) (Lib.byteCells acc) wx)/\Hid (Below w.heap.size w wx/\w.heap.size+1<=wx.heap.size)/\Hid (acc++Lib.replaceK old.data.toList new.data.toList g (s.data.toList.drop start)=Lib.replaceK old.data.toList new.data.toList K s.data.toList)/\
  g<=Lib.count (s.data.toList.drop start) old.data.toList/\acc.length+(s.size-start)+g*new.size=T+g*old.size/\g*old.size<=s.size-start)
 case atStart=>exact⟨0,0,[],rfl,rfl,by omega,Tb _,H1,qe ⟨ag.out,G⟩,qe (by simp),k,by have:=af.out;simp;omega,by omega⟩
 case round=>
  obtain⟨i,start,acc,rfl,rfl,ba,bb,HB,HW,HR,bk,H,bm⟩:=hrel;have bo:w.heap.size<=wr.heap.size:=HW.out.1.size;have c1:(0:Int)<=(start:Int):=by omega
  have c2:(start:Int)<=(s.size:Int):=by omega
  cases gk with
  |zero=>(have ao:¬((i:Int)<(K:Int)):=by omega);(go_wp2_with fail);(refine(iQ L w.heap.size (w.heap.size+1) _ _ wr HB.out (by rw[Lib.byteCells_length,UD];simp at H;omega) HW.out.2).mono ?_;rintro e w3 ⟨rfl,y,d⟩;rw[Lib.strCells_eq,Lib.extract_to_end,<-Lib.byteCells_append]at y;have o:acc++s.data.toList.drop start=Lib.replaceK old.data.toList new.data.toList K s.data.toList:=HR.out;have z:(acc++s.data.toList.drop start).length=T:=by rw[To,Tg,b];simp at H;omega);rw[o]at y z;have H3:=qe (y.real λe h0=>by have:=Tx List.length e;rw[Lib.byteCells_length,z]at this;simp at this;omega);have n:=qe (HW.out.1.trans (Below.Lw d (T7 _)));have c:w.heap.size<=w3.heap.size:=n.out.size;clear y d o z;go_wp2_with fail;refine(vR L w.heap.size (w.heap.size+1) _ w3 H3.out c).mono ?_;rintro e w5 ⟨rfl,I,_⟩;have ar:=qe (n.out.trans I);clear I;go_wp2;go_ret;exact⟨rfl,ar.out⟩
  |succ g=>(have ao:(i:Int)<(K:Int):=by omega);(obtain⟨j,J⟩:=Lib.index_of_count (s:=s.data.toList.drop start) (old:=old.data.toList) (by omega);have ax:j+old.size<=s.size-start:=by have:=Lib.index_room (s.data.toList.drop start) old.data.toList (by rw[J];omega);rw[J,Tg,b,a]at this;omega);(have br:(g+1)*new.size=g*new.size+new.size:=Nat.succ_mul _ _;have bs:(g+1)*old.size=g*old.size+old.size:=Nat.succ_mul _ _;have c3:(0:Int)<=(start:Int)+(j:Int):=by omega);(have c4:(start:Int)+(j:Int)<=(s.size:Int):=by omega);(have c5:(start:Int)<=(start:Int)+(j:Int):=by omega);(have l:Lib.byteCells acc++Lib.strCells (s.extract start (start+j))++Lib.strCells new=Lib.byteCells (acc++(s.data.toList.drop start).take j++new.data.toList):=by rw[Lib.strCells_eq,Lib.strCells_eq,Lib.extract_data,WI,<-Lib.byteCells_append,<-Lib.byteCells_append]);(have r:(acc++(s.data.toList.drop start).take j++new.data.toList)++Lib.replaceK old.data.toList new.data.toList g (s.data.toList.drop (start+j+old.size))=Lib.replaceK old.data.toList new.data.toList K s.data.toList:=by rw[<-HR.out,Lib.replaceK_hit _ _ g _ j J,Vg,a];simp only[Uj,UN]);(have u:g<=Lib.count (s.data.toList.drop (start+j+old.size)) old.data.toList:=by have:=Lib.count_hit (s:=s.data.toList.drop start) (sub:=old.data.toList) (i:=j) (λe=>by rw[e]at a;simp at a;omega) J;rw[Vg,a]at this;rw[show start+j+old.size=start+(j+old.size) by omega];omega);(have M:=Lib.countB_mul_le old S _ (s.extract (start+j+old.size) s.size) (SU _);have ay:((s.data.toList.drop start).take j).length=j:=by rw[Ua,Tg,b];omega);(have N:g*old.size<=s.size-(start+j+old.size):=by (have e1:Lib.countB (s.extract (start+j+old.size) s.size) old=Lib.count (s.data.toList.drop (start+j+old.size)) old.data.toList:=by unfold Lib.countB;rw[Lib.extract_to_end]);rw[e1,UD]at M;have:=Nat.mul_le_mul_right old.size u;omega);have Hn:=qe l;have O:=qe r;have q:=ad (s.extract start s.size) wr (by rw[UD];omega) HW.out.1;rw[Lib.extract_to_end,J]at q;clear l r HR M;go_wp2_with (first|(go_at_call 181;refine q.mono ?_;rintro e w' ⟨rfl,E⟩;rw[E];clear E));refine(iQ L w.heap.size (w.heap.size+1) _ (s.extract start (start+j)) wr HB.out (by rw[Lib.byteCells_length,UD];omega) HW.out.2).mono ?_;rintro e w3 ⟨rfl,y,d⟩;have c:w.heap.size+1<=w3.heap.size:=SV HW.out.2 d.size;have H3:=qe y;have n:=qe (Below.Lw d (T7 _));clear y d;go_wp2_with fail;refine(iQ L w.heap.size (w.heap.size+1) _ new w3 H3.out (by rw[To,Lib.byteCells_length,Lib.strCells_length,UD];omega) c).mono ?_;rintro e w4 ⟨rfl,h4,A⟩;rw[Hn.out]at h4;have H4:=qe h4;have Q:w.heap.size+1<=w4.heap.size:=SV c A.size;have aM:=qe ((HW.out.1.trans n.out).trans (Below.Lw A (T7 _)));clear h4 A;go_wp2;(go_roundg g);(case measure=>omega);case rel=>refine⟨i+1,start+j+old.size,_,by first|rfl|(simp;unfold wrap64;omega),by first|rfl|simp|(simp;unfold wrap64;omega),by omega,by omega,H4,qe ⟨aM.out,Q⟩,O,u,?_,N⟩;simp only[To,ay,<-Lib.size_eq];omega
def FG(s old new:ByteArray)(m:Int)(w:World)(i:s.size<=100000)(d:w.cell? ⟨2,0,none⟩=some (.int .i64 m))(f:1<=old.size)(h:old=new\/Lib.countB s old=0):Calls (Qs fs) 166 #[.string s,.string old,.string new,.int .i64 (-1)] w λe w'=>e=.returned (.string s)/\w'=w:=by
 have N7:=N7 L;by_cases b:old=new
 ·have a:(old.toList==new.toList)=true:=(Lib.bytes_beq_iff old new).2 b;go_enter (n166 L),Tryz.ntmps166;go_wp2;go_ret;exact⟨rfl,rfl⟩
 have c:=Any.strings_Count_any (P:=Qs fs) (ρ:=sT) (jv L).2.1 s old m w (by omega) d f;rw[h.resolve_left b]at c;have a:(old.toList==new.toList)=false:=(Lib.bytes_beq_false_iff old new).2 b;go_enter (n166 L),Tryz.ntmps166;go_wp2_with (first|(go_at_call 179;refine c.mono ?_;rintro e w' ⟨rfl,g⟩;rw[g]));go_ret;exact⟨rfl,rfl⟩
theorem mN(p)(a:p.1.data.toList≠[])(b:p.1.data.toList=p.2.data.toList):∀(n) (s),s.length<=n->bT p s=s
 |_,[],_=>jM p
 |0,c::s,h=>by simp at h
 |n+1,c::s,h=>by
  cases d:p.1.data.toList.isPrefixOf (c::s)with
  |true=>
   rw[mI d a,mN p a b n _ (by rw[Tg];have:0<p.1.data.toList.length:=TW.2 a;omega),<-b]
   obtain⟨t,e⟩:=T8.1 d;rw[<-e,List.drop_left]
  |false=>rw[lz d,mN p a b n s (by simp only[SY]at h;omega)]
theorem iG(p)(b:p.1.data.toList≠[]):∀(n) (s:Bs),s.length<=n->Lib.replaceK p.1.data.toList p.2.data.toList (Lib.count s p.1.data.toList) s=bT p s
 |n,[],_=>by
  have a:Lib.index [] p.1.data.toList= -1:=by unfold Lib.index;rw[SQ (by simpa using b)]
  rw[Lib.count_miss a,jM,Lib.replaceK]
 |0,c::s,h=>by simp at h
 |n+1,c::s,h=>by
  simp only[SY]at h;have f:0<p.1.data.toList.length:=TW.2 b;cases d:p.1.data.toList.isPrefixOf (c::s)with
  |true=>
   have a:Lib.index (c::s) p.1.data.toList=((0:Nat):Int):=by unfold Lib.index;rw[SS d];rfl
   rw[Lib.count_hit b a,Us 1,Lib.replaceK_hit _ _ _ _ 0 a,mI d b,Tc,TL,U4,iG p b n _ (by rw[Tg,SY];omega)]
  |false=>
   rw[lz d,<-iG p b n s (by omega)];have k:=Lib.index_ge s p.1.data.toList;by_cases g:Lib.index s p.1.data.toList= -1
   ·have a:Lib.index (c::s) p.1.data.toList= -1:=by unfold Lib.index;rw[SQ (by rw[d];simp),g];rfl
    rw[Lib.count_miss a,Lib.count_miss g,Lib.replaceK,Lib.replaceK]
   ·obtain⟨i,a⟩:∃i:Nat,Lib.index s p.1.data.toList=i:=⟨(Lib.index s p.1.data.toList).toNat,by omega⟩
    have e:Lib.index (c::s) p.1.data.toList=((i+1:Nat):Int):=by unfold Lib.index;rw[SQ (by rw[d];simp),SQ (by rw[a,T6];omega),a];omega
    have j:(c::s).drop (i+1+p.1.data.toList.length)=s.drop (i+p.1.data.toList.length):=by rw[show i+1+p.1.data.toList.length=(i+p.1.data.toList.length)+1 by omega,TN]
    rw[Lib.count_hit b e,Lib.count_hit b a,j,Us 1,Lib.replaceK_hit _ _ _ _ _ e,Lib.replaceK_hit _ _ _ _ _ a,j,TE];simp
def fN(w:World):Prop:=∃m,w.cell? ⟨2,0,none⟩=some (.int .i64 m)
def fN.stays{w w'}(h:fN w)(a:ae w w'):fN w':=h.elim λm h=>⟨m,a.cell h⟩
def AE(s:ByteArray)(p:Pr2)(w:World)(c:s.size<=100000)(a:fN w)(d:1<=p.1.size)(i:p.2.size<=100):Calls (Qs fs) 139 #[.string s,.string p.1,.string p.2] w λe w'=>e=.returned (.string (bs (bT p s.data.toList)))/\Below w.heap.size w w':=by (obtain⟨m,a⟩:=a;have f:p.1.data.toList≠[]:=λh=>by have:=Lib.size_eq p.1;rw[h,Th]at this;omega);(have QX:=QX L;have q:Calls (Qs fs) 166 #[.string s,.string p.1,.string p.2,.int .i64 (-1)] w λe w'=>e=.returned (.string (bs (bT p s.data.toList)))/\Below w.heap.size w w':=by have b:=iG p f _ s.data.toList (SU _);by_cases he:p.1=p.2\/Lib.countB s p.1=0;refine(FG L s p.1 p.2 m w c a d he).mono ?_;(rintro e w' ⟨rfl,rfl⟩;have e1:bT p s.data.toList=s.data.toList:=by obtain he|he:=he;exact mN p f (by rw[he]) _ _ (SU _);rw[show Lib.count s.data.toList p.1.data.toList=0 from he]at b;rw[<-b,Lib.replaceK]);rw[e1];exact⟨rfl,Below.refl _ _⟩;have:=I6 L s p.1 p.2 m w c a d i (λe=>he (.inl e)) rfl (Wa λe=>he (.inr e));rw[show Lib.countB s p.1=Lib.count s.data.toList p.1.data.toList from rfl,b]at this;exact this);obtain⟨z,g⟩:=ex (bs (bT p s.data.toList));rw[<-g]at q⊢;clear g a;go_enter (n139 L),Tryz.ntmps139;go_wp2_with (first|(go_at_call 166;refine q.mono ?_;clear q;rintro e w2 ⟨rfl,j⟩));go_ret;exact⟨rfl,j⟩
def Lx(s:ByteArray)(p:Pr2)(a:Nat)(w:World)(d:s.size<=100000)(b:fN w)(f:1<=p.1.size)(g:p.2.size<=100)(h:w.cell? ⟨a,0,none⟩=some (.string p.1))(i:w.cell? ⟨a,1,none⟩=some (.string p.2)):Calls (Qs fs) 138 #[.string s,.pointer (some ⟨a,0,none⟩)] w λe w'=>e=.returned (.string (bs (bT p s.data.toList)))/\Below w.heap.size w w':=by have QQ:=QQ L;have q:=AE L s p w d b f g;obtain⟨z,c⟩:=ex (bs (bT p s.data.toList));rw[<-c]at q⊢;clear c b;go_enter (n138 L),Tryz.ntmps138;go_wp2_with (first|(go_at_call 139;refine q.mono ?_;clear q;rintro e w2 ⟨rfl,j⟩));go_ret;exact⟨rfl,j⟩
end Go.Proofs
namespace Go.Proofs
def jw(c:Case)(k:Nat):List Hit:=((List.range k).filterMap (gZ c)).foldl (λl h=>eA c h l) []
def nL(c k)(h:gZ c k=none):jw c (k+1)=jw c k:=by unfold jw;rw[Uq,List.filterMap_append,Vi];simp[h]
def nM(c k x)(h:gZ c k=some x):jw c (k+1)=eA c x (jw c k):=by unfold jw;rw[Uq,List.filterMap_append,Vi];simp[h]
theorem iR(c h):∀l,(eA c h l).length=l.length+1
 | []=>rfl
 |x::l=>by
  unfold eA;split
  ·rw[SY,iR c h l,SY]
  ·rfl
theorem qf(c h):∀l x,x∈eA c h l->x=h\/x∈l
 | [],x,a=>.inl (UE.1 a)
 |y::l,x,a=>by
  unfold eA at a;split at a
  ·obtain e|e:=Ts.1 a
   ·exact .inr (e▸V8 ..)
   ·obtain e'|e':=qf c h l x e
    ·exact .inl e'
    ·exact .inr (VD _ e')
  ·obtain e|e:=Ts.1 a
   ·exact .inl e
   ·exact .inr e
theorem pw(c):∀k,(jw c k).length<=k
 |0=>SU _
 |k+1=>by
  have a:=pw c k;cases h:gZ c k with
  |none=>rw[nL c k h];omega
  |some x=>rw[nM c k x h,iR];omega
theorem ra{c m kin}:∀(l) (j r) (v),(∀i,l[i]? =c.rules[j+i]?)->ey c m kin j l=some (r,v)->∃h,v=aS c.table c.rules[r].kind c.new m
 | [],j,r,v,_,h=>by cases h
 |x::l,j,r,v,b,h=>by
  unfold ey at h;split at h
  ·cases h
   have a:=b 0;rw[Uc,WK]at a;have d:j<c.rules.length:=(Uk.1 a.symm).1;rw[TA d]at a;cases a;exact⟨d,rfl⟩
  ·refine ra l (j+1) r v (λi=>?_) h
   have:=b (i+1);rw[List.getElem?_cons_succ]at this;rw[this]
   congr 1
   omega
def tP(c k)(d:k<c.marks.length)(e:k<c.kin.length):(mL c k= -1/\gZ c k=none)\/∃r,∃h:r<c.rules.length,mL c k=r/\gZ c k=some ⟨k,r,aS c.table c.rules[r].kind c.new c.marks[k]⟩:=by have a:=AA c k d e;cases b:ey c c.marks[k] c.kin[k] 0 c.rules with|none=>rw[b]at a;exact .inl ⟨by unfold mL;rw[a];rfl,a⟩|some x=>obtain⟨r,v⟩:=x;obtain⟨h,rfl⟩:=ra c.rules 0 r v (λi=>by rw[Tc]) b;rw[b]at a;exact .inr ⟨r,h,by unfold mL;rw[a];rfl,a⟩
theorem mO(c)(b:c.kin.length=c.marks.length):∀k,k<=c.marks.length->∀x∈jw c k,∃(i r:Nat) (v:Int),i<c.marks.length/\r<c.rules.length/\-1000000<=0/\x=⟨i,r,v⟩
 |0,_,x,a=>by cases a
 |k+1,f,x,a=>by
  obtain⟨_,h⟩|⟨r,d,_,h⟩:=tP c k (by omega) (by omega)
  ·rw[nL c k h]at a
   exact mO c b k (by omega) x a
  ·rw[nM c k _ h]at a
   obtain rfl|e:=qf c _ _ _ a
   ·exact⟨k,r,_,by omega,d,by decide,rfl⟩
   ·exact mO c b k (by omega) x e
def CU(c h l k)(b:k<=l.length)(d:∀i (a:i<l.length),i<k->aR c l[i] h=true)(e:∀a,aR c l[k] h=false):eA c h l=l.take k++h::l.drop k:=by
 induction l generalizing k with
 |nil=>cases k with
  |zero=>rfl
  |succ k=>simp at b
 |cons x l g=>
  cases k with
  |zero=>have:=e (UZ _);simp only[Wi]at this;unfold eA;rw[this];rfl
  |succ k=>
   have f:=d 0 (UZ _) (UZ _);simp only[Wi]at f;unfold eA;rw[f,SS rfl,g k (by simpa using b) (λi a j=>?_) λa=>?_]
   ·rfl
   ·have:=d (i+1) (by simpa using a) (by omega)
    simpa using this
   ·have:=e (by simpa using a)
    simpa using this
def bt(l:List Hit):List Go.Value:=l.flatMap λx=>[.int .i64 x.mark,.int .i64 x.dY,.int .i64 x.level]
def ia(l):(bt l).length=l.length*3:=by induction l with|nil=>rfl|cons x l a=>unfold bt at a⊢;rw[UB,To,a,SY];simp only[SY,Th];omega
def AF(a b):bt (a++b)=bt a++bt b:=by unfold bt;rw[Vk]
def sU(l):∀u∈bt l,∃n,u=.int .i64 n:=by intro u a;unfold bt at a;obtain⟨x,_,b⟩:=Wj.1 a;simp only[Ts,TB,TC]at b;rcases b with e|e|e<;>exact⟨_,e⟩
def CW(l k)(a:k<l.length):(bt l)[k*3]? =some (.int .i64 l[k].mark)/\(bt l)[k*3+1]? =some (.int .i64 l[k].dY)/\(bt l)[k*3+2]? =some (.int .i64 l[k].level):=by induction l generalizing k with|nil=>cases a|cons x l b=>cases k with|zero=>exact⟨rfl,rfl,rfl⟩|succ k=>(have h:=b k (by simpa using a);have e:bt (x::l)=[.int .i64 x.mark,.int .i64 x.dY,.int .i64 x.level]++bt l:=rfl;rw[e];have e3:∀j,([.int .i64 x.mark,.int .i64 x.dY,.int .i64 x.level]++bt l:List Go.Value)[(k+1)*3+j]? =(bt l)[k*3+j]? :=λj=>by rw[Wb (by simp;omega)];congr 1;simp;omega);exact⟨(e3 0).trans h.1,(e3 1).trans h.2.1,(e3 2).trans h.2.2⟩
def FH(l k):bt (l.drop k)=(bt l).drop (k*3):=by induction l generalizing k with|nil=>simp[bt]|cons x l a=>cases k with|zero=>rfl|succ k=>have e:bt (x::l)=.int .i64 x.mark:: .int .i64 x.dY:: .int .i64 x.level::bt l:=rfl;rw[TN,a,e,show(k+1)*3=k*3+1+1+1 by omega,TN,TN,TN]
def FI(l k):bt (l.take k)=(bt l).take (k*3):=by induction l generalizing k with|nil=>simp[bt]|cons x l a=>cases k with|zero=>simp[bt]|succ k=>have e:∀l,bt (x::l)=.int .i64 x.mark:: .int .i64 x.dY:: .int .i64 x.level::bt l:=λ_=>rfl;rw[TE,e,a,e,show(k+1)*3=k*3+1+1+1 by omega,TE,TE,TE]
def mQ(c a b):aR c a b=true↔a.dY<b.dY\/(a.dY=b.dY/\(b.level<a.level\/(a.level=b.level/\(gG c a.mark<gG c b.mark\/(gG c a.mark=gG c b.mark/\a.mark<b.mark))))):=by unfold aR;generalize gG c a.mark=x;generalize gG c b.mark=y;by_cases d:a.dY=b.dY;rw[SQ (λh=>h d)];by_cases e:a.level=b.level;rw[SQ (λh=>h e)];by_cases f:x=y;rw[SQ (λh=>h f)];simp only[Tj];omega;rw[SS f];simp only[Tj];omega;rw[SS e];simp only[Tj];omega;rw[SS d];simp only[Tj];omega
def oT(c a b):aR c a b=false↔¬(a.dY<b.dY\/(a.dY=b.dY/\(b.level<a.level\/(a.level=b.level/\(gG c a.mark<gG c b.mark\/(gG c a.mark=gG c b.mark/\a.mark<b.mark)))))):=by rw[<-mQ];simp
def De(c a):aR c a a=false:=by rw[oT];omega
def AU{c a b}(h:aR c a b=true):aR c b a=false:=by rw[mQ]at h;rw[oT];omega
def before_trans{c a b d}(h:aR c a b=true)(k:aR c b d=true):aR c a d=true:=by rw[mQ]at*;omega
def pB{c a b d}(h:aR c a b=false)(k:aR c b d=false):aR c a d=false:=by rw[oT]at*;omega
def Jk{c a b}(h:aR c a b=false)(k:aR c b a=false):a=b:=by (rw[oT]at*;have d:a.dY=b.dY:=by omega);(have e:a.level=b.level:=by omega);(have f:a.mark=b.mark:=by omega);cases a;cases b;simp_all
def kV(c:Case)(l:List Hit):Prop:=l.Pairwise λx y=>aR c y x=false
theorem pC(c h):∀l,kV c l->kV c (eA c h l)
 | [],_=>by simp[eA,kV]
 |x::xs,d=>by
  have a:=Ws.1 d;unfold eA;split
  ·rename_i b
   refine Ws.2 ⟨λy hy=>?_,pC c h xs a.2⟩;obtain rfl|hy:=qf c h xs y hy
   ·exact AU b
   ·exact a.1 y hy
  ·rename_i b
   have b:aR c x h=false:=by simpa using b
   refine Ws.2 ⟨λy hy=>?_,d⟩;obtain rfl|hy:=Ts.1 hy
   ·exact b
   ·exact pB (a.1 y hy) b
theorem tR(c h):∀l,(eA c h l).Perm (h::l)
 | []=>.refl _
 |x::xs=>by
  unfold eA;split
  ·exact((tR c h xs).cons x).trans (.swap h x xs)
  ·exact .refl _
theorem AV(c):∀(xs acc:List Hit),kV c acc->kV c (xs.foldl (λl h=>eA c h l) acc)/\(xs.foldl (λl h=>eA c h l) acc).Perm (xs++acc)
 | [],acc,a=>⟨a,.refl _⟩
 |x::xs,acc,a=>by obtain⟨b,d⟩:=AV c xs (eA c x acc) (pC c x acc a);refine⟨b,d.trans ?_⟩;exact((List.perm_append_left_iff xs).2 (tR c x acc)).trans (List.perm_middle)
def wI(c):kV c (bW c):=(AV c _ [] List.Pairwise.nil).1
def jR(c):(bW c).Perm ((List.range c.marks.length).filterMap (gZ c)):=by have h:=(AV c ((List.range c.marks.length).filterMap (gZ c)) [] List.Pairwise.nil).2;rw[Ux]at h;exact h
def yu{c l m}(d:kV c l)(e:kV c m)(h:l.Perm m):l=m:=List.Perm.eq_of_pairwise (le:=λx y=>aR c y x=false) (λa b _ _ f g=>Jk g f) d e h
def dE:Table where
 aq:=[(⟨#[207,129]⟩,⟨#[114]⟩),(⟨#[206,191]⟩,⟨#[111]⟩),(⟨#[206,182]⟩,⟨#[122]⟩),(⟨#[206,177]⟩,⟨#[97]⟩),(⟨#[206,178]⟩,⟨#[118]⟩)]
 aw:=[⟨⟨#[105,116]⟩,[(⟨#[122]⟩,⟨#[115]⟩),(⟨#[104]⟩,⟨#[]⟩)]⟩]
 di:=[[⟨#[114,111,122,97]⟩,⟨#[114,111,115,101]⟩]]
def uo:Mark:=⟨⟨#[110,111,118,97]⟩,⟨#[207,129,206,191,206,182,206,177]⟩,[],9,false⟩
def qy:Mark:=⟨⟨#[97,108,98,97]⟩,⟨#[114,111,115,97]⟩,[],1,false⟩
def R5:Mark:=⟨⟨#[98,101,108,97]⟩,⟨#[114,111,115,101]⟩,[],3,false⟩
def pc:Mark:=⟨⟨#[99,111,114,97]⟩,⟨#[97,115,111,114]⟩,[],2,false⟩
def Qe:Mark:=⟨⟨#[100,111,114,97]⟩,⟨#[114,104,111,115,97]⟩,[],9,false⟩
def exC:Case where
 table:=dE
 rules:=[⟨1,90,3,1⟩,⟨2,100,5,2⟩,⟨3,70,6,6⟩]
 new:=uo
 marks:=[qy,R5,pc,Qe]
 kin:=[4,5,3,9]
def exA:Mark:=⟨⟨#[97]⟩,⟨#[]⟩,[101,203],0,false⟩
def exB:Mark:=⟨⟨#[98]⟩,⟨#[]⟩,[101,204,305],0,false⟩
def mz:cO dE=0:=by decide+kernel
def xL:pk exC=0:=by decide+kernel
def O8:aI dE.aq [207,129,206,191,206,182,206,177]=[114,111,122,97]:=by decide+kernel
def M4:bc dE 0 [114,104,111,115,97]=[114,111,115,97]:=by decide+kernel
def Ke:aS dE 0 uo qy=75:=by decide+kernel
def Kf:aS dE 3 uo pc=75:=by decide+kernel
def Kg:aS dE 5 exA exB=60:=by decide+kernel
def mA:dH exA=0/\dH exB=0/\dH uo=0/\dH qy=0/\dH pc=0:=by decide+kernel
def Kh:bW exC=[⟨0,0,100⟩,⟨1,1,100⟩]:=by decide+kernel
def Ki:exC.rules.map (lU exC pc 3)=[⟨0,90,0⟩,⟨0,100,2⟩,⟨0,0,3⟩]:=by decide+kernel
def Kj:exC.rules.length=3/\(exC.rules.map (lU exC Qe 9))[0]? =some ⟨1,0,0⟩:=by decide+kernel
def M6:jC [114,111,122,97] [114,111,115,101]=[(2,2,115),(3,2,101)]:=by unfold jC;rw[bd,SQ (by decide+kernel),SQ (by decide+kernel),SQ (by decide+kernel),SQ (by decide)];rw[bd,SQ (by decide+kernel),SQ (by decide+kernel),SQ (by decide+kernel),SQ (by decide)];rw[bd,SQ (by decide+kernel),SQ (by decide+kernel),SQ (by decide+kernel),SS (by decide)];rw[bd,SQ (by decide+kernel),SQ (by decide+kernel),SQ (by decide+kernel),SS (by decide)];rw[bd];rfl
def Kk:jC [97,98] [98,97]=[(0,0,98),(1,1,0)]:=by unfold jC;rw[bd,SQ (by decide+kernel),SS (by decide+kernel)];rw[bd,SQ (by decide+kernel),SQ (by decide+kernel),SQ (by decide+kernel),SQ (by decide)];rw[bd,bd];rfl
def tI:OkT dE:=by constructor;simp[dE];decide;simp[dE];intro x a p b;simp only[dE,Ts,TB,TC]at a;subst a;simp only[Ts,TB,TC]at b;rcases b with rfl|rfl<;>decide;simp[dE];simp[dE];simp[dE]
def uq:OkC exC:=by constructor;exact tI;constructor<;>simp[exC,uo]<;>decide;intro m a;(simp only[exC,Ts,TB,TC]at a;rcases a with rfl|rfl|rfl|rfl<;>(constructor<;>simp[qy,R5,pc,Qe]<;>decide));decide;decide;decide;simp[exC];simp[exC]
end Go.Proofs

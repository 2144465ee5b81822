import Derived.Shelf.Strings.Split
import Derived.Shelf.Strings.Builder2
import Derived.Lib.ReplaceLaws
import Derived.Deep.LoopGhost
import Derived.Lib.Replace
import Derived.Test.YtaglpcmhopjebaaGreatDoorQ24
set_option linter.all false
set_option maxRecDepth 100000
set_option maxHeartbeats 20000000
namespace Go.Proofs
open Go.Tm Go.RowKit Go.Shelf
variable {fs:Array Func} (L:bU fs)
def OZ(b n:Nat)(w:World)(a:w.heap[b]? =some (.cells #[.pointer none,.slice none 0 0] 153 (0,0)))(r:n<=281474976710656):
 Calls (Qs fs) 180 #[.pointer (some ⟨b,0,none⟩),.int .i64 n] w λe w'=>e=.returned (.tuple #[])/\fU (0<n) b (b+1) [] w'/\Below b w w':=by
 have X:=lE fs;have s:b<w.heap.size:=(R7.1 a).1;by_cases t:n=0
 ·subst t
  have Nb:=Nb L;have f:Lays.n240 (Qs fs) sG:={(iG L).2.2 with}
  have c:=Any.Builder_copyCheck_fresh f X.toX72 b w (by rw[Lib.cell_of_heap a];rfl) (by simp[World.shape?,a];rfl) (Lib.frozen_of_heap a 0);have i:Calls (Qs fs) 134 #[.pointer (some ⟨b,0,none⟩)] w λe w'=>e=.returned (.tuple #[])/\w'.heap[b]? =some (.cells #[.pointer (some ⟨b,0,none⟩),.slice none 0 0] 153 (0,0))/\Below b w w':=by
   refine c.mono ?_;rintro e w' ⟨rfl,rfl⟩;refine⟨rfl,?_,(Below.refl b w).setCell (p:=⟨b,0,none⟩) (R2 _) _⟩;have u:(w.heap.modify b λo=>match o with| .cells c e F=>.cells (c.setIfInBounds 0 (.pointer (some ⟨b,0,none⟩))) e F|o=>o)[b]? =some (.cells #[.pointer (some ⟨b,0,none⟩),.slice none 0 0] 153 (0,0)):=by rw[Tb,a];simp
   exact u
  clear c a;go_enter (n180 L),Tryz.ntmps180;go_wp2_with (go_at_call 134;refine i.mono ?_)
  clear i;rintro e w1 ⟨rfl,d,j⟩;have m:w1.cell? ⟨b,1,none⟩=some (.slice none 0 0):=by rw[Lib.cell_of_heap d];rfl
  have x:Hid _:=d;have y:Hid _:=j;clear d j;have D:w1.drew.cell? ⟨b,1,none⟩=some (.slice none 0 0):=m;have k:(Qs fs).follows .mixedOrders=true:=(iG L).1.mixed;clear m;go_wp2
  go_region_o
  all_goals (go_wp2;exact bodyPost_end (results_none rfl _ _ _) rfl ⟨rfl,⟨Tl _,_,_,.inr rfl,x.out,World.ownsRow_nil _ _ _ _,λ_=>.inr rfl⟩,y.out.drew⟩)
 ·refine(Any.Builder_Grow_fresh (P:=Qs fs) (ρ:=sG) (iG L).2.2 X b b n w (R2 _) a (by omega) r).mono ?_
  rintro e w' ⟨rfl,⟨_,v,z,q,A⟩,B⟩;refine⟨rfl,⟨Tl _,_,v,.inr rfl,z,?_,λ_=>.inl (by omega)⟩,B⟩;refine⟨q.1,?_⟩;obtain h|⟨g,cap,l,k1,E,C⟩:=q.2
  ·exact .inl h
  ·refine .inr ⟨g,cap,l,k1,?_,C⟩
   have:g≠b:=λe=>A (by rw[k1,e];rfl);omega
def fU.real{q b B bs w}(h:fU q b B bs w)(a:bs=[]->¬q):fU False b B bs w:=by obtain⟨c,p,v,d,f,g,i⟩:=h;exact⟨c,p,v,d,f,g,λe=>(i e).elim (λx=>absurd x (a e)) .inr⟩
def pV{p:Prop}(h:p):Hid p:=h
def Below.KR{b B:Nat}{w w':World}(h:Stp B b w w')(a:b<B):Below b w w':=⟨h.os,h.tape,h.output,h.size,λk c=>h.block k (by omega) (by omega)⟩
def IE(s old new:ByteArray)(m:Int)(w:World)(hs:s.size<=100000)(S:w.cell? ⟨2,0,none⟩=some (.int .i64 m))(U:1<=old.size)(V:new.size<=100)(W:old≠new){K:Nat}(X:Lib.countB s old=K)(Y:1<=K):
 Calls (Qs fs) 166 #[.string s,.string old,.string new,.int .i64 (-1)] w λe w'=>e=.returned (.string ⟨(Lib.replaceK old.data.toList new.data.toList K s.data.toList).toArray⟩)/\Below w.heap.size w w':=by
 have Ng:=Ng L;have Qt:=Qt L;have Qu:=Qu L;have e94:=e94 L;have e95:=e95 L;have Z:=Any.strings_Count_any (P:=Qs fs) (ρ:=sG) (iG L).2.1 s old m w (by omega) S U;have f:=Lib.countB_mul_le old U s.size s (R2 _);rw[X]at Z f;have C:Lib.count s.data.toList old.data.toList=K:=X;have a6:(old.toList==new.toList)=false:=(Lib.bytes_beq_false_iff old new).2 W;have a7:((K:Int)==0)=false:=Sw.2 (by omega);have b:s.data.toList.length=s.size:=(Lib.size_eq s).symm;have a:old.data.toList.length=old.size:=(Lib.size_eq old).symm;have aa:2<w.heap.size:=World.block_lt_of_cell? _ _ S;have ab:K<=s.size:=R3 (Nat.le_mul_of_pos_right K (by omega)) f;have ad:s.size+K*new.size<=140737488355328:=by have:K*new.size<=s.size*100:=Nat.mul_le_mul ab V;omega
 have v:=Lib.grow_arg s.size K new.size old.size Y f ad;have k:K<=Lib.count (s.data.toList.drop 0) old.data.toList:=by rw[SP,C];exact R2 _
 obtain⟨T,hT⟩:=ex (s.size+K*new.size-K*old.size);rw[<-hT]at v;have a8:T<=140737488355328:=by omega
 have D:T+K*old.size=s.size+K*new.size:=by omega
 have ba:decide (0<old.size)=true:=Sd (by omega);have E:=λwr (h:Below w.heap.size w wr)=>(h.cell (p:=⟨2,0,none⟩) aa).trans S;have af:=λ(t:ByteArray) wr (ht:t.size<=s.size) (h:Below w.heap.size w wr)=>Any.strings_Index (P:=Qs fs) (ρ:=sG) {(iG L).2.1 with} t old m wr (by omega) (E wr h);have ag:=pV D;clear X C S E hT D;go_enter (n166 L),Tryz.ntmps166;go_wp2_with (first|(go_at_call 179;refine Z.mono ?_;rintro e w' ⟨rfl,F⟩;rw[F];clear F))
 clear Z;rw[v];refine(OZ L w.heap.size T _ (heap_alloc_new w _) (by omega)).mono ?_;rintro e w1 ⟨rfl,G,x⟩;have H1:=pV G;have H:w.heap.size+1<=w1.heap.size:=by have:=x.size;simpa using this
 have ak:=pV (((Below.refl w.heap.size w).alloc (R2 _) _).trans x);clear G x v;go_wp2_with fail
 go_loopg [11,53] K (λg an ao wx=>∃(i start:Nat) (acc:List UInt8),ao=.int .i64 i/\an=.int .i64 start/\i+g=K/\start<=s.size/\
  Hid (fU (0<T) w.heap.size (w.heap.size+1) (Lib.byteCells acc) wx)/\Hid (Below w.heap.size w wx/\w.heap.size+1<=wx.heap.size)/\Hid (acc++Lib.replaceK old.data.toList new.data.toList g (s.data.toList.drop start)=Lib.replaceK old.data.toList new.data.toList K s.data.toList)/\
  g<=Lib.count (s.data.toList.drop start) old.data.toList/\acc.length+(s.size-start)+g*new.size=T+g*old.size/\g*old.size<=s.size-start)
 case atStart=>exact⟨0,0,[],rfl,rfl,by omega,R9 _,H1,pV ⟨ak.out,H⟩,pV (by simp),k,by have:=ag.out;simp;omega,by omega⟩
 case round=>
  obtain⟨i,start,acc,rfl,rfl,bb,bk,HB,y,HR,bm,I,bo⟩:=hrel;have br:w.heap.size<=wr.heap.size:=y.out.1.size;have c1:(0:Int)<=(start:Int):=by omega
  have c2:(start:Int)<=(s.size:Int):=by omega
  cases gk with
  |zero=>
   have ar:¬((i:Int)<(K:Int)):=by omega
   go_wp2_with fail
   refine(iS L w.heap.size (w.heap.size+1) _ _ wr HB.out (by rw[Lib.byteCells_length,TU];simp at I;omega) y.out.2).mono ?_;rintro e w3 ⟨rfl,z,d⟩;rw[Lib.strCells_eq,Lib.extract_to_end,<-Lib.byteCells_append]at z;have o:acc++s.data.toList.drop start=Lib.replaceK old.data.toList new.data.toList K s.data.toList:=HR.out;have A:(acc++s.data.toList.drop start).length=T:=by rw[Sr,Sk,b];simp at I;omega
   rw[o]at z A;have H3:=pV (z.real λe h0=>by have:=SL List.length e;rw[Lib.byteCells_length,A]at this;simp at this;omega)
   have n:=pV (y.out.1.trans (Below.KR d (Tl _)));have c:w.heap.size<=w3.heap.size:=n.out.size;clear z d o A;go_wp2_with fail
   refine(vu L w.heap.size (w.heap.size+1) _ w3 H3.out c).mono ?_;rintro e w5 ⟨rfl,J,_⟩;have ax:=pV (n.out.trans J);clear J;go_wp2;go_ret;exact⟨rfl,ax.out⟩
  |succ g=>
   have ar:(i:Int)<(K:Int):=by omega
   obtain⟨j,M⟩:=Lib.index_of_count (s:=s.data.toList.drop start) (old:=old.data.toList) (by omega);have ay:j+old.size<=s.size-start:=by have:=Lib.index_room (s.data.toList.drop start) old.data.toList (by rw[M];omega);rw[M,Sk,b,a]at this;omega
   have bs:(g+1)*new.size=g*new.size+new.size:=Nat.succ_mul _ _;have bx:(g+1)*old.size=g*old.size+old.size:=Nat.succ_mul _ _;have c3:(0:Int)<=(start:Int)+(j:Int):=by omega
   have c4:(start:Int)+(j:Int)<=(s.size:Int):=by omega
   have c5:(start:Int)<=(start:Int)+(j:Int):=by omega
   have l:Lib.byteCells acc++Lib.strCells (s.extract start (start+j))++Lib.strCells new=Lib.byteCells (acc++(s.data.toList.drop start).take j++new.data.toList):=by rw[Lib.strCells_eq,Lib.strCells_eq,Lib.extract_data,VJ,<-Lib.byteCells_append,<-Lib.byteCells_append]
   have r:(acc++(s.data.toList.drop start).take j++new.data.toList)++Lib.replaceK old.data.toList new.data.toList g (s.data.toList.drop (start+j+old.size))=Lib.replaceK old.data.toList new.data.toList K s.data.toList:=by rw[<-HR.out,Lib.replaceK_hit _ _ g _ j M,Uv,a];simp only[Tw,T9]
   have u:g<=Lib.count (s.data.toList.drop (start+j+old.size)) old.data.toList:=by have:=Lib.count_hit (s:=s.data.toList.drop start) (sub:=old.data.toList) (i:=j) (λe=>by rw[e]at a;simp at a;omega) M;rw[Uv,a]at this;rw[show start+j+old.size=start+(j+old.size) by omega];omega
   have N:=Lib.countB_mul_le old U _ (s.extract (start+j+old.size) s.size) (R2 _);have aM:((s.data.toList.drop start).take j).length=j:=by rw[Tp,Sk,b];omega
   have O:g*old.size<=s.size-(start+j+old.size):=by
    have e1:Lib.countB (s.extract (start+j+old.size) s.size) old=Lib.count (s.data.toList.drop (start+j+old.size)) old.data.toList:=by unfold Lib.countB;rw[Lib.extract_to_end]
    rw[e1,TU]at N;have:=Nat.mul_le_mul_right old.size u;omega
   have Hn:=pV l;have Q:=pV r;have q:=af (s.extract start s.size) wr (by rw[TU];omega) y.out.1;rw[Lib.extract_to_end,M]at q;clear l r HR N;go_wp2_with (first|(go_at_call 181;refine q.mono ?_;rintro e w' ⟨rfl,F⟩;rw[F];clear F))
   refine(iS L w.heap.size (w.heap.size+1) _ (s.extract start (start+j)) wr HB.out (by rw[Lib.byteCells_length,TU];omega) y.out.2).mono ?_;rintro e w3 ⟨rfl,z,d⟩;have c:w.heap.size+1<=w3.heap.size:=R3 y.out.2 d.size;have H3:=pV z;have n:=pV (Below.KR d (Tl _));clear z d;go_wp2_with fail
   refine(iS L w.heap.size (w.heap.size+1) _ new w3 H3.out (by rw[Sr,Lib.byteCells_length,Lib.strCells_length,TU];omega) c).mono ?_;rintro e w4 ⟨rfl,h4,B⟩;rw[Hn.out]at h4;have H4:=pV h4;have R:w.heap.size+1<=w4.heap.size:=R3 c B.size;have a1:=pV ((y.out.1.trans n.out).trans (Below.KR B (Tl _)));clear h4 B;go_wp2
   go_roundg g
   case measure=>omega
   case rel=>refine⟨i+1,start+j+old.size,_,by first|rfl|(simp;unfold wrap64;omega),by first|rfl|simp|(simp;unfold wrap64;omega),by omega,by omega,H4,pV ⟨a1.out,R⟩,Q,u,?_,O⟩;simp only[Sr,aM,<-Lib.size_eq];omega
def Fb(s old new:ByteArray)(m:Int)(w:World)(i:s.size<=100000)(d:w.cell? ⟨2,0,none⟩=some (.int .i64 m))(f:1<=old.size)(h:old=new\/Lib.countB s old=0):
 Calls (Qs fs) 166 #[.string s,.string old,.string new,.int .i64 (-1)] w λe w'=>e=.returned (.string s)/\w'=w:=by
 have Ng:=Ng L;by_cases b:old=new
 ·have a:(old.toList==new.toList)=true:=(Lib.bytes_beq_iff old new).2 b
  go_enter (n166 L),Tryz.ntmps166;go_wp2;go_ret;exact⟨rfl,rfl⟩
 ·have c:=Any.strings_Count_any (P:=Qs fs) (ρ:=sG) (iG L).2.1 s old m w (by omega) d f
  rw[h.resolve_left b]at c;have a:(old.toList==new.toList)=false:=(Lib.bytes_beq_false_iff old new).2 b;go_enter (n166 L),Tryz.ntmps166;go_wp2_with (first|(go_at_call 179;refine c.mono ?_;rintro e w' ⟨rfl,g⟩;rw[g]))
  go_ret;exact⟨rfl,rfl⟩
theorem mO(p)(a:p.1.data.toList≠[])(b:p.1.data.toList=p.2.data.toList):∀(n) (s),s.length<=n->bP p s=s
 |_,[],_=>mI p
 |0,c::s,h=>by simp at h
 |n+1,c::s,h=>by
  cases d:p.1.data.toList.isPrefixOf (c::s)with
  |true=>
   rw[mJ d a,mO p a b n _ (by rw[Sk];have:0<p.1.data.toList.length:=Tv.2 a;omega),<-b]
   obtain⟨t,e⟩:=TB.1 d;rw[<-e,List.drop_left]
  |false=>rw[ly d,mO p a b n s (by simp only[R4]at h;omega)]
theorem iH(p)(b:p.1.data.toList≠[]):∀(n) (s:Bs),s.length<=n->Lib.replaceK p.1.data.toList p.2.data.toList (Lib.count s p.1.data.toList) s=bP p s
 |n,[],_=>by
  have a:Lib.index [] p.1.data.toList= -1:=by unfold Lib.index;rw[RY (by simpa using b)]
  rw[Lib.count_miss a,mI,Lib.replaceK]
 |0,c::s,h=>by simp at h
 |n+1,c::s,h=>by
  simp only[R4]at h;have f:0<p.1.data.toList.length:=Tv.2 b;cases d:p.1.data.toList.isPrefixOf (c::s)with
  |true=>
   have a:Lib.index (c::s) p.1.data.toList=((0:Nat):Int):=by unfold Lib.index;rw[RZ d];rfl
   rw[Lib.count_hit b a,UA 1,Lib.replaceK_hit _ _ _ _ 0 a,mJ d b,Se,SI,Uj,iH p b n _ (by rw[Sk,R4];omega)]
  |false=>
   rw[ly d,<-iH p b n s (by omega)];have k:=Lib.index_ge s p.1.data.toList;by_cases g:Lib.index s p.1.data.toList= -1
   ·have a:Lib.index (c::s) p.1.data.toList= -1:=by unfold Lib.index;rw[RY (by rw[d];simp),g];rfl
    rw[Lib.count_miss a,Lib.count_miss g,Lib.replaceK,Lib.replaceK]
   ·obtain⟨i,a⟩:∃i:Nat,Lib.index s p.1.data.toList=i:=⟨(Lib.index s p.1.data.toList).toNat,by omega⟩
    have e:Lib.index (c::s) p.1.data.toList=((i+1:Nat):Int):=by unfold Lib.index;rw[RY (by rw[d];simp),RY (by rw[a,S9];omega),a];omega
    have j:(c::s).drop (i+1+p.1.data.toList.length)=s.drop (i+p.1.data.toList.length):=by rw[show i+1+p.1.data.toList.length=(i+p.1.data.toList.length)+1 by omega,SZ]
    rw[Lib.count_hit b e,Lib.count_hit b a,j,UA 1,Lib.replaceK_hit _ _ _ _ _ e,Lib.replaceK_hit _ _ _ _ _ a,j,SN];simp
def gJ(w:World):Prop:=∃m,w.cell? ⟨2,0,none⟩=some (.int .i64 m)
def gJ.stays{w w'}(h:gJ w)(a:ae w w'):gJ w':=h.elim λm h=>⟨m,a.cell h⟩
def Aj(s:ByteArray)(p:Pr2)(w:World)(c:s.size<=100000)(a:gJ w)(d:1<=p.1.size)(i:p.2.size<=100):Calls (Qs fs) 139 #[.string s,.string p.1,.string p.2] w λe w'=>e=.returned (.string (bs (bP p s.data.toList)))/\Below w.heap.size w w':=by
 obtain⟨m,a⟩:=a;have f:p.1.data.toList≠[]:=λh=>by have:=Lib.size_eq p.1;rw[h,Sl]at this;omega
 have Qo:=Qo L;have q:Calls (Qs fs) 166 #[.string s,.string p.1,.string p.2,.int .i64 (-1)] w λe w'=>e=.returned (.string (bs (bP p s.data.toList)))/\Below w.heap.size w w':=by
  have b:=iH p f _ s.data.toList (R2 _);by_cases he:p.1=p.2\/Lib.countB s p.1=0
  ·refine(Fb L s p.1 p.2 m w c a d he).mono ?_
   rintro e w' ⟨rfl,rfl⟩;have e1:bP p s.data.toList=s.data.toList:=by
    obtain he|he:=he
    ·exact mO p f (by rw[he]) _ _ (R2 _)
    ·rw[show Lib.count s.data.toList p.1.data.toList=0 from he]at b
     rw[<-b,Lib.replaceK]
   rw[e1];exact⟨rfl,Below.refl _ _⟩
  ·have:=IE L s p.1 p.2 m w c a d i (λe=>he (.inl e)) rfl (Vj λe=>he (.inr e))
   rw[show Lib.countB s p.1=Lib.count s.data.toList p.1.data.toList from rfl,b]at this;exact this
 obtain⟨z,g⟩:=ex (bs (bP p s.data.toList));rw[<-g]at q⊢;clear g a;go_enter (n139 L),Tryz.ntmps139;go_wp2_with (first|(go_at_call 166;refine q.mono ?_;clear q;rintro e w2 ⟨rfl,j⟩))
 go_ret;exact⟨rfl,j⟩
def KS(s:ByteArray)(p:Pr2)(a:Nat)(w:World)(d:s.size<=100000)(b:gJ w)(f:1<=p.1.size)(g:p.2.size<=100)(h:w.cell? ⟨a,0,none⟩=some (.string p.1))(i:w.cell? ⟨a,1,none⟩=some (.string p.2)):
 Calls (Qs fs) 138 #[.string s,.pointer (some ⟨a,0,none⟩)] w λe w'=>e=.returned (.string (bs (bP p s.data.toList)))/\Below w.heap.size w w':=by
 have Qh:=Qh L;have q:=Aj L s p w d b f g;obtain⟨z,c⟩:=ex (bs (bP p s.data.toList));rw[<-c]at q⊢;clear c b;go_enter (n138 L),Tryz.ntmps138;go_wp2_with (first|(go_at_call 139;refine q.mono ?_;clear q;rintro e w2 ⟨rfl,j⟩))
 go_ret;exact⟨rfl,j⟩
end Go.Proofs
namespace Go.Proofs
def jA(c:Case)(k:Nat):List Hit:=((List.range k).filterMap (gS c)).foldl (λl h=>eB c h l) []
def nJ(c k)(h:gS c k=none):jA c (k+1)=jA c k:=by unfold jA;rw[Uw,List.filterMap_append,UP];simp[h]
def nK(c k x)(h:gS c k=some x):jA c (k+1)=eB c x (jA c k):=by unfold jA;rw[Uw,List.filterMap_append,UP];simp[h]
theorem iT(c h):∀l,(eB c h l).length=l.length+1
 | []=>rfl
 |x::l=>by
  unfold eB;split
  ·rw[R4,iT c h l,R4]
  ·rfl
theorem pW(c h):∀l x,x∈eB c h l->x=h\/x∈l
 | [],x,a=>.inl (TW.1 a)
 |y::l,x,a=>by
  unfold eB at a;split at a
  ·obtain e|e:=SE.1 a
   ·exact .inr (e▸Vh ..)
   ·obtain e'|e':=pW c h l x e
    ·exact .inl e'
    ·exact .inr (UT _ e')
  ·obtain e|e:=SE.1 a
   ·exact .inl e
   ·exact .inr e
theorem pn(c):∀k,(jA c k).length<=k
 |0=>R2 _
 |k+1=>by
  have a:=pn c k;cases h:gS c k with
  |none=>rw[nJ c k h];omega
  |some x=>rw[nK c k x h,iT];omega
theorem qS{c m kin}:∀(l) (j r) (v),(∀i,l[i]? =c.rules[j+i]?)->eA c m kin j l=some (r,v)->∃h,v=bF c.table c.rules[r].kind c.new m
 | [],j,r,v,_,h=>by cases h
 |x::l,j,r,v,b,h=>by
  unfold eA at h;split at h
  ·cases h
   have a:=b 0;rw[Tr,VK]at a;have d:j<c.rules.length:=(TC.1 a.symm).1;rw[SK d]at a;cases a;exact⟨d,rfl⟩
  ·refine qS l (j+1) r v (λi=>?_) h
   have:=b (i+1);rw[List.getElem?_cons_succ]at this;rw[this]
   congr 1
   omega
def tE(c k)(d:k<c.marks.length)(e:k<c.kin.length):(mM c k= -1/\gS c k=none)\/∃r,∃h:r<c.rules.length,mM c k=r/\gS c k=some ⟨k,r,bF c.table c.rules[r].kind c.new c.marks[k]⟩:=by
 have a:=Ag c k d e;cases b:eA c c.marks[k] c.kin[k] 0 c.rules with
 |none=>rw[b]at a;exact .inl ⟨by unfold mM;rw[a];rfl,a⟩
 |some x=>obtain⟨r,v⟩:=x;obtain⟨h,rfl⟩:=qS c.rules 0 r v (λi=>by rw[Se]) b;rw[b]at a;exact .inr ⟨r,h,by unfold mM;rw[a];rfl,a⟩
theorem mP(c)(b:c.kin.length=c.marks.length):∀k,k<=c.marks.length->∀x∈jA c k,∃(i r:Nat) (v:Int),i<c.marks.length/\r<c.rules.length/\-1000000<=0/\x=⟨i,r,v⟩
 |0,_,x,a=>by cases a
 |k+1,f,x,a=>by
  obtain⟨_,h⟩|⟨r,d,_,h⟩:=tE c k (by omega) (by omega)
  ·rw[nJ c k h]at a
   exact mP c b k (by omega) x a
  ·rw[nK c k _ h]at a
   obtain rfl|e:=pW c _ _ _ a
   ·exact⟨k,r,_,by omega,d,by decide,rfl⟩
   ·exact mP c b k (by omega) x e
def Cw(c h l k)(b:k<=l.length)(d:∀i (a:i<l.length),i<k->aR c l[i] h=true)(e:∀a,aR c l[k] h=false):eB c h l=l.take k++h::l.drop k:=by
 induction l generalizing k with
 |nil=>cases k with
  |zero=>rfl
  |succ k=>simp at b
 |cons x l g=>
  cases k with
  |zero=>have:=e (Uh _);simp only[Uk]at this;unfold eB;rw[this];rfl
  |succ k=>
   have f:=d 0 (Uh _) (Uh _);simp only[Uk]at f;unfold eB;rw[f,RZ rfl,g k (by simpa using b) (λi a j=>?_) λa=>?_]
   ·rfl
   ·have:=d (i+1) (by simpa using a) (by omega)
    simpa using this
   ·have:=e (by simpa using a)
    simpa using this
def bp(l:List Hit):List Go.Value:=l.flatMap λx=>[.int .i64 x.mark,.int .i64 x.eh,.int .i64 x.level]
def gY(l):(bp l).length=l.length*3:=by
 induction l with
 |nil=>rfl
 |cons x l a=>unfold bp at a⊢;rw[TR,Sr,a,R4];simp only[R4,Sl];omega
def Ak(a b):bp (a++b)=bp a++bp b:=by unfold bp;rw[Uy]
def sI(l):∀u∈bp l,∃n,u=.int .i64 n:=by intro u a;unfold bp at a;obtain⟨x,_,b⟩:=Vo.1 a;simp only[SE,SS,SU]at b;rcases b with e|e|e<;>exact⟨_,e⟩
def Cx(l k)(a:k<l.length):(bp l)[k*3]? =some (.int .i64 l[k].mark)/\(bp l)[k*3+1]? =some (.int .i64 l[k].eh)/\(bp l)[k*3+2]? =some (.int .i64 l[k].level):=by
 induction l generalizing k with
 |nil=>cases a
 |cons x l b=>
  cases k with
  |zero=>exact⟨rfl,rfl,rfl⟩
  |succ k=>
   have h:=b k (by simpa using a);have e:bp (x::l)=[.int .i64 x.mark,.int .i64 x.eh,.int .i64 x.level]++bp l:=rfl;rw[e];have e3:∀j,([.int .i64 x.mark,.int .i64 x.eh,.int .i64 x.level]++bp l:List Go.Value)[(k+1)*3+j]? =(bp l)[k*3+j]? :=λj=>by
    rw[Vk (by simp;omega)]
    congr 1
    simp;omega
   exact⟨(e3 0).trans h.1,(e3 1).trans h.2.1,(e3 2).trans h.2.2⟩
def Fc(l k):bp (l.drop k)=(bp l).drop (k*3):=by
 induction l generalizing k with
 |nil=>simp[bp]
 |cons x l a=>
  cases k with
  |zero=>rfl
  |succ k=>have e:bp (x::l)=.int .i64 x.mark:: .int .i64 x.eh:: .int .i64 x.level::bp l:=rfl;rw[SZ,a,e,show(k+1)*3=k*3+1+1+1 by omega,SZ,SZ,SZ]
def Ff(l k):bp (l.take k)=(bp l).take (k*3):=by
 induction l generalizing k with
 |nil=>simp[bp]
 |cons x l a=>
  cases k with
  |zero=>simp[bp]
  |succ k=>have e:∀l,bp (x::l)=.int .i64 x.mark:: .int .i64 x.eh:: .int .i64 x.level::bp l:=λ_=>rfl;rw[SN,e,a,e,show(k+1)*3=k*3+1+1+1 by omega,SN,SN,SN]
def mR(c a b):aR c a b=true↔a.eh<b.eh\/(a.eh=b.eh/\(b.level<a.level\/(a.level=b.level/\(gu c a.mark<gu c b.mark\/(gu c a.mark=gu c b.mark/\a.mark<b.mark))))):=by
 unfold aR;generalize gu c a.mark=x;generalize gu c b.mark=y;by_cases d:a.eh=b.eh
 ·rw[RY (λh=>h d)]
  by_cases e:a.level=b.level
  ·rw[RY (λh=>h e)]
   by_cases f:x=y
   ·rw[RY (λh=>h f)]
    simp only[Sq];omega
   ·rw[RZ f]
    simp only[Sq];omega
  ·rw[RZ e]
   simp only[Sq];omega
 ·rw[RZ d]
  simp only[Sq];omega
def oQ(c a b):aR c a b=false↔¬(a.eh<b.eh\/(a.eh=b.eh/\(b.level<a.level\/(a.level=b.level/\(gu c a.mark<gu c b.mark\/(gu c a.mark=gu c b.mark/\a.mark<b.mark)))))):=by rw[<-mR];simp
def CQ(c a):aR c a a=false:=by rw[oQ];omega
def Ay{c a b}(h:aR c a b=true):aR c b a=false:=by rw[mR]at h;rw[oQ];omega
def before_trans{c a b d}(h:aR c a b=true)(k:aR c b d=true):aR c a d=true:=by rw[mR]at*;omega
def pw{c a b d}(h:aR c a b=false)(k:aR c b d=false):aR c a d=false:=by rw[oQ]at*;omega
def IU{c a b}(h:aR c a b=false)(k:aR c b a=false):a=b:=by
 rw[oQ]at*;have d:a.eh=b.eh:=by omega
 have e:a.level=b.level:=by omega
 have f:a.mark=b.mark:=by omega
 cases a;cases b;simp_all
def kX(c:Case)(l:List Hit):Prop:=l.Pairwise λx y=>aR c y x=false
theorem px(c h):∀l,kX c l->kX c (eB c h l)
 | [],_=>by simp[eB,kX]
 |x::xs,d=>by
  have a:=Vx.1 d;unfold eB;split
  ·rename_i b
   refine Vx.2 ⟨λy hy=>?_,px c h xs a.2⟩;obtain rfl|hy:=pW c h xs y hy
   ·exact Ay b
   ·exact a.1 y hy
  ·rename_i b
   have b:aR c x h=false:=by simpa using b
   refine Vx.2 ⟨λy hy=>?_,d⟩;obtain rfl|hy:=SE.1 hy
   ·exact b
   ·exact pw (a.1 y hy) b
theorem tG(c h):∀l,(eB c h l).Perm (h::l)
 | []=>.refl _
 |x::xs=>by
  unfold eB;split
  ·exact((tG c h xs).cons x).trans (.swap h x xs)
  ·exact .refl _
theorem Az(c):∀(xs acc:List Hit),kX c acc->kX c (xs.foldl (λl h=>eB c h l) acc)/\(xs.foldl (λl h=>eB c h l) acc).Perm (xs++acc)
 | [],acc,a=>⟨a,.refl _⟩
 |x::xs,acc,a=>by obtain⟨b,d⟩:=Az c xs (eB c x acc) (px c x acc a);refine⟨b,d.trans ?_⟩;exact((List.perm_append_left_iff xs).2 (tG c x acc)).trans (List.perm_middle)
def vN(c):kX c (bT c):=(Az c _ [] List.Pairwise.nil).1
def jT(c):(bT c).Perm ((List.range c.marks.length).filterMap (gS c)):=by have h:=(Az c ((List.range c.marks.length).filterMap (gS c)) [] List.Pairwise.nil).2;rw[Tx]at h;exact h
def xZ{c l m}(d:kX c l)(e:kX c m)(h:l.Perm m):l=m:=List.Perm.eq_of_pairwise (le:=λx y=>aR c y x=false) (λa b _ _ f g=>IU g f) d e h
def dB:Table where
 au:=[(⟨#[207,129]⟩,⟨#[114]⟩),(⟨#[206,191]⟩,⟨#[111]⟩),(⟨#[206,182]⟩,⟨#[122]⟩),(⟨#[206,177]⟩,⟨#[97]⟩),(⟨#[206,178]⟩,⟨#[118]⟩)]
 az:=[⟨⟨#[105,116]⟩,[(⟨#[122]⟩,⟨#[115]⟩),(⟨#[104]⟩,⟨#[]⟩)]⟩]
 bl:=[[⟨#[114,111,122,97]⟩,⟨#[114,111,115,101]⟩]]
def ua:Mark:=⟨⟨#[110,111,118,97]⟩,⟨#[207,129,206,191,206,182,206,177]⟩,[],9,false⟩
def qq:Mark:=⟨⟨#[97,108,98,97]⟩,⟨#[114,111,115,97]⟩,[],1,false⟩
def Ri:Mark:=⟨⟨#[98,101,108,97]⟩,⟨#[114,111,115,101]⟩,[],3,false⟩
def o8:Mark:=⟨⟨#[99,111,114,97]⟩,⟨#[97,115,111,114]⟩,[],2,false⟩
def Pw:Mark:=⟨⟨#[100,111,114,97]⟩,⟨#[114,104,111,115,97]⟩,[],9,false⟩
def exC:Case where
 table:=dB
 rules:=[⟨1,90,3,1⟩,⟨2,100,5,2⟩,⟨3,70,6,6⟩]
 new:=ua
 marks:=[qq,Ri,o8,Pw]
 kin:=[4,5,3,9]
def exA:Mark:=⟨⟨#[97]⟩,⟨#[]⟩,[101,203],0,false⟩
def exB:Mark:=⟨⟨#[98]⟩,⟨#[]⟩,[101,204,305],0,false⟩
def mA:bH dB=0:=by decide+kernel
def xp:pd exC=0:=by decide+kernel
def Om:aQ dB.au [207,129,206,191,206,182,206,177]=[114,111,122,97]:=by decide+kernel
def Mp:bt dB 0 [114,104,111,115,97]=[114,111,115,97]:=by decide+kernel
def JN:bF dB 0 ua qq=75:=by decide+kernel
def JO:bF dB 3 ua o8=75:=by decide+kernel
def JP:bF dB 5 exA exB=60:=by decide+kernel
def mB:eU exA=0/\eU exB=0/\eU ua=0/\eU qq=0/\eU o8=0:=by decide+kernel
def JQ:bT exC=[⟨0,0,100⟩,⟨1,1,100⟩]:=by decide+kernel
def JR:exC.rules.map (lV exC o8 3)=[⟨0,90,0⟩,⟨0,100,2⟩,⟨0,0,3⟩]:=by decide+kernel
def JS:exC.rules.length=3/\(exC.rules.map (lV exC Pw 9))[0]? =some ⟨1,0,0⟩:=by decide+kernel
def Mq:jF [114,111,122,97] [114,111,115,101]=[(2,2,115),(3,2,101)]:=by unfold jF;rw[aZ,RY (by decide+kernel),RY (by decide+kernel),RY (by decide+kernel),RY (by decide)];rw[aZ,RY (by decide+kernel),RY (by decide+kernel),RY (by decide+kernel),RY (by decide)];rw[aZ,RY (by decide+kernel),RY (by decide+kernel),RY (by decide+kernel),RZ (by decide)];rw[aZ,RY (by decide+kernel),RY (by decide+kernel),RY (by decide+kernel),RZ (by decide)];rw[aZ];rfl
def JU:jF [97,98] [98,97]=[(0,0,98),(1,1,0)]:=by unfold jF;rw[aZ,RY (by decide+kernel),RZ (by decide+kernel)];rw[aZ,RY (by decide+kernel),RY (by decide+kernel),RY (by decide+kernel),RY (by decide)];rw[aZ,aZ];rfl
def tv:OkT dB:=by
 constructor
 ·simp[dB];decide
 ·simp[dB]
 ·intro x a p b
  simp only[dB,SE,SS,SU]at a;subst a;simp only[SE,SS,SU]at b;rcases b with rfl|rfl<;>decide
 ·simp[dB]
 ·simp[dB]
 ·simp[dB]
def ub:OkC exC:=by
 constructor
 ·exact tv
 ·constructor<;>simp[exC,ua]<;>decide
 ·intro m a
  simp only[exC,SE,SS,SU]at a;rcases a with rfl|rfl|rfl|rfl<;>(constructor<;>simp[qq,Ri,o8,Pw]<;>decide)
 ·decide
 ·decide
 ·decide
 ·simp[exC]
 ·simp[exC]
end Go.Proofs

import Derived.Shelf.Lays
import Derived.Test.YtaglpcmhopjebaaGreatDoorZ4
import Derived.Test.YtaglpcmhopjebaaGreatDoorZ27
set_option linter.all false
set_option maxRecDepth 100000
set_option maxHeartbeats 20000000
namespace Go.Proofs
open Go.Tm Go.RowKit
variable {fs:Array Func} (L:bX fs)
def JO(s r):Lib.occAt s r 0=r.isPrefixOf s:=rfl
def xQ(s r:ByteArray)(w:World):Calls (Qs fs) 163 #[.string s,.string r] w λe w'=>e=.returned (.bool (r.data.toList.isPrefixOf s.data.toList))/\w'=w:=by
 obtain h|h:=Rv s.size r.size
 ·have c:decide ((r.size:Int)<=(s.size:Int))=false:=Rr (by omega)
  have a:decide (r.size<=s.size)=false:=Rr (by omega);have b:Hid (r.data.toList.isPrefixOf s.data.toList=false):=by
   rw[Hid];cases d:r.data.toList.isPrefixOf s.data.toList with
   |false=>rfl
   |true=>have f:=(S6.1 d).length_le;rw[<-Lib.size_eq,<-Lib.size_eq]at f;omega
  clear h;go_enter (n163 L),Tryz.ntmps163;go_wp2;go_ret;exact⟨by rw[b.out];rfl,rfl⟩
 ·have c:(r.size:Int)<=(s.size:Int):=by omega
  have a:r.size<=s.size:=h;have b:Hid _:=Lib.occ_of_piece s r 0 (by omega);clear h;go_enter (n163 L),Tryz.ntmps163;go_wp2;go_ret;refine⟨?_,rfl⟩;rw[<-JO,b.out,RA];rfl
def BU(s r:ByteArray)(w:World):Calls (Qs fs) 133 #[.string s,.string r] w λe w'=>e=.returned (.bool (r.data.toList.isPrefixOf s.data.toList))/\w'=w:=by
 have PH:=PH L;have c:=xQ L s r w;obtain⟨z,a⟩:=ex (r.data.toList.isPrefixOf s.data.toList);rw[<-a]at c⊢;clear a;go_enter (n133 L),Tryz.ntmps133;go_wp2_with (first|(go_at_call 163;refine c.mono ?_;clear c;rintro e w2 ⟨rfl,rfl⟩))
 go_ret;exact⟨rfl,rfl⟩
def lu(a:List Pr2):Nat->Bs->List ByteArray
 |0,_=>[]
 |_,[]=>[]
 |n+1,c::cs=>
  match bK a (c::cs)with
  |some p=>p.2::lu a n ((c::cs).drop p.1.size)
  |none=>(if aU c then⟨#[c]⟩else⟨#[]⟩)::lu a n cs
def ep(a:List Pr2)(w:Bs):List ByteArray:=lu a w.length w
theorem pS(a):∀(n) (s),(lu a n s).flatMap (λx=>x.data.toList)=kM a n s
 |0,s=>rfl
 |n+1,[]=>rfl
 |n+1,c::cs=>by
  unfold lu kM;cases bK a (c::cs)with
  |some p=>simp only[Tp];rw[pS a n]
  |none=>
   simp only[Tp];rw[pS a n]
   congr 1
   cases aU c<;>rfl
def vp(a s):(ep a s).flatMap (λx=>x.data.toList)=aS a s:=pS a _ s
theorem nE(a:List Pr2)(b:∀p∈a,1<=p.1.size):∀(n m) (s),s.length<=n->s.length<=m->lu a n s=lu a m s
 |n,m,[],_,_=>by cases n<;>cases m<;>rfl
 |0,m,c::cs,h,_=>by simp at h
 |n,0,c::cs,_,h=>by simp at h
 |n+1,m+1,c::cs,d,e=>by
  simp only[Rq]at d e;unfold lu;cases f:bK a (c::cs)with
  |some p=>have g:=b p (gH f);simp only[];rw[nE a b n m _ (by rw[RB,Rq];omega) (by rw[RB,Rq];omega)]
  |none=>simp only[];rw[nE a b n m cs (by omega) (by omega)]
def EH{a:List Pr2}(b:∀p∈a,1<=p.1.size){c}{s:Bs}{p}(d:bK a (c::s)=some p):ep a (c::s)=p.2::ep a ((c::s).drop p.1.size):=by
 have h:=b p (gH d);unfold ep;rw[Rq]
 conv=>lhs;unfold lu
 rw[d];simp only[];rw[nE a b _ ((c::s).drop p.1.size).length _ (by rw[RB,Rq];omega) (Ro _)]
def BV{a c}{s:Bs}(b:bK a (c::s)=none):ep a (c::s)=(if aU c then⟨#[c]⟩else⟨#[]⟩)::ep a s:=by
 unfold ep;rw[Rq]
 conv=>lhs;unfold lu
 rw[b]
def aE.blocks{K}{w w':World}{v l}(h:aE K 2 dH w v l)(i:∀b,K b->w'.heap[b]? =w.heap[b]?):aE K 2 dH w' v l:=by
 obtain⟨ao,c,rfl,n,p,j,q⟩:=h;have m:∀b o,K b->w'.cell? ⟨b,o,none⟩=w.cell? ⟨b,o,none⟩:=λb o d=>by unfold World.cell?;rw[show w'.heap[(⟨b,o,none⟩:Addr).block]? =w.heap[(⟨b,o,none⟩:Addr).block]? from i b d]
 refine⟨ao,c,rfl,n,p,λa r=>?_,λk d=>?_⟩
 ·obtain⟨k1,f,s⟩:=j a r
  exact⟨k1,f,by rw[i _ f];exact s⟩
 ·obtain⟨b,g,e,k1,f⟩:=q k d
  have d:=(j _ e).2.1;exact⟨b,g,e,(m b _ d).trans k1,(m b _ d).trans f⟩
def aE.below{K w v l}(h:aE K 2 dH w v l):aE (λb=>b<w.heap.size) 2 dH w v l:=by
 obtain⟨ao,c,rfl,i,j,m,n⟩:=h;refine⟨ao,c,rfl,i,j,λa o=>?_,λk p=>?_⟩
 ·obtain⟨k1,f,cs,e,F,g⟩:=m a o
  exact⟨k1,(Rx.1 g).1,cs,e,F,g⟩
 ·obtain⟨b,d,e,k1,f⟩:=n k p
  exact⟨b,d,e,k1,f⟩
def gJ(rest:ByteArray):Option Pr2->ByteArray×ByteArray×Int
 |some p=>(p.1,p.2,p.1.size)
 |none=>(rest.extract 0 1,if(rest.data.toList.head?.any aU)then rest.extract 0 1 else⟨#[]⟩,0)
end Go.Proofs
namespace Go.Proofs
open Go.Tm Go.RowKit
section
variable (fs:Array Func)
def iL(t):(Qs fs).fieldsOf t=Tryz.prog.fieldsOf t:=by unfold Program.fieldsOf;rw[aH]
def Mw{t}(h:Tryz.prog.eqGuardType Tryz.prog.depth t=false):(Qs fs).eqGuardType (Qs fs).depth t=false:=by rw[lW,show(Qs fs).depth=Tryz.prog.depth from rfl];exact h
def qU{t}(h:Tryz.prog.stoodInHeld t=false):(Qs fs).stoodInHeld t=false:=by rw[eA];exact h
def nF{t l}(h:Tryz.prog.underlying t=some (.struct l)):(Qs fs).underlying t=some (.struct ((Qs fs).fieldsOf t)):=by rw[iL,aH];unfold Program.fieldsOf;rw[h]
def uQ:Tryz.prog.eqGuardType Tryz.prog.depth 86=false:=by kernel_rfl
def GA:Tryz.prog.stoodInHeld 86=false:=by kernel_rfl
def Mx:Tryz.prog.eqGuardType Tryz.prog.depth 66=false:=by kernel_rfl
def My:Tryz.prog.stoodInHeld 66=false:=by kernel_rfl
def Mz:Tryz.prog.eqGuardType Tryz.prog.depth 96=false:=by kernel_rfl
def MA:Tryz.prog.stoodInHeld 96=false:=by kernel_rfl
def Ch(a b c x y z w):(binOp .eql 86 (.agg #[.int .i64 a,.int .i64 b,.int .i64 c]) (.agg #[.int .i64 x,.int .i64 y,.int .i64 z])).run (Qs fs) w=.ok (.bool (decide (a=x/\b=y/\c=z))) w:=by rw[run_eql_struct,run_equalIn_struct w _ 86 _ _ (nF fs Tryz.underlying86) (qU fs GA),iL,Program.fieldsOf,Tryz.underlying86];simp[go_sem];by_cases d:a=x<;>by_cases e:b=y<;>by_cases f:c=z<;>simp[d,e,f]
def yP(a b c x y z w):(binOp .neq 86 (.agg #[.int .i64 a,.int .i64 b,.int .i64 c]) (.agg #[.int .i64 x,.int .i64 y,.int .i64 z])).run (Qs fs) w=.ok (.bool (!decide (a=x/\b=y/\c=z))) w:=by rw[run_neq_struct,run_equalIn_struct w _ 86 _ _ (nF fs Tryz.underlying86) (qU fs GA),iL,Program.fieldsOf,Tryz.underlying86];simp[go_sem];by_cases d:a=x<;>by_cases e:b=y<;>by_cases f:c=z<;>simp[d,e,f]
def Hq(a b c x y z w):(binOp .neq 66 (.agg #[.int .i64 a,.int .i64 b,.int .i64 c]) (.agg #[.int .i64 x,.int .i64 y,.int .i64 z])).run (Qs fs) w=.ok (.bool (!decide (a=x/\b=y/\c=z))) w:=by rw[run_neq_struct,run_equalIn_struct w _ 66 _ _ (nF fs Tryz.underlying66) (qU fs My),iL,Program.fieldsOf,Tryz.underlying66];simp[go_sem];by_cases d:a=x<;>by_cases e:b=y<;>by_cases f:c=z<;>simp[d,e,f]
def Hr(a b c x y z w):(binOp .neq 96 (.agg #[.int .i64 a,.int .i64 b,.int .u8 c]) (.agg #[.int .i64 x,.int .i64 y,.int .u8 z])).run (Qs fs) w=.ok (.bool (!decide (a=x/\b=y/\c=z))) w:=by rw[run_neq_struct,run_equalIn_struct w _ 96 _ _ (nF fs Tryz.underlying96) (qU fs MA),iL,Program.fieldsOf,Tryz.underlying96];simp[go_sem];by_cases d:a=x<;>by_cases e:b=y<;>by_cases f:c=z<;>simp[d,e,f]
def iM{t}(h:Tryz.prog.eqGuardType Tryz.prog.depth t=false)(a x y xs b w):(eqGuard a t x y (.agg xs) (.agg b)).run (Qs fs) w=.ok () w:=run_eqGuard_agg w a t x y xs b (Mw fs h)
end
def Ke{s:Array Bool}{i k}(h:(s.setIfInBounds i true).getD k false=true):k=i\/s.getD k false=true:=by
 by_cases e:k=i
 ·exact .inl e
 ·right
  rw[Sv,RG (RJ e)]at h;rw[Sv];exact h
def aL{s:Array Bool}{i k}(h:(s.setIfInBounds i true).getD k false=true)(a:k≠i):s.getD k false=true:=(Ke h).resolve_left a
section
variable {P:Program} {md:Region.Mode} {ops:Array Oper} {Q:Exit->Act->World->Prop} {I:Array Bool->Act->World->Prop}
theorem jZ(c:∀s a w i,I s a w->i∈Region.ready md ops s->wpOp P ops Q i (λl w'=>I (s.setIfInBounds i true) l w') a w)
 (d:∀s a w,I s a w->Region.ready md ops s=[]->Q .normal a w):
 ∀(f) (s) (a) (w),s.toList.count false<=f->I s a w->wpAny P md ops Q f s a w
 |0,s,a,w,r,h=>by
  have o:Region.ready md ops s=[]:=by
   rw[List.eq_nil_iff_forall_not_mem];intro i k;obtain⟨e,_⟩:=mem_ready.1 k;have:false∈s.toList:=by
    rw[Sv]at e;cases m:s[i]? with
    |none=>rw[m]at e;cases e
    |some b=>rw[m]at e;have n:b=false:=e;subst n;exact SL (by rw[Su];exact m)
   have:=List.count_pos_iff.2 this;omega
  exact⟨o,d s a w h o⟩
 |f+1,s,a,w,r,h=>by
  refine⟨d s a w h,λi k=>wpOp_mono (λl w' t=>jZ c d f _ l w' ?_ t) (c s a w i h k)⟩;obtain⟨e,_⟩:=mem_ready.1 k;rw[Sv]at e;have g:i<s.size:=by
   obtain h|h:=Rv i s.size
   ·exact h
   ·rw[Tf h]at e;cases e
  rw[RU g]at e;have n:s[i]=false:=e;have p:i<s.toList.length:=by simpa using g
  have j:s.toList[i]=false:=by rw[UH];exact n
  rw[VG];have q:=List.count_set (a:=true) (b:=false) p;rw[j]at q;have u:0<s.toList.count false:=List.count_pos_iff.2 (j▸RN p);simp only[beq_self_eq_true,RF,Sq,show(true==false)=false from rfl,RP,RM]at q;omega
def P6(ops:Array Oper):Bool:=(List.range ops.size).all λk=>match ops[k]? with
 |some o=>o.after.all λe=>decide (e.on<k)
 |none=>true
theorem CI{s}(a:s.size=ops.size)(d:P6 ops=true)(f:Region.ready md ops s=[]):∀(n k),k<n->k<ops.size->s.getD k false=true
 |0,k,h,_=>absurd h (RY _)
 |n+1,k,h,b=>by
  cases g:s.getD k false with
  |true=>rfl
  |false=>
   exfalso;have c:k<s.size:=by omega
   have l:s.getD k true=false:=by rw[Sv,RU c]at g⊢;exact g
   have i:k∈Region.ready md ops s:=mem_ready.2 ⟨l,ops[k],RU b,λe m _=>by have j:=R6.1 d k (Up.2 b);rw[RU b]at j;have o:=Ua.1 j e m;have p:e.on<k:=Sp o;exact CI a d f n e.on (by omega) (by omega)⟩
   rw[f]at i;cases i
end
def bc{s:Array Bool}{i k}(h:s.getD k false=true):(s.setIfInBounds i true).getD k false=true:=by
 rw[Sv]at h⊢;by_cases e:k=i
 ·subst e
  have a:k<s.size:=by
   obtain h'|h':=Rv k s.size
   ·exact h'
   ·rw[Tf h']at h;cases h
  rw[UZ a];rfl
 ·rw[RG (RJ e)]
  exact h
def fK{s:Array Bool}{k}(h:s.getD k true=false):s.getD k false≠true:=by
 rw[Sv]at h⊢;cases a:s[k]? with
 |none=>rw[a]at h;cases h
 |some b=>rw[a]at h;have:b=false:=h;subst this;simp
def fS(w1 W:World)(ty:TypeId)(X:Nat):Prop:=w1.heap.size<=X/\∃c,W.heap[X]? =some (.cells #[.string c] ty (0,0))
def fS.new{w1 W:World}{ty}(h:w1.heap.size<=W.heap.size)(c):fS w1 (W.alloc (.cells #[.string c] ty)) ty W.heap.size:=⟨h,c,R8⟩
def fS.stays{w1 W a ty X}(h:fS w1 W ty X)(b:ae W a):fS w1 a ty X:=⟨h.1,h.2.elim λc d=>⟨c,b _ _ _ _ d⟩⟩
def fS.lt{w1 W ty X}(h:fS w1 W ty X):X<W.heap.size:=h.2.elim λc a=>(Rx.1 a).1
def fS.cell{w1 W ty X}(h:fS w1 W ty X):∃v,W.cell? ⟨X,0,none⟩=some (.string v):=h.2.elim λc a=>⟨c,cell_of_heap a 0 _ rfl⟩
def fS.frozen{w1 W ty X}(h:fS w1 W ty X):W.frozen? ⟨X,0,none⟩=false:=h.2.elim λc a=>frozen_of_heap a 0
def fS.set{w1 W ty X}(h:fS w1 W ty X){v}:fS w1 (W.setCell ⟨X,0,none⟩ (.string v)) ty X:=by
 obtain⟨a,c,b⟩:=h;refine⟨a,v,?_⟩;have d:(W.heap.modify X λo=>match o with| .cells c e F=>.cells (c.setIfInBounds 0 (.string v)) e F|o=>o)[X]? =some (.cells #[.string v] ty (0,0)):=by rw[SF,b];simp
 exact d
def fS.other{w1 W ty X Y}(h:fS w1 W ty Y)(a:Y≠X){v}:fS w1 (W.setCell ⟨X,0,none⟩ v) ty Y:=⟨h.1,h.2.elim λc b=>⟨c,(Below.heap_setCell W ⟨X,0,none⟩ v Y a).trans b⟩⟩
end Go.Proofs
namespace Go.Proofs
open Go.Shelf Go.Tm
def xV:Go.Shelf.Ren:=⟨λ|150=>135|153=>165|152=>175|226=>176|227=>177|228=>178|137=>193|119=>194|224=>195|225=>196|217=>207|266=>211|155=>139|154=>166|138=>179|165=>180|143=>181|166=>94|197=>182|169=>95|195=>197|218=>198|240=>134|241=>199|219=>200|260=>201|276=>164|277=>208|267=>209|314=>212|n=>n,
 λ|117=>241|116=>240|46=>215|124=>257|72=>153|76=>158|105=>243|70=>151|37=>120|75=>157|127=>203|164=>210|119=>265|139=>268|138=>267|146=>272|51=>193|80=>160|n=>n,
 λ|1=>2|n=>n⟩
def pV{fs:Array Func}(L:bX fs):Lays.n150 (Qs fs) xV/\Lays.n155 (Qs fs) xV:=by
 constructor<;>constructor;all_goals first
  |(intro w;first|with_reducible refine(zW _ _ _ w).trans ?_|with_reducible refine(uY _ _ _ w).trans ?_|with_reducible refine(gF _ _ _ w).trans ?_);rfl
  |(with_reducible refine(aH _ _ _).trans ?_);kernel_rfl
  |exact(L _ (by decide)).trans (by kernel_rfl)
  |kernel_rfl
end Go.Proofs
namespace Go.Proofs
open Go.Tm
variable {fs:Array Func} (L:bX fs)
def du(b:Bool)(f:Int)(w:World):
 Calls (Qs fs) 52 #[.bool b,.int .i64 f] w λe w'=>e=.returned (.int .i64 (if b then f else 0))/\w'=w:=by
 go_enter (n52 L),Tryz.ntmps52;go_wp2;all_goals (go_ret;simp_all)
def ej:List Int->Int
 | []=>0
 |f::l=>if f≠0 then f else ej l
def rf(a:List Int)(k)(b:k<a.length):ej (a.drop k)=if a.getD k 0≠0 then a.getD k 0 else ej (a.drop (k+1)):=by rw[SD b];simp[ej,T8,Sn b]
open Go.RowKit in
def uR(b f c:Nat)(zs:List Int)(w:World)(n:zs.length<=9223372036854775807)(l:∀k,k<zs.length->w.cell? ⟨b,f+k,none⟩=some (.int .i64 (zs.getD k 0))):
 Calls (Qs fs) 51 #[.slice (some ⟨b,f,none⟩) zs.length c] w λe w'=>e=.returned (.int .i64 (ej zs))/\w'=w:=by
 go_enter (n51 L),Tryz.ntmps51;go_wp2
 go_loop [7] (λi=>∃k:Nat,k<=zs.length/\i=.int .i64 k/\ej zs=ej (zs.drop k)) (λi=>zs.length-(intOf i).toNat)
 case atStart=>exact⟨0,Rz _,rfl,rfl⟩
 case round=>
  obtain⟨k,o,rfl,g⟩:=hrel;have j:k<zs.length->w.cell? ⟨b,f+k,none⟩=some (.int .i64 (zs.getD k 0)):=λh=>l k h;go_wp2
  ·have a:k<zs.length:=by assumption
   have d:(zs[k]!=0)=true:=by assumption
   go_ret;refine⟨?_,rfl⟩;try rw[g]
   rw[rf zs k a];simp only[Th]at d;simp[T8,Sn a,d]
  ·have a:k<zs.length:=by assumption
   have d:(zs[k]!=0)=false:=by assumption
   refine⟨⟨k+1,by omega,by go_num,?_⟩,by simp[intOf];omega⟩;rw[g,rf zs k a];simp only[bne_eq_false_iff_eq]at d;simp[T8,Sn a,d]
  ·have m:¬k<zs.length:=by assumption
   go_ret;refine⟨?_,rfl⟩;try rw[g]
   rw[RR (by omega)];rfl
end Go.Proofs
namespace Go.Proofs
def oz(X Y:Nat->Nat)(k:Nat):Nat:=((List.range k).map λn=>min (X n) (Y n)).sum
def kF(X Y k):oz X Y (k+1)=oz X Y k+min (X k) (Y k):=by unfold oz;rw[T3,Tz,List.sum_append];simp
theorem oD{X Y Z}:∀{k},(∀n,n<k->Y n=Z n)->oz X Y k=oz X Z k
 |0,_=>rfl
 |k+1,h=>by rw[kF,kF,oD λn a=>h n (by omega),h k (by omega)]
theorem xE(X Y h):∀k,h<k->oz X (λn=>if n=h then Y n+1 else Y n) k=oz X Y k+if Y h<X h then 1 else 0
 |0,a=>by omega
 |k+1,a=>by
  rw[kF,kF];by_cases e:h=k
  ·subst e
   rw[oD (Z:=Y) λn b=>Rm (by omega)];simp only[RF];split<;>omega
  ·rw[xE X Y h k (by omega),Rm (RJ e)]
   omega
theorem xF(X):∀k,oz X (λ_=>0) k=0
 |0=>rfl
 |k+1=>by rw[kF,xF X k];simp
def Gm(a b):(b.filter λn=>a.contains n).length+(bt b a).length=b.length:=by
 unfold bt;induction b with
 |nil=>rfl
 |cons x b c=>rw[SY,SY];cases a.contains x<;>simp only[Tk,TR,RF,RP,RM,Rq]<;>omega
def BD{a b:List Int}(c:a.Nodup)(d:b.Nodup):(a.filter λn=>b.contains n).length=(b.filter λn=>a.contains n).length:=by
 have h:(a.filter λn=>b.contains n).Perm (b.filter λn=>a.contains n):=(V9 (c.filter _) (d.filter _)).2 λx=>by rw[TK,TK];simp[and_comm]
 exact h.length_eq
def G5(x y k):nf x y k=oz (λn=>aN x n) (λn=>aN y n) k:=rfl
def oE(l x n):aN (l++[x]) n=aN l n+if x/100=n then 1 else 0:=by
 unfold aN;rw[TH,RH]
 congr 1
 by_cases h:x/100=n
 ·rw[Rn h,SY]
  simp[h]
 ·rw[Rm h,SY]
  simp[h]
abbrev EK:=Bool×Int
def bump(f:EK->Nat)(p:EK):EK->Nat:=λq=>if q=p then f p+1 else f q
def kG(l:List Int)(n:Int):Nat:=(l.filter λx=>x==n).length
def um(l x n):kG (l++[x]) n=kG l n+if x=n then 1 else 0:=by
 unfold kG;rw[TH,RH]
 congr 1
 by_cases h:x=n
 ·rw[Rn h,SY]
  simp[h]
 ·rw[Rm h,SY]
  simp[h]
def xG(l n):0<kG l n↔l.contains n=true:=by unfold kG;rw[List.length_pos_iff_exists_mem];simp[TK]
def zS(l n):kG l n<=l.length:=SJ _ _
def rY(l n):aN l n<=l.length:=SJ _ _
def m7(l m x):bt (l++[x]) m=if m.contains x then bt l m else bt l m++[x]:=by unfold bt;rw[TH,SY,List.filter_nil];cases m.contains x<;>simp
def mv(a b:List Int)(j:Nat):EK->Nat:=λp=>if p.1 then kG (a.take j) p.2 else aN (bt (a.take j) b) p.2
def Jr(a b):mv a b 0=λ_=>0:=by
 funext p
 unfold mv;rw[Sg];split<;>rfl
def iV{a:Type}(l:List a)(j)(h:j<l.length):l.take (j+1)=l.take j++[l[j]]:=by rw[List.take_add_one,Sn h];rfl
def NF(a b j)(h:j<a.length)(c:b.contains a[j]=true):mv a b (j+1)=bump (mv a b j) (true,a[j]):=by
 funext p
 obtain⟨t,n⟩:=p;unfold bump mv;rw[iV a j h,m7,Rn c];cases t with
 |true=>
  simp only[RF,um];by_cases e:n=a[j]
  ·subst e;simp
  ·rw[Rm (RJ e),Rm (λh=>e (TF h).2)]
   rfl
 |false=>simp
def LS(a b j)(h:j<a.length)(c:b.contains a[j]=false):mv a b (j+1)=bump (bump (mv a b j) (true,a[j])) (false,a[j]/100):=by
 have d:bt (a.take (j+1)) b=bt (a.take j) b++[a[j]]:=by rw[iV a j h,m7,Rm (by rw[c];exact TZ)]
 have f:∀n,kG (a.take (j+1)) n=kG (a.take j) n+if a[j]=n then 1 else 0:=λn=>by rw[iV a j h,um]
 funext p
 obtain⟨t,n⟩:=p;unfold bump mv;rw[d];cases t with
 |true=>
  simp only[RF,f];by_cases e:n=a[j]
  ·subst e;simp
  ·rw[Rm (RJ e),Rm (λh=>by cases h),Rm (λh=>e (TF h).2)]
   rfl
 |false=>
  simp only[RP,RM,oE];by_cases e:n=a[j]/100
  ·subst e;simp
  ·rw[Rm (RJ e),Rm (λh=>e (TF h).2)]
   simp
def nv(a b:List Int)(j:Nat):EK->Nat:=λp=>if p.1 then kG a p.2 else aN (bt a b) p.2-min (aN (bt a b) p.2) (aN (bt (b.take j) a) p.2)
def en(a b:List Int)(j:Nat):Nat:=((b.take j).filter λn=>a.contains n).length
def iy(a b:List Int)(j:Nat):Nat:=nf (bt a b) (bt (b.take j) a) 10
def Js(a b):nv a b 0=mv a b a.length:=by
 funext p
 unfold nv mv;rw[Sg,Tg];have:aN (bt [] a) p.2=0:=rfl;rw[this];simp
def NG(a b j)(h:j<b.length)(e:0<nv a b j (true,b[j])):nv a b (j+1)=nv a b j/\en a b (j+1)=en a b j+1/\iy a b (j+1)=iy a b j:=by
 have c:=(xG a b[j]).1 e;have d:bt (b.take (j+1)) a=bt (b.take j) a:=by rw[iV b j h,m7,Rn c]
 refine⟨?_,?_,?_⟩
 ·unfold nv;rw[d]
 ·unfold en
  rw[iV b j h,TH,RH,SY,Rn c];rfl
 ·unfold iy;rw[d]
def zT(f:EK->Nat)(p:EK):EK->Nat:=λq=>if q=p then f p-1 else f q
def LU(a b j)(h:j<b.length)(d:nv a b j (true,b[j])=0)(l:0<=b[j]/\b[j]<=999):
 en a b (j+1)=en a b j/\nv a b (j+1)=zT (nv a b j) (false,b[j]/100)/\iy a b (j+1)=iy a b j+if 0<nv a b j (false,b[j]/100)then 1 else 0:=by
 have c:¬a.contains b[j]=true:=λh=>by have:=(xG a b[j]).2 h;have d:kG a b[j]=0:=d;omega
 have f:bt (b.take (j+1)) a=bt (b.take j) a++[b[j]]:=by rw[iV b j h,m7,Rm c]
 have g:=λn=>oE (bt (b.take j) a) b[j] n;refine⟨?_,?_,?_⟩
 ·unfold en
  rw[iV b j h,TH,RH,SY,Rm c];rfl
 ·funext p
  obtain⟨t,n⟩:=p;unfold zT nv;rw[f];cases t with
  |true=>simp
  |false=>
   simp only[RP,RM,g];by_cases e:n=b[j]/100
   ·subst e
    simp only[RF];omega
   ·rw[Rm (RJ e),Rm (λh=>e (TF h).2),Sq]
 ·unfold iy
  rw[f,G5,G5];obtain⟨H,i⟩:∃H:Nat,(H:Int)=b[j]/100:=⟨(b[j]/100).toNat,by omega⟩
  have k:H<10:=by omega
  have e1:oz (λn=>aN (bt a b) n) (λn=>aN (bt (b.take j) a++[b[j]]) n) 10=oz (λn=>aN (bt a b) n) (λn=>if n=H then aN (bt (b.take j) a) n+1 else aN (bt (b.take j) a) n) 10:=by
   refine oD λn m=>?_;show aN _ _=_;rw[g,<-i];by_cases e:n=H
   ·subst e;simp
   ·rw[Rm e,Rm (by omega)];rfl
  rw[e1,xE _ (λn=>aN (bt (b.take j) a) n) H 10 k]
  congr 1
  unfold nv;simp only[RP,RM,<-i];by_cases e:aN (bt (b.take j) a) (H:Int)<aN (bt a b) (H:Int)
  ·rw[Rn e,Rn (by omega)]
  ·rw[Rm e,Rm (by omega)]
def Em(a b)(c:a≠[])(d:b≠[])(e:a.Nodup)(f:b.Nodup):bQ a b=(100*(2*(en a b b.length:Int)+(iy a b b.length:Int)))/((a.length:Int)+(b.length:Int)):=by
 rw[tI a b c d];have g:a.length-(bt a b).length=en a b b.length:=by unfold en;rw[Tg];have h:=Gm b a;have i:=BD e f;omega
 unfold iy;rw[g,Tg];simp
def xH(a b j):en a b j<=b.length:=Rp (SJ _ _) (by rw[R5];omega)
def En(a b j):iy a b j<=10*a.length:=Rp (BQ _ _ _) (Nat.mul_le_mul_left _ (SJ _ _))
def G6(a b j p):mv a b j p<=a.length:=by
 unfold mv;split
 ·exact Rp (zS _ _) (by rw[R5];omega)
 ·exact Rp (rY _ _) (Rp (SJ _ _) (by rw[R5];omega))
def G7(a b j p):nv a b j p<=a.length:=by
 unfold nv;split
 ·exact zS _ _
 ·exact Rp (Nat.sub_le _ _) (Rp (rY _ _) (SJ _ _))
end Go.Proofs

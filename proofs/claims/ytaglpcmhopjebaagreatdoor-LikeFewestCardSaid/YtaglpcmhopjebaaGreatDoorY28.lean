import Derived.Shelf.Lays
import Derived.Test.YtaglpcmhopjebaaGreatDoorY27
set_option linter.all false
set_option maxRecDepth 100000
set_option maxHeartbeats 20000000
namespace Go.Proofs
open Go.Tm Go.RowKit
def Kf{s:Array Bool}{i k}(h:(s.setIfInBounds i true).getD k false=true):k=i\/s.getD k false=true:=by
 by_cases e:k=i
 ·exact .inl e
 ·right
  rw[Sw,RH (RN e)]at h;rw[Sw];exact h
def aL{s:Array Bool}{i k}(h:(s.setIfInBounds i true).getD k false=true)(a:k≠i):s.getD k false=true:=(Kf h).resolve_left a
section
variable {P:Program} {md:Region.Mode} {ops:Array Oper} {Q:Exit->Act->World->Prop} {I:Array Bool->Act->World->Prop}
theorem jV(c:∀s a w i,I s a w->i∈Region.ready md ops s->wpOp P ops Q i (λl w'=>I (s.setIfInBounds i true) l w') a w)
 (d:∀s a w,I s a w->Region.ready md ops s=[]->Q .normal a w):
 ∀(f) (s) (a) (w),s.toList.count false<=f->I s a w->wpAny P md ops Q f s a w
 |0,s,a,w,r,h=>by
  have o:Region.ready md ops s=[]:=by
   rw[List.eq_nil_iff_forall_not_mem];intro i k;obtain⟨e,_⟩:=mem_ready.1 k;have:false∈s.toList:=by
    rw[Sw]at e;cases m:s[i]? with
    |none=>rw[m]at e;cases e
    |some b=>rw[m]at e;have n:b=false:=e;subst n;exact SN (by rw[Sv];exact m)
   have:=List.count_pos_iff.2 this;omega
  exact⟨o,d s a w h o⟩
 |f+1,s,a,w,r,h=>by
  refine⟨d s a w h,λi k=>wpOp_mono (λl w' t=>jV c d f _ l w' ?_ t) (c s a w i h k)⟩;obtain⟨e,_⟩:=mem_ready.1 k;rw[Sw]at e;have g:i<s.size:=by
   obtain h|h:=Ry i s.size
   ·exact h
   ·rw[Tg h]at e;cases e
  rw[RV g]at e;have n:s[i]=false:=e;have p:i<s.toList.length:=by simpa using g
  have j:s.toList[i]=false:=by rw[UH];exact n
  rw[VF];have q:=List.count_set (a:=true) (b:=false) p;rw[j]at q;have u:0<s.toList.count false:=List.count_pos_iff.2 (j▸RR p);simp only[beq_self_eq_true,RG,SM,show(true==false)=false from rfl,RQ,RP]at q;omega
def P9(ops:Array Oper):Bool:=(List.range ops.size).all λk=>match ops[k]? with
 |some o=>o.after.all λe=>decide (e.on<k)
 |none=>true
theorem Cu{s}(a:s.size=ops.size)(d:P9 ops=true)(f:Region.ready md ops s=[]):∀(n k),k<n->k<ops.size->s.getD k false=true
 |0,k,h,_=>absurd h (RZ _)
 |n+1,k,h,b=>by
  cases g:s.getD k false with
  |true=>rfl
  |false=>
   exfalso;have c:k<s.size:=by omega
   have l:s.getD k true=false:=by rw[Sw,RV c]at g⊢;exact g
   have i:k∈Region.ready md ops s:=mem_ready.2 ⟨l,ops[k],RV b,λe m _=>by have j:=Sm.1 d k (Uq.2 b);rw[RV b]at j;have o:=Ub.1 j e m;have p:e.on<k:=Su o;exact Cu a d f n e.on (by omega) (by omega)⟩
   rw[f]at i;cases i
end
def bc{s:Array Bool}{i k}(h:s.getD k false=true):(s.setIfInBounds i true).getD k false=true:=by
 rw[Sw]at h⊢;by_cases e:k=i
 ·subst e
  have a:k<s.size:=by
   obtain h'|h':=Ry k s.size
   ·exact h'
   ·rw[Tg h']at h;cases h
  rw[UY a];rfl
 ·rw[RH (RN e)]
  exact h
def fE{s:Array Bool}{k}(h:s.getD k true=false):s.getD k false≠true:=by
 rw[Sw]at h⊢;cases a:s[k]? with
 |none=>rw[a]at h;cases h
 |some b=>rw[a]at h;have:b=false:=h;subst this;simp
def fO(w1 W:World)(ty:TypeId)(X:Nat):Prop:=w1.heap.size<=X/\∃c,W.heap[X]? =some (.cells #[.string c] ty (0,0))
def fO.new{w1 W:World}{ty}(h:w1.heap.size<=W.heap.size)(c):fO w1 (W.alloc (.cells #[.string c] ty)) ty W.heap.size:=⟨h,c,Sd⟩
def fO.stays{w1 W a ty X}(h:fO w1 W ty X)(b:ae W a):fO w1 a ty X:=⟨h.1,h.2.elim λc d=>⟨c,b _ _ _ _ d⟩⟩
def fO.lt{w1 W ty X}(h:fO w1 W ty X):X<W.heap.size:=h.2.elim λc a=>(Rx.1 a).1
def fO.cell{w1 W ty X}(h:fO w1 W ty X):∃v,W.cell? ⟨X,0,none⟩=some (.string v):=h.2.elim λc a=>⟨c,cell_of_heap a 0 _ rfl⟩
def fO.frozen{w1 W ty X}(h:fO w1 W ty X):W.frozen? ⟨X,0,none⟩=false:=h.2.elim λc a=>frozen_of_heap a 0
def fO.set{w1 W ty X}(h:fO w1 W ty X){v}:fO w1 (W.setCell ⟨X,0,none⟩ (.string v)) ty X:=by
 obtain⟨a,c,b⟩:=h;refine⟨a,v,?_⟩;have d:(W.heap.modify X λo=>match o with| .cells c e F=>.cells (c.setIfInBounds 0 (.string v)) e F|o=>o)[X]? =some (.cells #[.string v] ty (0,0)):=by rw[SH,b];simp
 exact d
def fO.other{w1 W ty X Y}(h:fO w1 W ty Y)(a:Y≠X){v}:fO w1 (W.setCell ⟨X,0,none⟩ v) ty Y:=⟨h.1,h.2.elim λc b=>⟨c,(Below.heap_setCell W ⟨X,0,none⟩ v Y a).trans b⟩⟩
end Go.Proofs
namespace Go.Proofs
open Go.Shelf Go.Tm
def xJ:Go.Shelf.Ren:=⟨λ|150=>135|153=>165|152=>175|226=>176|227=>177|228=>178|137=>193|119=>194|224=>195|225=>196|217=>207|266=>211|155=>139|154=>166|138=>179|165=>180|143=>181|166=>94|197=>182|169=>95|195=>197|218=>198|240=>134|241=>199|219=>200|260=>201|276=>164|277=>208|267=>209|314=>212|n=>n,
 λ|117=>241|116=>240|46=>215|124=>257|72=>153|76=>158|105=>243|70=>151|37=>120|75=>157|127=>203|164=>210|119=>265|139=>268|138=>267|146=>272|51=>193|80=>160|n=>n,
 λ|1=>2|n=>n⟩
def pR{fs:Array Func}(L:bQ fs):Lays.n150 (Qs fs) xJ/\Lays.n155 (Qs fs) xJ:=by
 constructor<;>constructor;all_goals first
  |(intro w;first|with_reducible refine(zM _ _ _ w).trans ?_|with_reducible refine(uT _ _ _ w).trans ?_|with_reducible refine(gD _ _ _ w).trans ?_);rfl
  |(with_reducible refine(aH _ _ _).trans ?_);kernel_rfl
  |exact(L _ (by decide)).trans (by kernel_rfl)
  |kernel_rfl
end Go.Proofs
namespace Go.Proofs
open Go.Tm
variable {fs:Array Func} (L:bQ fs)
def dm(b:Bool)(f:Int)(w:World):
 Calls (Qs fs) 52 #[.bool b,.int .i64 f] w λe w'=>e=.returned (.int .i64 (if b then f else 0))/\w'=w:=by
 go_enter (n52 L),Tryz.ntmps52;go_wp2;all_goals (go_ret;simp_all)
def dX:List Int->Int
 | []=>0
 |f::l=>if f≠0 then f else dX l
def qX(a:List Int)(k)(b:k<a.length):dX (a.drop k)=if a.getD k 0≠0 then a.getD k 0 else dX (a.drop (k+1)):=by rw[SE b];simp[dX,Tv,R5 b]
open Go.RowKit in
def uL(b f c:Nat)(zs:List Int)(w:World)(n:zs.length<=9223372036854775807)(l:∀k,k<zs.length->w.cell? ⟨b,f+k,none⟩=some (.int .i64 (zs.getD k 0))):
 Calls (Qs fs) 51 #[.slice (some ⟨b,f,none⟩) zs.length c] w λe w'=>e=.returned (.int .i64 (dX zs))/\w'=w:=by
 go_enter (n51 L),Tryz.ntmps51;go_wp2
 go_loop [7] (λi=>∃k:Nat,k<=zs.length/\i=.int .i64 k/\dX zs=dX (zs.drop k)) (λi=>zs.length-(intOf i).toNat)
 case atStart=>exact⟨0,RA _,rfl,rfl⟩
 case round=>
  obtain⟨k,o,rfl,g⟩:=hrel;have j:k<zs.length->w.cell? ⟨b,f+k,none⟩=some (.int .i64 (zs.getD k 0)):=λh=>l k h;go_wp2
  ·have a:k<zs.length:=by assumption
   have d:(zs[k]!=0)=true:=by assumption
   go_ret;refine⟨?_,rfl⟩;try rw[g]
   rw[qX zs k a];simp only[Tq]at d;simp[Tv,R5 a,d]
  ·have a:k<zs.length:=by assumption
   have d:(zs[k]!=0)=false:=by assumption
   refine⟨⟨k+1,by omega,by go_num,?_⟩,by simp[intOf];omega⟩;rw[g,qX zs k a];simp only[bne_eq_false_iff_eq]at d;simp[Tv,R5 a,d]
  ·have m:¬k<zs.length:=by assumption
   go_ret;refine⟨?_,rfl⟩;try rw[g]
   rw[RY (by omega)];rfl
end Go.Proofs
namespace Go.Proofs
def oy(X Y:Nat->Nat)(k:Nat):Nat:=((List.range k).map λn=>min (X n) (Y n)).sum
def kC(X Y k):oy X Y (k+1)=oy X Y k+min (X k) (Y k):=by unfold oy;rw[T6,TA,List.sum_append];simp
theorem oz{X Y Z}:∀{k},(∀n,n<k->Y n=Z n)->oy X Y k=oy X Z k
 |0,_=>rfl
 |k+1,h=>by rw[kC,kC,oz λn a=>h n (by omega),h k (by omega)]
theorem xp(X Y h):∀k,h<k->oy X (λn=>if n=h then Y n+1 else Y n) k=oy X Y k+if Y h<X h then 1 else 0
 |0,a=>by omega
 |k+1,a=>by
  rw[kC,kC];by_cases e:h=k
  ·subst e
   rw[oz (Z:=Y) λn b=>Ro (by omega)];simp only[RG];split<;>omega
  ·rw[xp X Y h k (by omega),Ro (RN e)]
   omega
theorem xq(X):∀k,oy X (λ_=>0) k=0
 |0=>rfl
 |k+1=>by rw[kC,xq X k];simp
def Gf(a b):(b.filter λn=>a.contains n).length+(bn b a).length=b.length:=by
 unfold bn;induction b with
 |nil=>rfl
 |cons x b c=>rw[S6,S6];cases a.contains x<;>simp only[Tj,TW,RG,RQ,RP,Rs]<;>omega
def Be{a b:List Int}(c:a.Nodup)(d:b.Nodup):(a.filter λn=>b.contains n).length=(b.filter λn=>a.contains n).length:=by
 have h:(a.filter λn=>b.contains n).Perm (b.filter λn=>a.contains n):=(V8 (c.filter _) (d.filter _)).2 λx=>by rw[TN,TN];simp[and_comm]
 exact h.length_eq
def G0(x y k):m9 x y k=oy (λn=>aN x n) (λn=>aN y n) k:=rfl
def oD(l x n):aN (l++[x]) n=aN l n+if x/100=n then 1 else 0:=by
 unfold aN;rw[TL,RM]
 congr 1
 by_cases h:x/100=n
 ·rw[Rp h,S6]
  simp[h]
 ·rw[Ro h,S6]
  simp[h]
abbrev EK:=Bool×Int
def bump(f:EK->Nat)(p:EK):EK->Nat:=λq=>if q=p then f p+1 else f q
def kD(l:List Int)(n:Int):Nat:=(l.filter λx=>x==n).length
def ue(l x n):kD (l++[x]) n=kD l n+if x=n then 1 else 0:=by
 unfold kD;rw[TL,RM]
 congr 1
 by_cases h:x=n
 ·rw[Rp h,S6]
  simp[h]
 ·rw[Ro h,S6]
  simp[h]
def xt(l n):0<kD l n↔l.contains n=true:=by unfold kD;rw[List.length_pos_iff_exists_mem];simp[TN]
def zI(l n):kD l n<=l.length:=SL _ _
def rU(l n):aN l n<=l.length:=SL _ _
def mY(l m x):bn (l++[x]) m=if m.contains x then bn l m else bn l m++[x]:=by unfold bn;rw[TL,S6,List.filter_nil];cases m.contains x<;>simp
def mm(a b:List Int)(j:Nat):EK->Nat:=λp=>if p.1 then kD (a.take j) p.2 else aN (bn (a.take j) b) p.2
def Jp(a b):mm a b 0=λ_=>0:=by
 funext p
 unfold mm;rw[Si];split<;>rfl
def iQ{a:Type}(l:List a)(j)(h:j<l.length):l.take (j+1)=l.take j++[l[j]]:=by rw[List.take_add_one,R5 h];rfl
def NF(a b j)(h:j<a.length)(c:b.contains a[j]=true):mm a b (j+1)=bump (mm a b j) (true,a[j]):=by
 funext p
 obtain⟨t,n⟩:=p;unfold bump mm;rw[iQ a j h,mY,Rp c];cases t with
 |true=>
  simp only[RG,ue];by_cases e:n=a[j]
  ·subst e;simp
  ·rw[Ro (RN e),Ro (λh=>e (TH h).2)]
   rfl
 |false=>simp
def LS(a b j)(h:j<a.length)(c:b.contains a[j]=false):mm a b (j+1)=bump (bump (mm a b j) (true,a[j])) (false,a[j]/100):=by
 have d:bn (a.take (j+1)) b=bn (a.take j) b++[a[j]]:=by rw[iQ a j h,mY,Ro (by rw[c];exact T3)]
 have f:∀n,kD (a.take (j+1)) n=kD (a.take j) n+if a[j]=n then 1 else 0:=λn=>by rw[iQ a j h,ue]
 funext p
 obtain⟨t,n⟩:=p;unfold bump mm;rw[d];cases t with
 |true=>
  simp only[RG,f];by_cases e:n=a[j]
  ·subst e;simp
  ·rw[Ro (RN e),Ro (λh=>by cases h),Ro (λh=>e (TH h).2)]
   rfl
 |false=>
  simp only[RQ,RP,oD];by_cases e:n=a[j]/100
  ·subst e;simp
  ·rw[Ro (RN e),Ro (λh=>e (TH h).2)]
   simp
def nt(a b:List Int)(j:Nat):EK->Nat:=λp=>if p.1 then kD a p.2 else aN (bn a b) p.2-min (aN (bn a b) p.2) (aN (bn (b.take j) a) p.2)
def dY(a b:List Int)(j:Nat):Nat:=((b.take j).filter λn=>a.contains n).length
def iu(a b:List Int)(j:Nat):Nat:=m9 (bn a b) (bn (b.take j) a) 10
def Jq(a b):nt a b 0=mm a b a.length:=by
 funext p
 unfold nt mm;rw[Si,Tp];have:aN (bn [] a) p.2=0:=rfl;rw[this];simp
def NG(a b j)(h:j<b.length)(e:0<nt a b j (true,b[j])):nt a b (j+1)=nt a b j/\dY a b (j+1)=dY a b j+1/\iu a b (j+1)=iu a b j:=by
 have c:=(xt a b[j]).1 e;have d:bn (b.take (j+1)) a=bn (b.take j) a:=by rw[iQ b j h,mY,Rp c]
 refine⟨?_,?_,?_⟩
 ·unfold nt;rw[d]
 ·unfold dY
  rw[iQ b j h,TL,RM,S6,Rp c];rfl
 ·unfold iu;rw[d]
def zJ(f:EK->Nat)(p:EK):EK->Nat:=λq=>if q=p then f p-1 else f q
def LU(a b j)(h:j<b.length)(d:nt a b j (true,b[j])=0)(l:0<=b[j]/\b[j]<=999):
 dY a b (j+1)=dY a b j/\nt a b (j+1)=zJ (nt a b j) (false,b[j]/100)/\iu a b (j+1)=iu a b j+if 0<nt a b j (false,b[j]/100)then 1 else 0:=by
 have c:¬a.contains b[j]=true:=λh=>by have:=(xt a b[j]).2 h;have d:kD a b[j]=0:=d;omega
 have f:bn (b.take (j+1)) a=bn (b.take j) a++[b[j]]:=by rw[iQ b j h,mY,Ro c]
 have g:=λn=>oD (bn (b.take j) a) b[j] n;refine⟨?_,?_,?_⟩
 ·unfold dY
  rw[iQ b j h,TL,RM,S6,Ro c];rfl
 ·funext p
  obtain⟨t,n⟩:=p;unfold zJ nt;rw[f];cases t with
  |true=>simp
  |false=>
   simp only[RQ,RP,g];by_cases e:n=b[j]/100
   ·subst e
    simp only[RG];omega
   ·rw[Ro (RN e),Ro (λh=>e (TH h).2),SM]
 ·unfold iu
  rw[f,G0,G0];obtain⟨H,i⟩:∃H:Nat,(H:Int)=b[j]/100:=⟨(b[j]/100).toNat,by omega⟩
  have k:H<10:=by omega
  have e1:oy (λn=>aN (bn a b) n) (λn=>aN (bn (b.take j) a++[b[j]]) n) 10=oy (λn=>aN (bn a b) n) (λn=>if n=H then aN (bn (b.take j) a) n+1 else aN (bn (b.take j) a) n) 10:=by
   refine oz λn m=>?_;show aN _ _=_;rw[g,<-i];by_cases e:n=H
   ·subst e;simp
   ·rw[Ro e,Ro (by omega)];rfl
  rw[e1,xp _ (λn=>aN (bn (b.take j) a) n) H 10 k]
  congr 1
  unfold nt;simp only[RQ,RP,<-i];by_cases e:aN (bn (b.take j) a) (H:Int)<aN (bn a b) (H:Int)
  ·rw[Rp e,Rp (by omega)]
  ·rw[Ro e,Ro (by omega)]
def Ea(a b)(c:a≠[])(d:b≠[])(e:a.Nodup)(f:b.Nodup):bS a b=(100*(2*(dY a b b.length:Int)+(iu a b b.length:Int)))/((a.length:Int)+(b.length:Int)):=by
 rw[tD a b c d];have g:a.length-(bn a b).length=dY a b b.length:=by unfold dY;rw[Tp];have h:=Gf b a;have i:=Be e f;omega
 unfold iu;rw[g,Tp];simp
def xu(a b j):dY a b j<=b.length:=Rr (SL _ _) (by rw[R9];omega)
def Eb(a b j):iu a b j<=10*a.length:=Rr (BD _ _ _) (Nat.mul_le_mul_left _ (SL _ _))
def G1(a b j p):mm a b j p<=a.length:=by
 unfold mm;split
 ·exact Rr (zI _ _) (by rw[R9];omega)
 ·exact Rr (rU _ _) (Rr (SL _ _) (by rw[R9];omega))
def G2(a b j p):nt a b j p<=a.length:=by
 unfold nt;split
 ·exact zI _ _
 ·exact Rr (Nat.sub_le _ _) (Rr (rU _ _) (SL _ _))
end Go.Proofs

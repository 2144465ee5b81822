import Derived.Shelf.Lays
import Derived.Test.YtaglpcmhopjebaaGreatDoorT21
set_option linter.all false
set_option maxRecDepth 100000
set_option maxHeartbeats 20000000
namespace Go.Proofs
open Go.Tm Go.RowKit
def LK{s:Array Bool}{i k}(h:(s.setIfInBounds i true).getD k false=true):k=i\/s.getD k false=true:=by by_cases e:k=i;exact .inl e;right;rw[TS,Te (Tl e)]at h;rw[TS];exact h
def aO{s:Array Bool}{i k}(h:(s.setIfInBounds i true).getD k false=true)(a:k≠i):s.getD k false=true:=(LK h).resolve_left a
section
variable {P:Program} {md:Region.Mode} {ops:Array Oper} {Q:Exit->Act->World->Prop} {I:Array Bool->Act->World->Prop}
theorem j9(c:∀s a w i,I s a w->i∈Region.ready md ops s->wpOp P ops Q i (λl w'=>I (s.setIfInBounds i true) l w') a w) (d:∀s a w,I s a w->Region.ready md ops s=[]->Q .normal a w):∀(f) (s) (a) (w),s.toList.count false<=f->I s a w->wpAny P md ops Q f s a w
 |0,s,a,w,r,h=>by
  have o:Region.ready md ops s=[]:=by
   rw[List.eq_nil_iff_forall_not_mem];intro i k;obtain⟨e,_⟩:=mem_ready.1 k;have:false∈s.toList:=by
    rw[TS]at e;cases m:s[i]? with
    |none=>rw[m]at e;cases e
    |some b=>rw[m]at e;have n:b=false:=e;subst n;exact Ue (by rw[T1];exact m)
   have:=List.count_pos_iff.2 this;omega
  exact⟨o,d s a w h o⟩
 |f+1,s,a,w,r,h=>by
  refine⟨d s a w h,λi k=>wpOp_mono (λl w' t=>j9 c d f _ l w' ?_ t) (c s a w i h k)⟩;obtain⟨e,_⟩:=mem_ready.1 k;rw[TS]at e;have g:i<s.size:=by
   obtain h|h:=S6 i s.size
   ·exact h
   ·rw[Um h]at e;cases e
  rw[Tq g]at e;have n:s[i]=false:=e;have p:i<s.toList.length:=by simpa using g
  have j:s.toList[i]=false:=by rw[VU];exact n
  rw[WL];have q:=List.count_set (a:=true) (b:=false) p;rw[j]at q;have u:0<s.toList.count false:=List.count_pos_iff.2 (j▸Ti p);simp only[beq_self_eq_true,Tf,Uc,show(true==false)=false from rfl,Tn,Tk]at q;omega
def Rm(ops:Array Oper):Bool:=(List.range ops.size).all λk=>match ops[k]? with
 |some o=>o.after.all λe=>decide (e.on<k)
 |none=>true
theorem Dc{s}(a:s.size=ops.size)(d:Rm ops=true)(f:Region.ready md ops s=[]):∀(n k),k<n->k<ops.size->s.getD k false=true
 |0,k,h,_=>absurd h (Tt _)
 |n+1,k,h,b=>by
  cases g:s.getD k false with
  |true=>rfl
  |false=>
   exfalso;have c:k<s.size:=by omega
   have l:s.getD k true=false:=by rw[TS,Tq c]at g⊢;exact g
   have i:k∈Region.ready md ops s:=mem_ready.2 ⟨l,ops[k],Tq b,λe m _=>by have j:=TO.1 d k (VI.2 b);rw[Tq b]at j;have o:=UK.1 j e m;have p:e.on<k:=TG o;exact Dc a d f n e.on (by omega) (by omega)⟩
   rw[f]at i;cases i
end
def bg{s:Array Bool}{i k}(h:s.getD k false=true):(s.setIfInBounds i true).getD k false=true:=by rw[TS]at h⊢;by_cases e:k=i;subst e;(have a:k<s.size:=by obtain h'|h':=S6 k s.size;exact h';rw[Um h']at h;cases h);rw[Wo a];rfl;rw[Te (Tl e)];exact h
def fF{s:Array Bool}{k}(h:s.getD k true=false):s.getD k false≠true:=by rw[TS]at h⊢;cases a:s[k]? with|none=>rw[a]at h;cases h|some b=>rw[a]at h;have:b=false:=h;subst this;simp
def fP(w1 W:World)(ty:TypeId)(X:Nat):Prop:=w1.heap.size<=X/\∃c,W.heap[X]? =some (.cells #[.string c] ty (0,0))
def fP.new{w1 W:World}{ty}(h:w1.heap.size<=W.heap.size)(c):fP w1 (W.alloc (.cells #[.string c] ty)) ty W.heap.size:=⟨h,c,TM⟩
def fP.stays{w1 W a ty X}(h:fP w1 W ty X)(b:ae W a):fP w1 a ty X:=⟨h.1,h.2.elim λc d=>⟨c,b _ _ _ _ d⟩⟩
def fP.lt{w1 W ty X}(h:fP w1 W ty X):X<W.heap.size:=h.2.elim λc a=>(S8.1 a).1
def fP.cell{w1 W ty X}(h:fP w1 W ty X):∃v,W.cell? ⟨X,0,none⟩=some (.string v):=h.2.elim λc a=>⟨c,cell_of_heap a 0 _ rfl⟩
def fP.frozen{w1 W ty X}(h:fP w1 W ty X):W.frozen? ⟨X,0,none⟩=false:=h.2.elim λc a=>frozen_of_heap a 0
def fP.set{w1 W ty X}(h:fP w1 W ty X){v}:fP w1 (W.setCell ⟨X,0,none⟩ (.string v)) ty X:=by (obtain⟨a,c,b⟩:=h;refine⟨a,v,?_⟩;have d:(W.heap.modify X λo=>match o with| .cells c e F=>.cells (c.setIfInBounds 0 (.string v)) e F|o=>o)[X]? =some (.cells #[.string v] ty (0,0)):=by rw[TR,b];simp);exact d
def fP.other{w1 W ty X Y}(h:fP w1 W ty Y)(a:Y≠X){v}:fP w1 (W.setCell ⟨X,0,none⟩ v) ty Y:=⟨h.1,h.2.elim λc b=>⟨c,(Below.heap_setCell W ⟨X,0,none⟩ v Y a).trans b⟩⟩
end Go.Proofs
namespace Go.Proofs
open Go.Shelf Go.Tm
def sT:Go.Shelf.Ren:=⟨λ|150=>135|153=>165|152=>175|226=>176|227=>177|228=>178|137=>193|119=>194|224=>195|225=>196|217=>207|266=>211|155=>139|154=>166|138=>179|165=>180|143=>181|166=>94|197=>182|169=>95|195=>197|218=>198|240=>134|241=>199|219=>200|260=>201|276=>164|277=>208|267=>209|314=>212|n=>n,λ|117=>241|116=>240|46=>215|124=>257|72=>153|76=>158|105=>243|70=>151|37=>120|75=>157|127=>203|164=>210|119=>265|139=>268|138=>267|146=>272|51=>193|80=>160|n=>n,λ|1=>2|n=>n⟩
def jv{fs:Array Func}(L:bQ fs):Lays.n150 (Qs fs) sT/\Lays.n138 (Qs fs) sT/\Lays.n165 (Qs fs) sT:=by
 refine⟨?_,?_,?_⟩<;>constructor;all_goals first
  |(intro w;first|with_reducible refine(As _ _ _ w).trans ?_|with_reducible refine(vt _ _ _ w).trans ?_|with_reducible refine(jb _ _ _ w).trans ?_);rfl
  |(with_reducible refine(aL _ _ _).trans ?_);kernel_rfl
  |exact(L.1 _ (by decide) (by decide)).trans (by kernel_rfl)
  |kernel_rfl
end Go.Proofs
namespace Go.Proofs
open Go.Tm
variable {fs:Array Func} (L:bQ fs)
def dx(b:Bool)(f:Int)(w:World):Calls (Qs fs) 52 #[.bool b,.int .i64 f] w λe w'=>e=.returned (.int .i64 (if b then f else 0))/\w'=w:=by go_enter (n52 L),Tryz.ntmps52;go_wp2;all_goals (go_ret;simp_all)
def eW:List Int->Int
 | []=>0
 |f::l=>if f≠0 then f else eW l
def rm(a:List Int)(k)(b:k<a.length):eW (a.drop k)=if a.getD k 0≠0 then a.getD k 0 else eW (a.drop (k+1)):=by rw[UW b];simp[eW,Vm,TA b]
open Go.RowKit in
def vd(b f c:Nat)(zs:List Int)(w:World)(n:zs.length<=9223372036854775807)(l:∀k,k<zs.length->w.cell? ⟨b,f+k,none⟩=some (.int .i64 (zs.getD k 0))):Calls (Qs fs) 51 #[.slice (some ⟨b,f,none⟩) zs.length c] w λe w'=>e=.returned (.int .i64 (eW zs))/\w'=w:=by
 go_enter (n51 L),Tryz.ntmps51;go_wp2
 go_loop [7] (λi=>∃k:Nat,k<=zs.length/\i=.int .i64 k/\eW zs=eW (zs.drop k)) (λi=>zs.length-(intOf i).toNat)
 case atStart=>exact⟨0,Tb _,rfl,rfl⟩
 case round=>
  obtain⟨k,o,rfl,g⟩:=hrel;have j:k<zs.length->w.cell? ⟨b,f+k,none⟩=some (.int .i64 (zs.getD k 0)):=λh=>l k h;go_wp2
  ·(have a:k<zs.length:=by assumption);(have d:(zs[k]!=0)=true:=by assumption);(go_ret;refine⟨?_,rfl⟩;try rw[g]);rw[rm zs k a];simp only[UA]at d;simp[Vm,TA a,d]
  have a:k<zs.length:=by assumption
  have d:(zs[k]!=0)=false:=by assumption
  refine⟨⟨k+1,by omega,by go_num,?_⟩,by simp[intOf];omega⟩;rw[g,rm zs k a];simp only[bne_eq_false_iff_eq]at d;simp[Vm,TA a,d];have m:¬k<zs.length:=by assumption
  go_ret;refine⟨?_,rfl⟩;try rw[g]
  rw[Tz (by omega)];rfl
end Go.Proofs
namespace Go.Proofs
def oG(X Y:Nat->Nat)(k:Nat):Nat:=((List.range k).map λn=>min (X n) (Y n)).sum
def kN(X Y k):oG X Y (k+1)=oG X Y k+min (X k) (Y k):=by unfold oG;rw[Uq,Uz,VX];simp
theorem oH{X Y Z}:∀{k},(∀n,n<k->Y n=Z n)->oG X Y k=oG X Z k
 |0,_=>rfl
 |k+1,h=>by rw[kN,kN,oH λn a=>h n (by omega),h k (by omega)]
theorem xP(X Y h):∀k,h<k->oG X (λn=>if n=h then Y n+1 else Y n) k=oG X Y k+if Y h<X h then 1 else 0
 |0,a=>by omega
 |k+1,a=>by
  rw[kN,kN];by_cases e:h=k
  ·subst e
   rw[oH (Z:=Y) λn b=>SQ (by omega)];simp only[Tf];split<;>omega
  ·rw[xP X Y h k (by omega),SQ (Tl e)]
   omega
theorem xQ(X):∀k,oG X (λ_=>0) k=0
 |0=>rfl
 |k+1=>by rw[kN,xQ X k];simp
def Hg(a b):(b.filter λn=>a.contains n).length+(aY b a).length=b.length:=by unfold aY;induction b with|nil=>rfl|cons x b c=>rw[Uh,Uh];cases a.contains x<;>simp only[Ud,U6,Tf,Tn,Tk,SY]<;>omega
def B8{a b:List Int}(c:a.Nodup)(d:b.Nodup):(a.filter λn=>b.contains n).length=(b.filter λn=>a.contains n).length:=by (have h:(a.filter λn=>b.contains n).Perm (b.filter λn=>a.contains n):=(Wy (c.filter _) (d.filter _)).2 λx=>by rw[UY,UY];simp[and_comm]);exact h.length_eq
def ID(x y k):ni x y k=oG (λn=>aF x n) (λn=>aF y n) k:=rfl
def oI(l x n):aF (l++[x]) n=aF l n+if x/100=n then 1 else 0:=by unfold aF;rw[UU,To];congr 1;by_cases h:x/100=n;rw[SS h,Uh];simp[h];rw[SQ h,Uh];simp[h]
abbrev EK:=Bool×Int
def bump(f:EK->Nat)(p:EK):EK->Nat:=λq=>if q=p then f p+1 else f q
def kO(l:List Int)(n:Int):Nat:=(l.filter λx=>x==n).length
def uv(l x n):kO (l++[x]) n=kO l n+if x=n then 1 else 0:=by unfold kO;rw[UU,To];congr 1;by_cases h:x=n;rw[SS h,Uh];simp[h];rw[SQ h,Uh];simp[h]
def xR(l n):0<kO l n↔l.contains n=true:=by unfold kO;rw[List.length_pos_iff_exists_mem];simp[UY]
def Ag(l n):kO l n<=l.length:=TK _ _
def rZ(l n):aF l n<=l.length:=TK _ _
def nc(l m x):aY (l++[x]) m=if m.contains x then aY l m else aY l m++[x]:=by unfold aY;rw[UU,Uh,List.filter_nil];cases m.contains x<;>simp
def mB(a b:List Int)(j:Nat):EK->Nat:=λp=>if p.1 then kO (a.take j) p.2 else aF (aY (a.take j) b) p.2
def Kw(a b):mB a b 0=λ_=>0:=by funext p;unfold mB;rw[TL];split<;>rfl
def iP{a:Type}(l:List a)(j)(h:j<l.length):l.take (j+1)=l.take j++[l[j]]:=by rw[List.take_add_one,TA h];rfl
def Pc(a b j)(h:j<a.length)(c:b.contains a[j]=true):mB a b (j+1)=bump (mB a b j) (true,a[j]):=by funext p;obtain⟨t,n⟩:=p;unfold bump mB;rw[iP a j h,nc,SS c];cases t with|true=>simp only[Tf,uv];by_cases e:n=a[j];subst e;simp;rw[SQ (Tl e),SQ (λh=>e (Va h).2)];rfl|false=>simp
def Nn(a b j)(h:j<a.length)(c:b.contains a[j]=false):mB a b (j+1)=bump (bump (mB a b j) (true,a[j])) (false,a[j]/100):=by (have d:aY (a.take (j+1)) b=aY (a.take j) b++[a[j]]:=by rw[iP a j h,nc,SQ (by rw[c];exact Vx)]);(have f:∀n,kO (a.take (j+1)) n=kO (a.take j) n+if a[j]=n then 1 else 0:=λn=>by rw[iP a j h,uv]);funext p;obtain⟨t,n⟩:=p;unfold bump mB;rw[d];cases t with|true=>simp only[Tf,f];by_cases e:n=a[j];subst e;simp;rw[SQ (Tl e),SQ (λh=>by cases h),SQ (λh=>e (Va h).2)];rfl|false=>simp only[Tn,Tk,oI];by_cases e:n=a[j]/100;subst e;simp;rw[SQ (Tl e),SQ (λh=>e (Va h).2)];simp
def nz(a b:List Int)(j:Nat):EK->Nat:=λp=>if p.1 then kO a p.2 else aF (aY a b) p.2-min (aF (aY a b) p.2) (aF (aY (b.take j) a) p.2)
def dX(a b:List Int)(j:Nat):Nat:=((b.take j).filter λn=>a.contains n).length
def im(a b:List Int)(j:Nat):Nat:=ni (aY a b) (aY (b.take j) a) 10
def Kx(a b):nz a b 0=mB a b a.length:=by funext p;unfold nz mB;rw[TL,Uo];have:aF (aY [] a) p.2=0:=rfl;rw[this];simp
def Pd(a b j)(h:j<b.length)(e:0<nz a b j (true,b[j])):nz a b (j+1)=nz a b j/\dX a b (j+1)=dX a b j+1/\im a b (j+1)=im a b j:=by (have c:=(xR a b[j]).1 e;have d:aY (b.take (j+1)) a=aY (b.take j) a:=by rw[iP b j h,nc,SS c]);refine⟨?_,?_,?_⟩;unfold nz;rw[d];unfold dX;rw[iP b j h,UU,To,Uh,SS c];rfl;unfold im;rw[d]
def Ah(f:EK->Nat)(p:EK):EK->Nat:=λq=>if q=p then f p-1 else f q
def No(a b j)(h:j<b.length)(d:nz a b j (true,b[j])=0)(l:0<=b[j]/\b[j]<=999):dX a b (j+1)=dX a b j/\nz a b (j+1)=Ah (nz a b j) (false,b[j]/100)/\im a b (j+1)=im a b j+if 0<nz a b j (false,b[j]/100)then 1 else 0:=by (have c:¬a.contains b[j]=true:=λh=>by have:=(xR a b[j]).2 h;have d:kO a b[j]=0:=d;omega);(have f:aY (b.take (j+1)) a=aY (b.take j) a++[b[j]]:=by rw[iP b j h,nc,SQ c]);have g:=λn=>oI (aY (b.take j) a) b[j] n;refine⟨?_,?_,?_⟩;unfold dX;rw[iP b j h,UU,To,Uh,SQ c];rfl;funext p;(obtain⟨t,n⟩:=p;unfold Ah nz;rw[f];cases t with|true=>simp|false=>simp only[Tn,Tk,g];by_cases e:n=b[j]/100;subst e;simp only[Tf];omega;rw[SQ (Tl e),SQ (λh=>e (Va h).2),Uc]);unfold im;(rw[f,ID,ID];obtain⟨H,i⟩:∃H:Nat,(H:Int)=b[j]/100:=⟨(b[j]/100).toNat,by omega⟩);(have k:H<10:=by omega);(have e1:oG (λn=>aF (aY a b) n) (λn=>aF (aY (b.take j) a++[b[j]]) n) 10=oG (λn=>aF (aY a b) n) (λn=>if n=H then aF (aY (b.take j) a) n+1 else aF (aY (b.take j) a) n) 10:=by refine oH λn m=>?_;show aF _ _=_;rw[g,<-i];by_cases e:n=H;subst e;simp;rw[SQ e,SQ (by omega)];rfl);rw[e1,xP _ (λn=>aF (aY (b.take j) a) n) H 10 k];congr 1;unfold nz;simp only[Tn,Tk,<-i];by_cases e:aF (aY (b.take j) a) (H:Int)<aF (aY a b) (H:Int);rw[SS e,SS (by omega)];rw[SQ e,SQ (by omega)]
def EH(a b)(c:a≠[])(d:b≠[])(e:a.Nodup)(f:b.Nodup):bp a b=(100*(2*(dX a b b.length:Int)+(im a b b.length:Int)))/((a.length:Int)+(b.length:Int)):=by (rw[tM a b c d];have g:a.length-(aY a b).length=dX a b b.length:=by unfold dX;rw[Uo];have h:=Hg b a;have i:=B8 e f;omega);unfold im;rw[g,Uo];simp
def xS(a b j):dX a b j<=b.length:=SV (TK _ _) (by rw[Ua];omega)
def EI(a b j):im a b j<=10*a.length:=SV (Ct _ _ _) (Nat.mul_le_mul_left _ (TK _ _))
def IE(a b j p):mB a b j p<=a.length:=by unfold mB;split;exact SV (Ag _ _) (by rw[Ua];omega);exact SV (rZ _ _) (SV (TK _ _) (by rw[Ua];omega))
def IF(a b j p):nz a b j p<=a.length:=by unfold nz;split;exact Ag _ _;exact SV (Nat.sub_le _ _) (SV (rZ _ _) (TK _ _))
end Go.Proofs

import Derived.Shelf.Lays
import Derived.Test.YtaglpcmhopjebaaGreatDoorR2
import Derived.Test.YtaglpcmhopjebaaGreatDoorR21
set_option linter.all false
set_option maxRecDepth 100000
set_option maxHeartbeats 20000000
namespace Go.Proofs
open Go.Tm Go.RowKit
variable {fs:Array Func} (L:bP fs)
def Hb(l:List jA)(i:Nat)(a:i<l.length)(n:ByteArray)(ss:List Pr2):de (l.take i) ⟨n,ss⟩=if !dC n then 4 else if(l.take i).any (λq=>decide (q.name=n))then 5 else aN 0 5 dR ss:=rfl
def xQ{K:Nat->Prop}{v:Value}{l:List jA}(w:World)(ab:aD K 2 eW w v l)(hs:∀t∈l,t.name.size<=1000/\∀p∈t.aV,p.1.size<=1000/\p.2.size<=1000)(hn:l.length<=1000):Calls (Qs fs) 59 #[v] w λe w'=>e=.returned (.int .i64 (aN 0 3 de l))/\Below w.heap.size w w':=by
 have Nu:=Nu L;have e61:=e61 L;obtain⟨ao,c,rfl,a7,hc,_,C⟩:=ab;by_cases a8:3<l.length
 ·have g:(3:Int)<(l.length:Int):=by omega
  have e:aN 0 3 de l=2:=by unfold aN aq;rw[Sv (p:=(l.length:Int)<=3) (by omega),UI];rfl
  rw[e];clear hs C;go_enter (n59 L),Tryz.ntmps59;go_wp2;go_ret;exact⟨rfl,Below.refl _ _⟩
 have g:decide ((3:Int)<(l.length:Int))=false:=Sv (by omega);have e:aN 0 3 de l=ep de [] l:=by unfold aN aq;rw[SD (by omega),SD (by omega)];rfl
 rw[e];clear e;have HS:Hid _:=hs;have HC:Hid _:=C;clear hs C;go_enter (n59 L),Tryz.ntmps59;go_wp2;go_loopw [3] (λs wr=>∃k:Nat,k<=l.length/\s=.int .i64 k/\(∀j (_:j<k) (h':j<l.length),de (l.take j) l[j]=0)/\Below w.heap.size w wr) (λs _=>l.length-(intOf s).toNat);case atStart=>exact⟨0,SE _,rfl,λj h=>absurd h (SL _),Below.refl _ _⟩
 case round=>
  obtain⟨k,hk,rfl,hf,hb⟩:=hrel;have HF:Hid _:=hf;have HB:Hid _:=hb;clear hf hb;obtain G|hge:=Sr k l.length
  ·obtain⟨b,P,rfl,hx⟩:=HC.out k G;obtain⟨Q,F⟩:=HS.out l[k] (SH G);obtain⟨D,vs,R,H⟩:=hx;have HR:Hid (∀j (hj:j<l.length),w.cell? ⟨b,P+j*2,none⟩=some (.string l[j].name)):=λj hj=>by obtain⟨b',o',e',hy⟩:=HC.out j hj;cases e';exact hy.1
   have S0:=ae.below HB.out;have S:w.cell? ⟨b,P+k*2+1,none⟩=some vs:=R;have D:=S0.cell D;have R:=S0.cell R;clear S0;obtain⟨p,hp⟩:=ex (l[k]);rw[<-hp]at D Q F H;obtain⟨p0,p1⟩:=p;simp only[]at D R Q F H;have a:=Hb l k G p0 p1;have I:=λwx=>Iq L p0 wx (by omega);obtain⟨z1,J⟩:=ex (dC p0);simp only[<-J]at I a;have HP:Hid _:=hp;have HL:Hid _:=a;clear J hp a;have U:∀{f:Int},de (l.take k) ⟨p0,p1⟩=f->f≠0->ep de [] l=f:=λQ F=>iS G HF.out (by rw[<-HP.out];exact Q) F;have HG:Hid (de (l.take k) ⟨p0,p1⟩=0->∀j (_:j<k+1) (h':j<l.length),de (l.take j) l[j]=0):=λh=>iU HF.out G (by rw[<-HP.out];exact h);have T:Hid _:=@U;clear U;have q1:=I wr;clear I;cases z1 with
   |false=>have B:=T.out (HL.out.trans rfl:_=(4:Int)) (by decide);have HV:Hid _:=B;clear B;go_wp2_with (first|(go_at_call 111;refine q1.mono ?_;rintro e w3 ⟨rfl,M⟩));go_ret;exact⟨by rw[HV.out];rfl,HB.out.trans (M.mono HB.out.size)⟩
   |true=>
    (go_upto_block 2 with(first|(go_at_call 111;refine q1.mono ?_;rintro e w3 ⟨rfl,M⟩)));have an:Hid (Below w.heap.size w w3):=HB.out.trans (M.mono HB.out.size);have D:=(ae.below M).cell D;clear M q1;go_wp2;go_loopw [4] (λs wi=>∃j:Nat,j<=k/\s=.int .i64 j/\(∀i (_:i<j) (h':i<l.length),l[i].name≠p0)/\ae w3 wi/\Below w.heap.size w wi) (λs _=>k-(intOf s).toNat);case atStart=>exact⟨0,SE _,rfl,λj h=>absurd h (SL _),ae.refl _,an.out⟩
    case round=>
     (obtain⟨j,hj,rfl,N,A,n⟩:=hrel;have HN:Hid _:=N;have HI:Hid _:=(⟨A,n⟩:_/\Below w.heap.size w wr));have y1:=A.cell D;have y2:=(ae.below n).cell S;clear N;obtain hjk|hjk:=Sr j k
     ·have y0:=(ae.below n).cell (HR.out j (by omega));(obtain⟨r,X⟩:=ex (l[j].name);rw[<-X]at y0;have l0:∀x:aj w wr,x.val.cell? ⟨b,P+j*2,none⟩=some (.string r):=λx=>x.st.cell y0;have l1:∀x:aj w wr,x.val.cell? ⟨b,P+k*2,none⟩=some (.string p0):=λx=>x.st.cell y1;obtain⟨d,hd⟩:=ex (decide (r=p0));have Y:=mG r p0;rw[<-hd]at Y;have HD:Hid _:=hd;have O:Hid _:=X;clear hd;clear X A n;go_upto_region 11 with fail;refine aR (w0:=w) (w1:=wr) (by kernel_rfl) (by kernel_rfl) (ae.refl _) HI.out.2 ?_;haveI ar:Nonempty (aj w wr):=⟨⟨wr,ae.refl _,HI.out.2⟩⟩);(repeat (go_big_quiet_step (fail)));(refine wpQuiet_nil ?_;rintro wz ⟨⟨_,Sz,Bz⟩,rfl⟩;have HZ:Hid _:=(⟨HI.out.1.trans Sz,Bz⟩:_/\_));clear l0 l1 ar Sz Bz y0 y1 y2;cases d with|true=>have he:r=p0:=Tf HD.out.symm;have B:=T.out (HL.out.trans (by rw[Sm (by simp),Sn];rw[TE];exact⟨l[j],Vv.2 ⟨j,by omega,rfl⟩,SD (O.out▸he)⟩):_=(5:Int)) (by decide);have HV:Hid _:=B;clear Y he B;go_wp2;go_ret;exact⟨by rw[HV.out];rfl,HZ.out.2⟩|false=>(have he:r≠p0:=Vk HD.out.symm;have ad:∀i (_:i<j+1) (h':i<l.length),l[i].name≠p0:=λi Q F=>by obtain h3|h3:=Sr i j;exact HN.out i h3 F;(have:i=j:=by omega);subst this;exact O.out▸he);have ax:Hid _:=ad;clear Y he ad;go_wp2;exact⟨⟨j+1,by omega,by go_num,ax.out,HZ.out.1,HZ.out.2⟩,by simp[intOf];omega⟩
     (have ay:j=k:=by omega);(subst ay;have V:(l.take j).any (λq=>decide (q.name=p0))=false:=EI.2 λi Q F=>Sv (HN.out i Q F);have HA:Hid (de (l.take j) ⟨p0,p1⟩=aN 0 5 dR p1):=by rw[Hid,HL.out,V];rfl);(have H:=H.stays (ae.below n) λx y o z e h=>by subst e;exact⟨(ae.below n).cell h.1,(ae.below n).cell h.2⟩);obtain⟨ba,cs,rfl,bb,bk,_,E⟩:=H;have aM:Hid _:=E;clear V A n E;by_cases h5:5<p1.length
     ·(have g5:(5:Int)<(p1.length:Int):=by omega);have B:=T.out (HA.out.trans (by unfold aN aq;rw[Sv (p:=(p1.length:Int)<=5) (by omega),UI];rfl):_=(2:Int)) (by decide);have HV:Hid _:=B;clear B;go_wp2;go_ret;exact⟨by rw[HV.out];rfl,HI.out.2⟩
     have g5:decide ((5:Int)<(p1.length:Int))=false:=Sv (by omega);(have e5:aN 0 5 dR p1=ep dR [] p1:=by unfold aN aq;rw[SD (by omega),SD (by omega)];rfl);have af:Hid _:=HA.out.trans e5;clear e5
     (go_upto_block 4 with fail);go_wp2;go_loopw [5] (λs wi=>∃m:Nat,m<=p1.length/\s=.int .i64 m/\(∀i (_:i<m) (h':i<p1.length),dR (p1.take i) p1[i]=0)/\ae wr wi/\Below w.heap.size w wi) (λs _=>p1.length-(intOf s).toNat);case atStart=>exact⟨0,SE _,rfl,λj h=>absurd h (SL _),ae.refl _,HI.out.2⟩
     case round=>
      (obtain⟨m,hm,rfl,N,A,n⟩:=hrel;have Z:Hid _:=N;have ag:Hid _:=(⟨A,n⟩:_/\Below w.heap.size w wr));have y3:=A.cell y2;clear N;obtain hmk|hmk:=Sr m p1.length
      ·obtain⟨b2,o2,rfl,u1,u2⟩:=aM.out m hmk;(obtain⟨k1,k2⟩:=F p1[m] (SH hmk);have u1:=A.cell u1;have u2:=A.cell u2;have a:dR (p1.take m) p1[m]=if !aY p1[m].1 1 3|| !aY p1[m].2 0 p1[m].1.size then 3 else 0:=rfl);obtain⟨r,X⟩:=ex (p1[m]);rw[<-X]at u1 u2 k1 k2 a;obtain⟨r0,r1⟩:=r;simp only[]at u1 u2 k1 k2 a;have qa:=λwx=>mF L r0 1 3 wx (by omega);have qb:=λwx=>mF L r1 0 r0.size wx (by omega);obtain⟨z1,J⟩:=ex (aY r0 1 3);obtain⟨z2,S⟩:=ex (aY r1 0 r0.size);simp only[<-J]at qa a;simp only[<-S]at qb a;have O:Hid _:=X;have aa:Hid _:=a;have S2:Hid _:=ae.alloc wr (.cells #[.string r0,.string r1] 51);have B2:Hid _:=n.alloc n.size (.cells #[.string r0,.string r1] 51);clear J S X a A n;have ak:∀{f:Int},dR (p1.take m) (r0,r1)=f->f≠0->ep de [] l=f:=λQ F=>T.out (af.out.trans (iS hmk Z.out (by rw[<-O.out];exact Q) F)) F;have W:Hid _:=@ak;have a1:Hid (dR (p1.take m) (r0,r1)=0->∀i (_:i<m+1) (h':i<p1.length),dR (p1.take i) p1[i]=0):=λh=>iU Z.out hmk (by rw[<-O.out];exact h);clear ak;cases z1 with|false=>have B:=W.out (aa.out.trans rfl:_=(3:Int)) (by decide);have HV:Hid _:=B;clear B;go_wp2_with (first|(go_at_call 61;refine(qa _).mono ?_;rintro e w' ⟨rfl,u⟩;rw[u];clear u));go_ret;exact⟨by rw[HV.out];rfl,B2.out⟩|true=>cases z2 with|false=>have B:=W.out (aa.out.trans rfl:_=(3:Int)) (by decide);have HV:Hid _:=B;clear B;go_wp2_with (first|(go_at_call 61;first|(refine(qa _).mono ?_;rintro e w' ⟨rfl,u⟩;rw[u];clear u)|(refine(qb _).mono ?_;rintro e w' ⟨rfl,u⟩;rw[u];clear u)));go_ret;exact⟨by rw[HV.out];rfl,B2.out⟩|true=>have B:=a1.out (aa.out.trans rfl);have HV:Hid _:=B;clear B;go_wp2_with (first|(go_at_call 61;first|(refine(qa _).mono ?_;rintro e w' ⟨rfl,u⟩;rw[u];clear u)|(refine(qb _).mono ?_;rintro e w' ⟨rfl,u⟩;rw[u];clear u)));exact⟨⟨m+1,by omega,by go_num,HV.out,ag.out.1.trans S2.out,B2.out⟩,by simp[intOf];omega⟩
      (have a6:m=p1.length:=by omega);subst a6;have B:=HG.out (af.out.trans (iT λi h=>Z.out i h h));have HV:Hid _:=B;clear B A n;go_wp2;exact⟨⟨j+1,by omega,by go_num,HV.out,ag.out.2⟩,by simp[intOf];omega⟩
  go_wp2;go_ret;exact⟨by rw[iT λj h=>HF.out j (by omega) h];rfl,HB.out⟩
end Go.Proofs
namespace Go.Proofs
open Go.Tm Go.RowKit
section
variable (fs:Array Func)
def iG(t):(Qs fs).fieldsOf t=Tryz.prog.fieldsOf t:=by unfold Program.fieldsOf;rw[aI]
def NM{t}(h:Tryz.prog.eqGuardType Tryz.prog.depth t=false):(Qs fs).eqGuardType (Qs fs).depth t=false:=by rw[lZ,show(Qs fs).depth=Tryz.prog.depth from rfl];exact h
def qU{t}(h:Tryz.prog.stoodInHeld t=false):(Qs fs).stoodInHeld t=false:=by rw[ew];exact h
def nJ{t l}(h:Tryz.prog.underlying t=some (.struct l)):(Qs fs).underlying t=some (.struct ((Qs fs).fieldsOf t)):=by rw[iG,aI];unfold Program.fieldsOf;rw[h]
def uV:Tryz.prog.eqGuardType Tryz.prog.depth 86=false:=by kernel_rfl
def Hl:Tryz.prog.stoodInHeld 86=false:=by kernel_rfl
def NN:Tryz.prog.eqGuardType Tryz.prog.depth 66=false:=by kernel_rfl
def NO:Tryz.prog.stoodInHeld 66=false:=by kernel_rfl
def NP:Tryz.prog.eqGuardType Tryz.prog.depth 96=false:=by kernel_rfl
def NR:Tryz.prog.stoodInHeld 96=false:=by kernel_rfl
def CI(a b c x y z w):(binOp .eql 86 (.agg #[.int .i64 a,.int .i64 b,.int .i64 c]) (.agg #[.int .i64 x,.int .i64 y,.int .i64 z])).run (Qs fs) w=.ok (.bool (decide (a=x/\b=y/\c=z))) w:=by rw[run_eql_struct,run_equalIn_struct w _ 86 _ _ (nJ fs Tryz.underlying86) (qU fs Hl),iG,Program.fieldsOf,Tryz.underlying86];simp[go_sem];by_cases d:a=x<;>by_cases e:b=y<;>by_cases f:c=z<;>simp[d,e,f]
def y9(a b c x y z w):(binOp .neq 86 (.agg #[.int .i64 a,.int .i64 b,.int .i64 c]) (.agg #[.int .i64 x,.int .i64 y,.int .i64 z])).run (Qs fs) w=.ok (.bool (!decide (a=x/\b=y/\c=z))) w:=by rw[run_neq_struct,run_equalIn_struct w _ 86 _ _ (nJ fs Tryz.underlying86) (qU fs Hl),iG,Program.fieldsOf,Tryz.underlying86];simp[go_sem];by_cases d:a=x<;>by_cases e:b=y<;>by_cases f:c=z<;>simp[d,e,f]
def IJ(a b c x y z w):(binOp .neq 66 (.agg #[.int .i64 a,.int .i64 b,.int .i64 c]) (.agg #[.int .i64 x,.int .i64 y,.int .i64 z])).run (Qs fs) w=.ok (.bool (!decide (a=x/\b=y/\c=z))) w:=by rw[run_neq_struct,run_equalIn_struct w _ 66 _ _ (nJ fs Tryz.underlying66) (qU fs NO),iG,Program.fieldsOf,Tryz.underlying66];simp[go_sem];by_cases d:a=x<;>by_cases e:b=y<;>by_cases f:c=z<;>simp[d,e,f]
def IK(a b c x y z w):(binOp .neq 96 (.agg #[.int .i64 a,.int .i64 b,.int .u8 c]) (.agg #[.int .i64 x,.int .i64 y,.int .u8 z])).run (Qs fs) w=.ok (.bool (!decide (a=x/\b=y/\c=z))) w:=by rw[run_neq_struct,run_equalIn_struct w _ 96 _ _ (nJ fs Tryz.underlying96) (qU fs NR),iG,Program.fieldsOf,Tryz.underlying96];simp[go_sem];by_cases d:a=x<;>by_cases e:b=y<;>by_cases f:c=z<;>simp[d,e,f]
def iH{t}(h:Tryz.prog.eqGuardType Tryz.prog.depth t=false)(a x y xs b w):(eqGuard a t x y (.agg xs) (.agg b)).run (Qs fs) w=.ok () w:=run_eqGuard_agg w a t x y xs b (NM fs h)
end
def Ln{s:Array Bool}{i k}(h:(s.setIfInBounds i true).getD k false=true):k=i\/s.getD k false=true:=by by_cases e:k=i;exact .inl e;right;rw[Tw,SI (SN e)]at h;rw[Tw];exact h
def aK{s:Array Bool}{i k}(h:(s.setIfInBounds i true).getD k false=true)(a:k≠i):s.getD k false=true:=(Ln h).resolve_left a
section
variable {P:Program} {md:Region.Mode} {ops:Array Oper} {Q:Exit->Act->World->Prop} {I:Array Bool->Act->World->Prop}
theorem kg(c:∀s a w i,I s a w->i∈Region.ready md ops s->wpOp P ops Q i (λl w'=>I (s.setIfInBounds i true) l w') a w) (d:∀s a w,I s a w->Region.ready md ops s=[]->Q .normal a w):∀(f) (s) (a) (w),s.toList.count false<=f->I s a w->wpAny P md ops Q f s a w
 |0,s,a,w,r,h=>by
  have o:Region.ready md ops s=[]:=by
   rw[List.eq_nil_iff_forall_not_mem];intro i k;obtain⟨e,_⟩:=mem_ready.1 k;have:false∈s.toList:=by
    rw[Tw]at e;cases m:s[i]? with
    |none=>rw[m]at e;cases e
    |some b=>rw[m]at e;have n:b=false:=e;subst n;exact TL (by rw[TA];exact m)
   have:=List.count_pos_iff.2 this;omega
  exact⟨o,d s a w h o⟩
 |f+1,s,a,w,r,h=>by
  refine⟨d s a w h,λi k=>wpOp_mono (λl w' t=>kg c d f _ l w' ?_ t) (c s a w i h k)⟩;obtain⟨e,_⟩:=mem_ready.1 k;rw[Tw]at e;have g:i<s.size:=by
   obtain h|h:=Sr i s.size
   ·exact h
   ·rw[T1 h]at e;cases e
  rw[SV g]at e;have n:s[i]=false:=e;have p:i<s.toList.length:=by simpa using g
  have j:s.toList[i]=false:=by rw[Vy];exact n
  rw[Wb];have q:=List.count_set (a:=true) (b:=false) p;rw[j]at q;have u:0<s.toList.count false:=List.count_pos_iff.2 (j▸SH p);simp only[beq_self_eq_true,SJ,TK,show(true==false)=false from rfl,SS,SO]at q;omega
def Q2(ops:Array Oper):Bool:=(List.range ops.size).all λk=>match ops[k]? with
 |some o=>o.after.all λe=>decide (e.on<k)
 |none=>true
theorem C8{s}(a:s.size=ops.size)(d:Q2 ops=true)(f:Region.ready md ops s=[]):∀(n k),k<n->k<ops.size->s.getD k false=true
 |0,k,h,_=>absurd h (SL _)
 |n+1,k,h,b=>by
  cases g:s.getD k false with
  |true=>rfl
  |false=>
   exfalso;have c:k<s.size:=by omega
   have l:s.getD k true=false:=by rw[Tw,SV c]at g⊢;exact g
   have i:k∈Region.ready md ops s:=mem_ready.2 ⟨l,ops[k],SV b,λe m _=>by have j:=Tg.1 d k (Vl.2 b);rw[SV b]at j;have o:=Um.1 j e m;have p:e.on<k:=Tf o;exact C8 a d f n e.on (by omega) (by omega)⟩
   rw[f]at i;cases i
end
def bg{s:Array Bool}{i k}(h:s.getD k false=true):(s.setIfInBounds i true).getD k false=true:=by rw[Tw]at h⊢;by_cases e:k=i;subst e;(have a:k<s.size:=by obtain h'|h':=Sr k s.size;exact h';rw[T1 h']at h;cases h);rw[VM a];rfl;rw[SI (SN e)];exact h
def fE{s:Array Bool}{k}(h:s.getD k true=false):s.getD k false≠true:=by rw[Tw]at h⊢;cases a:s[k]? with|none=>rw[a]at h;cases h|some b=>rw[a]at h;have:b=false:=h;subst this;simp
def fN(w1 W:World)(ty:TypeId)(X:Nat):Prop:=w1.heap.size<=X/\∃c,W.heap[X]? =some (.cells #[.string c] ty (0,0))
def fN.new{w1 W:World}{ty}(h:w1.heap.size<=W.heap.size)(c):fN w1 (W.alloc (.cells #[.string c] ty)) ty W.heap.size:=⟨h,c,To⟩
def fN.stays{w1 W a ty X}(h:fN w1 W ty X)(b:ae W a):fN w1 a ty X:=⟨h.1,h.2.elim λc d=>⟨c,b _ _ _ _ d⟩⟩
def fN.lt{w1 W ty X}(h:fN w1 W ty X):X<W.heap.size:=h.2.elim λc a=>(Sw.1 a).1
def fN.cell{w1 W ty X}(h:fN w1 W ty X):∃v,W.cell? ⟨X,0,none⟩=some (.string v):=h.2.elim λc a=>⟨c,cell_of_heap a 0 _ rfl⟩
def fN.frozen{w1 W ty X}(h:fN w1 W ty X):W.frozen? ⟨X,0,none⟩=false:=h.2.elim λc a=>frozen_of_heap a 0
def fN.set{w1 W ty X}(h:fN w1 W ty X){v}:fN w1 (W.setCell ⟨X,0,none⟩ (.string v)) ty X:=by (obtain⟨a,c,b⟩:=h;refine⟨a,v,?_⟩;have d:(W.heap.modify X λo=>match o with| .cells c e F=>.cells (c.setIfInBounds 0 (.string v)) e F|o=>o)[X]? =some (.cells #[.string v] ty (0,0)):=by rw[Tv,b];simp);exact d
def fN.other{w1 W ty X Y}(h:fN w1 W ty Y)(a:Y≠X){v}:fN w1 (W.setCell ⟨X,0,none⟩ v) ty Y:=⟨h.1,h.2.elim λc b=>⟨c,(Below.heap_setCell W ⟨X,0,none⟩ v Y a).trans b⟩⟩
end Go.Proofs
namespace Go.Proofs
open Go.Shelf Go.Tm
def sR:Go.Shelf.Ren:=⟨λ|150=>135|153=>165|152=>175|226=>176|227=>177|228=>178|137=>193|119=>194|224=>195|225=>196|217=>207|266=>211|155=>139|154=>166|138=>179|165=>180|143=>181|166=>94|197=>182|169=>95|195=>197|218=>198|240=>134|241=>199|219=>200|260=>201|276=>164|277=>208|267=>209|314=>212|n=>n,λ|117=>241|116=>240|46=>215|124=>257|72=>153|76=>158|105=>243|70=>151|37=>120|75=>157|127=>203|164=>210|119=>265|139=>268|138=>267|146=>272|51=>193|80=>160|n=>n,λ|1=>2|n=>n⟩
def jD{fs:Array Func}(L:bP fs):Lays.n150 (Qs fs) sR/\Lays.n138 (Qs fs) sR/\Lays.n165 (Qs fs) sR:=by
 refine⟨?_,?_,?_⟩<;>constructor;all_goals first
  |(intro w;first|with_reducible refine(Ao _ _ _ w).trans ?_|with_reducible refine(vn _ _ _ w).trans ?_|with_reducible refine(je _ _ _ w).trans ?_);rfl
  |(with_reducible refine(aI _ _ _).trans ?_);kernel_rfl
  |exact(L.1 _ (by decide) (by decide)).trans (by kernel_rfl)
  |kernel_rfl
end Go.Proofs
namespace Go.Proofs
open Go.Tm
variable {fs:Array Func} (L:bP fs)
def dM(b:Bool)(f:Int)(w:World):Calls (Qs fs) 52 #[.bool b,.int .i64 f] w λe w'=>e=.returned (.int .i64 (if b then f else 0))/\w'=w:=by go_enter (n52 L),Tryz.ntmps52;go_wp2;all_goals (go_ret;simp_all)
def eo:List Int->Int
 | []=>0
 |f::l=>if f≠0 then f else eo l
def rf(a:List Int)(k)(b:k<a.length):eo (a.drop k)=if a.getD k 0≠0 then a.getD k 0 else eo (a.drop (k+1)):=by rw[Ux b];simp[eo,UW,Td b]
open Go.RowKit in
def uW(b f c:Nat)(zs:List Int)(w:World)(n:zs.length<=9223372036854775807)(l:∀k,k<zs.length->w.cell? ⟨b,f+k,none⟩=some (.int .i64 (zs.getD k 0))):Calls (Qs fs) 51 #[.slice (some ⟨b,f,none⟩) zs.length c] w λe w'=>e=.returned (.int .i64 (eo zs))/\w'=w:=by
 go_enter (n51 L),Tryz.ntmps51;go_wp2
 go_loop [7] (λi=>∃k:Nat,k<=zs.length/\i=.int .i64 k/\eo zs=eo (zs.drop k)) (λi=>zs.length-(intOf i).toNat)
 case atStart=>exact⟨0,SE _,rfl,rfl⟩
 case round=>
  obtain⟨k,o,rfl,g⟩:=hrel;have j:k<zs.length->w.cell? ⟨b,f+k,none⟩=some (.int .i64 (zs.getD k 0)):=λh=>l k h;go_wp2
  ·(have a:k<zs.length:=by assumption);(have d:(zs[k]!=0)=true:=by assumption);(go_ret;refine⟨?_,rfl⟩;try rw[g]);rw[rf zs k a];simp only[Ub]at d;simp[UW,Td a,d]
  have a:k<zs.length:=by assumption
  have d:(zs[k]!=0)=false:=by assumption
  refine⟨⟨k+1,by omega,by go_num,?_⟩,by simp[intOf];omega⟩;rw[g,rf zs k a];simp only[bne_eq_false_iff_eq]at d;simp[UW,Td a,d];have m:¬k<zs.length:=by assumption
  go_ret;refine⟨?_,rfl⟩;try rw[g]
  rw[Tc (by omega)];rfl
end Go.Proofs
namespace Go.Proofs
def oF(X Y:Nat->Nat)(k:Nat):Nat:=((List.range k).map λn=>min (X n) (Y n)).sum
def kO(X Y k):oF X Y (k+1)=oF X Y k+min (X k) (Y k):=by unfold oF;rw[UQ,Up,List.sum_append];simp
theorem oG{X Y Z}:∀{k},(∀n,n<k->Y n=Z n)->oF X Y k=oF X Z k
 |0,_=>rfl
 |k+1,h=>by rw[kO,kO,oG λn a=>h n (by omega),h k (by omega)]
theorem xK(X Y h):∀k,h<k->oF X (λn=>if n=h then Y n+1 else Y n) k=oF X Y k+if Y h<X h then 1 else 0
 |0,a=>by omega
 |k+1,a=>by
  rw[kO,kO];by_cases e:h=k
  ·subst e
   rw[oG (Z:=Y) λn b=>Sm (by omega)];simp only[SJ];split<;>omega
  ·rw[xK X Y h k (by omega),Sm (SN e)]
   omega
theorem xL(X):∀k,oF X (λ_=>0) k=0
 |0=>rfl
 |k+1=>by rw[kO,xL X k];simp
def G4(a b):(b.filter λn=>a.contains n).length+(bt b a).length=b.length:=by unfold bt;induction b with|nil=>rfl|cons x b c=>rw[TS,TS];cases a.contains x<;>simp only[TY,UD,SJ,SS,SO,Ss]<;>omega
def B6{a b:List Int}(c:a.Nodup)(d:b.Nodup):(a.filter λn=>b.contains n).length=(b.filter λn=>a.contains n).length:=by (have h:(a.filter λn=>b.contains n).Perm (b.filter λn=>a.contains n):=(Wj (c.filter _) (d.filter _)).2 λx=>by rw[Uy,Uy];simp[and_comm]);exact h.length_eq
def Im(x y k):ni x y k=oF (λn=>aL x n) (λn=>aL y n) k:=rfl
def oH(l x n):aL (l++[x]) n=aL l n+if x/100=n then 1 else 0:=by unfold aL;rw[Uw,SQ];congr 1;by_cases h:x/100=n;rw[Sn h,TS];simp[h];rw[Sm h,TS];simp[h]
abbrev EK:=Bool×Int
def bump(f:EK->Nat)(p:EK):EK->Nat:=λq=>if q=p then f p+1 else f q
def kP(l:List Int)(n:Int):Nat:=(l.filter λx=>x==n).length
def uu(l x n):kP (l++[x]) n=kP l n+if x=n then 1 else 0:=by unfold kP;rw[Uw,SQ];congr 1;by_cases h:x=n;rw[Sn h,TS];simp[h];rw[Sm h,TS];simp[h]
def xM(l n):0<kP l n↔l.contains n=true:=by unfold kP;rw[List.length_pos_iff_exists_mem];simp[Uy]
def Af(l n):kP l n<=l.length:=TF _ _
def rU(l n):aL l n<=l.length:=TF _ _
def nc(l m x):bt (l++[x]) m=if m.contains x then bt l m else bt l m++[x]:=by unfold bt;rw[Uw,TS,List.filter_nil];cases m.contains x<;>simp
def mB(a b:List Int)(j:Nat):EK->Nat:=λp=>if p.1 then kP (a.take j) p.2 else aL (bt (a.take j) b) p.2
def Kf(a b):mB a b 0=λ_=>0:=by funext p;unfold mB;rw[Tb];split<;>rfl
def iR{a:Type}(l:List a)(j)(h:j<l.length):l.take (j+1)=l.take j++[l[j]]:=by rw[List.take_add_one,Td h];rfl
def OP(a b j)(h:j<a.length)(c:b.contains a[j]=true):mB a b (j+1)=bump (mB a b j) (true,a[j]):=by funext p;obtain⟨t,n⟩:=p;unfold bump mB;rw[iR a j h,nc,Sn c];cases t with|true=>simp only[SJ,uu];by_cases e:n=a[j];subst e;simp;rw[Sm (SN e),Sm (λh=>e (UH h).2)];rfl|false=>simp
def MT(a b j)(h:j<a.length)(c:b.contains a[j]=false):mB a b (j+1)=bump (bump (mB a b j) (true,a[j])) (false,a[j]/100):=by (have d:bt (a.take (j+1)) b=bt (a.take j) b++[a[j]]:=by rw[iR a j h,nc,Sm (by rw[c];exact UM)]);(have f:∀n,kP (a.take (j+1)) n=kP (a.take j) n+if a[j]=n then 1 else 0:=λn=>by rw[iR a j h,uu]);funext p;obtain⟨t,n⟩:=p;unfold bump mB;rw[d];cases t with|true=>simp only[SJ,f];by_cases e:n=a[j];subst e;simp;rw[Sm (SN e),Sm (λh=>by cases h),Sm (λh=>e (UH h).2)];rfl|false=>simp only[SS,SO,oH];by_cases e:n=a[j]/100;subst e;simp;rw[Sm (SN e),Sm (λh=>e (UH h).2)];simp
def nz(a b:List Int)(j:Nat):EK->Nat:=λp=>if p.1 then kP a p.2 else aL (bt a b) p.2-min (aL (bt a b) p.2) (aL (bt (b.take j) a) p.2)
def dZ(a b:List Int)(j:Nat):Nat:=((b.take j).filter λn=>a.contains n).length
def ir(a b:List Int)(j:Nat):Nat:=ni (bt a b) (bt (b.take j) a) 10
def Kg(a b):nz a b 0=mB a b a.length:=by funext p;unfold nz mB;rw[Tb,Uo];have:aL (bt [] a) p.2=0:=rfl;rw[this];simp
def OQ(a b j)(h:j<b.length)(e:0<nz a b j (true,b[j])):nz a b (j+1)=nz a b j/\dZ a b (j+1)=dZ a b j+1/\ir a b (j+1)=ir a b j:=by (have c:=(xM a b[j]).1 e;have d:bt (b.take (j+1)) a=bt (b.take j) a:=by rw[iR b j h,nc,Sn c]);refine⟨?_,?_,?_⟩;unfold nz;rw[d];unfold dZ;rw[iR b j h,Uw,SQ,TS,Sn c];rfl;unfold ir;rw[d]
def Ag(f:EK->Nat)(p:EK):EK->Nat:=λq=>if q=p then f p-1 else f q
def MU(a b j)(h:j<b.length)(d:nz a b j (true,b[j])=0)(l:0<=b[j]/\b[j]<=999):dZ a b (j+1)=dZ a b j/\nz a b (j+1)=Ag (nz a b j) (false,b[j]/100)/\ir a b (j+1)=ir a b j+if 0<nz a b j (false,b[j]/100)then 1 else 0:=by (have c:¬a.contains b[j]=true:=λh=>by have:=(xM a b[j]).2 h;have d:kP a b[j]=0:=d;omega);(have f:bt (b.take (j+1)) a=bt (b.take j) a++[b[j]]:=by rw[iR b j h,nc,Sm c]);have g:=λn=>oH (bt (b.take j) a) b[j] n;refine⟨?_,?_,?_⟩;unfold dZ;rw[iR b j h,Uw,SQ,TS,Sm c];rfl;funext p;(obtain⟨t,n⟩:=p;unfold Ag nz;rw[f];cases t with|true=>simp|false=>simp only[SS,SO,g];by_cases e:n=b[j]/100;subst e;simp only[SJ];omega;rw[Sm (SN e),Sm (λh=>e (UH h).2),TK]);unfold ir;(rw[f,Im,Im];obtain⟨H,i⟩:∃H:Nat,(H:Int)=b[j]/100:=⟨(b[j]/100).toNat,by omega⟩);(have k:H<10:=by omega);(have e1:oF (λn=>aL (bt a b) n) (λn=>aL (bt (b.take j) a++[b[j]]) n) 10=oF (λn=>aL (bt a b) n) (λn=>if n=H then aL (bt (b.take j) a) n+1 else aL (bt (b.take j) a) n) 10:=by refine oG λn m=>?_;show aL _ _=_;rw[g,<-i];by_cases e:n=H;subst e;simp;rw[Sm e,Sm (by omega)];rfl);rw[e1,xK _ (λn=>aL (bt (b.take j) a) n) H 10 k];congr 1;unfold nz;simp only[SS,SO,<-i];by_cases e:aL (bt (b.take j) a) (H:Int)<aL (bt a b) (H:Int);rw[Sn e,Sn (by omega)];rw[Sm e,Sm (by omega)]
def EC(a b)(c:a≠[])(d:b≠[])(e:a.Nodup)(f:b.Nodup):bS a b=(100*(2*(dZ a b b.length:Int)+(ir a b b.length:Int)))/((a.length:Int)+(b.length:Int)):=by (rw[tM a b c d];have g:a.length-(bt a b).length=dZ a b b.length:=by unfold dZ;rw[Uo];have h:=G4 b a;have i:=B6 e f;omega);unfold ir;rw[g,Uo];simp
def xN(a b j):dZ a b j<=b.length:=Sq (TF _ _) (by rw[TH];omega)
def ED(a b j):ir a b j<=10*a.length:=Sq (Co _ _ _) (Nat.mul_le_mul_left _ (TF _ _))
def Io(a b j p):mB a b j p<=a.length:=by unfold mB;split;exact Sq (Af _ _) (by rw[TH];omega);exact Sq (rU _ _) (Sq (TF _ _) (by rw[TH];omega))
def Ip(a b j p):nz a b j p<=a.length:=by unfold nz;split;exact Af _ _;exact Sq (Nat.sub_le _ _) (Sq (rU _ _) (TF _ _))
end Go.Proofs
